/- That the code does what the models say (part 17). -/
import Derived.Test.YtkojogldchfkkaaGreatDoorScWk0
import Derived.Test.YtkojogldchfkkaaGreatDoorScWk1
import Derived.Test.YtkojogldchfkkaaGreatDoorScWk2
import Derived.Test.YtkojogldchfkkaaGreatDoorScWk3
import Derived.Test.YtkojogldchfkkaaGreatDoorScWk10
import Derived.Test.YtkojogldchfkkaaGreatDoorScWk11
import Derived.Test.YtkojogldchfkkaaGreatDoorScWk14
import Derived.Test.YtkojogldchfkkaaGreatDoorScWk15
import Derived.Test.YtkojogldchfkkaaGreatDoorScWk16
set_option linter.unusedSimpArgs false
set_option linter.unusedVariables false
open Go.Proofs Go.Shelf
open List
namespace Go.Proofs.YtkojogldchfkkaaGreatDoor
open Tryz
open Go.Vc Go.Md
set_option maxRecDepth 100000
set_option maxHeartbeats 4000000
theorem P3(m:List ae)(z:eA)(hm:BL m=some z):Does prog 102 [lm zf m] [] (fun r X=>r=pS z/\X=[]):=by
 unfold BL at hm
 refine dW 0 76 [.tmp 2] func102 fun B=>nA fun hA=>?_
 refine qS ?_;refine qS ?_;refine dC 0 5 rfl ?_;simp only[go_sem,simprocAttr]
 refine df fun K3 a0 ao=>?_
 obtain⟨ap,C,hm⟩:=zj hm
 have L:∀s,ap s=some z->K3 [(3,.ptr 0 0)] [.cells 154 [.np 0,.buf 1],.sb 5 s]:=by
  intro M hs;have hm:=C _ hs;clear hs
  try dsimp only at hm|-
  refine a0 _ _ ?_;obtain⟨aE,N,hm⟩:=zd hm;refine sO [0,1] (H8 M _ N) ?_;exact wR
 clear a0 C;refine qS ?_;refine Wp.block ?_;obtain⟨aF,O,hm⟩:=zl hm
 refine fL 7 m.length fun P=>?_
 refine Wp.forL (fun n s=>[(3,.ptr 0 0),(7,lm zf m),(8,pI (m.length:Int)),(9,pI (n:Int))]) (fun n s=>[.cells 154 [.np 0,.buf 1],.sb 5 s]) wF hm ?_;clear hm;intro n i aA hm
 try dsimp only at hm|-
 refine qS ?_
 refine lB zf hm P (fun h=>ao _ _ _ _ wF (L i (O _ h))) fun a1 aQ b aB aC aD D hm hA _ aq=>?_
 refine q6 ?_
 refine df fun ar E l=>?_
 obtain⟨au,F,hm⟩:=zj hm
 have c:∀s,au s=some z->ar [(3,.ptr 0 0),(7,lm zf m),(8,pI (m.length:Int)),(9,pI (n:Int))] [.cells 154 [.np 0,.buf 1],.sb 5 s]:=by
  intro Q hs;have hm:=F _ hs;clear hs
  try dsimp only at hm|-
  refine E _ _ ?_;obtain⟨aw,a2,hm⟩:=zd hm;refine eO [0,1] (SG 10 Q _ a2) ?_;refine aq _ _ (r6 ?_);exact wN aw a1 (D _ hm)
 clear E F;refine q6 ?_;refine Wp.block (q6 ?_)
 refine cN hm (fun hm=>?_) fun hm=>?_
 .refine q6 ?_
  refine df fun ax G I=>?_
  obtain⟨ay,J,hm⟩:=zj hm
  have p:∀s,ay s=some z->ax [(3,.ptr 0 0),(5,.ptr 2 0),(6,pS s),(7,lm zf m),(8,pI (m.length:Int)),(9,pI (n:Int))] [.cells 154 [.np 0,.buf 1],.sb 5 i,.cells 50 [pI b.k,pS b.g.a,pS b.g.q,pB b.g.r,pS b.o.e,pS b.o.Value,pS b.f.j,pS b.f.a,pB b.f.u,pB b.f.t]]:=by
   intro v hs;have hm:=J _ hs;clear hs
   try dsimp only at hm|-
   refine G _ _ ?_;obtain⟨aG,hm⟩:=zh hm;obtain⟨aH,hm⟩:=zh hm;obtain⟨az,a3,hm⟩:=zd hm;obtain⟨aI,hm⟩:=zh hm;obtain⟨a4,R,hm⟩:=zd hm
   refine dE (pl [(0,none),(1,none),(2,none),(3,none),(4,none),(5,none),(6,none),(7,none),(8,none),(9,none),(10,none),(11,some [])]) fun _ a5=>?_
   refine Dr.callF (av:=?av21) (g:=true) (o:=?o21) (fun hg=>Mz b.g.q _ a3) (by simp only[go_sem,simprocAttr,hA];exact Is.mk) (by simp only[go_sem,simprocAttr,hA];exact Is.mk) (by simp only[go_sem,simprocAttr,hA];exact Is.mk) (by simp only[go_sem,simprocAttr,hA];exact Is.mk) (by simp only[go_sem,simprocAttr,hA]) (by simp only[go_sem,simprocAttr,hA];exact Is.mk) ?cont21;simp only[go_sem,simprocAttr,hA]
   try refine⟨sL,?_⟩
   refine dj (dT (av:=?av22) (o:=?o22) 1 [0,1] (zk (((v++b.g.a)++([32]:eA))++az) i _ R) (by simp only[go_sem,simprocAttr,hA];exact Is.mk) (by simp only[go_sem,simprocAttr,hA];exact Is.mk) (by simp only[go_sem,simprocAttr,hA];exact Is.mk) (by simp only[go_sem,simprocAttr,hA];exact Is.mk) (by simp only[go_sem,simprocAttr,hA];first|exact Is.mk|(simp only[map_append,map_cons,map_nil,fl,zE,fv,eD,zf,zc,zK,zb,za];exact Is.mk)) (by simp only[go_sem,simprocAttr,hA]) (by simp only[go_sem,simprocAttr,hA]) (by simp only[go_sem,simprocAttr,hA]) (by simp only[go_sem,simprocAttr,hA]) ?cont22);simp only[go_sem,simprocAttr,hA];refine kA a5 ?_;refine l _ _ _ _ ?_ (c a4.2 hm);simp only[go_sem,simprocAttr,hA]
   try exact gE
  clear G J;refine q6 ?_
  refine cN hm (fun hm=>?_) fun hm=>?_
  .refine r6 ?_
   refine I _ _ _ _ ?_ (p ([112,117,116,114,117,110,32]:eA) hm);simp only[go_sem,simprocAttr,hA]
   try exact gE
  .refine Wp.skip (I _ _ _ _ ?_ (p ([112,117,116,32]:eA) hm))
   simp only[go_sem,simprocAttr,hA]
   try exact gE
 .refine q6 ?_
  refine cN hm (fun hm=>?_) fun hm=>?_
  .obtain⟨aJ,hm⟩:=zh hm
   obtain⟨a6,S,hm⟩:=zd hm;refine eO [0,1] (zk (([114,101,109,111,118,101,32]:eA)++b.g.a) i _ S) ?_;refine l _ _ _ _ ?_ (c a6.2 hm);simp only[go_sem,simprocAttr,hA]
   try exact gE
  .refine q6 ?_
   refine cN hm (fun hm=>?_) fun hm=>?_
   .obtain⟨aK,hm⟩:=zh hm
    obtain⟨aL,hm⟩:=zh hm;obtain⟨a7,T,hm⟩:=zd hm;obtain⟨aM,hm⟩:=zh hm;obtain⟨a8,U,hm⟩:=zd hm
    refine dE (pl [(0,none),(1,none),(2,none),(3,none),(4,none),(5,none),(6,none),(7,none),(8,none),(9,none),(10,some [])]) fun _ a9=>?_
    refine Dr.callF (av:=?av33) (g:=true) (o:=?o33) (fun hg=>Mz b.o.Value _ T) (by simp only[go_sem,simprocAttr,hA];exact Is.mk) (by simp only[go_sem,simprocAttr,hA];exact Is.mk) (by simp only[go_sem,simprocAttr,hA];exact Is.mk) (by simp only[go_sem,simprocAttr,hA];exact Is.mk) (by simp only[go_sem,simprocAttr,hA]) (by simp only[go_sem,simprocAttr,hA];exact Is.mk) ?cont33;simp only[go_sem,simprocAttr,hA]
    try refine⟨sL,?_⟩
    refine dj (dT (av:=?av34) (o:=?o34) 1 [0,1] (zk (((([115,101,116,32]:eA)++b.o.e)++([32]:eA))++a7) i _ U) (by simp only[go_sem,simprocAttr,hA];exact Is.mk) (by simp only[go_sem,simprocAttr,hA];exact Is.mk) (by simp only[go_sem,simprocAttr,hA];exact Is.mk) (by simp only[go_sem,simprocAttr,hA];exact Is.mk) (by simp only[go_sem,simprocAttr,hA];first|exact Is.mk|(simp only[map_append,map_cons,map_nil,fl,zE,fv,eD,zf,zc,zK,zb,za];exact Is.mk)) (by simp only[go_sem,simprocAttr,hA]) (by simp only[go_sem,simprocAttr,hA]) (by simp only[go_sem,simprocAttr,hA]) (by simp only[go_sem,simprocAttr,hA]) ?cont34);simp only[go_sem,simprocAttr,hA];refine kA a9 ?_;refine l _ _ _ _ ?_ (c a8.2 hm);simp only[go_sem,simprocAttr,hA]
    try exact gE
   .refine q6 ?_
    refine cN hm (fun hm=>?_) fun hm=>?_
    .obtain⟨aN,hm⟩:=zh hm
     obtain⟨ac,V,hm⟩:=zd hm;refine eO [0,1] (zk (([117,110,115,101,116,32]:eA)++b.o.e) i _ V) ?_;refine l _ _ _ _ ?_ (c ac.2 hm);simp only[go_sem,simprocAttr,hA]
     try exact gE
    .refine q6 ?_
     refine cN hm (fun hm=>?_) fun hm=>?_
     .obtain⟨ad,W,hm⟩:=zd hm
      obtain⟨aO,hm⟩:=zh hm;obtain⟨af,Y,hm⟩:=zd hm
      refine rE fun _ ag=>?_
      refine cX (fun hg=>RB b.f _ W) ?_;refine cO [0,1] (zk (([115,101,114,118,105,99,101,32]:eA)++ad) i _ Y) (ag _ _ ?_);refine l _ _ _ _ ?_ (c af.2 hm);simp only[go_sem,simprocAttr,hA]
      try exact gE
     .refine q6 ?_
      refine cN hm (fun hm=>?_) fun hm=>?_
      .obtain⟨aP,hm⟩:=zh hm
       obtain⟨an,Z,hm⟩:=zd hm;refine eO [0,1] (zk (([100,114,111,112,32]:eA)++b.f.j) i _ Z) ?_;refine l _ _ _ _ ?_ (c an.2 hm);simp only[go_sem,simprocAttr,hA]
       try exact gE
      .refine Wp.skip (l _ _ _ _ ?_ (c i hm))
       simp only[go_sem,simprocAttr,hA]
       try exact gE
theorem P4(b:aj)(z:eA×Int)(hm:yb b=some z):Does prog 53 [.agg [pS b.v,lm zf b.y,lm zf b.z]] [] (fun r X=>r=.tup [pS z.1,pI z.2]/\X=[]):=by
 unfold yb at hm
 refine dW 0 56 [.tmp 2,.tmp 3] func53 fun B=>nA fun hA=>?_
 refine qS ?_
 refine df fun _ t _=>?_
 obtain⟨Z,f,hm⟩:=zd hm;refine sX (fun hg=>Fu b.v _ f) ?_
 refine cR hm fun hm=>?_
 refine Wp.skip (t _ _ (df fun _ u _=>?_));obtain⟨C,g,hm⟩:=zd hm;obtain⟨D,i,hm⟩:=zd hm;obtain⟨a0,j,hm⟩:=zd hm
 refine dS (pl [(0,none),(1,none),(2,none),(3,none),(4,none),(5,none),(6,some []),(7,none),(8,none)]) fun _ E=>?_
 refine cD (fun hg=>P2 b.y _ g) ?_;refine cD (fun hg=>P2 b.z _ i) ?_;refine cD (fun hg=>Bu [C,D] _ j) (E _ _ ?_);refine qS ?_
 refine cR hm fun hm=>?_
 refine Wp.skip (u _ _ ?_);obtain⟨L,hm⟩:=zh hm;obtain⟨M,hm⟩:=zh hm;obtain⟨F,k,hm⟩:=zd hm;obtain⟨N,hm⟩:=zh hm;obtain⟨O,hm⟩:=zh hm;obtain⟨G,l,hm⟩:=zd hm;obtain⟨P,hm⟩:=zh hm;obtain⟨Q,hm⟩:=zh hm;obtain⟨I,m,hm⟩:=zd hm;obtain⟨R,hm⟩:=zh hm;obtain⟨S,hm⟩:=zh hm;obtain⟨J,n,hm⟩:=zd hm;obtain⟨T,hm⟩:=zh hm
 refine dS (pl [(0,none),(1,none),(2,none),(3,none),(4,none),(5,none),(6,none),(7,none),(8,none),(9,none),(10,none),(11,none),(12,none),(13,none),(14,none),(15,none),(16,none),(17,none),(18,none),(19,none),(20,none),(21,none),(22,none),(23,none),(24,none),(25,none)]) fun _ o=>?_
 refine cD (fun hg=>KO (b.y.length:Int) _ k) ?_;refine cD (fun hg=>P3 b.y _ l) ?_;refine cD (fun hg=>KO (b.z.length:Int) _ m) ?_;refine cD (fun hg=>P3 b.z _ n) (o _ _ ?_);obtain⟨U,c,hm⟩:=zd hm;obtain⟨V,hm⟩:=zh hm;obtain⟨W,hm⟩:=zh hm;obtain⟨Y,hm⟩:=zh hm;refine sX (fun hg=>OH (((((((((([106,111,117,114,110,97,108,32]:eA)++b.v)++([10,99,104,97,110,103,101,115,32]:eA))++F)++([10]:eA))++G)++([111,108,100,32]:eA))++I)++([10]:eA))++J) _ c) ?_
 refine df fun _ p _=>qS ?_
 refine cR hm fun hm=>?_
 exact Wp.skip (p _ _ (wQ))
theorem Rz(l:eA)(z:aj×Int)(hm:BK l=some z):Does prog 99 [pS l] [] (fun r X=>r=.tup [.agg [pS z.1.v,lm zf z.1.y,lm zf z.1.z],pI z.2]/\X=[]):=by
 unfold BK at hm
 refine dW 0 130 [.cell 2 83,.tmp 3] func99 fun B=>nA fun hA=>?_
 refine qS ?_;refine qS ?_;obtain⟨c,S,hm⟩:=zd hm;refine sF (QP l _ S) ?_
 refine df fun _ a7 _=>qS ?_
 refine cN hm (fun hm=>?_) fun hm=>?_
 .obtain⟨an,u,hm⟩:=zd hm
  refine sF (C2 8 _ u) ?_;exact wR
 .refine Wp.skip (a7 _ _ (qS ?_))
  obtain⟨O,ac,b,ad,hm⟩:=fV hm;replace b:∀d,(List.map eD c.1).getD 0 d=eD O:=b eD;obtain⟨P,T,hm⟩:=zd hm;have hA:=b;refine sX (fun hg=>KW O ([106,111,117,114,110,97,108,32]:eA) _ T) ?_
  refine df fun _ U _=>q6 ?_
  refine cN hm (fun hm=>?_) fun hm=>?_
  .obtain⟨ao,C,hm⟩:=zd hm
   refine sF (C2 8 _ C) ?_;exact wR
  .refine Wp.skip (U _ _ (q6 ?_))
   refine q6 ?_;refine q6 ?_;refine q6 ?_;obtain⟨j,V,hm⟩:=zd hm;refine sO [3,1] (Qf ([99,104,97,110,103,101,115]:eA) 1 c.1 _ V) ?_
   refine df fun a8 n o=>?_
   obtain⟨a9,p,hm⟩:=zj hm
   have k:∀s,a9 s=some z->a8 [(0,pS l),(2,.ptr 0 0),(4,.fn 136 []),(5,.ptr 1 0),(7,.ptr 2 0),(10,.ptr 3 0),(12,pB j.2.1),(13,pB s.1)] [.cells 83 [pS ([]),.nils,.nils],.cells 114 [lm eD c.1],.cells 83 [pS P.1,lm zf j.1,lm zf s.2.1],.cells 3 [pI s.2.2]]:=by
    intro s hs;have hm:=p _ hs;clear hs;obtain⟨ap,m,f⟩:=s
    try dsimp only at hm|-
    refine n _ _ (df fun _ W _=>q6 ?_)
    refine cN hm (fun hm=>?_) fun hm=>?_
    .obtain⟨aq,D,hm⟩:=zd hm
     refine sF (C2 8 _ D) ?_;exact wR
    .refine Wp.skip (W _ _ ?_)
     obtain⟨Q,af,i,ag,hm⟩:=fV hm;replace i:∀d,(List.map eD c.1).getD f.toNat d=eD Q:=i eD;obtain⟨R,Y,hm⟩:=zd hm;have hA:=And.intro b i;refine sX (fun hg=>KW Q ([115,117,109,32]:eA) _ Y) ?_
     refine df fun _ Z _=>?_
     obtain⟨ar,E,hm⟩:=zx hm;refine sX (g:=!(!R.2)) (fun hg=>ql R.1 _ (E hg)) ?_
     refine cN hm (fun hm=>?_) fun hm=>?_
     .obtain⟨au,F,hm⟩:=zd hm
      refine sF (C2 8 _ F) ?_;exact wR
     .refine Wp.skip (Z _ _ (df fun _ a0 _=>?_))
      obtain⟨av,hm⟩:=zh hm;obtain⟨a1,G,hm⟩:=zd hm;obtain⟨aw,hm⟩:=zh hm;obtain⟨ax,I,hm⟩:=zd hm
      refine rS fun _ a2=>?_
      refine cX (fun hg=>PV (List.take f.toNat c.1) ([10]:eA) _ G) ?_;refine cX (fun hg=>OH (a1++([10]:eA)) _ I) (a2 _ _ ?_)
      refine cN hm (fun hm=>?_) fun hm=>?_
      .obtain⟨ay,J,hm⟩:=zd hm
       refine sF (C2 14 _ J) ?_;exact wR
      .refine Wp.skip (a0 _ _ ?_)
       obtain⟨a3,L,hm⟩:=zd hm;refine sX (fun hg=>P4 (aj.mk P.1 j.1 m) _ L) ?_
       refine df fun _ a4 _=>q6 ?_
       refine cN hm (fun hm=>?_) fun hm=>?_
       .obtain⟨az,M,hm⟩:=zd hm
        refine sF (C2 a3.2 _ M) ?_;exact wR
       .refine Wp.skip (a4 _ _ (df fun _ a5 _=>q6 ?_))
        refine cN hm (fun hm=>?_) fun hm=>?_
        .obtain⟨aA,N,hm⟩:=zd hm
         refine sF (C2 8 _ N) ?_;exact wR
        .exact Wp.skip (a5 _ _ (wQ))
   clear n p;refine q6 ?_
   refine cN hm (fun hm=>?_) fun hm=>?_
   .obtain⟨t,a6,hm⟩:=zd hm
    refine eO [3,1] (Qf ([111,108,100]:eA) j.2.2 c.1 _ a6) ?_;refine o _ _ _ _ ?_ (k (t.2.1,t.1,t.2.2) hm);simp only[go_sem,simprocAttr,hA]
    try exact gE
   .refine Wp.skip (o _ _ _ _ ?_ (k (false,[],j.2.2) hm))
    simp only[go_sem,simprocAttr,hA]
    try exact gE
theorem s4(c:ai)(z:aj×Int)(hm:jv c=some z):Does prog 51 [.agg [lm za c.m,lm zc c.b,lm za c.i,lm zb c.h]] [] (fun r X=>r=.tup [.agg [pS z.1.v,lm zf z.1.y,lm zf z.1.z],pI z.2]/\X=[]):=by
 unfold jv at hm
 refine dW 0 30 [.cell 2 83,.tmp 3] func51 fun B=>nA fun hA=>?_
 refine qS ?_;obtain⟨j,k,hm⟩:=zd hm;obtain⟨p,l,hm⟩:=zI hm;have f:=zw (e:=zc) zZ j.1 ([115,116,97,103,101,47,106,111,117,114,110,97,108]:eA) (ab.mk [] [] false);have g:=zu (e:=zc) zZ j.1 ([115,116,97,103,101,47,106,111,117,114,110,97,108]:eA);simp only[l,zc,map_nil]at f g;have hA:=And.intro f g;refine sO [] (CT c _ k) ?_
 refine df fun _ t _=>qS ?_
 refine cN hm (fun hm=>?_) fun hm=>?_
 .refine qS ?_
  refine Wp.ret ?_;simp only[zy,zq];refine zL ?_;cases hm;exact fT
 .refine Wp.skip (t _ _ ?_)
  obtain⟨u,n,hm⟩:=zd hm;refine sF (Rz ((p.getD (ab.mk [] [] false)).q) _ n) ?_
  refine df fun _ o _=>qS ?_
  refine cN hm (fun hm=>?_) fun hm=>?_
  .refine qS ?_
   refine Wp.ret ?_;simp only[zy,zq];refine zL ?_;cases hm;exact fT
  .exact Wp.skip (o _ _ (wQ))
end Go.Proofs.YtkojogldchfkkaaGreatDoor
