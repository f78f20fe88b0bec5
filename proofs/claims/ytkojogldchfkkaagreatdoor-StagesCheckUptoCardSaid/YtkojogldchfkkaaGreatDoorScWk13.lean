/- That the code does what the models say (part 13). -/
import Derived.Test.YtkojogldchfkkaaGreatDoorScWk0
import Derived.Test.YtkojogldchfkkaaGreatDoorScWk1
import Derived.Test.YtkojogldchfkkaaGreatDoorScWk7
import Derived.Test.YtkojogldchfkkaaGreatDoorScWk9
import Derived.Test.YtkojogldchfkkaaGreatDoorScWk12
set_option linter.unusedSimpArgs false
set_option linter.unusedVariables false
open Go.Proofs Go.Shelf
open List
namespace Go.Proofs.YtkojogldchfkkaaGreatDoor
open Tryz
open Go.Vc Go.Md
set_option maxRecDepth 100000
set_option maxHeartbeats 4000000
theorem Sw(i:List ah)(j:List ah)(z:List ah×List ah)(hm:Ie i j=some z):Does prog 127 [lm zb i,lm zb j,.fn 82 []] [] (fun r X=>r=.tup [lm zb z.1,lm zb z.2]/\X=[]):=by
 unfold Ie at hm
 refine dW 0 90 [.tmp 6,.tmp 7] func127 fun B=>nA fun hA=>?_
 refine qS ?_;refine qS ?_
 refine df fun K3 L a1=>?_
 obtain⟨S,u,hm⟩:=zj hm
 have E:∀s,S s=some z->K3 [(6,.buf 0),(7,.buf 1)] [.buf 48 4 (List.map zb s.1),.buf 48 4 (List.map zb s.2)]:=by
  intro s hs;have hm:=u _ hs;clear hs;obtain⟨a6,a7⟩:=s
  try dsimp only at hm|-
  exact L _ _ (wQ)
 clear L u;refine Wp.block (di 6 48 4 rfl ?_);simp only[go_sem,simprocAttr];refine di 7 48 4 rfl ?_;simp only[go_sem,simprocAttr];obtain⟨au,F,hm⟩:=jG hm;refine Wp.loopN (fun s=>[(0,lm zb i),(1,lm zb j),(2,.fn 82 []),(6,.buf 0),(7,.buf 1),(8,pI s.1),(9,pI s.2.1)]) (fun s=>[.buf 48 4 (List.map zb s.2.2.1),.buf 48 4 (List.map zb s.2.2.2)]) ?_ hm ?_
 .exact fI
 clear hm;intro s a8 hm;obtain⟨f,g,b,c⟩:=s
 try dsimp only at hm|-
 refine df fun _ a2 _=>qS ?_
 refine cN hm (fun hm=>?_) fun hm=>?_
 .refine Wp.skip (a2 _ _ (Wp.block (qS ?_)))
  refine df fun K9 M C=>?_
  obtain⟨T,v,hm⟩:=zj hm
  have l:∀s,T s=some z->K9 [(0,lm zb i),(1,lm zb j),(2,.fn 82 []),(6,.buf 0),(7,.buf 1),(8,pI f),(9,pI g),(10,pI s)] [.buf 48 4 (List.map zb b),.buf 48 4 (List.map zb c)]:=by
   intro a3 hs;have hm:=v _ hs;clear hs
   try dsimp only at hm|-
   refine M _ _ (Wp.block (qS ?_))
   refine cN hm (fun hm=>?_) fun hm=>?_
   .obtain⟨N,a9,m,ac,hm⟩:=fV hm
    replace m:∀d,(List.map zb i).getD f.toNat d=zb N:=m zb;obtain⟨av,hm⟩:=zh hm;have hA:=m;refine q6 ?_;refine r6 ?_;simp only[zy,zq,↓reduceIte];refine⟨(IntKind.i64.wrap (f+1),g,b++[N],c),hm,?_⟩;simp only[go_sem,simprocAttr,hA]
    try exact lF
   .refine qS ?_
    refine cN hm (fun hm=>?_) fun hm=>?_
    .obtain⟨O,ad,n,af,hm⟩:=fV hm
     replace n:∀d,(List.map zb j).getD g.toNat d=zb O:=n zb;obtain⟨aw,hm⟩:=zh hm;have hA:=n;refine q6 ?_;refine r6 ?_;simp only[zy,zq,↓reduceIte];refine⟨(f,IntKind.i64.wrap (g+1),b,c++[O]),hm,?_⟩;simp only[go_sem,simprocAttr,hA]
     try exact lF
    .refine df fun _ D _=>?_
     obtain⟨U,a4,k,a5,hm⟩:=fV hm;replace k:∀d,(List.map zb i).getD f.toNat d=zb U:=k zb;obtain⟨P,ag,o,an,hm⟩:=fV hm;replace o:∀d,(List.map zb j).getD g.toNat d=zb P:=o zb;have hA:=And.intro k o
     refine dS (pl [(0,none),(1,none),(2,none),(3,none),(4,none),(5,none),(6,none),(7,none),(8,none)]) fun _ V=>V _ _ ?_
     refine cN hm (fun hm=>?_) fun hm=>?_
     .obtain⟨ax,hm⟩:=zh hm
      refine r6 ?_;refine D _ _ (r6 ?_);simp only[zy,zq,↓reduceIte];refine⟨(IntKind.i64.wrap (f+1),IntKind.i64.wrap (g+1),b,c++[P]),hm,?_⟩;simp only[go_sem,simprocAttr,hA]
      try exact lF
     .refine Wp.skip (D _ _ (r6 ?_))
      simp only[zy,zq,↓reduceIte];refine⟨(IntKind.i64.wrap (f+1),IntKind.i64.wrap (g+1),b,c),hm,?_⟩;simp only[go_sem,simprocAttr,hA]
      try exact lF
  clear M v;refine Wp.block (qS ?_)
  refine cN hm (fun hm=>?_) fun hm=>?_
  .refine qR ?_
   refine C _ _ _ _ ?_ (l (-1) hm);exact fI
  .refine qS ?_
   refine cN hm (fun hm=>?_) fun hm=>?_
   .refine qR ?_
    refine C _ _ _ _ ?_ (l 1 hm);exact fI
   .obtain⟨Q,ao,p,ap,hm⟩:=fV hm
    replace p:∀d,(List.map zb i).getD f.toNat d=zb Q:=p zb;obtain⟨W,G,hm⟩:=zd hm;obtain⟨R,aq,t,ar,hm⟩:=fV hm;replace t:∀d,(List.map zb j).getD g.toNat d=zb R:=t zb;obtain⟨Y,I,hm⟩:=zd hm;obtain⟨Z,J,hm⟩:=zd hm;have hA:=And.intro p t
    refine dE (pl [(0,none),(1,none),(2,none),(3,none),(4,none),(5,none),(6,none),(7,none),(8,none),(9,none),(10,none),(11,none),(12,none),(13,none)]) fun _ a0=>?_
    refine cD (fun hg=>KH Q _ G) ?_;refine cD (fun hg=>KH R _ I) ?_;refine cD (fun hg=>KU W Y _ J) (a0 _ _ ?_);refine C _ _ _ _ ?_ (l Z hm);simp only[go_sem,simprocAttr,hA]
    try exact lF
 .refine Wp.exit ?_
  simp only[zy,zq,↓reduceIte];have hm:=F _ hm
  try dsimp only at hm
  refine a1 _ _ _ _ ?_ (E (b,c) hm);exact fI
theorem lP(g:ai)(k:ai)(z:List ae)(hm:GW g k=some z):Does prog 95 [.agg [lm za g.m,lm zc g.b,lm za g.i,lm zb g.h],.agg [lm za k.m,lm zc k.b,lm za k.i,lm zb k.h]] [] (fun r X=>r=lm zf z/\X=[]):=by
 unfold GW at hm
 refine dW 0 127 [.tmp 4] func95 fun B=>nA fun hA=>?_
 refine qS ?_;obtain⟨l,aC,hm⟩:=zd hm;refine sF (Sk g.b k.b _ aC) ?_;obtain⟨f,aD,hm⟩:=zd hm;refine sF (Sx g.i k.i _ aD) ?_;obtain⟨c,aE,hm⟩:=zd hm;refine sF (Sw g.h k.h _ aE) ?_;refine qS ?_
 refine df fun K9 aB aY=>?_
 obtain⟨aZ,M,hm⟩:=zj hm
 have a7:∀s,aZ s=some z->K9 [(6,lm zc l.2),(7,lm za f.1),(8,lm za f.2),(9,lm zb c.1),(10,lm zb c.2),(11,.buf 2)] [.cells 26 [.top,.top,.top,.top],.cells 26 [.top,.top,.top,.top],.buf 50 10 (List.map zf s)]:=by
  intro bq hs;have hm:=M _ hs;clear hs
  try dsimp only at hm|-
  refine aB _ _ (df fun b0 N aF=>?_);obtain⟨b1,O,hm⟩:=zj hm
  have P:∀s,b1 s=some z->b0 [(6,lm zc l.2),(8,lm za f.2),(9,lm zb c.1),(10,lm zb c.2),(11,.buf 2)] [.cells 26 [.top,.top,.top,.top],.cells 26 [.top,.top,.top,.top],.buf 50 10 (List.map zf s)]:=by
   intro br hs;have hm:=O _ hs;clear hs
   try dsimp only at hm|-
   refine N _ _ (df fun b2 Q aG=>?_);obtain⟨b3,R,hm⟩:=zj hm
   have S:∀s,b3 s=some z->b2 [(6,lm zc l.2),(8,lm za f.2),(10,lm zb c.2),(11,.buf 2)] [.cells 26 [.top,.top,.top,.top],.cells 26 [.top,.top,.top,.top],.buf 50 10 (List.map zf s)]:=by
    intro bs hs;have hm:=R _ hs;clear hs
    try dsimp only at hm|-
    refine Q _ _ (df fun b4 T aH=>?_);obtain⟨b5,U,hm⟩:=zj hm
    have V:∀s,b5 s=some z->b4 [(8,lm za f.2),(10,lm zb c.2),(11,.buf 2)] [.cells 26 [.top,.top,.top,.top],.cells 26 [.top,.top,.top,.top],.buf 50 10 (List.map zf s)]:=by
     intro bt hs;have hm:=U _ hs;clear hs
     try dsimp only at hm|-
     refine T _ _ (df fun b6 W aI=>?_);obtain⟨aJ,C,hm⟩:=zj hm
     have Y:∀s,aJ s=some z->b6 [(10,lm zb c.2),(11,.buf 2)] [.cells 26 [.top,.top,.top,.top],.cells 26 [.top,.top,.top,.top],.buf 50 10 (List.map zf s)]:=by
      intro bu hs;have hm:=C _ hs;clear hs
      try dsimp only at hm|-
      refine W _ _ (df fun b7 Z aK=>?_);obtain⟨aL,D,hm⟩:=zj hm
      have a0:∀s,aL s=some z->b7 [(11,.buf 2)] [.cells 26 [.top,.top,.top,.top],.cells 26 [.top,.top,.top,.top],.buf 50 10 (List.map zf s)]:=by
       intro bv hs;have hm:=D _ hs;clear hs
       try dsimp only at hm|-
       exact Z _ _ (wQ)
      clear Z D;refine qS ?_;refine Wp.block ?_;obtain⟨bD,a8,hm⟩:=zl hm
      refine fL 114 c.2.length fun a9=>?_
      refine Wp.forL (fun n s=>[(11,.buf 2),(114,lm zb c.2),(115,pI (c.2.length:Int)),(116,pI (n:Int))]) (fun n s=>[.cells 26 [.top,.top,.top,.top],.cells 26 [.top,.top,.top,.top],.buf 50 10 (List.map zf s)]) wF hm ?_;clear hm;intro n E b8 hm
      try dsimp only at hm|-
      refine qS ?_
      refine lB zb hm a9 (fun h=>aK _ _ _ _ wF (a0 E (a8 _ h))) fun ac bE aM bw b9 ba a1 hm hA _ aN=>?_
      refine q6 ?_;obtain⟨bF,hm⟩:=zh hm;refine r6 ?_;refine aN _ _ (r6 ?_);exact wN (E++[(ae.mk 5 (ab.mk [] [] false) (aa.mk [] []) aM)]) ac (a1 _ hm)
     clear W C;refine qS ?_;refine Wp.block ?_;obtain⟨bG,ad,hm⟩:=zl hm
     refine fL 102 f.2.length fun af=>?_
     refine Wp.forL (fun o s=>[(10,lm zb c.2),(11,.buf 2),(102,lm za f.2),(103,pI (f.2.length:Int)),(104,pI (o:Int))]) (fun o s=>[.cells 26 [.top,.top,.top,.top],.cells 26 [.top,.top,.top,.top],.buf 50 10 (List.map zf s)]) wF hm ?_;clear hm;intro o F bb hm
     try dsimp only at hm|-
     refine qS ?_
     refine lB za hm af (fun h=>aI _ _ _ _ wF (Y F (ad _ h))) fun ag bH aO bx bc bd a2 hm hA _ aP=>?_
     refine q6 ?_;obtain⟨bI,hm⟩:=zh hm;refine r6 ?_;refine aP _ _ (r6 ?_);exact wN (F++[(ae.mk 3 (ab.mk [] [] false) aO (ah.mk [] [] false false))]) ag (a2 _ hm)
    clear T U;refine qS ?_;refine Wp.block ?_;obtain⟨bJ,an,hm⟩:=zl hm
    refine fL 90 l.2.length fun ao=>?_
    refine Wp.forL (fun p s=>[(8,lm za f.2),(10,lm zb c.2),(11,.buf 2),(90,lm zc l.2),(91,pI (l.2.length:Int)),(92,pI (p:Int))]) (fun p s=>[.cells 26 [.top,.top,.top,.top],.cells 26 [.top,.top,.top,.top],.buf 50 10 (List.map zf s)]) wF hm ?_;clear hm;intro p G be hm
    try dsimp only at hm|-
    refine qS ?_
    refine lB zc hm ao (fun h=>aH _ _ _ _ wF (V G (an _ h))) fun ap bK aQ bz bf bg a3 hm hA _ aR=>?_
    refine q6 ?_;obtain⟨bL,hm⟩:=zh hm;refine r6 ?_;refine aR _ _ (r6 ?_);exact wN (G++[(ae.mk 1 aQ (aa.mk [] []) (ah.mk [] [] false false))]) ap (a3 _ hm)
   clear Q R;refine qS ?_;refine Wp.block ?_;obtain⟨bM,aq,hm⟩:=zl hm
   refine fL 76 c.1.length fun ar=>?_
   refine Wp.forL (fun t s=>[(6,lm zc l.2),(8,lm za f.2),(10,lm zb c.2),(11,.buf 2),(76,lm zb c.1),(77,pI (c.1.length:Int)),(78,pI (t:Int))]) (fun t s=>[.cells 26 [.top,.top,.top,.top],.cells 26 [.top,.top,.top,.top],.buf 50 10 (List.map zf s)]) wF hm ?_;clear hm;intro t I bh hm
   try dsimp only at hm|-
   refine qS ?_
   refine lB zb hm ar (fun h=>aG _ _ _ _ wF (S I (aq _ h))) fun au bN aS bA bi bj a4 hm hA _ aT=>?_
   refine q6 ?_;obtain⟨bO,hm⟩:=zh hm;refine r6 ?_;refine aT _ _ (r6 ?_);exact wN (I++[(ae.mk 6 (ab.mk [] [] false) (aa.mk [] []) (ah.mk aS.j [] false false))]) au (a4 _ hm)
  clear N O;refine qS ?_;refine Wp.block ?_;obtain⟨bP,av,hm⟩:=zl hm
  refine fL 62 f.1.length fun aw=>?_
  refine Wp.forL (fun u s=>[(6,lm zc l.2),(8,lm za f.2),(9,lm zb c.1),(10,lm zb c.2),(11,.buf 2),(62,lm za f.1),(63,pI (f.1.length:Int)),(64,pI (u:Int))]) (fun u s=>[.cells 26 [.top,.top,.top,.top],.cells 26 [.top,.top,.top,.top],.buf 50 10 (List.map zf s)]) wF hm ?_;clear hm;intro u J bk hm
  try dsimp only at hm|-
  refine qS ?_
  refine lB za hm aw (fun h=>aF _ _ _ _ wF (P J (av _ h))) fun ax bQ aU bB bl bm a5 hm hA _ aV=>?_
  refine q6 ?_;obtain⟨bS,hm⟩:=zh hm;refine r6 ?_;refine aV _ _ (r6 ?_);exact wN (J++[(ae.mk 4 (ab.mk [] [] false) (aa.mk aU.e []) (ah.mk [] [] false false))]) ax (a5 _ hm)
 clear aB M;refine qS ?_;refine Wp.block (di 11 50 10 rfl ?_);simp only[go_sem,simprocAttr];obtain⟨bT,ay,hm⟩:=zl hm
 refine fL 48 l.1.length fun az=>?_
 refine Wp.forL (fun v s=>[(6,lm zc l.2),(7,lm za f.1),(8,lm za f.2),(9,lm zb c.1),(10,lm zb c.2),(11,.buf 2),(48,lm zc l.1),(49,pI (l.1.length:Int)),(50,pI (v:Int))]) (fun v s=>[.cells 26 [lm za g.m,lm zc g.b,lm za g.i,lm zb g.h],.cells 26 [lm za k.m,lm zc k.b,lm za k.i,lm zb k.h],.buf 50 10 (List.map zf s)]) wF hm ?_;clear hm;intro v L bn hm
 try dsimp only at hm|-
 refine qS ?_
 refine lB zc hm az (fun h=>aY _ _ _ _ wF (a7 L (ay _ h))) fun aA bU aW bC bo bp a6 hm hA _ aX=>?_
 refine q6 ?_;obtain⟨bV,hm⟩:=zh hm;refine r6 ?_;refine aX _ _ (r6 ?_);exact wN (L++[(ae.mk 2 (ab.mk aW.a [] false) (aa.mk [] []) (ah.mk [] [] false false))]) aA (a6 _ hm)
theorem lQ(c:ai)(f:List ae)(z:List ae×Int)(hm:GV c f=some z):Does prog 46 [.agg [lm za c.m,lm zc c.b,lm za c.i,lm zb c.h],lm zf f] [] (fun r X=>r=.tup [lm zf z.1,pI z.2]/\X=[]):=by
 unfold GV at hm
 refine dW 0 20 [.tmp 4,.tmp 5] func46 fun B=>nA fun hA=>?_
 refine qS ?_;obtain⟨k,g,hm⟩:=zd hm;refine sF (Nb c f _ g) ?_
 refine df fun _ l _=>qS ?_
 refine cN hm (fun hm=>?_) fun hm=>?_
 .refine qS ?_
  refine Wp.ret ?_;simp only[zy,zq];refine zL ?_;cases hm;exact fI
 .refine Wp.skip (l _ _ ?_)
  obtain⟨n,j,hm⟩:=zd hm;refine sF (lP k.1 c _ j) ?_;exact wR
theorem Pt(j:eA)(z:eA)(hm:Fh j=some z):Does prog 168 [pS j] [] (fun r X=>r=pS z/\X=[]):=by
 unfold Fh at hm
 refine dW 0 63 [.tmp 2] func168 fun B=>nA fun hA=>?_
 refine qS ?_;obtain⟨R,hm⟩:=zh hm;refine q6 ?_;obtain⟨S,hm⟩:=zh hm;refine q6 ?_
 refine df fun K4 C J=>?_
 obtain⟨L,n,hm⟩:=zj hm
 have t:∀s,L s=some z->K4 [(3,.buf 0)] [.buf 5 1 (List.map fv s)]:=by
  intro N hs;have hm:=n _ hs;clear hs
  try dsimp only at hm|-
  refine C _ _ ?_;obtain⟨T,hm⟩:=zh hm;exact wQ
 clear C n;refine qS ?_;refine Wp.block ?_;obtain⟨a0,G,hm⟩:=zl hm
 refine fL 0 j.length fun u=>?_
 refine Wp.forL (fun o s=>[(0,pS j),(3,.buf 0),(4,pI (o:Int))]) (fun o s=>[.buf 5 1 (List.map fv s)]) wF hm ?_;clear hm;intro o f O hm
 try dsimp only at hm|-
 refine df fun _ M _=>qS ?_
 refine Wp.cond rfl ⟨⟩ (fun p=>?_) fun p=>Wp.exit (J _ _ _ _ wF (t f (G _ (pw hm (uA p)))))
 have b:=rm p;have D:=pz b u;obtain⟨k,U,v,l,c,hm⟩:=py hm b;clear v;refine Wp.skip ?_;simp only[zy];refine M _ _ (df fun _ m _=>Wp.block ?_);have hA:=And.intro D l;refine q6 ?_;refine Wp.block (q6 ?_)
 refine cN hm (fun hm=>?_) fun hm=>?_
 .obtain⟨V,hm⟩:=zh hm
  refine r6 ?_;refine m _ _ (r6 ?_);exact wN (f++[92,(k.toNat:Int)]) b (c _ hm)
 .refine q6 ?_
  refine cN hm (fun hm=>?_) fun hm=>?_
  .obtain⟨W,hm⟩:=zh hm
   refine r6 ?_;refine m _ _ (r6 ?_);exact wN (f++[92,110]) b (c _ hm)
  .refine q6 ?_
   refine cN hm (fun hm=>?_) fun hm=>?_
   .obtain⟨E,P,g,hm⟩:=mL hm
    replace g:((([48,49,50,51,52,53,54,55,56,57,97,98,99,100,101,102]:eA).getD ((Int.fdiv (k.toNat:Int) (2^(fz .u8 4))).toNat) 0).toNat:Int)=E:=g;obtain⟨F,Q,i,hm⟩:=mL hm;replace i:((([48,49,50,51,52,53,54,55,56,57,97,98,99,100,101,102]:eA).getD ((fj .and .u8 (k.toNat:Int) 15).toNat) 0).toNat:Int)=F:=i;obtain⟨Y,hm⟩:=zh hm;have hA:=And.intro D (And.intro l (And.intro g i))
    refine dE (pl [(0,none),(1,none),(2,none),(3,none),(4,none),(5,none),(6,none),(7,some [0]),(8,some []),(9,none)]) fun _ I=>I _ _ ?_
    refine m _ _ (r6 ?_);exact wN (f++[92,120,E,F]) b (c _ hm)
   .obtain⟨Z,hm⟩:=zh hm
    refine r6 ?_;refine m _ _ (r6 ?_);exact wN (f++[(k.toNat:Int)]) b (c _ hm)
theorem RI(c:eA)(f:eA)(b:ab)(z:eA)(hm:HA c f b=some z):Does prog 130 [pS c,pS f,.agg [pS b.a,pS b.q,pB b.r]] [] (fun r X=>r=pS z/\X=[]):=by
 unfold HA at hm
 refine dW 0 21 [.tmp 6] func130 fun B=>nA fun hA=>?_
 refine qS ?_
 refine df fun K2 j k=>?_
 obtain⟨m,i,hm⟩:=zj hm
 have g:∀s,m s=some z->K2 [(0,pS s),(5,.ptr 0 0)] [.cells 44 [pS b.a,pS b.q,pB b.r]]:=by
  intro n hs;have hm:=i _ hs;clear hs
  try dsimp only at hm|-
  refine j _ _ ?_;obtain⟨u,hm⟩:=zh hm;obtain⟨v,hm⟩:=zh hm;obtain⟨C,hm⟩:=zh hm;obtain⟨D,l,hm⟩:=zd hm;obtain⟨p,hm⟩:=zh hm;obtain⟨t,hm⟩:=zh hm
  refine dS (pl [(0,none),(1,none),(2,none),(3,none),(4,none),(5,none),(6,none),(7,none),(8,none),(9,none),(10,none),(11,none)]) fun _ o=>?_
  refine cD (fun hg=>Pt b.q _ l) (o _ _ ?_);exact wR
 clear j i;refine qS ?_
 refine cN hm (fun hm=>?_) fun hm=>?_
 .refine qR ?_
  refine k _ _ _ _ ?_ (g f hm);exact fT
 .refine Wp.skip (k _ _ _ _ ?_ (g c hm))
  exact fT
theorem R1(b:eA)(c:aa)(z:eA)(hm:HQ b c=some z):Does prog 131 [pS b,.agg [pS c.e,pS c.Value]] [] (fun r X=>r=pS z/\X=[]):=by
 unfold HQ at hm
 refine dW 0 16 [.tmp 4] func131 fun B=>nA fun hA=>?_
 refine qS ?_;obtain⟨i,hm⟩:=zh hm;obtain⟨j,hm⟩:=zh hm;obtain⟨k,hm⟩:=zh hm;obtain⟨l,f,hm⟩:=zd hm;obtain⟨m,hm⟩:=zh hm;obtain⟨n,hm⟩:=zh hm
 refine dS (pl [(0,none),(1,none),(2,none),(3,none),(4,none),(5,none),(6,none),(7,none),(8,none),(9,none),(10,none),(11,none)]) fun _ g=>?_
 refine cD (fun hg=>Pt c.Value _ f) (g _ _ ?_);exact wR
theorem OV(b:Bool)(z:eA)(hm:GH b=some z):Does prog 169 [pB b] [] (fun r X=>r=pS z/\X=[]):=by
 unfold GH at hm
 refine dW 0 4 [.tmp 2] func169 fun B=>nA fun hA=>?_
 refine qS ?_
 refine df fun _ c _=>qS ?_
 refine cR hm fun hm=>?_
 exact Wp.skip (c _ _ (wQ))
theorem R0(b:ah)(z:eA)(hm:HP b=some z):Does prog 132 [.agg [pS b.j,pS b.a,pB b.u,pB b.t]] [] (fun r X=>r=pS z/\X=[]):=by
 unfold HP at hm
 refine dW 0 21 [.tmp 2] func132 fun B=>nA fun hA=>?_
 refine qS ?_;obtain⟨l,hm⟩:=zh hm;obtain⟨m,hm⟩:=zh hm;obtain⟨n,hm⟩:=zh hm;obtain⟨o,hm⟩:=zh hm;obtain⟨p,c,hm⟩:=zd hm;obtain⟨v,hm⟩:=zh hm;obtain⟨C,hm⟩:=zh hm;obtain⟨D,f,hm⟩:=zd hm;obtain⟨i,hm⟩:=zh hm;obtain⟨k,hm⟩:=zh hm
 refine dS (pl [(0,none),(1,none),(2,none),(3,none),(4,none),(5,none),(6,none),(7,none),(8,none),(9,none),(10,none),(11,none),(12,none),(13,none),(14,none),(15,none),(16,none),(17,none),(18,none)]) fun _ g=>?_
 refine cD (fun hg=>OV b.u _ c) ?_;refine cD (fun hg=>OV b.t _ f) (g _ _ ?_);exact wR
theorem QR(b:eA)(z:eA×Int)(hm:Hc b=some z):Does prog 133 [pS b] [] (fun r X=>r=.tup [pS z.1,pI z.2]/\X=[]):=by
 unfold Hc at hm
 refine dW 0 8 [.tmp 2,.tmp 3] func133 fun B=>nA fun hA=>?_
 refine qS ?_
 refine df fun _ c _=>qS ?_
 refine cR hm fun hm=>?_
 exact Wp.skip (c _ _ (wQ))
end Go.Proofs.YtkojogldchfkkaaGreatDoor
