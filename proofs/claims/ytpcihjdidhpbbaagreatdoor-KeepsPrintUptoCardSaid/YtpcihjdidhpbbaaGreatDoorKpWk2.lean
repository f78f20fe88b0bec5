/- That the code does what the models say (part 2). -/
import Derived.Test.YtpcihjdidhpbbaaGreatDoorKpWk0
import Derived.Test.YtpcihjdidhpbbaaGreatDoorKpWk1
set_option linter.unusedSimpArgs false
set_option linter.unusedVariables false
open Go.Proofs Go.Shelf
open List
namespace Go.Proofs.YtpcihjdidhpbbaaGreatDoor
open Tryz
open Go.Vc Go.Md
set_option maxRecDepth 100000
set_option maxHeartbeats 4000000
theorem H0(b:ak)(z:Int)(w:yu b=some z):Does prog 61 [.agg [lm za b.F,lm ze b.B,lm za b.E,lm zb b.D]] [] (fun r X=>r=pI z/\X=[]):=by
 unfold yu at w;refine dW 0 160 [.tmp 2] func61 fun B=>nA fun A=>?_;refine qS ?_;refine da fun _ bC _=>qS ?_;refine cR w fun w=>?_;refine Wp.skip (bC _ _ (qS ?_));refine qS ?_;refine da fun K8 q bD=>?_;obtain⟨b4,L,w⟩:=zo w;have aC:∀s,b4 s=some z->K8 [(1,.ptr 0 0),(4,.fn 113 [.ptr 1 0])] [.cells 29 [lm za b.F,lm ze b.B,lm za b.E,lm zb b.D],.cells 9 [pS s]]:=by
  intro bz hs;have w:=L _ hs;clear hs;try dsimp only at w|-
  refine q _ _ (qS ?_);refine da fun bE a0 b5=>?_;obtain⟨b6,M,w⟩:=zo w;have a1:∀s,b6 s=some z->bE [(1,.ptr 0 0),(4,.fn 113 [.ptr 1 0])] [.cells 29 [lm za b.F,lm ze b.B,lm za b.E,lm zb b.D],.cells 9 [pS s]]:=by
   intro bA hs;have w:=M _ hs;clear hs;try dsimp only at w|-
   refine a0 _ _ (da fun bF x b7=>?_);obtain⟨b8,N,w⟩:=zo w;have a3:∀s,b8 s=some z->bF [(1,.ptr 0 0),(4,.fn 113 [.ptr 1 0])] [.cells 29 [lm za b.F,lm ze b.B,lm za b.E,lm zb b.D],.cells 9 [pS s]]:=by
    intro bB hs;have w:=N _ hs;clear hs;try dsimp only at w|-
    refine x _ _ (da fun bG y b9=>?_);obtain⟨ba,O,w⟩:=zo w;have a5:∀s,ba s=some z->bG [] []:=by
     intro s hs;have w:=O _ hs;clear hs;try dsimp only at w|-
     exact y _ _ (wQ)
    clear y O;refine qS ?_;refine Wp.block ?_;obtain⟨c2,aD,w⟩:=zq w;refine fL 140 b.D.length fun aE=>?_;refine Wp.forL (fun P s=>[(4,.fn 113 [.ptr 1 0]),(140,lm zb b.D),(141,pI (b.D.length:Int)),(142,pI (P:Int))]) (fun P s=>[.cells 29 [lm za b.F,lm ze b.B,lm za b.E,lm zb b.D],.cells 9 [pS s]]) wF w ?_;clear w;intro P Y bS w;try dsimp only at w|-
    refine qS ?_;refine lB zb w aE (fun h=>b9 _ _ _ _ wF (a5 () (aD _ h))) fun aF c3 a2 bT bH bI a7 w A _ bb=>?_;refine q6 ?_;obtain⟨bc,aG,w⟩:=zd w;obtain⟨K,aH,w⟩:=zd w;obtain⟨c4,aI,w⟩:=zd w;refine dS (pl [(0,none),(1,none),(2,none),(3,none),(4,none),(5,none),(6,some []),(7,some []),(8,none),(9,none)]) fun _ bd=>?_;refine cD (fun d=>SU a2 _ aG) ?_;refine cE [1] (NF (P:Int) a2.C Y _ aH) ?_;refine cD (fun d=>qP [bc,K.1] _ aI) (bd _ _ ?_);refine q6 ?_;refine cR w fun w=>?_;refine Wp.skip (bb _ _ (r6 ?_));exact wN K.2 aF (a7 _ w)
   clear x N;refine qS ?_;refine Wp.block ?_;obtain⟨c5,aJ,w⟩:=zq w;refine fL 119 b.E.length fun aK=>?_;refine Wp.forL (fun Q s=>[(1,.ptr 0 0),(4,.fn 113 [.ptr 1 0]),(119,lm za b.E),(120,pI (b.E.length:Int)),(121,pI (Q:Int))]) (fun Q s=>[.cells 29 [lm za b.F,lm ze b.B,lm za b.E,lm zb b.D],.cells 9 [pS s]]) wF w ?_;clear w;intro Q k bU w;try dsimp only at w|-
   refine qS ?_;refine lB za w aK (fun h=>b7 _ _ _ _ wF (a3 k (aJ _ h))) fun aL c6 a9 bV bJ bK ac w A _ be=>?_;refine q6 ?_;obtain⟨bf,aM,w⟩:=zd w;obtain⟨ad,aN,w⟩:=zd w;obtain⟨c7,aO,w⟩:=zd w;refine dS (pl [(0,none),(1,none),(2,none),(3,none),(4,none),(5,none),(6,some []),(7,some []),(8,none),(9,none)]) fun _ bg=>?_;refine cD (fun d=>SV a9 _ aM) ?_;refine cE [1] (NF (Q:Int) a9.u k _ aN) ?_;refine cD (fun d=>qP [bf,ad.1] _ aO) (bg _ _ ?_);refine q6 ?_;refine cR w fun w=>?_;refine Wp.skip (be _ _ (r6 ?_));exact wN ad.2 aL (ac _ w)
  clear a0 M;refine qS ?_;refine Wp.block ?_;obtain⟨c8,aP,w⟩:=zq w;refine fL 73 b.B.length fun aQ=>?_;refine Wp.forL (fun j s=>[(1,.ptr 0 0),(4,.fn 113 [.ptr 1 0]),(8,.mp 2),(73,lm ze b.B),(74,pI (b.B.length:Int)),(75,pI (j:Int))]) (fun j s=>[.cells 29 [lm za b.F,lm ze b.B,lm za b.E,lm zb b.D],.cells 9 [pS s.1],.mp false (zH Dt.s fP s.2)]) wF w ?_;clear w;intro j s bW w;obtain⟨l,i⟩:=s;try dsimp only at w|-
  refine qS ?_;refine da fun _ bh _=>Wp.cond rfl ⟨⟩ (fun I=>?_) fun I=>Wp.exit (b5 _ _ _ _ wF (a1 l (aP _ (jg w (tn I)))));have n:=j7 I;have o:=iL n aQ;obtain⟨c,bX,g,bY,af,w⟩:=jj w n;replace g:=g ze;refine Wp.skip ?_;simp only[zz];refine bh _ _ (da fun bL ag bi=>?_);obtain⟨bj,R,w⟩:=zo w;have an:∀s,bj s=some z->bL [(1,.ptr 0 0),(4,.fn 113 [.ptr 1 0]),(8,.mp 2),(73,lm ze b.B),(74,pI (b.B.length:Int)),(75,pI (j:Int))] [.cells 29 [lm za b.F,lm ze b.B,lm za b.E,lm zb b.D],.cells 9 [pS s],.mp false (zH Dt.s fP (eM i c.a true))]:=by
   intro Z hs;have w:=R _ hs;clear hs;try dsimp only at w|-
   refine ag _ _ ?_;have A:=And.intro o g;refine r6 ?_;exact wN (Z,eM i c.a true) n (af _ w)
  clear ag R;refine Wp.block ?_;have A:=And.intro o g;refine q6 ?_;obtain⟨bk,aR,w⟩:=zd w;obtain⟨S,bl,w⟩:=zd w;obtain⟨bm,aS,w⟩:=zd w;refine dS (pl [(0,none),(1,none),(2,none),(3,none),(4,none),(5,none),(6,some []),(7,some []),(8,none),(9,none)]) fun _ bn=>?_;refine cD (fun d=>SI c _ aR) ?_;refine cE [1] (NF (j:Int) c.a l _ bl) ?_;refine cD (fun d=>qP [bk,S.1] _ aS) (bn _ _ ?_);refine da fun bM av aw=>?_;obtain⟨bo,T,w⟩:=zo w;have v:∀s,bo s=some z->bM [(1,.ptr 0 0),(4,.fn 113 [.ptr 1 0]),(8,.mp 2),(10,.ptr 3 0),(11,pI s),(73,lm ze b.B),(74,pI (b.B.length:Int)),(75,pI (j:Int))] [.cells 29 [lm za b.F,lm ze b.B,lm za b.E,lm zb b.D],.cells 9 [pS S.2],.mp false (zH Dt.s fP i),.cells 61 [pS c.a,pS c.G,pB c.H]]:=by
   intro c9 hs;have w:=T _ hs;clear hs;try dsimp only at w|-
   refine av _ _ (da fun _ bp _=>q6 ?_);refine cR w fun w=>?_;refine Wp.skip (bp _ _ ?_);obtain⟨ca,w⟩:=zh w;have U:=x8 (e:=fP) fR i c.a true;simp only[fP,map_nil]at U;have A:=And.intro o (And.intro g U);refine r6 ?_;refine bi _ _ _ _ ?_ (an S.2 w);simp only[go_sem,simprocAttr,A];try exact un
  clear av T;refine q6 ?_;refine cN w (fun w=>?_) fun w=>?_
  .refine q6 ?_;refine Wp.block ?_;obtain⟨cb,aT,w⟩:=ii w;refine Wp.loopN (fun s=>[(1,.ptr 0 0),(4,.fn 113 [.ptr 1 0]),(8,.mp 2),(10,.ptr 3 0),(11,pI s.1),(73,lm ze b.B),(74,pI (b.B.length:Int)),(75,pI (j:Int)),(93,pI (c.a.length:Int)),(94,pI s.2)]) (fun s=>[.cells 29 [lm za b.F,lm ze b.B,lm za b.E,lm zb b.D],.cells 9 [pS S.2],.mp false (zH Dt.s fP i),.cells 61 [pS c.a,pS c.G,pB c.H]]) ?_ w ?_
   .simp only[go_sem,simprocAttr,A];try exact un
   clear w;intro s bZ w;obtain⟨ay,f⟩:=s;try dsimp only at w|-
   refine q6 ?_;refine da fun _ bq _=>cN w (fun w=>?_) fun w=>?_
   .refine Wp.skip (bq _ _ (da fun _ az _=>Wp.block (q6 ?_)));obtain⟨bN,c0,p,w⟩:=mK w;replace p:((c.a.getD f.toNat 0).toNat:Int)=bN:=p;obtain⟨cc,w⟩:=zh w;obtain⟨cd,br,w⟩:=jK w;have V:=pC (e:=fP) fR i (List.take f.toNat c.a) false;have W:=pD (e:=fP) fR i (List.take f.toNat c.a);simp only[br,fP,map_nil]at V W;have A:=And.intro o (And.intro g (And.intro p (And.intro V W)));refine q6 ?_;refine cN w (fun w=>?_) fun w=>?_
    .refine r6 ?_;refine az _ _ (r6 ?_);simp only[zz,zw,↓reduceIte];refine⟨(11,IntKind.i64.wrap (f+1)),w,?_⟩;simp only[go_sem,simprocAttr,A];try exact un
    .refine Wp.skip (az _ _ (r6 ?_));simp only[zz,zw,↓reduceIte];refine⟨(ay,IntKind.i64.wrap (f+1)),w,?_⟩;simp only[go_sem,simprocAttr,A];try exact un
   .refine Wp.exit ?_;simp only[zz,zw,↓reduceIte];have w:=aT _ w;try dsimp only at w
    refine aw _ _ _ _ ?_ (v ay w);simp only[go_sem,simprocAttr,A];try exact un
  .refine Wp.skip (aw _ _ _ _ ?_ (v bm w));simp only[go_sem,simprocAttr,A];try exact un
 clear q L;refine qS ?_;refine Wp.block ?_;obtain⟨ce,aU,w⟩:=zq w;refine fL 43 b.F.length fun aV=>?_;refine Wp.forL (fun t s=>[(1,.ptr 0 0),(4,.fn 113 [.ptr 1 0]),(43,lm za b.F),(44,pI (b.F.length:Int)),(45,pI (t:Int))]) (fun t s=>[.cells 29 [lm za b.F,lm ze b.B,lm za b.E,lm zb b.D],.cells 9 [pS s]]) wF w ?_;clear w;intro t m bO w;try dsimp only at w|-
 refine qS ?_;refine lB za w aV (fun h=>bD _ _ _ _ wF (aC m (aU _ h))) fun aW cg J c1 bP bQ aA w A _ bs=>?_;refine q6 ?_;obtain⟨bt,aX,w⟩:=zd w;obtain⟨bu,aY,w⟩:=zd w;obtain⟨bv,aZ,w⟩:=zd w;obtain⟨bw,b0,w⟩:=zd w;obtain⟨aB,b1,w⟩:=zd w;obtain⟨ch,b2,w⟩:=zd w;refine dS (pl [(0,none),(1,none),(2,none),(3,none),(4,none),(5,none),(6,none),(7,none),(8,none),(9,none),(10,none),(11,none),(12,none),(13,none),(14,some []),(15,some []),(16,none),(17,none)]) fun _ bx=>?_;refine cD (fun d=>yc J.u _ aX) ?_;refine cD (fun d=>jk (!bt) 5 _ aY) ?_;refine cD (fun d=>PP J.Value _ aZ) ?_;refine cD (fun d=>jk (!bv) 2 _ b0) ?_;refine cE [1] (NF (t:Int) J.u m _ b1) ?_;refine cD (fun d=>qP [bu,bw,aB.1] _ b2) (bx _ _ ?_);refine q6 ?_;refine cR w fun w=>?_;refine Wp.skip (bs _ _ (r6 ?_));exact wN aB.2 aW (aA _ w)
theorem Iw(b:ak)(z:(List (ev×ae))×(List (ev×ev))×(List (ev×ah))×List ab)(w:yE b=some z):Does prog 63 [.agg [lm za b.F,lm ze b.B,lm za b.E,lm zb b.D]] [] (fun r X=>r=.ptr 4 0/\X=[.cells 29 [.top,.top,.top,.top],.mp true (zH Dt.s ze z.1),.mp false (zH Dt.s ex z.2.1),.mp true (zH Dt.s zb z.2.2.1),.cells 175 [lm za z.2.2.2,.mp 1,.mp 2,.mp 3]]):=by
 unfold yE at w;refine dW 5 64 [.tmp 2] func63 fun B=>nA fun A=>?_;refine qS ?_;refine qS ?_;refine da fun x d y=>?_;obtain⟨a5,G,w⟩:=zo w;have P:∀s,a5 s=some z->x [(1,.ptr 0 0),(3,.ptr 4 0)] [.cells 29 [lm za b.F,lm ze b.B,lm za b.E,lm zb b.D],.mp true (zH Dt.s ze s),.mp false (zH Dt.s ex []),.mp true (zH Dt.s zb []),.cells 175 [lm za b.F,.mp 1,.mp 2,.mp 3]]:=by
  intro c hs;have w:=G _ hs;clear hs;try dsimp only at w|-
  refine d _ _ (da fun H q K=>?_);obtain⟨aA,I,w⟩:=zo w;have Q:∀s,aA s=some z->H [(1,.ptr 0 0),(3,.ptr 4 0)] [.cells 29 [lm za b.F,lm ze b.B,lm za b.E,lm zb b.D],.mp true (zH Dt.s ze c),.mp false (zH Dt.s ex s),.mp true (zH Dt.s zb []),.cells 175 [lm za b.F,.mp 1,.mp 2,.mp 3]]:=by
   intro l hs;have w:=I _ hs;clear hs;try dsimp only at w|-
   refine q _ _ (da fun K5 a4 aB=>?_);obtain⟨aC,J,w⟩:=zo w;have R:∀s,aC s=some z->K5 [(3,.ptr 4 0)] [.cells 29 [.top,.top,.top,.top],.mp true (zH Dt.s ze c),.mp false (zH Dt.s ex l),.mp true (zH Dt.s zb s),.cells 175 [lm za b.F,.mp 1,.mp 2,.mp 3]]:=by
    intro aG hs;have w:=J _ hs;clear hs;try dsimp only at w|-
    exact a4 _ _ (wQ)
   clear a4 J;refine qS ?_;refine Wp.block ?_;obtain⟨aO,S,w⟩:=zq w;refine fL 49 b.D.length fun T=>?_;refine Wp.forL (fun L s=>[(3,.ptr 4 0),(49,lm zb b.D),(50,pI (b.D.length:Int)),(51,pI (L:Int))]) (fun L s=>[.cells 29 [lm za b.F,lm ze b.B,lm za b.E,lm zb b.D],.mp true (zH Dt.s ze c),.mp false (zH Dt.s ex l),.mp true (zH Dt.s zb s),.cells 175 [lm za b.F,.mp 1,.mp 2,.mp 3]]) wF w ?_;clear w;intro L f aH w;try dsimp only at w|-
   refine qS ?_;refine lB zb w T (fun h=>aB _ _ _ _ wF (R f (S _ h))) fun a7 aD m aI U aJ M w A _ a8=>?_;refine q6 ?_;obtain⟨aP,w⟩:=zh w;have n:=x8 (e:=zb) fR f m.C m;simp only[zb,map_nil]at n;have A:=And.intro aD (And.intro U n);refine dE (pl [(0,none),(1,none),(2,none),(3,none),(4,none),(5,none),(6,none),(7,some [])]) fun _ a9=>a9 _ _ ?_;refine a8 _ _ (r6 ?_);exact wN (eM f m.C m) a7 (M _ w)
  clear q I;refine qS ?_;refine Wp.block ?_;obtain⟨aQ,V,w⟩:=zq w;refine fL 33 b.E.length fun W=>?_;refine Wp.forL (fun j s=>[(1,.ptr 0 0),(3,.ptr 4 0),(33,lm za b.E),(34,pI (b.E.length:Int)),(35,pI (j:Int))]) (fun j s=>[.cells 29 [lm za b.F,lm ze b.B,lm za b.E,lm zb b.D],.mp true (zH Dt.s ze c),.mp false (zH Dt.s ex s),.mp true (zH Dt.s zb []),.cells 175 [lm za b.F,.mp 1,.mp 2,.mp 3]]) wF w ?_;clear w;intro j g aE w;try dsimp only at w|-
  refine qS ?_;refine lB za w W (fun h=>K _ _ _ _ wF (Q g (V _ h))) fun Y ac o aK Z aL N w A _ ad=>?_;refine q6 ?_;obtain⟨aR,w⟩:=zh w;have p:=x8 (e:=ex) fR g o.u o.Value;simp only[ex,map_nil]at p;have A:=And.intro ac (And.intro Z p);refine dE (pl [(0,none),(1,none),(2,none),(3,none),(4,none),(5,none),(6,none),(7,none),(8,some [])]) fun _ af=>af _ _ ?_;refine ad _ _ (r6 ?_);exact wN (eM g o.u o.Value) Y (N _ w)
 clear d G;refine qS ?_;refine Wp.block ?_;obtain⟨aS,a0,w⟩:=zq w;refine fL 18 b.B.length fun a1=>?_;refine Wp.forL (fun k s=>[(1,.ptr 0 0),(3,.ptr 4 0),(18,lm ze b.B),(19,pI (b.B.length:Int)),(20,pI (k:Int))]) (fun k s=>[.cells 29 [lm za b.F,lm ze b.B,lm za b.E,lm zb b.D],.mp true (zH Dt.s ze s),.mp false (zH Dt.s ex []),.mp true (zH Dt.s zb []),.cells 175 [lm za b.F,.mp 1,.mp 2,.mp 3]]) wF w ?_;clear w;intro k i aF w;try dsimp only at w|-
 refine qS ?_;refine lB ze w a1 (fun h=>y _ _ _ _ wF (P i (a0 _ h))) fun a2 ag t aM a3 aN O w A _ an=>?_;refine q6 ?_;obtain⟨aT,w⟩:=zh w;have v:=x8 (e:=ze) fR i t.a t;simp only[ze,map_nil]at v;have A:=And.intro ag (And.intro a3 v);refine dE (pl [(0,none),(1,none),(2,none),(3,none),(4,none),(5,none),(6,none),(7,some [])]) fun _ av=>av _ _ ?_;refine an _ _ (r6 ?_);exact wN (eM i t.a t) a2 (O _ w)
theorem SL(b:ai)(z:Int)(w:Gv b=some z):Does prog 123 [.agg [pI b.g,pS b.j.a,pS b.j.G,pB b.j.H,pS b.x.u,pS b.x.Value,pS b.h.C,pS b.h.a,pB b.h.I,pB b.h.J]] [] (fun r X=>r=pI z/\X=[]):=by
 unfold Gv at w;refine dW 0 67 [.tmp 2] func123 fun B=>nA fun A=>?_;refine qS ?_;refine qS ?_;refine qS ?_;refine da fun e N f=>?_;obtain⟨q,D,w⟩:=zo w;have c:∀s,q s=some z->e [(3,.ptr 1 0),(4,pI s.1)] [.cells 67 [.top,.top,.top,.top,.top,.top,.top,.top,.top,.top],.cells 67 [pI 0,pS s.2.1,pS s.2.2.1,pB s.2.2.2.1,pS s.2.2.2.2.1,pS s.2.2.2.2.2.1,pS s.2.2.2.2.2.2.1,pS s.2.2.2.2.2.2.2.1,pB s.2.2.2.2.2.2.2.2.1,pB s.2.2.2.2.2.2.2.2.2]]:=by
  intro s hs;have w:=D _ hs;clear hs;obtain⟨O,i,k,l,m,n,o,p,t,v⟩:=s;try dsimp only at w|-
  refine N _ _ ?_;obtain⟨a3,P,w⟩:=zd w;obtain⟨af,E,w⟩:=zd w;refine rS fun _ y=>?_;refine cX (fun d=>jk (!(true&&((decide (i=[]))&&((decide (k=[]))&&((decide (l=false))&&((decide (m=[]))&&((decide (n=[]))&&((decide (o=[]))&&((decide (p=[]))&&((decide (t=false))&&(decide (v=false)))))))))))) 2 _ P) ?_;refine cX (fun d=>qP [O,a3] _ E) (y _ _ ?_);exact wR
 clear N D;refine qS ?_;refine qS ?_;refine Wp.block (qS ?_);refine cN w (fun w=>?_) fun w=>?_
 .obtain⟨a4,Q,w⟩:=zd w;refine eX (fun d=>SI b.j _ Q) ?_;refine f _ _ _ _ ?_ (c (a4,[],[],false,b.x.u,b.x.Value,b.h.C,b.h.a,b.h.I,b.h.J) w);exact eS
 .refine qS ?_;refine cN w (fun w=>?_) fun w=>?_
  .obtain⟨K,R,w⟩:=zd w;obtain⟨a8,S,w⟩:=zd w;refine rE fun _ T=>?_;refine cX (fun d=>C3 b.j.a _ R) ?_;refine cX (fun d=>jk (!K) 5 _ S) (T _ _ ?_);refine f _ _ _ _ ?_ (c (a8,[],b.j.G,b.j.H,b.x.u,b.x.Value,b.h.C,b.h.a,b.h.I,b.h.J) w);exact eS
  .refine qS ?_;refine cN w (fun w=>?_) fun w=>?_
   .obtain⟨a9,U,w⟩:=zd w;refine eX (fun d=>SV b.x _ U) ?_;refine f _ _ _ _ ?_ (c (a9,b.j.a,b.j.G,b.j.H,[],[],b.h.C,b.h.a,b.h.I,b.h.J) w);exact eS
   .refine qS ?_;refine cN w (fun w=>?_) fun w=>?_
    .obtain⟨ac,V,w⟩:=zd w;obtain⟨ad,W,w⟩:=zd w;refine rE fun _ Y=>?_;refine cX (fun d=>C3 b.x.u _ V) ?_;refine cX (fun d=>jk (!ac) 5 _ W) (Y _ _ ?_);refine f _ _ _ _ ?_ (c (ad,b.j.a,b.j.G,b.j.H,[],b.x.Value,b.h.C,b.h.a,b.h.I,b.h.J) w);exact eS
    .refine qS ?_;refine cN w (fun w=>?_) fun w=>?_
     .obtain⟨Z,F,w⟩:=zd w;refine eX (fun d=>SU b.h _ F) ?_;refine f _ _ _ _ ?_ (c (Z,b.j.a,b.j.G,b.j.H,b.x.u,b.x.Value,[],[],false,false) w);exact eS
     .refine qS ?_;refine cT w fun w=>?_;obtain⟨a0,L,w⟩:=zd w;obtain⟨a1,M,w⟩:=zd w;refine rE fun _ a2=>?_;refine cX (fun d=>yc b.h.C _ L) ?_;refine cX (fun d=>jk (!a0) 5 _ M) (a2 _ _ ?_);refine f _ _ _ _ ?_ (c (a1,b.j.a,b.j.G,b.j.H,b.x.u,b.x.Value,[],b.h.a,b.h.I,b.h.J) w);exact eS
theorem U6(c:ev)(b:ev)(z:Bool)(w:N3 c b=some z):Does prog 172 [pS c,pS b] [] (fun r X=>r=pB z/\X=[]):=by
 unfold N3 at w;refine dW 0 18 [.tmp 4] func172 fun B=>nA fun A=>?_;refine qS ?_;obtain⟨f,w⟩:=zh w;exact wQ
theorem GK(c:ev)(b:ev)(z:Bool)(w:ul c b=some z):Does prog 142 [pS c,pS b] [] (fun r X=>r=pB z/\X=[]):=by
 unfold ul at w;refine dW 0 8 [.tmp 4] func142 fun B=>nA fun A=>?_;refine qS ?_;obtain⟨g,f,w⟩:=zd w;refine sX (fun a=>U6 c b _ f) ?_;exact wR
theorem Nk(b:ev)(c:ev)(z:Bool)(w:uE b c=some z):Does prog 124 [pS b,pS c] [] (fun r X=>r=pB z/\X=[]):=by
 unfold uE at w;refine dW 0 9 [.tmp 4] func124 fun B=>nA fun A=>?_;refine qS ?_;obtain⟨g,w⟩:=zh w;obtain⟨i,f,w⟩:=zd w;refine sX (fun a=>GK b (c++([47]:ev)) _ f) ?_;exact wR
theorem PY(b:ai)(l:List ab)(c:List (ev×ae))(f:List (ev×ev))(k:List (ev×ah))(z:Int×(List (ev×ae))×(List (ev×ev))×(List (ev×ah)))(w:yN b l c f k=some z):Does prog 79 [.ptr 0 0,.agg [pI b.g,pS b.j.a,pS b.j.G,pB b.j.H,pS b.x.u,pS b.x.Value,pS b.h.C,pS b.h.a,pB b.h.I,pB b.h.J]] [.cells 175 [lm za l,.mp 1,.mp 2,.mp 3],.mp true (zH Dt.s ze c),.mp false (zH Dt.s ex f),.mp true (zH Dt.s zb k)] (fun r X=>r=pI z.1/\X=[.cells 175 [lm za l,.mp 1,.mp 2,.mp 3],.mp true (zH Dt.s ze z.2.1),.mp false (zH Dt.s ex z.2.2.1),.mp true (zH Dt.s zb z.2.2.2)]):=by
 unfold yN at w;refine dW 4 208 [.tmp 4] func79 fun B=>nA fun A=>?_;refine qS ?_;refine da fun _ b9 _=>?_;obtain⟨bh,ac,w⟩:=zd w;refine sX (fun y=>SL b _ ac) ?_;refine qS ?_;refine cR w fun w=>?_;refine Wp.skip (b9 _ _ (da fun K8 c0 E=>?_));obtain⟨aE,R,w⟩:=zo w;have p:∀s,aE s=some z->K8 [] [.cells 175 [lm za l,.mp 1,.mp 2,.mp 3],.mp true (zH Dt.s ze s.1),.mp false (zH Dt.s ex s.2.1),.mp true (zH Dt.s zb s.2.2)]:=by
  intro s hs;have w:=R _ hs;clear hs;obtain⟨bc,bd,be⟩:=s;try dsimp only at w|-
  exact c0 _ _ (wQ)
 clear c0 R;refine qS ?_;refine Wp.block (qS ?_);refine cN w (fun w=>?_) fun w=>?_
 .refine da fun _ aF _=>?_;obtain⟨bi,aG,w⟩:=jK w;have S:=pC (e:=ze) fR c b.j.a (ae.mk [] [] false);have T:=pD (e:=ze) fR c b.j.a;simp only[aG,ze,map_nil]at S T;have A:=And.intro S T;refine dS (pl [(0,none),(1,none),(2,none),(3,none),(4,none),(5,none),(6,none),(7,none),(8,none),(9,none),(10,none),(11,some [0,1,2,3,4,5,6,7,8,9,10]),(12,some [10]),(13,none)]) fun _ aH=>aH _ _ ?_;refine qS ?_;refine cR w fun w=>?_;refine Wp.skip (aF _ _ ?_);have ad:=MK (e:=ze) fR c b.j.a;have A:=ad;refine dE (pl [(0,none),(1,none),(2,none),(3,none),(4,none),(5,none),(6,none),(7,some [])]) fun _ aI=>aI _ _ ?_;refine E _ _ _ _ ?_ (p (jo c b.j.a,f,k) w);exact eS
 .refine qS ?_;refine cN w (fun w=>?_) fun w=>?_
  .refine da fun _ aJ _=>?_;obtain⟨bj,aK,w⟩:=jK w;have U:=pC (e:=ex) fR f b.x.u [];have V:=pD (e:=ex) fR f b.x.u;simp only[aK,ex,map_nil]at U V;have A:=And.intro U V;refine dS (pl [(0,none),(1,none),(2,none),(3,none),(4,none),(5,none),(6,none),(7,none),(8,none),(9,none),(10,none),(11,none),(12,none)]) fun _ aL=>aL _ _ ?_;refine qS ?_;refine cR w fun w=>?_;refine Wp.skip (aJ _ _ ?_);have af:=MK (e:=ex) fR f b.x.u;have A:=af;refine dE (pl [(0,none),(1,none),(2,none),(3,none),(4,none),(5,none),(6,none),(7,some [])]) fun _ aM=>aM _ _ ?_;refine E _ _ _ _ ?_ (p (c,jo f b.x.u,k) w);exact eS
  .refine qS ?_;refine cN w (fun w=>?_) fun w=>?_
   .refine da fun _ aN _=>?_;obtain⟨bk,aO,w⟩:=jK w;have W:=pC (e:=zb) fR k b.h.C (ah.mk [] [] false false);have Y:=pD (e:=zb) fR k b.h.C;simp only[aO,zb,map_nil]at W Y;have A:=And.intro W Y;refine dS (pl [(0,none),(1,none),(2,none),(3,none),(4,none),(5,none),(6,none),(7,none),(8,none),(9,none),(10,none),(11,some [0,1,2,3,4,5,6,7,8,9,10]),(12,some [10]),(13,none)]) fun _ aP=>aP _ _ ?_;refine qS ?_;refine cR w fun w=>?_;refine Wp.skip (aN _ _ ?_);have an:=MK (e:=zb) fR k b.h.C;have A:=an;refine dE (pl [(0,none),(1,none),(2,none),(3,none),(4,none),(5,none),(6,none),(7,some [])]) fun _ aQ=>aQ _ _ ?_;refine E _ _ _ _ ?_ (p (c,f,jo k b.h.C) w);exact eS
   .refine qS ?_;refine cN w (fun w=>?_) fun w=>?_
    .refine da fun ba K aR=>?_;obtain⟨aS,Z,w⟩:=zo w
     have a7:∀s,aS s=some z->ba [(0,.ptr 0 0),(3,.ptr 4 0)] [.cells 175 [lm za l,.mp 1,.mp 2,.mp 3],.mp true (zH Dt.s ze c),.mp false (zH Dt.s ex f),.mp true (zH Dt.s zb k),.cells 67 [pI b.g,pS b.j.a,pS b.j.G,pB b.j.H,pS b.x.u,pS b.x.Value,pS b.h.C,pS b.h.a,pB b.h.I,pB b.h.J]]:=by
      intro s hs;have w:=Z _ hs;clear hs;try dsimp only at w|-
      refine K _ _ (da fun _ aT _=>?_);obtain⟨bl,aU,w⟩:=jK w;have a0:=pC (e:=ze) fR c b.j.a (ae.mk [] [] false);have a1:=pD (e:=ze) fR c b.j.a;simp only[aU,ze,map_nil]at a0 a1;have A:=And.intro a0 a1;refine dS (pl [(0,none),(1,none),(2,none),(3,none),(4,none),(5,none),(6,none),(7,none),(8,none),(9,none),(10,none),(11,some [0,1,2,3,4,5,6,7,8,9,10]),(12,some [10]),(13,none)]) fun _ aV=>aV _ _ ?_;refine qS ?_;refine cR w fun w=>?_;refine Wp.skip (aT _ _ ?_);obtain⟨bm,w⟩:=zh w;have a2:=x8 (e:=ze) fR c b.j.a b.j;simp only[ze,map_nil]at a2;have A:=a2;refine dE (pl [(0,none),(1,none),(2,none),(3,none),(4,none),(5,none),(6,none),(7,none),(8,none),(9,some [])]) fun _ aW=>aW _ _ ?_;refine E _ _ _ _ ?_ (p (eM c b.j.a b.j,f,k) w);exact eS
     clear K Z;refine db fun bD aX=>?_;simp only[go_sem,simprocAttr];try refine⟨sd,?_⟩
     refine Rg.range (i:=1) (ag:=?ag45) (es:=?es45) (kt:=?kt45) (et:=?et45) Is.mk Is.mk sg sg si si si ?cont45;intro t D n a3 aw;replace n:=G9 n;simp only[go_sem,simprocAttr];refine kA aX ?_;refine Wp.block ?_;obtain⟨bn,ay,w⟩:=HF w;refine Wp.forM (bs:=t) (fun v s=>[(0,.ptr 0 0),(3,.ptr 4 0),(128,.ptr 5 0)]) (fun v s=>[.cells 175 [lm za l,.mp 1,.mp 2,.mp 3],.mpb true (zH Dt.s ze c) t D,.mp false (zH Dt.s ex f),.mp true (zH Dt.s zb k),.cells 67 [pI b.g,pS b.j.a,pS b.j.G,pB b.j.H,pS b.x.u,pS b.x.Value,pS b.h.C,pS b.h.a,pB b.h.I,pB b.h.J],.it 1 D v]) n ?_ w ?_
     .exact eS
     clear w;intro v s w;try dsimp only at w|-
     refine db fun bE F=>?_;simp only[go_sem,simprocAttr];try refine⟨by exact sd,?_⟩
     refine Rg.next (q:=5) (i:=1) (cl:=D) (bs:=t) (seen:=v) (ag:=?ag46) (es:=?es46) Is.mk Is.mk sg sg si si si sg ?hb46 a3 aw ?he46 ?hs46;case hb46=>rw[CG];exact n
     case he46 =>
      intro a6;simp only[go_sem,simprocAttr];first|apply F|refine⟨by exact sd,F _ _ ?_⟩
      refine da fun bb a8 aY=>?_;refine Wp.cond rfl ⟨⟩ (fun h=>?_) (fun h=>?_)
      .cases h
      refine dr 1 5 (by simp only[go_sem,simprocAttr];exact Is.mk) (by simp only[go_sem,simprocAttr];exact Is.mk) (by simp only[go_sem,simprocAttr]) ?_;simp only[go_sem,simprocAttr];refine Wp.exit ?_;have w:=ay _ (Hr w ((C2 (m:=t) n rfl).trans a6));try dsimp only at w
      refine aR _ _ _ _ ?_ (a7 () w);exact eS
     case hs46 =>
      intro br bt bf o;simp only[go_sem,simprocAttr];first|apply F|refine⟨by exact sd,F _ _ ?_⟩
      refine da fun bb a8 aY=>?_;refine Wp.cond rfl ⟨⟩ (fun h=>?_) (fun h=>?_);rotate_left
      .cases h
      refine Wp.skip ?_;simp only[zz];refine a8 _ _ ?_;obtain⟨a9,bg,L,M,w⟩:=HG w (o.er _ n).1;replace L:=(o.er _ n).2.2.symm.trans L;refine Wp.block ?_;refine db fun bF aZ=>?_;simp only[go_sem,simprocAttr];try refine⟨sd,?_⟩
      refine Rg.entry (q:=5) (i:=1) (cl:=D) (bs:=t) (seen:=v) (ag:=?ag49) (es:=?es49) (d:=?d49) (row:=?row49) Is.mk Is.mk sg sg si si si a3 o.hp ?he49 ?cont49;case he49=>exact Ho L
      simp only[go_sem,simprocAttr];refine kA aZ ?_;obtain⟨b0,az,w⟩:=zd w;obtain⟨bv,aA,w⟩:=zx w;refine db fun bG b1=>?_;simp only[go_sem,simprocAttr];try refine⟨sd,?_⟩
      refine dy (av:=?av51) (g:=true) (fun y=>Nk a9.1 b.j.a _ az) si si si sg si ?cont51;intro bw;simp only[go_sem,simprocAttr];try refine⟨sd,?_⟩
      refine dy (av:=?av52) (g:=!b0) (fun y=>Nk b.j.a a9.1 _ (aA y)) si si si sg si ?cont52;intro bx;simp only[go_sem,simprocAttr];refine kA b1 ?_;refine cM w (fun b2 w=>?_) (fun b2 w=>?_)
      .refine qS ?_;refine dr 1 5 (by simp only[go_sem,simprocAttr];exact Is.mk) (by simp only[go_sem,simprocAttr];exact Is.mk) (by simp only[go_sem,simprocAttr]) ?_;simp only[go_sem,simprocAttr];refine Wp.ret ?_;refine uH ?_;cases w;exact eS
      .refine Wp.skip ?_;simp only[zz,zw,↓reduceIte];refine⟨_,(),(ya o n (M _ w)).1,(ya o n (M _ w)).2,?_⟩;exact eS
    .refine qS ?_;refine cN w (fun w=>?_) fun w=>?_
     .refine da fun _ b3 _=>?_;obtain⟨bz,aB,w⟩:=jK w;have N:=pC (e:=ex) fR f b.x.u [];have O:=pD (e:=ex) fR f b.x.u;simp only[aB,ex,map_nil]at N O;have A:=And.intro N O;refine dS (pl [(0,none),(1,none),(2,none),(3,none),(4,none),(5,none),(6,none),(7,none),(8,none),(9,none),(10,none),(11,none),(12,none)]) fun _ b4=>b4 _ _ ?_;refine qS ?_;refine cR w fun w=>?_;refine Wp.skip (b3 _ _ ?_);obtain⟨bA,w⟩:=zh w;have a4:=x8 (e:=ex) fR f b.x.u b.x.Value;simp only[ex,map_nil]at a4;have A:=a4;refine dE (pl [(0,none),(1,none),(2,none),(3,none),(4,none),(5,none),(6,none),(7,none),(8,none),(9,none),(10,some [])]) fun _ b5=>b5 _ _ ?_;refine E _ _ _ _ ?_ (p (c,eM f b.x.u b.x.Value,k) w);exact eS
     .refine da fun _ b6 _=>?_;obtain⟨bB,aC,w⟩:=jK w;have P:=pC (e:=zb) fR k b.h.C (ah.mk [] [] false false);have Q:=pD (e:=zb) fR k b.h.C;simp only[aC,zb,map_nil]at P Q;have A:=And.intro P Q;refine dS (pl [(0,none),(1,none),(2,none),(3,none),(4,none),(5,none),(6,none),(7,none),(8,none),(9,none),(10,none),(11,some [0,1,2,3,4,5,6,7,8,9,10]),(12,some [10]),(13,none)]) fun _ b7=>b7 _ _ ?_;refine qS ?_;refine cR w fun w=>?_;refine Wp.skip (b6 _ _ ?_);obtain⟨bC,w⟩:=zh w;have a5:=x8 (e:=zb) fR k b.h.C b.h;simp only[zb,map_nil]at a5;have A:=a5;refine dE (pl [(0,none),(1,none),(2,none),(3,none),(4,none),(5,none),(6,none),(7,none),(8,none),(9,some [])]) fun _ b8=>b8 _ _ ?_;refine E _ _ _ _ ?_ (p (c,f,eM k b.h.C b.h) w);exact eS
theorem VA(b:List ab)(z:List ab)(w:IY b=some z):Does prog 125 [lm za b] [] (fun r X=>r=lm za z/\X=[]):=by
 unfold IY at w;refine dW 0 8 [.tmp 2] func125 fun B=>nA fun A=>?_;refine qS ?_;refine da fun _ f _=>db fun a g=>?_;simp only[go_sem,simprocAttr];try refine⟨sd,?_⟩
 refine dI (rows:=?rows4) (e:=?e4) (esz:=?esz4) (eb:=?eb4) (ez:=?ez4) Is.mk Is.mk sg sg si si ?cont4;intro i c;replace w:=HU w i (fun h=>map_eq_nil_iff.1 (c h));try dsimp only at w
 simp only[go_sem,simprocAttr];refine kA g ?_;refine cN w (fun w=>?_) fun w=>?_
 .refine qS ?_;refine Wp.ret ?_;simp only[zz,zw];refine z2 ?_;cases w;exact eS
 .refine Wp.skip (f _ _ ?_);obtain⟨j,w⟩:=zh w;exact wQ
theorem P7(a z:List ev)(w:NG a=some z):Does prog 153 [.buf 0] [.fx 9 1 (List.map ex a)] (fun r X=>r=.tup []/\X=[.fx 9 1 (List.map ex z)]):=by cases w;exact Does.sortS Tryz.sortL ⟨_,func153,by kernel_rfl,by kernel_rfl⟩ 9 a
theorem UU(f:List (ev×ae))(z:List ev)(w:NP f=some z):Does prog 126 [.mp 0] [.mp true (zH Dt.s ze f)] (fun r X=>r=lm ex z/\X=[.mp true (zH Dt.s ze f)]):=by
 unfold NP at w;refine dW 1 18 [.tmp 2] func126 fun B=>nA fun A=>?_;refine qS ?_;refine qS ?_;refine da fun e I O=>?_;obtain⟨P,u,w⟩:=zo w;have C:∀s,P s=some z->e [(3,.buf 2)] [.mp true (zH Dt.s ze f),.gone,.buf 9 1 (List.map ex s)]:=by
  intro D hs;have w:=u _ hs;clear hs;try dsimp only at w|-
  refine I _ _ (di 2 (by simp only[go_sem,simprocAttr];exact Is.mk) (by simp only[go_sem,simprocAttr]) ?_);simp only[go_sem,simprocAttr];obtain⟨T,E,w⟩:=zd w;refine sO [2] (P7 D _ E) ?_;refine dj 2 (by simp only[go_sem,simprocAttr];exact Is.mk) (by simp only[go_sem,simprocAttr]) ?_;simp only[go_sem,simprocAttr];exact wQ
 clear I u;refine db fun K Q=>?_;simp only[go_sem,simprocAttr];try refine⟨sd,?_⟩
 refine Rg.range (i:=0) (ag:=?ag8) (es:=?es8) (kt:=?kt8) (et:=?et8) Is.mk Is.mk sg sg si si si ?cont8;intro g k b n F;replace b:=G9 b;simp only[go_sem,simprocAttr];refine kA Q ?_;refine Wp.block (dm 3 9 1 rfl ?_);simp only[go_sem,simprocAttr];obtain⟨U,G,w⟩:=HF w;refine Wp.forM (bs:=g) (fun j s=>[(3,.buf 2),(6,.ptr 1 0)]) (fun j s=>[.mpb true (zH Dt.s ze f) g k,.it 0 k j,.buf 9 1 (List.map ex s)]) b ?_ w ?_
 .exact eS
 clear w;intro j o w;try dsimp only at w|-
 refine db fun x p=>?_;simp only[go_sem,simprocAttr];try refine⟨by exact sd,?_⟩
 refine Rg.next (q:=1) (i:=0) (cl:=k) (bs:=g) (seen:=j) (ag:=?ag9) (es:=?es9) Is.mk Is.mk sg sg si si si sg ?hb9 n F ?he9 ?hs9;case hb9=>rw[CG];exact b
 case he9 =>
  intro a;simp only[go_sem,simprocAttr];first|apply p|refine⟨by exact sd,p _ _ ?_⟩
  refine da fun R v J=>?_;refine Wp.cond rfl ⟨⟩ (fun h=>?_) (fun h=>?_)
  .cases h
  refine dr 0 1 (by simp only[go_sem,simprocAttr];exact Is.mk) (by simp only[go_sem,simprocAttr];exact Is.mk) (by simp only[go_sem,simprocAttr]) ?_;simp only[go_sem,simprocAttr];refine Wp.exit ?_;have w:=G _ (Hr w ((C2 (m:=g) b rfl).trans a));try dsimp only at w
  refine O _ _ _ _ ?_ (C o w);exact eS
 case hs9 =>
  intro V W S c;simp only[go_sem,simprocAttr];first|apply p|refine⟨by exact sd,p _ _ ?_⟩
  refine da fun R v J=>?_;refine Wp.cond rfl ⟨⟩ (fun h=>?_) (fun h=>?_);rotate_left
  .cases h
  refine Wp.skip ?_;simp only[zz];refine v _ _ ?_;obtain⟨L,Y,l,t,w⟩:=HG w (c.er _ b).1;replace l:=(c.er _ b).2.2.symm.trans l;refine Wp.block ?_;refine db fun y M=>?_;simp only[go_sem,simprocAttr];try refine⟨sd,?_⟩
  refine Rg.entry (q:=1) (i:=0) (cl:=k) (bs:=g) (seen:=j) (ag:=?ag12) (es:=?es12) (d:=?d12) (row:=?row12) Is.mk Is.mk sg sg si si si n c.hp ?he12 ?cont12;case he12=>exact Ho l
  simp only[go_sem,simprocAttr];refine kA M ?_;obtain⟨Z,w⟩:=zh w;refine Wp.region fun H N=>?_;simp only[go_sem,simprocAttr];refine kA N ?_;simp only[zz,zw,↓reduceIte];refine⟨_,o++[L.1],(ya c b (t _ w)).1,(ya c b (t _ w)).2,?_⟩;exact eS
theorem UP(f:List (ev×ev))(z:List ev)(w:NM f=some z):Does prog 127 [.mp 0] [.mp false (zH Dt.s ex f)] (fun r X=>r=lm ex z/\X=[.mp false (zH Dt.s ex f)]):=by
 unfold NM at w;refine dW 1 18 [.tmp 2] func127 fun B=>nA fun A=>?_;refine qS ?_;refine qS ?_;refine da fun e I O=>?_;obtain⟨P,u,w⟩:=zo w;have C:∀s,P s=some z->e [(3,.buf 2)] [.mp false (zH Dt.s ex f),.gone,.buf 9 1 (List.map ex s)]:=by
  intro D hs;have w:=u _ hs;clear hs;try dsimp only at w|-
  refine I _ _ (di 2 (by simp only[go_sem,simprocAttr];exact Is.mk) (by simp only[go_sem,simprocAttr]) ?_);simp only[go_sem,simprocAttr];obtain⟨T,E,w⟩:=zd w;refine sO [2] (P7 D _ E) ?_;refine dj 2 (by simp only[go_sem,simprocAttr];exact Is.mk) (by simp only[go_sem,simprocAttr]) ?_;simp only[go_sem,simprocAttr];exact wQ
 clear I u;refine db fun K Q=>?_;simp only[go_sem,simprocAttr];try refine⟨sd,?_⟩
 refine Rg.range (i:=0) (ag:=?ag8) (es:=?es8) (kt:=?kt8) (et:=?et8) Is.mk Is.mk sg sg si si si ?cont8;intro g k b n F;replace b:=G9 b;simp only[go_sem,simprocAttr];refine kA Q ?_;refine Wp.block (dm 3 9 1 rfl ?_);simp only[go_sem,simprocAttr];obtain⟨U,G,w⟩:=HF w;refine Wp.forM (bs:=g) (fun j s=>[(3,.buf 2),(6,.ptr 1 0)]) (fun j s=>[.mpb false (zH Dt.s ex f) g k,.it 0 k j,.buf 9 1 (List.map ex s)]) b ?_ w ?_
 .exact eS
 clear w;intro j o w;try dsimp only at w|-
 refine db fun x p=>?_;simp only[go_sem,simprocAttr];try refine⟨by exact sd,?_⟩
 refine Rg.next (q:=1) (i:=0) (cl:=k) (bs:=g) (seen:=j) (ag:=?ag9) (es:=?es9) Is.mk Is.mk sg sg si si si sg ?hb9 n F ?he9 ?hs9;case hb9=>rw[CG];exact b
 case he9 =>
  intro a;simp only[go_sem,simprocAttr];first|apply p|refine⟨by exact sd,p _ _ ?_⟩
  refine da fun R v J=>?_;refine Wp.cond rfl ⟨⟩ (fun h=>?_) (fun h=>?_)
  .cases h
  refine dr 0 1 (by simp only[go_sem,simprocAttr];exact Is.mk) (by simp only[go_sem,simprocAttr];exact Is.mk) (by simp only[go_sem,simprocAttr]) ?_;simp only[go_sem,simprocAttr];refine Wp.exit ?_;have w:=G _ (Hr w ((C2 (m:=g) b rfl).trans a));try dsimp only at w
  refine O _ _ _ _ ?_ (C o w);exact eS
 case hs9 =>
  intro V W S c;simp only[go_sem,simprocAttr];first|apply p|refine⟨by exact sd,p _ _ ?_⟩
  refine da fun R v J=>?_;refine Wp.cond rfl ⟨⟩ (fun h=>?_) (fun h=>?_);rotate_left
  .cases h
  refine Wp.skip ?_;simp only[zz];refine v _ _ ?_;obtain⟨L,Y,l,t,w⟩:=HG w (c.er _ b).1;replace l:=(c.er _ b).2.2.symm.trans l;refine Wp.block ?_;refine db fun y M=>?_;simp only[go_sem,simprocAttr];try refine⟨sd,?_⟩
  refine Rg.entry (q:=1) (i:=0) (cl:=k) (bs:=g) (seen:=j) (ag:=?ag12) (es:=?es12) (d:=?d12) (row:=?row12) Is.mk Is.mk sg sg si si si n c.hp ?he12 ?cont12;case he12=>exact Ho l
  simp only[go_sem,simprocAttr];refine kA M ?_;obtain⟨Z,w⟩:=zh w;refine Wp.region fun H N=>?_;simp only[go_sem,simprocAttr];refine kA N ?_;simp only[zz,zw,↓reduceIte];refine⟨_,o++[L.1],(ya c b (t _ w)).1,(ya c b (t _ w)).2,?_⟩;exact eS
theorem U0(f:List (ev×ah))(z:List ev)(w:NU f=some z):Does prog 128 [.mp 0] [.mp true (zH Dt.s zb f)] (fun r X=>r=lm ex z/\X=[.mp true (zH Dt.s zb f)]):=by
 unfold NU at w;refine dW 1 18 [.tmp 2] func128 fun B=>nA fun A=>?_;refine qS ?_;refine qS ?_;refine da fun e I O=>?_;obtain⟨P,u,w⟩:=zo w;have C:∀s,P s=some z->e [(3,.buf 2)] [.mp true (zH Dt.s zb f),.gone,.buf 9 1 (List.map ex s)]:=by
  intro D hs;have w:=u _ hs;clear hs;try dsimp only at w|-
  refine I _ _ (di 2 (by simp only[go_sem,simprocAttr];exact Is.mk) (by simp only[go_sem,simprocAttr]) ?_);simp only[go_sem,simprocAttr];obtain⟨T,E,w⟩:=zd w;refine sO [2] (P7 D _ E) ?_;refine dj 2 (by simp only[go_sem,simprocAttr];exact Is.mk) (by simp only[go_sem,simprocAttr]) ?_;simp only[go_sem,simprocAttr];exact wQ
 clear I u;refine db fun K Q=>?_;simp only[go_sem,simprocAttr];try refine⟨sd,?_⟩
 refine Rg.range (i:=0) (ag:=?ag8) (es:=?es8) (kt:=?kt8) (et:=?et8) Is.mk Is.mk sg sg si si si ?cont8;intro g k b n F;replace b:=G9 b;simp only[go_sem,simprocAttr];refine kA Q ?_;refine Wp.block (dm 3 9 1 rfl ?_);simp only[go_sem,simprocAttr];obtain⟨U,G,w⟩:=HF w;refine Wp.forM (bs:=g) (fun j s=>[(3,.buf 2),(6,.ptr 1 0)]) (fun j s=>[.mpb true (zH Dt.s zb f) g k,.it 0 k j,.buf 9 1 (List.map ex s)]) b ?_ w ?_
 .exact eS
 clear w;intro j o w;try dsimp only at w|-
 refine db fun x p=>?_;simp only[go_sem,simprocAttr];try refine⟨by exact sd,?_⟩
 refine Rg.next (q:=1) (i:=0) (cl:=k) (bs:=g) (seen:=j) (ag:=?ag9) (es:=?es9) Is.mk Is.mk sg sg si si si sg ?hb9 n F ?he9 ?hs9;case hb9=>rw[CG];exact b
 case he9 =>
  intro a;simp only[go_sem,simprocAttr];first|apply p|refine⟨by exact sd,p _ _ ?_⟩
  refine da fun R v J=>?_;refine Wp.cond rfl ⟨⟩ (fun h=>?_) (fun h=>?_)
  .cases h
  refine dr 0 1 (by simp only[go_sem,simprocAttr];exact Is.mk) (by simp only[go_sem,simprocAttr];exact Is.mk) (by simp only[go_sem,simprocAttr]) ?_;simp only[go_sem,simprocAttr];refine Wp.exit ?_;have w:=G _ (Hr w ((C2 (m:=g) b rfl).trans a));try dsimp only at w
  refine O _ _ _ _ ?_ (C o w);exact eS
 case hs9 =>
  intro V W S c;simp only[go_sem,simprocAttr];first|apply p|refine⟨by exact sd,p _ _ ?_⟩
  refine da fun R v J=>?_;refine Wp.cond rfl ⟨⟩ (fun h=>?_) (fun h=>?_);rotate_left
  .cases h
  refine Wp.skip ?_;simp only[zz];refine v _ _ ?_;obtain⟨L,Y,l,t,w⟩:=HG w (c.er _ b).1;replace l:=(c.er _ b).2.2.symm.trans l;refine Wp.block ?_;refine db fun y M=>?_;simp only[go_sem,simprocAttr];try refine⟨sd,?_⟩
  refine Rg.entry (q:=1) (i:=0) (cl:=k) (bs:=g) (seen:=j) (ag:=?ag12) (es:=?es12) (d:=?d12) (row:=?row12) Is.mk Is.mk sg sg si si si n c.hp ?he12 ?cont12;case he12=>exact Ho l
  simp only[go_sem,simprocAttr];refine kA M ?_;obtain⟨Z,w⟩:=zh w;refine Wp.region fun H N=>?_;simp only[go_sem,simprocAttr];refine kA N ?_;simp only[zz,zw,↓reduceIte];refine⟨_,o++[L.1],(ya c b (t _ w)).1,(ya c b (t _ w)).2,?_⟩;exact eS
theorem UX(b:List ab)(c:List (ev×ae))(f:List (ev×ev))(g:List (ev×ah))(z:ak)(w:GH b c f g=some z):Does prog 80 [.ptr 0 0] [.cells 175 [lm za b,.mp 1,.mp 2,.mp 3],.mp true (zH Dt.s ze c),.mp false (zH Dt.s ex f),.mp true (zH Dt.s zb g)] (fun r X=>r=.agg [lm za z.F,lm ze z.B,lm za z.E,lm zb z.D]/\X=[.cells 175 [lm za b,.mp 1,.mp 2,.mp 3],.mp true (zH Dt.s ze c),.mp false (zH Dt.s ex f),.mp true (zH Dt.s zb g)]):=by
 unfold GH at w;refine dW 4 85 [.cell 2 29] func80 fun B=>nA fun A=>?_;refine qS ?_;obtain⟨j,x,w⟩:=zd w;refine sF (VA b _ x) ?_;refine da fun y a c0=>?_;obtain⟨H,t,w⟩:=zo w;have K:∀s,H s=some z->y [(0,.ptr 0 0),(2,.ptr 4 0),(3,.ptr 5 0)] [.cells 175 [lm za b,.mp 1,.mp 2,.mp 3],.mp true (zH Dt.s ze c),.mp false (zH Dt.s ex f),.mp true (zH Dt.s zb g),.cells 29 [.nils,.nils,.nils,.nils],.cells 29 [lm za j,.buf 6,.nils,.nils],.buf 61 3 (List.map ze s)]:=by
  intro i hs;have w:=t _ hs;clear hs;try dsimp only at w|-
  refine a _ _ (da fun K5 d aU=>?_);obtain⟨aC,u,w⟩:=zo w;have a1:∀s,aC s=some z->K5 [(0,.ptr 0 0),(2,.ptr 4 0),(3,.ptr 5 0)] [.cells 175 [lm za b,.mp 1,.mp 2,.mp 3],.mp true (zH Dt.s ze c),.mp false (zH Dt.s ex f),.mp true (zH Dt.s zb g),.cells 29 [.nils,.nils,.nils,.nils],.cells 29 [lm za j,.buf 6,.buf 7,.nils],.buf 61 3 (List.map ze i),.buf 63 2 (List.map za s)]:=by
   intro v hs;have w:=u _ hs;clear hs;try dsimp only at w|-
   refine d _ _ (da fun K6 q aV=>?_);obtain⟨aD,C,w⟩:=zo w;have a2:∀s,aD s=some z->K6 [(2,.ptr 4 0),(3,.ptr 5 0)] [.cells 175 [lm za b,.mp 1,.mp 2,.mp 3],.mp true (zH Dt.s ze c),.mp false (zH Dt.s ex f),.mp true (zH Dt.s zb g),.cells 29 [.nils,.nils,.nils,.nils],.cells 29 [lm za j,.buf 6,.buf 7,.buf 8],.buf 61 3 (List.map ze i),.buf 63 2 (List.map za v),.buf 65 4 (List.map zb s)]:=by
    intro b1 hs;have w:=C _ hs;clear hs;try dsimp only at w|-
    exact q _ _ (wQ)
   clear q C;obtain⟨k,a3,w⟩:=zd w;refine sQ [3] (fun a0=>U0 g _ a3) ?_;refine Wp.block (dd 5 3 65 4 rfl rfl ?_);simp only[go_sem,simprocAttr];obtain⟨b6,a4,w⟩:=zq w;refine fL 66 k.length fun a5=>?_;refine Wp.forL (fun l s=>[(0,.ptr 0 0),(2,.ptr 4 0),(3,.ptr 5 0),(66,lm ex k),(67,pI (k.length:Int)),(68,pI (l:Int))]) (fun l s=>[.cells 175 [lm za b,.mp 1,.mp 2,.mp 3],.mp true (zH Dt.s ze c),.mp false (zH Dt.s ex f),.mp true (zH Dt.s zb g),.cells 29 [.nils,.nils,.nils,.nils],.cells 29 [lm za j,.buf 6,.buf 7,.buf 8],.buf 61 3 (List.map ze i),.buf 63 2 (List.map za v),.buf 65 4 (List.map zb s)]) wF w ?_;clear w;intro l G aW w;try dsimp only at w|-
   refine qS ?_;refine lB ex w a5 (fun h=>aV _ _ _ _ wF (a2 G (a4 _ h))) fun a6 aE R b2 S aX T w A _ aF=>?_;refine q6 ?_;obtain⟨aG,aH,w⟩:=jK w;have I:=pC (e:=zb) fR g R (ah.mk [] [] false false);have J:=pD (e:=zb) fR g R;simp only[aH,zb,map_nil]at I J;obtain⟨b7,w⟩:=zh w;have A:=And.intro aE (And.intro S (And.intro I J));refine dE (pl [(0,none),(1,none),(2,none),(3,none),(4,none),(5,none),(6,none),(7,none),(8,some [0,1]),(9,some []),(10,none),(11,some [])]) fun _ aI=>aI _ _ ?_;refine aF _ _ (r6 ?_);exact wN (G++[(aG.getD (ah.mk [] [] false false))]) a6 (T _ w)
  clear d u;obtain⟨m,a7,w⟩:=zd w;refine sQ [2] (fun a0=>UP f _ a7) ?_;refine Wp.block (dd 5 2 63 2 rfl rfl ?_);simp only[go_sem,simprocAttr];obtain⟨b8,a8,w⟩:=zq w;refine fL 42 m.length fun a9=>?_;refine Wp.forL (fun n s=>[(0,.ptr 0 0),(2,.ptr 4 0),(3,.ptr 5 0),(42,lm ex m),(43,pI (m.length:Int)),(44,pI (n:Int))]) (fun n s=>[.cells 175 [lm za b,.mp 1,.mp 2,.mp 3],.mp true (zH Dt.s ze c),.mp false (zH Dt.s ex f),.mp true (zH Dt.s zb g),.cells 29 [.nils,.nils,.nils,.nils],.cells 29 [lm za j,.buf 6,.buf 7,.nils],.buf 61 3 (List.map ze i),.buf 63 2 (List.map za s)]) wF w ?_;clear w;intro n L aY w;try dsimp only at w|-
  refine qS ?_;refine lB ex w a9 (fun h=>aU _ _ _ _ wF (a1 L (a8 _ h))) fun ac aJ U b3 ad b4 V w A _ aK=>?_;refine q6 ?_;obtain⟨aL,aM,w⟩:=jK w;have M:=pC (e:=ex) fR f U [];have N:=pD (e:=ex) fR f U;simp only[aM,ex,map_nil]at M N;obtain⟨b9,w⟩:=zh w;have A:=And.intro aJ (And.intro ad (And.intro M N));refine dE (pl [(0,none),(1,none),(2,none),(3,none),(4,none),(5,none),(6,none),(7,none),(8,none),(9,none),(10,some [0,1]),(11,some []),(12,none),(13,some [])]) fun _ aN=>aN _ _ ?_;refine aK _ _ (r6 ?_);exact wN (L++[(ab.mk U (aL.getD []))]) ac (V _ w)
 clear a t;obtain⟨o,af,w⟩:=zd w;refine sQ [1] (fun a0=>UU c _ af) ?_;refine Wp.block (dd 5 1 61 3 rfl rfl ?_);simp only[go_sem,simprocAttr];obtain⟨ba,ag,w⟩:=zq w;refine fL 20 o.length fun an=>?_;refine Wp.forL (fun p s=>[(0,.ptr 0 0),(2,.ptr 4 0),(3,.ptr 5 0),(20,lm ex o),(21,pI (o.length:Int)),(22,pI (p:Int))]) (fun p s=>[.cells 175 [lm za b,.mp 1,.mp 2,.mp 3],.mp true (zH Dt.s ze c),.mp false (zH Dt.s ex f),.mp true (zH Dt.s zb g),.cells 29 [.nils,.nils,.nils,.nils],.cells 29 [lm za j,.buf 6,.nils,.nils],.buf 61 3 (List.map ze s)]) wF w ?_;clear w;intro p O aZ w;try dsimp only at w|-
 refine qS ?_;refine lB ex w an (fun h=>c0 _ _ _ _ wF (K O (ag _ h))) fun av aO W b5 Y b0 Z w A _ aP=>?_;refine q6 ?_;obtain⟨aQ,aR,w⟩:=jK w;have P:=pC (e:=ze) fR c W (ae.mk [] [] false);have Q:=pD (e:=ze) fR c W;simp only[aR,ze,map_nil]at P Q;obtain⟨bb,w⟩:=zh w;have A:=And.intro aO (And.intro Y (And.intro P Q));refine dE (pl [(0,none),(1,none),(2,none),(3,none),(4,none),(5,none),(6,none),(7,none),(8,some [0,1]),(9,some []),(10,none),(11,some [])]) fun _ aS=>aS _ _ ?_;refine aP _ _ (r6 ?_);exact wN (O++[(aQ.getD (ae.mk [] [] false))]) av (Z _ w)
end Go.Proofs.YtpcihjdidhpbbaaGreatDoor
