/- That the code does what the models say (part 6). -/
import Derived.Test.YtbcjkdopkcbblaaGreatDoorEiWk0
import Derived.Test.YtbcjkdopkcbblaaGreatDoorEiWk1
import Derived.Test.YtbcjkdopkcbblaaGreatDoorEiWk3
import Derived.Test.YtbcjkdopkcbblaaGreatDoorEiWk4
import Derived.Test.YtbcjkdopkcbblaaGreatDoorEiWk5
set_option linter.unusedSimpArgs false
set_option linter.unusedVariables false
open Go.Proofs Go.Shelf
open List
namespace Go.Proofs.YtbcjkdopkcbblaaGreatDoor
open Tryz
open Go.Vc Go.Md
set_option maxRecDepth 100000
set_option maxHeartbeats 4000000
theorem lY(f:ah)(g:ah)(z:List ae)(hm:HT f g=some z):Does prog 101 [.agg [lm za f.y,lm zc f.h,lm za f.r,lm zb f.o],.agg [lm za g.y,lm zc g.h,lm za g.r,lm zb g.o]] [] (fun r X=>r=lm zf z/\X=[]):=by
 unfold HT at hm
 refine dW 0 127 [.tmp 4] func101 fun B=>nA fun hA=>?_
 refine qS ?_;obtain⟨i,aB,hm⟩:=zd hm;refine sF (Uk f.h g.h _ aB) ?_;obtain⟨c,aC,hm⟩:=zd hm;refine sF (Ur f.r g.r _ aC) ?_;obtain⟨b,aD,hm⟩:=zd hm;refine sF (Uq f.o g.o _ aD) ?_;refine qS ?_
 refine ca fun K9 aA aX=>?_
 obtain⟨aY,J,hm⟩:=zj hm
 have a5:∀s,aY s=some z->K9 [(6,lm zc i.2),(7,lm za c.1),(8,lm za c.2),(9,lm zb b.1),(10,lm zb b.2),(11,.buf 2)] [.cells 26 [.top,.top,.top,.top],.cells 26 [.top,.top,.top,.top],.buf 61 10 (List.map zf s)]:=by
  intro bp hs;have hm:=J _ hs;clear hs
  try dsimp only at hm|-
  refine aA _ _ (ca fun aZ L aE=>?_);obtain⟨b0,M,hm⟩:=zj hm
  have N:∀s,b0 s=some z->aZ [(6,lm zc i.2),(8,lm za c.2),(9,lm zb b.1),(10,lm zb b.2),(11,.buf 2)] [.cells 26 [.top,.top,.top,.top],.cells 26 [.top,.top,.top,.top],.buf 61 10 (List.map zf s)]:=by
   intro bq hs;have hm:=M _ hs;clear hs
   try dsimp only at hm|-
   refine L _ _ (ca fun b1 O aF=>?_);obtain⟨b2,P,hm⟩:=zj hm
   have Q:∀s,b2 s=some z->b1 [(6,lm zc i.2),(8,lm za c.2),(10,lm zb b.2),(11,.buf 2)] [.cells 26 [.top,.top,.top,.top],.cells 26 [.top,.top,.top,.top],.buf 61 10 (List.map zf s)]:=by
    intro br hs;have hm:=P _ hs;clear hs
    try dsimp only at hm|-
    refine O _ _ (ca fun b3 R aG=>?_);obtain⟨b4,S,hm⟩:=zj hm
    have T:∀s,b4 s=some z->b3 [(8,lm za c.2),(10,lm zb b.2),(11,.buf 2)] [.cells 26 [.top,.top,.top,.top],.cells 26 [.top,.top,.top,.top],.buf 61 10 (List.map zf s)]:=by
     intro bs hs;have hm:=S _ hs;clear hs
     try dsimp only at hm|-
     refine R _ _ (ca fun b5 U aH=>?_);obtain⟨aI,u,hm⟩:=zj hm
     have V:∀s,aI s=some z->b5 [(10,lm zb b.2),(11,.buf 2)] [.cells 26 [.top,.top,.top,.top],.cells 26 [.top,.top,.top,.top],.buf 61 10 (List.map zf s)]:=by
      intro bt hs;have hm:=u _ hs;clear hs
      try dsimp only at hm|-
      refine U _ _ (ca fun b6 W aJ=>?_);obtain⟨aK,v,hm⟩:=zj hm
      have Y:∀s,aK s=some z->b6 [(11,.buf 2)] [.cells 26 [.top,.top,.top,.top],.cells 26 [.top,.top,.top,.top],.buf 61 10 (List.map zf s)]:=by
       intro bu hs;have hm:=v _ hs;clear hs
       try dsimp only at hm|-
       exact W _ _ (wQ)
      clear W v;refine qS ?_;refine Wp.block ?_;obtain⟨bC,a6,hm⟩:=zm hm
      refine fL 114 b.2.length fun a7=>?_
      refine Wp.forL (fun j s=>[(11,.buf 2),(114,lm zb b.2),(115,pI (b.2.length:Int)),(116,pI (j:Int))]) (fun j s=>[.cells 26 [.top,.top,.top,.top],.cells 26 [.top,.top,.top,.top],.buf 61 10 (List.map zf s)]) wF hm ?_;clear hm;intro j C b7 hm
      try dsimp only at hm|-
      refine qS ?_
      refine lB zb hm a7 (fun h=>aJ _ _ _ _ wF (Y C (a6 _ h))) fun a8 bD aL bv b8 b9 Z hm hA _ aM=>?_
      refine q6 ?_;obtain⟨bE,hm⟩:=zh hm;refine r6 ?_;refine aM _ _ (r6 ?_);exact wN (C++[(ae.mk 5 (ab.mk [] [] false) (aa.mk [] []) aL)]) a8 (Z _ hm)
     clear U u;refine qS ?_;refine Wp.block ?_;obtain⟨bF,a9,hm⟩:=zm hm
     refine fL 102 c.2.length fun ac=>?_
     refine Wp.forL (fun l s=>[(10,lm zb b.2),(11,.buf 2),(102,lm za c.2),(103,pI (c.2.length:Int)),(104,pI (l:Int))]) (fun l s=>[.cells 26 [.top,.top,.top,.top],.cells 26 [.top,.top,.top,.top],.buf 61 10 (List.map zf s)]) wF hm ?_;clear hm;intro l D ba hm
     try dsimp only at hm|-
     refine qS ?_
     refine lB za hm ac (fun h=>aH _ _ _ _ wF (V D (a9 _ h))) fun ad bG aN bw bb bc a0 hm hA _ aO=>?_
     refine q6 ?_;obtain⟨bH,hm⟩:=zh hm;refine r6 ?_;refine aO _ _ (r6 ?_);exact wN (D++[(ae.mk 3 (ab.mk [] [] false) aN (ai.mk [] [] false false))]) ad (a0 _ hm)
    clear R S;refine qS ?_;refine Wp.block ?_;obtain⟨bI,af,hm⟩:=zm hm
    refine fL 90 i.2.length fun ag=>?_
    refine Wp.forL (fun m s=>[(8,lm za c.2),(10,lm zb b.2),(11,.buf 2),(90,lm zc i.2),(91,pI (i.2.length:Int)),(92,pI (m:Int))]) (fun m s=>[.cells 26 [.top,.top,.top,.top],.cells 26 [.top,.top,.top,.top],.buf 61 10 (List.map zf s)]) wF hm ?_;clear hm;intro m E bd hm
    try dsimp only at hm|-
    refine qS ?_
    refine lB zc hm ag (fun h=>aG _ _ _ _ wF (T E (af _ h))) fun an bJ aP bx be bf a1 hm hA _ aQ=>?_
    refine q6 ?_;obtain⟨bK,hm⟩:=zh hm;refine r6 ?_;refine aQ _ _ (r6 ?_);exact wN (E++[(ae.mk 1 aP (aa.mk [] []) (ai.mk [] [] false false))]) an (a1 _ hm)
   clear O P;refine qS ?_;refine Wp.block ?_;obtain⟨bL,ap,hm⟩:=zm hm
   refine fL 76 b.1.length fun aq=>?_
   refine Wp.forL (fun n s=>[(6,lm zc i.2),(8,lm za c.2),(10,lm zb b.2),(11,.buf 2),(76,lm zb b.1),(77,pI (b.1.length:Int)),(78,pI (n:Int))]) (fun n s=>[.cells 26 [.top,.top,.top,.top],.cells 26 [.top,.top,.top,.top],.buf 61 10 (List.map zf s)]) wF hm ?_;clear hm;intro n F bg hm
   try dsimp only at hm|-
   refine qS ?_
   refine lB zb hm aq (fun h=>aF _ _ _ _ wF (Q F (ap _ h))) fun ar bM aR bz bh bi a2 hm hA _ aS=>?_
   refine q6 ?_;obtain⟨bN,hm⟩:=zh hm;refine r6 ?_;refine aS _ _ (r6 ?_);exact wN (F++[(ae.mk 6 (ab.mk [] [] false) (aa.mk [] []) (ai.mk aR.w [] false false))]) ar (a2 _ hm)
  clear L M;refine qS ?_;refine Wp.block ?_;obtain⟨bO,au,hm⟩:=zm hm
  refine fL 62 c.1.length fun av=>?_
  refine Wp.forL (fun p s=>[(6,lm zc i.2),(8,lm za c.2),(9,lm zb b.1),(10,lm zb b.2),(11,.buf 2),(62,lm za c.1),(63,pI (c.1.length:Int)),(64,pI (p:Int))]) (fun p s=>[.cells 26 [.top,.top,.top,.top],.cells 26 [.top,.top,.top,.top],.buf 61 10 (List.map zf s)]) wF hm ?_;clear hm;intro p G bj hm
  try dsimp only at hm|-
  refine qS ?_
  refine lB za hm av (fun h=>aE _ _ _ _ wF (N G (au _ h))) fun aw bP aT bA bk bl a3 hm hA _ aU=>?_
  refine q6 ?_;obtain⟨bQ,hm⟩:=zh hm;refine r6 ?_;refine aU _ _ (r6 ?_);exact wN (G++[(ae.mk 4 (ab.mk [] [] false) (aa.mk aT.k []) (ai.mk [] [] false false))]) aw (a3 _ hm)
 clear aA J;refine qS ?_;refine Wp.block (cd 11 61 10 rfl ?_);simp only[go_sem,simprocAttr];obtain⟨bS,ax,hm⟩:=zm hm
 refine fL 48 i.1.length fun ay=>?_
 refine Wp.forL (fun t s=>[(6,lm zc i.2),(7,lm za c.1),(8,lm za c.2),(9,lm zb b.1),(10,lm zb b.2),(11,.buf 2),(48,lm zc i.1),(49,pI (i.1.length:Int)),(50,pI (t:Int))]) (fun t s=>[.cells 26 [lm za f.y,lm zc f.h,lm za f.r,lm zb f.o],.cells 26 [lm za g.y,lm zc g.h,lm za g.r,lm zb g.o],.buf 61 10 (List.map zf s)]) wF hm ?_;clear hm;intro t I bm hm
 try dsimp only at hm|-
 refine qS ?_
 refine lB zc hm ay (fun h=>aX _ _ _ _ wF (a5 I (ax _ h))) fun az bT aV bB bn bo a4 hm hA _ aW=>?_
 refine q6 ?_;obtain⟨bU,hm⟩:=zh hm;refine r6 ?_;refine aW _ _ (r6 ?_);exact wN (I++[(ae.mk 2 (ab.mk aV.a [] false) (aa.mk [] []) (ai.mk [] [] false false))]) az (a4 _ hm)
theorem l5(b:ah)(c:List ae)(z:List ae×Int)(hm:HZ b c=some z):Does prog 58 [.agg [lm za b.y,lm zc b.h,lm za b.r,lm zb b.o],lm zf c] [] (fun r X=>r=.tup [lm zf z.1,pI z.2]/\X=[]):=by
 unfold HZ at hm
 refine dW 0 20 [.tmp 4,.tmp 5] func58 fun B=>nA fun hA=>?_
 refine qS ?_;obtain⟨i,f,hm⟩:=zd hm;refine sF (L7 b c _ f) ?_
 refine ca fun _ j _=>qS ?_
 refine cN hm (fun hm=>?_) fun hm=>?_
 .refine qS ?_
  refine Wp.ret ?_;simp only[zx,zq];refine zM ?_;cases hm;exact eZ
 .refine Wp.skip (j _ _ ?_)
  obtain⟨k,g,hm⟩:=zd hm;refine sF (lY i.1 b _ g) ?_;exact wR
theorem Rv(j:dy)(z:dy)(hm:Gl j=some z):Does prog 180 [pS j] [] (fun r X=>r=pS z/\X=[]):=by
 unfold Gl at hm
 refine dW 0 63 [.tmp 2] func180 fun B=>nA fun hA=>?_
 refine qS ?_;obtain⟨Q,hm⟩:=zh hm;refine q6 ?_;obtain⟨R,hm⟩:=zh hm;refine q6 ?_
 refine ca fun K4 w I=>?_
 obtain⟨J,n,hm⟩:=zj hm
 have t:∀s,J s=some z->K4 [(3,.buf 0)] [.buf 5 1 (List.map gT s)]:=by
  intro M hs;have hm:=n _ hs;clear hs
  try dsimp only at hm|-
  refine w _ _ ?_;obtain⟨S,hm⟩:=zh hm;exact wQ
 clear w n;refine qS ?_;refine Wp.block ?_;obtain⟨Z,F,hm⟩:=zm hm
 refine fL 0 j.length fun u=>?_
 refine Wp.forL (fun o s=>[(0,pS j),(3,.buf 0),(4,pI (o:Int))]) (fun o s=>[.buf 5 1 (List.map gT s)]) wF hm ?_;clear hm;intro o f N hm
 try dsimp only at hm|-
 refine ca fun _ L _=>qS ?_
 refine Wp.cond rfl ⟨⟩ (fun p=>?_) fun p=>Wp.exit (I _ _ _ _ wF (t f (F _ (p8 hm (u2 p)))))
 have b:=tO p;have C:=qc b u;obtain⟨k,T,v,l,c,hm⟩:=p9 hm b;clear v;refine Wp.skip ?_;simp only[zx];refine L _ _ (ca fun _ m _=>Wp.block ?_);have hA:=And.intro C l;refine q6 ?_;refine Wp.block (q6 ?_)
 refine cN hm (fun hm=>?_) fun hm=>?_
 .obtain⟨U,hm⟩:=zh hm
  refine r6 ?_;refine m _ _ (r6 ?_);exact wN (f++[92,(k.toNat:Int)]) b (c _ hm)
 .refine q6 ?_
  refine cN hm (fun hm=>?_) fun hm=>?_
  .obtain⟨V,hm⟩:=zh hm
   refine r6 ?_;refine m _ _ (r6 ?_);exact wN (f++[92,110]) b (c _ hm)
  .refine q6 ?_
   refine cN hm (fun hm=>?_) fun hm=>?_
   .obtain⟨D,O,g,hm⟩:=yQ hm
    replace g:((([48,49,50,51,52,53,54,55,56,57,97,98,99,100,101,102]:dy).getD ((Int.fdiv (k.toNat:Int) (2^(yY .u8 4))).toNat) 0).toNat:Int)=D:=g;obtain⟨E,P,i,hm⟩:=yQ hm;replace i:((([48,49,50,51,52,53,54,55,56,57,97,98,99,100,101,102]:dy).getD ((pN .and .u8 (k.toNat:Int) 15).toNat) 0).toNat:Int)=E:=i;obtain⟨W,hm⟩:=zh hm;have hA:=And.intro C (And.intro l (And.intro g i))
    refine dE (pl [(0,none),(1,none),(2,none),(3,none),(4,none),(5,none),(6,none),(7,some [0]),(8,some []),(9,none)]) fun _ G=>G _ _ ?_
    refine m _ _ (r6 ?_);exact wN (f++[92,120,D,E]) b (c _ hm)
   .obtain⟨Y,hm⟩:=zh hm
    refine r6 ?_;refine m _ _ (r6 ?_);exact wN (f++[(k.toNat:Int)]) b (c _ hm)
theorem Tj(c:dy)(f:dy)(b:ab)(z:dy)(hm:IG c f b=some z):Does prog 141 [pS c,pS f,.agg [pS b.a,pS b.B,pB b.C]] [] (fun r X=>r=pS z/\X=[]):=by
 unfold IG at hm
 refine dW 0 21 [.tmp 6] func141 fun B=>nA fun hA=>?_
 refine qS ?_
 refine ca fun K2 j k=>?_
 obtain⟨m,i,hm⟩:=zj hm
 have g:∀s,m s=some z->K2 [(0,pS s),(5,.ptr 0 0)] [.cells 57 [pS b.a,pS b.B,pB b.C]]:=by
  intro n hs;have hm:=i _ hs;clear hs
  try dsimp only at hm|-
  refine j _ _ ?_;obtain⟨u,hm⟩:=zh hm;obtain⟨v,hm⟩:=zh hm;obtain⟨w,hm⟩:=zh hm;obtain⟨D,l,hm⟩:=zd hm;obtain⟨p,hm⟩:=zh hm;obtain⟨t,hm⟩:=zh hm
  refine dS (pl [(0,none),(1,none),(2,none),(3,none),(4,none),(5,none),(6,none),(7,none),(8,none),(9,none),(10,none),(11,none)]) fun _ o=>?_
  refine cD (fun hg=>Rv b.B _ l) (o _ _ ?_);exact wR
 clear j i;refine qS ?_
 refine cN hm (fun hm=>?_) fun hm=>?_
 .refine qR ?_
  refine k _ _ _ _ ?_ (g f hm);exact fI
 .refine Wp.skip (k _ _ _ _ ?_ (g c hm))
  exact fI
theorem TF(b:dy)(c:aa)(z:dy)(hm:IK b c=some z):Does prog 142 [pS b,.agg [pS c.k,pS c.Value]] [] (fun r X=>r=pS z/\X=[]):=by
 unfold IK at hm
 refine dW 0 16 [.tmp 4] func142 fun B=>nA fun hA=>?_
 refine qS ?_;obtain⟨i,hm⟩:=zh hm;obtain⟨j,hm⟩:=zh hm;obtain⟨l,hm⟩:=zh hm;obtain⟨m,f,hm⟩:=zd hm;obtain⟨n,hm⟩:=zh hm;obtain⟨o,hm⟩:=zh hm
 refine dS (pl [(0,none),(1,none),(2,none),(3,none),(4,none),(5,none),(6,none),(7,none),(8,none),(9,none),(10,none),(11,none)]) fun _ g=>?_
 refine cD (fun hg=>Rv c.Value _ f) (g _ _ ?_);exact wR
theorem QV(b:Bool)(z:dy)(hm:HF b=some z):Does prog 181 [pB b] [] (fun r X=>r=pS z/\X=[]):=by
 unfold HF at hm
 refine dW 0 4 [.tmp 2] func181 fun B=>nA fun hA=>?_
 refine qS ?_
 refine ca fun _ c _=>qS ?_
 refine cR hm fun hm=>?_
 exact Wp.skip (c _ _ (wQ))
theorem TE(b:ai)(z:dy)(hm:IJ b=some z):Does prog 143 [.agg [pS b.w,pS b.a,pB b.D,pB b.E]] [] (fun r X=>r=pS z/\X=[]):=by
 unfold IJ at hm
 refine dW 0 21 [.tmp 2] func143 fun B=>nA fun hA=>?_
 refine qS ?_;obtain⟨k,hm⟩:=zh hm;obtain⟨l,hm⟩:=zh hm;obtain⟨m,hm⟩:=zh hm;obtain⟨n,hm⟩:=zh hm;obtain⟨o,c,hm⟩:=zd hm;obtain⟨p,hm⟩:=zh hm;obtain⟨t,hm⟩:=zh hm;obtain⟨u,f,hm⟩:=zd hm;obtain⟨i,hm⟩:=zh hm;obtain⟨j,hm⟩:=zh hm
 refine dS (pl [(0,none),(1,none),(2,none),(3,none),(4,none),(5,none),(6,none),(7,none),(8,none),(9,none),(10,none),(11,none),(12,none),(13,none),(14,none),(15,none),(16,none),(17,none),(18,none)]) fun _ g=>?_
 refine cD (fun hg=>QV b.D _ c) ?_;refine cD (fun hg=>QV b.E _ f) (g _ _ ?_);exact wR
theorem SG(b:dy)(z:dy×Int)(hm:H4 b=some z):Does prog 144 [pS b] [] (fun r X=>r=.tup [pS z.1,pI z.2]/\X=[]):=by
 unfold H4 at hm
 refine dW 0 8 [.tmp 2,.tmp 3] func144 fun B=>nA fun hA=>?_
 refine qS ?_
 refine ca fun _ c _=>qS ?_
 refine cR hm fun hm=>?_
 exact Wp.skip (c _ _ (wQ))
theorem TV(j:List ae)(z:dy×Int)(hm:CJ j=some z):Does prog 105 [lm zf j] [] (fun r X=>r=.tup [pS z.1,pI z.2]/\X=[]):=by
 unfold CJ at hm
 refine dW 0 66 [.tmp 2,.tmp 3] func105 fun B=>nA fun hA=>?_
 refine qS ?_
 refine ca fun _ a2 _=>?_
 obtain⟨ad,o,hm⟩:=zd hm;refine sX (fun hg=>RY j _ o) ?_;refine qS ?_
 refine cR hm fun hm=>?_
 refine Wp.skip (a2 _ _ (qS ?_));refine cW 0 5 rfl ?_;simp only[go_sem,simprocAttr]
 refine ca fun K9 M a3=>?_
 obtain⟨a4,m,hm⟩:=zj hm
 have p:∀s,a4 s=some z->K9 [(5,.ptr 0 0)] [.cells 181 [.np 0,.buf 1],.sb 5 s]:=by
  intro t hs;have hm:=m _ hs;clear hs
  try dsimp only at hm|-
  refine M _ _ ?_;obtain⟨a5,N,hm⟩:=zd hm;obtain⟨af,u,hm⟩:=zd hm
  refine rS fun _ O=>?_
  refine cO [0,1] (Sa t _ N) ?_;refine cX (fun hg=>SG a5 _ u) (O _ _ ?_);exact wR
 clear M m;refine qS ?_;refine Wp.block ?_;obtain⟨ag,v,hm⟩:=zm hm
 refine fL 13 j.length fun C=>?_
 refine Wp.forL (fun n s=>[(5,.ptr 0 0),(13,lm zf j),(14,pI (j.length:Int)),(15,pI (n:Int))]) (fun n s=>[.cells 181 [.np 0,.buf 1],.sb 5 s]) wF hm ?_;clear hm;intro n f a8 hm
 try dsimp only at hm|-
 refine qS ?_
 refine lB zf hm C (fun h=>a3 _ _ _ _ wF (p f (v _ h))) fun b an l ap a9 ac c hm hA _ g=>?_
 refine q6 ?_;refine q6 ?_;refine Wp.block (q6 ?_)
 refine cN hm (fun hm=>?_) fun hm=>?_
 .obtain⟨a6,P,hm⟩:=zd hm
  obtain⟨a7,Q,hm⟩:=zd hm
  refine rE fun _ R=>?_
  refine cX (fun hg=>Tj ([112,117,116]:dy) ([112,117,116,114,117,110]:dy) l.i _ P) ?_;refine cO [0,1] (zt a6 f _ Q) (R _ _ ?_);refine g _ _ (r6 ?_);exact wN a7.2 b (c _ hm)
 .refine q6 ?_
  refine cN hm (fun hm=>?_) fun hm=>?_
  .obtain⟨aq,hm⟩:=zh hm
   obtain⟨ar,hm⟩:=zh hm;obtain⟨S,D,hm⟩:=zd hm;refine eO [0,1] (zt ((([114,101,109,111,118,101,32]:dy)++l.i.a)++([10]:dy)) f _ D) ?_;refine g _ _ (r6 ?_);exact wN S.2 b (c _ hm)
  .refine q6 ?_
   refine cN hm (fun hm=>?_) fun hm=>?_
   .obtain⟨T,E,hm⟩:=zd hm
    obtain⟨U,F,hm⟩:=zd hm
    refine rE fun _ V=>?_
    refine cX (fun hg=>TF ([115,101,116]:dy) l.z _ E) ?_;refine cO [0,1] (zt T f _ F) (V _ _ ?_);refine g _ _ (r6 ?_);exact wN U.2 b (c _ hm)
   .refine q6 ?_
    refine cN hm (fun hm=>?_) fun hm=>?_
    .obtain⟨au,hm⟩:=zh hm
     obtain⟨av,hm⟩:=zh hm;obtain⟨W,G,hm⟩:=zd hm;refine eO [0,1] (zt ((([117,110,115,101,116,32]:dy)++l.z.k)++([10]:dy)) f _ G) ?_;refine g _ _ (r6 ?_);exact wN W.2 b (c _ hm)
    .refine q6 ?_
     refine cN hm (fun hm=>?_) fun hm=>?_
     .obtain⟨Y,I,hm⟩:=zd hm
      obtain⟨Z,J,hm⟩:=zd hm
      refine rE fun _ a0=>?_
      refine cX (fun hg=>TE l.q _ I) ?_;refine cO [0,1] (zt Y f _ J) (a0 _ _ ?_);refine g _ _ (r6 ?_);exact wN Z.2 b (c _ hm)
     .obtain⟨aw,hm⟩:=zh hm
      obtain⟨ax,hm⟩:=zh hm;obtain⟨a1,L,hm⟩:=zd hm;refine eO [0,1] (zt ((([100,114,111,112,32]:dy)++l.q.w)++([10]:dy)) f _ L) ?_;refine g _ _ (r6 ?_);exact wN a1.2 b (c _ hm)
theorem Ta(n:Int)(z:dy)(hm:strconv_Itoa n=some z):Does prog 106 [pI n] [] (fun r X=>r=pS z/\X=[]):=by
 obtain⟨⟨h1,h2⟩,h⟩:=zh hm;cases h;exact Does.itoa Tryz.itoaL ⟨_,func106,by kernel_rfl,by kernel_rfl⟩ (b:=1) (by kernel_rfl) (tab_1.trans (by rw[show tabL_1=Go.Lib.pow10Tab by decide +kernel])) n h1 h2
theorem T5(b:aj)(z:dy×Int)(hm:GZ b=some z):Does prog 60 [.agg [pS b.F,lm zf b.A,lm zf b.G]] [] (fun r X=>r=.tup [pS z.1,pI z.2]/\X=[]):=by
 unfold GZ at hm
 refine dW 0 62 [.tmp 2,.tmp 3] func60 fun B=>nA fun hA=>?_
 refine qS ?_
 refine ca fun _ P _=>?_
 obtain⟨a8,u,hm⟩:=zd hm;refine sX (fun hg=>DW b.F _ u) ?_
 refine cR hm fun hm=>?_
 refine Wp.skip (P _ _ ?_);obtain⟨Y,hm⟩:=zh hm;obtain⟨Z,hm⟩:=zh hm;refine q6 ?_
 refine ca fun K8 t Q=>?_
 obtain⟨R,j,hm⟩:=zj hm
 have p:∀s,R s=some z->K8 [(4,pS s)] []:=by
  intro v hs;have hm:=j _ hs;clear hs
  try dsimp only at hm|-
  refine t _ _ ?_;obtain⟨a9,w,hm⟩:=zd hm;obtain⟨a0,hm⟩:=zh hm;obtain⟨a1,hm⟩:=zh hm;obtain⟨a2,hm⟩:=zh hm;refine sX (fun hg=>Rw v _ w) ?_
  refine ca fun _ C _=>qS ?_
  refine cR hm fun hm=>?_
  exact Wp.skip (C _ _ (wQ))
 clear t j;refine qS ?_;refine Wp.block ?_;obtain⟨ac,D,hm⟩:=zm hm
 refine dk 23 fun i=>?_
 replace i:[(ao.mk ([99,104,97,110,103,101,115]:dy) b.A),(ao.mk ([111,108,100]:dy) b.G)].length<=274877906944:=Nat.le_of_ble_eq_true rfl;refine Wp.forL (fun k s=>[(4,pS s),(23,.full (List.map Cy [(ao.mk ([99,104,97,110,103,101,115]:dy) b.A),(ao.mk ([111,108,100]:dy) b.G)])),(24,pI ([(ao.mk ([99,104,97,110,103,101,115]:dy) b.A),(ao.mk ([111,108,100]:dy) b.G)].length:Int)),(25,pI (k:Int))]) (fun k s=>[.cells 98 [pS b.F,lm zf b.A,lm zf b.G]]) wF hm ?_;clear hm;intro k m U hm
 try dsimp only at hm|-
 refine qS ?_
 refine ca fun _ E _=>Wp.cond rfl ⟨⟩ (fun g=>?_) fun g=>Wp.exit (Q _ _ _ _ wF (p m (D _ (p8 hm (u2 g)))))
 have f:=tO g;have I:=qc f i;obtain⟨n,V,c,W,o,hm⟩:=p9 hm f;replace c:=c Cy;simp only[map_cons,map_nil,Cy]at c;refine Wp.skip ?_;simp only[zx];refine E _ _ (ca fun _ J _=>Wp.block ?_);have hA:=And.intro I c;refine q6 ?_;obtain⟨S,L,hm⟩:=zd hm;refine sX (fun hg=>TV n.l _ L) ?_
 refine ca fun _ M _=>q6 ?_
 refine cR hm fun hm=>?_
 refine Wp.skip (M _ _ ?_);obtain⟨a3,hm⟩:=zh hm;obtain⟨T,N,hm⟩:=zd hm;obtain⟨a4,hm⟩:=zh hm;obtain⟨a5,hm⟩:=zh hm;obtain⟨a6,hm⟩:=zh hm;obtain⟨a7,hm⟩:=zh hm
 refine dE (pl [(0,none),(1,none),(2,none),(3,none),(4,none),(5,none),(6,none),(7,none),(8,none),(9,none),(10,none),(11,none),(12,none),(13,none)]) fun _ O=>?_
 refine cD (fun hg=>Ta (n.l.length:Int) _ N) (O _ _ ?_);refine J _ _ (r6 ?_);exact wN (m++((((n.H++([32]:dy))++T)++([10]:dy))++S.1)) f (o _ hm)
theorem GR(b:dy)(z:ae)(hm:ry b=some z):Does prog 63 [pS b] [] (fun r X=>r=.agg [pI z.u,pS z.i.a,pS z.i.B,pB z.i.C,pS z.z.k,pS z.z.Value,pS z.q.w,pS z.q.a,pB z.q.D,pB z.q.E]/\X=[]):=by
 unfold ry at hm
 refine dW 0 6 [.cell 2 61] func63 fun B=>nA fun hA=>?_
 refine qS ?_;exact wQ
theorem T6(b:ah)(c:dy)(z:List aa×List ab×List aa×List ai×List ae)(hm:G3 b c=some z):Does prog 61 [.agg [lm za b.y,lm zc b.h,lm za b.r,lm zb b.o],pS c] [] (fun r X=>r=.buf 1/\X=[.cells 26 [lm za z.1,lm zc z.2.1,lm za z.2.2.1,lm zb z.2.2.2.1],.buf 61 10 (List.map zf z.2.2.2.2)]):=by
 unfold G3 at hm
 refine dW 2 40 [.tmp 4] func61 fun B=>nA fun hA=>?_
 refine qS ?_;refine qS ?_
 refine ca fun K3 v F=>?_
 obtain⟨G,j,hm⟩:=zj hm
 have m:∀s,G s=some z->K3 [(1,pS c),(2,.ptr 0 0),(5,.buf 1)] [.cells 26 [lm za b.y,lm zc b.h,lm za b.r,lm zb b.o],.buf 61 10 (List.map zf s)]:=by
  intro J hs;have hm:=j _ hs;clear hs
  try dsimp only at hm|-
  refine v _ _ (ca fun _ w _=>?_);obtain⟨V,D,hm⟩:=zd hm;refine sX (fun hg=>Cz b c _ D) ?_
  refine cN hm (fun hm=>?_) fun hm=>?_
  .obtain⟨O,n,hm⟩:=zd hm
   obtain⟨P,hm⟩:=zh hm;refine eX (fun hg=>GR c _ n) ?_;exact w _ _ (wQ)
  .exact Wp.skip (w _ _ (wQ))
 clear v j;refine qS ?_;refine Wp.block (cd 5 61 10 rfl ?_);simp only[go_sem,simprocAttr];obtain⟨Q,p,hm⟩:=zm hm
 refine fL 9 b.h.length fun t=>?_
 refine Wp.forL (fun k s=>[(1,pS c),(2,.ptr 0 0),(5,.buf 1),(9,lm zc b.h),(10,pI (b.h.length:Int)),(11,pI (k:Int))]) (fun k s=>[.cells 26 [lm za b.y,lm zc b.h,lm za b.r,lm zb b.o],.buf 61 10 (List.map zf s)]) wF hm ?_;clear hm;intro k f L hm
 try dsimp only at hm|-
 refine qS ?_
 refine lB zc hm t (fun h=>F _ _ _ _ wF (m f (p _ h))) fun g R C S M N i hm hA _ l=>?_
 refine q6 ?_;obtain⟨T,u,hm⟩:=zd hm;refine sX (fun hg=>IL C.a _ u) ?_
 refine cN hm (fun hm=>?_) fun hm=>?_
 .obtain⟨I,E,hm⟩:=zd hm
  obtain⟨U,hm⟩:=zh hm;refine eX (fun hg=>GR C.a _ E) ?_;refine l _ _ (r6 ?_);exact wN (f++[I]) g (i _ hm)
 .refine Wp.skip (l _ _ (r6 ?_))
  exact wN f g (i _ hm)
theorem OO(b:dy)(c:dy)(z:ae)(hm:DH b c=some z):Does prog 62 [pS b,pS c] [] (fun r X=>r=.agg [pI z.u,pS z.i.a,pS z.i.B,pB z.i.C,pS z.z.k,pS z.z.Value,pS z.q.w,pS z.q.a,pB z.q.D,pB z.q.E]/\X=[]):=by
 unfold DH at hm
 refine dW 0 9 [.cell 4 61] func62 fun B=>nA fun hA=>?_
 refine qS ?_;exact wQ
theorem Rp(b:ah)(c:dy)(f:List ae)(z:List ae×Int)(hm:Gn b c f=some z):Does prog 27 [.agg [lm za b.y,lm zc b.h,lm za b.r,lm zb b.o],pS c,lm zf f] [] (fun r X=>r=.tup [lm zf z.1,pI z.2]/\X=[]):=by
 unfold Gn at hm
 refine dW 0 88 [.tmp 6,.tmp 7] func27 fun B=>nA fun hA=>?_
 refine qS ?_
 refine ca fun _ U _=>?_
 obtain⟨a2,i,hm⟩:=zd hm;refine sX (fun hg=>T3 b f _ i) ?_;refine qS ?_
 refine cN hm (fun hm=>?_) fun hm=>?_
 .refine qS ?_
  refine Wp.ret ?_;simp only[zx,zq];refine zM ?_;cases hm;exact fB
 .refine Wp.skip (U _ _ (ca fun _ V _=>?_))
  obtain⟨a3,j,hm⟩:=zd hm;refine sX (fun hg=>DW c _ j) ?_
  refine cN hm (fun hm=>?_) fun hm=>?_
  .refine qS ?_
   refine Wp.ret ?_;simp only[zx,zq];refine zM ?_;cases hm;exact fB
  .refine Wp.skip (V _ _ (ca fun _ v _=>?_))
   obtain⟨u,w,hm⟩:=zd hm;refine sF (Rq b _ w) ?_;obtain⟨W,C,hm⟩:=zX hm;obtain⟨a4,k,hm⟩:=zX hm
   refine rS fun _ D=>?_
   refine cX (g:=!(decide (u.2=2))) (fun hg=>Cz b ([115,116,97,103,101,47,100,111,110,101]:dy) _ (C hg)) ?_;refine cX (g:=!((decide (u.2=2))||W)) (fun hg=>Cz b ([115,116,97,103,101,47,98,97,99,107]:dy) _ (k hg)) (D _ _ ?_)
   refine cN hm (fun hm=>?_) fun hm=>?_
   .refine qS ?_
    refine Wp.ret ?_;simp only[zx,zq];refine zM ?_;cases hm;exact eZ
   .refine Wp.skip (v _ _ ?_)
    obtain⟨Y,E,hm⟩:=zd hm;obtain⟨Z,F,hm⟩:=zd hm
    refine rS fun _ G=>?_
    refine cF (Rz b _ E) ?_;refine cF (l5 Y f _ F) (G _ _ ?_)
    refine ca fun _ I _=>qS ?_
    refine cN hm (fun hm=>?_) fun hm=>?_
    .refine qS ?_
     refine Wp.ret ?_;simp only[zx,zq];refine zM ?_;cases hm;exact eZ
    .refine Wp.skip (I _ _ ?_)
     obtain⟨a0,J,hm⟩:=zd hm;refine sX (fun hg=>T5 (aj.mk c f Z.1) _ J) ?_
     refine ca fun _ L _=>qS ?_
     refine cN hm (fun hm=>?_) fun hm=>?_
     .refine qS ?_
      refine Wp.ret ?_;simp only[zx,zq];refine zM ?_;cases hm;exact fI
     .refine Wp.skip (L _ _ ?_)
      obtain⟨a1,M,hm⟩:=zd hm;obtain⟨N,l,hm⟩:=zd hm;obtain⟨a5,hm⟩:=zh hm
      refine rS fun _ O=>?_
      refine cO [] (T6 b ([115,116,97,103,101,47,106,111,117,114,110,97,108]:dy) _ M) ?_;refine cX (fun hg=>OO ([115,116,97,103,101,47,106,111,117,114,110,97,108]:dy) a0.1 _ l) (O _ _ ?_);obtain⟨a6,hm⟩:=zh hm;refine q6 ?_;obtain⟨P,m,hm⟩:=zd hm;obtain⟨Q,n,hm⟩:=zd hm;obtain⟨R,p,hm⟩:=zd hm;obtain⟨a7,hm⟩:=zh hm
      refine rS fun _ S=>?_
      refine cX (fun hg=>OO ([115,116,97,103,101,47,100,111,110,101]:dy) c _ m) ?_;refine cX (fun hg=>GR ([115,116,97,103,101,47,106,111,117,114,110,97,108]:dy) _ n) ?_;refine cX (fun hg=>GR ([115,116,97,103,101,47,100,111,110,101]:dy) _ p) (S _ _ ?_)
      refine ca fun _ T _=>Wp.freeze 3 (by simp only[go_sem,simprocAttr];exact Is.mk) (by first|(simp only[go_sem,simprocAttr];done)|(simp only[go_sem,simprocAttr];omega)) ?_
      simp only[go_sem,simprocAttr];obtain⟨a8,t,hm⟩:=zd hm;refine sF (L7 b (((a1.2.2.2.2++[N])++f)++[P,Q,R]) _ t) ?_;refine qS ?_
      refine cN hm (fun hm=>?_) fun hm=>?_
      .refine qS ?_
       refine Wp.ret ?_;simp only[zx,zq];refine zM ?_;cases hm;exact fI
      .exact Wp.skip (T _ _ (wQ))
theorem TH(b:List ak)(z:Int)(hm:IQ b=some z):Does prog 28 [lm zK b] [] (fun r X=>r=pI z/\X=[]):=by
 unfold IQ at hm
 refine dW 0 23 [.tmp 2] func28 fun B=>nA fun hA=>?_
 refine qS ?_
 refine ca fun _ o _=>qS ?_
 refine cR hm fun hm=>?_
 refine Wp.skip (o _ _ (ca fun K6 k p=>?_));obtain⟨t,c,hm⟩:=zj hm
 have g:∀s,t s=some z->K6 [] []:=by
  intro s hs;have hm:=c _ hs;clear hs
  try dsimp only at hm|-
  exact k _ _ (wQ)
 clear k c;refine qS ?_;refine Wp.block ?_;obtain⟨E,l,hm⟩:=zm hm
 refine fL 8 b.length fun m=>?_
 refine Wp.forL (fun f s=>[(8,lm zK b),(9,pI (b.length:Int)),(10,pI (f:Int))]) (fun f s=>[]) wF hm ?_;clear hm;intro f s u hm
 try dsimp only at hm|-
 refine qS ?_
 refine lB zK hm m (fun h=>p _ _ _ _ wF (g () (l _ h))) fun i C F D v w j hm hA _ n=>?_
 refine q6 ?_;refine q6 ?_
 refine cR hm fun hm=>?_
 refine Wp.skip (n _ _ (r6 ?_));exact wN () i (j _ hm)
theorem S6(b:ah)(z:Int×List aa×List ab×List aa×List ai×(List (dy×ab))×(List (dy×Int))×(List (dy×aa))×(List (dy×ai))×List aa×Bool×Bool×Int×Bool×Int)(hm:Ir b=some z):Does prog 29 [.agg [lm za b.y,lm zc b.h,lm za b.r,lm zb b.o]] [] (fun r X=>r=.tup [.ptr 7 0,pI z.1]/\X=[.cells 26 [lm za z.2.1,lm zc z.2.2.1,lm za z.2.2.2.1,lm zb z.2.2.2.2.1],.cells 26 [.top,.top,.top,.top],.mp true (zl Dt.s zc z.2.2.2.2.2.1),.mp false (zl Dt.s zk z.2.2.2.2.2.2.1),.mp true (zl Dt.s za z.2.2.2.2.2.2.2.1),.mp true (zl Dt.s zb z.2.2.2.2.2.2.2.2.1),.cells 151 [lm za z.2.2.2.2.2.2.2.2.2.1,.mp 2,.mp 3,.mp 4,.mp 5],.cells 111 [.ptr 6 0,pB z.2.2.2.2.2.2.2.2.2.2.1,pB z.2.2.2.2.2.2.2.2.2.2.2.1,pI z.2.2.2.2.2.2.2.2.2.2.2.2.1,pB z.2.2.2.2.2.2.2.2.2.2.2.2.2.1,pI z.2.2.2.2.2.2.2.2.2.2.2.2.2.2]]):=by
 unfold Ir at hm
 refine dW 8 14 [.tmp 2,.tmp 3] func29 fun B=>nA fun hA=>?_
 refine qS ?_
 refine ca fun _ g _=>?_
 obtain⟨i,c,hm⟩:=zd hm;refine sX (fun hg=>OS b _ c) ?_;refine qS ?_
 refine cN hm (fun hm=>?_) fun hm=>?_
 .refine qS ?_
  refine Wp.ret ?_;simp only[zx,zq];cases hm
 .refine Wp.skip (g _ _ ?_)
  obtain⟨j,f,hm⟩:=zd hm;refine sO [] (OW b _ f) ?_;exact wR
theorem lZ(g:ah)(z:ah)(hm:HS g=some z):Does prog 65 [.agg [lm za g.y,lm zc g.h,lm za g.r,lm zb g.o]] [] (fun r X=>r=.agg [lm za z.y,lm zc z.h,lm za z.r,lm zb z.o]/\X=[]):=by
 unfold HS at hm
 refine dW 0 25 [.cell 2 26] func65 fun B=>nA fun hA=>?_
 refine qS ?_;obtain⟨b,n,hm⟩:=zd hm;refine sO [] (RP g _ n) ?_
 refine ca fun K4 m C=>?_
 obtain⟨E,j,hm⟩:=zj hm
 have k:∀s,E s=some z->K4 [(1,.ptr 0 0),(2,.ptr 1 0)] [.cells 26 [.buf 4,.buf 5,.buf 6,.buf 7],.cells 26 [.nils,.nils,.nils,.nils],.cells 26 [.top,.top,.top,.top],.cells 26 [.top,.top,.top,.top],.buf 50 2 (List.map za b.2.2.2.2.1),.buf 57 3 (List.map zc b.2.2.2.2.2.1),.buf 50 2 (List.map za b.2.2.2.2.2.2.1),.buf 59 4 (List.map zb s)]:=by
  intro G hs;have hm:=j _ hs;clear hs
  try dsimp only at hm|-
  exact m _ _ (wQ)
 clear m j;refine qS ?_;refine Wp.block ?_;obtain⟨M,p,hm⟩:=jF hm;refine Wp.loopN (fun s=>[(1,.ptr 0 0),(2,.ptr 1 0),(8,pI (b.2.2.2.2.2.2.2.length:Int)),(9,pI s.1)]) (fun s=>[.cells 26 [.buf 4,.buf 5,.buf 6,.buf 7],.cells 26 [.nils,.nils,.nils,.nils],.cells 26 [lm za b.1,lm zc b.2.1,lm za b.2.2.1,lm zb b.2.2.2.1],.cells 26 [.buf 4,.buf 5,.buf 6,.buf 7],.buf 50 2 (List.map za b.2.2.2.2.1),.buf 57 3 (List.map zc b.2.2.2.2.2.1),.buf 50 2 (List.map za b.2.2.2.2.2.2.1),.buf 59 4 (List.map zb s.2)]) ?_ hm ?_
 .exact fI
 clear hm;intro s I hm;obtain⟨c,f⟩:=s
 try dsimp only at hm|-
 refine qS ?_
 refine ca fun _ F _=>cN hm (fun hm=>?_) fun hm=>?_
 .refine Wp.skip (F _ _ (ca fun _ t _=>Wp.block (qS ?_)))
  obtain⟨J,hm⟩:=zh hm;obtain⟨L,hm⟩:=zh hm
  have u:=fun h=>mS (l:=f) (e:=zb) (d:=(ai.mk [] [] false false)) (i:=c.toNat) h []
  refine cz (plan:=pl [(0,none),(1,none),(2,none),(3,none),(4,none),(5,none),(6,none),(7,none),(8,none),(9,none),(10,none),(11,some [])]) (by kernel_rfl) rfl (by kernel_rfl) fun N v=>?_
  simp only[go_sem,simprocAttr,u (by omega)];refine kA v ?_;refine t _ _ (qR ?_);simp only[zx,zq,↓reduceIte];refine⟨(IntKind.i64.wrap (c+1),List.set f c.toNat (ai.mk ((f.getD c.toNat (ai.mk [] [] false false)).w) ((f.getD c.toNat (ai.mk [] [] false false)).a) ((f.getD c.toNat (ai.mk [] [] false false)).D) ((f.getD c.toNat (ai.mk [] [] false false)).D))),hm,?_⟩;exact fI
 .refine Wp.exit ?_
  simp only[zx,zq,↓reduceIte];have hm:=p _ hm
  try dsimp only at hm
  refine C _ _ _ _ ?_ (k f hm);exact fI
theorem TR(j:Bool)(k:Bool)(b:Int)(c:Bool)(f:Int)(i:List aa)(l:List (dy×ab))(m:List (dy×Int))(n:List (dy×aa))(o:List (dy×ai))(z:Int×Bool×Bool×List aa×(List (dy×ab))×(List (dy×Int))×(List (dy×aa))×(List (dy×ai)))(hm:IV j k b c f i l m n o=some z):DoesC prog 30 [.ptr 0 0] [.cells 111 [.ptr 1 0,pB j,pB k,pI b,pB c,pI f],.cells 151 [lm za i,.mp 2,.mp 3,.mp 4,.mp 5],.mp true (zl Dt.s zc l),.mp false (zl Dt.s zk m),.mp true (zl Dt.s za n),.mp true (zl Dt.s zb o)] [1,2,3,4,5] (fun r X=>r=pI z.1/\X=[.cells 111 [.ptr 1 0,pB z.2.1,pB z.2.2.1,pI b,pB c,pI f],.cells 151 [lm za z.2.2.2.1,.mp 2,.mp 3,.mp 4,.mp 5],.mp true (zl Dt.s zc z.2.2.2.2.1),.mp false (zl Dt.s zk z.2.2.2.2.2.1),.mp true (zl Dt.s za z.2.2.2.2.2.2.1),.mp true (zl Dt.s zb z.2.2.2.2.2.2.2)]):=by
 unfold IV at hm
 refine DoesC.of_wp [1,2,3,4,5] 6 24 [.tmp 2] func30 rfl (by decide) rfl rfl (Nat.le_of_ble_eq_true rfl) fun B=>?_
 refine qS ?_
 refine ca fun K2 w G=>?_
 refine qS ?_;refine cM hm (fun C hm=>?_) (fun C hm=>?_)
 .refine qS ?_
  refine Wp.ret ?_;refine Lk ?_;cases hm;exact fI
 .refine Wp.skip ?_
  refine w _ _ ?_;obtain⟨D,u,hm⟩:=zd hm;obtain⟨v,p,hm⟩:=zd hm;obtain⟨F,t,hm⟩:=zd hm
  refine cb fun K6 E=>?_
  simp only[go_sem,simprocAttr]
  try refine⟨sd,?_⟩
  refine Rg.callR (av:=?av7) (g:=true) [1,2,3,4,5] (fun hg=>Pg i l m n o _ u) si si si si sg sg sg ?cont7;simp only[go_sem,simprocAttr]
  try refine⟨sd,?_⟩
  refine Rg.callF (av:=?av8) (lZ D _ p) si si sg ?cont8;intro I;simp only[go_sem,simprocAttr]
  try refine⟨sd,?_⟩
  refine db (av:=?av9) [] (OW v _ t) si si si sg sg ?cont9;rintro _ _ ⟨rfl,rfl⟩ J;simp only[go_sem,simprocAttr];refine kA E ?_;refine qS ?_;refine qS ?_;refine Wp.repl 1 11 rfl rfl (by decide) (by exact Nat.le_of_ble_eq_true rfl) (by exact Nat.le_of_ble_eq_true rfl) ?_;simp only[go_sem,simprocAttr];refine Wp.repl 2 7 rfl rfl (by decide) (by exact Nat.le_of_ble_eq_true rfl) (by exact Nat.le_of_ble_eq_true rfl) ?_;simp only[go_sem,simprocAttr];refine Wp.repl 3 8 rfl rfl (by decide) (by exact Nat.le_of_ble_eq_true rfl) (by exact Nat.le_of_ble_eq_true rfl) ?_;simp only[go_sem,simprocAttr];refine Wp.repl 4 9 rfl rfl (by decide) (by exact Nat.le_of_ble_eq_true rfl) (by exact Nat.le_of_ble_eq_true rfl) ?_;simp only[go_sem,simprocAttr];refine Wp.repl 5 10 rfl rfl (by decide) (by exact Nat.le_of_ble_eq_true rfl) (by exact Nat.le_of_ble_eq_true rfl) ?_;simp only[go_sem,simprocAttr];refine Wp.ret ?_;refine Lk ?_;cases hm;exact fI
theorem TC(g:Int)(l:Bool)(b:Bool)(i:Bool)(j:Int)(k:Bool)(c:Int)(f:List aa)(m:List (dy×ab))(n:List (dy×Int))(o:List (dy×aa))(p:List (dy×ai))(z:Int×Bool×Int×Bool)(hm:II g l b i j k c f m n o p=some z):Does prog 31 [.ptr 0 0,pI g,pB l] [.cells 111 [.ptr 1 0,pB b,pB i,pI j,pB k,pI c],.cells 151 [lm za f,.mp 2,.mp 3,.mp 4,.mp 5],.mp true (zl Dt.s zc m),.mp false (zl Dt.s zk n),.mp true (zl Dt.s za o),.mp true (zl Dt.s zb p)] (fun r X=>r=pI z.1/\X=[.cells 111 [.ptr 1 0,pB b,pB z.2.1,pI z.2.2.1,pB z.2.2.2,pI c],.cells 151 [lm za f,.mp 2,.mp 3,.mp 4,.mp 5],.mp true (zl Dt.s zc m),.mp false (zl Dt.s zk n),.mp true (zl Dt.s za o),.mp true (zl Dt.s zb p)]):=by
 unfold II at hm
 refine dW 6 28 [.tmp 6] func31 fun B=>nA fun hA=>?_
 refine qS ?_
 refine ca fun _ t _=>qS ?_
 refine cR hm fun hm=>?_
 refine Wp.skip (t _ _ (ca fun _ u _=>qS ?_))
 refine cR hm fun hm=>?_
 refine Wp.skip (u _ _ (qS ?_));exact wQ
theorem Mx(f:Bool)(g:Bool)(i:Int)(j:Bool)(c:Int)(b:List aa)(k:List (dy×ab))(l:List (dy×Int))(m:List (dy×aa))(n:List (dy×ai))(z:ah×Int)(hm:CH f g i j c b k l m n=some z):Does prog 34 [.ptr 0 0] [.cells 111 [.ptr 1 0,pB f,pB g,pI i,pB j,pI c],.cells 151 [lm za b,.mp 2,.mp 3,.mp 4,.mp 5],.mp true (zl Dt.s zc k),.mp false (zl Dt.s zk l),.mp true (zl Dt.s za m),.mp true (zl Dt.s zb n)] (fun r X=>r=.tup [.agg [lm za z.1.y,lm zc z.1.h,lm za z.1.r,lm zb z.1.o],pI z.2]/\X=[.cells 111 [.ptr 1 0,pB f,pB g,pI i,pB j,pI c],.cells 151 [lm za b,.mp 2,.mp 3,.mp 4,.mp 5],.mp true (zl Dt.s zc k),.mp false (zl Dt.s zk l),.mp true (zl Dt.s za m),.mp true (zl Dt.s zb n)]):=by
 unfold CH at hm
 refine dW 6 14 [.cell 2 26,.tmp 3] func34 fun B=>nA fun hA=>?_
 refine qS ?_
 refine ca fun _ t _=>qS ?_
 refine cN hm (fun hm=>?_) fun hm=>?_
 .refine qS ?_
  refine Wp.ret ?_;simp only[zx,zq];refine zM ?_;cases hm;exact fI
 .refine Wp.skip (t _ _ ?_)
  obtain⟨u,p,hm⟩:=zd hm;refine sQ [1,2,3,4,5] (fun hg=>Pg b k l m n _ p) ?_;exact wR
theorem RT(b:Bool)(c:Bool)(f:Int)(g:Bool)(i:Int)(j:List aa)(l:List (dy×ab))(m:List (dy×Int))(n:List (dy×aa))(k:List (dy×ai))(z:ah×Int)(hm:GO b c f g i j l m n k=some z):Does prog 67 [.ptr 0 0] [.cells 111 [.ptr 1 0,pB b,pB c,pI f,pB g,pI i],.cells 151 [lm za j,.mp 2,.mp 3,.mp 4,.mp 5],.mp true (zl Dt.s zc l),.mp false (zl Dt.s zk m),.mp true (zl Dt.s za n),.mp true (zl Dt.s zb k)] (fun r X=>r=.tup [.agg [lm za z.1.y,lm zc z.1.h,lm za z.1.r,lm zb z.1.o],pI z.2]/\X=[.cells 111 [.ptr 1 0,pB b,pB c,pI f,pB g,pI i],.cells 151 [lm za j,.mp 2,.mp 3,.mp 4,.mp 5],.mp true (zl Dt.s zc l),.mp false (zl Dt.s zk m),.mp true (zl Dt.s za n),.mp true (zl Dt.s zb k)]):=by
 unfold GO at hm
 refine dW 6 11 [.cell 2 26,.tmp 3] func67 fun B=>nA fun hA=>?_
 refine qS ?_
 refine ca fun _ u _=>qS ?_
 refine Wp.cond rfl ⟨⟩ (fun t=>?_) (fun t=>?_)
 .cases t
 refine Wp.skip (u _ _ ?_);obtain⟨v,p,hm⟩:=zd hm;refine sQ [0,1,2,3,4,5] (fun hg=>Mx b c f g i j l m n k _ p) ?_;exact wR
theorem TT(b:ae)(F:Bool)(n:Bool)(f:Int)(j:Bool)(p:Int)(c:List aa)(t:List (dy×ab))(v:List (dy×Int))(l:List (dy×aa))(m:List (dy×ai))(z:Int×Bool×Bool×Int×(List (dy×ab))×(List (dy×Int)))(hm:Mj b F n f j p c t v l m=some z):Does prog 152 [.ptr 0 0,.agg [pI b.u,pS b.i.a,pS b.i.B,pB b.i.C,pS b.z.k,pS b.z.Value,pS b.q.w,pS b.q.a,pB b.q.D,pB b.q.E]] [.cells 111 [.ptr 1 0,pB F,pB n,pI f,pB j,pI p],.cells 151 [lm za c,.mp 2,.mp 3,.mp 4,.mp 5],.mp true (zl Dt.s zc t),.mp false (zl Dt.s zk v),.mp true (zl Dt.s za l),.mp true (zl Dt.s zb m)] (fun r X=>r=pI z.1/\X=[.cells 111 [.ptr 1 0,pB z.2.1,pB z.2.2.1,pI f,pB j,pI z.2.2.2.1],.cells 151 [lm za c,.mp 2,.mp 3,.mp 4,.mp 5],.mp true (zl Dt.s zc z.2.2.2.2.1),.mp false (zl Dt.s zk z.2.2.2.2.2),.mp true (zl Dt.s za l),.mp true (zl Dt.s zb m)]):=by
 unfold Mj at hm
 refine dW 6 61 [.tmp 4] func152 fun B=>nA fun hA=>?_
 refine qS ?_
 refine ca fun _ N _=>?_
 obtain⟨Q,I,hm⟩:=zd hm;refine sX (fun hg=>Pc b _ I) ?_;refine qS ?_
 refine cR hm fun hm=>?_
 refine Wp.skip (N _ _ (ca fun _ O _=>?_));obtain⟨R,J,hm⟩:=zd hm
 refine cj (plan:=pl [(0,none),(1,none),(2,none),(3,none),(4,none),(5,some []),(6,none)]) (by kernel_rfl) rfl (by kernel_rfl) fun K9 P=>?_
 simp only[go_sem,simprocAttr]
 try refine⟨sd,?_⟩
 refine ce (Br.callR (av:=?av10) (g:=true) (o:=?o10) [1,2,3,4,5] (fun hg=>R3 b c t v l m _ J) si si si si si sg sg sg sg ?cont10);simp only[go_sem,simprocAttr];refine kA P ?_;refine qS ?_
 refine cR hm fun hm=>?_
 refine Wp.skip (O _ _ (ca fun _ G _=>qS ?_))
 refine cN hm (fun hm=>?_) fun hm=>?_
 .obtain⟨S,hm⟩:=zh hm
  obtain⟨T,hm⟩:=zh hm;refine q6 ?_;obtain⟨U,L,hm⟩:=zd hm
  refine dS (pl [(0,none),(1,none),(2,none),(3,none),(4,none),(5,none),(6,some [])]) fun _ M=>?_
  refine cE [1,2,3,4,5] (Pb (ab.mk b.i.a (List.take ((IntKind.i64.wrap (Int.tdiv (b.i.B.length:Int) 2)).toNat) b.i.B) b.i.C) c t v l m _ L) (M _ _ ?_);refine qR ?_;refine G _ _ (qS ?_);exact wQ
 .refine Wp.skip (G _ _ (qS ?_))
  exact wQ
theorem RW(b:ae)(l:Bool)(m:Bool)(g:Int)(f:Bool)(j:Int)(c:List aa)(n:List (dy×ab))(o:List (dy×Int))(p:List (dy×aa))(t:List (dy×ai))(z:Int×Bool×Bool×Int×Int×(List (dy×ab))×(List (dy×Int))×(List (dy×aa))×(List (dy×ai)))(hm:GQ b l m g f j c n o p t=some z):Does prog 112 [.ptr 0 0,.agg [pI b.u,pS b.i.a,pS b.i.B,pB b.i.C,pS b.z.k,pS b.z.Value,pS b.q.w,pS b.q.a,pB b.q.D,pB b.q.E]] [.cells 111 [.ptr 1 0,pB l,pB m,pI g,pB f,pI j],.cells 151 [lm za c,.mp 2,.mp 3,.mp 4,.mp 5],.mp true (zl Dt.s zc n),.mp false (zl Dt.s zk o),.mp true (zl Dt.s za p),.mp true (zl Dt.s zb t)] (fun r X=>r=pI z.1/\X=[.cells 111 [.ptr 1 0,pB z.2.1,pB z.2.2.1,pI z.2.2.2.2.1,pB f,pI z.2.2.2.1],.cells 151 [lm za c,.mp 2,.mp 3,.mp 4,.mp 5],.mp true (zl Dt.s zc z.2.2.2.2.2.1),.mp false (zl Dt.s zk z.2.2.2.2.2.2.1),.mp true (zl Dt.s za z.2.2.2.2.2.2.2.1),.mp true (zl Dt.s zb z.2.2.2.2.2.2.2.2)]):=by
 unfold GQ at hm
 refine dW 6 51 [.tmp 4] func112 fun B=>nA fun hA=>?_
 refine qS ?_
 refine ca fun _ L _=>qS ?_
 refine cR hm fun hm=>?_
 refine Wp.skip (L _ _ (ca fun _ M _=>qS ?_))
 refine cN hm (fun hm=>?_) fun hm=>?_
 .obtain⟨N,F,hm⟩:=zd hm
  refine sO [0,1,2,3,4,5] (TT b l m g f j c n o p t _ F) ?_;exact wR
 .refine Wp.skip (M _ _ (ca fun _ I _=>?_))
  obtain⟨O,G,hm⟩:=zd hm
  refine dS (pl [(0,none),(1,none),(2,none),(3,none),(4,none),(5,some []),(6,none)]) fun _ J=>?_
  refine cE [1,2,3,4,5] (RS b c n o p t _ G) (J _ _ ?_);refine qS ?_
  refine cR hm fun hm=>?_
  refine Wp.skip (I _ _ (qS ?_))
  refine ca fun _ v _=>qS ?_
  refine cN hm (fun hm=>?_) fun hm=>?_
  .refine qR ?_
   exact v _ _ (wQ)
  .exact Wp.skip (v _ _ (wQ))
theorem OX(n:List ae)(o:Bool)(p:Bool)(g:Int)(b:Bool)(i:Int)(c:List aa)(t:List (dy×ab))(u:List (dy×Int))(v:List (dy×aa))(w:List (dy×ai))(z:Int×Bool×Bool×Int×Int×(List (dy×ab))×(List (dy×Int))×(List (dy×aa))×(List (dy×ai)))(hm:DP n o p g b i c t u v w=some z):Does prog 68 [.ptr 0 0,lm zf n] [.cells 111 [.ptr 1 0,pB o,pB p,pI g,pB b,pI i],.cells 151 [lm za c,.mp 2,.mp 3,.mp 4,.mp 5],.mp true (zl Dt.s zc t),.mp false (zl Dt.s zk u),.mp true (zl Dt.s za v),.mp true (zl Dt.s zb w)] (fun r X=>r=pI z.1/\X=[.cells 111 [.ptr 1 0,pB z.2.1,pB z.2.2.1,pI z.2.2.2.1,pB b,pI z.2.2.2.2.1],.cells 151 [lm za c,.mp 2,.mp 3,.mp 4,.mp 5],.mp true (zl Dt.s zc z.2.2.2.2.2.1),.mp false (zl Dt.s zk z.2.2.2.2.2.2.1),.mp true (zl Dt.s za z.2.2.2.2.2.2.2.1),.mp true (zl Dt.s zb z.2.2.2.2.2.2.2.2)]):=by
 unfold DP at hm
 refine dW 6 21 [.tmp 4] func68 fun B=>nA fun hA=>?_
 refine qS ?_
 refine ca fun K2 O V=>?_
 obtain⟨W,G,hm⟩:=zj hm
 have L:∀s,W s=some z->K2 [] [.cells 111 [.ptr 1 0,pB s.1,pB s.2.1,pI s.2.2.1,pB b,pI s.2.2.2.1],.cells 151 [lm za c,.mp 2,.mp 3,.mp 4,.mp 5],.mp true (zl Dt.s zc s.2.2.2.2.1),.mp false (zl Dt.s zk s.2.2.2.2.2.1),.mp true (zl Dt.s za s.2.2.2.2.2.2.1),.mp true (zl Dt.s zb s.2.2.2.2.2.2.2)]:=by
  intro s hs;have hm:=G _ hs;clear hs;obtain⟨R,S,T,U,a0,a1,a2,a3⟩:=s
  try dsimp only at hm|-
  exact O _ _ (wQ)
 clear O G;refine qS ?_;refine Wp.block ?_;obtain⟨a8,M,hm⟩:=zm hm
 refine fL 8 n.length fun N=>?_
 refine Wp.forL (fun I s=>[(0,.ptr 0 0),(8,lm zf n),(9,pI (n.length:Int)),(10,pI (I:Int))]) (fun I s=>[.cells 111 [.ptr 1 0,pB s.1,pB s.2.1,pI s.2.2.1,pB b,pI s.2.2.2.1],.cells 151 [lm za c,.mp 2,.mp 3,.mp 4,.mp 5],.mp true (zl Dt.s zc s.2.2.2.2.1),.mp false (zl Dt.s zk s.2.2.2.2.2.1),.mp true (zl Dt.s za s.2.2.2.2.2.2.1),.mp true (zl Dt.s zb s.2.2.2.2.2.2.2)]) wF hm ?_;clear hm;intro I s a4 hm;obtain⟨j,k,l,m,C,D,E,F⟩:=s
 try dsimp only at hm|-
 refine qS ?_
 refine lB zf hm N (fun h=>V _ _ _ _ wF (L (j,k,l,m,C,D,E,F) (M _ h))) fun P a9 Y a5 a6 a7 J hm hA _ Z=>?_
 refine q6 ?_;obtain⟨f,Q,hm⟩:=zd hm;refine sO [0,1,2,3,4,5] (RW Y j k l b m c C D E F _ Q) ?_;refine q6 ?_
 refine cR hm fun hm=>?_
 refine Wp.skip (Z _ _ (r6 ?_));exact wN (f.2.1,f.2.2.1,f.2.2.2.2.1,f.2.2.2.1,f.2.2.2.2.2.1,f.2.2.2.2.2.2.1,f.2.2.2.2.2.2.2.1,f.2.2.2.2.2.2.2.2) P (J _ hm)
theorem S7(l:dy)(p:List ae)(f:Bool)(g:Bool)(i:Int)(b:Bool)(j:Int)(c:List aa)(m:List (dy×ab))(n:List (dy×Int))(o:List (dy×aa))(k:List (dy×ai))(z:Int×Bool×Bool×Int×Int×(List (dy×ab))×(List (dy×Int))×(List (dy×aa))×(List (dy×ai)))(hm:Iv l p f g i b j c m n o k=some z):Does prog 32 [.ptr 0 0,pS l,lm zf p] [.cells 111 [.ptr 1 0,pB f,pB g,pI i,pB b,pI j],.cells 151 [lm za c,.mp 2,.mp 3,.mp 4,.mp 5],.mp true (zl Dt.s zc m),.mp false (zl Dt.s zk n),.mp true (zl Dt.s za o),.mp true (zl Dt.s zb k)] (fun r X=>r=pI z.1/\X=[.cells 111 [.ptr 1 0,pB z.2.1,pB z.2.2.1,pI z.2.2.2.1,pB b,pI z.2.2.2.2.1],.cells 151 [lm za c,.mp 2,.mp 3,.mp 4,.mp 5],.mp true (zl Dt.s zc z.2.2.2.2.2.1),.mp false (zl Dt.s zk z.2.2.2.2.2.2.1),.mp true (zl Dt.s za z.2.2.2.2.2.2.2.1),.mp true (zl Dt.s zb z.2.2.2.2.2.2.2.2)]):=by
 unfold Iv at hm
 refine dW 6 31 [.tmp 6] func32 fun B=>nA fun hA=>?_
 refine qS ?_;obtain⟨w,t,hm⟩:=zd hm;refine sQ [0,1,2,3,4,5] (fun hg=>RT f g i b j c m n o k _ t) ?_
 refine ca fun _ E _=>qS ?_
 refine cR hm fun hm=>?_
 refine Wp.skip (E _ _ ?_);obtain⟨C,u,hm⟩:=zd hm;refine sF (Rp w.1 l p _ u) ?_
 refine ca fun _ D _=>qS ?_
 refine cR hm fun hm=>?_
 refine Wp.skip (D _ _ ?_);obtain⟨F,v,hm⟩:=zd hm;refine sO [0,1,2,3,4,5] (OX C.1 f g i b j c m n o k _ v) ?_;exact wR
theorem T1(b:ab)(z:Bool)(hm:I7 b=some z):Does prog 113 [.agg [pS b.a,pS b.B,pB b.C]] [] (fun r X=>r=pB z/\X=[]):=by
 unfold I7 at hm
 refine dW 0 6 [.tmp 2] func113 fun B=>nA fun hA=>?_
 refine qS ?_;obtain⟨f,c,hm⟩:=zd hm;refine sX (fun hg=>IL b.a _ c) ?_;exact wR
theorem UQ(b:List ab)(z:Int)(hm:MF b=some z):Does prog 127 [lm zc b,.fn 113 []] [] (fun r X=>r=pI z/\X=[]):=by
 unfold MF at hm
 refine dW 0 19 [.tmp 4] func127 fun B=>nA fun hA=>?_
 refine qS ?_
 refine ca fun K2 j o=>?_
 obtain⟨p,c,hm⟩:=zj hm
 have g:∀s,p s=some z->K2 [] []:=by
  intro s hs;have hm:=c _ hs;clear hs
  try dsimp only at hm|-
  exact j _ _ (wQ)
 clear j c;refine qS ?_;refine Wp.block ?_;obtain⟨E,k,hm⟩:=zm hm
 refine fL 0 b.length fun l=>?_
 refine Wp.forL (fun f s=>[(0,lm zc b),(1,.fn 113 []),(7,pI (b.length:Int)),(8,pI (f:Int))]) (fun f s=>[]) wF hm ?_;clear hm;intro f s v hm
 try dsimp only at hm|-
 refine qS ?_
 refine lB zc hm l (fun h=>o _ _ _ _ wF (g () (k _ h))) fun m F t D w C i hm hA _ u=>?_
 refine q6 ?_;obtain⟨G,n,hm⟩:=zd hm;refine sX (fun hg=>T1 t _ n) ?_
 refine cR hm fun hm=>?_
 refine Wp.skip (u _ _ (r6 ?_));exact wN () m (i _ hm)
end Go.Proofs.YtbcjkdopkcbblaaGreatDoor
