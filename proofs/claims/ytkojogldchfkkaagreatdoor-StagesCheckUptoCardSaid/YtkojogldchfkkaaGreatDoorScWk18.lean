/- That the code does what the models say (part 18). -/
import Derived.Test.YtkojogldchfkkaaGreatDoorScWk0
import Derived.Test.YtkojogldchfkkaaGreatDoorScWk3
import Derived.Test.YtkojogldchfkkaaGreatDoorScWk4
import Derived.Test.YtkojogldchfkkaaGreatDoorScWk5
set_option linter.unusedSimpArgs false
set_option linter.unusedVariables false
open Go.Proofs Go.Shelf
open List
namespace Go.Proofs.YtkojogldchfkkaaGreatDoor
open Tryz
open Go.Vc Go.Md
set_option maxRecDepth 100000
set_option maxHeartbeats 4000000
theorem s5(g:ai)(j:ai)(z:List ae)(hm:jw g j=some z):Does prog 100 [.agg [lm za g.m,lm zc g.b,lm za g.i,lm zb g.h],.agg [lm za j.m,lm zc j.b,lm za j.i,lm zb j.h]] [] (fun r X=>r=lm zf z/\X=[]):=by
 unfold jw at hm
 refine dW 0 249 [.tmp 4] func100 fun B=>nA fun hA=>?_
 refine qS ?_;obtain⟨f,bG,hm⟩:=zd hm;obtain⟨c,bH,hm⟩:=zd hm
 refine dS (pl [(0,none),(2,none),(1,some [2]),(3,some []),(4,none),(5,none)]) fun _ c1=>?_
 refine cE [] (CT g _ bG) ?_;refine cE [] (CT j _ bH) (c1 _ _ ?_);refine qS ?_
 refine df fun K6 bC c2=>?_
 obtain⟨bI,aC,hm⟩:=zj hm
 have b5:∀s,bI s=some z->K6 [(5,.ptr 6 0),(6,.ptr 11 0),(7,.buf 12)] [.cells 26 [.top,.top,.top,.top],.cells 26 [.top,.top,.top,.top],.cells 26 [.top,.top,.top,.top],.mp true (zm Dt.s zc f.1),.mp false (zm Dt.s eD f.2.1),.mp true (zm Dt.s zb f.2.2.1),.cells 67 [lm za f.2.2.2,.mp 3,.mp 4,.mp 5],.cells 26 [.top,.top,.top,.top],.mp true (zm Dt.s zc c.1),.mp false (zm Dt.s eD c.2.1),.mp true (zm Dt.s zb c.2.2.1),.cells 67 [lm za c.2.2.2,.mp 8,.mp 9,.mp 10],.buf 50 10 (List.map zf s)]:=by
  intro c3 hs;have hm:=aC _ hs;clear hs
  try dsimp only at hm|-
  refine bC _ _ (df fun K7 bD c4=>?_);obtain⟨bJ,aD,hm⟩:=zj hm
  have b6:∀s,bJ s=some z->K7 [(5,.ptr 6 0),(6,.ptr 11 0),(7,.buf 12)] [.cells 26 [.top,.top,.top,.top],.cells 26 [.top,.top,.top,.top],.cells 26 [.top,.top,.top,.top],.mp true (zm Dt.s zc f.1),.mp false (zm Dt.s eD f.2.1),.mp true (zm Dt.s zb f.2.2.1),.cells 67 [lm za f.2.2.2,.mp 3,.mp 4,.mp 5],.cells 26 [.top,.top,.top,.top],.mp true (zm Dt.s zc c.1),.mp false (zm Dt.s eD c.2.1),.mp true (zm Dt.s zb c.2.2.1),.cells 67 [lm za c.2.2.2,.mp 8,.mp 9,.mp 10],.buf 50 10 (List.map zf s)]:=by
   intro c5 hs;have hm:=aD _ hs;clear hs
   try dsimp only at hm|-
   refine bD _ _ (df fun K8 bE c6=>?_);obtain⟨bK,aE,hm⟩:=zj hm
   have b7:∀s,bK s=some z->K8 [(5,.ptr 6 0),(6,.ptr 11 0),(7,.buf 12)] [.cells 26 [.top,.top,.top,.top],.cells 26 [.top,.top,.top,.top],.cells 26 [.top,.top,.top,.top],.mp true (zm Dt.s zc f.1),.mp false (zm Dt.s eD f.2.1),.mp true (zm Dt.s zb f.2.2.1),.cells 67 [lm za f.2.2.2,.mp 3,.mp 4,.mp 5],.cells 26 [.top,.top,.top,.top],.mp true (zm Dt.s zc c.1),.mp false (zm Dt.s eD c.2.1),.mp true (zm Dt.s zb c.2.2.1),.cells 67 [lm za c.2.2.2,.mp 8,.mp 9,.mp 10],.buf 50 10 (List.map zf s)]:=by
    intro c7 hs;have hm:=aE _ hs;clear hs
    try dsimp only at hm|-
    refine bE _ _ (df fun K9 bF c9=>?_);obtain⟨bL,aF,hm⟩:=zj hm
    have b8:∀s,bL s=some z->K9 [(5,.ptr 6 0),(6,.ptr 11 0),(7,.buf 12)] [.cells 26 [.top,.top,.top,.top],.cells 26 [.top,.top,.top,.top],.cells 26 [.top,.top,.top,.top],.mp true (zm Dt.s zc f.1),.mp false (zm Dt.s eD f.2.1),.mp true (zm Dt.s zb f.2.2.1),.cells 67 [lm za f.2.2.2,.mp 3,.mp 4,.mp 5],.cells 26 [.top,.top,.top,.top],.mp true (zm Dt.s zc c.1),.mp false (zm Dt.s eD c.2.1),.mp true (zm Dt.s zb c.2.2.1),.cells 67 [lm za c.2.2.2,.mp 8,.mp 9,.mp 10],.buf 50 10 (List.map zf s)]:=by
     intro ca hs;have hm:=aF _ hs;clear hs
     try dsimp only at hm|-
     refine bF _ _ (df fun cb aS bM=>?_);obtain⟨bN,aG,hm⟩:=zj hm
     have aT:∀s,bN s=some z->cb [(5,.ptr 6 0),(6,.ptr 11 0),(7,.buf 12)] [.cells 26 [.top,.top,.top,.top],.cells 26 [.top,.top,.top,.top],.cells 26 [.top,.top,.top,.top],.mp true (zm Dt.s zc f.1),.mp false (zm Dt.s eD f.2.1),.mp true (zm Dt.s zb f.2.2.1),.cells 67 [lm za f.2.2.2,.mp 3,.mp 4,.mp 5],.cells 26 [.top,.top,.top,.top],.mp true (zm Dt.s zc c.1),.mp false (zm Dt.s eD c.2.1),.mp true (zm Dt.s zb c.2.2.1),.cells 67 [lm za c.2.2.2,.mp 8,.mp 9,.mp 10],.buf 50 10 (List.map zf s)]:=by
      intro cc hs;have hm:=aG _ hs;clear hs
      try dsimp only at hm|-
      refine aS _ _ (df fun cd aU bO=>?_);obtain⟨bP,aH,hm⟩:=zj hm
      have aV:∀s,bP s=some z->cd [(7,.buf 12)] [.cells 26 [.top,.top,.top,.top],.cells 26 [.top,.top,.top,.top],.cells 26 [.top,.top,.top,.top],.mp true (zm Dt.s zc f.1),.mp false (zm Dt.s eD f.2.1),.mp true (zm Dt.s zb f.2.2.1),.cells 67 [.top,.top,.top,.top],.cells 26 [.top,.top,.top,.top],.mp true (zm Dt.s zc c.1),.mp false (zm Dt.s eD c.2.1),.mp true (zm Dt.s zb c.2.2.1),.cells 67 [.top,.top,.top,.top],.buf 50 10 (List.map zf s)]:=by
       intro ce hs;have hm:=aH _ hs;clear hs
       try dsimp only at hm|-
       exact aU _ _ (wQ)
      clear aU aH;obtain⟨a9,b9,hm⟩:=zd hm;refine sQ [10] (fun hg=>NB c.2.2.1 _ b9) ?_;refine Wp.block ?_;obtain⟨cz,ba,hm⟩:=zl hm
      refine fL 210 a9.length fun bb=>?_
      refine Wp.forL (fun ac s=>[(5,.ptr 6 0),(6,.ptr 11 0),(7,.buf 12),(210,lm eD a9),(211,pI (a9.length:Int)),(212,pI (ac:Int))]) (fun ac s=>[.cells 26 [.top,.top,.top,.top],.cells 26 [.top,.top,.top,.top],.cells 26 [.top,.top,.top,.top],.mp true (zm Dt.s zc f.1),.mp false (zm Dt.s eD f.2.1),.mp true (zm Dt.s zb f.2.2.1),.cells 67 [lm za f.2.2.2,.mp 3,.mp 4,.mp 5],.cells 26 [.top,.top,.top,.top],.mp true (zm Dt.s zc c.1),.mp false (zm Dt.s eD c.2.1),.mp true (zm Dt.s zb c.2.2.1),.cells 67 [lm za c.2.2.2,.mp 8,.mp 9,.mp 10],.buf 50 10 (List.map zf s)]) wF hm ?_;clear hm;intro ac k cf hm
      try dsimp only at hm|-
      refine qS ?_
      refine lB eD hm bb (fun h=>bO _ _ _ _ wF (aV k (ba _ h))) fun aI ad v co D cp G hm hA _ aW=>?_
      refine q6 ?_;obtain⟨cA,bQ,hm⟩:=zI hm;have aJ:=zw (e:=zb) zZ f.2.2.1 v (ah.mk [] [] false false);have aK:=zu (e:=zb) zZ f.2.2.1 v;simp only[bQ,zb,map_nil]at aJ aK;have hA:=And.intro ad (And.intro D (And.intro aJ aK));refine q6 ?_;obtain⟨cB,bS,hm⟩:=zI hm;have aL:=zw (e:=zb) zZ c.2.2.1 v (ah.mk [] [] false false);have aM:=zu (e:=zb) zZ c.2.2.1 v;simp only[bS,zb,map_nil]at aL aM;have hA:=And.intro ad (And.intro D (And.intro aL aM))
      refine dS (pl [(0,none),(1,none),(2,none),(3,none),(4,none),(5,none),(6,none),(7,none),(8,none),(9,none),(10,none),(11,none)]) fun _ bT=>bT _ _ ?_
      refine cN hm (fun hm=>?_) fun hm=>?_
      .obtain⟨bU,bc,hm⟩:=zI hm
       have I:=zw (e:=zb) zZ c.2.2.1 v (ah.mk [] [] false false);have J:=zu (e:=zb) zZ c.2.2.1 v;simp only[bc,zb,map_nil]at I J;obtain⟨cC,hm⟩:=zh hm;have hA:=And.intro ad (And.intro D (And.intro I J));refine r6 ?_;refine aW _ _ (r6 ?_);exact wN (k++[(ae.mk 5 (ab.mk [] [] false) (aa.mk [] []) (bU.getD (ah.mk [] [] false false)))]) aI (G _ hm)
      .refine Wp.skip (aW _ _ (r6 ?_))
       exact wN k aI (G _ hm)
     clear aS aG;obtain⟨af,bd,hm⟩:=zd hm;refine sQ [9] (fun hg=>Nt c.2.1 _ bd) ?_;refine Wp.block ?_;obtain⟨cG,be,hm⟩:=zl hm
     refine fL 166 af.length fun bf=>?_
     refine Wp.forL (fun ag s=>[(5,.ptr 6 0),(6,.ptr 11 0),(7,.buf 12),(166,lm eD af),(167,pI (af.length:Int)),(168,pI (ag:Int))]) (fun ag s=>[.cells 26 [.top,.top,.top,.top],.cells 26 [.top,.top,.top,.top],.cells 26 [.top,.top,.top,.top],.mp true (zm Dt.s zc f.1),.mp false (zm Dt.s eD f.2.1),.mp true (zm Dt.s zb f.2.2.1),.cells 67 [lm za f.2.2.2,.mp 3,.mp 4,.mp 5],.cells 26 [.top,.top,.top,.top],.mp true (zm Dt.s zc c.1),.mp false (zm Dt.s eD c.2.1),.mp true (zm Dt.s zb c.2.2.1),.cells 67 [lm za c.2.2.2,.mp 8,.mp 9,.mp 10],.buf 50 10 (List.map zf s)]) wF hm ?_;clear hm;intro ag l cg hm
     try dsimp only at hm|-
     refine qS ?_
     refine lB eD hm bf (fun h=>bM _ _ _ _ wF (aT l (be _ h))) fun aN an n cq E cr L hm hA _ aX=>?_
     refine q6 ?_;obtain⟨cH,bg,hm⟩:=zI hm;have M:=zw (e:=eD) zZ f.2.1 n [];have N:=zu (e:=eD) zZ f.2.1 n;simp only[bg,eD,map_nil]at M N;have hA:=And.intro an (And.intro E (And.intro M N));refine q6 ?_;obtain⟨cI,bh,hm⟩:=zI hm;have O:=zw (e:=eD) zZ c.2.1 n [];have P:=zu (e:=eD) zZ c.2.1 n;simp only[bh,eD,map_nil]at O P;have hA:=And.intro an (And.intro E (And.intro O P));refine q6 ?_
     refine cN hm (fun hm=>?_) fun hm=>?_
     .obtain⟨bV,bi,hm⟩:=zI hm
      have Q:=zw (e:=eD) zZ c.2.1 n [];have R:=zu (e:=eD) zZ c.2.1 n;simp only[bi,eD,map_nil]at Q R;obtain⟨cJ,hm⟩:=zh hm;have hA:=And.intro an (And.intro E (And.intro Q R));refine r6 ?_;refine aX _ _ (r6 ?_);exact wN (l++[(ae.mk 3 (ab.mk [] [] false) (aa.mk n (bV.getD [])) (ah.mk [] [] false false))]) aN (L _ hm)
     .refine Wp.skip (aX _ _ (r6 ?_))
      exact wN l aN (L _ hm)
    clear bF aF;obtain⟨ao,bj,hm⟩:=zd hm;refine sQ [8] (fun hg=>KY c.1 _ bj) ?_;refine Wp.block ?_;obtain⟨cK,bk,hm⟩:=zl hm
    refine fL 124 ao.length fun bl=>?_
    refine Wp.forL (fun ap s=>[(5,.ptr 6 0),(6,.ptr 11 0),(7,.buf 12),(124,lm eD ao),(125,pI (ao.length:Int)),(126,pI (ap:Int))]) (fun ap s=>[.cells 26 [.top,.top,.top,.top],.cells 26 [.top,.top,.top,.top],.cells 26 [.top,.top,.top,.top],.mp true (zm Dt.s zc f.1),.mp false (zm Dt.s eD f.2.1),.mp true (zm Dt.s zb f.2.2.1),.cells 67 [lm za f.2.2.2,.mp 3,.mp 4,.mp 5],.cells 26 [.top,.top,.top,.top],.mp true (zm Dt.s zc c.1),.mp false (zm Dt.s eD c.2.1),.mp true (zm Dt.s zb c.2.2.1),.cells 67 [lm za c.2.2.2,.mp 8,.mp 9,.mp 10],.buf 50 10 (List.map zf s)]) wF hm ?_;clear hm;intro ap o ch hm
    try dsimp only at hm|-
    refine qS ?_
    refine lB eD hm bl (fun h=>c9 _ _ _ _ wF (b8 o (bk _ h))) fun aO aq C cs F ct S hm hA _ aY=>?_
    refine q6 ?_;obtain⟨cL,bm,hm⟩:=zI hm;have T:=zw (e:=zc) zZ f.1 C (ab.mk [] [] false);have U:=zu (e:=zc) zZ f.1 C;simp only[bm,zc,map_nil]at T U;have hA:=And.intro aq (And.intro F (And.intro T U));refine q6 ?_;obtain⟨cP,bn,hm⟩:=zI hm;have V:=zw (e:=zc) zZ c.1 C (ab.mk [] [] false);have W:=zu (e:=zc) zZ c.1 C;simp only[bn,zc,map_nil]at V W;have hA:=And.intro aq (And.intro F (And.intro V W))
    refine dS (pl [(0,none),(1,none),(2,none),(3,none),(4,none),(5,none),(6,none),(7,none),(8,none),(9,none),(10,none),(11,none)]) fun _ bW=>bW _ _ ?_
    refine cN hm (fun hm=>?_) fun hm=>?_
    .obtain⟨bX,bo,hm⟩:=zI hm
     have Y:=zw (e:=zc) zZ c.1 C (ab.mk [] [] false);have Z:=zu (e:=zc) zZ c.1 C;simp only[bo,zc,map_nil]at Y Z;obtain⟨cS,hm⟩:=zh hm;have hA:=And.intro aq (And.intro F (And.intro Y Z));refine r6 ?_;refine aY _ _ (r6 ?_);exact wN (o++[(ae.mk 1 (bX.getD (ab.mk [] [] false)) (aa.mk [] []) (ah.mk [] [] false false))]) aO (S _ hm)
    .refine Wp.skip (aY _ _ (r6 ?_))
     exact wN o aO (S _ hm)
   clear bE aE;obtain⟨ar,bp,hm⟩:=zd hm;refine sQ [5] (fun hg=>NB f.2.2.1 _ bp) ?_;refine Wp.block ?_;obtain⟨cU,bq,hm⟩:=zl hm
   refine fL 96 ar.length fun br=>?_
   refine Wp.forL (fun au s=>[(5,.ptr 6 0),(6,.ptr 11 0),(7,.buf 12),(96,lm eD ar),(97,pI (ar.length:Int)),(98,pI (au:Int))]) (fun au s=>[.cells 26 [.top,.top,.top,.top],.cells 26 [.top,.top,.top,.top],.cells 26 [.top,.top,.top,.top],.mp true (zm Dt.s zc f.1),.mp false (zm Dt.s eD f.2.1),.mp true (zm Dt.s zb f.2.2.1),.cells 67 [lm za f.2.2.2,.mp 3,.mp 4,.mp 5],.cells 26 [.top,.top,.top,.top],.mp true (zm Dt.s zc c.1),.mp false (zm Dt.s eD c.2.1),.mp true (zm Dt.s zb c.2.2.1),.cells 67 [lm za c.2.2.2,.mp 8,.mp 9,.mp 10],.buf 50 10 (List.map zf s)]) wF hm ?_;clear hm;intro au p ci hm
   try dsimp only at hm|-
   refine qS ?_
   refine lB eD hm br (fun h=>c6 _ _ _ _ wF (b7 p (bq _ h))) fun aP bY av cu aZ cj a0 hm hA _ b0=>?_
   refine q6 ?_;obtain⟨cV,bs,hm⟩:=zI hm;have a1:=zw (e:=zb) zZ c.2.2.1 av (ah.mk [] [] false false);have a2:=zu (e:=zb) zZ c.2.2.1 av;simp only[bs,zb,map_nil]at a1 a2;have hA:=And.intro bY (And.intro aZ (And.intro a1 a2));refine q6 ?_;refine q6 ?_
   refine cN hm (fun hm=>?_) fun hm=>?_
   .obtain⟨cW,hm⟩:=zh hm
    refine r6 ?_;refine b0 _ _ (r6 ?_);exact wN (p++[(ae.mk 6 (ab.mk [] [] false) (aa.mk [] []) (ah.mk av [] false false))]) aP (a0 _ hm)
   .refine Wp.skip (b0 _ _ (r6 ?_))
    exact wN p aP (a0 _ hm)
  clear bD aD;obtain⟨aw,bt,hm⟩:=zd hm;refine sQ [4] (fun hg=>Nt f.2.1 _ bt) ?_;refine Wp.block ?_;obtain⟨cY,bu,hm⟩:=zl hm
  refine fL 68 aw.length fun bv=>?_
  refine Wp.forL (fun ax s=>[(5,.ptr 6 0),(6,.ptr 11 0),(7,.buf 12),(68,lm eD aw),(69,pI (aw.length:Int)),(70,pI (ax:Int))]) (fun ax s=>[.cells 26 [.top,.top,.top,.top],.cells 26 [.top,.top,.top,.top],.cells 26 [.top,.top,.top,.top],.mp true (zm Dt.s zc f.1),.mp false (zm Dt.s eD f.2.1),.mp true (zm Dt.s zb f.2.2.1),.cells 67 [lm za f.2.2.2,.mp 3,.mp 4,.mp 5],.cells 26 [.top,.top,.top,.top],.mp true (zm Dt.s zc c.1),.mp false (zm Dt.s eD c.2.1),.mp true (zm Dt.s zb c.2.2.1),.cells 67 [lm za c.2.2.2,.mp 8,.mp 9,.mp 10],.buf 50 10 (List.map zf s)]) wF hm ?_;clear hm;intro ax t ck hm
  try dsimp only at hm|-
  refine qS ?_
  refine lB eD hm bv (fun h=>c4 _ _ _ _ wF (b6 t (bu _ h))) fun aQ bZ ay cw b1 cl a3 hm hA _ b2=>?_
  refine q6 ?_;obtain⟨cZ,bw,hm⟩:=zI hm;have a4:=zw (e:=eD) zZ c.2.1 ay [];have a5:=zu (e:=eD) zZ c.2.1 ay;simp only[bw,eD,map_nil]at a4 a5;have hA:=And.intro bZ (And.intro b1 (And.intro a4 a5));refine q6 ?_;refine q6 ?_
  refine cN hm (fun hm=>?_) fun hm=>?_
  .obtain⟨da,hm⟩:=zh hm
   refine r6 ?_;refine b2 _ _ (r6 ?_);exact wN (t++[(ae.mk 4 (ab.mk [] [] false) (aa.mk ay []) (ah.mk [] [] false false))]) aQ (a3 _ hm)
  .refine Wp.skip (b2 _ _ (r6 ?_))
   exact wN t aQ (a3 _ hm)
 clear bC aC;obtain⟨az,bx,hm⟩:=zd hm;refine sQ [3] (fun hg=>KY f.1 _ bx) ?_;refine Wp.block (di 7 50 10 rfl ?_);simp only[go_sem,simprocAttr];obtain⟨db,bz,hm⟩:=zl hm
 refine fL 40 az.length fun bA=>?_
 refine Wp.forL (fun aA s=>[(5,.ptr 6 0),(6,.ptr 11 0),(7,.buf 12),(40,lm eD az),(41,pI (az.length:Int)),(42,pI (aA:Int))]) (fun aA s=>[.cells 26 [lm za g.m,lm zc g.b,lm za g.i,lm zb g.h],.cells 26 [lm za j.m,lm zc j.b,lm za j.i,lm zb j.h],.cells 26 [.top,.top,.top,.top],.mp true (zm Dt.s zc f.1),.mp false (zm Dt.s eD f.2.1),.mp true (zm Dt.s zb f.2.2.1),.cells 67 [lm za f.2.2.2,.mp 3,.mp 4,.mp 5],.cells 26 [.top,.top,.top,.top],.mp true (zm Dt.s zc c.1),.mp false (zm Dt.s eD c.2.1),.mp true (zm Dt.s zb c.2.2.1),.cells 67 [lm za c.2.2.2,.mp 8,.mp 9,.mp 10],.buf 50 10 (List.map zf s)]) wF hm ?_;clear hm;intro aA u cm hm
 try dsimp only at hm|-
 refine qS ?_
 refine lB eD hm bA (fun h=>c2 _ _ _ _ wF (b5 u (bz _ h))) fun aR c0 aB cy b3 cn a6 hm hA _ b4=>?_
 refine q6 ?_;obtain⟨dc,bB,hm⟩:=zI hm;have a7:=zw (e:=zc) zZ c.1 aB (ab.mk [] [] false);have a8:=zu (e:=zc) zZ c.1 aB;simp only[bB,zc,map_nil]at a7 a8;have hA:=And.intro c0 (And.intro b3 (And.intro a7 a8));refine q6 ?_;refine q6 ?_
 refine cN hm (fun hm=>?_) fun hm=>?_
 .obtain⟨de,hm⟩:=zh hm
  refine r6 ?_;refine b4 _ _ (r6 ?_);exact wN (u++[(ae.mk 2 (ab.mk aB [] false) (aa.mk [] []) (ah.mk [] [] false false))]) aR (a6 _ hm)
 .refine Wp.skip (b4 _ _ (r6 ?_))
  exact wN u aR (a6 _ hm)
theorem sZ(c:ai)(f:List ae)(z:List ae×Int)(hm:ju c f=some z):Does prog 52 [.agg [lm za c.m,lm zc c.b,lm za c.i,lm zb c.h],lm zf f] [] (fun r X=>r=.tup [lm zf z.1,pI z.2]/\X=[]):=by
 unfold ju at hm
 refine dW 0 20 [.tmp 4,.tmp 5] func52 fun B=>nA fun hA=>?_
 refine qS ?_;obtain⟨k,g,hm⟩:=zd hm;refine sF (Ho c f _ g) ?_
 refine df fun _ l _=>qS ?_
 refine cN hm (fun hm=>?_) fun hm=>?_
 .refine qS ?_
  refine Wp.ret ?_;simp only[zy,zq];refine zL ?_;cases hm;exact fT
 .refine Wp.skip (l _ _ ?_)
  obtain⟨n,j,hm⟩:=zd hm;refine sF (s5 k.1 c _ j) ?_;exact wR
theorem Kp(b:eA)(z:ae)(hm:uq b=some z):Does prog 56 [pS b] [] (fun r X=>r=.agg [pI z.k,pS z.g.a,pS z.g.q,pB z.g.r,pS z.o.e,pS z.o.Value,pS z.f.j,pS z.f.a,pB z.f.u,pB z.f.t]/\X=[]):=by
 unfold uq at hm
 refine dW 0 6 [.cell 2 50] func56 fun B=>nA fun hA=>?_
 refine qS ?_;exact wQ
theorem RA(b:eA)(c:List aa)(f:List (eA×ab))(g:List (eA×eA))(i:List (eA×ah))(z:List ae)(hm:FD b c f g i=some z):Does prog 54 [.ptr 0 0,pS b] [.cells 67 [lm za c,.mp 1,.mp 2,.mp 3],.mp true (zm Dt.s zc f),.mp false (zm Dt.s eD g),.mp true (zm Dt.s zb i)] (fun r X=>r=.buf 4/\X=[.cells 67 [lm za c,.mp 1,.mp 2,.mp 3],.mp true (zm Dt.s zc f),.mp false (zm Dt.s eD g),.mp true (zm Dt.s zb i),.buf 50 10 (List.map zf z)]):=by
 unfold FD at hm
 refine dW 5 37 [.tmp 4] func54 fun B=>nA fun hA=>?_
 refine qS ?_;refine qS ?_;refine qS ?_
 refine df fun K4 I N=>?_
 obtain⟨O,o,hm⟩:=zj hm
 have v:∀s,O s=some z->K4 [(1,pS b),(5,.buf 4),(6,pB s.1)] [.cells 67 [lm za c,.mp 1,.mp 2,.mp 3],.mp true (zm Dt.s zc f),.mp false (zm Dt.s eD g),.mp true (zm Dt.s zb i),.buf 50 10 (List.map zf s.2)]:=by
  intro s hs;have hm:=o _ hs;clear hs;obtain⟨P,S⟩:=s
  try dsimp only at hm|-
  refine I _ _ (df fun _ J _=>qS ?_)
  refine cN hm (fun hm=>?_) fun hm=>?_
  .obtain⟨V,C,hm⟩:=zd hm
   obtain⟨W,hm⟩:=zh hm;refine eX (fun hg=>Kp b _ C) ?_;exact J _ _ (wQ)
  .exact Wp.skip (J _ _ (wQ))
 clear I o;obtain⟨p,L,hm⟩:=zd hm;refine sQ [1] (fun hg=>KY f _ L) ?_;refine Wp.block (di 5 50 10 rfl ?_);simp only[go_sem,simprocAttr];obtain⟨Y,D,hm⟩:=zl hm
 refine fL 13 p.length fun E=>?_
 refine Wp.forL (fun t s=>[(1,pS b),(5,.buf 4),(6,pB s.1),(13,lm eD p),(14,pI (p.length:Int)),(15,pI (t:Int))]) (fun t s=>[.cells 67 [lm za c,.mp 1,.mp 2,.mp 3],.mp true (zm Dt.s zc f),.mp false (zm Dt.s eD g),.mp true (zm Dt.s zb i),.buf 50 10 (List.map zf s.2)]) wF hm ?_;clear hm;intro t s T hm;obtain⟨j,l⟩:=s
 try dsimp only at hm|-
 refine qS ?_
 refine lB eD hm E (fun h=>N _ _ _ _ wF (v (j,l) (D _ h))) fun m Z u U Q R k hm hA _ n=>?_
 refine q6 ?_;refine q6 ?_
 refine cN hm (fun hm=>?_) fun hm=>?_
 .refine r6 ?_
  refine n _ _ (r6 ?_);exact wN (true,l) m (k _ hm)
 .obtain⟨a0,F,hm⟩:=zd hm
  refine sX (fun hg=>Na u _ F) ?_
  refine cN hm (fun hm=>?_) fun hm=>?_
  .obtain⟨M,G,hm⟩:=zd hm
   obtain⟨a1,hm⟩:=zh hm;refine eX (fun hg=>Kp u _ G) ?_;refine n _ _ (r6 ?_);exact wN (j,l++[M]) m (k _ hm)
  .refine Wp.skip (n _ _ (r6 ?_))
   exact wN (j,l) m (k _ hm)
theorem nz(b:eA)(c:eA)(z:ae)(hm:k7 b c=some z):Does prog 55 [pS b,pS c] [] (fun r X=>r=.agg [pI z.k,pS z.g.a,pS z.g.q,pB z.g.r,pS z.o.e,pS z.o.Value,pS z.f.j,pS z.f.a,pB z.f.u,pB z.f.t]/\X=[]):=by
 unfold k7 at hm
 refine dW 0 9 [.cell 4 50] func55 fun B=>nA fun hA=>?_
 refine qS ?_;exact wQ
end Go.Proofs.YtkojogldchfkkaaGreatDoor
