/- That the code does what the models say (part 5). -/
import Derived.Test.YtggigadnagoglafGreatDoorTrWk0
import Derived.Test.YtggigadnagoglafGreatDoorTrWk1
import Derived.Test.YtggigadnagoglafGreatDoorTrWk2
import Derived.Test.YtggigadnagoglafGreatDoorTrWk3
import Derived.Test.YtggigadnagoglafGreatDoorTrWk4
set_option linter.unusedSimpArgs false
set_option linter.unusedVariables false
open Go.Proofs Go.Shelf
open List
namespace Go.Proofs.YtggigadnagoglafGreatDoor
open Tryz
open Go.Vc Go.Md
set_option maxRecDepth 100000
set_option maxHeartbeats 4000000
theorem LG(b:aj)(l:am)(c:dX)(j:List ak)(f:au)(z:aq×Int)(hm:Dk b l c j f=some z):Does prog 6 [.agg [lm za b.q,lm zc b.i,lm za b.n,lm zb b.m],.agg [lm zd l.r],pS c,lm zm j,.agg [pB f.F,pB f.G]] [] (fun r X=>r=.tup [.agg [lm zf z.1.E,lm zd z.1.D.r,lm zk z.1.H],pI z.2]/\X=[]):=by
 unfold Dk at hm
 refine dW 0 137 [.cell 10 36,.tmp 11] func6 fun B=>nA fun hA=>?_
 refine qS ?_
 refine ca fun _ bP _=>?_
 obtain⟨cc,b1,hm⟩:=ze hm;refine sX (fun hg=>MN b l c j f _ b1) ?_;refine qS ?_
 refine cN hm (fun hm=>?_) fun hm=>?_
 .refine qS ?_
  refine Wp.ret ?_;simp only[zS,zL];refine ls ?_;cases hm;exact eo
 .refine Wp.skip (bP _ _ ?_)
  obtain⟨I,br,hm⟩:=ze hm;refine sO [] (GF b _ br) ?_;obtain⟨O,bt,hm⟩:=ze hm;refine sF (IL l c _ bt) ?_;obtain⟨J,bu,hm⟩:=ze hm;obtain⟨p,bv,hm⟩:=ze hm
  refine dS (pl [(0,none),(2,none),(3,none),(1,some [2,3]),(4,some []),(5,none),(6,none)]) fun _ bw=>?_
  refine cE [] (La O _ bu) ?_;refine cE [] (KO l c _ bv) (bw _ _ ?_);refine qS ?_
  refine ca fun bQ aH bx=>?_
  obtain⟨bz,an,hm⟩:=zN hm
  have aI:∀s,bz s=some z->bQ [(2,pS c),(3,lm zm j),(5,.ptr 0 0),(6,.ptr 1 0),(9,.ptr 2 0),(10,.ptr 3 0),(13,.ptr 9 0),(14,lm zd O),(15,.mp 10),(16,.mp 14),(17,.mp 15),(18,.mp 16)] [.cells 26 [lm za b.q,lm zc b.i,lm za b.n,lm zb b.m],.cells 33 [lm zd l.r],.cells 41 [pB f.F,pB f.G],.cells 36 [.nils,.nils,.nils],.cells 26 [.top,.top,.top,.top],.mp true (zj Dt.s zc I.1),.mp false (zj Dt.s zh I.2.1),.mp true (zj Dt.s za I.2.2.1),.mp true (zj Dt.s zb I.2.2.2),.cells 108 [.mp 5,.mp 6,.mp 7,.mp 8,.nils,.nils],.mp true (zj zi zd J),.cells 33 [.top],.cells 9 [.top],.gone,.mp true (zj zi zd p.2.2.2),.mp false (zj zi zh s.1),.mp false (zj zi eE s.2)]:=by
   intro s hs;have hm:=an _ hs;clear hs;obtain⟨k,u⟩:=s
   try dsimp only at hm|-
   refine aH _ _ (ca fun bS aJ bA=>?_);obtain⟨bB,ap,hm⟩:=zN hm
   have aK:∀s,bB s=some z->bS [(2,pS c),(3,lm zm j),(5,.ptr 0 0),(6,.ptr 1 0),(10,.ptr 3 0),(13,.ptr 9 0),(15,.mp 10),(18,.mp 16)] [.cells 26 [lm za b.q,lm zc b.i,lm za b.n,lm zb b.m],.cells 33 [lm zd l.r],.cells 41 [.top,.top],.cells 36 [.nils,.nils,.nils],.cells 26 [.top,.top,.top,.top],.mp true (zj Dt.s zc s.1),.mp false (zj Dt.s zh s.2.1),.mp true (zj Dt.s za s.2.2.1),.mp true (zj Dt.s zb s.2.2.2.1),.cells 108 [.mp 5,.mp 6,.mp 7,.mp 8,.buf 17,.buf 18],.mp true (zj zi zd J),.cells 33 [.top],.cells 9 [.top],.gone,.mp true (zj zi zd p.2.2.2),.mp false (zj zi zh k),.mp false (zj zi eE u),.buf 51 10 (List.map zf s.2.2.2.2.1),.buf 148 2 (List.map zk s.2.2.2.2.2)]:=by
    intro s hs;have hm:=ap _ hs;clear hs;obtain⟨c2,c3,c4,c5,bT,bU⟩:=s
    try dsimp only at hm|-
    refine aJ _ _ (qS ?_)
    refine ca fun bV aL bC=>?_
    obtain⟨bD,aw,hm⟩:=zN hm
    have aM:∀s,bD s=some z->bV [(2,pS c),(5,.ptr 0 0),(6,.ptr 1 0),(10,.ptr 3 0),(13,.ptr 9 0),(25,.buf 19)] [.cells 26 [lm za b.q,lm zc b.i,lm za b.n,lm zb b.m],.cells 33 [lm zd l.r],.cells 41 [.top,.top],.cells 36 [.nils,.nils,.nils],.cells 26 [.top,.top,.top,.top],.mp true (zj Dt.s zc s.1),.mp false (zj Dt.s zh s.2.1),.mp true (zj Dt.s za s.2.2.1),.mp true (zj Dt.s zb s.2.2.2.1),.cells 108 [.mp 5,.mp 6,.mp 7,.mp 8,.buf 17,.buf 18],.mp true (zj zi zd J),.cells 33 [.top],.cells 9 [.top],.gone,.mp true (zj zi zd p.2.2.2),.mp false (zj zi zh k),.mp false (zj zi eE u),.buf 51 10 (List.map zf s.2.2.2.2.1),.buf 148 2 (List.map zk s.2.2.2.2.2.1),.buf 76 5 (List.map zd s.2.2.2.2.2.2)]:=by
     intro s hs;have hm:=aw _ hs;clear hs;obtain⟨b2,b3,b4,b5,aN,aO,aP⟩:=s
     try dsimp only at hm|-
     refine aL _ _ (Wp.freeze 19 (by simp only[go_sem,simprocAttr];exact Is.mk) (by first|(simp only[go_sem,simprocAttr];done)|(simp only[go_sem,simprocAttr];omega)) ?_);simp only[go_sem,simprocAttr];obtain⟨bF,b6,hm⟩:=ze hm;obtain⟨cd,b7,hm⟩:=ze hm
     refine cB (plan:=pl [(0,none),(1,none),(2,none),(3,none),(4,none),(5,some [0,1]),(6,some []),(7,none),(8,none),(9,some []),(10,none)]) (by kernel_rfl) rfl (by kernel_rfl) fun cp bG=>?_
     simp only[go_sem,simprocAttr]
     try refine⟨sd,?_⟩
     refine cn (Br.callR (av:=?av21) (g:=true) (o:=?o21) [] (fun hg=>MA l c aP _ b6) si si si si si sg sg sg sg ?cont21);simp only[go_sem,simprocAttr]
     try refine⟨sd,?_⟩
     refine cn (dq (av:=?av22) (o:=?o22) [9,5,6,7,8,17,18] (Ng b bF b2 b3 b4 b5 aN aO _ b7) si si si si si sg sg ?hag22 ?cont22)
     case hag22=>first|(simp only[go_sem,simprocAttr];done)|(simp only[go_sem,simprocAttr];exact sd)
     simp only[go_sem,simprocAttr];refine kA bG ?_;exact wR
    clear aL aw;refine qS ?_;refine Wp.block (cu 25 76 5 rfl ?_);simp only[go_sem,simprocAttr];obtain⟨ce,b8,hm⟩:=zF hm
    refine fL 95 j.length fun b9=>?_
    refine Wp.forL (fun a7 s=>[(2,pS c),(5,.ptr 0 0),(6,.ptr 1 0),(10,.ptr 3 0),(13,.ptr 9 0),(15,.mp 10),(18,.mp 16),(25,.buf 19),(95,lm zm j),(96,pI (j.length:Int)),(97,pI (a7:Int))]) (fun a7 s=>[.cells 26 [lm za b.q,lm zc b.i,lm za b.n,lm zb b.m],.cells 33 [lm zd l.r],.cells 41 [.top,.top],.cells 36 [.nils,.nils,.nils],.cells 26 [.top,.top,.top,.top],.mp true (zj Dt.s zc s.1),.mp false (zj Dt.s zh s.2.1),.mp true (zj Dt.s za s.2.2.1),.mp true (zj Dt.s zb s.2.2.2.1),.cells 108 [.mp 5,.mp 6,.mp 7,.mp 8,.buf 17,.buf 18],.mp true (zj zi zd J),.cells 33 [.top],.cells 9 [.top],.gone,.mp true (zj zi zd p.2.2.2),.mp false (zj zi zh k),.mp false (zj zi eE u),.buf 51 10 (List.map zf s.2.2.2.2.1),.buf 148 2 (List.map zk s.2.2.2.2.2.1),.buf 76 5 (List.map zd s.2.2.2.2.2.2)]) wF hm ?_;clear hm;intro a7 s bW hm;obtain⟨ax,ay,az,aA,V,W,Y⟩:=s
    try dsimp only at hm|-
    refine qS ?_
    refine lB zm hm b9 (fun h=>bC _ _ _ _ wF (aM (ax,ay,az,aA,V,W,Y) (b8 _ h))) fun ba bH P c7 aQ bX aR hm hA _ bI=>?_
    refine q6 ?_;obtain⟨aS,bb,hm⟩:=ze hm;obtain⟨a8,bc,hm⟩:=zC hm;have Z:=zy (e:=zd) zA J aS (ae.mk [] 0 [] [] []);have a0:=zx (e:=zd) zA J aS;simp only[zi,zp,bc,zd,map_nil]at Z a0;have hA:=And.intro bH (And.intro aQ (And.intro Z a0));refine sX (fun hg=>vn P _ bb) ?_;obtain⟨w,bd,hm⟩:=ze hm;refine sO [9,5,6,7,8,17,18,16] (Nj P (a8.getD (ae.mk [] 0 [] [] [])) (a8.isSome&&(decide (((a8.getD (ae.mk [] 0 [] [] [])).e)=P.e))) ax ay az aA V W u _ bd) ?_;obtain⟨bJ,be,hm⟩:=ze hm;obtain⟨cg,hm⟩:=zl hm;refine eX (fun hg=>KN c P _ be) ?_;refine bI _ _ (r6 ?_);exact wN (w.1,w.2.1,w.2.2.1,w.2.2.2.1,w.2.2.2.2.1,w.2.2.2.2.2,Y++[bJ]) ba (aR _ hm)
   clear aJ ap;refine qS ?_;refine Wp.block (cZ 9 4 51 10 rfl rfl ?_);simp only[go_sem,simprocAttr];refine cZ 9 5 148 2 rfl rfl ?_;simp only[go_sem,simprocAttr];obtain⟨ch,bf,hm⟩:=zF hm
   refine fL 69 O.length fun bg=>?_
   refine Wp.forL (fun a9 s=>[(2,pS c),(3,lm zm j),(5,.ptr 0 0),(6,.ptr 1 0),(9,.ptr 2 0),(10,.ptr 3 0),(13,.ptr 9 0),(15,.mp 10),(16,.mp 14),(17,.mp 15),(18,.mp 16),(69,lm zd O),(70,pI (O.length:Int)),(71,pI (a9:Int))]) (fun a9 s=>[.cells 26 [lm za b.q,lm zc b.i,lm za b.n,lm zb b.m],.cells 33 [lm zd l.r],.cells 41 [pB f.F,pB f.G],.cells 36 [.nils,.nils,.nils],.cells 26 [.top,.top,.top,.top],.mp true (zj Dt.s zc s.1),.mp false (zj Dt.s zh s.2.1),.mp true (zj Dt.s za s.2.2.1),.mp true (zj Dt.s zb s.2.2.2.1),.cells 108 [.mp 5,.mp 6,.mp 7,.mp 8,.buf 17,.buf 18],.mp true (zj zi zd J),.cells 33 [.top],.cells 9 [.top],.gone,.mp true (zj zi zd p.2.2.2),.mp false (zj zi zh k),.mp false (zj zi eE u),.buf 51 10 (List.map zf s.2.2.2.2.1),.buf 148 2 (List.map zk s.2.2.2.2.2)]) wF hm ?_;clear hm;intro a9 s bY hm;obtain⟨Q,R,S,T,L,M⟩:=s
   try dsimp only at hm|-
   refine qS ?_
   refine lB zd hm bg (fun h=>bA _ _ _ _ wF (aK (Q,R,S,T,L,M) (bf _ h))) fun aB aT ac c8 a1 bZ a2 hm hA _ aU=>?_
   refine q6 ?_;obtain⟨aV,bh,hm⟩:=ze hm;obtain⟨ci,bi,hm⟩:=zC hm;have a3:=zy (e:=zh) zA k aV 0;have a4:=zx (e:=zh) zA k aV;simp only[zi,zp,bi,zh,map_nil]at a3 a4;have hA:=And.intro aT (And.intro a1 (And.intro a3 a4))
   refine dS (pl [(0,none),(1,none),(2,none),(3,none),(4,none),(5,none),(6,none)]) fun _ bK=>?_
   refine cD (fun hg=>z6 ac _ bh) (bK _ _ ?_)
   refine cN hm (fun hm=>?_) fun hm=>?_
   .obtain⟨aW,bj,hm⟩:=ze hm
    obtain⟨bL,bk,hm⟩:=zC hm;have a5:=zy (e:=zd) zA p.2.2.2 aW (ae.mk [] 0 [] [] []);have a6:=zx (e:=zd) zA p.2.2.2 aW;simp only[zi,zp,bk,zd,map_nil]at a5 a6;have hA:=And.intro aT (And.intro a1 (And.intro a5 a6));refine sX (fun hg=>z6 ac _ bj) ?_;obtain⟨C,bl,hm⟩:=ze hm;refine eO [9,5,6,7,8,17,18] (Nr ac bL.isSome f Q R S T L M _ bl) ?_;refine aU _ _ (r6 ?_);exact wN (C.1,C.2.1,C.2.2.1,C.2.2.2.1,C.2.2.2.2.1,C.2.2.2.2.2) aB (a2 _ hm)
   .refine Wp.skip (aU _ _ (r6 ?_))
    exact wN (Q,R,S,T,L,M) aB (a2 _ hm)
  clear aH an;refine qS ?_;refine Wp.block ?_;obtain⟨cj,bm,hm⟩:=zF hm
  refine fL 3 j.length fun bn=>?_
  refine Wp.forL (fun ad s=>[(2,pS c),(3,lm zm j),(5,.ptr 0 0),(6,.ptr 1 0),(9,.ptr 2 0),(10,.ptr 3 0),(13,.ptr 9 0),(14,lm zd O),(15,.mp 10),(16,.mp 14),(17,.mp 15),(18,.mp 16),(52,lm zm j),(53,pI (j.length:Int)),(54,pI (ad:Int))]) (fun ad s=>[.cells 26 [lm za b.q,lm zc b.i,lm za b.n,lm zb b.m],.cells 33 [lm zd l.r],.cells 41 [pB f.F,pB f.G],.cells 36 [.nils,.nils,.nils],.cells 26 [.top,.top,.top,.top],.mp true (zj Dt.s zc I.1),.mp false (zj Dt.s zh I.2.1),.mp true (zj Dt.s za I.2.2.1),.mp true (zj Dt.s zb I.2.2.2),.cells 108 [.mp 5,.mp 6,.mp 7,.mp 8,.nils,.nils],.mp true (zj zi zd J),.cells 33 [lm zd p.1],.cells 9 [pS p.2.1],.buf 76 5 (List.map zd p.2.2.1),.mp true (zj zi zd p.2.2.2),.mp false (zj zi zh s.1),.mp false (zj zi eE s.2)]) wF hm ?_;clear hm;intro ad s c0 hm;obtain⟨v,N⟩:=s
  try dsimp only at hm|-
  refine qS ?_
  refine lB zm hm bn (fun h=>bx _ _ _ _ wF (aI (v,N) (bm _ h))) fun bo bM U c9 aX c1 aY hm hA _ bN=>?_
  refine q6 ?_
  refine dw 15 (by simp only[go_sem,simprocAttr];exact Is.mk) fun aC aD=>?_
  simp only[go_sem,simprocAttr];obtain⟨af,bp,hm⟩:=ze hm;obtain⟨aZ,bq,hm⟩:=ze hm;obtain⟨ck,hm⟩:=zl hm;have aE:=fN (e:=zh) zA v af 0;simp only[zi,zp,zh,map_nil]at aE;have aF:=fN (e:=zh) zA v af U.e;simp only[zi,zp,zh,map_nil]at aF;obtain⟨cm,hm⟩:=zl hm;have aG:=fN (e:=eE) zA N aZ true;simp only[zi,zp,eE,map_nil]at aG
  refine dv (plan:=pl [(0,none),(1,none),(2,none),(3,none),(4,none),(5,none),(6,none),(7,none),(8,some [3,6,7]),(9,none),(10,some [3]),(11,some [])]) (by kernel_rfl) rfl (by kernel_rfl) fun cq bO b0=>?_
  have hA:=And.intro bM (And.intro aX (And.intro aE (And.intro aF aG)));simp only[go_sem,simprocAttr,hA]
  try refine⟨sL,?_⟩
  refine cD (fun hg=>vn U _ bp) ?_;refine Dr.callF (av:=?av56) (g:=true) (o:=?o56) (fun hg=>vn U _ bq) (by simp only[go_sem,simprocAttr,hA];exact Is.mk) (by simp only[go_sem,simprocAttr,hA];exact Is.mk) (by simp only[go_sem,simprocAttr,hA];exact Is.mk) (by simp only[go_sem,simprocAttr,hA];exact Is.mk) (by simp only[go_sem,simprocAttr,hA]) (by simp only[go_sem,simprocAttr,hA];exact Is.mk) ?cont56;simp only[go_sem,simprocAttr,hA]
  try refine⟨sL,?_⟩
  refine cn (Br.entry (o:=?o57) (t:=?t57) (m:=?m57) (ag:=?ag57) (es:=?es57) (d:=?d57) (key:=?key57) (kt:=?kt57) (et:=?et57) (te:=?te57) (i:=15) (bs:=aC) (cl:=aD) (zh 0) (by simp only[go_sem,simprocAttr,hA];exact Is.mk) (by simp only[go_sem,simprocAttr,hA];exact Is.mk) (by simp only[go_sem,simprocAttr,hA];exact Is.mk) (by simp only[go_sem,simprocAttr,hA]) (by simp only[go_sem,simprocAttr,hA]) (by simp only[go_sem,simprocAttr,hA];exact Is.mk) (by simp only[go_sem,simprocAttr,hA];exact Is.mk) (by simp only[go_sem,simprocAttr,hA];exact Is.mk) (by simp only[go_sem,simprocAttr,hA];exact Is.mk) (by simp only[go_sem,simprocAttr,hA];exact Is.mk) ?hs57 ?hag57 ?cont57)
  case hs57=>first|(simp only[go_sem,simprocAttr,hA];done)|(simp only[go_sem,simprocAttr,hA];exact sd)
  case hag57=>first|(simp only[go_sem,simprocAttr,hA];done)|(simp only[go_sem,simprocAttr,hA];exact sd)
  simp only[go_sem,simprocAttr,hA]
  try refine⟨sL,?_⟩
  refine cn (Br.entryStore (o:=?o58) (t:=?t58) (m:=?m58) (ag:=?ag58) (es:=?es58) (d:=?d58) (s:=?s58) (x:=?x58) (z:=?z58) (row:=?row58) (i:=15) (bs:=aC) (cl:=aD) (by simp only[go_sem,simprocAttr,hA];exact Is.mk) (by simp only[go_sem,simprocAttr,hA];exact Is.mk) (by simp only[go_sem,simprocAttr,hA];exact Is.mk) (by simp only[go_sem,simprocAttr,hA]) (by simp only[go_sem,simprocAttr,hA]) (by simp only[go_sem,simprocAttr,hA];exact Is.mk) (by simp only[go_sem,simprocAttr,hA];exact Is.mk) (by simp only[go_sem,simprocAttr,hA];exact Is.mk) (by simp only[go_sem,simprocAttr,hA];exact Is.mk) ?hs58 ?hag58 ?cont58)
  case hs58=>first|(simp only[go_sem,simprocAttr,hA];done)|(simp only[go_sem,simprocAttr,hA];exact sd)
  case hag58=>first|(simp only[go_sem,simprocAttr,hA];done)|(simp only[go_sem,simprocAttr,hA];exact sd)
  simp only[go_sem,simprocAttr,hA]
  first|refine b0 _ _ 15 _ _ _ _ (by simp only[go_sem,simprocAttr];exact Is.mk) ?_|refine⟨sL,b0 _ _ 15 _ _ _ _ (by simp only[go_sem,simprocAttr];exact Is.mk) ?_⟩
  simp only[go_sem,simprocAttr];refine kA bO ?_;refine bN _ _ (r6 ?_);exact wN (ec v af U.e,ec N aZ true) bo (aY _ hm)
theorem kr(c:aj)(f:am)(b:dX)(z:Int)(hm:CZ c f b=some z):Does prog 28 [.agg [lm za c.q,lm zc c.i,lm za c.n,lm zb c.m],.agg [lm zd f.r],pS b] [] (fun r X=>r=pI z/\X=[]):=by
 unfold CZ at hm
 refine dW 0 22 [.tmp 6] func28 fun B=>nA fun hA=>?_
 refine qS ?_
 refine ca fun _ o _=>?_
 obtain⟨t,g,hm⟩:=ze hm;refine sX (fun hg=>Ix c f _ g) ?_;refine qS ?_
 refine cR hm fun hm=>?_
 refine Wp.skip (o _ _ (ca fun _ p _=>?_));obtain⟨u,j,hm⟩:=ze hm;refine sX (fun hg=>xS b _ j) ?_
 refine cR hm fun hm=>?_
 refine Wp.skip (p _ _ (ca fun _ k _=>?_));obtain⟨v,l,hm⟩:=ze hm;refine sF (IL f b _ l) ?_
 refine cR hm fun hm=>?_
 exact Wp.skip (k _ _ (wQ))
theorem KH(b:Int)(z:Bool)(hm:BS b=some z):Does prog 32 [pI b] [] (fun r X=>r=pB z/\X=[]):=by
 unfold BS at hm
 refine dW 0 13 [.tmp 2] func32 fun B=>nA fun hA=>?_
 refine qS ?_;exact wQ
theorem MV(b:ak)(f:List (dX×aa))(i:List (dX×Int))(l:List (dX×ab))(c:List (dX×ah))(m:List ai)(z:(List (dX×aa))×(List (dX×Int))×(List (dX×ab))×(List (dX×ah))×List ai)(hm:IU b f i l c m=some z):Does prog 33 [.ptr 0 0,.agg [pI b.e,pS b.g.a,pS b.g.u,pB b.g.w,pS b.j.k,pS b.j.Value,pS b.h.o,pS b.h.a,pB b.h.B,pB b.h.A]] [.cells 108 [.mp 1,.mp 2,.mp 3,.mp 4,.buf 5,.nils],.mp true (zj Dt.s zc f),.mp false (zj Dt.s zh i),.mp true (zj Dt.s za l),.mp true (zj Dt.s zb c),.buf 51 10 (List.map zf m)] (fun r X=>r=.tup []/\X=[.cells 108 [.mp 1,.mp 2,.mp 3,.mp 4,.buf 5,.nils],.mp true (zj Dt.s zc z.1),.mp false (zj Dt.s zh z.2.1),.mp true (zj Dt.s za z.2.2.1),.mp true (zj Dt.s zb z.2.2.2.1),.buf 51 10 (List.map zf z.2.2.2.2)]):=by
 unfold IU at hm
 refine dW 6 24 [] func33 fun B=>nA fun hA=>?_
 refine qS ?_;obtain⟨t,v,hm⟩:=zC hm;have n:=zy (e:=zb) zZ c b.h.o (ah.mk [] [] false false);have p:=zx (e:=zb) zZ c b.h.o;simp only[v,zb,map_nil]at n p;have hA:=And.intro n p
 refine dS (pl [(0,none),(1,none),(2,none),(3,none),(4,none),(5,none),(6,none),(7,none),(8,none),(9,none),(10,none),(11,none),(12,none),(13,none),(14,none),(15,none),(16,some [])]) fun _ E=>E _ _ ?_
 obtain⟨F,C,hm⟩:=ze hm;obtain⟨I,D,hm⟩:=ze hm
 refine rE fun _ G=>?_
 refine cX (fun hg=>IZ (ak.mk b.e b.g b.j (ah.mk b.h.o b.h.a b.h.B ((decide (b.e=6))&&((t.getD (ah.mk [] [] false false)).A)))) _ C) ?_;refine cO [0,1,2,3,4,5] (M8 F f i l c m _ D) (G _ _ ?_);refine zq ?_;cases hm;exact eo
theorem NI(b:List ae)(z:List ae)(hm:GQ b=some z):Does prog 34 [lm zd b] [] (fun r X=>r=lm zd z/\X=[]):=by
 unfold GQ at hm
 refine dW 0 8 [.tmp 2] func34 fun B=>nA fun hA=>?_
 refine qS ?_
 refine ca fun _ f _=>cb fun K3 g=>?_
 simp only[go_sem,simprocAttr]
 try refine⟨sd,?_⟩
 refine cJ (rows:=?rows4) (e:=?e4) (esz:=?esz4) (eb:=?eb4) (ez:=?ez4) Is.mk Is.mk sg sg si si ?cont4;intro i c;replace hm:=xJ hm i (fun h=>map_eq_nil_iff.1 (c h))
 try dsimp only at hm
 simp only[go_sem,simprocAttr];refine kA g ?_
 refine cN hm (fun hm=>?_) fun hm=>?_
 .refine qS ?_
  refine Wp.ret ?_;simp only[zS,zL];refine ls ?_;cases hm;exact eo
 .refine Wp.skip (f _ _ ?_)
  obtain⟨j,hm⟩:=zl hm;exact wQ
theorem Nh(c:aj)(u:am)(k:List (dX×aa))(l:List (dX×Int))(p:List (dX×ab))(t:List (dX×ah))(j:List ai)(z:aq×Int×List ai)(hm:GN c u k l p t j=some z):Does prog 24 [.ptr 0 0,.agg [lm za c.q,lm zc c.i,lm za c.n,lm zb c.m],.agg [lm zd u.r]] [.cells 108 [.mp 1,.mp 2,.mp 3,.mp 4,.buf 5,.nils],.mp true (zj Dt.s zc k),.mp false (zj Dt.s zh l),.mp true (zj Dt.s za p),.mp true (zj Dt.s zb t),.buf 51 10 (List.map zf j)] (fun r X=>r=.tup [.agg [lm zf z.1.E,lm zd z.1.D.r,lm zk z.1.H],pI z.2.1]/\X=[.cells 108 [.mp 1,.mp 2,.mp 3,.mp 4,lm zf z.2.2,.nils],.mp true (zj Dt.s zc k),.mp false (zj Dt.s zh l),.mp true (zj Dt.s za p),.mp true (zj Dt.s zb t),.gone]):=by
 unfold GN at hm
 refine dW 6 40 [.cell 6 36,.tmp 7] func24 fun B=>nA fun hA=>?_
 refine qS ?_
 refine ca fun _ I _=>Wp.freeze 5 (by simp only[go_sem,simprocAttr];exact Is.mk) (by first|(simp only[go_sem,simprocAttr];done)|(simp only[go_sem,simprocAttr];omega)) ?_
 simp only[go_sem,simprocAttr];obtain⟨b,w,hm⟩:=ze hm
 refine cV (plan:=(.rd 0 (.rd 1 (.rd 2 (.rd 3 (.rd 4 (.fk 5 [] (.rd 6 (.rd 7 (.rd 8 (.ef 9 [0,1,2,3,4,6,7,8] (.ef 10 [8] (.rd 11 .nil)))))) 9 [0,1,2,3,4] (.ef 5 [] (.rd 6 (.rd 7 (.rd 8 (.ef 10 [8] (.rd 11 .nil))))))))))))) (by kernel_rfl) rfl (by kernel_rfl) fun K3 J v=>?_
 suffices f:K3 [(0,.ptr 0 0),(1,.agg [lm za c.q,lm zc c.i,lm za c.n,lm zb c.m]),(2,.agg [lm zd u.r]),(4,.ptr 6 0),(5,.ptr 7 0),(6,.ptr 8 0),(7,pI 0),(8,.ptr 9 0),(9,pI b.2),(11,.tup [.agg [lm za b.1.q,lm zc b.1.i,lm za b.1.n,lm zb b.1.m],pI b.2]),(12,.agg [lm za c.q,lm zc c.i,lm za c.n,lm zb c.m]),(13,.ptr 0 0),(14,.ptr 0 0),(15,.ptr 0 4),(16,lm zf j),(17,.tup [.agg [lm za b.1.q,lm zc b.1.i,lm za b.1.n,lm zb b.1.m],pI b.2]),(18,.agg [lm za b.1.q,lm zc b.1.i,lm za b.1.n,lm zb b.1.m]),(19,pI b.2)] [.cells 108 [.mp 1,.mp 2,.mp 3,.mp 4,lm zf j,.nils],.mp true (zj Dt.s zc k),.mp false (zj Dt.s zh l),.mp true (zj Dt.s za p),.mp true (zj Dt.s zb t),.gone,.cells 26 [lm za c.q,lm zc c.i,lm za c.n,lm zb c.m],.cells 33 [lm zd u.r],.cells 36 [.nils,.nils,.nils],.cells 26 [lm za b.1.q,lm zc b.1.i,lm za b.1.n,lm zb b.1.m]]by
  simp only[go_sem,simprocAttr]
  try refine⟨sd,?_⟩
  refine Dr.fk ?_ ?_
  ·
   refine id (Br.callR (av:=?av4) (g:=true) (o:=?o4) [] (fun hg=>xR c j _ w) si si si si si sg sg sg sg ?cont4);simp only[go_sem,simprocAttr]
   first|refine v.weak _ _ _ _ ?_ f|refine⟨sd,v.weak _ _ _ _ ?_ f⟩
   exact eo
  ·
   refine Br.run (o:=?o5) si si ?cont5;simp only[go_sem,simprocAttr]
   try refine⟨sd,?_⟩
   refine cn (Br.callR (av:=?av6) (g:=true) (o:=?o6) [] (fun hg=>xR c j _ w) si si si si si sg sg sg sg ?cont6);simp only[go_sem,simprocAttr]
   first|refine v.weak _ _ _ _ ?_ f|refine⟨sd,v.weak _ _ _ _ ?_ f⟩
   exact eo
 refine J _ _ (qS ?_)
 refine cN hm (fun hm=>?_) fun hm=>?_
 .refine qS ?_
  refine Wp.ret ?_;simp only[zS,zL];refine ls ?_;cases hm;exact eo
 .refine Wp.skip (I _ _ (ca fun _ C _=>?_))
  obtain⟨L,F,hm⟩:=ze hm;refine sX (fun hg=>IC u _ F) ?_;refine qS ?_
  refine cN hm (fun hm=>?_) fun hm=>?_
  .refine qS ?_
   refine Wp.ret ?_;simp only[zS,zL];refine ls ?_;cases hm;exact eo
  .refine Wp.skip (C _ _ (dS (pl [(0,none),(1,none),(2,none),(3,none),(4,none),(5,none),(6,none),(7,none),(8,none),(9,none),(10,some []),(11,none)]) fun _ G=>G _ _ ?_))
   refine Wp.ret ?_;refine ls ?_;cases hm;exact eo
theorem LV(b:aj)(j:am)(c:dX)(f:List ak)(z:aq×Int)(hm:Da b j c f=some z):Does prog 8 [.agg [lm za b.q,lm zc b.i,lm za b.n,lm zb b.m],.agg [lm zd j.r],pS c,lm zm f] [] (fun r X=>r=.tup [.agg [lm zf z.1.E,lm zd z.1.D.r,lm zk z.1.H],pI z.2]/\X=[]):=by
 unfold Da at hm
 refine dW 0 107 [.cell 8 36,.tmp 9] func8 fun B=>nA fun hA=>?_
 refine qS ?_
 refine ca fun _ aY _=>?_
 obtain⟨b8,a2,hm⟩:=ze hm;refine sX (fun hg=>kr b j c _ a2) ?_;refine qS ?_
 refine cN hm (fun hm=>?_) fun hm=>?_
 .refine qS ?_
  refine Wp.ret ?_;simp only[zS,zL];refine ls ?_;cases hm;exact eo
 .refine Wp.skip (aY _ _ ?_)
  obtain⟨aE,a3,hm⟩:=ze hm;obtain⟨l,aF,hm⟩:=ze hm
  refine rS fun _ aZ=>?_
  refine cF (IL j c _ a3) ?_;refine cO [] (La aE _ aF) (aZ _ _ ?_)
  refine ca fun b0 Q aG=>?_
  obtain⟨aH,I,hm⟩:=zN hm
  have R:∀s,aH s=some z->b0 [(3,lm zm f),(4,.ptr 0 0),(5,.ptr 1 0),(8,.ptr 2 0),(11,.mp 3)] [.cells 26 [lm za b.q,lm zc b.i,lm za b.n,lm zb b.m],.cells 33 [lm zd j.r],.cells 36 [.nils,.nils,.nils],.mp true (zj zi zd l)]:=by
   intro s hs;have hm:=I _ hs;clear hs
   try dsimp only at hm|-
   refine Q _ _ ?_;obtain⟨b9,a4,hm⟩:=ze hm;refine sO [] (GF b _ a4) ?_
   refine ca fun b1 S aI=>?_
   obtain⟨aJ,J,hm⟩:=zN hm
   have T:∀s,aJ s=some z->b1 [(4,.ptr 0 0),(5,.ptr 1 0),(8,.ptr 2 0),(17,.ptr 9 0)] [.cells 26 [lm za b.q,lm zc b.i,lm za b.n,lm zb b.m],.cells 33 [lm zd j.r],.cells 36 [.nils,.nils,.nils],.mp true (zj zi zd l),.cells 26 [.top,.top,.top,.top],.mp true (zj Dt.s zc s.1),.mp false (zj Dt.s zh s.2.1),.mp true (zj Dt.s za s.2.2.1),.mp true (zj Dt.s zb s.2.2.2.1),.cells 108 [.mp 5,.mp 6,.mp 7,.mp 8,.buf 10,.nils],.buf 51 10 (List.map zf s.2.2.2.2)]:=by
    intro s hs;have hm:=J _ hs;clear hs;obtain⟨a5,a6,a7,a8,U⟩:=s
    try dsimp only at hm|-
    refine S _ _ ?_;obtain⟨aK,a9,hm⟩:=ze hm;obtain⟨ba,ac,hm⟩:=ze hm
    refine cB (plan:=pl [(0,none),(1,none),(2,none),(3,none),(4,some [0,1]),(5,none),(6,some []),(7,none),(8,none),(9,some []),(10,none)]) (by kernel_rfl) rfl (by kernel_rfl) fun bh aL=>?_
    simp only[go_sem,simprocAttr]
    try refine⟨sd,?_⟩
    refine cn (Br.callR (av:=?av16) (g:=true) (o:=?o16) [] (fun hg=>NI j.r _ a9) si si si si si sg sg sg sg ?cont16);simp only[go_sem,simprocAttr]
    try refine⟨sd,?_⟩
    refine cn (dA (av:=?av17) (o:=?o17) 10 [9,5,6,7,8,10] (Nh b (am.mk aK) a5 a6 a7 a8 U _ ac) si si si si si sg sg sg sg ?cont17);simp only[go_sem,simprocAttr];refine kA aL ?_;exact wR
   clear S J;refine qS ?_;refine Wp.block (cZ 9 4 51 10 rfl rfl ?_);simp only[go_sem,simprocAttr];obtain⟨bb,ad,hm⟩:=zF hm
   refine fL 71 f.length fun af=>?_
   refine Wp.forL (fun F s=>[(4,.ptr 0 0),(5,.ptr 1 0),(8,.ptr 2 0),(11,.mp 3),(17,.ptr 9 0),(71,lm zm f),(72,pI (f.length:Int)),(73,pI (F:Int))]) (fun F s=>[.cells 26 [lm za b.q,lm zc b.i,lm za b.n,lm zb b.m],.cells 33 [lm zd j.r],.cells 36 [.nils,.nils,.nils],.mp true (zj zi zd l),.cells 26 [.top,.top,.top,.top],.mp true (zj Dt.s zc s.1),.mp false (zj Dt.s zh s.2.1),.mp true (zj Dt.s za s.2.2.1),.mp true (zj Dt.s zb s.2.2.2.1),.cells 108 [.mp 5,.mp 6,.mp 7,.mp 8,.buf 10,.nils],.buf 51 10 (List.map zf s.2.2.2.2)]) wF hm ?_;clear hm;intro F s b2 hm;obtain⟨p,t,u,v,k⟩:=s
   try dsimp only at hm|-
   refine qS ?_
   refine lB zm hm af (fun h=>aI _ _ _ _ wF (T (p,t,u,v,k) (ad _ h))) fun L aM V b4 ag b5 w hm hA _ W=>?_
   refine q6 ?_;obtain⟨Y,an,hm⟩:=ze hm;obtain⟨aN,aO,hm⟩:=zC hm;have M:=zy (e:=zd) zA l Y (ae.mk [] 0 [] [] []);have N:=zx (e:=zd) zA l Y;simp only[zi,zp,aO,zd,map_nil]at M N;obtain⟨aP,ap,hm⟩:=ze hm;have hA:=And.intro aM (And.intro ag (And.intro M N))
   refine rS fun _ aQ=>?_
   refine cX (fun hg=>vn V _ an) ?_;refine cO [9,5,6,7,8,10] (Nl (aN.getD (ae.mk [] 0 [] [] [])) p t u v k _ ap) (aQ _ _ ?_);obtain⟨bc,aw,hm⟩:=zY hm;refine sX (g:=!(decide (aP=3))) (fun hg=>KH V.e _ (aw hg)) ?_
   refine cN hm (fun hm=>?_) fun hm=>?_
   .obtain⟨C,aR,hm⟩:=ze hm
    refine eO [9,5,6,7,8,10] (MV V p t u v k _ aR) ?_;refine W _ _ (r6 ?_);exact wN (C.1,C.2.1,C.2.2.1,C.2.2.2.1,C.2.2.2.2) L (w _ hm)
   .refine Wp.skip (W _ _ (r6 ?_))
    exact wN (p,t,u,v,k) L (w _ hm)
  clear Q I;refine qS ?_;refine Wp.block ?_;obtain⟨bd,ax,hm⟩:=zF hm
  refine fL 3 f.length fun ay=>?_
  refine Wp.forL (fun G s=>[(3,lm zm f),(4,.ptr 0 0),(5,.ptr 1 0),(8,.ptr 2 0),(11,.mp 3),(33,lm zm f),(34,pI (f.length:Int)),(35,pI (G:Int))]) (fun G s=>[.cells 26 [lm za b.q,lm zc b.i,lm za b.n,lm zb b.m],.cells 33 [lm zd j.r],.cells 36 [.nils,.nils,.nils],.mp true (zj zi zd l)]) wF hm ?_;clear hm;intro G s b3 hm
  try dsimp only at hm|-
  refine qS ?_
  refine lB zm hm ay (fun h=>aG _ _ _ _ wF (R () (ax _ h))) fun az aS Z b6 aA b7 a0 hm hA _ aT=>?_
  refine q6 ?_
  refine ca fun _ aU _=>?_
  obtain⟨be,aB,hm⟩:=ze hm;refine sX (fun hg=>KZ Z _ aB) ?_;refine q6 ?_
  refine cN hm (fun hm=>?_) fun hm=>?_
  .refine q6 ?_
   refine Wp.ret ?_;simp only[zS,zL];refine ls ?_;cases hm;simp only[go_sem,simprocAttr,hA]
   try exact Jj
  .refine Wp.skip (aU _ _ ?_)
   obtain⟨a1,aC,hm⟩:=ze hm;obtain⟨bf,aV,hm⟩:=zC hm;have O:=zy (e:=zd) zA l a1 (ae.mk [] 0 [] [] []);have P:=zx (e:=zd) zA l a1;simp only[zi,zp,aV,zd,map_nil]at O P;have hA:=And.intro aS (And.intro aA (And.intro O P));refine sX (fun hg=>vn Z _ aC) ?_
   refine ca fun _ aW _=>q6 ?_
   refine cN hm (fun hm=>?_) fun hm=>?_
   .refine q6 ?_
    refine Wp.ret ?_;simp only[zS,zL];refine ls ?_;cases hm;simp only[go_sem,simprocAttr,hA]
    try exact Jj
   .refine Wp.skip (aW _ _ ?_)
    obtain⟨bg,aD,hm⟩:=ze hm
    refine dS (pl [(0,none),(1,none),(2,none),(3,none),(4,none)]) fun _ aX=>?_
    refine cD (fun hg=>ID Z _ aD) (aX _ _ ?_)
    refine cN hm (fun hm=>?_) fun hm=>?_
    .refine q6 ?_
     refine Wp.ret ?_;simp only[zS,zL];refine ls ?_;cases hm;simp only[go_sem,simprocAttr,hA]
     try exact Jj
    .refine Wp.skip (aT _ _ (r6 ?_))
     exact wN () az (a0 _ hm)
theorem LF(c:aj)(f:am)(z:List ar×Int)(hm:Dj c f=some z):Does prog 9 [.agg [lm za c.q,lm zc c.i,lm za c.n,lm zb c.m],.agg [lm zd f.r]] [] (fun r X=>r=.tup [lm xQ z.1,pI z.2]/\X=[]):=by
 unfold Dj at hm
 refine dW 0 59 [.tmp 4,.tmp 5] func9 fun B=>nA fun hA=>?_
 refine qS ?_
 refine ca fun _ L _=>?_
 obtain⟨T,C,hm⟩:=ze hm;refine sX (fun hg=>Ix c f _ C) ?_;refine qS ?_
 refine cN hm (fun hm=>?_) fun hm=>?_
 .refine qS ?_
  refine Wp.ret ?_;simp only[zS,zL];refine ls ?_;cases hm;exact wZ
 .refine Wp.skip (L _ _ ?_)
  obtain⟨b,G,hm⟩:=ze hm;refine sO [] (GF c _ G) ?_;refine qS ?_
  refine ca fun M o I=>?_
  obtain⟨N,p,hm⟩:=zN hm
  have u:∀s,N s=some z->M [(8,.buf 8)] [.cells 26 [.top,.top,.top,.top],.cells 33 [.top],.cells 26 [.top,.top,.top,.top],.mp true (zj Dt.s zc b.1),.mp false (zj Dt.s zh b.2.1),.mp true (zj Dt.s za b.2.2.1),.mp true (zj Dt.s zb b.2.2.2),.cells 108 [.top,.top,.top,.top,.top,.top],.buf 94 4 (List.map xQ s)]:=by
   intro P hs;have hm:=p _ hs;clear hs
   try dsimp only at hm|-
   exact o _ _ (wQ)
  clear o p;refine qS ?_;refine Wp.block (cu 8 94 4 rfl ?_);simp only[go_sem,simprocAttr];obtain⟨U,D,hm⟩:=zF hm
  refine fL 21 f.r.length fun E=>?_
  refine Wp.forL (fun v s=>[(7,.ptr 7 0),(8,.buf 8),(21,lm zd f.r),(22,pI (f.r.length:Int)),(23,pI (v:Int))]) (fun v s=>[.cells 26 [lm za c.q,lm zc c.i,lm za c.n,lm zb c.m],.cells 33 [lm zd f.r],.cells 26 [.top,.top,.top,.top],.mp true (zj Dt.s zc b.1),.mp false (zj Dt.s zh b.2.1),.mp true (zj Dt.s za b.2.2.1),.mp true (zj Dt.s zb b.2.2.2),.cells 108 [.mp 3,.mp 4,.mp 5,.mp 6,.nils,.nils],.buf 94 4 (List.map xQ s)]) wF hm ?_;clear hm;intro v j Q hm
  try dsimp only at hm|-
  refine qS ?_
  refine lB zd hm E (fun h=>I _ _ _ _ wF (u j (D _ h))) fun k V g W R S l hm hA _ w=>?_
  refine q6 ?_;obtain⟨O,J,hm⟩:=ze hm;refine sQ [7,3,4,5,6] (fun hg=>Nk g b.1 b.2.1 b.2.2.1 b.2.2.2 _ J) ?_;obtain⟨Y,F,hm⟩:=ze hm;refine sX (fun hg=>KH g.e _ F) ?_
  refine cN hm (fun hm=>?_) fun hm=>?_
  .obtain⟨Z,hm⟩:=zl hm
   refine r6 ?_;refine w _ _ (r6 ?_);exact wN (j++[(ar.mk g.t g.a g.e O)]) k (l _ hm)
  .refine Wp.skip (w _ _ (r6 ?_))
   exact wN j k (l _ hm)
theorem LU(b:aa)(z:dX)(hm:C9 b=some z):Does prog 38 [.agg [pS b.a,pS b.u,pB b.w]] [] (fun r X=>r=pS z/\X=[]):=by
 unfold C9 at hm
 refine dW 0 5 [.tmp 2] func38 fun B=>nA fun hA=>?_
 refine qS ?_;exact wQ
theorem Ll(b:aa)(c:dX)(z:Int)(hm:Cf b c=some z):Does prog 114 [.agg [pS b.a,pS b.u,pB b.w],pS c,.ptr 0 0] [.cells 96 [.fn 38 []]] (fun r X=>r=pI z/\X=[.cells 96 [.fn 38 []]]):=by
 unfold Cf at hm
 refine dW 1 11 [.tmp 5] func114 fun B=>nA fun hA=>?_
 refine qS ?_;obtain⟨i,f,hm⟩:=ze hm;obtain⟨k,g,hm⟩:=ze hm
 refine rS fun _ j=>?_
 refine cX (fun hg=>LU b _ f) ?_;refine cX (fun hg=>Jb i c _ g) (j _ _ ?_);exact wR
theorem N4(c:List aa)(b:dX)(z:Int×Bool)(hm:zz c b=some z):Does prog 113 [lm zc c,pS b,.fn 114 [.ptr 0 0]] [.cells 96 [.fn 38 []]] (fun r X=>r=.tup [pI z.1,pB z.2]/\X=[.cells 96 [.fn 38 []]]):=by
 unfold zz at hm
 refine dW 1 49 [.tmp 6,.tmp 7] func113 fun B=>nA fun hA=>?_
 refine qS ?_;refine qS ?_;refine qS ?_
 refine ca fun K4 C F=>?_
 obtain⟨G,n,hm⟩:=zN hm
 have p:∀s,G s=some z->K4 [(0,lm zc c),(1,pS b),(2,.fn 114 [.ptr 0 0]),(8,pI (c.length:Int)),(9,pI s)] [.cells 96 [.fn 38 []]]:=by
  intro j hs;have hm:=n _ hs;clear hs
  try dsimp only at hm|-
  refine C _ _ ?_;obtain⟨N,hm⟩:=zl hm;obtain⟨Q,E,hm⟩:=zY hm;have o:=CT (l:=c) (e:=zc) (d:=(aa.mk [] [] false)) (i:=j.toNat);simp only[zc,map_nil]at o;have hA:=o;refine sQ (g:=decide (j<(c.length:Int))) [0] (fun hg=>Ll (aa.mk ((c.getD j.toNat (aa.mk [] [] false)).a) ((c.getD j.toNat (aa.mk [] [] false)).u) ((c.getD j.toNat (aa.mk [] [] false)).w)) b _ (E hg)) ?_;exact wR
 clear C n;refine Wp.block ?_;obtain⟨O,t,hm⟩:=rY hm;refine Wp.loopN (fun s=>[(0,lm zc c),(1,pS b),(2,.fn 114 [.ptr 0 0]),(8,pI (c.length:Int)),(9,pI s.1),(10,pI s.2)]) (fun s=>[.cells 96 [.fn 38 []]]) ?_ hm ?_
 .exact wZ
 clear hm;intro s J hm;obtain⟨k,m⟩:=s
 try dsimp only at hm|-
 refine ca fun _ I _=>qS ?_
 refine cN hm (fun hm=>?_) fun hm=>?_
 .refine Wp.skip (I _ _ (Wp.block (qS ?_)))
  obtain⟨D,L,f,M,hm⟩:=Hl hm;replace f:∀d,(List.map zc c).getD ((IntKind.i64.wrap (Int.fdiv (IntKind.u64.wrap (IntKind.i64.wrap (k+m))) (2^(nY .u64 1)))).toNat) d=zc D:=f zc;obtain⟨P,v,hm⟩:=ze hm;have hA:=f;refine sQ [0] (fun hg=>Ll D b _ v) ?_
  refine cN hm (fun hm=>?_) fun hm=>?_
  .refine r6 ?_
   simp only[zS,zL,↓reduceIte];refine⟨(IntKind.i64.wrap ((IntKind.i64.wrap (Int.fdiv (IntKind.u64.wrap (IntKind.i64.wrap (k+m))) (2^(nY .u64 1))))+1),m),hm,?_⟩;simp only[go_sem,simprocAttr,hA]
   try exact vt
  .refine r6 ?_
   simp only[zS,zL,↓reduceIte];refine⟨(k,IntKind.i64.wrap (Int.fdiv (IntKind.u64.wrap (IntKind.i64.wrap (k+m))) (2^(nY .u64 1)))),hm,?_⟩;simp only[go_sem,simprocAttr,hA]
   try exact vt
 .refine Wp.exit ?_
  simp only[zS,zL,↓reduceIte];have hm:=t _ hm
  try dsimp only at hm
  refine F _ _ _ _ ?_ (p k hm);exact wZ
theorem Ny(f:List aa)(b:dX)(z:aa×Bool)(hm:D6 f b=some z):Does prog 82 [lm zc f,pS b,.fn 38 []] [] (fun r X=>r=.tup [.agg [pS z.1.a,pS z.1.u,pB z.1.w],pB z.2]/\X=[]):=by
 unfold D6 at hm
 refine dW 0 25 [.cell 6 45,.tmp 7] func82 fun B=>nA fun hA=>?_
 refine qS ?_;obtain⟨i,g,hm⟩:=ze hm;refine sQ [0] (fun hg=>N4 f b _ g) ?_
 refine ca fun _ j _=>qS ?_
 refine cN hm (fun hm=>?_) fun hm=>?_
 .refine qS ?_
  exact wQ
 .refine Wp.skip (j _ _ ?_)
  obtain⟨k,l,c,m,hm⟩:=Hl hm;replace c:∀d,(List.map zc f).getD i.1.toNat d=zc k:=c zc;have hA:=c;exact wQ
theorem Na(c:aj)(f:List aa)(b:dX)(z:aa×Int)(hm:GO c f b=some z):Does prog 36 [.agg [lm za c.q,lm zc c.i,lm za c.n,lm zb c.m],lm zc f,pS b,.fn 37 [],.fn 38 []] [] (fun r X=>r=.tup [.agg [pS z.1.a,pS z.1.u,pB z.1.w],pI z.2]/\X=[]):=by
 unfold GO at hm
 refine dW 0 38 [.cell 10 45,.tmp 11] func36 fun B=>nA fun hA=>?_
 refine qS ?_;refine qS ?_
 refine ca fun _ o _=>?_
 obtain⟨t,g,hm⟩:=ze hm;refine sX (fun hg=>GA c _ g) ?_;refine qS ?_
 refine cR hm fun hm=>?_
 refine Wp.skip (o _ _ (ca fun _ p _=>?_));obtain⟨v,j,hm⟩:=ze hm;refine sX (fun hg=>B9 b _ j) ?_
 refine cR hm fun hm=>?_
 refine Wp.skip (p _ _ ?_);obtain⟨C,k,hm⟩:=ze hm;refine sX (fun hg=>Ny f b _ k) ?_
 refine ca fun _ l _=>qS ?_
 refine cR hm fun hm=>?_
 exact Wp.skip (l _ _ (wQ))
theorem Kr(b:aj)(c:dX)(z:aa×Int)(hm:BL b c=some z):Does prog 10 [.agg [lm za b.q,lm zc b.i,lm za b.n,lm zb b.m],pS c] [] (fun r X=>r=.tup [.agg [pS z.1.a,pS z.1.u,pB z.1.w],pI z.2]/\X=[]):=by
 unfold BL at hm
 refine dW 0 13 [.cell 4 45,.tmp 5] func10 fun B=>nA fun hA=>?_
 refine qS ?_;obtain⟨g,f,hm⟩:=ze hm;refine sX (fun hg=>Na b b.i c _ f) ?_;exact wR
theorem Mr(L:aj)(c:dX)(b:List ak)(F:List ai)(z:Bool)(hm:Dv L c b F=some z):Does prog 3 [.agg [lm za L.q,lm zc L.i,lm za L.n,lm zb L.m],pS c,lm zm b,lm zf F] [] (fun r X=>r=pB z/\X=[]):=by
 unfold Dv at hm
 refine dW 0 162 [.tmp 8] func3 fun B=>nA fun hA=>?_
 refine qS ?_
 refine ca fun _ aL _=>?_
 obtain⟨aU,a4,hm⟩:=ze hm;refine sX (fun hg=>LC  _ a4) ?_
 refine cR hm fun hm=>?_
 refine Wp.skip (aL _ _ ?_);obtain⟨M,an,hm⟩:=ze hm;refine sF (LS L _ an) ?_;obtain⟨aV,hm⟩:=zl hm;refine q6 ?_;obtain⟨f,ap,hm⟩:=ze hm;refine sF (LG M (am.mk []) c (List.take ((min (b.length:Int) 20).toNat) b) (au.mk false false) _ ap) ?_
 refine ca fun _ av _=>?_
 obtain⟨aW,p,hm⟩:=zC hm;have hA:=p;refine q6 ?_
 refine cR hm fun hm=>?_
 refine Wp.skip (av _ _ ?_);obtain⟨aX,a5,hm⟩:=ze hm;refine sF (xR M f.1.E _ a5) ?_
 refine ca fun _ aw _=>q6 ?_
 refine cR hm fun hm=>?_
 refine Wp.skip (aw _ _ (ca fun aM W ax=>?_));obtain⟨ay,T,hm⟩:=zN hm
 have Y:∀s,ay s=some z->aM [(1,pS c),(2,lm zm (List.take ((min (b.length:Int) 20).toNat) b)),(9,.ptr 1 0),(11,.ptr 2 0)] [.cells 26 [.top,.top,.top,.top],.cells 36 [lm zf f.1.E,lm zd f.1.D.r,lm zk f.1.H],.cells 26 [lm za s.1,lm zc s.2.1,lm za s.2.2.1,lm zb s.2.2.2]]:=by
  intro s hs;have hm:=T _ hs;clear hs;obtain⟨j,k,l,o⟩:=s
  try dsimp only at hm|-
  refine W _ _ ?_;obtain⟨U,az,hm⟩:=ze hm;refine sF (LV (aj.mk j k l o) f.1.D c (List.take ((min (b.length:Int) 20).toNat) b) _ az) ?_
  refine ca fun _ aA _=>q6 ?_
  refine cR hm fun hm=>?_
  refine Wp.skip (aA _ _ ?_);obtain⟨N,aB,hm⟩:=ze hm;refine sF (xR (aj.mk j k l o) U.1.E _ aB) ?_
  refine ca fun _ aC _=>q6 ?_
  refine cR hm fun hm=>?_
  refine Wp.skip (aC _ _ ?_);obtain⟨aY,a6,hm⟩:=ze hm;refine sF (LF N.1 f.1.D _ a6) ?_
  refine ca fun _ aD _=>q6 ?_
  refine cR hm fun hm=>?_
  refine Wp.skip (aD _ _ (ca fun aN Z aE=>?_));obtain⟨aF,V,hm⟩:=zN hm
  have a0:∀s,aF s=some z->aN [] []:=by
   intro s hs;have hm:=V _ hs;clear hs
   try dsimp only at hm|-
   exact Z _ _ (wQ)
  clear Z V;refine q6 ?_;refine Wp.block ?_;obtain⟨aZ,a7,hm⟩:=rY hm;refine Wp.loopN (fun s=>[(11,.ptr 2 0),(17,.ptr 4 0),(120,lm zm (List.take ((min (b.length:Int) 20).toNat) b)),(121,pI ((List.take ((min (b.length:Int) 20).toNat) b).length:Int)),(122,pI s)]) (fun s=>[.cells 26 [.top,.top,.top,.top],.cells 36 [lm zf f.1.E,lm zd f.1.D.r,lm zk f.1.H],.cells 26 [lm za j,lm zc k,lm za l,lm zb o],.cells 36 [lm zf U.1.E,lm zd U.1.D.r,lm zk U.1.H],.cells 26 [lm za N.1.q,lm zc N.1.i,lm za N.1.n,lm zb N.1.m]]) ?_ hm ?_
  .simp only[go_sem,simprocAttr,hA]
   try exact vt
  clear hm;intro t aQ hm
  try dsimp only at hm|-
  obtain⟨b0,O,hm⟩:=zC hm;have hA:=And.intro p O;refine q6 ?_
  refine ca fun _ aG _=>cN hm (fun hm=>?_) fun hm=>?_
  .refine Wp.skip (aG _ _ (ca fun _ a1 _=>Wp.block ?_))
   obtain⟨a2,aR,G,aS,hm⟩:=Hl hm;replace G:∀d,(List.map zm (List.take ((min (b.length:Int) 20).toNat) b)).getD t.toNat d=zm a2:=G zm;have hA:=And.intro p (And.intro O G);refine q6 ?_
   refine ca fun _ aH _=>q6 ?_
   refine cN hm (fun hm=>?_) fun hm=>?_
   .refine Wp.exit (a1 _ _ (r6 ?_))
    simp only[zS,zL,↓reduceIte];refine⟨IntKind.i64.wrap (t+1),hm,?_⟩;simp only[go_sem,simprocAttr,hA]
    try exact vt
   .refine Wp.skip (aH _ _ ?_)
    obtain⟨b1,a8,hm⟩:=ze hm;refine sX (fun hg=>Kr (aj.mk j k l o) a2.g.a _ a8) ?_;obtain⟨b2,a9,hm⟩:=ze hm;refine sX (fun hg=>Kr N.1 a2.g.a _ a9) ?_;obtain⟨b3,ac,hm⟩:=zC hm;have hA:=And.intro p (And.intro O (And.intro G ac));refine q6 ?_
    refine cR hm fun hm=>?_
    refine Wp.skip (a1 _ _ (r6 ?_));simp only[zS,zL,↓reduceIte];refine⟨IntKind.i64.wrap (t+1),hm,?_⟩;simp only[go_sem,simprocAttr,hA]
    try exact vt
  .refine Wp.exit ?_
   simp only[zS,zL,↓reduceIte];have hm:=a7 _ hm
   try dsimp only at hm
   refine aE _ _ _ _ ?_ (a0 () hm);simp only[go_sem,simprocAttr,hA]
   try exact vt
 clear W T;obtain⟨b4,hm⟩:=zl hm;refine q6 ?_;refine Wp.block ?_;obtain⟨b5,ad,hm⟩:=zF hm
 refine fL 63 ((List.take ((min (F.length:Int) 15).toNat) F).length) fun af=>?_
 refine Wp.forL (fun S s=>[(1,pS c),(2,lm zm (List.take ((min (b.length:Int) 20).toNat) b)),(9,.ptr 1 0),(11,.ptr 2 0),(63,lm zf (List.take ((min (F.length:Int) 15).toNat) F)),(64,pI ((List.take ((min (F.length:Int) 15).toNat) F).length:Int)),(65,pI (S:Int))]) (fun S s=>[.cells 26 [lm za M.q,lm zc M.i,lm za M.n,lm zb M.m],.cells 36 [lm zf f.1.E,lm zd f.1.D.r,lm zk f.1.H],.cells 26 [lm za s.1,lm zc s.2.1,lm za s.2.2.1,lm zb s.2.2.2]]) ?_ hm ?_
 .simp only[go_sem,simprocAttr,hA]
  try exact vt
 clear hm;intro S s aO hm;obtain⟨u,v,w,C⟩:=s
 try dsimp only at hm|-
 refine q6 ?_
 refine ca fun _ aI _=>Wp.cond rfl ⟨⟩ (fun P=>?_) (fun P=>?_)
 rotate_left
 .refine Wp.exit ?_
  have hm:=ad _ (nE hm (vF (by first|exact P|simpa using P)))
  try dsimp only at hm
  refine ax _ _ _ _ ?_ (Y (u,v,w,C) hm);simp only[go_sem,simprocAttr,hA]
  try exact vt
 have I:=oe P;have aJ:=lu I af;obtain⟨aK,aT,J,aP,R,hm⟩:=nD hm I;replace J:=J zf;refine Wp.skip ?_;simp only[zS];refine aI _ _ (ca fun _ a3 _=>Wp.block ?_);have hA:=And.intro p (And.intro aJ J);refine q6 ?_;obtain⟨Q,ag,hm⟩:=ze hm;refine sF (xR (aj.mk u v w C) [aK] _ ag) ?_;refine q6 ?_
 refine cN hm (fun hm=>?_) fun hm=>?_
 .refine r6 ?_
  refine a3 _ _ (r6 ?_);exact wN (Q.1.q,Q.1.i,Q.1.n,Q.1.m) I (R _ hm)
 .refine Wp.skip (a3 _ _ (r6 ?_))
  exact wN (u,v,w,C) I (R _ hm)
end Go.Proofs.YtggigadnagoglafGreatDoor
