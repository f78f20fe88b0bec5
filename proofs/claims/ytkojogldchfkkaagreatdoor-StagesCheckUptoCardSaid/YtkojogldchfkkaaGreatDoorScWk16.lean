/- That the code does what the models say (part 16). -/
import Derived.Test.YtkojogldchfkkaaGreatDoorScWk0
import Derived.Test.YtkojogldchfkkaaGreatDoorScWk3
import Derived.Test.YtkojogldchfkkaaGreatDoorScWk11
import Derived.Test.YtkojogldchfkkaaGreatDoorScWk15
set_option linter.unusedSimpArgs false
set_option linter.unusedVariables false
open Go.Proofs Go.Shelf
open List
namespace Go.Proofs.YtkojogldchfkkaaGreatDoor
open Tryz
open Go.Vc Go.Md
set_option maxRecDepth 100000
set_option maxHeartbeats 4000000
theorem RR(b:Int)(c:Int)(z:Int×Int)(hm:Ng b c=some z):Does prog 225 [.p (.i .u64 b),.p (.i .u64 c)] [] (fun r X=>r=.tup [.p (.i .u64 z.1),.p (.i .u64 z.2)]/\X=[]):=by
 unfold Ng at hm
 refine dW 0 51 [.tmp 4,.tmp 5] func225 fun B=>nA fun hA=>?_
 refine qS ?_;refine qS ?_;refine qS ?_;refine qS ?_;refine qS ?_;refine qS ?_;refine qS ?_;refine qS ?_;refine qS ?_;refine qS ?_;refine qS ?_;exact wQ
theorem RK(b:Int)(c:Int)(z:Int×Int)(hm:KB b c=some z):Does prog 181 [.p (.i .u64 b),.p (.i .u64 c)] [] (fun r X=>r=.tup [.p (.i .u64 z.1),.p (.i .u64 z.2)]/\X=[]):=by
 unfold KB at hm
 refine dW 0 30 [.tmp 4,.tmp 5] func181 fun B=>nA fun hA=>?_
 refine qS ?_
 refine df fun _ j _=>Wp.cond rfl ⟨⟩ (fun f=>?_) (fun f=>?_)
 .cases f
 refine Wp.skip (j _ _ ?_);obtain⟨k,g,hm⟩:=zd hm;refine sX (fun hg=>RR b c _ g) ?_;exact wQ
theorem Nz(b:eA)(z:Int)(hm:H5 b=some z):Does prog 182 [.ptr 0 0] [.cells 154 [.np 0,.buf 1],.sb 5 b] (fun r X=>r=pI z/\X=[.cells 154 [.np 0,.buf 1],.sb 5 b]):=by
 unfold H5 at hm
 refine dW 2 8 [.tmp 2] func182 fun B=>nA fun hA=>?_
 refine qS ?_;exact wQ
theorem RE(b:eA)(j:Int)(z:eA)(hm:HM b j=some z):Does prog 148 [pS b,pI j] [] (fun r X=>r=pS z/\X=[]):=by
 unfold HM at hm
 refine dW 0 125 [.tmp 4] func148 fun B=>nA fun hA=>?_
 refine qS ?_
 refine df fun _ az _=>qS ?_
 refine Wp.block (qS ?_)
 refine cR hm fun hm=>?_
 refine qS ?_
 refine cR hm fun hm=>?_
 refine Wp.skip (az _ _ (df fun aA E ac=>?_));obtain⟨aB,F,hm⟩:=zj hm
 have G:∀s,aB s=some z->aA [(0,pS b),(1,pI j)] []:=by
  intro s hs;have hm:=F _ hs;clear hs
  try dsimp only at hm|-
  refine E _ _ ?_;obtain⟨c,ad,hm⟩:=zd hm;refine sX (fun hg=>RK (IntKind.u64.wrap (b.length:Int)) (IntKind.u64.wrap j) _ ad) ?_
  refine df fun aC I af=>?_
  obtain⟨aD,J,hm⟩:=zj hm
  have L:∀s,aD s=some z->aC [(0,pS b),(6,.p (.i .u64 c.2))] []:=by
   intro s hs;have hm:=J _ hs;clear hs
   try dsimp only at hm|-
   refine I _ _ (qS ?_)
   refine df fun _ ag _=>qS ?_
   refine cR hm fun hm=>?_
   refine Wp.skip (ag _ _ (df fun aE M N=>?_));obtain⟨aF,O,hm⟩:=zj hm
   have u:∀s,aF s=some z->aE [(0,pS b),(7,pI (IntKind.i64.wrap c.2))] []:=by
    intro s hs;have hm:=O _ hs;clear hs
    try dsimp only at hm|-
    refine M _ _ (qS ?_)
    refine df fun aG P v=>?_
    obtain⟨aH,Q,hm⟩:=zj hm
    have m:∀s,aH s=some z->aG [(0,pS b),(7,pI (IntKind.i64.wrap c.2)),(8,pI s)] []:=by
     intro k hs;have hm:=Q _ hs;clear hs
     try dsimp only at hm|-
     refine P _ _ (qS ?_);refine dC 0 5 rfl ?_;simp only[go_sem,simprocAttr];obtain⟨aN,U,hm⟩:=zd hm;refine sO [0,1] (Qk (IntKind.i64.wrap c.2) [] _ U) ?_;obtain⟨aO,V,hm⟩:=zd hm;refine sO [0,1] (zk b [] _ V) ?_
     refine df fun aI R an=>?_
     obtain⟨ao,C,hm⟩:=zj hm
     have S:∀s,ao s=some z->aI [(9,.ptr 0 0)] [.cells 154 [.np 0,.buf 1],.sb 5 s]:=by
      intro W hs;have hm:=C _ hs;clear hs
      try dsimp only at hm|-
      refine R _ _ ?_;obtain⟨aP,Y,hm⟩:=zd hm;refine sO [0,1] (H8 W _ Y) ?_;exact wR
     clear R C;refine Wp.block ?_;obtain⟨aQ,Z,hm⟩:=jG hm;refine Wp.loopN (fun s=>[(7,pI (IntKind.i64.wrap c.2)),(8,pI k),(9,.ptr 0 0)]) (fun s=>[.cells 154 [.np 0,.buf 1],.sb 5 s]) ?_ hm ?_
     .exact fT
     clear hm;intro l aL hm
     try dsimp only at hm|-
     refine df fun _ ap _=>?_
     obtain⟨aR,a0,hm⟩:=zd hm;refine sO [0,1] (Nz l _ a0) ?_
     refine cN hm (fun hm=>?_) fun hm=>?_
     .refine Wp.skip (ap _ _ (Wp.block ?_))
      obtain⟨aq,a1,hm⟩:=zd hm;obtain⟨ar,a2,hm⟩:=zd hm
      refine rS fun _ au=>?_
      refine cO [0,1] (Nz l _ a1) ?_;refine cO [0,1] (Nz l _ a2) (au _ _ ?_);obtain⟨av,a3,hm⟩:=zd hm;obtain⟨aS,hm⟩:=zh hm;obtain⟨aw,a4,hm⟩:=zd hm
      refine rE fun _ ax=>?_
      refine cO [0,1] (H8 l _ a3) ?_;refine cO [0,1] (zk (List.take ((min (min (IntKind.i64.wrap ((IntKind.i64.wrap c.2)-aq)) ar) k).toNat) av) l _ a4) (ax _ _ ?_);simp only[zy,zq,↓reduceIte];refine⟨aw.2,hm,?_⟩;exact fT
     .refine Wp.exit ?_
      simp only[zy,zq,↓reduceIte];have hm:=Z _ hm
      try dsimp only at hm
      refine an _ _ _ _ ?_ (S l hm);exact fT
    clear P Q;refine qS ?_
    refine cN hm (fun hm=>?_) fun hm=>?_
    .obtain⟨aT,hm⟩:=zh hm
     refine q6 ?_;refine qS ?_
     refine cN hm (fun hm=>?_) fun hm=>?_
     .refine qR ?_
      refine v _ _ _ _ ?_ (m (b.length:Int) hm);exact fT
     .refine Wp.skip (v _ _ _ _ ?_ (m (IntKind.i64.wrap ((IntKind.i64.wrap (Int.tdiv 8192 (b.length:Int)))*(b.length:Int))) hm))
      exact fT
    .refine Wp.skip (v _ _ _ _ ?_ (m (IntKind.i64.wrap c.2) hm))
     exact fT
   clear M O;obtain⟨o,aM,t,hm⟩:=mL hm;replace t:((b.getD 0 0).toNat:Int)=o:=t;have hA:=t;refine q6 ?_;refine Wp.block (df fun aJ T n=>?_);obtain⟨ay,D,hm⟩:=zj hm
   have f:∀s,ay s=some z->aJ [(0,pS b),(7,pI (IntKind.i64.wrap c.2)),(43,pB s)] []:=by
    intro aK hs;have hm:=D _ hs;clear hs
    try dsimp only at hm|-
    refine T _ _ (cN hm (fun hm=>?_) fun hm=>?_)
    .refine Wp.block ?_
     obtain⟨aU,a5,hm⟩:=zx hm;refine sX (g:=decide ((IntKind.i64.wrap c.2)<=128)) (fun hg=>C3 ((List.append [32,32,32,32,32,32,32,32,32,32,32,32,32,32,32,32,32,32,32,32,32,32,32,32,32,32,32,32,32,32,32,32,32,32,32,32,32,32,32,32,32,32,32,32,32,32,32,32,32,32,32,32,32,32,32,32,32,32,32,32,32,32,32,32] [32,32,32,32,32,32,32,32,32,32,32,32,32,32,32,32,32,32,32,32,32,32,32,32,32,32,32,32,32,32,32,32,32,32,32,32,32,32,32,32,32,32,32,32,32,32,32,32,32,32,32,32,32,32,32,32,32,32,32,32,32,32,32,32]):eA) b _ (a5 hg)) ?_
     refine cN hm (fun hm=>?_) fun hm=>?_
     .obtain⟨aV,hm⟩:=zh hm
      exact wQ
     .obtain⟨aW,a6,hm⟩:=zx hm
      refine sX (g:=decide ((IntKind.i64.wrap c.2)<=128)) (fun hg=>C3 ((List.append [45,45,45,45,45,45,45,45,45,45,45,45,45,45,45,45,45,45,45,45,45,45,45,45,45,45,45,45,45,45,45,45,45,45,45,45,45,45,45,45,45,45,45,45,45,45,45,45,45,45,45,45,45,45,45,45,45,45,45,45,45,45,45,45] [45,45,45,45,45,45,45,45,45,45,45,45,45,45,45,45,45,45,45,45,45,45,45,45,45,45,45,45,45,45,45,45,45,45,45,45,45,45,45,45,45,45,45,45,45,45,45,45,45,45,45,45,45,45,45,45,45,45,45,45,45,45,45,45]):eA) b _ (a6 hg)) ?_
      refine cN hm (fun hm=>?_) fun hm=>?_
      .obtain⟨aX,hm⟩:=zh hm
       exact wQ
      .obtain⟨aY,a7,hm⟩:=zx hm
       refine sX (g:=decide ((IntKind.i64.wrap c.2)<=64)) (fun hg=>C3 ([48,48,48,48,48,48,48,48,48,48,48,48,48,48,48,48,48,48,48,48,48,48,48,48,48,48,48,48,48,48,48,48,48,48,48,48,48,48,48,48,48,48,48,48,48,48,48,48,48,48,48,48,48,48,48,48,48,48,48,48,48,48,48,48]:eA) b _ (a7 hg)) ?_
       refine cN hm (fun hm=>?_) fun hm=>?_
       .obtain⟨aZ,hm⟩:=zh hm
        exact wQ
       .obtain⟨b0,a8,hm⟩:=zx hm
        refine sX (g:=decide ((IntKind.i64.wrap c.2)<=128)) (fun hg=>C3 ((List.append [61,61,61,61,61,61,61,61,61,61,61,61,61,61,61,61,61,61,61,61,61,61,61,61,61,61,61,61,61,61,61,61,61,61,61,61,61,61,61,61,61,61,61,61,61,61,61,61,61,61,61,61,61,61,61,61,61,61,61,61,61,61,61,61] [61,61,61,61,61,61,61,61,61,61,61,61,61,61,61,61,61,61,61,61,61,61,61,61,61,61,61,61,61,61,61,61,61,61,61,61,61,61,61,61,61,61,61,61,61,61,61,61,61,61,61,61,61,61,61,61,61,61,61,61,61,61,61,61]):eA) b _ (a8 hg)) ?_
        refine cN hm (fun hm=>?_) fun hm=>?_
        .obtain⟨b1,hm⟩:=zh hm
         exact wQ
        .obtain⟨b2,a9,hm⟩:=zx hm
         refine sX (g:=decide ((IntKind.i64.wrap c.2)<=64)) (fun hg=>C3 ([9,9,9,9,9,9,9,9,9,9,9,9,9,9,9,9,9,9,9,9,9,9,9,9,9,9,9,9,9,9,9,9,9,9,9,9,9,9,9,9,9,9,9,9,9,9,9,9,9,9,9,9,9,9,9,9,9,9,9,9,9,9,9,9]:eA) b _ (a9 hg)) ?_
         refine cN hm (fun hm=>?_) fun hm=>?_
         .obtain⟨b3,hm⟩:=zh hm
          exact wQ
         .refine Wp.skip (N _ _ _ _ ?_ (u () hm))
          simp only[go_sem,simprocAttr,hA]
          try exact gE
    .refine Wp.skip (N _ _ _ _ ?_ (u () hm))
     simp only[go_sem,simprocAttr,hA]
     try exact gE
   clear T D;refine q6 ?_
   refine cN hm (fun hm=>?_) fun hm=>?_
   .refine Wp.skip (n _ _ _ _ ?_ (f (decide (o=32)) hm))
    simp only[go_sem,simprocAttr,hA]
    try exact gE
   .refine q6 ?_
    refine cN hm (fun hm=>?_) fun hm=>?_
    .refine Wp.skip (n _ _ _ _ ?_ (f (decide (o=45)) hm))
     simp only[go_sem,simprocAttr,hA]
     try exact gE
    .refine q6 ?_
     refine cN hm (fun hm=>?_) fun hm=>?_
     .refine Wp.skip (n _ _ _ _ ?_ (f (decide (o=48)) hm))
      simp only[go_sem,simprocAttr,hA]
      try exact gE
     .refine q6 ?_
      refine cN hm (fun hm=>?_) fun hm=>?_
      .refine Wp.skip (n _ _ _ _ ?_ (f (decide (o=61)) hm))
       simp only[go_sem,simprocAttr,hA]
       try exact gE
      .refine r6 ?_
       refine n _ _ _ _ ?_ (f (decide (o=9)) hm);simp only[go_sem,simprocAttr,hA]
       try exact gE
  clear I J;refine qS ?_
  refine cN hm (fun hm=>?_) fun hm=>?_
  .cases hm
  .refine Wp.skip (af _ _ _ _ ?_ (L () hm))
   exact fT
 clear E F;refine qS ?_
 refine cN hm (fun hm=>?_) fun hm=>?_
 .cases hm
 .refine Wp.skip (ac _ _ _ _ ?_ (G () hm))
  exact fT
theorem OH(b:eA)(z:eA)(hm:Cy b=some z):Does prog 103 [pS b] [] (fun r X=>r=pS z/\X=[]):=by
 unfold Cy at hm
 refine dW 0 27 [.tmp 2] func103 fun B=>nA fun hA=>?_
 refine qS ?_;refine qS ?_
 refine df fun K3 m D=>?_
 obtain⟨E,c,hm⟩:=zj hm
 have g:∀s,E s=some z->K3 [(3,.p (.i .u64 s))] []:=by
  intro o hs;have hm:=c _ hs;clear hs
  try dsimp only at hm|-
  refine m _ _ ?_;obtain⟨F,t,hm⟩:=zd hm;refine sX (fun hg=>Sa o 16 _ t) ?_;obtain⟨O,u,hm⟩:=zd hm;obtain⟨L,hm⟩:=zh hm;refine sX (fun hg=>RE ([48]:eA) (IntKind.i64.wrap (16-(F.length:Int))) _ u) ?_;exact wR
 clear m c;refine qS ?_;refine Wp.block ?_;obtain⟨P,v,hm⟩:=zl hm
 refine fL 0 b.length fun j=>?_
 refine Wp.forL (fun f s=>[(0,pS b),(3,.p (.i .u64 s)),(7,pI (b.length:Int)),(8,pI (f:Int))]) (fun f s=>[]) wF hm ?_;clear hm;intro f n I hm
 try dsimp only at hm|-
 refine qS ?_
 refine lS hm j (fun h=>D _ _ _ _ wF (g n (v _ h))) fun k M G N J l hm hA _ C=>?_
 refine q6 ?_;refine r6 ?_;refine C _ _ (r6 ?_);exact wN (IntKind.u64.wrap ((fj .xor .u64 n (IntKind.u64.wrap (G.toNat:Int)))*1099511628211)) k (l _ hm)
theorem P2(b:List ae)(z:Int)(hm:FC b=some z):Does prog 101 [lm zf b] [] (fun r X=>r=pI z/\X=[]):=by
 unfold FC at hm
 refine dW 0 18 [.tmp 2] func101 fun B=>nA fun hA=>?_
 refine qS ?_
 refine df fun K2 j o=>?_
 obtain⟨p,c,hm⟩:=zj hm
 have g:∀s,p s=some z->K2 [] []:=by
  intro s hs;have hm:=c _ hs;clear hs
  try dsimp only at hm|-
  exact j _ _ (wQ)
 clear j c;refine qS ?_;refine Wp.block ?_;obtain⟨F,k,hm⟩:=zl hm
 refine fL 6 b.length fun l=>?_
 refine Wp.forL (fun f s=>[(6,lm zf b),(7,pI (b.length:Int)),(8,pI (f:Int))]) (fun f s=>[]) wF hm ?_;clear hm;intro f s v hm
 try dsimp only at hm|-
 refine qS ?_
 refine lB zf hm l (fun h=>o _ _ _ _ wF (g () (k _ h))) fun m G t E C D i hm hA _ u=>?_
 refine q6 ?_;obtain⟨I,n,hm⟩:=zd hm;refine sX (fun hg=>P0 t _ n) ?_;refine q6 ?_
 refine cR hm fun hm=>?_
 refine Wp.skip (u _ _ (r6 ?_));exact wN () m (i _ hm)
theorem nC(b:Bool)(z:eA)(hm:pg b=some z):Does prog 179 [pB b] [] (fun r X=>r=pS z/\X=[]):=by
 unfold pg at hm
 refine dW 0 4 [.tmp 2] func179 fun B=>nA fun hA=>?_
 refine qS ?_
 refine df fun _ c _=>qS ?_
 refine cR hm fun hm=>?_
 exact Wp.skip (c _ _ (wQ))
theorem RB(b:ah)(z:eA)(hm:HI b=some z):Does prog 145 [.agg [pS b.j,pS b.a,pB b.u,pB b.t]] [] (fun r X=>r=pS z/\X=[]):=by
 unfold HI at hm
 refine dW 0 19 [.tmp 2] func145 fun B=>nA fun hA=>?_
 refine qS ?_;obtain⟨i,hm⟩:=zh hm;obtain⟨k,hm⟩:=zh hm;obtain⟨l,hm⟩:=zh hm;obtain⟨m,c,hm⟩:=zd hm;obtain⟨n,hm⟩:=zh hm;obtain⟨o,hm⟩:=zh hm;obtain⟨p,f,hm⟩:=zd hm;obtain⟨v,hm⟩:=zh hm
 refine dS (pl [(0,none),(1,none),(2,none),(3,none),(4,none),(5,none),(6,none),(7,none),(8,none),(9,none),(10,none),(11,none),(12,none),(13,none),(14,none),(15,none),(16,none)]) fun _ g=>?_
 refine cD (fun hg=>nC b.u _ c) ?_;refine cD (fun hg=>nC b.t _ f) (g _ _ ?_);exact wR
theorem SG(c:Int)(b:eA)(z:eA)(hm:FY c b=some z):Does prog 146 [.ptr 0 0,.p (.i .u8 c)] [.cells 154 [.np 0,.buf 1],.sb 5 b] (fun r X=>r=.raw .nilIface/\X=[.cells 154 [.np 0,.buf 1],.sb 5 z]):=by
 unfold FY at hm
 refine dW 2 17 [.tmp 4] func146 fun B=>nA fun hA=>?_
 refine qS ?_;obtain⟨g,f,hm⟩:=zd hm;refine sO [0,1] (Qu b _ f) ?_;obtain⟨j,hm⟩:=zh hm;refine q6 ?_;exact wQ
end Go.Proofs.YtkojogldchfkkaaGreatDoor
