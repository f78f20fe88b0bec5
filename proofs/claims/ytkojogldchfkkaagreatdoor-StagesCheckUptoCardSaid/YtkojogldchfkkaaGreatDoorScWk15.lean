/- That the code does what the models say (part 15). -/
import Derived.Test.YtkojogldchfkkaaGreatDoorScWk0
import Derived.Test.YtkojogldchfkkaaGreatDoorScWk2
import Derived.Test.YtkojogldchfkkaaGreatDoorScWk10
import Derived.Test.YtkojogldchfkkaaGreatDoorScWk11
import Derived.Test.YtkojogldchfkkaaGreatDoorScWk14
set_option linter.unusedSimpArgs false
set_option linter.unusedVariables false
open Go.Proofs Go.Shelf
open List
namespace Go.Proofs.YtkojogldchfkkaaGreatDoor
open Tryz
open Go.Vc Go.Md
set_option maxRecDepth 100000
set_option maxHeartbeats 4000000
theorem lR(i:eA)(z:eA×Int)(hm:GU i=some z):Does prog 222 [pS i] [] (fun r X=>r=.tup [pS z.1,pI z.2]/\X=[]):=by
 unfold GU at hm
 refine dW 0 107 [.tmp 2,.tmp 3] func222 fun B=>nA fun hA=>?_
 refine qS ?_
 refine df fun _ F _=>?_
 obtain⟨Q,hm⟩:=zh hm;obtain⟨R,hm⟩:=zh hm;refine q6 ?_
 refine cR hm fun hm=>?_
 refine Wp.skip (F _ _ (qS ?_))
 refine df fun K7 n G=>?_
 obtain⟨I,j,hm⟩:=zj hm
 have k:∀s,I s=some z->K7 [(0,pS i),(4,.buf 0)] [.buf 5 1 (List.map fv s)]:=by
  intro l hs;have hm:=j _ hs;clear hs
  try dsimp only at hm|-
  refine n _ _ (df fun _ J _=>?_);obtain⟨a9,t,hm⟩:=zd hm;refine sX (fun hg=>Mz (Go.Vc.strOf l) _ t) ?_
  refine cR hm fun hm=>?_
  exact Wp.skip (J _ _ (wQ))
 clear n j;obtain⟨S,hm⟩:=zh hm;refine q6 ?_;refine Wp.block (ea 4 5 1 rfl ?_);simp only[go_sem,simprocAttr];obtain⟨T,m,hm⟩:=jG hm;refine Wp.loopN (fun s=>[(0,pS i),(4,.buf 0),(5,pS s.1)]) (fun s=>[.buf 5 1 (List.map fv s.2)]) ?_ hm ?_
 .exact fT
 clear hm;intro s N hm;obtain⟨b,f⟩:=s
 try dsimp only at hm|-
 refine df fun _ u _=>qS ?_
 refine cN hm (fun hm=>?_) fun hm=>?_
 .refine Wp.skip (u _ _ (Wp.block (df fun _ v _=>?_)))
  obtain⟨o,O,c,hm⟩:=mL hm;replace c:((b.getD 0 0).toNat:Int)=o:=c;have hA:=c;refine q6 ?_
  refine cN hm (fun hm=>?_) fun hm=>?_
  .obtain⟨U,hm⟩:=zh hm
   refine q6 ?_;obtain⟨V,hm⟩:=zh hm;refine q6 ?_;refine Wp.exit ?_;simp only[zy,zq,↓reduceIte];refine⟨(List.drop 1 b,f++[o]),hm,?_⟩;simp only[go_sem,simprocAttr,hA]
   try exact gE
  .refine Wp.skip (v _ _ (Wp.block ?_))
   obtain⟨W,hm⟩:=zh hm;obtain⟨Y,hm⟩:=zh hm;refine q6 ?_
   refine cN hm (fun hm=>?_) fun hm=>?_
   .obtain⟨p,P,g,hm⟩:=mL hm
    replace g:((b.getD 1 0).toNat:Int)=p:=g;obtain⟨Z,hm⟩:=zh hm;have hA:=And.intro c g;refine q6 ?_;obtain⟨a0,hm⟩:=zh hm;refine r6 ?_;simp only[zy,zq,↓reduceIte];refine⟨(List.drop 2 b,f++[p]),hm,?_⟩;simp only[go_sem,simprocAttr,hA]
    try exact gE
   .obtain⟨a1,hm⟩:=zh hm
    refine q6 ?_
    refine cN hm (fun hm=>?_) fun hm=>?_
    .obtain⟨a2,hm⟩:=zh hm
     refine q6 ?_;obtain⟨a3,hm⟩:=zh hm;refine r6 ?_;simp only[zy,zq,↓reduceIte];refine⟨(List.drop 2 b,f++[10]),hm,?_⟩;simp only[go_sem,simprocAttr,hA]
     try exact gE
    .obtain⟨a4,hm⟩:=zh hm
     refine q6 ?_
     refine cT hm fun hm=>?_
     obtain⟨a5,hm⟩:=zh hm;obtain⟨L,C,hm⟩:=zd hm;obtain⟨a6,hm⟩:=zh hm;obtain⟨M,D,hm⟩:=zd hm
     refine dS (pl [(0,none),(1,none),(2,none),(3,none),(4,none),(5,none),(6,none),(7,none),(8,none)]) fun _ E=>?_
     refine cD (fun hg=>HW ([48,49,50,51,52,53,54,55,56,57,97,98,99,100,101,102]:eA) (List.take (3-2) (List.drop 2 b)) _ C) ?_;refine cD (fun hg=>HW ([48,49,50,51,52,53,54,55,56,57,97,98,99,100,101,102]:eA) (List.take (4-3) (List.drop 3 b)) _ D) (E _ _ ?_);obtain⟨a7,hm⟩:=zh hm;refine q6 ?_;obtain⟨a8,hm⟩:=zh hm;refine r6 ?_;simp only[zy,zq,↓reduceIte];refine⟨(List.drop 4 b,f++[IntKind.u8.wrap (IntKind.i64.wrap ((IntKind.i64.wrap (L*16))+M))]),hm,?_⟩;simp only[go_sem,simprocAttr,hA]
     try exact gE
 .refine Wp.exit ?_
  simp only[zy,zq,↓reduceIte];have hm:=m _ hm
  try dsimp only at hm
  refine G _ _ _ _ ?_ (k f hm);exact fT
theorem ny(b:eA)(z:eA×eA×Bool)(hm:GD b=some z):Does prog 175 [pS b] [] (fun r X=>r=.tup [pS z.1,pS z.2.1,pB z.2.2]/\X=[]):=by
 unfold GD at hm
 refine dW 0 30 [.tmp 2,.tmp 3,.tmp 4] func175 fun B=>nA fun hA=>?_
 refine qS ?_;obtain⟨g,c,hm⟩:=zd hm;refine sX (fun hg=>HK b ([32]:eA) _ c) ?_;obtain⟨i,f,hm⟩:=zd hm;refine sX (fun hg=>lR g.2.1 _ f) ?_;exact wQ
theorem R2(c:eA)(b:eA)(z:Bool)(hm:HZ c b=some z):Does prog 176 [pS c,pS b] [] (fun r X=>r=pB z/\X=[]):=by
 unfold HZ at hm
 refine dW 0 9 [.tmp 4] func176 fun B=>nA fun hA=>?_
 refine qS ?_;obtain⟨g,f,hm⟩:=zd hm;refine sX (fun hg=>HW c b _ f) ?_;exact wR
theorem QZ(b:List eA)(z:ah×Bool)(hm:Hh b=some z):Does prog 177 [lm eD b] [] (fun r X=>r=.tup [.agg [pS z.1.j,pS z.1.a,pB z.1.u,pB z.1.t],pB z.2]/\X=[]):=by
 unfold Hh at hm
 refine dW 0 59 [.cell 2 48,.tmp 3] func177 fun B=>nA fun hA=>?_
 refine qS ?_
 refine df fun _ v _=>?_
 obtain⟨R,hm⟩:=zh hm;obtain⟨S,hm⟩:=zh hm;obtain⟨T,hm⟩:=zh hm;obtain⟨U,hm⟩:=zh hm;obtain⟨V,hm⟩:=zh hm;obtain⟨W,hm⟩:=zh hm;have m:=uP (l:=b) (e:=eD) (d:=[]) (i:=0);simp only[eD,map_nil]at m;have n:=uP (l:=b) (e:=eD) (d:=[]) (i:=1);simp only[eD,map_nil]at n;have o:=uP (l:=b) (e:=eD) (d:=[]) (i:=2);simp only[eD,map_nil]at o;have p:=uP (l:=b) (e:=eD) (d:=[]) (i:=3);simp only[eD,map_nil]at p;have hA:=And.intro m (And.intro n (And.intro o p));refine q6 ?_
 refine cR hm fun hm=>?_
 refine Wp.skip (v _ _ ?_);obtain⟨C,I,c,J,hm⟩:=fV hm;replace c:∀d,(List.map eD b).getD 0 d=eD C:=c eD;obtain⟨D,L,f,M,hm⟩:=fV hm;replace f:∀d,(List.map eD b).getD 1 d=eD D:=f eD;obtain⟨E,N,g,O,hm⟩:=fV hm;replace g:∀d,(List.map eD b).getD 2 d=eD E:=g eD;obtain⟨F,P,k,Q,hm⟩:=fV hm;replace k:∀d,(List.map eD b).getD 3 d=eD F:=k eD;have hA:=And.intro c (And.intro f (And.intro g k))
 refine dS (pl [(0,none),(1,none),(2,none),(3,none),(4,none),(5,none),(6,none),(7,none),(8,none),(9,none),(10,none),(11,none),(12,none),(13,none),(14,none),(15,some []),(16,none)]) fun _ G=>G _ _ ?_
 exact wR
theorem QO(i:eA)(z:ae×Bool)(hm:G5 i=some z):Does prog 141 [pS i] [] (fun r X=>r=.tup [.agg [pI z.1.k,pS z.1.g.a,pS z.1.g.q,pB z.1.g.r,pS z.1.o.e,pS z.1.o.Value,pS z.1.f.j,pS z.1.f.a,pB z.1.f.u,pB z.1.f.t],pB z.2]/\X=[]):=by
 unfold G5 at hm
 refine dW 0 80 [.cell 2 50,.tmp 3] func141 fun B=>nA fun hA=>?_
 refine qS ?_;obtain⟨b,v,hm⟩:=zd hm;refine sX (fun hg=>HK i ([32]:eA) _ v) ?_;obtain⟨l,C,hm⟩:=zd hm;refine sX (fun hg=>ny b.2.1 _ C) ?_;obtain⟨I,D,hm⟩:=zx hm;refine sX (g:=!decide (b.2.1=[])) (fun hg=>R2 b.2.1 ([32]:eA) _ (D hg)) ?_
 refine df fun _ J _=>qS ?_
 refine Wp.block (df fun L m n=>?_);obtain⟨M,p,hm⟩:=zj hm
 have c:∀s,M s=some z->L [(2,.ptr 0 0),(4,pS b.1),(5,pS b.2.1),(7,pS l.1),(8,pS l.2.1),(9,pB l.2.2),(10,pB ((!decide (b.2.1=[]))&&(!I))),(32,pS b.1),(33,pB s)] [.cells 50 [pI 0,pS ([]),pS ([]),pB false,pS ([]),pS ([]),pS ([]),pS ([]),pB false,pB false]]:=by
  intro O hs;have hm:=p _ hs;clear hs
  try dsimp only at hm|-
  refine m _ _ (cR hm fun hm=>?_);refine qS ?_
  refine cR hm fun hm=>?_
  refine qS ?_
  refine cR hm fun hm=>?_
  refine qS ?_
  refine cR hm fun hm=>?_
  refine qS ?_
  refine cN hm (fun hm=>?_) fun hm=>?_
  .obtain⟨N,E,hm⟩:=zd hm
   obtain⟨P,F,hm⟩:=zd hm
   refine rS fun _ G=>?_
   refine cF (HY b.2.1 ([32]:eA) _ E) ?_;refine cX (fun hg=>QZ N _ F) (G _ _ ?_);exact wQ
  .refine qS ?_
   refine cR hm fun hm=>?_
   exact Wp.skip (J _ _ (wQ))
 clear m p;refine qS ?_
 refine cN hm (fun hm=>?_) fun hm=>?_
 .refine Wp.skip (n _ _ _ _ ?_ (c (decide (b.1=([112,117,116]:eA))) hm))
  exact fT
 .refine qR ?_
  refine n _ _ _ _ ?_ (c (decide (b.1=([112,117,116,114,117,110]:eA))) hm);exact fT
theorem Qf(j:eA)(b:Int)(c:List eA)(z:List ae×Bool×Int)(hm:BS j b c=some z):Does prog 139 [pS j,.ptr 0 0,.ptr 1 0] [.cells 3 [pI b],.cells 114 [lm eD c]] (fun r X=>r=.tup [lm zf z.1,pB z.2.1]/\X=[.cells 3 [pI z.2.2],.cells 114 [lm eD c]]):=by
 unfold BS at hm
 refine dW 2 89 [.tmp 4,.tmp 5] func139 fun B=>nA fun hA=>?_
 refine qS ?_
 refine df fun _ T _=>qS ?_
 refine cN hm (fun hm=>?_) fun hm=>?_
 .refine qS ?_
  refine Wp.ret ?_;simp only[zy,zq];refine zL ?_;cases hm;exact fT
 .refine Wp.skip (T _ _ ?_)
  obtain⟨G,Y,i,Z,hm⟩:=fV hm;replace i:∀d,(List.map eD c).getD b.toNat d=eD G:=i eD;obtain⟨a4,hm⟩:=zh hm;obtain⟨I,J,hm⟩:=zd hm;have hA:=i;refine sX (fun hg=>KW G (j++([32]:eA)) _ J) ?_;obtain⟨f,L,hm⟩:=zd hm;refine sF (PU I.1 _ L) ?_
  refine df fun _ M _=>?_
  obtain⟨a5,C,hm⟩:=zx hm;refine sX (g:=!(((!I.2)||(!f.2))||(decide (f.1<0)))) (fun hg=>KO f.1 _ (C hg)) ?_
  refine cN hm (fun hm=>?_) fun hm=>?_
  .refine q6 ?_
   refine Wp.ret ?_;simp only[zy,zq];refine zL ?_;cases hm;simp only[go_sem,simprocAttr,hA]
   try exact gE
  .refine Wp.skip (M _ _ (q6 ?_))
   refine df fun U o N=>?_
   obtain⟨V,p,hm⟩:=zj hm
   have t:∀s,V s=some z->U [(1,.ptr 0 0),(8,pI f.1),(10,.buf 2)] [.cells 3 [pI b],.cells 114 [lm eD c],.buf 50 10 (List.map zf s)]:=by
    intro a0 hs;have hm:=p _ hs;clear hs
    try dsimp only at hm|-
    refine o _ _ (q6 ?_);exact wQ
   clear o p;obtain⟨a6,hm⟩:=zh hm;refine q6 ?_;refine Wp.block (di 10 50 10 rfl ?_);simp only[go_sem,simprocAttr,hA];obtain⟨a7,D,hm⟩:=zl hm
   refine fL 66 ((List.take ((IntKind.i64.wrap ((IntKind.i64.wrap (b+1))+f.1)).toNat-(IntKind.i64.wrap (b+1)).toNat) (List.drop ((IntKind.i64.wrap (b+1)).toNat) c)).length) fun E=>?_
   refine Wp.forL (fun u s=>[(1,.ptr 0 0),(8,pI f.1),(10,.buf 2),(66,lm eD (List.take ((IntKind.i64.wrap ((IntKind.i64.wrap (b+1))+f.1)).toNat-(IntKind.i64.wrap (b+1)).toNat) (List.drop ((IntKind.i64.wrap (b+1)).toNat) c))),(67,pI ((List.take ((IntKind.i64.wrap ((IntKind.i64.wrap (b+1))+f.1)).toNat-(IntKind.i64.wrap (b+1)).toNat) (List.drop ((IntKind.i64.wrap (b+1)).toNat) c)).length:Int)),(68,pI (u:Int))]) (fun u s=>[.cells 3 [pI b],.cells 114 [lm eD c],.buf 50 10 (List.map zf s)]) ?_ hm ?_
   .simp only[go_sem,simprocAttr,hA]
    try exact gE
   clear hm;intro u n a1 hm
   try dsimp only at hm|-
   refine q6 ?_
   refine df fun _ O _=>Wp.cond rfl ⟨⟩ (fun k=>?_) (fun k=>?_)
   rotate_left
   .refine Wp.exit ?_
    have hm:=D _ (pw hm (jh (by first|exact k|simpa using k)))
    try dsimp only at hm
    refine N _ _ _ _ ?_ (t n hm);simp only[go_sem,simprocAttr,hA]
    try exact gE
   have l:=rm k;have P:=pz l E;obtain⟨W,a2,m,a3,v,hm⟩:=py hm l;replace m:=m eD;refine Wp.skip ?_;simp only[zy];refine O _ _ (df fun _ Q _=>Wp.block ?_);have hA:=And.intro i (And.intro P m);refine q6 ?_;obtain⟨R,F,hm⟩:=zd hm;refine sX (fun hg=>QO W _ F) ?_
   refine df fun _ S _=>q6 ?_
   refine cN hm (fun hm=>?_) fun hm=>?_
   .refine q6 ?_
    refine Wp.ret ?_;simp only[zy,zq];refine zL ?_;cases hm;simp only[go_sem,simprocAttr,hA]
    try exact gE
   .refine Wp.skip (S _ _ ?_)
    obtain⟨a8,hm⟩:=zh hm;refine r6 ?_;refine Q _ _ (r6 ?_);exact wN (n++[R.1]) l (v _ hm)
theorem ql(b:eA)(z:Bool)(hm:Gm b=some z):Does prog 142 [pS b] [] (fun r X=>r=pB z/\X=[]):=by
 unfold Gm at hm
 refine dW 0 31 [.tmp 2] func142 fun B=>nA fun hA=>?_
 refine qS ?_
 refine df fun K2 j n=>?_
 obtain⟨o,c,hm⟩:=zj hm
 have g:∀s,o s=some z->K2 [(0,pS b)] []:=by
  intro s hs;have hm:=c _ hs;clear hs
  try dsimp only at hm|-
  exact j _ _ (wQ)
 clear j c;refine qS ?_;refine Wp.block ?_;obtain⟨C,k,hm⟩:=zl hm
 refine fL 0 b.length fun l=>?_
 refine Wp.forL (fun f s=>[(0,pS b),(6,pI (b.length:Int)),(7,pI (f:Int))]) (fun f s=>[]) wF hm ?_;clear hm;intro f s t hm
 try dsimp only at hm|-
 refine qS ?_
 refine lS hm l (fun h=>n _ _ _ _ wF (g () (k _ h))) fun m D E v u i hm hA _ p=>?_
 refine q6 ?_;refine q6 ?_;refine q6 ?_
 refine cR hm fun hm=>?_
 refine Wp.skip (p _ _ (r6 ?_));exact wN () m (i _ hm)
theorem SF(b:Int)(z:Bool)(hm:Lj b=some z):Does prog 246 [pI b] [] (fun r X=>r=pB z/\X=[]):=by
 unfold Lj at hm
 refine dW 0 8 [.tmp 2] func246 fun B=>nA fun hA=>?_
 refine qS ?_;exact wQ
theorem Sy(b:Int)(z:Int)(hm:Ny b=some z):Does prog 262 [.p (.i .u64 b)] [] (fun r X=>r=pI z/\X=[]):=by
 unfold Ny at hm
 refine dW 0 14 [.tmp 2] func262 fun B=>nA fun hA=>?_
 refine qS ?_
 refine df fun _ c _=>qS ?_
 refine cR hm fun hm=>?_
 refine Wp.skip (c _ _ ?_);obtain⟨f,hm⟩:=zh hm;exact wQ
theorem Sg(b:Int)(z:Int)(hm:La b=some z):Does prog 247 [.p (.i .u64 b)] [] (fun r X=>r=pI z/\X=[]):=by
 unfold La at hm
 refine dW 0 8 [.tmp 2] func247 fun B=>nA fun hA=>?_
 refine qS ?_
 refine df fun _ g _=>Wp.cond rfl ⟨⟩ (fun c=>?_) (fun c=>?_)
 .cases c
 refine Wp.skip (g _ _ ?_);obtain⟨j,f,hm⟩:=zd hm;refine sX (fun hg=>Sy b _ f) ?_;exact wR
theorem Sv(c:List Int)(n:Int)(b:Int)(f:Bool)(append__3:Bool)(z:List Int×eA)(hm:Ij c n b f append__3=some z):Does prog 215 [lm fv c,.p (.i .u64 n),pI b,pB f,pB append__3] [] (fun r X=>r=.tup [lm fv z.1,pS z.2]/\X=[]):=by
 unfold Ij at hm
 refine dW 0 102 [.tmp 10,.tmp 11] func215 fun B=>nA fun hA=>?_
 refine qS ?_
 refine df fun K2 a5 aD=>?_
 obtain⟨ap,C,hm⟩:=zj hm
 have Y:∀s,ap s=some z->K2 [(0,lm fv c),(1,.p (.i .u64 n)),(2,pI b),(3,pB f),(4,pB append__3),(10,.nils),(11,pS ([]))] []:=by
  intro s hs;have hm:=C _ hs;clear hs
  try dsimp only at hm|-
  refine a5 _ _ (qS ?_);refine qS ?_
  refine df fun K5 a6 a7=>?_
  obtain⟨aq,D,hm⟩:=zj hm
  have E:∀s,aq s=some z->K5 [(0,lm fv c),(1,.p (.i .u64 s)),(2,pI b),(3,pB f),(4,pB append__3),(10,.nils),(11,pS ([])),(12,.ptr 0 0),(13,pI 65)] [.buf 262 1 (List.map fv (List.replicate 65 0))]:=by
   intro aO hs;have hm:=D _ hs;clear hs
   try dsimp only at hm|-
   refine a6 _ _ (df fun K6 a8 a9=>?_);obtain⟨ar,F,hm⟩:=zj hm
   have G:∀s,ar s=some z->K6 [(0,lm fv c),(3,pB f),(4,pB append__3),(10,.nils),(11,pS ([])),(12,.ptr 0 0),(13,pI s.1)] [.buf 262 1 (List.map fv s.2)]:=by
    intro s hs;have hm:=F _ hs;clear hs;obtain⟨o,I⟩:=s
    try dsimp only at hm|-
    refine a8 _ _ (df fun K7 ac ad=>?_);obtain⟨au,J,hm⟩:=zj hm
    have L:∀s,au s=some z->K7 [(0,lm fv c),(4,pB append__3),(10,.nils),(11,pS ([])),(12,.ptr 0 0),(13,pI s.1)] [.buf 262 1 (List.map fv s.2)]:=by
     intro s hs;have hm:=J _ hs;clear hs;obtain⟨aP,aH⟩:=s
     try dsimp only at hm|-
     refine ac _ _ (df fun _ aE _=>qS ?_)
     refine cN hm (fun hm=>?_) fun hm=>?_
     .obtain⟨aQ,hm⟩:=zh hm
      cases hm
     .refine Wp.skip (aE _ _ ?_)
      obtain⟨aR,hm⟩:=zh hm;refine q6 ?_;refine Wp.ret ?_;refine zL ?_;cases hm;exact fT
    clear ac J;refine qS ?_
    refine cN hm (fun hm=>?_) fun hm=>?_
    .refine qS ?_
     obtain⟨aS,hm⟩:=zh hm;refine r6 ?_;refine ad _ _ _ _ ?_ (L (IntKind.i64.wrap (o-1),List.set I ((IntKind.i64.wrap (o-1)).toNat) 45) hm);exact fT
    .refine Wp.skip (ad _ _ _ _ ?_ (L (o,I) hm))
     exact fT
   clear a8 F;obtain⟨aT,Z,hm⟩:=zd hm;refine sX (fun hg=>SF b _ Z) ?_
   refine cN hm (fun hm=>?_) fun hm=>?_
   .obtain⟨Q,a0,hm⟩:=zd hm
    refine sX (fun hg=>Sg (IntKind.u64.wrap b) _ a0) ?_;refine qS ?_;refine qS ?_
    refine df fun aF R av=>?_
    obtain⟨aw,M,hm⟩:=zj hm
    have S:∀s,aw s=some z->aF [(0,lm fv c),(1,.p (.i .u64 s.1)),(3,pB f),(4,pB append__3),(10,.nils),(11,pS ([])),(12,.ptr 0 0),(13,pI s.2.1)] [.buf 262 1 (List.map fv s.2.2)]:=by
     intro s hs;have hm:=M _ hs;clear hs;obtain⟨ax,T,a1⟩:=s
     try dsimp only at hm|-
     refine R _ _ (qS ?_);obtain⟨af,aI,g,hm⟩:=mL hm;replace g:((([48,49,50,51,52,53,54,55,56,57,97,98,99,100,101,102,103,104,105,106,107,108,109,110,111,112,113,114,115,116,117,118,119,120,121,122]:eA).getD ax.toNat 0).toNat:Int)=af:=g;obtain⟨aU,hm⟩:=zh hm;have hA:=g;refine r6 ?_;refine a9 _ _ _ _ ?_ (G (IntKind.i64.wrap (T-1),List.set a1 ((IntKind.i64.wrap (T-1)).toNat) af) hm);simp only[go_sem,simprocAttr,hA]
     try exact gE
    clear R M;refine Wp.block ?_;obtain⟨aV,a2,hm⟩:=jG hm;refine Wp.loopN (fun s=>[(0,lm fv c),(1,.p (.i .u64 s.1)),(3,pB f),(4,pB append__3),(10,.nils),(11,pS ([])),(12,.ptr 0 0),(13,pI s.2.1),(14,.p (.i .u64 (IntKind.u64.wrap Q))),(15,.p (.i .u64 (IntKind.u64.wrap b))),(16,.p (.i .u64 (IntKind.u64.wrap ((IntKind.u64.wrap b)-1))))]) (fun s=>[.buf 262 1 (List.map fv s.2.2)]) ?_ hm ?_
    .exact fT
    clear hm;intro s aJ hm;obtain⟨t,u,N⟩:=s
    try dsimp only at hm|-
    refine df fun _ ay _=>qS ?_
    refine cN hm (fun hm=>?_) fun hm=>?_
    .refine Wp.skip (ay _ _ (Wp.block (qS ?_)))
     obtain⟨ag,aK,j,hm⟩:=mL hm;replace j:((([48,49,50,51,52,53,54,55,56,57,97,98,99,100,101,102,103,104,105,106,107,108,109,110,111,112,113,114,115,116,117,118,119,120,121,122]:eA).getD ((fj .and .u64 t (IntKind.u64.wrap ((IntKind.u64.wrap b)-1))).toNat) 0).toNat:Int)=ag:=j;obtain⟨aW,hm⟩:=zh hm;have hA:=j;refine q6 ?_;obtain⟨aX,hm⟩:=zh hm;refine r6 ?_;simp only[zy,zq,↓reduceIte];refine⟨(Int.fdiv t (2^(fz .u64 (IntKind.u64.wrap Q))),IntKind.i64.wrap (u-1),List.set N ((IntKind.i64.wrap (u-1)).toNat) ag),hm,?_⟩;simp only[go_sem,simprocAttr,hA]
     try exact gE
    .refine Wp.exit ?_
     simp only[zy,zq,↓reduceIte];have hm:=a2 _ hm
     try dsimp only at hm
     refine av _ _ _ _ ?_ (S (t,u,N) hm);exact fT
   .refine qS ?_
    refine df fun aG U az=>?_
    obtain⟨aA,O,hm⟩:=zj hm
    have V:∀s,aA s=some z->aG [(0,lm fv c),(1,.p (.i .u64 s.1)),(3,pB f),(4,pB append__3),(10,.nils),(11,pS ([])),(12,.ptr 0 0),(13,pI s.2.1)] [.buf 262 1 (List.map fv s.2.2)]:=by
     intro s hs;have hm:=O _ hs;clear hs;obtain⟨aB,W,a3⟩:=s
     try dsimp only at hm|-
     refine U _ _ (qS ?_);obtain⟨an,aL,k,hm⟩:=mL hm;replace k:((([48,49,50,51,52,53,54,55,56,57,97,98,99,100,101,102,103,104,105,106,107,108,109,110,111,112,113,114,115,116,117,118,119,120,121,122]:eA).getD aB.toNat 0).toNat:Int)=an:=k;obtain⟨aY,hm⟩:=zh hm;have hA:=k;refine r6 ?_;refine a9 _ _ _ _ ?_ (G (IntKind.i64.wrap (W-1),List.set a3 ((IntKind.i64.wrap (W-1)).toNat) an) hm);simp only[go_sem,simprocAttr,hA]
     try exact gE
    clear U O;refine Wp.block ?_;obtain⟨aZ,a4,hm⟩:=jG hm;refine Wp.loopN (fun s=>[(0,lm fv c),(1,.p (.i .u64 s.1)),(3,pB f),(4,pB append__3),(10,.nils),(11,pS ([])),(12,.ptr 0 0),(13,pI s.2.1),(17,.p (.i .u64 (IntKind.u64.wrap b)))]) (fun s=>[.buf 262 1 (List.map fv s.2.2)]) ?_ hm ?_
    .exact fT
    clear hm;intro s aM hm;obtain⟨l,v,P⟩:=s
    try dsimp only at hm|-
    refine df fun _ aC _=>qS ?_
    refine cN hm (fun hm=>?_) fun hm=>?_
    .refine Wp.skip (aC _ _ (Wp.block (qS ?_)))
     obtain⟨b0,hm⟩:=zh hm;refine q6 ?_;obtain⟨ao,aN,m,hm⟩:=mL hm;replace m:((([48,49,50,51,52,53,54,55,56,57,97,98,99,100,101,102,103,104,105,106,107,108,109,110,111,112,113,114,115,116,117,118,119,120,121,122]:eA).getD ((IntKind.u64.wrap (l-(IntKind.u64.wrap ((IntKind.u64.wrap (Int.tdiv l (IntKind.u64.wrap b)))*(IntKind.u64.wrap b))))).toNat) 0).toNat:Int)=ao:=m;obtain⟨b1,hm⟩:=zh hm;have hA:=m;refine q6 ?_;refine r6 ?_;simp only[zy,zq,↓reduceIte];refine⟨(IntKind.u64.wrap (Int.tdiv l (IntKind.u64.wrap b)),IntKind.i64.wrap (v-1),List.set P ((IntKind.i64.wrap (v-1)).toNat) ao),hm,?_⟩;simp only[go_sem,simprocAttr,hA]
     try exact gE
    .refine Wp.exit ?_
     simp only[zy,zq,↓reduceIte];have hm:=a4 _ hm
     try dsimp only at hm
     refine az _ _ _ _ ?_ (V (l,v,P) hm);exact fT
  clear a6 D;refine qS ?_
  refine cN hm (fun hm=>?_) fun hm=>?_
  .refine qR ?_
   refine a7 _ _ _ _ ?_ (E (IntKind.u64.wrap (-n)) hm);exact fT
  .refine Wp.skip (a7 _ _ _ _ ?_ (E n hm))
   exact fT
 clear a5 C;refine qS ?_
 refine cN hm (fun hm=>?_) fun hm=>?_
 .cases hm
 .refine Wp.skip (aD _ _ _ _ ?_ (Y () hm))
  exact fT
theorem Su(c:Int)(b:Int)(z:eA)(hm:Lp c b=some z):Does prog 180 [.p (.i .u64 c),pI b] [] (fun r X=>r=pS z/\X=[]):=by
 unfold Lp at hm
 refine dW 0 32 [.tmp 4] func180 fun B=>nA fun hA=>?_
 refine qS ?_
 refine df fun _ g _=>qS ?_
 refine cN hm (fun hm=>?_) fun hm=>?_
 .refine df fun _ j _=>qS ?_
  refine cN hm (fun hm=>?_) fun hm=>?_
  .cases hm
  .refine Wp.skip (j _ _ (qS ?_))
   cases hm
 .refine Wp.skip (g _ _ ?_)
  obtain⟨k,f,hm⟩:=zd hm;refine sF (Sv [] c b false false _ f) ?_;exact wQ
theorem Sa(c:Int)(b:Int)(z:eA)(hm:HT c b=some z):Does prog 147 [.p (.i .u64 c),pI b] [] (fun r X=>r=pS z/\X=[]):=by
 unfold HT at hm
 refine dW 0 8 [.tmp 4] func147 fun B=>nA fun hA=>?_
 refine qS ?_;obtain⟨g,f,hm⟩:=zd hm;refine sX (fun hg=>Su c b _ f) ?_;exact wR
end Go.Proofs.YtkojogldchfkkaaGreatDoor
