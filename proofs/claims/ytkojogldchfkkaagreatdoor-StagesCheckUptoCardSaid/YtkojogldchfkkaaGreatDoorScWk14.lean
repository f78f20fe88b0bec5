/- That the code does what the models say (part 14). -/
import Derived.Test.YtkojogldchfkkaaGreatDoorScWk0
import Derived.Test.YtkojogldchfkkaaGreatDoorScWk1
import Derived.Test.YtkojogldchfkkaaGreatDoorScWk2
import Derived.Test.YtkojogldchfkkaaGreatDoorScWk7
import Derived.Test.YtkojogldchfkkaaGreatDoorScWk8
import Derived.Test.YtkojogldchfkkaaGreatDoorScWk9
import Derived.Test.YtkojogldchfkkaaGreatDoorScWk10
import Derived.Test.YtkojogldchfkkaaGreatDoorScWk11
import Derived.Test.YtkojogldchfkkaaGreatDoorScWk12
import Derived.Test.YtkojogldchfkkaaGreatDoorScWk13
set_option linter.unusedSimpArgs false
set_option linter.unusedVariables false
open Go.Proofs Go.Shelf
open List
namespace Go.Proofs.YtkojogldchfkkaaGreatDoor
open Tryz
open Go.Vc Go.Md
set_option maxRecDepth 100000
set_option maxHeartbeats 4000000
theorem RV(l:List ae)(z:eA×Int)(hm:BT l=some z):Does prog 96 [lm zf l] [] (fun r X=>r=.tup [pS z.1,pI z.2]/\X=[]):=by
 unfold BT at hm
 refine dW 0 66 [.tmp 2,.tmp 3] func96 fun B=>nA fun hA=>?_
 refine qS ?_
 refine df fun _ a4 _=>?_
 obtain⟨ag,t,hm⟩:=zd hm;refine sX (fun hg=>Qc l _ t) ?_;refine qS ?_
 refine cR hm fun hm=>?_
 refine Wp.skip (a4 _ _ (qS ?_));refine dC 0 5 rfl ?_;simp only[go_sem,simprocAttr]
 refine df fun K9 O a5=>?_
 obtain⟨a6,n,hm⟩:=zj hm
 have u:∀s,a6 s=some z->K9 [(5,.ptr 0 0)] [.cells 154 [.np 0,.buf 1],.sb 5 s]:=by
  intro v hs;have hm:=n _ hs;clear hs
  try dsimp only at hm|-
  refine O _ _ ?_;obtain⟨a7,P,hm⟩:=zd hm;obtain⟨an,C,hm⟩:=zd hm
  refine rS fun _ Q=>?_
  refine cO [0,1] (H8 v _ P) ?_;refine cX (fun hg=>QR a7 _ C) (Q _ _ ?_);exact wR
 clear O n;refine qS ?_;refine Wp.block ?_;obtain⟨ao,D,hm⟩:=zl hm
 refine fL 13 l.length fun E=>?_
 refine Wp.forL (fun p s=>[(5,.ptr 0 0),(13,lm zf l),(14,pI (l.length:Int)),(15,pI (p:Int))]) (fun p s=>[.cells 154 [.np 0,.buf 1],.sb 5 s]) wF hm ?_;clear hm;intro p i ac hm
 try dsimp only at hm|-
 refine qS ?_
 refine lB zf hm E (fun h=>a5 _ _ _ _ wF (u i (D _ h))) fun b ap m aq ad af c hm hA _ k=>?_
 refine q6 ?_;refine q6 ?_;refine Wp.block (q6 ?_)
 refine cN hm (fun hm=>?_) fun hm=>?_
 .obtain⟨a8,R,hm⟩:=zd hm
  obtain⟨a9,S,hm⟩:=zd hm
  refine rE fun _ T=>?_
  refine cX (fun hg=>RI ([112,117,116]:eA) ([112,117,116,114,117,110]:eA) m.g _ R) ?_;refine cO [0,1] (zk a8 i _ S) (T _ _ ?_);refine k _ _ (r6 ?_);exact wN a9.2 b (c _ hm)
 .refine q6 ?_
  refine cN hm (fun hm=>?_) fun hm=>?_
  .obtain⟨ar,hm⟩:=zh hm
   obtain⟨au,hm⟩:=zh hm;obtain⟨U,F,hm⟩:=zd hm;refine eO [0,1] (zk ((([114,101,109,111,118,101,32]:eA)++m.g.a)++([10]:eA)) i _ F) ?_;refine k _ _ (r6 ?_);exact wN U.2 b (c _ hm)
  .refine q6 ?_
   refine cN hm (fun hm=>?_) fun hm=>?_
   .obtain⟨V,G,hm⟩:=zd hm
    obtain⟨W,I,hm⟩:=zd hm
    refine rE fun _ Y=>?_
    refine cX (fun hg=>R1 ([115,101,116]:eA) m.o _ G) ?_;refine cO [0,1] (zk V i _ I) (Y _ _ ?_);refine k _ _ (r6 ?_);exact wN W.2 b (c _ hm)
   .refine q6 ?_
    refine cN hm (fun hm=>?_) fun hm=>?_
    .obtain⟨av,hm⟩:=zh hm
     obtain⟨aw,hm⟩:=zh hm;obtain⟨Z,J,hm⟩:=zd hm;refine eO [0,1] (zk ((([117,110,115,101,116,32]:eA)++m.o.e)++([10]:eA)) i _ J) ?_;refine k _ _ (r6 ?_);exact wN Z.2 b (c _ hm)
    .refine q6 ?_
     refine cN hm (fun hm=>?_) fun hm=>?_
     .obtain⟨a0,L,hm⟩:=zd hm
      obtain⟨a1,M,hm⟩:=zd hm
      refine rE fun _ a2=>?_
      refine cX (fun hg=>R0 m.f _ L) ?_;refine cO [0,1] (zk a0 i _ M) (a2 _ _ ?_);refine k _ _ (r6 ?_);exact wN a1.2 b (c _ hm)
     .obtain⟨ax,hm⟩:=zh hm
      obtain⟨ay,hm⟩:=zh hm;obtain⟨a3,N,hm⟩:=zd hm;refine eO [0,1] (zk ((([100,114,111,112,32]:eA)++m.f.j)++([10]:eA)) i _ N) ?_;refine k _ _ (r6 ?_);exact wN a3.2 b (c _ hm)
theorem KO(n:Int)(z:eA)(hm:strconv_Itoa n=some z):Does prog 97 [pI n] [] (fun r X=>r=pS z/\X=[]):=by
 obtain⟨⟨h1,h2⟩,h⟩:=zh hm;cases h;exact Does.itoa Tryz.itoaL ⟨_,func97,by kernel_rfl,by kernel_rfl⟩ (b:=1) (by kernel_rfl) (tab_1.trans (by rw[show tabL_1=Go.Lib.pow10Tab by decide +kernel])) n h1 h2
theorem R8(b:aj)(z:eA×Int)(hm:FP b=some z):Does prog 47 [.agg [pS b.v,lm zf b.y,lm zf b.z]] [] (fun r X=>r=.tup [pS z.1,pI z.2]/\X=[]):=by
 unfold FP at hm
 refine dW 0 62 [.tmp 2,.tmp 3] func47 fun B=>nA fun hA=>?_
 refine qS ?_
 refine df fun _ P _=>?_
 obtain⟨a8,u,hm⟩:=zd hm;refine sX (fun hg=>CU b.v _ u) ?_
 refine cR hm fun hm=>?_
 refine Wp.skip (P _ _ ?_);obtain⟨Y,hm⟩:=zh hm;obtain⟨Z,hm⟩:=zh hm;refine q6 ?_
 refine df fun K8 t Q=>?_
 obtain⟨R,j,hm⟩:=zj hm
 have p:∀s,R s=some z->K8 [(4,pS s)] []:=by
  intro C hs;have hm:=j _ hs;clear hs
  try dsimp only at hm|-
  refine t _ _ ?_;obtain⟨a9,D,hm⟩:=zd hm;obtain⟨a0,hm⟩:=zh hm;obtain⟨a1,hm⟩:=zh hm;obtain⟨a2,hm⟩:=zh hm;refine sX (fun hg=>Pu C _ D) ?_
  refine df fun _ E _=>qS ?_
  refine cR hm fun hm=>?_
  exact Wp.skip (E _ _ (wQ))
 clear t j;refine qS ?_;refine Wp.block ?_;obtain⟨ac,F,hm⟩:=zl hm
 refine dY 23 fun i=>?_
 replace i:[(am.mk ([99,104,97,110,103,101,115]:eA) b.y),(am.mk ([111,108,100]:eA) b.z)].length<=274877906944:=Nat.le_of_ble_eq_true rfl;refine Wp.forL (fun k s=>[(4,pS s),(23,.full (List.map BF [(am.mk ([99,104,97,110,103,101,115]:eA) b.y),(am.mk ([111,108,100]:eA) b.z)])),(24,pI ([(am.mk ([99,104,97,110,103,101,115]:eA) b.y),(am.mk ([111,108,100]:eA) b.z)].length:Int)),(25,pI (k:Int))]) (fun k s=>[.cells 83 [pS b.v,lm zf b.y,lm zf b.z]]) wF hm ?_;clear hm;intro k m U hm
 try dsimp only at hm|-
 refine qS ?_
 refine df fun _ G _=>Wp.cond rfl ⟨⟩ (fun g=>?_) fun g=>Wp.exit (Q _ _ _ _ wF (p m (F _ (pw hm (uA g)))))
 have f:=rm g;have I:=pz f i;obtain⟨n,V,c,W,o,hm⟩:=py hm f;replace c:=c BF;simp only[map_cons,map_nil,BF]at c;refine Wp.skip ?_;simp only[zy];refine G _ _ (df fun _ J _=>Wp.block ?_);have hA:=And.intro I c;refine q6 ?_;obtain⟨S,L,hm⟩:=zd hm;refine sX (fun hg=>RV n.l _ L) ?_
 refine df fun _ M _=>q6 ?_
 refine cR hm fun hm=>?_
 refine Wp.skip (M _ _ ?_);obtain⟨a3,hm⟩:=zh hm;obtain⟨T,N,hm⟩:=zd hm;obtain⟨a4,hm⟩:=zh hm;obtain⟨a5,hm⟩:=zh hm;obtain⟨a6,hm⟩:=zh hm;obtain⟨a7,hm⟩:=zh hm
 refine dE (pl [(0,none),(1,none),(2,none),(3,none),(4,none),(5,none),(6,none),(7,none),(8,none),(9,none),(10,none),(11,none),(12,none),(13,none)]) fun _ O=>?_
 refine cD (fun hg=>KO (n.l.length:Int) _ N) (O _ _ ?_);refine J _ _ (r6 ?_);exact wN (m++((((n.A++([32]:eA))++T)++([10]:eA))++S.1)) f (o _ hm)
theorem KN(b:eA)(z:ae)(hm:uW b=some z):Does prog 50 [pS b] [] (fun r X=>r=.agg [pI z.k,pS z.g.a,pS z.g.q,pB z.g.r,pS z.o.e,pS z.o.Value,pS z.f.j,pS z.f.a,pB z.f.u,pB z.f.t]/\X=[]):=by
 unfold uW at hm
 refine dW 0 6 [.cell 2 50] func50 fun B=>nA fun hA=>?_
 refine qS ?_;exact wQ
theorem R9(c:ai)(f:eA)(z:List aa×List ab×List aa×List ah×List ae)(hm:FQ c f=some z):Does prog 48 [.agg [lm za c.m,lm zc c.b,lm za c.i,lm zb c.h],pS f] [] (fun r X=>r=.buf 1/\X=[.cells 26 [lm za z.1,lm zc z.2.1,lm za z.2.2.1,lm zb z.2.2.2.1],.buf 50 10 (List.map zf z.2.2.2.2)]):=by
 unfold FQ at hm
 refine dW 2 40 [.tmp 4] func48 fun B=>nA fun hA=>?_
 refine qS ?_;refine qS ?_
 refine df fun K3 D J=>?_
 obtain⟨L,l,hm⟩:=zj hm
 have p:∀s,L s=some z->K3 [(1,pS f),(2,.ptr 0 0),(5,.buf 1)] [.cells 26 [lm za c.m,lm zc c.b,lm za c.i,lm zb c.h],.buf 50 10 (List.map zf s)]:=by
  intro N hs;have hm:=l _ hs;clear hs
  try dsimp only at hm|-
  refine D _ _ (df fun _ E _=>?_);obtain⟨Z,G,hm⟩:=zd hm;refine sX (fun hg=>M5 c f _ G) ?_
  refine cN hm (fun hm=>?_) fun hm=>?_
  .obtain⟨R,t,hm⟩:=zd hm
   obtain⟨S,hm⟩:=zh hm;refine eX (fun hg=>KN f _ t) ?_;exact E _ _ (wQ)
  .exact Wp.skip (E _ _ (wQ))
 clear D l;refine qS ?_;refine Wp.block (di 5 50 10 rfl ?_);simp only[go_sem,simprocAttr];obtain⟨T,u,hm⟩:=zl hm
 refine fL 9 c.b.length fun v=>?_
 refine Wp.forL (fun n s=>[(1,pS f),(2,.ptr 0 0),(5,.buf 1),(9,lm zc c.b),(10,pI (c.b.length:Int)),(11,pI (n:Int))]) (fun n s=>[.cells 26 [lm za c.m,lm zc c.b,lm za c.i,lm zb c.h],.buf 50 10 (List.map zf s)]) wF hm ?_;clear hm;intro n g O hm
 try dsimp only at hm|-
 refine qS ?_
 refine lB zc hm v (fun h=>J _ _ _ _ wF (p g (u _ h))) fun j U F V P Q k hm hA _ o=>?_
 refine q6 ?_;obtain⟨W,C,hm⟩:=zd hm;refine sX (fun hg=>KM F.a _ C) ?_
 refine cN hm (fun hm=>?_) fun hm=>?_
 .obtain⟨M,I,hm⟩:=zd hm
  obtain⟨Y,hm⟩:=zh hm;refine eX (fun hg=>KN F.a _ I) ?_;refine o _ _ (r6 ?_);exact wN (g++[M]) j (k _ hm)
 .refine Wp.skip (o _ _ (r6 ?_))
  exact wN g j (k _ hm)
theorem Po(b:eA)(c:eA)(z:ae)(hm:Fe b c=some z):Does prog 49 [pS b,pS c] [] (fun r X=>r=.agg [pI z.k,pS z.g.a,pS z.g.q,pB z.g.r,pS z.o.e,pS z.o.Value,pS z.f.j,pS z.f.a,pB z.f.u,pB z.f.t]/\X=[]):=by
 unfold Fe at hm
 refine dW 0 9 [.cell 4 50] func49 fun B=>nA fun hA=>?_
 refine qS ?_;exact wQ
theorem Px(c:ai)(f:eA)(j:List ae)(z:List ae×Int)(hm:Fj c f j=some z):Does prog 13 [.agg [lm za c.m,lm zc c.b,lm za c.i,lm zb c.h],pS f,lm zf j] [] (fun r X=>r=.tup [lm zf z.1,pI z.2]/\X=[]):=by
 unfold Fj at hm
 refine dW 0 88 [.tmp 6,.tmp 7] func13 fun B=>nA fun hA=>?_
 refine qS ?_
 refine df fun _ Y _=>?_
 obtain⟨a5,k,hm⟩:=zd hm;refine sX (fun hg=>Qa c j _ k) ?_;refine qS ?_
 refine cN hm (fun hm=>?_) fun hm=>?_
 .refine qS ?_
  refine Wp.ret ?_;simp only[zy,zq];refine zL ?_;cases hm;exact gf
 .refine Wp.skip (Y _ _ (df fun _ Z _=>?_))
  obtain⟨a6,l,hm⟩:=zd hm;refine sX (fun hg=>CU f _ l) ?_
  refine cN hm (fun hm=>?_) fun hm=>?_
  .refine qS ?_
   refine Wp.ret ?_;simp only[zy,zq];refine zL ?_;cases hm;exact gf
  .refine Wp.skip (Z _ _ (df fun _ D _=>?_))
   obtain⟨C,E,hm⟩:=zd hm;refine sF (QS c _ E) ?_;obtain⟨a0,F,hm⟩:=zx hm;obtain⟨a7,n,hm⟩:=zx hm
   refine rS fun _ G=>?_
   refine cX (g:=!(decide (C.2=2))) (fun hg=>M5 c ([115,116,97,103,101,47,100,111,110,101]:eA) _ (F hg)) ?_;refine cX (g:=!((decide (C.2=2))||a0)) (fun hg=>M5 c ([115,116,97,103,101,47,98,97,99,107]:eA) _ (n hg)) (G _ _ ?_)
   refine cN hm (fun hm=>?_) fun hm=>?_
   .refine qS ?_
    refine Wp.ret ?_;simp only[zy,zq];refine zL ?_;cases hm;exact fI
   .refine Wp.skip (D _ _ ?_)
    obtain⟨a1,I,hm⟩:=zd hm;obtain⟨a2,J,hm⟩:=zd hm
    refine rS fun _ L=>?_
    refine cF (Ni c _ I) ?_;refine cF (lQ a1 j _ J) (L _ _ ?_)
    refine df fun _ M _=>qS ?_
    refine cN hm (fun hm=>?_) fun hm=>?_
    .refine qS ?_
     refine Wp.ret ?_;simp only[zy,zq];refine zL ?_;cases hm;exact fI
    .refine Wp.skip (M _ _ ?_)
     obtain⟨a3,N,hm⟩:=zd hm;refine sX (fun hg=>R8 (aj.mk f j a2.1) _ N) ?_
     refine df fun _ O _=>qS ?_
     refine cN hm (fun hm=>?_) fun hm=>?_
     .refine qS ?_
      refine Wp.ret ?_;simp only[zy,zq];refine zL ?_;cases hm;exact fT
     .refine Wp.skip (O _ _ ?_)
      obtain⟨a4,P,hm⟩:=zd hm;obtain⟨Q,o,hm⟩:=zd hm;obtain⟨a8,hm⟩:=zh hm
      refine rS fun _ R=>?_
      refine cO [] (R9 c ([115,116,97,103,101,47,106,111,117,114,110,97,108]:eA) _ P) ?_;refine cX (fun hg=>Po ([115,116,97,103,101,47,106,111,117,114,110,97,108]:eA) a3.1 _ o) (R _ _ ?_);obtain⟨a9,hm⟩:=zh hm;refine q6 ?_;obtain⟨S,p,hm⟩:=zd hm;obtain⟨T,t,hm⟩:=zd hm;obtain⟨U,u,hm⟩:=zd hm;obtain⟨ac,hm⟩:=zh hm
      refine rS fun _ V=>?_
      refine cX (fun hg=>Po ([115,116,97,103,101,47,100,111,110,101]:eA) f _ p) ?_;refine cX (fun hg=>KN ([115,116,97,103,101,47,106,111,117,114,110,97,108]:eA) _ t) ?_;refine cX (fun hg=>KN ([115,116,97,103,101,47,100,111,110,101]:eA) _ u) (V _ _ ?_)
      refine df fun _ W _=>Wp.freeze 3 (by simp only[go_sem,simprocAttr];exact Is.mk) (by first|(simp only[go_sem,simprocAttr];done)|(simp only[go_sem,simprocAttr];omega)) ?_
      simp only[go_sem,simprocAttr];obtain⟨ad,v,hm⟩:=zd hm;refine sF (Nb c (((a4.2.2.2.2++[Q])++j)++[S,T,U]) _ v) ?_;refine qS ?_
      refine cN hm (fun hm=>?_) fun hm=>?_
      .refine qS ?_
       refine Wp.ret ?_;simp only[zy,zq];refine zL ?_;cases hm;exact fT
      .exact Wp.skip (W _ _ (wQ))
theorem QP(b:eA)(z:List eA×Int)(hm:G6 b=some z):Does prog 137 [pS b] [] (fun r X=>r=.tup [lm eD z.1,pI z.2]/\X=[]):=by
 unfold G6 at hm
 refine dW 0 23 [.tmp 2,.tmp 3] func137 fun B=>nA fun hA=>?_
 refine qS ?_;obtain⟨f,g,hm⟩:=zd hm;refine sF (HY b ([10]:eA) _ g) ?_
 refine df fun _ i _=>qS ?_
 obtain⟨j,k,c,l,hm⟩:=fV hm;replace c:∀d,(List.map eD f).getD ((IntKind.i64.wrap ((f.length:Int)-1)).toNat) d=eD j:=c eD;have hA:=c;refine q6 ?_
 refine cN hm (fun hm=>?_) fun hm=>?_
 .obtain⟨m,hm⟩:=zh hm
  exact wQ
 .exact Wp.skip (i _ _ (wQ))
theorem C2(b:Int)(z:aj×Int)(hm:yR b=some z):Does prog 136 [pI b] [] (fun r X=>r=.tup [.agg [pS z.1.v,lm zf z.1.y,lm zf z.1.z],pI z.2]/\X=[]):=by
 unfold yR at hm
 refine dW 0 6 [.cell 2 83,.tmp 3] func136 fun B=>nA fun hA=>?_
 refine qS ?_;refine qS ?_;refine Wp.ret ?_;refine zL ?_;cases hm;exact fT
theorem Mz(g:eA)(z:eA)(hm:Cw g=some z):Does prog 144 [pS g] [] (fun r X=>r=pS z/\X=[]):=by
 unfold Cw at hm
 refine dW 0 67 [.tmp 2] func144 fun B=>nA fun hA=>?_
 refine qS ?_;refine qS ?_
 refine df fun K3 n u=>?_
 obtain⟨v,l,hm⟩:=zj hm
 have m:∀s,v s=some z->K3 [(3,pS s)] []:=by
  intro C hs;have hm:=l _ hs;clear hs
  try dsimp only at hm|-
  refine n _ _ ?_;obtain⟨F,hm⟩:=zh hm;exact wQ
 clear n l;refine qS ?_;refine Wp.block ?_;obtain⟨U,o,hm⟩:=zl hm
 refine fL 0 g.length fun p=>?_
 refine Wp.forL (fun b s=>[(0,pS g),(3,pS s),(7,pI (g.length:Int)),(8,pI (b:Int))]) (fun b s=>[]) wF hm ?_;clear hm;intro b c D hm
 try dsimp only at hm|-
 refine qS ?_
 refine lS hm p (fun h=>u _ _ _ _ wF (m c (o _ h))) fun j V i G E f hm hA _ k=>?_
 refine q6 ?_;refine q6 ?_;refine Wp.block (q6 ?_)
 refine cN hm (fun hm=>?_) fun hm=>?_
 .obtain⟨I,hm⟩:=zh hm
  obtain⟨J,hm⟩:=zh hm;obtain⟨L,hm⟩:=zh hm;refine r6 ?_;refine k _ _ (r6 ?_);exact wN (c++(([92]:eA)++(List.take ((IntKind.i64.wrap ((b:Int)+1)).toNat-b) (List.drop b g)))) j (f _ hm)
 .refine q6 ?_
  refine cN hm (fun hm=>?_) fun hm=>?_
  .obtain⟨M,hm⟩:=zh hm
   refine r6 ?_;refine k _ _ (r6 ?_);exact wN (c++([92,110]:eA)) j (f _ hm)
  .refine q6 ?_
   refine cN hm (fun hm=>?_) fun hm=>?_
   .obtain⟨N,hm⟩:=zh hm
    obtain⟨O,hm⟩:=zh hm;obtain⟨P,hm⟩:=zh hm;obtain⟨Q,hm⟩:=zh hm;obtain⟨R,hm⟩:=zh hm
    refine dE (pl [(0,none),(1,none),(2,none),(3,none),(4,none),(5,none),(6,none),(7,none),(8,none),(9,none),(10,none),(11,none),(12,none),(13,none),(14,none),(15,none),(16,none)]) fun _ t=>t _ _ ?_
    refine k _ _ (r6 ?_);exact wN (c++((([92,120]:eA)++(List.take ((IntKind.u8.wrap ((Int.fdiv (i.toNat:Int) (2^(fz .u8 4)))+1)).toNat-(Int.fdiv (i.toNat:Int) (2^(fz .u8 4))).toNat) (List.drop ((Int.fdiv (i.toNat:Int) (2^(fz .u8 4))).toNat) ([48,49,50,51,52,53,54,55,56,57,97,98,99,100,101,102]:eA))))++(List.take ((IntKind.u8.wrap ((fj .and .u8 (i.toNat:Int) 15)+1)).toNat-(fj .and .u8 (i.toNat:Int) 15).toNat) (List.drop ((fj .and .u8 (i.toNat:Int) 15).toNat) ([48,49,50,51,52,53,54,55,56,57,97,98,99,100,101,102]:eA))))) j (f _ hm)
   .obtain⟨S,hm⟩:=zh hm
    obtain⟨T,hm⟩:=zh hm;refine r6 ?_;refine k _ _ (r6 ?_);exact wN (c++(List.take ((IntKind.i64.wrap ((b:Int)+1)).toNat-b) (List.drop b g))) j (f _ hm)
end Go.Proofs.YtkojogldchfkkaaGreatDoor
