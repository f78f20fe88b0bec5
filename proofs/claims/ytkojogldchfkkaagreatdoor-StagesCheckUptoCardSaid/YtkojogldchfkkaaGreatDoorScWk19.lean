/- That the code does what the models say (part 19). -/
import Derived.Test.YtkojogldchfkkaaGreatDoorScWk0
import Derived.Test.YtkojogldchfkkaaGreatDoorScWk1
import Derived.Test.YtkojogldchfkkaaGreatDoorScWk3
import Derived.Test.YtkojogldchfkkaaGreatDoorScWk5
import Derived.Test.YtkojogldchfkkaaGreatDoorScWk6
import Derived.Test.YtkojogldchfkkaaGreatDoorScWk10
import Derived.Test.YtkojogldchfkkaaGreatDoorScWk14
import Derived.Test.YtkojogldchfkkaaGreatDoorScWk17
import Derived.Test.YtkojogldchfkkaaGreatDoorScWk18
set_option linter.unusedSimpArgs false
set_option linter.unusedVariables false
open Go.Proofs Go.Shelf
open List
namespace Go.Proofs.YtkojogldchfkkaaGreatDoor
open Tryz
open Go.Vc Go.Md
set_option maxRecDepth 100000
set_option maxHeartbeats 4000000
theorem nD(c:ai)(g:eA)(j:List ae)(z:List ae×Int)(hm:GB c g j=some z):Does prog 14 [.agg [lm za c.m,lm zc c.b,lm za c.i,lm zb c.h],pS g,lm zf j] [] (fun r X=>r=.tup [lm zf z.1,pI z.2]/\X=[]):=by
 unfold GB at hm
 refine dW 0 111 [.tmp 6,.tmp 7] func14 fun B=>nA fun hA=>?_
 refine qS ?_
 refine df fun _ a2 _=>?_
 obtain⟨a6,p,hm⟩:=zd hm;refine sX (fun hg=>KT c j _ p) ?_;refine qS ?_
 refine cN hm (fun hm=>?_) fun hm=>?_
 .refine qS ?_
  refine Wp.ret ?_;simp only[zy,zq];refine zL ?_;cases hm;exact fT
 .refine Wp.skip (a2 _ _ ?_)
  obtain⟨f,I,hm⟩:=zd hm;refine sO [] (CT c _ I) ?_;obtain⟨a7,J,hm⟩:=zI hm;have k:=zw (e:=zc) zZ f.1 ([115,116,97,103,101,47,100,111,110,101]:eA) (ab.mk [] [] false);have l:=zu (e:=zc) zZ f.1 ([115,116,97,103,101,47,100,111,110,101]:eA);simp only[J,zc,map_nil]at k l;have hA:=And.intro k l;refine q6 ?_;obtain⟨a8,L,hm⟩:=zI hm;have n:=zw (e:=zc) zZ f.1 ([115,116,97,103,101,47,98,97,99,107]:eA) (ab.mk [] [] false);have o:=zu (e:=zc) zZ f.1 ([115,116,97,103,101,47,98,97,99,107]:eA);simp only[L,zc,map_nil]at n o;have hA:=And.intro n o;refine q6 ?_;obtain⟨a9,t,hm⟩:=zd hm;refine sF (s4 c _ t) ?_
  refine df fun _ M _=>Wp.block ?_
  obtain⟨ac,u,hm⟩:=zd hm;refine sX (fun hg=>Fu g _ u) ?_
  refine cN hm (fun hm=>?_) fun hm=>?_
  .refine qS ?_
   refine Wp.ret ?_;simp only[zy,zq];refine zL ?_;cases hm;exact fT
  .refine qS ?_
   refine cN hm (fun hm=>?_) fun hm=>?_
   .refine qS ?_
    refine Wp.ret ?_;simp only[zy,zq];refine zL ?_;cases hm;exact fT
   .refine Wp.skip (M _ _ ?_)
    obtain⟨a3,N,hm⟩:=zd hm;obtain⟨a4,O,hm⟩:=zd hm
    refine rS fun _ P=>?_
    refine cF (My c _ N) ?_;refine cF (sZ a3 j _ O) (P _ _ ?_)
    refine df fun _ Q _=>qS ?_
    refine cN hm (fun hm=>?_) fun hm=>?_
    .refine qS ?_
     refine Wp.ret ?_;simp only[zy,zq];refine zL ?_;cases hm;exact fT
    .refine Wp.skip (Q _ _ ?_)
     obtain⟨a5,R,hm⟩:=zd hm;refine sX (fun hg=>P4 (aj.mk g j a4.1) _ R) ?_
     refine df fun _ S _=>qS ?_
     refine cN hm (fun hm=>?_) fun hm=>?_
     .refine qS ?_
      refine Wp.ret ?_;simp only[zy,zq];refine zL ?_;cases hm;exact fT
     .refine Wp.skip (S _ _ ?_)
      obtain⟨T,v,hm⟩:=zd hm;obtain⟨U,C,hm⟩:=zd hm;obtain⟨ad,hm⟩:=zh hm
      refine rS fun _ V=>?_
      refine cO [5,2,3,4] (RA ([115,116,97,103,101,47,106,111,117,114,110,97,108]:eA) f.2.2.2 f.1 f.2.1 f.2.2.1 _ v) ?_;refine cX (fun hg=>nz ([115,116,97,103,101,47,106,111,117,114,110,97,108]:eA) a5.1 _ C) (V _ _ ?_);obtain⟨af,hm⟩:=zh hm;refine q6 ?_;obtain⟨W,D,hm⟩:=zd hm;obtain⟨Y,E,hm⟩:=zd hm;obtain⟨Z,F,hm⟩:=zd hm;obtain⟨ag,hm⟩:=zh hm
      refine rS fun _ a0=>?_
      refine cX (fun hg=>nz ([115,116,97,103,101,47,100,111,110,101]:eA) g _ D) ?_;refine cX (fun hg=>Kp ([115,116,97,103,101,47,106,111,117,114,110,97,108]:eA) _ E) ?_;refine cX (fun hg=>Kp ([115,116,97,103,101,47,100,111,110,101]:eA) _ F) (a0 _ _ ?_)
      refine df fun _ a1 _=>Wp.freeze 9 (by simp only[go_sem,simprocAttr];exact Is.mk) (by first|(simp only[go_sem,simprocAttr];done)|(simp only[go_sem,simprocAttr];omega)) ?_
      simp only[go_sem,simprocAttr];obtain⟨an,G,hm⟩:=zd hm;refine sF (Ho c (((T++[U])++j)++[W,Y,Z]) _ G) ?_;refine qS ?_
      refine cN hm (fun hm=>?_) fun hm=>?_
      .refine qS ?_
       refine Wp.ret ?_;simp only[zy,zq];refine zL ?_;cases hm;exact fT
      .exact Wp.skip (a1 _ _ (wQ))
theorem Rh(c:ai)(f:eA)(g:List ae)(z:Int×Int)(hm:Kx c f g=some z):Does prog 15 [.agg [lm za c.m,lm zc c.b,lm za c.i,lm zb c.h],pS f,lm zf g] [] (fun r X=>r=.tup [pI z.1,pI z.2]/\X=[]):=by
 unfold Kx at hm
 refine dW 0 20 [.tmp 6,.tmp 7] func15 fun B=>nA fun hA=>?_
 refine qS ?_;obtain⟨k,j,hm⟩:=zd hm;refine sF (Px c f g _ j) ?_;exact wQ
theorem SX(b:List ae)(c:List ae)(z:Bool)(hm:Ia b c=some z):Does prog 16 [lm zf b,lm zf c] [] (fun r X=>r=pB z/\X=[]):=by
 unfold Ia at hm
 refine dW 0 26 [.tmp 4] func16 fun B=>nA fun hA=>?_
 refine qS ?_
 refine df fun _ C _=>qS ?_
 refine cR hm fun hm=>?_
 refine Wp.skip (C _ _ (df fun K6 n D=>?_));obtain⟨E,i,hm⟩:=zj hm
 have j:∀s,E s=some z->K6 [] []:=by
  intro s hs;have hm:=i _ hs;clear hs
  try dsimp only at hm|-
  exact n _ _ (wQ)
 clear n i;refine qS ?_;refine Wp.block ?_;obtain⟨N,o,hm⟩:=zl hm
 refine fL 0 b.length fun p=>?_
 refine Wp.forL (fun g s=>[(0,lm zf b),(1,lm zf c),(12,pI (b.length:Int)),(13,pI (g:Int))]) (fun g s=>[]) wF hm ?_;clear hm;intro g s G hm
 try dsimp only at hm|-
 refine qS ?_
 refine lB zf hm p (fun h=>D _ _ _ _ wF (j () (o _ h))) fun k t O M l I m hm hA _ u=>?_
 refine q6 ?_;obtain⟨F,J,f,L,hm⟩:=fV hm;replace f:∀d,(List.map zf c).getD g d=zf F:=f zf;have hA:=And.intro t (And.intro l f)
 refine dS (pl [(0,none),(1,none),(2,none),(3,none),(4,none),(5,none),(6,none),(7,none),(8,none)]) fun _ v=>v _ _ ?_
 refine cR hm fun hm=>?_
 refine Wp.skip (u _ _ (r6 ?_));exact wN () k (m _ hm)
theorem RO(k:ai)(f:eA)(t:List ae)(j:Bool)(z:Bool)(hm:KG k f t j=some z):Does prog 3 [.agg [lm za k.m,lm zc k.b,lm za k.i,lm zb k.h],pS f,lm zf t,pB j] [] (fun r X=>r=pB z/\X=[]):=by
 unfold KG at hm
 refine dW 0 103 [.tmp 8] func3 fun B=>nA fun hA=>?_
 refine qS ?_
 refine df fun _ a1 _=>?_
 obtain⟨a2,C,hm⟩:=zd hm;refine sX (fun hg=>QM  _ C) ?_
 refine cR hm fun hm=>?_
 refine Wp.skip (a1 _ _ ?_);obtain⟨c,O,hm⟩:=zd hm;refine sF (qm k _ O) ?_;obtain⟨l,P,hm⟩:=zd hm;refine sF (QN c t j _ P) ?_;obtain⟨a3,D,hm⟩:=zd hm;refine sX (fun hg=>KT c l _ D) ?_
 refine df fun _ Q _=>?_
 obtain⟨a4,E,hm⟩:=zd hm;refine sX (fun hg=>Qa c l _ E) ?_
 refine cR hm fun hm=>?_
 refine Wp.skip (Q _ _ ?_);obtain⟨n,R,hm⟩:=zd hm;refine sF (Q1 c _ R) ?_;obtain⟨u,S,hm⟩:=zd hm;refine sX (fun hg=>Rf c _ S) ?_
 refine df fun _ T _=>?_
 obtain⟨U,F,hm⟩:=zx hm;obtain⟨V,G,hm⟩:=zx hm;obtain⟨a5,I,hm⟩:=zx hm;obtain⟨a6,p,hm⟩:=zI hm;have hA:=p
 refine dn (plan:=pl [(0,none),(1,none),(2,none),(3,none),(4,none),(5,none),(6,none),(7,none),(8,none),(9,some [7]),(10,none),(11,none),(12,none),(13,none),(14,none),(15,none),(16,none),(17,none),(18,none),(19,none)]) (by kernel_rfl) rfl (by kernel_rfl) fun a9 W=>?_
 simp only[go_sem,simprocAttr,hA]
 try refine⟨sd,?_⟩
 refine dj (Br.callR (av:=?av24) (g:=!((!decide (n.2=0))||(!decide (u.2=0)))) (o:=?o24) [] (fun hg=>My c _ (F hg)) (by simp only[go_sem,simprocAttr,hA];exact Is.mk) (by simp only[go_sem,simprocAttr,hA];exact Is.mk) (by simp only[go_sem,simprocAttr,hA];exact Is.mk) (by simp only[go_sem,simprocAttr,hA];exact Is.mk) (by simp only[go_sem,simprocAttr,hA];exact Is.mk) (by simp only[go_sem,simprocAttr,hA]) (by simp only[go_sem,simprocAttr,hA]) (by simp only[go_sem,simprocAttr,hA]) (by simp only[go_sem,simprocAttr,hA]) ?cont24);simp only[go_sem,simprocAttr,hA]
 try refine⟨sd,?_⟩
 refine cD (g:=!((!decide (n.2=0))||(!decide (u.2=0)))) (fun hg=>ky n.1 U _ (G hg)) ?_;refine cD (g:=!(((!decide (n.2=0))||(!decide (u.2=0)))||(!V))) (fun hg=>ky n.1 c _ (I hg)) (W _ _ ?_)
 refine cR hm fun hm=>?_
 refine Wp.skip (T _ _ ?_);obtain⟨N,Y,hm⟩:=zd hm;refine sF (Px c f l _ Y) ?_;obtain⟨v,Z,hm⟩:=zd hm;refine sF (nD c f l _ Z) ?_;obtain⟨a0,J,hm⟩:=zd hm;refine sX (fun hg=>Rh c f l _ J) ?_;obtain⟨a7,L,hm⟩:=zx hm;obtain⟨a8,M,hm⟩:=zI hm;have hA:=And.intro p M;refine sX (g:=((decide (N.2=v.2))&&(decide (a0.2=v.2)))) (fun hg=>SX N.1 v.1 _ (L hg)) ?_;exact wR
end Go.Proofs.YtkojogldchfkkaaGreatDoor
