/- That the code does what the models say (part 10). -/
import Derived.Test.YtkojogldchfkkaaGreatDoorScWk0
import Derived.Test.YtkojogldchfkkaaGreatDoorScWk2
import Derived.Test.YtkojogldchfkkaaGreatDoorScWk3
import Derived.Test.YtkojogldchfkkaaGreatDoorScWk7
import Derived.Test.YtkojogldchfkkaaGreatDoorScWk8
import Derived.Test.YtkojogldchfkkaaGreatDoorScWk9
set_option linter.unusedSimpArgs false
set_option linter.unusedVariables false
open Go.Proofs Go.Shelf
open List
namespace Go.Proofs.YtkojogldchfkkaaGreatDoor
open Tryz
open Go.Vc Go.Md
set_option maxRecDepth 100000
set_option maxHeartbeats 4000000
theorem Qa(c:ai)(f:List ae)(z:Int)(hm:FO c f=some z):Does prog 8 [.agg [lm za c.m,lm zc c.b,lm za c.i,lm zb c.h],lm zf f] [] (fun r X=>r=pI z/\X=[]):=by
 unfold FO at hm
 refine dW 0 72 [.tmp 4] func8 fun B=>nA fun hA=>?_
 refine qS ?_
 refine df fun _ ap _=>?_
 obtain⟨aE,P,hm⟩:=zd hm;refine sX (fun hg=>KC c _ P) ?_;refine qS ?_
 refine cR hm fun hm=>?_
 refine Wp.skip (ap _ _ (df fun _ aq _=>?_));obtain⟨aF,Q,hm⟩:=zd hm;refine sX (fun hg=>S0 c.b _ Q) ?_
 refine cR hm fun hm=>?_
 refine Wp.skip (aq _ _ (df fun ar u a3=>?_));obtain⟨au,v,hm⟩:=zj hm
 have C:∀s,au s=some z->ar [(1,lm zf f),(2,.ptr 0 0)] [.cells 26 [lm za c.m,lm zc c.b,lm za c.i,lm zb c.h]]:=by
  intro s hs;have hm:=v _ hs;clear hs
  try dsimp only at hm|-
  refine u _ _ (df fun _ a4 _=>?_);obtain⟨a5,R,hm⟩:=zd hm;obtain⟨l,a6,hm⟩:=zd hm
  refine rS fun _ a7=>?_
  refine cF (Ni c _ R) ?_;refine cF (Nb a5 f _ a6) (a7 _ _ ?_);refine qS ?_
  refine cR hm fun hm=>?_
  refine Wp.skip (a4 _ _ (df fun _ a8 _=>qS ?_))
  refine cR hm fun hm=>?_
  refine Wp.skip (a8 _ _ (qS ?_))
  refine df fun av D a9=>?_
  obtain⟨aw,E,hm⟩:=zj hm
  have F:∀s,aw s=some z->av [] []:=by
   intro s hs;have hm:=E _ hs;clear hs
   try dsimp only at hm|-
   exact D _ _ (wQ)
  clear D E;refine qS ?_;refine Wp.block ?_;obtain⟨aG,S,hm⟩:=zl hm
  refine fL 58 f.length fun T=>?_
  refine Wp.forL (fun G s=>[(11,.mp 2),(58,lm zf f),(59,pI (f.length:Int)),(60,pI (G:Int))]) (fun G s=>[.cells 26 [lm za c.m,lm zc c.b,lm za c.i,lm zb c.h],.cells 26 [lm za l.1.m,lm zc l.1.b,lm za l.1.i,lm zb l.1.h],.mp false (zm C0 fl s)]) wF hm ?_;clear hm;intro G j aA hm
  try dsimp only at hm|-
  refine qS ?_
  refine lB zf hm T (fun h=>a9 _ _ _ _ wF (F () (S _ h))) fun U I a2 aB n aC J hm hA _ ac=>?_
  refine q6 ?_
  refine df fun _ ad _=>?_
  obtain⟨L,V,hm⟩:=zd hm;obtain⟨aH,af,hm⟩:=zI hm;have o:=zw (e:=fl) Nf j L false;have p:=zu (e:=fl) Nf j L;simp only[C0,zU,af,fl,map_nil]at o p;have hA:=And.intro I (And.intro n (And.intro o p));refine sX (fun hg=>Nl a2 _ V) ?_
  refine cR hm fun hm=>?_
  refine Wp.skip (ad _ _ ?_);obtain⟨M,W,hm⟩:=zd hm;obtain⟨aI,hm⟩:=zh hm;have t:=mD (e:=fl) Nf j M true;simp only[C0,zU,fl,map_nil]at t;have hA:=And.intro I (And.intro n t);refine eX (fun hg=>Nl a2 _ W) ?_;refine ac _ _ (r6 ?_);exact wN (eG j M true) U (J _ hm)
 clear u v;refine qS ?_;refine Wp.block ?_;obtain⟨aJ,Y,hm⟩:=zl hm
 refine fL 1 f.length fun Z=>?_
 refine Wp.forL (fun k s=>[(1,lm zf f),(2,.ptr 0 0),(22,lm zf f),(23,pI (f.length:Int)),(24,pI (k:Int))]) (fun k s=>[.cells 26 [lm za c.m,lm zc c.b,lm za c.i,lm zb c.h]]) wF hm ?_;clear hm;intro k s ax hm
 try dsimp only at hm|-
 refine qS ?_
 refine lB zf hm Z (fun h=>a3 _ _ _ _ wF (C () (Y _ h))) fun a0 aK ag aD ay az N hm hA _ an=>?_
 refine q6 ?_;obtain⟨O,ao,hm⟩:=zd hm;refine sX (fun hg=>Nl ag _ ao) ?_;obtain⟨aL,a1,hm⟩:=zx hm;refine sX (g:=((decide (O.kind=1))&&(!(decide (O.name=([115,116,97,103,101]:eA)))))) (fun hg=>KM O.name _ (a1 hg)) ?_
 refine cR hm fun hm=>?_
 refine Wp.skip (an _ _ (r6 ?_));exact wN () a0 (N _ hm)
theorem Q1(c:ai)(z:ai×Int)(hm:Hy c=some z):Does prog 9 [.agg [lm za c.m,lm zc c.b,lm za c.i,lm zb c.h]] [] (fun r X=>r=.tup [.agg [lm za z.1.m,lm zc z.1.b,lm za z.1.i,lm zb z.1.h],pI z.2]/\X=[]):=by
 unfold Hy at hm
 refine dW 0 13 [.cell 2 26,.tmp 3] func9 fun B=>nA fun hA=>?_
 refine qS ?_
 refine df fun _ j _=>?_
 obtain⟨k,f,hm⟩:=zd hm;refine sX (fun hg=>KC c _ f) ?_;refine qS ?_
 refine cN hm (fun hm=>?_) fun hm=>?_
 .refine qS ?_
  refine Wp.ret ?_;simp only[zy,zq];refine zL ?_;cases hm;exact gf
 .refine Wp.skip (j _ _ ?_)
  obtain⟨l,g,hm⟩:=zd hm;refine sF (Ni c _ g) ?_;exact wR
theorem RD(b:ab)(z:Bool)(hm:HL b=some z):Does prog 39 [.agg [pS b.a,pS b.q,pB b.r]] [] (fun r X=>r=pB z/\X=[]):=by
 unfold HL at hm
 refine dW 0 6 [.tmp 2] func39 fun B=>nA fun hA=>?_
 refine qS ?_;obtain⟨f,c,hm⟩:=zd hm;refine sX (fun hg=>KM b.a _ c) ?_;exact wR
theorem SR(b:List ab)(z:Int)(hm:Lg b=some z):Does prog 83 [lm zc b,.fn 39 []] [] (fun r X=>r=pI z/\X=[]):=by
 unfold Lg at hm
 refine dW 0 19 [.tmp 4] func83 fun B=>nA fun hA=>?_
 refine qS ?_
 refine df fun K2 j o=>?_
 obtain⟨p,c,hm⟩:=zj hm
 have g:∀s,p s=some z->K2 [] []:=by
  intro s hs;have hm:=c _ hs;clear hs
  try dsimp only at hm|-
  exact j _ _ (wQ)
 clear j c;refine qS ?_;refine Wp.block ?_;obtain⟨F,k,hm⟩:=zl hm
 refine fL 0 b.length fun l=>?_
 refine Wp.forL (fun f s=>[(0,lm zc b),(1,.fn 39 []),(7,pI (b.length:Int)),(8,pI (f:Int))]) (fun f s=>[]) wF hm ?_;clear hm;intro f s v hm
 try dsimp only at hm|-
 refine qS ?_
 refine lB zc hm l (fun h=>o _ _ _ _ wF (g () (k _ h))) fun m G t E C D i hm hA _ u=>?_
 refine q6 ?_;obtain⟨I,n,hm⟩:=zd hm;refine sX (fun hg=>RD t _ n) ?_
 refine cR hm fun hm=>?_
 refine Wp.skip (u _ _ (r6 ?_));exact wN () m (i _ hm)
theorem S1(b:List ab)(z:Bool)(hm:zR b=some z):Does prog 33 [lm zc b,.fn 39 []] [] (fun r X=>r=pB z/\X=[]):=by
 unfold zR at hm
 refine dW 0 9 [.tmp 4] func33 fun B=>nA fun hA=>?_
 refine qS ?_;obtain⟨f,c,hm⟩:=zd hm;refine sX (fun hg=>SR b _ c) ?_;exact wR
theorem Rf(c:ai)(z:Bool×Int)(hm:HE c=some z):Does prog 10 [.agg [lm za c.m,lm zc c.b,lm za c.i,lm zb c.h]] [] (fun r X=>r=.tup [pB z.1,pI z.2]/\X=[]):=by
 unfold HE at hm
 refine dW 0 13 [.tmp 2,.tmp 3] func10 fun B=>nA fun hA=>?_
 refine qS ?_
 refine df fun _ j _=>?_
 obtain⟨k,f,hm⟩:=zd hm;refine sX (fun hg=>KC c _ f) ?_;refine qS ?_
 refine cR hm fun hm=>?_
 refine Wp.skip (j _ _ ?_);obtain⟨l,g,hm⟩:=zd hm;refine sX (fun hg=>S1 c.b _ g) ?_;exact wR
theorem Qw(b:List aa)(c:List aa)(z:Bool)(hm:zB b c=some z):Does prog 40 [lm za b,lm za c] [] (fun r X=>r=pB z/\X=[]):=by
 unfold zB at hm
 refine dW 0 26 [.tmp 4] func40 fun B=>nA fun hA=>?_
 refine qS ?_
 refine df fun _ C _=>qS ?_
 refine cR hm fun hm=>?_
 refine Wp.skip (C _ _ (df fun K6 n D=>?_));obtain⟨E,i,hm⟩:=zj hm
 have j:∀s,E s=some z->K6 [] []:=by
  intro s hs;have hm:=i _ hs;clear hs
  try dsimp only at hm|-
  exact n _ _ (wQ)
 clear n i;refine qS ?_;refine Wp.block ?_;obtain⟨N,o,hm⟩:=zl hm
 refine fL 0 b.length fun p=>?_
 refine Wp.forL (fun g s=>[(0,lm za b),(1,lm za c),(12,pI (b.length:Int)),(13,pI (g:Int))]) (fun g s=>[]) wF hm ?_;clear hm;intro g s G hm
 try dsimp only at hm|-
 refine qS ?_
 refine lB za hm p (fun h=>D _ _ _ _ wF (j () (o _ h))) fun k t O M l I m hm hA _ u=>?_
 refine q6 ?_;obtain⟨F,J,f,L,hm⟩:=fV hm;replace f:∀d,(List.map za c).getD g d=za F:=f za;have hA:=And.intro t (And.intro l f)
 refine dS (pl [(0,none),(1,none),(2,none),(3,none),(4,none),(5,none),(6,none),(7,none),(8,none)]) fun _ v=>v _ _ ?_
 refine cR hm fun hm=>?_
 refine Wp.skip (u _ _ (r6 ?_));exact wN () k (m _ hm)
theorem SO(b:List ab)(c:List ab)(z:Bool)(hm:zT b c=some z):Does prog 41 [lm zc b,lm zc c] [] (fun r X=>r=pB z/\X=[]):=by
 unfold zT at hm
 refine dW 0 26 [.tmp 4] func41 fun B=>nA fun hA=>?_
 refine qS ?_
 refine df fun _ C _=>qS ?_
 refine cR hm fun hm=>?_
 refine Wp.skip (C _ _ (df fun K6 n D=>?_));obtain⟨E,i,hm⟩:=zj hm
 have j:∀s,E s=some z->K6 [] []:=by
  intro s hs;have hm:=i _ hs;clear hs
  try dsimp only at hm|-
  exact n _ _ (wQ)
 clear n i;refine qS ?_;refine Wp.block ?_;obtain⟨N,o,hm⟩:=zl hm
 refine fL 0 b.length fun p=>?_
 refine Wp.forL (fun g s=>[(0,lm zc b),(1,lm zc c),(12,pI (b.length:Int)),(13,pI (g:Int))]) (fun g s=>[]) wF hm ?_;clear hm;intro g s G hm
 try dsimp only at hm|-
 refine qS ?_
 refine lB zc hm p (fun h=>D _ _ _ _ wF (j () (o _ h))) fun k t O M l I m hm hA _ u=>?_
 refine q6 ?_;obtain⟨F,J,f,L,hm⟩:=fV hm;replace f:∀d,(List.map zc c).getD g d=zc F:=f zc;have hA:=And.intro t (And.intro l f)
 refine dS (pl [(0,none),(1,none),(2,none),(3,none),(4,none),(5,none),(6,none),(7,none),(8,none)]) fun _ v=>v _ _ ?_
 refine cR hm fun hm=>?_
 refine Wp.skip (u _ _ (r6 ?_));exact wN () k (m _ hm)
theorem SW(b:List ah)(c:List ah)(z:Bool)(hm:z7 b c=some z):Does prog 42 [lm zb b,lm zb c] [] (fun r X=>r=pB z/\X=[]):=by
 unfold z7 at hm
 refine dW 0 26 [.tmp 4] func42 fun B=>nA fun hA=>?_
 refine qS ?_
 refine df fun _ C _=>qS ?_
 refine cR hm fun hm=>?_
 refine Wp.skip (C _ _ (df fun K6 n D=>?_));obtain⟨E,i,hm⟩:=zj hm
 have j:∀s,E s=some z->K6 [] []:=by
  intro s hs;have hm:=i _ hs;clear hs
  try dsimp only at hm|-
  exact n _ _ (wQ)
 clear n i;refine qS ?_;refine Wp.block ?_;obtain⟨N,o,hm⟩:=zl hm
 refine fL 0 b.length fun p=>?_
 refine Wp.forL (fun g s=>[(0,lm zb b),(1,lm zb c),(12,pI (b.length:Int)),(13,pI (g:Int))]) (fun g s=>[]) wF hm ?_;clear hm;intro g s G hm
 try dsimp only at hm|-
 refine qS ?_
 refine lB zb hm p (fun h=>D _ _ _ _ wF (j () (o _ h))) fun k t O M l I m hm hA _ u=>?_
 refine q6 ?_;obtain⟨F,J,f,L,hm⟩:=fV hm;replace f:∀d,(List.map zb c).getD g d=zb F:=f zb;have hA:=And.intro t (And.intro l f)
 refine dS (pl [(0,none),(1,none),(2,none),(3,none),(4,none),(5,none),(6,none),(7,none),(8,none)]) fun _ v=>v _ _ ?_
 refine cR hm fun hm=>?_
 refine Wp.skip (u _ _ (r6 ?_));exact wN () k (m _ hm)
theorem ky(c:ai)(f:ai)(z:Bool)(hm:A4 c f=some z):Does prog 11 [.agg [lm za c.m,lm zc c.b,lm za c.i,lm zb c.h],.agg [lm za f.m,lm zc f.b,lm za f.i,lm zb f.h]] [] (fun r X=>r=pB z/\X=[]):=by
 unfold A4 at hm
 refine dW 0 31 [.tmp 4] func11 fun B=>nA fun hA=>?_
 refine qS ?_;obtain⟨j,l,hm⟩:=zd hm;obtain⟨k,n,hm⟩:=zx hm;obtain⟨t,o,hm⟩:=zx hm;obtain⟨v,p,hm⟩:=zx hm
 refine rS fun _ u=>?_
 refine cX (fun hg=>Qw c.m f.m _ l) ?_;refine cX (g:=j) (fun hg=>SO c.b f.b _ (n hg)) ?_;refine cX (g:=(j&&k)) (fun hg=>Qw c.i f.i _ (o hg)) ?_;refine cX (g:=((j&&k)&&t)) (fun hg=>SW c.h f.h _ (p hg)) (u _ _ ?_);exact wR
theorem RW(c:ab)(b:eA)(z:Bool)(hm:FT c b=some z):Does prog 119 [.agg [pS c.a,pS c.q,pB c.r],.ptr 0 0] [.cells 9 [pS b]] (fun r X=>r=pB z/\X=[.cells 9 [pS b]]):=by
 unfold FT at hm
 refine dW 1 8 [.tmp 3] func119 fun B=>nA fun hA=>?_
 refine qS ?_;exact wQ
theorem SS(c:List ab)(b:eA)(z:Int)(hm:Lh c b=some z):Does prog 83 [lm zc c,.fn 119 [.ptr 0 0]] [.cells 9 [pS b]] (fun r X=>r=pI z/\X=[.cells 9 [pS b]]):=by
 unfold Lh at hm
 refine dW 1 19 [.tmp 4] func83 fun B=>nA fun hA=>?_
 refine qS ?_
 refine df fun K2 k p=>?_
 obtain⟨t,f,hm⟩:=zj hm
 have i:∀s,t s=some z->K2 [] [.cells 9 [pS b]]:=by
  intro s hs;have hm:=f _ hs;clear hs
  try dsimp only at hm|-
  exact k _ _ (wQ)
 clear k f;refine qS ?_;refine Wp.block ?_;obtain⟨G,l,hm⟩:=zl hm
 refine fL 0 c.length fun m=>?_
 refine Wp.forL (fun g s=>[(0,lm zc c),(1,.fn 119 [.ptr 0 0]),(7,pI (c.length:Int)),(8,pI (g:Int))]) (fun g s=>[.cells 9 [pS b]]) wF hm ?_;clear hm;intro g s C hm
 try dsimp only at hm|-
 refine qS ?_
 refine lB zc hm m (fun h=>p _ _ _ _ wF (i () (l _ h))) fun n I u F D E j hm hA _ v=>?_
 refine q6 ?_;obtain⟨J,o,hm⟩:=zd hm;refine sQ [0] (fun hg=>RW u b _ o) ?_
 refine cR hm fun hm=>?_
 refine Wp.skip (v _ _ (r6 ?_));exact wN () n (j _ hm)
theorem PT(c:ai)(f:eA)(z:ab×Bool)(hm:CR c f=some z):Does prog 93 [.agg [lm za c.m,lm zc c.b,lm za c.i,lm zb c.h],pS f] [] (fun r X=>r=.tup [.agg [pS z.1.a,pS z.1.q,pB z.1.r],pB z.2]/\X=[]):=by
 unfold CR at hm
 refine dW 0 19 [.cell 4 44,.tmp 5] func93 fun B=>nA fun hA=>?_
 refine qS ?_;obtain⟨k,j,hm⟩:=zd hm;refine sQ [1] (fun hg=>SS c.b f _ j) ?_
 refine df fun _ l _=>qS ?_
 refine cR hm fun hm=>?_
 refine Wp.skip (l _ _ ?_);obtain⟨n,o,g,p,hm⟩:=fV hm;replace g:∀d,(List.map zc c.b).getD k.toNat d=zc n:=g zc;have hA:=g;exact wQ
theorem Sb(c:eA)(b:eA)(z:List eA)(hm:FR c b=some z):Does prog 120 [pS c,pS b] [] (fun r X=>r=lm eD z/\X=[]):=by
 unfold FR at hm
 refine dW 0 10 [.tmp 4] func120 fun B=>nA fun hA=>?_
 refine qS ?_;obtain⟨g,f,hm⟩:=zd hm;refine sF (Qe c b (b.length:Int) (-1) _ f) ?_;exact wR
theorem SL(c:eA)(b:eA)(z:eA×Bool)(hm:Lk c b=some z):Does prog 171 [pS c,pS b] [] (fun r X=>r=.tup [pS z.1,pB z.2]/\X=[]):=by
 unfold Lk at hm
 refine dW 0 15 [.tmp 4,.tmp 5] func171 fun B=>nA fun hA=>?_
 refine qS ?_
 refine df fun _ g _=>?_
 obtain⟨i,f,hm⟩:=zd hm;refine sX (fun hg=>Qp c b _ f) ?_
 refine cR hm fun hm=>?_
 refine Wp.skip (g _ _ ?_);obtain⟨j,hm⟩:=zh hm;exact wQ
theorem KW(c:eA)(b:eA)(z:eA×Bool)(hm:BP c b=some z):Does prog 138 [pS c,pS b] [] (fun r X=>r=.tup [pS z.1,pB z.2]/\X=[]):=by
 unfold BP at hm
 refine dW 0 11 [.tmp 4,.tmp 5] func138 fun B=>nA fun hA=>?_
 refine qS ?_;obtain⟨g,f,hm⟩:=zd hm;refine sX (fun hg=>SL c b _ f) ?_;exact wR
theorem SN(c:eA)(b:eA)(z:Bool)(hm:Lm c b=some z):Does prog 242 [pS c,pS b] [] (fun r X=>r=pB z/\X=[]):=by
 unfold Lm at hm
 refine dW 0 21 [.tmp 4] func242 fun B=>nA fun hA=>?_
 refine qS ?_;obtain⟨f,hm⟩:=zh hm;exact wQ
theorem SM(c:eA)(b:eA)(z:eA×Bool)(hm:Ll c b=some z):Does prog 207 [pS c,pS b] [] (fun r X=>r=.tup [pS z.1,pB z.2]/\X=[]):=by
 unfold Ll at hm
 refine dW 0 18 [.tmp 4,.tmp 5] func207 fun B=>nA fun hA=>?_
 refine qS ?_
 refine df fun _ g _=>?_
 obtain⟨i,f,hm⟩:=zd hm;refine sX (fun hg=>SN c b _ f) ?_
 refine cR hm fun hm=>?_
 refine Wp.skip (g _ _ ?_);obtain⟨j,hm⟩:=zh hm;exact wQ
theorem RX(c:eA)(b:eA)(z:eA×Bool)(hm:HV c b=some z):Does prog 164 [pS c,pS b] [] (fun r X=>r=.tup [pS z.1,pB z.2]/\X=[]):=by
 unfold HV at hm
 refine dW 0 11 [.tmp 4,.tmp 5] func164 fun B=>nA fun hA=>?_
 refine qS ?_;obtain⟨g,f,hm⟩:=zd hm;refine sX (fun hg=>SM c b _ f) ?_;exact wR
theorem NA(b:eA)(c:List eA)(g:Bool)(z:eA×Bool×List eA)(hm:zN b c g=some z):Does prog 121 [.ptr 0 0,pS b] [.cells 142 [lm eD c,pB g]] (fun r X=>r=pS z.1/\X=[.cells 142 [lm eD z.2.2,pB z.2.1]]):=by
 unfold zN at hm
 refine dW 1 58 [.tmp 4] func121 fun B=>nA fun hA=>?_
 refine qS ?_
 refine df fun _ l _=>qS ?_
 refine cN hm (fun hm=>?_) fun hm=>?_
 .refine qS ?_
  exact wQ
 .refine Wp.skip (l _ _ ?_)
  obtain⟨i,n,f,o,hm⟩:=fV hm;replace f:∀d,(List.map eD c).getD 0 d=eD i:=f eD;obtain⟨p,hm⟩:=zh hm;obtain⟨m,j,hm⟩:=zd hm;have hA:=f;refine sX (fun hg=>KW i (b++([32]:eA)) _ j) ?_;obtain⟨t,k,hm⟩:=zd hm;refine sX (fun hg=>RX m.1 ([10]:eA) _ k) ?_;obtain⟨u,hm⟩:=zh hm;refine q6 ?_;refine q6 ?_;exact wQ
theorem PU(s:eA)(z:Int×Bool)(hm:HG s=some z):Does prog 140 [pS s] [] (fun r X=>r=.tup [pI z.1,.er z.2]/\X=[]):=by
 cases hm;exact dX Tryz.atoiE Jj Ji ⟨_,func140,by kernel_rfl,by kernel_rfl⟩ s
end Go.Proofs.YtkojogldchfkkaaGreatDoor
