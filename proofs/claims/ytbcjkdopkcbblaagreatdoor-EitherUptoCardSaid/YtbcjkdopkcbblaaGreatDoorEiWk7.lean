/- That the code does what the models say (part 7). -/
import Derived.Test.YtbcjkdopkcbblaaGreatDoorEiWk0
import Derived.Test.YtbcjkdopkcbblaaGreatDoorEiWk1
import Derived.Test.YtbcjkdopkcbblaaGreatDoorEiWk2
import Derived.Test.YtbcjkdopkcbblaaGreatDoorEiWk3
import Derived.Test.YtbcjkdopkcbblaaGreatDoorEiWk4
import Derived.Test.YtbcjkdopkcbblaaGreatDoorEiWk5
import Derived.Test.YtbcjkdopkcbblaaGreatDoorEiWk6
set_option linter.unusedSimpArgs false
set_option linter.unusedVariables false
open Go.Proofs Go.Shelf
open List
namespace Go.Proofs.YtbcjkdopkcbblaaGreatDoor
open Tryz
open Go.Vc Go.Md
set_option maxRecDepth 100000
set_option maxHeartbeats 4000000
theorem UX(b:List ab)(z:Bool)(hm:zP b=some z):Does prog 95 [lm zc b,.fn 113 []] [] (fun r X=>r=pB z/\X=[]):=by
 unfold zP at hm
 refine dW 0 9 [.tmp 4] func95 fun B=>nA fun hA=>?_
 refine qS ?_;obtain⟨f,c,hm⟩:=zd hm;refine sX (fun hg=>UQ b _ c) ?_;exact wR
theorem Ty(b:ah)(f:aj)(c:Int)(z:List ae×List ae×dy×Int)(hm:IH b f c=some z):Does prog 114 [.agg [lm za b.y,lm zc b.h,lm za b.r,lm zb b.o],.agg [pS f.F,lm zf f.A,lm zf f.G],pI c] [] (fun r X=>r=.tup [lm zf z.1,lm zf z.2.1,pS z.2.2.1,pI z.2.2.2]/\X=[]):=by
 unfold IH at hm
 refine dW 0 35 [.tmp 6,.tmp 7,.tmp 8,.tmp 9] func114 fun B=>nA fun hA=>?_
 refine qS ?_
 refine ca fun _ n _=>Wp.block ?_
 obtain⟨p,i,hm⟩:=zd hm;refine sX (fun hg=>Cz b ([115,116,97,103,101,47,100,111,110,101]:dy) _ i) ?_
 refine cN hm (fun hm=>?_) fun hm=>?_
 .refine qS ?_
  refine Wp.ret ?_;simp only[zx,zq];refine zM ?_;cases hm;exact fI
 .obtain⟨t,j,hm⟩:=zX hm
  refine sX (g:=decide (c=2)) (fun hg=>Cz b ([115,116,97,103,101,47,98,97,99,107]:dy) _ (j hg)) ?_
  refine cN hm (fun hm=>?_) fun hm=>?_
  .obtain⟨u,k,hm⟩:=zd hm
   refine dS (pl [(0,none),(1,none),(2,none),(3,none),(4,none),(6,none),(5,some [0,1,6]),(7,none),(8,none),(9,none)]) fun _ l=>?_
   refine cD (fun hg=>OO ([115,116,97,103,101,47,100,111,110,101]:dy) f.F _ k) (l _ _ ?_);refine Wp.ret ?_;simp only[zx,zq];refine zM ?_;cases hm;exact fI
  .refine qS ?_
   refine cN hm (fun hm=>?_) fun hm=>?_
   .refine qS ?_
    refine Wp.ret ?_;simp only[zx,zq];refine zM ?_;cases hm;exact fI
   .obtain⟨v,m,hm⟩:=zd hm
    refine sX (fun hg=>Cz b ([115,116,97,103,101,47,98,97,99,107]:dy) _ m) ?_
    refine cN hm (fun hm=>?_) fun hm=>?_
    .refine qS ?_
     refine Wp.ret ?_;simp only[zx,zq];refine zM ?_;cases hm;exact fI
    .refine Wp.skip (n _ _ (qS ?_))
     refine Wp.ret ?_;refine zM ?_;cases hm;exact fI
theorem Ux(c:List ab)(b:ab)(z:Int)(hm:MK c b=some z):Does prog 218 [lm zc c,.agg [pS b.a,pS b.B,pB b.C]] [] (fun r X=>r=pI z/\X=[]):=by
 unfold MK at hm
 refine dW 0 19 [.tmp 4] func218 fun B=>nA fun hA=>?_
 refine qS ?_
 refine ca fun K2 k o=>?_
 obtain⟨p,f,hm⟩:=zj hm
 have i:∀s,p s=some z->K2 [] []:=by
  intro s hs;have hm:=f _ hs;clear hs
  try dsimp only at hm|-
  exact k _ _ (wQ)
 clear k f;refine qS ?_;refine Wp.block ?_;obtain⟨F,l,hm⟩:=zm hm
 refine fL 0 c.length fun m=>?_
 refine Wp.forL (fun g s=>[(0,lm zc c),(3,.ptr 0 0),(7,pI (c.length:Int)),(8,pI (g:Int))]) (fun g s=>[.cells 57 [pS b.a,pS b.B,pB b.C]]) wF hm ?_;clear hm;intro g s v hm
 try dsimp only at hm|-
 refine qS ?_
 refine lB zc hm m (fun h=>o _ _ _ _ wF (i () (l _ h))) fun n G I E w D j hm hA _ t=>?_
 refine q6 ?_
 refine dS (pl [(0,none),(1,none),(2,none),(3,none),(4,none),(5,none)]) fun _ u=>u _ _ ?_
 refine cR hm fun hm=>?_
 refine Wp.skip (t _ _ (r6 ?_));exact wN () n (j _ hm)
theorem UG(c:List ab)(b:ab)(z:Bool)(hm:I9 c b=some z):Does prog 190 [lm zc c,.agg [pS b.a,pS b.B,pB b.C]] [] (fun r X=>r=pB z/\X=[]):=by
 unfold I9 at hm
 refine dW 0 9 [.tmp 4] func190 fun B=>nA fun hA=>?_
 refine qS ?_;obtain⟨g,f,hm⟩:=zd hm;refine sX (fun hg=>Ux c b _ f) ?_;exact wR
theorem UM(b:List aa)(c:aa)(z:Int)(hm:MC b c=some z):Does prog 219 [lm za b,.agg [pS c.k,pS c.Value]] [] (fun r X=>r=pI z/\X=[]):=by
 unfold MC at hm
 refine dW 0 19 [.tmp 4] func219 fun B=>nA fun hA=>?_
 refine qS ?_
 refine ca fun K2 l p=>?_
 obtain⟨t,f,hm⟩:=zj hm
 have i:∀s,t s=some z->K2 [] []:=by
  intro s hs;have hm:=f _ hs;clear hs
  try dsimp only at hm|-
  exact l _ _ (wQ)
 clear l f;refine qS ?_;refine Wp.block ?_;obtain⟨F,m,hm⟩:=zm hm
 refine fL 0 b.length fun n=>?_
 refine Wp.forL (fun g s=>[(0,lm za b),(3,.ptr 0 0),(7,pI (b.length:Int)),(8,pI (g:Int))]) (fun g s=>[.cells 50 [pS c.k,pS c.Value]]) wF hm ?_;clear hm;intro g s w hm
 try dsimp only at hm|-
 refine qS ?_
 refine lB za hm n (fun h=>p _ _ _ _ wF (i () (m _ h))) fun o G I E C D j hm hA _ u=>?_
 refine q6 ?_
 refine dS (pl [(0,none),(1,none),(2,none),(3,none),(4,none),(5,none)]) fun _ v=>v _ _ ?_
 refine cR hm fun hm=>?_
 refine Wp.skip (u _ _ (r6 ?_));exact wN () o (j _ hm)
theorem UJ(c:List aa)(b:aa)(z:Bool)(hm:zS c b=some z):Does prog 191 [lm za c,.agg [pS b.k,pS b.Value]] [] (fun r X=>r=pB z/\X=[]):=by
 unfold zS at hm
 refine dW 0 9 [.tmp 4] func191 fun B=>nA fun hA=>?_
 refine qS ?_;obtain⟨g,f,hm⟩:=zd hm;refine sX (fun hg=>UM c b _ f) ?_;exact wR
theorem TJ(f:aa)(c:ae)(z:Bool)(hm:Mf f c=some z):Does prog 188 [.agg [pS f.k,pS f.Value],.rp [.i .i64 c.u,.s c.i.a,.s c.i.B,.b c.i.C,.s c.z.k,.s c.z.Value,.s c.q.w,.s c.q.a,.b c.q.D,.b c.q.E]] [] (fun r X=>r=pB z/\X=[]):=by
 unfold Mf at hm
 refine dW 0 10 [.tmp 3] func188 fun B=>nA fun hA=>?_
 refine qS ?_;exact wQ
theorem US(f:List aa)(c:ae)(z:Int)(hm:z8 f c=some z):Does prog 220 [lm za f,.fn 188 [.rp [.i .i64 c.u,.s c.i.a,.s c.i.B,.b c.i.C,.s c.z.k,.s c.z.Value,.s c.q.w,.s c.q.a,.b c.q.D,.b c.q.E]]] [] (fun r X=>r=pI z/\X=[]):=by
 unfold z8 at hm
 refine dW 0 19 [.tmp 4] func220 fun B=>nA fun hA=>?_
 refine qS ?_
 refine ca fun K2 n F=>?_
 obtain⟨G,g,hm⟩:=zj hm
 have l:∀s,G s=some z->K2 [] []:=by
  intro s hs;have hm:=g _ hs;clear hs
  try dsimp only at hm|-
  exact n _ _ (wQ)
 clear n g;refine qS ?_;refine Wp.block ?_;obtain⟨P,o,hm⟩:=zm hm
 refine fL 0 f.length fun p=>?_
 refine Wp.forL (fun j s=>[(0,lm za f),(1,.fn 188 [.rp [.i .i64 c.u,.s c.i.a,.s c.i.B,.b c.i.C,.s c.z.k,.s c.z.Value,.s c.q.w,.s c.q.a,.b c.q.D,.b c.q.E]]),(7,pI (f.length:Int)),(8,pI (j:Int))]) (fun j s=>[]) wF hm ?_;clear hm;intro j s L hm
 try dsimp only at hm|-
 refine qS ?_
 refine lB za hm p (fun h=>F _ _ _ _ wF (l () (o _ h))) fun t Q I O M N m hm hA _ J=>?_
 refine q6 ?_;obtain⟨R,v,hm⟩:=zd hm;refine sX (fun hg=>TJ I c _ v) ?_
 refine cR hm fun hm=>?_
 refine Wp.skip (J _ _ (r6 ?_));exact wN () t (m _ hm)
theorem UV(f:List aa)(c:ae)(z:Bool)(hm:zA f c=some z):Does prog 192 [lm za f,.fn 188 [.rp [.i .i64 c.u,.s c.i.a,.s c.i.B,.b c.i.C,.s c.z.k,.s c.z.Value,.s c.q.w,.s c.q.a,.b c.q.D,.b c.q.E]]] [] (fun r X=>r=pB z/\X=[]):=by
 unfold zA at hm
 refine dW 0 9 [.tmp 4] func192 fun B=>nA fun hA=>?_
 refine qS ?_;obtain⟨j,g,hm⟩:=zd hm;refine sX (fun hg=>US f c _ g) ?_;exact wR
theorem UL(c:List ai)(b:ai)(z:Int)(hm:MB c b=some z):Does prog 221 [lm zb c,.agg [pS b.w,pS b.a,pB b.D,pB b.E]] [] (fun r X=>r=pI z/\X=[]):=by
 unfold MB at hm
 refine dW 0 19 [.tmp 4] func221 fun B=>nA fun hA=>?_
 refine qS ?_
 refine ca fun K2 k o=>?_
 obtain⟨p,f,hm⟩:=zj hm
 have i:∀s,p s=some z->K2 [] []:=by
  intro s hs;have hm:=f _ hs;clear hs
  try dsimp only at hm|-
  exact k _ _ (wQ)
 clear k f;refine qS ?_;refine Wp.block ?_;obtain⟨I,l,hm⟩:=zm hm
 refine fL 0 c.length fun m=>?_
 refine Wp.forL (fun g s=>[(0,lm zb c),(3,.ptr 0 0),(7,pI (c.length:Int)),(8,pI (g:Int))]) (fun g s=>[.cells 59 [pS b.w,pS b.a,pB b.D,pB b.E]]) wF hm ?_;clear hm;intro g s v hm
 try dsimp only at hm|-
 refine qS ?_
 refine lB zb hm m (fun h=>o _ _ _ _ wF (i () (l _ h))) fun n J L G C F j hm hA _ t=>?_
 refine q6 ?_
 refine dS (pl [(0,none),(1,none),(2,none),(3,none),(4,none),(5,none)]) fun _ u=>u _ _ ?_
 refine cR hm fun hm=>?_
 refine Wp.skip (t _ _ (r6 ?_));exact wN () n (j _ hm)
theorem UI(c:List ai)(b:ai)(z:Bool)(hm:zT c b=some z):Does prog 193 [lm zb c,.agg [pS b.w,pS b.a,pB b.D,pB b.E]] [] (fun r X=>r=pB z/\X=[]):=by
 unfold zT at hm
 refine dW 0 9 [.tmp 4] func193 fun B=>nA fun hA=>?_
 refine qS ?_;obtain⟨g,f,hm⟩:=zd hm;refine sX (fun hg=>UL c b _ f) ?_;exact wR
theorem TK(f:ai)(c:ae)(z:Bool)(hm:Mh f c=some z):Does prog 189 [.agg [pS f.w,pS f.a,pB f.D,pB f.E],.rp [.i .i64 c.u,.s c.i.a,.s c.i.B,.b c.i.C,.s c.z.k,.s c.z.Value,.s c.q.w,.s c.q.a,.b c.q.D,.b c.q.E]] [] (fun r X=>r=pB z/\X=[]):=by
 unfold Mh at hm
 refine dW 0 10 [.tmp 3] func189 fun B=>nA fun hA=>?_
 refine qS ?_;exact wQ
theorem UR(f:List ai)(c:ae)(z:Int)(hm:MG f c=some z):Does prog 222 [lm zb f,.fn 189 [.rp [.i .i64 c.u,.s c.i.a,.s c.i.B,.b c.i.C,.s c.z.k,.s c.z.Value,.s c.q.w,.s c.q.a,.b c.q.D,.b c.q.E]]] [] (fun r X=>r=pI z/\X=[]):=by
 unfold MG at hm
 refine dW 0 19 [.tmp 4] func222 fun B=>nA fun hA=>?_
 refine qS ?_
 refine ca fun K2 n F=>?_
 obtain⟨G,g,hm⟩:=zj hm
 have l:∀s,G s=some z->K2 [] []:=by
  intro s hs;have hm:=g _ hs;clear hs
  try dsimp only at hm|-
  exact n _ _ (wQ)
 clear n g;refine qS ?_;refine Wp.block ?_;obtain⟨P,o,hm⟩:=zm hm
 refine fL 0 f.length fun p=>?_
 refine Wp.forL (fun j s=>[(0,lm zb f),(1,.fn 189 [.rp [.i .i64 c.u,.s c.i.a,.s c.i.B,.b c.i.C,.s c.z.k,.s c.z.Value,.s c.q.w,.s c.q.a,.b c.q.D,.b c.q.E]]),(7,pI (f.length:Int)),(8,pI (j:Int))]) (fun j s=>[]) wF hm ?_;clear hm;intro j s L hm
 try dsimp only at hm|-
 refine qS ?_
 refine lB zb hm p (fun h=>F _ _ _ _ wF (l () (o _ h))) fun t Q I O M N m hm hA _ J=>?_
 refine q6 ?_;obtain⟨R,v,hm⟩:=zd hm;refine sX (fun hg=>TK I c _ v) ?_
 refine cR hm fun hm=>?_
 refine Wp.skip (J _ _ (r6 ?_));exact wN () t (m _ hm)
theorem UU(f:List ai)(c:ae)(z:Bool)(hm:zB f c=some z):Does prog 194 [lm zb f,.fn 189 [.rp [.i .i64 c.u,.s c.i.a,.s c.i.B,.b c.i.C,.s c.z.k,.s c.z.Value,.s c.q.w,.s c.q.a,.b c.q.D,.b c.q.E]]] [] (fun r X=>r=pB z/\X=[]):=by
 unfold zB at hm
 refine dW 0 9 [.tmp 4] func194 fun B=>nA fun hA=>?_
 refine qS ?_;obtain⟨j,g,hm⟩:=zd hm;refine sX (fun hg=>UR f c _ g) ?_;exact wR
theorem SH(c:ah)(b:ae)(z:Bool)(hm:H8 c b=some z):Does prog 153 [.agg [lm za c.y,lm zc c.h,lm za c.r,lm zb c.o],.agg [pI b.u,pS b.i.a,pS b.i.B,pB b.i.C,pS b.z.k,pS b.z.Value,pS b.q.w,pS b.q.a,pB b.q.D,pB b.q.E]] [] (fun r X=>r=pB z/\X=[]):=by
 unfold H8 at hm
 refine dW 0 52 [.tmp 4] func153 fun B=>nA fun hA=>?_
 refine qS ?_;refine qS ?_;refine qS ?_
 refine ca fun _ p _=>qS ?_
 refine Wp.block (qS ?_)
 refine cN hm (fun hm=>?_) fun hm=>?_
 .obtain⟨t,f,hm⟩:=zd hm
  refine sX (fun hg=>UG c.h b.i _ f) ?_;exact wR
 .refine qS ?_
  refine cN hm (fun hm=>?_) fun hm=>?_
  .obtain⟨v,g,hm⟩:=zd hm
   refine sX (fun hg=>Cz c b.i.a _ g) ?_;exact wR
  .refine qS ?_
   refine cN hm (fun hm=>?_) fun hm=>?_
   .obtain⟨F,j,hm⟩:=zd hm
    refine sX (fun hg=>UJ c.r b.z _ j) ?_;exact wR
   .refine qS ?_
    refine cN hm (fun hm=>?_) fun hm=>?_
    .obtain⟨G,l,hm⟩:=zd hm
     refine sX (fun hg=>UV c.r b _ l) ?_;exact wR
    .refine qS ?_
     refine cN hm (fun hm=>?_) fun hm=>?_
     .obtain⟨I,m,hm⟩:=zd hm
      refine sX (fun hg=>UI c.o b.q _ m) ?_;exact wR
     .refine Wp.skip (p _ _ ?_)
      obtain⟨J,n,hm⟩:=zd hm;refine sX (fun hg=>UU c.o b _ n) ?_;exact wR
theorem TI(w:List ae)(p:Bool)(t:Bool)(u:Int)(b:Bool)(v:Int)(c:List aa)(D:List (dy×ab))(E:List (dy×Int))(F:List (dy×aa))(G:List (dy×ai))(z:Int×Bool×Bool×Int×Int×(List (dy×ab))×(List (dy×Int))×(List (dy×aa))×(List (dy×ai)))(hm:IR w p t u b v c D E F G=some z):Does prog 115 [.ptr 0 0,lm zf w] [.cells 111 [.ptr 1 0,pB p,pB t,pI u,pB b,pI v],.cells 151 [lm za c,.mp 2,.mp 3,.mp 4,.mp 5],.mp true (zl Dt.s zc D),.mp false (zl Dt.s zk E),.mp true (zl Dt.s za F),.mp true (zl Dt.s zb G)] (fun r X=>r=pI z.1/\X=[.cells 111 [.ptr 1 0,pB z.2.1,pB z.2.2.1,pI z.2.2.2.1,pB b,pI z.2.2.2.2.1],.cells 151 [lm za c,.mp 2,.mp 3,.mp 4,.mp 5],.mp true (zl Dt.s zc z.2.2.2.2.2.1),.mp false (zl Dt.s zk z.2.2.2.2.2.2.1),.mp true (zl Dt.s za z.2.2.2.2.2.2.2.1),.mp true (zl Dt.s zb z.2.2.2.2.2.2.2.2)]):=by
 unfold IR at hm
 refine dW 6 34 [.tmp 4] func115 fun B=>nA fun hA=>?_
 refine qS ?_
 refine ca fun K2 S a3=>?_
 obtain⟨a4,I,hm⟩:=zj hm
 have N:∀s,a4 s=some z->K2 [] [.cells 111 [.ptr 1 0,pB s.1,pB s.2.1,pI s.2.2.1,pB b,pI s.2.2.2.1],.cells 151 [lm za c,.mp 2,.mp 3,.mp 4,.mp 5],.mp true (zl Dt.s zc s.2.2.2.2.1),.mp false (zl Dt.s zk s.2.2.2.2.2.1),.mp true (zl Dt.s za s.2.2.2.2.2.2.1),.mp true (zl Dt.s zb s.2.2.2.2.2.2.2)]:=by
  intro s hs;have hm:=I _ hs;clear hs;obtain⟨Z,a0,a1,a2,a7,a8,a9,ac⟩:=s
  try dsimp only at hm|-
  exact S _ _ (wQ)
 clear S I;refine qS ?_;refine Wp.block ?_;obtain⟨ag,O,hm⟩:=zm hm
 refine fL 10 w.length fun P=>?_
 refine Wp.forL (fun J s=>[(0,.ptr 0 0),(10,lm zf w),(11,pI (w.length:Int)),(12,pI (J:Int))]) (fun J s=>[.cells 111 [.ptr 1 0,pB s.1,pB s.2.1,pI s.2.2.1,pB b,pI s.2.2.2.1],.cells 151 [lm za c,.mp 2,.mp 3,.mp 4,.mp 5],.mp true (zl Dt.s zc s.2.2.2.2.1),.mp false (zl Dt.s zk s.2.2.2.2.2.1),.mp true (zl Dt.s za s.2.2.2.2.2.2.1),.mp true (zl Dt.s zb s.2.2.2.2.2.2.2)]) wF hm ?_;clear hm;intro J s ad hm;obtain⟨g,i,j,f,l,m,n,o⟩:=s
 try dsimp only at hm|-
 refine qS ?_
 refine lB zf hm P (fun h=>a3 _ _ _ _ wF (N (g,i,j,f,l,m,n,o) (O _ h))) fun L ap M af a5 a6 C hm hA _ T=>?_
 refine q6 ?_;obtain⟨U,Q,hm⟩:=zd hm;refine sQ [0,1,2,3,4,5] (fun hg=>Mx g i j b f c l m n o _ Q) ?_
 refine ca fun _ V _=>q6 ?_
 refine cR hm fun hm=>?_
 refine Wp.skip (V _ _ (ca fun _ W _=>?_));obtain⟨an,R,hm⟩:=zd hm;refine sX (fun hg=>SH U.1 M _ R) ?_
 refine cN hm (fun hm=>?_) fun hm=>?_
 .refine Wp.exit (T _ _ (r6 ?_))
  exact wN (g,i,j,f,l,m,n,o) L (C _ hm)
 .refine Wp.skip (W _ _ ?_)
  obtain⟨k,Y,hm⟩:=zd hm;refine sO [0,1,2,3,4,5] (RW M g i j b f c l m n o _ Y) ?_;refine q6 ?_
  refine cR hm fun hm=>?_
  refine Wp.skip (T _ _ (r6 ?_));exact wN (k.2.1,k.2.2.1,k.2.2.2.2.1,k.2.2.2.1,k.2.2.2.2.2.1,k.2.2.2.2.2.2.1,k.2.2.2.2.2.2.2.1,k.2.2.2.2.2.2.2.2) L (C _ hm)
theorem TX(b:ah)(c:dy)(z:List ae)(hm:IZ b c=some z):Does prog 61 [.agg [lm za b.y,lm zc b.h,lm za b.r,lm zb b.o],pS c] [] (fun r X=>r=lm zf z/\X=[]):=by
 unfold IZ at hm
 refine dW 0 40 [.tmp 4] func61 fun B=>nA fun hA=>?_
 refine qS ?_;refine qS ?_
 refine ca fun K3 v F=>?_
 obtain⟨G,j,hm⟩:=zj hm
 have m:∀s,G s=some z->K3 [(1,pS c),(2,.ptr 0 0),(5,.buf 1)] [.cells 26 [lm za b.y,lm zc b.h,lm za b.r,lm zb b.o],.buf 61 10 (List.map zf s)]:=by
  intro J hs;have hm:=j _ hs;clear hs
  try dsimp only at hm|-
  refine v _ _ (ca fun _ w _=>?_);obtain⟨V,D,hm⟩:=zd hm;refine sX (fun hg=>Cz b c _ D) ?_
  refine cN hm (fun hm=>?_) fun hm=>?_
  .obtain⟨O,n,hm⟩:=zd hm
   obtain⟨P,hm⟩:=zh hm;refine eX (fun hg=>GR c _ n) ?_;exact w _ _ (wQ)
  .exact Wp.skip (w _ _ (wQ))
 clear v j;refine qS ?_;refine Wp.block (cd 5 61 10 rfl ?_);simp only[go_sem,simprocAttr];obtain⟨Q,p,hm⟩:=zm hm
 refine fL 9 b.h.length fun t=>?_
 refine Wp.forL (fun k s=>[(1,pS c),(2,.ptr 0 0),(5,.buf 1),(9,lm zc b.h),(10,pI (b.h.length:Int)),(11,pI (k:Int))]) (fun k s=>[.cells 26 [lm za b.y,lm zc b.h,lm za b.r,lm zb b.o],.buf 61 10 (List.map zf s)]) wF hm ?_;clear hm;intro k f L hm
 try dsimp only at hm|-
 refine qS ?_
 refine lB zc hm t (fun h=>F _ _ _ _ wF (m f (p _ h))) fun g R C S M N i hm hA _ l=>?_
 refine q6 ?_;obtain⟨T,u,hm⟩:=zd hm;refine sX (fun hg=>IL C.a _ u) ?_
 refine cN hm (fun hm=>?_) fun hm=>?_
 .obtain⟨I,E,hm⟩:=zd hm
  obtain⟨U,hm⟩:=zh hm;refine eX (fun hg=>GR C.a _ E) ?_;refine l _ _ (r6 ?_);exact wN (f++[I]) g (i _ hm)
 .refine Wp.skip (l _ _ (r6 ?_))
  exact wN f g (i _ hm)
theorem Ud(j:ah)(l:Bool)(m:Bool)(g:Int)(c:Bool)(i:Int)(f:List aa)(n:List (dy×ab))(p:List (dy×Int))(t:List (dy×aa))(u:List (dy×ai))(z:dy×Int×Int×Bool×Bool×Int×Int×(List (dy×ab))×(List (dy×Int))×(List (dy×aa))×(List (dy×ai)))(hm:Mt j l m g c i f n p t u=some z):Does prog 69 [.ptr 0 0,.agg [lm za j.y,lm zc j.h,lm za j.r,lm zb j.o]] [.cells 111 [.ptr 1 0,pB l,pB m,pI g,pB c,pI i],.cells 151 [lm za f,.mp 2,.mp 3,.mp 4,.mp 5],.mp true (zl Dt.s zc n),.mp false (zl Dt.s zk p),.mp true (zl Dt.s za t),.mp true (zl Dt.s zb u)] (fun r X=>r=.tup [pS z.1,pI z.2.1,pI z.2.2.1]/\X=[.cells 111 [.ptr 1 0,pB z.2.2.2.1,pB z.2.2.2.2.1,pI z.2.2.2.2.2.1,pB c,pI z.2.2.2.2.2.2.1],.cells 151 [lm za f,.mp 2,.mp 3,.mp 4,.mp 5],.mp true (zl Dt.s zc z.2.2.2.2.2.2.2.1),.mp false (zl Dt.s zk z.2.2.2.2.2.2.2.2.1),.mp true (zl Dt.s za z.2.2.2.2.2.2.2.2.2.1),.mp true (zl Dt.s zb z.2.2.2.2.2.2.2.2.2.2)]):=by
 unfold Mt at hm
 refine dW 6 66 [.tmp 4,.tmp 5,.tmp 6] func69 fun B=>nA fun hA=>?_
 refine qS ?_
 refine ca fun _ T _=>?_
 obtain⟨U,w,hm⟩:=zd hm;refine sX (fun hg=>UX j.h _ w) ?_
 refine cR hm fun hm=>?_
 refine Wp.skip (T _ _ ?_);obtain⟨F,G,hm⟩:=zd hm;refine sF (Rq j _ G) ?_;obtain⟨v,I,hm⟩:=zd hm;refine sF (Ty j F.1 F.2 _ I) ?_
 refine ca fun _ J _=>?_
 obtain⟨k,L,hm⟩:=zd hm;refine sO [0,1,2,3,4,5] (TI v.1 l m g c i f n p t u _ L) ?_;refine qS ?_
 refine cR hm fun hm=>?_
 refine Wp.skip (J _ _ (ca fun _ M _=>?_));obtain⟨b,N,hm⟩:=zd hm;refine sO [0,1,2,3,4,5] (OX v.2.1 k.2.1 k.2.2.1 k.2.2.2.1 c k.2.2.2.2.1 f k.2.2.2.2.2.1 k.2.2.2.2.2.2.1 k.2.2.2.2.2.2.2.1 k.2.2.2.2.2.2.2.2 _ N) ?_;refine qS ?_
 refine cR hm fun hm=>?_
 refine Wp.skip (M _ _ ?_);obtain⟨O,C,hm⟩:=zd hm;refine sQ [0,1,2,3,4,5] (fun hg=>Mx b.2.1 b.2.2.1 b.2.2.2.1 c b.2.2.2.2.1 f b.2.2.2.2.2.1 b.2.2.2.2.2.2.1 b.2.2.2.2.2.2.2.1 b.2.2.2.2.2.2.2.2 _ C) ?_
 refine ca fun _ P _=>qS ?_
 refine cR hm fun hm=>?_
 refine Wp.skip (P _ _ (ca fun _ Q _=>?_));obtain⟨R,D,hm⟩:=zd hm;obtain⟨V,E,hm⟩:=zd hm
 refine rS fun _ S=>?_
 refine cF (TX O.1 v.2.2.1 _ D) ?_;refine cO [0,1,2,3,4,5] (OX R b.2.1 b.2.2.1 b.2.2.2.1 c b.2.2.2.2.1 f b.2.2.2.2.2.1 b.2.2.2.2.2.2.1 b.2.2.2.2.2.2.2.1 b.2.2.2.2.2.2.2.2 _ E) (S _ _ ?_);refine qS ?_
 refine cR hm fun hm=>?_
 exact Wp.skip (Q _ _ (wQ))
theorem TG(f:Bool)(g:Bool)(i:Int)(b:Bool)(j:Int)(c:List aa)(l:List (dy×ab))(m:List (dy×Int))(n:List (dy×aa))(k:List (dy×ai))(z:dy×Int×Int×Bool×Bool×Int×Int×(List (dy×ab))×(List (dy×Int))×(List (dy×aa))×(List (dy×ai)))(hm:IM f g i b j c l m n k=some z):Does prog 33 [.ptr 0 0] [.cells 111 [.ptr 1 0,pB f,pB g,pI i,pB b,pI j],.cells 151 [lm za c,.mp 2,.mp 3,.mp 4,.mp 5],.mp true (zl Dt.s zc l),.mp false (zl Dt.s zk m),.mp true (zl Dt.s za n),.mp true (zl Dt.s zb k)] (fun r X=>r=.tup [pS z.1,pI z.2.1,pI z.2.2.1]/\X=[.cells 111 [.ptr 1 0,pB z.2.2.2.1,pB z.2.2.2.2.1,pI z.2.2.2.2.2.1,pB b,pI z.2.2.2.2.2.2.1],.cells 151 [lm za c,.mp 2,.mp 3,.mp 4,.mp 5],.mp true (zl Dt.s zc z.2.2.2.2.2.2.2.1),.mp false (zl Dt.s zk z.2.2.2.2.2.2.2.2.1),.mp true (zl Dt.s za z.2.2.2.2.2.2.2.2.2.1),.mp true (zl Dt.s zb z.2.2.2.2.2.2.2.2.2.2)]):=by
 unfold IM at hm
 refine dW 6 21 [.tmp 2,.tmp 3,.tmp 4] func33 fun B=>nA fun hA=>?_
 refine qS ?_;obtain⟨t,o,hm⟩:=zd hm;refine sQ [0,1,2,3,4,5] (fun hg=>RT f g i b j c l m n k _ o) ?_
 refine ca fun _ u _=>qS ?_
 refine cR hm fun hm=>?_
 refine Wp.skip (u _ _ ?_);obtain⟨v,p,hm⟩:=zd hm;refine sO [0,1,2,3,4,5] (Ud t.1 f g i b j c l m n k _ p) ?_;exact wR
theorem lX(F:ah)(t:dy)(G:List ae)(M:List ak)(z:ah×List Int×Int)(hm:Au F t G M=some z):Does prog 9 [.agg [lm za F.y,lm zc F.h,lm za F.r,lm zb F.o],pS t,lm zf G,lm zK M] [] (fun r X=>r=.tup [.agg [lm za z.1.y,lm zc z.1.h,lm za z.1.r,lm zb z.1.o],lm zk z.2.1,pI z.2.2]/\X=[]):=by
 unfold Au at hm
 refine dW 0 115 [.cell 8 26,.tmp 9,.tmp 10] func9 fun B=>nA fun hA=>?_
 refine qS ?_
 refine ca fun _ bj _=>?_
 obtain⟨bA,aT,hm⟩:=zd hm;refine sF (Rp F t G _ aT) ?_;refine qS ?_
 refine cN hm (fun hm=>?_) fun hm=>?_
 .refine qS ?_
  refine Wp.ret ?_;simp only[zx,zq];refine zM ?_;cases hm;exact fI
 .refine Wp.skip (bj _ _ (ca fun _ bk _=>?_))
  obtain⟨bB,aU,hm⟩:=zd hm;refine sX (fun hg=>TH M _ aU) ?_;refine qS ?_
  refine cN hm (fun hm=>?_) fun hm=>?_
  .refine qS ?_
   refine Wp.ret ?_;simp only[zx,zq];refine zM ?_;cases hm;exact fI
  .refine Wp.skip (bk _ _ ?_)
   obtain⟨bC,aV,hm⟩:=zd hm;refine sO [] (S6 F _ aV) ?_
   refine ca fun _ b3 _=>qS ?_
   refine cN hm (fun hm=>?_) fun hm=>?_
   .refine qS ?_
    refine Wp.ret ?_;simp only[zx,zq];refine zM ?_;cases hm;exact fI
   .refine Wp.skip (b3 _ _ (qS ?_))
    refine ca fun bl aH b4=>?_
    obtain⟨b5,ap,hm⟩:=zj hm
    have aI:∀s,b5 s=some z->bl [(8,.ptr 1 0),(14,.ptr 9 0),(16,.buf 10)] [.cells 26 [.top,.top,.top,.top],.cells 26 [.nils,.nils,.nils,.nils],.cells 26 [.top,.top,.top,.top],.cells 26 [.top,.top,.top,.top],.mp true (zl Dt.s zc s.1),.mp false (zl Dt.s zk s.2.1),.mp true (zl Dt.s za s.2.2.1),.mp true (zl Dt.s zb s.2.2.2.1),.cells 151 [lm za s.2.2.2.2.1,.mp 4,.mp 5,.mp 6,.mp 7],.cells 111 [.ptr 8 0,pB s.2.2.2.2.2.1,pB s.2.2.2.2.2.2.1,pI s.2.2.2.2.2.2.2.1,pB s.2.2.2.2.2.2.2.2.1,pI s.2.2.2.2.2.2.2.2.2.1],.buf 3 1 (List.map zk s.2.2.2.2.2.2.2.2.2.2)]:=by
     intro s hs;have hm:=ap _ hs;clear hs;obtain⟨aW,aX,aY,aZ,aB,aC,aD,aE,aF,aG,bm⟩:=s
     try dsimp only at hm|-
     refine aH _ _ ?_;obtain⟨bD,b0,hm⟩:=zd hm;refine sQ [9,8,4,5,6,7] (fun hg=>Mx aC aD aE aF aG aB aW aX aY aZ _ b0) ?_;exact wQ
    clear aH ap;refine qS ?_;refine Wp.block (cd 16 3 1 rfl ?_);simp only[go_sem,simprocAttr];obtain⟨bE,b1,hm⟩:=jF hm;refine Wp.loopN (fun s=>[(1,pS t),(2,lm zf G),(3,lm zK s.1),(8,.ptr 1 0),(14,.ptr 9 0),(16,.buf 10),(17,pB s.2.1)]) (fun s=>[.cells 26 [.top,.top,.top,.top],.cells 26 [.nils,.nils,.nils,.nils],.cells 26 [.top,.top,.top,.top],.cells 26 [.top,.top,.top,.top],.mp true (zl Dt.s zc s.2.2.1),.mp false (zl Dt.s zk s.2.2.2.1),.mp true (zl Dt.s za s.2.2.2.2.1),.mp true (zl Dt.s zb s.2.2.2.2.2.1),.cells 151 [lm za s.2.2.2.2.2.2.1,.mp 4,.mp 5,.mp 6,.mp 7],.cells 111 [.ptr 8 0,pB s.2.2.2.2.2.2.2.1,pB s.2.2.2.2.2.2.2.2.1,pI s.2.2.2.2.2.2.2.2.2.1,pB s.2.2.2.2.2.2.2.2.2.2.1,pI s.2.2.2.2.2.2.2.2.2.2.2.1],.buf 3 1 (List.map zk s.2.2.2.2.2.2.2.2.2.2.2.2)]) ?_ hm ?_
    .exact fI
    clear hm;intro s bs hm;obtain⟨n,c,Q,R,S,T,v,w,C,j,k,f,b⟩:=s
    try dsimp only at hm|-
    refine ca fun _ b6 _=>?_
    obtain⟨b7,hm⟩:=zh hm
    refine dm fun bn b8 O=>?_
    suffices m:bn [(1,pS t),(2,lm zf G),(3,lm zK n),(8,.ptr 1 0),(14,.ptr 9 0),(16,.buf 10),(17,pB c),(57,pB (c||(decide ((b.getD ((IntKind.i64.wrap ((b.length:Int)-1)).toNat) 0)=(-1)))))] [.cells 26 [.top,.top,.top,.top],.cells 26 [.nils,.nils,.nils,.nils],.cells 26 [.top,.top,.top,.top],.cells 26 [.top,.top,.top,.top],.mp true (zl Dt.s zc Q),.mp false (zl Dt.s zk R),.mp true (zl Dt.s za S),.mp true (zl Dt.s zb T),.cells 151 [lm za v,.mp 4,.mp 5,.mp 6,.mp 7],.cells 111 [.ptr 8 0,pB w,pB C,pI j,pB k,pI f],.buf 3 1 (List.map zk b)]by
     rcases Bool.eq_false_or_eq_true c with u|u
     ·
      have U:(!c)=false:=by revert u;generalize c=x0;revert x0;decide
      rcases Nat.lt_or_ge ((IntKind.i64.wrap ((b.length:Int)-1)).toNat) b.length with a8|a8
      ·
       have I:=mS (l:=b) (e:=zk) (d:=0) (i:=(IntKind.i64.wrap ((b.length:Int)-1)).toNat) a8 [];simp only[go_sem,simprocAttr,false_implies,and_true,true_and,dD,u,U,I]
       first|refine O _ _ _ _ ?_ m|refine⟨sL,O _ _ _ _ ?_ m⟩
       simp only[go_sem,simprocAttr,false_implies,and_true,true_and,dD,u,U,I]
       try exact qy
      ·
       have I:(List.map zk b).getD ((IntKind.i64.wrap ((b.length:Int)-1)).toNat) []=[]:=by rw[getD_eq_getElem?_getD,getElem?_eq_none (by simpa using a8)];rfl
       simp only[go_sem,simprocAttr,false_implies,and_true,true_and,dD,u,U,I]
       first|refine O _ _ _ _ ?_ m|refine⟨sL,O _ _ _ _ ?_ m⟩
       simp only[go_sem,simprocAttr,false_implies,and_true,true_and,dD,u,U,I]
       try exact qy
     ·
      have a9:(!c)=true:=by revert u;generalize c=x0;revert x0;decide
      have b9:=b7 a9
      try dsimp only at b9
      have aq:=fun h=>mS (l:=b) (e:=zk) (d:=0) (i:=(IntKind.i64.wrap ((b.length:Int)-1)).toNat) h []
      simp only[go_sem,simprocAttr,false_implies,and_true,true_and,dD,u,a9,aq (by omega)]
      first|refine O _ _ _ _ ?_ m|refine⟨sL,O _ _ _ _ ?_ m⟩
      simp only[go_sem,simprocAttr,false_implies,and_true,true_and,dD,u,a9,aq (by omega)]
      try exact qy
    refine b8 _ _ (cN hm (fun hm=>?_) fun hm=>?_)
    .refine Wp.skip (b6 _ _ (ca fun _ aJ _=>Wp.block (ca fun bo aK aL=>?_)))
     obtain⟨ba,ar,hm⟩:=zj hm
     have ad:∀s,ba s=some z->bo [(1,pS t),(2,lm zf G),(3,lm zK n),(8,.ptr 1 0),(14,.ptr 9 0),(16,.buf 10),(17,pB c)] [.cells 26 [.top,.top,.top,.top],.cells 26 [.nils,.nils,.nils,.nils],.cells 26 [.top,.top,.top,.top],.cells 26 [.top,.top,.top,.top],.mp true (zl Dt.s zc s.1),.mp false (zl Dt.s zk s.2.1),.mp true (zl Dt.s za s.2.2.1),.mp true (zl Dt.s zb s.2.2.2.1),.cells 151 [lm za s.2.2.2.2.1,.mp 4,.mp 5,.mp 6,.mp 7],.cells 111 [.ptr 8 0,pB s.2.2.2.2.2.1,pB s.2.2.2.2.2.2,pI j,pB k,pI f],.buf 3 1 (List.map zk b)]:=by
      intro s hs;have hm:=ar _ hs;clear hs;obtain⟨V,W,Y,Z,g,D,a1⟩:=s
      try dsimp only at hm|-
      refine aK _ _ (ca fun bp aM aN=>?_);obtain⟨bb,au,hm⟩:=zj hm
      have af:∀s,bb s=some z->bp [(1,pS t),(2,lm zf G),(3,lm zK s.1),(8,.ptr 1 0),(14,.ptr 9 0),(16,.buf 10),(17,pB c)] [.cells 26 [.top,.top,.top,.top],.cells 26 [.nils,.nils,.nils,.nils],.cells 26 [.top,.top,.top,.top],.cells 26 [.top,.top,.top,.top],.mp true (zl Dt.s zc V),.mp false (zl Dt.s zk W),.mp true (zl Dt.s za Y),.mp true (zl Dt.s zb Z),.cells 151 [lm za g,.mp 4,.mp 5,.mp 6,.mp 7],.cells 111 [.ptr 8 0,pB D,pB s.2.1,pI s.2.2.1,pB s.2.2.2,pI f],.buf 3 1 (List.map zk b)]:=by
       intro s hs;have hm:=au _ hs;clear hs;obtain⟨P,a2,a3,p⟩:=s
       try dsimp only at hm|-
       refine aM _ _ (qS ?_)
       refine ca fun bq aO aP=>?_
       obtain⟨bc,aw,hm⟩:=zj hm
       have ag:∀s,bc s=some z->bq [(1,pS t),(2,lm zf G),(3,lm zK P),(8,.ptr 1 0),(14,.ptr 9 0),(15,pI s.1),(16,.buf 10),(20,pI s.2.1)] [.cells 26 [.top,.top,.top,.top],.cells 26 [.nils,.nils,.nils,.nils],.cells 26 [.top,.top,.top,.top],.cells 26 [.top,.top,.top,.top],.mp true (zl Dt.s zc s.2.2.1),.mp false (zl Dt.s zk s.2.2.2.1),.mp true (zl Dt.s za s.2.2.2.2.1),.mp true (zl Dt.s zb s.2.2.2.2.2.1),.cells 151 [lm za g,.mp 4,.mp 5,.mp 6,.mp 7],.cells 111 [.ptr 8 0,pB s.2.2.2.2.2.2.1,pB s.2.2.2.2.2.2.2.1,pI s.2.2.2.2.2.2.2.2.1,pB p,pI s.2.2.2.2.2.2.2.2.2],.buf 3 1 (List.map zk b)]:=by
        intro s hs;have hm:=aw _ hs;clear hs;obtain⟨bF,aQ,ax,ay,az,aA,a4,a5,a6,a7⟩:=s
        try dsimp only at hm|-
        refine aO _ _ (ca fun _ aR _=>qS ?_);refine Wp.block (qS ?_)
        refine cN hm (fun hm=>?_) fun hm=>?_
        .refine Wp.skip (aR _ _ ?_)
         obtain⟨bG,hm⟩:=zh hm;refine r6 ?_;refine aJ _ _ (qR ?_);simp only[zx,zq,↓reduceIte];refine⟨(P,false,ax,ay,az,aA,g,a4,a5,a6,p,a7,b++[aQ]),hm,?_⟩;exact fI
        .refine qS ?_
         refine cN hm (fun hm=>?_) fun hm=>?_
         .refine qR ?_
          refine aR _ _ ?_;obtain⟨bH,hm⟩:=zh hm;refine r6 ?_;refine aJ _ _ (qR ?_);simp only[zx,zq,↓reduceIte];refine⟨(P,false,ax,ay,az,aA,g,a4,a5,a6,p,a7,b++[(-1)]),hm,?_⟩;exact fI
         .refine qS ?_
          refine Wp.ret ?_;simp only[zx,zq];refine zM ?_;cases hm;exact fI
       clear aO aw;refine qS ?_
       refine cN hm (fun hm=>?_) fun hm=>?_
       .obtain⟨J,bd,hm⟩:=zd hm
        refine eO [9,8,4,5,6,7] (S7 t G D a2 a3 p f g V W Y Z _ bd) ?_;refine aP _ _ _ _ ?_ (ag (J.1,0,J.2.2.2.2.2.1,J.2.2.2.2.2.2.1,J.2.2.2.2.2.2.2.1,J.2.2.2.2.2.2.2.2,J.2.1,J.2.2.1,J.2.2.2.1,J.2.2.2.2.1) hm);exact fI
       .obtain⟨E,be,hm⟩:=zd hm
        refine eO [9,8,4,5,6,7] (TG D a2 a3 p f g V W Y Z _ be) ?_;refine aP _ _ _ _ ?_ (ag (E.2.2.1,E.2.1,E.2.2.2.2.2.2.2.1,E.2.2.2.2.2.2.2.2.1,E.2.2.2.2.2.2.2.2.2.1,E.2.2.2.2.2.2.2.2.2.2,E.2.2.2.1,E.2.2.2.2.1,E.2.2.2.2.2.1,E.2.2.2.2.2.2.1) hm);exact fI
      clear aM au;refine qS ?_
      refine cN hm (fun hm=>?_) fun hm=>?_
      .refine ca fun _ bf _=>?_
       obtain⟨aS,bt,ac,bu,hm⟩:=gf hm;replace ac:∀d,(List.map zK n).getD 0 d=zK aS:=ac zK;obtain⟨an,b2,hm⟩:=zd hm;have hA:=ac
       refine cj (plan:=pl [(0,none),(1,none),(2,none),(3,none),(4,none),(5,none),(6,none),(7,none),(8,none),(9,some []),(10,none)]) (by kernel_rfl) rfl (by kernel_rfl) fun bK bg=>?_
       simp only[go_sem,simprocAttr,hA]
       try refine⟨sd,?_⟩
       refine ce (df (av:=?av56) (o:=?o56) [9,8,4,5,6,7] (TC aS.L aS.N D a1 j k f g V W Y Z _ b2) (by simp only[go_sem,simprocAttr,hA];exact Is.mk) (by simp only[go_sem,simprocAttr,hA];exact Is.mk) (by simp only[go_sem,simprocAttr,hA];exact Is.mk) (by simp only[go_sem,simprocAttr,hA];exact Is.mk) (by simp only[go_sem,simprocAttr,hA];exact Is.mk) (by simp only[go_sem,simprocAttr,hA]) (by simp only[go_sem,simprocAttr,hA]) (by simp only[go_sem,simprocAttr,hA]) ?hag56 ?cont56)
       case hag56=>first|(simp only[go_sem,simprocAttr,hA];done)|(simp only[go_sem,simprocAttr,hA];exact sd)
       simp only[go_sem,simprocAttr,hA];refine kA bg ?_;refine q6 ?_
       refine cN hm (fun hm=>?_) fun hm=>?_
       .refine q6 ?_
        refine Wp.ret ?_;simp only[zx,zq];refine zM ?_;cases hm;simp only[go_sem,simprocAttr,hA]
        try exact qy
       .refine Wp.skip (bf _ _ ?_)
        obtain⟨bI,hm⟩:=zh hm;refine r6 ?_;refine aN _ _ _ _ ?_ (af (List.drop 1 n,an.2.1,an.2.2.1,an.2.2.2) hm);simp only[go_sem,simprocAttr,hA]
        try exact qy
      .refine Wp.skip (aN _ _ _ _ ?_ (af (n,a1,j,k) hm))
       exact fI
     clear aK ar;refine qS ?_
     refine cN hm (fun hm=>?_) fun hm=>?_
     .obtain⟨a0,bh,hm⟩:=zd hm
      refine cb fun bL bi=>?_
      simp only[go_sem,simprocAttr]
      try refine⟨sd,?_⟩
      refine dx (av:=?av64) [9,8,4,5,6,7] [8,4,5,6,7] (TR w C j k f v Q R S T _ bh) si si si ?hids64 ?hch64 ?hfr64 ?hok64 ?cont64
      case hch64=>rfl
      case hfr64=>rfl
      case hids64=>simp only[go_sem,simprocAttr]
      case hok64=>simp only[go_sem,simprocAttr]
      rintro _ _ ⟨rfl,rfl⟩ bJ;simp only[go_sem,simprocAttr];refine kA bi ?_;refine qS ?_
      refine cN hm (fun hm=>?_) fun hm=>?_
      .refine qS ?_
       refine Wp.ret ?_;simp only[zx,zq];refine zM ?_;cases hm;exact fI
      .refine Wp.skip (aL _ _ _ _ ?_ (ad (a0.2.2.2.2.1,a0.2.2.2.2.2.1,a0.2.2.2.2.2.2.1,a0.2.2.2.2.2.2.2,a0.2.2.2.1,a0.2.1,a0.2.2.1) hm))
       exact fI
     .refine Wp.skip (aL _ _ _ _ ?_ (ad (Q,R,S,T,v,w,C) hm))
      exact fI
    .refine Wp.exit ?_
     simp only[zx,zq,↓reduceIte];have hm:=b1 _ hm
     try dsimp only at hm
     refine b4 _ _ _ _ ?_ (aI (Q,R,S,T,v,w,C,j,k,f,b) hm);exact fI
theorem kx(c:ah)(z:ah)(hm:FJ c=some z):Does prog 12 [.agg [lm za c.y,lm zc c.h,lm za c.r,lm zb c.o]] [] (fun r X=>r=.agg [lm za z.y,lm zc z.h,lm za z.r,lm zb z.o]/\X=[]):=by
 unfold FJ at hm
 refine dW 0 27 [.cell 2 26] func12 fun B=>nA fun hA=>?_
 refine qS ?_;obtain⟨v,m,hm⟩:=zd hm;refine sO [] (Sk c.o _ m) ?_
 refine ca fun K4 k C=>?_
 obtain⟨E,g,hm⟩:=zj hm
 have j:∀s,E s=some z->K4 [(1,.ptr 0 0),(2,.ptr 1 0)] [.cells 26 [lm za c.y,lm zc c.h,lm za c.r,.buf 2],.cells 26 [.nils,.nils,.nils,.nils],.buf 59 4 (List.map zb s)]:=by
  intro G hs;have hm:=g _ hs;clear hs
  try dsimp only at hm|-
  exact k _ _ (wQ)
 clear k g;refine qS ?_;refine Wp.block ?_;obtain⟨M,n,hm⟩:=jF hm;refine Wp.loopN (fun s=>[(1,.ptr 0 0),(2,.ptr 1 0),(10,pI (v.length:Int)),(11,pI s.1)]) (fun s=>[.cells 26 [lm za c.y,lm zc c.h,lm za c.r,.buf 2],.cells 26 [.nils,.nils,.nils,.nils],.buf 59 4 (List.map zb s.2)]) ?_ hm ?_
 .exact fI
 clear hm;intro s I hm;obtain⟨b,f⟩:=s
 try dsimp only at hm|-
 refine qS ?_
 refine ca fun _ F _=>cN hm (fun hm=>?_) fun hm=>?_
 .refine Wp.skip (F _ _ (ca fun _ p _=>Wp.block (qS ?_)))
  obtain⟨J,hm⟩:=zh hm;obtain⟨L,hm⟩:=zh hm
  have t:=fun h=>mS (l:=f) (e:=zb) (d:=(ai.mk [] [] false false)) (i:=b.toNat) h []
  refine cz (plan:=pl [(0,none),(1,none),(2,none),(3,none),(4,none),(5,none),(6,none),(7,none),(8,none),(9,none),(10,none),(11,some [])]) (by kernel_rfl) rfl (by kernel_rfl) fun N u=>?_
  simp only[go_sem,simprocAttr,t (by omega)];refine kA u ?_;refine p _ _ (qR ?_);simp only[zx,zq,↓reduceIte];refine⟨(IntKind.i64.wrap (b+1),List.set f b.toNat (ai.mk ((f.getD b.toNat (ai.mk [] [] false false)).w) ((f.getD b.toNat (ai.mk [] [] false false)).a) ((f.getD b.toNat (ai.mk [] [] false false)).D) ((f.getD b.toNat (ai.mk [] [] false false)).D))),hm,?_⟩;exact fI
 .refine Wp.exit ?_
  simp only[zx,zq,↓reduceIte];have hm:=n _ hm
  try dsimp only at hm
  refine C _ _ _ _ ?_ (j f hm);exact fI
theorem Si(b:List aa)(c:List aa)(z:Bool)(hm:zL b c=some z):Does prog 37 [lm za b,lm za c] [] (fun r X=>r=pB z/\X=[]):=by
 unfold zL at hm
 refine dW 0 26 [.tmp 4] func37 fun B=>nA fun hA=>?_
 refine qS ?_
 refine ca fun _ w _=>qS ?_
 refine cR hm fun hm=>?_
 refine Wp.skip (w _ _ (ca fun K6 n C=>?_));obtain⟨D,i,hm⟩:=zj hm
 have j:∀s,D s=some z->K6 [] []:=by
  intro s hs;have hm:=i _ hs;clear hs
  try dsimp only at hm|-
  exact n _ _ (wQ)
 clear n i;refine qS ?_;refine Wp.block ?_;obtain⟨M,o,hm⟩:=zm hm
 refine fL 0 b.length fun p=>?_
 refine Wp.forL (fun g s=>[(0,lm za b),(1,lm za c),(12,pI (b.length:Int)),(13,pI (g:Int))]) (fun g s=>[]) wF hm ?_;clear hm;intro g s F hm
 try dsimp only at hm|-
 refine qS ?_
 refine lB za hm p (fun h=>C _ _ _ _ wF (j () (o _ h))) fun k t N L l G m hm hA _ u=>?_
 refine q6 ?_;obtain⟨E,I,f,J,hm⟩:=gf hm;replace f:∀d,(List.map za c).getD g d=za E:=f za;have hA:=And.intro t (And.intro l f)
 refine dS (pl [(0,none),(1,none),(2,none),(3,none),(4,none),(5,none),(6,none),(7,none),(8,none)]) fun _ v=>v _ _ ?_
 refine cR hm fun hm=>?_
 refine Wp.skip (u _ _ (r6 ?_));exact wN () k (m _ hm)
theorem Uw(b:List ab)(c:List ab)(z:Bool)(hm:I8 b c=some z):Does prog 38 [lm zc b,lm zc c] [] (fun r X=>r=pB z/\X=[]):=by
 unfold I8 at hm
 refine dW 0 26 [.tmp 4] func38 fun B=>nA fun hA=>?_
 refine qS ?_
 refine ca fun _ w _=>qS ?_
 refine cR hm fun hm=>?_
 refine Wp.skip (w _ _ (ca fun K6 n C=>?_));obtain⟨D,i,hm⟩:=zj hm
 have j:∀s,D s=some z->K6 [] []:=by
  intro s hs;have hm:=i _ hs;clear hs
  try dsimp only at hm|-
  exact n _ _ (wQ)
 clear n i;refine qS ?_;refine Wp.block ?_;obtain⟨M,o,hm⟩:=zm hm
 refine fL 0 b.length fun p=>?_
 refine Wp.forL (fun g s=>[(0,lm zc b),(1,lm zc c),(12,pI (b.length:Int)),(13,pI (g:Int))]) (fun g s=>[]) wF hm ?_;clear hm;intro g s F hm
 try dsimp only at hm|-
 refine qS ?_
 refine lB zc hm p (fun h=>C _ _ _ _ wF (j () (o _ h))) fun k t N L l G m hm hA _ u=>?_
 refine q6 ?_;obtain⟨E,I,f,J,hm⟩:=gf hm;replace f:∀d,(List.map zc c).getD g d=zc E:=f zc;have hA:=And.intro t (And.intro l f)
 refine dS (pl [(0,none),(1,none),(2,none),(3,none),(4,none),(5,none),(6,none),(7,none),(8,none)]) fun _ v=>v _ _ ?_
 refine cR hm fun hm=>?_
 refine Wp.skip (u _ _ (r6 ?_));exact wN () k (m _ hm)
theorem UK(b:List ai)(c:List ai)(z:Bool)(hm:Jb b c=some z):Does prog 39 [lm zb b,lm zb c] [] (fun r X=>r=pB z/\X=[]):=by
 unfold Jb at hm
 refine dW 0 26 [.tmp 4] func39 fun B=>nA fun hA=>?_
 refine qS ?_
 refine ca fun _ w _=>qS ?_
 refine cR hm fun hm=>?_
 refine Wp.skip (w _ _ (ca fun K6 n C=>?_));obtain⟨D,i,hm⟩:=zj hm
 have j:∀s,D s=some z->K6 [] []:=by
  intro s hs;have hm:=i _ hs;clear hs
  try dsimp only at hm|-
  exact n _ _ (wQ)
 clear n i;refine qS ?_;refine Wp.block ?_;obtain⟨M,o,hm⟩:=zm hm
 refine fL 0 b.length fun p=>?_
 refine Wp.forL (fun g s=>[(0,lm zb b),(1,lm zb c),(12,pI (b.length:Int)),(13,pI (g:Int))]) (fun g s=>[]) wF hm ?_;clear hm;intro g s F hm
 try dsimp only at hm|-
 refine qS ?_
 refine lB zb hm p (fun h=>C _ _ _ _ wF (j () (o _ h))) fun k t N L l G m hm hA _ u=>?_
 refine q6 ?_;obtain⟨E,I,f,J,hm⟩:=gf hm;replace f:∀d,(List.map zb c).getD g d=zb E:=f zb;have hA:=And.intro t (And.intro l f)
 refine dS (pl [(0,none),(1,none),(2,none),(3,none),(4,none),(5,none),(6,none),(7,none),(8,none)]) fun _ v=>v _ _ ?_
 refine cR hm fun hm=>?_
 refine Wp.skip (u _ _ (r6 ?_));exact wN () k (m _ hm)
theorem tM(b:ah)(c:ah)(z:Bool)(hm:jm b c=some z):Does prog 11 [.agg [lm za b.y,lm zc b.h,lm za b.r,lm zb b.o],.agg [lm za c.y,lm zc c.h,lm za c.r,lm zb c.o]] [] (fun r X=>r=pB z/\X=[]):=by
 unfold jm at hm
 refine dW 0 31 [.tmp 4] func11 fun B=>nA fun hA=>?_
 refine qS ?_;obtain⟨f,j,hm⟩:=zd hm;obtain⟨i,k,hm⟩:=zX hm;obtain⟨n,l,hm⟩:=zX hm;obtain⟨t,m,hm⟩:=zX hm
 refine rS fun _ p=>?_
 refine cX (fun hg=>Si b.y c.y _ j) ?_;refine cX (g:=f) (fun hg=>Uw b.h c.h _ (k hg)) ?_;refine cX (g:=(f&&i)) (fun hg=>Si b.r c.r _ (l hg)) ?_;refine cX (g:=((f&&i)&&n)) (fun hg=>UK b.o c.o _ (m hg)) (p _ _ ?_);exact wR
theorem SC(n:ah)(t:dy)(F:List ae)(f:List ak)(z:Bool)(hm:LJ n t F f=some z):Does prog 3 [.agg [lm za n.y,lm zc n.h,lm za n.r,lm zb n.o],pS t,lm zf F,lm zK f] [] (fun r X=>r=pB z/\X=[]):=by
 unfold LJ at hm
 refine dW 0 95 [.tmp 8] func3 fun B=>nA fun hA=>?_
 refine qS ?_
 refine ca fun _ ay _=>?_
 obtain⟨aN,W,hm⟩:=zd hm;refine sX (fun hg=>SD  _ W) ?_
 refine cR hm fun hm=>?_
 refine Wp.skip (ay _ _ ?_);obtain⟨a4,Y,hm⟩:=zd hm;obtain⟨c,a5,hm⟩:=zd hm
 refine rS fun _ az=>?_
 refine cF (qN n _ Y) ?_;refine cF (Qv a4 _ a5) (az _ _ ?_);obtain⟨M,a6,hm⟩:=zd hm;refine sF (SE c F false _ a6) ?_
 refine ca fun _ a7 _=>?_
 obtain⟨aO,Z,hm⟩:=zX hm;refine sX (g:=!(decide ((M.length:Int)=0))) (fun hg=>Ii t _ (Z hg)) ?_
 refine cR hm fun hm=>?_
 refine Wp.skip (a7 _ _ ?_);obtain⟨b,a8,hm⟩:=zd hm;refine sF (lX c t M f _ a8) ?_
 refine ca fun _ a9 _=>qS ?_
 refine cR hm fun hm=>?_
 refine Wp.skip (a9 _ _ ?_);obtain⟨m,ac,hm⟩:=zd hm;refine sF (L7 c M _ ac) ?_
 refine ca fun _ ad _=>qS ?_
 refine cR hm fun hm=>?_
 refine Wp.skip (ad _ _ (qS ?_))
 refine ca fun aA N O=>?_
 obtain⟨aB,P,hm⟩:=zj hm
 have w:∀s,aB s=some z->aA [(9,.ptr 1 0),(10,lm zk b.2.1),(14,.ptr 3 0)] [.cells 26 [.top,.top,.top,.top],.cells 26 [lm za b.1.y,lm zc b.1.h,lm za b.1.r,lm zb b.1.o],.cells 26 [.top,.top,.top,.top],.cells 26 [lm za s.1,lm zc s.2.1,lm za s.2.2.1,lm zb s.2.2.2]]:=by
  intro s hs;have hm:=P _ hs;clear hs;obtain⟨i,j,k,l⟩:=s
  try dsimp only at hm|-
  refine N _ _ (ca fun aC Q af=>?_);obtain⟨ag,G,hm⟩:=zj hm
  have R:∀s,ag s=some z->aC [(9,.ptr 1 0),(14,.ptr 3 0)] [.cells 26 [.top,.top,.top,.top],.cells 26 [lm za b.1.y,lm zc b.1.h,lm za b.1.r,lm zb b.1.o],.cells 26 [.top,.top,.top,.top],.cells 26 [lm za i,lm zc j,lm za k,lm zb l]]:=by
   intro s hs;have hm:=G _ hs;clear hs
   try dsimp only at hm|-
   refine Q _ _ ?_;obtain⟨an,a0,hm⟩:=zd hm;obtain⟨ap,a1,hm⟩:=zd hm;obtain⟨aP,a2,hm⟩:=zd hm
   refine cj (plan:=pl [(0,none),(2,none),(1,some [2]),(3,some []),(4,none),(5,none)]) (by kernel_rfl) rfl (by kernel_rfl) fun aT aq=>?_
   simp only[go_sem,simprocAttr]
   try refine⟨sd,?_⟩
   refine ce (Br.callR (av:=?av33) (g:=true) (o:=?o33) [] (fun hg=>kx b.1 _ a0) si si si si si sg sg sg sg ?cont33);simp only[go_sem,simprocAttr]
   try refine⟨sd,?_⟩
   refine ce (Br.callR (av:=?av34) (g:=true) (o:=?o34) [] (fun hg=>kx (ah.mk i j k l) _ a1) si si si si si sg sg sg sg ?cont34);simp only[go_sem,simprocAttr]
   try refine⟨sd,?_⟩
   refine cD (fun hg=>tM an ap _ a2) (aq _ _ ?_);exact wR
  clear Q G;obtain⟨aQ,hm⟩:=zh hm;refine q6 ?_;refine Wp.block ?_;obtain⟨aR,a3,hm⟩:=jF hm;refine Wp.loopN (fun s=>[(9,.ptr 1 0),(14,.ptr 3 0),(81,lm zk (List.take ((IntKind.i64.wrap ((b.2.1.length:Int)-1)).toNat) b.2.1)),(82,pI ((List.take ((IntKind.i64.wrap ((b.2.1.length:Int)-1)).toNat) b.2.1).length:Int)),(83,pI s)]) (fun s=>[.cells 26 [.top,.top,.top,.top],.cells 26 [lm za b.1.y,lm zc b.1.h,lm za b.1.r,lm zb b.1.o],.cells 26 [.top,.top,.top,.top],.cells 26 [lm za i,lm zc j,lm za k,lm zb l]]) ?_ hm ?_
  .exact fI
  clear hm;intro C aI hm
  try dsimp only at hm|-
  obtain⟨aS,I,hm⟩:=il hm;have hA:=I;refine q6 ?_
  refine ca fun _ ar _=>cN hm (fun hm=>?_) fun hm=>?_
  .refine Wp.skip (ar _ _ (ca fun _ au _=>Wp.block ?_))
   obtain⟨aD,aJ,u,aK,hm⟩:=gf hm;replace u:∀d,(List.map zk (List.take ((IntKind.i64.wrap ((b.2.1.length:Int)-1)).toNat) b.2.1)).getD C.toNat d=zk aD:=u zk;have hA:=And.intro I u;refine q6 ?_;refine q6 ?_
   refine cR hm fun hm=>?_
   refine Wp.skip (au _ _ (r6 ?_));simp only[zx,zq,↓reduceIte];refine⟨IntKind.i64.wrap (C+1),hm,?_⟩;simp only[go_sem,simprocAttr,hA]
   try exact qy
  .refine Wp.exit ?_
   simp only[zx,zq,↓reduceIte];have hm:=a3 _ hm
   try dsimp only at hm
   refine af _ _ _ _ ?_ (R () hm);simp only[go_sem,simprocAttr,hA]
   try exact qy
 clear N P;obtain⟨p,aL,v,aM,hm⟩:=gf hm;replace v:∀d,(List.map zk b.2.1).getD ((IntKind.i64.wrap ((b.2.1.length:Int)-1)).toNat) d=zk p:=v zk;have hA:=v;refine q6 ?_;refine Wp.block (ca fun aE S T=>?_);obtain⟨aw,J,hm⟩:=zj hm
 have D:∀s,aw s=some z->aE [(9,.ptr 1 0),(10,lm zk b.2.1),(12,.ptr 2 0),(14,.ptr 3 0),(69,pI p),(70,pB s)] [.cells 26 [.top,.top,.top,.top],.cells 26 [lm za b.1.y,lm zc b.1.h,lm za b.1.r,lm zb b.1.o],.cells 26 [lm za m.1.y,lm zc m.1.h,lm za m.1.r,lm zb m.1.o],.cells 26 [lm za c.y,lm zc c.h,lm za c.r,lm zb c.o]]:=by
  intro aF hs;have hm:=J _ hs;clear hs
  try dsimp only at hm|-
  refine S _ _ (cN hm (fun hm=>?_) fun hm=>?_)
  .refine r6 ?_
   refine O _ _ _ _ ?_ (w (m.1.y,m.1.h,m.1.r,m.1.o) hm);simp only[go_sem,simprocAttr,hA]
   try exact qy
  .refine ca fun aG U V=>?_
   obtain⟨ax,L,hm⟩:=zj hm
   have E:∀s,ax s=some z->aG [(9,.ptr 1 0),(10,lm zk b.2.1),(14,.ptr 3 0),(74,pB s)] [.cells 26 [.top,.top,.top,.top],.cells 26 [lm za b.1.y,lm zc b.1.h,lm za b.1.r,lm zb b.1.o],.cells 26 [.top,.top,.top,.top],.cells 26 [lm za c.y,lm zc c.h,lm za c.r,lm zb c.o]]:=by
    intro aH hs;have hm:=L _ hs;clear hs
    try dsimp only at hm|-
    refine U _ _ (cT hm fun hm=>?_);refine Wp.skip (O _ _ _ _ ?_ (w (c.y,c.h,c.r,c.o) hm));simp only[go_sem,simprocAttr,hA]
    try exact qy
   clear U L;refine q6 ?_
   refine cN hm (fun hm=>?_) fun hm=>?_
   .refine Wp.skip (V _ _ _ _ ?_ (E (decide (p=1)) hm))
    simp only[go_sem,simprocAttr,hA]
    try exact qy
   .refine r6 ?_
    refine V _ _ _ _ ?_ (E (decide (p=2)) hm);simp only[go_sem,simprocAttr,hA]
    try exact qy
 clear S J;refine q6 ?_
 refine cN hm (fun hm=>?_) fun hm=>?_
 .refine Wp.skip (T _ _ _ _ ?_ (D (decide (p=0)) hm))
  simp only[go_sem,simprocAttr,hA]
  try exact qy
 .refine r6 ?_
  refine T _ _ _ _ ?_ (D (decide (p=3)) hm);simp only[go_sem,simprocAttr,hA]
  try exact qy
end Go.Proofs.YtbcjkdopkcbblaaGreatDoor
