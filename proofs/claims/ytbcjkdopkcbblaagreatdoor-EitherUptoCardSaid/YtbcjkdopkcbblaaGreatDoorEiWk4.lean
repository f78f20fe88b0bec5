/- That the code does what the models say (part 4). -/
import Derived.Test.YtbcjkdopkcbblaaGreatDoorEiWk0
import Derived.Test.YtbcjkdopkcbblaaGreatDoorEiWk1
import Derived.Test.YtbcjkdopkcbblaaGreatDoorEiWk2
import Derived.Test.YtbcjkdopkcbblaaGreatDoorEiWk3
set_option linter.unusedSimpArgs false
set_option linter.unusedVariables false
open Go.Proofs Go.Shelf
open List
namespace Go.Proofs.YtbcjkdopkcbblaaGreatDoor
open Tryz
open Go.Vc Go.Md
set_option maxRecDepth 100000
set_option maxHeartbeats 4000000
theorem OW(b:ah)(z:(List (dy×ab))×(List (dy×Int))×(List (dy×aa))×(List (dy×ai))×List aa)(hm:DU b=some z):Does prog 64 [.agg [lm za b.y,lm zc b.h,lm za b.r,lm zb b.o]] [] (fun r X=>r=.ptr 5 0/\X=[.cells 26 [.top,.top,.top,.top],.mp true (zl Dt.s zc z.1),.mp false (zl Dt.s zk z.2.1),.mp true (zl Dt.s za z.2.2.1),.mp true (zl Dt.s zb z.2.2.2.1),.cells 151 [lm za z.2.2.2.2,.mp 1,.mp 2,.mp 3,.mp 4]]):=by
 unfold DU at hm
 refine dW 6 61 [.tmp 2] func64 fun B=>nA fun hA=>?_
 refine qS ?_;obtain⟨c,a7,hm⟩:=zd hm;refine sF (Pl b.y _ a7) ?_
 refine ca fun K4 a4 aq=>?_
 obtain⟨ar,F,hm⟩:=zj hm
 have O:∀s,ar s=some z->K4 [(1,.ptr 0 0),(3,.ptr 5 0)] [.cells 26 [lm za b.y,lm zc b.h,lm za b.r,lm zb b.o],.mp true (zl Dt.s zc s.1),.mp false (zl Dt.s zk s.2),.mp true (zl Dt.s za []),.mp true (zl Dt.s zb []),.cells 151 [lm za c,.mp 1,.mp 2,.mp 3,.mp 4]]:=by
  intro s hs;have hm:=F _ hs;clear hs;obtain⟨f,g⟩:=s
  try dsimp only at hm|-
  refine a4 _ _ (ca fun K5 a5 au=>?_);obtain⟨av,G,hm⟩:=zj hm
  have P:∀s,av s=some z->K5 [(1,.ptr 0 0),(3,.ptr 5 0)] [.cells 26 [lm za b.y,lm zc b.h,lm za b.r,lm zb b.o],.mp true (zl Dt.s zc f),.mp false (zl Dt.s zk g),.mp true (zl Dt.s za s),.mp true (zl Dt.s zb []),.cells 151 [lm za c,.mp 1,.mp 2,.mp 3,.mp 4]]:=by
   intro p hs;have hm:=G _ hs;clear hs
   try dsimp only at hm|-
   refine a5 _ _ (ca fun K6 a6 aw=>?_);obtain⟨ax,I,hm⟩:=zj hm
   have Q:∀s,ax s=some z->K6 [(3,.ptr 5 0)] [.cells 26 [.top,.top,.top,.top],.mp true (zl Dt.s zc f),.mp false (zl Dt.s zk g),.mp true (zl Dt.s za p),.mp true (zl Dt.s zb s),.cells 151 [lm za c,.mp 1,.mp 2,.mp 3,.mp 4]]:=by
    intro aD hs;have hm:=I _ hs;clear hs
    try dsimp only at hm|-
    exact a6 _ _ (wQ)
   clear a6 I;refine qS ?_;refine Wp.block ?_;obtain⟨aJ,R,hm⟩:=zm hm
   refine fL 46 b.o.length fun S=>?_
   refine Wp.forL (fun l s=>[(3,.ptr 5 0),(46,lm zb b.o),(47,pI (b.o.length:Int)),(48,pI (l:Int))]) (fun l s=>[.cells 26 [lm za b.y,lm zc b.h,lm za b.r,lm zb b.o],.mp true (zl Dt.s zc f),.mp false (zl Dt.s zk g),.mp true (zl Dt.s za p),.mp true (zl Dt.s zb s),.cells 151 [lm za c,.mp 1,.mp 2,.mp 3,.mp 4]]) wF hm ?_;clear hm;intro l i ay hm
   try dsimp only at hm|-
   refine qS ?_
   refine lB zb hm S (fun h=>aw _ _ _ _ wF (Q i (R _ h))) fun T a8 t aE U aF J hm hA _ a9=>?_
   refine q6 ?_;obtain⟨aK,hm⟩:=zh hm;have u:=mR (e:=zb) dQ i t.w t;simp only[zb,map_nil]at u;have hA:=And.intro a8 (And.intro U u)
   refine dE (pl [(0,none),(1,none),(2,none),(3,none),(4,none),(5,none),(6,none),(7,some [])]) fun _ ac=>ac _ _ ?_
   refine a9 _ _ (r6 ?_);exact wN (dF i t.w t) T (J _ hm)
  clear a5 G;refine qS ?_;refine Wp.block ?_;obtain⟨aL,V,hm⟩:=zm hm
  refine fL 31 b.r.length fun W=>?_
  refine Wp.forL (fun m s=>[(1,.ptr 0 0),(3,.ptr 5 0),(31,lm za b.r),(32,pI (b.r.length:Int)),(33,pI (m:Int))]) (fun m s=>[.cells 26 [lm za b.y,lm zc b.h,lm za b.r,lm zb b.o],.mp true (zl Dt.s zc f),.mp false (zl Dt.s zk g),.mp true (zl Dt.s za s),.mp true (zl Dt.s zb []),.cells 151 [lm za c,.mp 1,.mp 2,.mp 3,.mp 4]]) wF hm ?_;clear hm;intro m j az hm
  try dsimp only at hm|-
  refine qS ?_
  refine lB za hm W (fun h=>au _ _ _ _ wF (P j (V _ h))) fun Y ad v aG Z aH L hm hA _ af=>?_
  refine q6 ?_;obtain⟨aM,hm⟩:=zh hm;have C:=mR (e:=za) dQ j v.k v;simp only[za,map_nil]at C;have hA:=And.intro ad (And.intro Z C)
  refine dE (pl [(0,none),(1,none),(2,none),(3,none),(4,none),(5,none),(6,none),(7,some [])]) fun _ ag=>ag _ _ ?_
  refine af _ _ (r6 ?_);exact wN (dF j v.k v) Y (L _ hm)
 clear a4 F;refine qS ?_;refine Wp.block ?_;obtain⟨aN,a0,hm⟩:=zm hm
 refine fL 20 b.h.length fun a1=>?_
 refine Wp.forL (fun n s=>[(1,.ptr 0 0),(3,.ptr 5 0),(20,lm zc b.h),(21,pI (b.h.length:Int)),(22,pI (n:Int))]) (fun n s=>[.cells 26 [lm za b.y,lm zc b.h,lm za b.r,lm zb b.o],.mp true (zl Dt.s zc s.1),.mp false (zl Dt.s zk s.2),.mp true (zl Dt.s za []),.mp true (zl Dt.s zb []),.cells 151 [lm za c,.mp 1,.mp 2,.mp 3,.mp 4]]) wF hm ?_;clear hm;intro n s aA hm;obtain⟨D,E⟩:=s
 try dsimp only at hm|-
 refine qS ?_
 refine lB zc hm a1 (fun h=>aq _ _ _ _ wF (O (D,E) (a0 _ h))) fun a2 aO an aI aB aC M hm hA _ ap=>?_
 refine q6 ?_;obtain⟨N,a3,hm⟩:=zd hm;refine eO [5,1,2,3,4] (Pb an c D E [] [] _ a3) ?_;refine ap _ _ (r6 ?_);exact wN (N.1,N.2) a2 (M _ hm)
theorem Pc(b:ae)(z:Int)(hm:D2 b=some z):Does prog 119 [.agg [pI b.u,pS b.i.a,pS b.i.B,pB b.i.C,pS b.z.k,pS b.z.Value,pS b.q.w,pS b.q.a,pB b.q.D,pB b.q.E]] [] (fun r X=>r=pI z/\X=[]):=by
 unfold D2 at hm
 refine dW 0 78 [.tmp 2] func119 fun B=>nA fun hA=>?_
 refine qS ?_;refine qS ?_;refine qS ?_
 refine ca fun K4 j f=>?_
 obtain⟨U,g,hm⟩:=zj hm
 have c:∀s,U s=some z->K4 [(1,.ptr 0 0),(3,.ptr 1 0),(4,pI s.1)] [.cells 61 [pI b.u,pS b.i.a,pS b.i.B,pB b.i.C,pS b.z.k,pS b.z.Value,pS b.q.w,pS b.q.a,pB b.q.D,pB b.q.E],.cells 61 [pI 0,pS s.2.1,pS s.2.2.1,pB s.2.2.2.1,pS s.2.2.2.2.1,pS s.2.2.2.2.2.1,pS s.2.2.2.2.2.2.1,pS s.2.2.2.2.2.2.2.1,pB s.2.2.2.2.2.2.2.2.1,pB s.2.2.2.2.2.2.2.2.2]]:=by
  intro s hs;have hm:=g _ hs;clear hs;obtain⟨a2,L,M,N,O,P,Q,R,S,T⟩:=s
  try dsimp only at hm|-
  refine j _ _ (qS ?_)
  refine ca fun _ V _=>qS ?_
  refine cR hm fun hm=>?_
  exact Wp.skip (V _ _ (wQ))
 clear j g;refine qS ?_;refine Wp.block (qS ?_)
 refine cN hm (fun hm=>?_) fun hm=>?_
 .obtain⟨W,l,hm⟩:=zd hm
  refine dE (pl [(0,none),(1,none),(2,none),(3,none),(4,none),(5,none),(6,some []),(7,none)]) fun _ m=>?_
  refine cD (fun hg=>Pa b.i _ l) (m _ _ ?_);refine f _ _ _ _ ?_ (c (W,b.i.a,b.i.B,b.i.C,[],[],[],[],false,false) hm);exact fB
 .refine qS ?_
  refine cN hm (fun hm=>?_) fun hm=>?_
  .obtain⟨Y,n,hm⟩:=zd hm
   refine dE (pl [(0,none),(1,none),(2,none),(3,none),(4,none),(5,none),(6,none),(7,none),(8,none),(9,none),(10,some []),(11,none)]) fun _ o=>?_
   refine cD (fun hg=>Pa (ab.mk b.i.a [] false) _ n) (o _ _ ?_);refine f _ _ _ _ ?_ (c (Y,b.i.a,[],false,[],[],[],[],false,false) hm);exact fB
  .refine qS ?_
   refine cN hm (fun hm=>?_) fun hm=>?_
   .obtain⟨Z,p,hm⟩:=zd hm
    refine dE (pl [(0,none),(1,none),(2,none),(3,none),(4,none),(5,none),(6,some []),(7,none)]) fun _ t=>?_
    refine cD (fun hg=>Ph b.z _ p) (t _ _ ?_);refine f _ _ _ _ ?_ (c (Z,[],[],false,b.z.k,b.z.Value,[],[],false,false) hm);exact fB
   .refine qS ?_
    refine cN hm (fun hm=>?_) fun hm=>?_
    .obtain⟨a0,v,hm⟩:=zd hm
     refine dE (pl [(0,none),(1,none),(2,none),(3,none),(4,none),(5,none),(6,none),(7,none),(8,none),(9,none),(10,some []),(11,none)]) fun _ F=>?_
     refine cD (fun hg=>Ph (aa.mk b.z.k []) _ v) (F _ _ ?_);refine f _ _ _ _ ?_ (c (a0,[],[],false,b.z.k,[],[],[],false,false) hm);exact fB
    .refine qS ?_
     refine cN hm (fun hm=>?_) fun hm=>?_
     .obtain⟨a1,G,hm⟩:=zd hm
      refine dE (pl [(0,none),(1,none),(2,none),(3,none),(4,none),(5,none),(6,some []),(7,none)]) fun _ I=>?_
      refine cD (fun hg=>RZ b.q _ G) (I _ _ ?_);refine f _ _ _ _ ?_ (c (a1,[],[],false,[],[],b.q.w,b.q.a,b.q.D,b.q.E) hm);exact fB
     .refine qS ?_
      refine cT hm fun hm=>?_
      refine qS ?_;obtain⟨a3,J,hm⟩:=zd hm;refine sX (fun hg=>DW b.q.w _ J) ?_
      refine cN hm (fun hm=>?_) fun hm=>?_
      .refine qR ?_
       refine f _ _ _ _ ?_ (c (5,[],[],false,[],[],b.q.w,[],false,false) hm);exact fB
      .refine Wp.skip (f _ _ _ _ ?_ (c (0,[],[],false,[],[],b.q.w,[],false,false) hm))
       exact fB
theorem Uf(b:dy)(c:List aa)(f:List (dy×ab))(g:List (dy×Int))(i:List (dy×aa))(j:List (dy×ai))(z:Bool)(hm:Jf b c f g i j=some z):Does prog 198 [pS b,.ptr 0 0] [.cells 108 [.ptr 1 0],.cells 151 [lm za c,.mp 2,.mp 3,.mp 4,.mp 5],.mp true (zl Dt.s zc f),.mp false (zl Dt.s zk g),.mp true (zl Dt.s za i),.mp true (zl Dt.s zb j)] (fun r X=>r=pB z/\X=[.cells 108 [.ptr 1 0],.cells 151 [lm za c,.mp 2,.mp 3,.mp 4,.mp 5],.mp true (zl Dt.s zc f),.mp false (zl Dt.s zk g),.mp true (zl Dt.s za i),.mp true (zl Dt.s zb j)]):=by
 unfold Jf at hm
 refine dW 6 17 [.tmp 3] func198 fun B=>nA fun hA=>?_
 refine qS ?_;obtain⟨n,m,hm⟩:=il hm;have k:=iC (e:=zc) dQ f b (ab.mk [] [] false);have l:=iD (e:=zc) dQ f b;simp only[m,zc,map_nil]at k l;have hA:=And.intro k l;refine q6 ?_;exact wQ
theorem Th(c:dy)(b:List aa)(f:List (dy×ab))(i:List (dy×Int))(j:List (dy×aa))(k:List (dy×ai))(z:Bool)(hm:IF c b f i j k=some z):Does prog 75 [pS c,.fn 198 [.ptr 0 0]] [.cells 108 [.ptr 1 0],.cells 151 [lm za b,.mp 2,.mp 3,.mp 4,.mp 5],.mp true (zl Dt.s zc f),.mp false (zl Dt.s zk i),.mp true (zl Dt.s za j),.mp true (zl Dt.s zb k)] (fun r X=>r=pB z/\X=[.cells 108 [.ptr 1 0],.cells 151 [lm za b,.mp 2,.mp 3,.mp 4,.mp 5],.mp true (zl Dt.s zc f),.mp false (zl Dt.s zk i),.mp true (zl Dt.s za j),.mp true (zl Dt.s zb k)]):=by
 unfold IF at hm
 refine dW 6 24 [.tmp 4] func75 fun B=>nA fun hA=>?_
 refine qS ?_
 refine ca fun K2 E F=>?_
 obtain⟨G,n,hm⟩:=zj hm
 have t:∀s,G s=some z->K2 [] [.cells 108 [.ptr 1 0],.cells 151 [lm za b,.mp 2,.mp 3,.mp 4,.mp 5],.mp true (zl Dt.s zc f),.mp false (zl Dt.s zk i),.mp true (zl Dt.s za j),.mp true (zl Dt.s zb k)]:=by
  intro s hs;have hm:=n _ hs;clear hs
  try dsimp only at hm|-
  exact E _ _ (wQ)
 clear E n;refine qS ?_;refine Wp.block ?_;obtain⟨P,u,hm⟩:=zm hm
 refine fL 0 c.length fun v=>?_
 refine Wp.forL (fun m s=>[(0,pS c),(1,.fn 198 [.ptr 0 0]),(5,pI (m:Int))]) (fun m s=>[.cells 108 [.ptr 1 0],.cells 151 [lm za b,.mp 2,.mp 3,.mp 4,.mp 5],.mp true (zl Dt.s zc f),.mp false (zl Dt.s zk i),.mp true (zl Dt.s za j),.mp true (zl Dt.s zb k)]) wF hm ?_;clear hm;intro m s N hm
 try dsimp only at hm|-
 refine ca fun _ I _=>qS ?_
 refine Wp.cond rfl ⟨⟩ (fun o=>?_) fun o=>Wp.exit (F _ _ _ _ wF (t () (u _ (p8 hm (u2 o)))))
 have l:=tO o;have J:=qc l v;obtain⟨L,O,w,C,p,hm⟩:=p9 hm l;clear w;refine Wp.skip ?_;simp only[zx];refine I _ _ (ca fun _ M _=>Wp.block ?_);obtain⟨Q,hm⟩:=zh hm;obtain⟨R,D,hm⟩:=zX hm;have hA:=And.intro J C;refine sQ (g:=decide ((L.toNat:Int)=47)) [0,1,2,3,4,5] (fun hg=>Uf (List.take m c) b f i j k _ (D hg)) ?_
 refine cR hm fun hm=>?_
 refine Wp.skip (M _ _ (r6 ?_));exact wN () l (p _ hm)
theorem Uj(b:dy)(c:List aa)(g:List (dy×ab))(f:List (dy×Int))(i:List (dy×aa))(j:List (dy×ai))(z:Bool)(hm:I4 b c g f i j=some z):Does prog 157 [.ptr 0 0,pS b] [.cells 151 [lm za c,.mp 1,.mp 2,.mp 3,.mp 4],.mp true (zl Dt.s zc g),.mp false (zl Dt.s zk f),.mp true (zl Dt.s za i),.mp true (zl Dt.s zb j)] (fun r X=>r=pB z/\X=[.cells 151 [lm za c,.mp 1,.mp 2,.mp 3,.mp 4],.mp true (zl Dt.s zc g),.mp false (zl Dt.s zk f),.mp true (zl Dt.s za i),.mp true (zl Dt.s zb j)]):=by
 unfold I4 at hm
 refine dW 5 20 [.tmp 4] func157 fun B=>nA fun hA=>?_
 refine qS ?_;obtain⟨o,m,hm⟩:=zd hm;refine sQ [5,0,1,2,3,4] (fun hg=>Th b c g f i j _ m) ?_;obtain⟨p,n,hm⟩:=il hm;have k:=iC (e:=zk) dQ f b 0;have l:=iD (e:=zk) dQ f b;simp only[n,zk,map_nil]at k l;have hA:=And.intro k l;exact wQ
theorem R9(b:dy)(c:List (dy×ab))(z:Bool)(hm:Hc b c=some z):Does prog 158 [.mp 0,pS b] [.mp true (zl Dt.s zc c)] (fun r X=>r=pB z/\X=[.mp true (zl Dt.s zc c)]):=by
 unfold Hc at hm
 refine dW 1 15 [.tmp 4] func158 fun B=>nA fun hA=>?_
 refine qS ?_;obtain⟨j,i,hm⟩:=il hm;have f:=iC (e:=zc) dQ c b (ab.mk [] [] false);have g:=iD (e:=zc) dQ c b;simp only[i,zc,map_nil]at f g;have hA:=And.intro f g;refine q6 ?_;exact wQ
theorem Sg(b:dy)(c:List (dy×aa))(z:Bool)(hm:G6 b c=some z):Does prog 159 [.mp 0,pS b] [.mp true (zl Dt.s za c)] (fun r X=>r=pB z/\X=[.mp true (zl Dt.s za c)]):=by
 unfold G6 at hm
 refine dW 1 15 [.tmp 4] func159 fun B=>nA fun hA=>?_
 refine qS ?_;obtain⟨j,i,hm⟩:=il hm;have f:=iC (e:=za) dQ c b (aa.mk [] []);have g:=iD (e:=za) dQ c b;simp only[i,za,map_nil]at f g;have hA:=And.intro f g;refine q6 ?_;exact wQ
theorem Sf(b:dy)(c:List (dy×ai))(z:Bool)(hm:G5 b c=some z):Does prog 160 [.mp 0,pS b] [.mp true (zl Dt.s zb c)] (fun r X=>r=pB z/\X=[.mp true (zl Dt.s zb c)]):=by
 unfold G5 at hm
 refine dW 1 15 [.tmp 4] func160 fun B=>nA fun hA=>?_
 refine qS ?_;obtain⟨j,i,hm⟩:=il hm;have f:=iC (e:=zb) dQ c b (ai.mk [] [] false false);have g:=iD (e:=zb) dQ c b;simp only[i,zb,map_nil]at f g;have hA:=And.intro f g;refine q6 ?_;exact wQ
theorem R3(b:ae)(f:List aa)(j:List (dy×ab))(p:List (dy×Int))(l:List (dy×aa))(m:List (dy×ai))(z:Int)(hm:D6 b f j p l m=some z):Does prog 120 [.ptr 0 0,.agg [pI b.u,pS b.i.a,pS b.i.B,pB b.i.C,pS b.z.k,pS b.z.Value,pS b.q.w,pS b.q.a,pB b.q.D,pB b.q.E]] [.cells 151 [lm za f,.mp 1,.mp 2,.mp 3,.mp 4],.mp true (zl Dt.s zc j),.mp false (zl Dt.s zk p),.mp true (zl Dt.s za l),.mp true (zl Dt.s zb m)] (fun r X=>r=pI z/\X=[.cells 151 [lm za f,.mp 1,.mp 2,.mp 3,.mp 4],.mp true (zl Dt.s zc j),.mp false (zl Dt.s zk p),.mp true (zl Dt.s za l),.mp true (zl Dt.s zb m)]):=by
 unfold D6 at hm
 refine dW 5 97 [.tmp 4] func120 fun B=>nA fun hA=>?_
 refine qS ?_;refine qS ?_
 refine ca fun K3 L n=>?_
 obtain⟨a0,t,hm⟩:=zj hm
 have c:∀s,a0 s=some z->K3 [(5,pB s.1),(6,pI s.2.1),(7,pI s.2.2)] [.cells 151 [lm za f,.mp 1,.mp 2,.mp 3,.mp 4],.mp true (zl Dt.s zc j),.mp false (zl Dt.s zk p),.mp true (zl Dt.s za l),.mp true (zl Dt.s zb m)]:=by
  intro s hs;have hm:=t _ hs;clear hs;obtain⟨W,Y,Z⟩:=s
  try dsimp only at hm|-
  refine L _ _ (ca fun _ a1 _=>qS ?_)
  refine cR hm fun hm=>?_
  refine Wp.skip (a1 _ _ (ca fun _ a2 _=>qS ?_))
  refine cR hm fun hm=>?_
  exact Wp.skip (a2 _ _ (wQ))
 clear L t;refine qS ?_;refine Wp.block (qS ?_)
 refine cN hm (fun hm=>?_) fun hm=>?_
 .refine ca fun _ M _=>?_
  obtain⟨a5,v,hm⟩:=zd hm;refine sQ [0,1,2,3,4] (fun hg=>Uj b.i.a f j p l m _ v) ?_
  refine cR hm fun hm=>?_
  refine Wp.skip (M _ _ ?_);obtain⟨a6,F,hm⟩:=zd hm
  refine cj (plan:=pl [(0,none),(1,none),(2,none),(3,none),(4,none),(5,none),(6,none),(7,some [])]) (by kernel_rfl) rfl (by kernel_rfl) fun a9 N=>?_
  simp only[go_sem,simprocAttr]
  try refine⟨sd,?_⟩
  refine ce (Br.callR (av:=?av22) (g:=true) (o:=?o22) [1] (fun hg=>R9 b.i.a j _ F) si si si si si sg sg sg sg ?cont22);simp only[go_sem,simprocAttr];refine kA N ?_
  refine cN hm (fun hm=>?_) fun hm=>?_
  .refine qR ?_
   refine n _ _ _ _ ?_ (c (false,IntKind.i64.wrap ((j.length:Int)+1),2000) hm);exact fB
  .refine Wp.skip (n _ _ _ _ ?_ (c (false,0,1) hm))
   exact fB
 .refine qS ?_
  refine cN hm (fun hm=>?_) fun hm=>?_
  .obtain⟨a3,O,hm⟩:=zd hm
   refine cz (plan:=pl [(0,none),(1,none),(2,none),(3,none),(4,none),(5,none),(6,none),(7,some []),(8,none)]) (by kernel_rfl) rfl (by kernel_rfl) fun ac P=>?_
   simp only[go_sem,simprocAttr]
   try refine⟨sd,?_⟩
   refine ce (Br.callR (av:=?av28) (g:=true) (o:=?o28) [1] (fun hg=>R9 b.i.a j _ O) si si si si si sg sg sg sg ?cont28);simp only[go_sem,simprocAttr];refine kA P ?_;refine n _ _ _ _ ?_ (c (a3,0,1) hm);exact fB
  .refine qS ?_
   refine cN hm (fun hm=>?_) fun hm=>?_
   .obtain⟨a7,G,hm⟩:=zd hm
    refine cj (plan:=pl [(0,none),(1,none),(2,none),(3,none),(4,none),(5,none),(6,none),(7,some [])]) (by kernel_rfl) rfl (by kernel_rfl) fun ad Q=>?_
    simp only[go_sem,simprocAttr]
    try refine⟨sd,?_⟩
    refine ce (Br.callR (av:=?av32) (g:=true) (o:=?o32) [3] (fun hg=>Sg b.z.k l _ G) si si si si si sg sg sg sg ?cont32);simp only[go_sem,simprocAttr];refine kA Q ?_
    refine cN hm (fun hm=>?_) fun hm=>?_
    .refine qR ?_
     refine n _ _ _ _ ?_ (c (false,IntKind.i64.wrap ((l.length:Int)+1),2000) hm);exact fB
    .refine Wp.skip (n _ _ _ _ ?_ (c (false,0,1) hm))
     exact fB
   .refine qS ?_
    refine cN hm (fun hm=>?_) fun hm=>?_
    .obtain⟨a4,R,hm⟩:=zd hm
     refine cz (plan:=pl [(0,none),(1,none),(2,none),(3,none),(4,none),(5,none),(6,none),(7,some []),(8,none)]) (by kernel_rfl) rfl (by kernel_rfl) fun af S=>?_
     simp only[go_sem,simprocAttr]
     try refine⟨sd,?_⟩
     refine ce (Br.callR (av:=?av38) (g:=true) (o:=?o38) [3] (fun hg=>Sg b.z.k l _ R) si si si si si sg sg sg sg ?cont38);simp only[go_sem,simprocAttr];refine kA S ?_;refine n _ _ _ _ ?_ (c (a4,0,1) hm);exact fB
    .refine qS ?_
     refine cN hm (fun hm=>?_) fun hm=>?_
     .obtain⟨a8,I,hm⟩:=zd hm
      refine cj (plan:=pl [(0,none),(1,none),(2,none),(3,none),(4,none),(5,none),(6,none),(7,some [])]) (by kernel_rfl) rfl (by kernel_rfl) fun ag T=>?_
      simp only[go_sem,simprocAttr]
      try refine⟨sd,?_⟩
      refine ce (Br.callR (av:=?av42) (g:=true) (o:=?o42) [4] (fun hg=>Sf b.q.w m _ I) si si si si si sg sg sg sg ?cont42);simp only[go_sem,simprocAttr];refine kA T ?_
      refine cN hm (fun hm=>?_) fun hm=>?_
      .refine qR ?_
       refine n _ _ _ _ ?_ (c (false,IntKind.i64.wrap ((m.length:Int)+1),100) hm);exact fB
      .refine Wp.skip (n _ _ _ _ ?_ (c (false,0,1) hm))
       exact fB
     .refine qS ?_
      refine cN hm (fun hm=>?_) fun hm=>?_
      .obtain⟨U,J,hm⟩:=zd hm
       refine cz (plan:=pl [(0,none),(1,none),(2,none),(3,none),(4,none),(5,none),(6,none),(7,some []),(8,none)]) (by kernel_rfl) rfl (by kernel_rfl) fun an V=>?_
       simp only[go_sem,simprocAttr]
       try refine⟨sd,?_⟩
       refine ce (Br.callR (av:=?av48) (g:=true) (o:=?o48) [4] (fun hg=>Sf b.q.w m _ J) si si si si si sg sg sg sg ?cont48);simp only[go_sem,simprocAttr];refine kA V ?_;refine n _ _ _ _ ?_ (c (U,0,1) hm);exact fB
      .refine Wp.skip (n _ _ _ _ ?_ (c (false,0,1) hm))
       exact fB
theorem Ua(b:dy)(c:List aa)(f:List (dy×ab))(j:List (dy×Int))(g:List (dy×aa))(i:List (dy×ai))(z:(List (dy×ab))×(List (dy×Int)))(hm:I6 b c f j g i=some z):Does prog 121 [.ptr 0 0,pS b] [.cells 151 [lm za c,.mp 1,.mp 2,.mp 3,.mp 4],.mp true (zl Dt.s zc f),.mp false (zl Dt.s zk j),.mp true (zl Dt.s za g),.mp true (zl Dt.s zb i)] (fun r X=>r=.tup []/\X=[.cells 151 [lm za c,.mp 1,.mp 2,.mp 3,.mp 4],.mp true (zl Dt.s zc z.1),.mp false (zl Dt.s zk z.2),.mp true (zl Dt.s za g),.mp true (zl Dt.s zb i)]):=by
 unfold I6 at hm
 refine dW 5 12 [] func121 fun B=>nA fun hA=>?_
 have k:=Cc (e:=zc) dQ f b;have hA:=k;refine q6 ?_;obtain⟨m,l,hm⟩:=zd hm;refine eO [0,1,2,3,4] (R2 b (-1) c (fC f b) j g i _ l) ?_;refine vB ?_;cases hm;exact fB
theorem RS(b:ae)(c:List aa)(l:List (dy×ab))(m:List (dy×Int))(f:List (dy×aa))(g:List (dy×ai))(z:Int×(List (dy×ab))×(List (dy×Int))×(List (dy×aa))×(List (dy×ai)))(hm:D3 b c l m f g=some z):Does prog 82 [.ptr 0 0,.agg [pI b.u,pS b.i.a,pS b.i.B,pB b.i.C,pS b.z.k,pS b.z.Value,pS b.q.w,pS b.q.a,pB b.q.D,pB b.q.E]] [.cells 151 [lm za c,.mp 1,.mp 2,.mp 3,.mp 4],.mp true (zl Dt.s zc l),.mp false (zl Dt.s zk m),.mp true (zl Dt.s za f),.mp true (zl Dt.s zb g)] (fun r X=>r=pI z.1/\X=[.cells 151 [lm za c,.mp 1,.mp 2,.mp 3,.mp 4],.mp true (zl Dt.s zc z.2.1),.mp false (zl Dt.s zk z.2.2.1),.mp true (zl Dt.s za z.2.2.2.1),.mp true (zl Dt.s zb z.2.2.2.2)]):=by
 unfold D3 at hm
 refine dW 5 73 [.tmp 4] func82 fun B=>nA fun hA=>?_
 refine qS ?_
 refine ca fun _ O _=>?_
 obtain⟨T,F,hm⟩:=zd hm;refine sX (fun hg=>Pc b _ F) ?_;refine qS ?_
 refine cR hm fun hm=>?_
 refine Wp.skip (O _ _ (ca fun _ P _=>?_));obtain⟨U,G,hm⟩:=zd hm;refine sQ [0,1,2,3,4] (fun hg=>R3 b c l m f g _ G) ?_;refine qS ?_
 refine cR hm fun hm=>?_
 refine Wp.skip (P _ _ (ca fun _ j _=>qS ?_));refine Wp.block (qS ?_)
 refine cN hm (fun hm=>?_) fun hm=>?_
 .obtain⟨V,I,hm⟩:=zd hm
  refine eO [0,1,2,3,4] (Pb b.i c l m f g _ I) ?_;exact j _ _ (wQ)
 .refine qS ?_
  refine cN hm (fun hm=>?_) fun hm=>?_
  .obtain⟨Q,p,hm⟩:=zd hm
   refine eO [0,1,2,3,4] (Ua b.i.a c l m f g _ p) ?_;exact j _ _ (wQ)
  .refine qS ?_
   refine cN hm (fun hm=>?_) fun hm=>?_
   .obtain⟨R,hm⟩:=zh hm
    have n:=mR (e:=za) dQ f b.z.k b.z;simp only[za,map_nil]at n;have hA:=n
    refine dE (pl [(0,none),(1,none),(2,none),(3,none),(4,none),(5,none),(6,none),(7,none),(8,none),(9,some [])]) fun _ J=>J _ _ ?_
    exact j _ _ (wQ)
   .refine qS ?_
    refine cN hm (fun hm=>?_) fun hm=>?_
    .have t:=Cc (e:=za) dQ f b.z.k
     have hA:=t
     refine dE (pl [(0,none),(1,none),(2,none),(3,none),(4,none),(5,none),(6,none),(7,some [])]) fun _ L=>L _ _ ?_
     exact j _ _ (wQ)
    .refine qS ?_
     refine cN hm (fun hm=>?_) fun hm=>?_
     .obtain⟨S,hm⟩:=zh hm
      have o:=mR (e:=zb) dQ g b.q.w b.q;simp only[zb,map_nil]at o;have hA:=o
      refine dE (pl [(0,none),(1,none),(2,none),(3,none),(4,none),(5,none),(6,none),(7,none),(8,none),(9,some [])]) fun _ M=>M _ _ ?_
      exact j _ _ (wQ)
     .refine qS ?_
      refine cN hm (fun hm=>?_) fun hm=>?_
      .have v:=Cc (e:=zb) dQ g b.q.w
       have hA:=v
       refine dE (pl [(0,none),(1,none),(2,none),(3,none),(4,none),(5,none),(6,none),(7,some [])]) fun _ N=>N _ _ ?_
       exact j _ _ (wQ)
      .exact Wp.skip (j _ _ (wQ))
theorem U0(b:List (dy×ab))(z:Unit)(hm:zO b=some z):Does prog 149 [.mp 0] [.mp true (zl Dt.s zc b)] (fun r X=>r=.fn 185 [.ptr 1 0]/\X=[.mp true (zl Dt.s zc b),.cells 43 [.mp 0]]):=by
 unfold zO at hm
 refine dW 2 4 [.tmp 2] func149 fun B=>nA fun hA=>?_
 refine qS ?_;exact wQ
theorem Ul(m1:List (dy×ab))(z:List dy)(hm:R4 m1=some z):Does prog 148 [.fn 185 [.ptr 0 0]] [.cells 43 [.mp 1],.mp true (zl Dt.s zc m1)] (fun r X=>r=lm dB z/\X=[.cells 43 [.mp 1],.mp true (zl Dt.s zc m1)]):=by
 cases hm;exact cn Tryz.sortedL Tryz.keys185L ⟨_,func148,by kernel_rfl,by kernel_rfl⟩ (fun m=>⟨fun blk off cap ss W hH hblk hsz=>callsIn_wide.2 (AnyM.slices_Sort_string Tryz.sortL blk off cap ss W hH hblk hsz),fun p cap W=>callsIn_wide.2 (AnyM.slices_Sort_string_none Tryz.sortL p cap W)⟩) (enters_of func84 (by kernel_rfl) rfl) (enters_of func185 (by kernel_rfl) rfl) rfl 43 true zc m1
theorem Ug(b:List (dy×ab))(z:List ab)(hm:My b=some z):Does prog 109 [.mp 0] [.mp true (zl Dt.s zc b)] (fun r X=>r=lm zc z/\X=[.mp true (zl Dt.s zc b)]):=by
 unfold My at hm
 refine dW 1 22 [.tmp 2] func109 fun B=>nA fun hA=>?_
 refine qS ?_;refine qS ?_
 refine ca fun K3 p G=>?_
 obtain⟨I,g,hm⟩:=zj hm
 have m:∀s,I s=some z->K3 [(3,.buf 2)] [.mp true (zl Dt.s zc b),.cells 43 [.top],.buf 57 3 (List.map zc s)]:=by
  intro M hs;have hm:=g _ hs;clear hs
  try dsimp only at hm|-
  exact p _ _ (wQ)
 clear p g;obtain⟨R,u,hm⟩:=zd hm;obtain⟨i,v,hm⟩:=zd hm
 refine rS fun _ J=>?_
 refine cO [0] (U0 b _ u) ?_;refine cQ [1,0] (fun hg=>Ul b _ v) (J _ _ ?_);refine Wp.block (cd 3 57 3 rfl ?_);simp only[go_sem,simprocAttr];obtain⟨S,w,hm⟩:=zm hm
 refine fL 8 i.length fun n=>?_
 refine Wp.forL (fun j s=>[(0,.mp 0),(3,.buf 2),(8,lm dB i),(9,pI (i.length:Int)),(10,pI (j:Int))]) (fun j s=>[.mp true (zl Dt.s zc b),.cells 43 [.mp 0],.buf 57 3 (List.map zc s)]) wF hm ?_;clear hm;intro j k N hm
 try dsimp only at hm|-
 refine qS ?_
 refine lB dB hm n (fun h=>G _ _ _ _ wF (m k (w _ h))) fun C L t O o P l hm hA _ D=>?_
 refine q6 ?_;obtain⟨E,F,hm⟩:=il hm;have c:=iC (e:=zc) dQ b t (ab.mk [] [] false);have f:=iD (e:=zc) dQ b t;simp only[F,zc,map_nil]at c f;obtain⟨Q,hm⟩:=zh hm;have hA:=And.intro L (And.intro o (And.intro c f));refine r6 ?_;refine D _ _ (r6 ?_);exact wN (k++[(E.getD (ab.mk [] [] false))]) C (l _ hm)
theorem UZ(b:List (dy×aa))(z:Unit)(hm:zC b=some z):Does prog 150 [.mp 0] [.mp true (zl Dt.s za b)] (fun r X=>r=.fn 186 [.ptr 1 0]/\X=[.mp true (zl Dt.s za b),.cells 149 [.mp 0]]):=by
 unfold zC at hm
 refine dW 2 4 [.tmp 2] func150 fun B=>nA fun hA=>?_
 refine qS ?_;exact wQ
theorem Um(m1:List (dy×aa))(z:List dy)(hm:R5 m1=some z):Does prog 148 [.fn 186 [.ptr 0 0]] [.cells 149 [.mp 1],.mp true (zl Dt.s za m1)] (fun r X=>r=lm dB z/\X=[.cells 149 [.mp 1],.mp true (zl Dt.s za m1)]):=by
 cases hm;exact cn Tryz.sortedL Tryz.keys186L ⟨_,func148,by kernel_rfl,by kernel_rfl⟩ (fun m=>⟨fun blk off cap ss W hH hblk hsz=>callsIn_wide.2 (AnyM.slices_Sort_string Tryz.sortL blk off cap ss W hH hblk hsz),fun p cap W=>callsIn_wide.2 (AnyM.slices_Sort_string_none Tryz.sortL p cap W)⟩) (enters_of func84 (by kernel_rfl) rfl) (enters_of func186 (by kernel_rfl) rfl) rfl 149 true za m1
theorem Up(b:List (dy×aa))(z:List aa)(hm:Mw b=some z):Does prog 110 [.mp 0] [.mp true (zl Dt.s za b)] (fun r X=>r=lm za z/\X=[.mp true (zl Dt.s za b)]):=by
 unfold Mw at hm
 refine dW 1 22 [.tmp 2] func110 fun B=>nA fun hA=>?_
 refine qS ?_;refine qS ?_
 refine ca fun K3 p G=>?_
 obtain⟨I,g,hm⟩:=zj hm
 have m:∀s,I s=some z->K3 [(3,.buf 2)] [.mp true (zl Dt.s za b),.cells 149 [.top],.buf 50 2 (List.map za s)]:=by
  intro M hs;have hm:=g _ hs;clear hs
  try dsimp only at hm|-
  exact p _ _ (wQ)
 clear p g;obtain⟨R,u,hm⟩:=zd hm;obtain⟨i,v,hm⟩:=zd hm
 refine rS fun _ J=>?_
 refine cO [0] (UZ b _ u) ?_;refine cQ [1,0] (fun hg=>Um b _ v) (J _ _ ?_);refine Wp.block (cd 3 50 2 rfl ?_);simp only[go_sem,simprocAttr];obtain⟨S,w,hm⟩:=zm hm
 refine fL 8 i.length fun n=>?_
 refine Wp.forL (fun j s=>[(0,.mp 0),(3,.buf 2),(8,lm dB i),(9,pI (i.length:Int)),(10,pI (j:Int))]) (fun j s=>[.mp true (zl Dt.s za b),.cells 149 [.mp 0],.buf 50 2 (List.map za s)]) wF hm ?_;clear hm;intro j k N hm
 try dsimp only at hm|-
 refine qS ?_
 refine lB dB hm n (fun h=>G _ _ _ _ wF (m k (w _ h))) fun C L t O o P l hm hA _ D=>?_
 refine q6 ?_;obtain⟨E,F,hm⟩:=il hm;have c:=iC (e:=za) dQ b t (aa.mk [] []);have f:=iD (e:=za) dQ b t;simp only[F,za,map_nil]at c f;obtain⟨Q,hm⟩:=zh hm;have hA:=And.intro L (And.intro o (And.intro c f));refine r6 ?_;refine D _ _ (r6 ?_);exact wN (k++[(E.getD (aa.mk [] []))]) C (l _ hm)
theorem UY(b:List (dy×ai))(z:Unit)(hm:zD b=some z):Does prog 151 [.mp 0] [.mp true (zl Dt.s zb b)] (fun r X=>r=.fn 187 [.ptr 1 0]/\X=[.mp true (zl Dt.s zb b),.cells 45 [.mp 0]]):=by
 unfold zD at hm
 refine dW 2 4 [.tmp 2] func151 fun B=>nA fun hA=>?_
 refine qS ?_;exact wQ
theorem Un(m1:List (dy×ai))(z:List dy)(hm:R6 m1=some z):Does prog 148 [.fn 187 [.ptr 0 0]] [.cells 45 [.mp 1],.mp true (zl Dt.s zb m1)] (fun r X=>r=lm dB z/\X=[.cells 45 [.mp 1],.mp true (zl Dt.s zb m1)]):=by
 cases hm;exact cn Tryz.sortedL Tryz.keys187L ⟨_,func148,by kernel_rfl,by kernel_rfl⟩ (fun m=>⟨fun blk off cap ss W hH hblk hsz=>callsIn_wide.2 (AnyM.slices_Sort_string Tryz.sortL blk off cap ss W hH hblk hsz),fun p cap W=>callsIn_wide.2 (AnyM.slices_Sort_string_none Tryz.sortL p cap W)⟩) (enters_of func84 (by kernel_rfl) rfl) (enters_of func187 (by kernel_rfl) rfl) rfl 45 true zb m1
theorem Uo(b:List (dy×ai))(z:List ai)(hm:Mv b=some z):Does prog 111 [.mp 0] [.mp true (zl Dt.s zb b)] (fun r X=>r=lm zb z/\X=[.mp true (zl Dt.s zb b)]):=by
 unfold Mv at hm
 refine dW 1 22 [.tmp 2] func111 fun B=>nA fun hA=>?_
 refine qS ?_;refine qS ?_
 refine ca fun K3 p G=>?_
 obtain⟨I,g,hm⟩:=zj hm
 have m:∀s,I s=some z->K3 [(3,.buf 2)] [.mp true (zl Dt.s zb b),.cells 45 [.top],.buf 59 4 (List.map zb s)]:=by
  intro M hs;have hm:=g _ hs;clear hs
  try dsimp only at hm|-
  exact p _ _ (wQ)
 clear p g;obtain⟨R,u,hm⟩:=zd hm;obtain⟨i,v,hm⟩:=zd hm
 refine rS fun _ J=>?_
 refine cO [0] (UY b _ u) ?_;refine cQ [1,0] (fun hg=>Un b _ v) (J _ _ ?_);refine Wp.block (cd 3 59 4 rfl ?_);simp only[go_sem,simprocAttr];obtain⟨S,w,hm⟩:=zm hm
 refine fL 8 i.length fun n=>?_
 refine Wp.forL (fun j s=>[(0,.mp 0),(3,.buf 2),(8,lm dB i),(9,pI (i.length:Int)),(10,pI (j:Int))]) (fun j s=>[.mp true (zl Dt.s zb b),.cells 45 [.mp 0],.buf 59 4 (List.map zb s)]) wF hm ?_;clear hm;intro j k N hm
 try dsimp only at hm|-
 refine qS ?_
 refine lB dB hm n (fun h=>G _ _ _ _ wF (m k (w _ h))) fun C L t O o P l hm hA _ D=>?_
 refine q6 ?_;obtain⟨E,F,hm⟩:=il hm;have c:=iC (e:=zb) dQ b t (ai.mk [] [] false false);have f:=iD (e:=zb) dQ b t;simp only[F,zb,map_nil]at c f;obtain⟨Q,hm⟩:=zh hm;have hA:=And.intro L (And.intro o (And.intro c f));refine r6 ?_;refine D _ _ (r6 ?_);exact wN (k++[(E.getD (ai.mk [] [] false false))]) C (l _ hm)
theorem Pg(b:List aa)(c:List (dy×ab))(j:List (dy×Int))(f:List (dy×aa))(i:List (dy×ai))(z:ah)(hm:CE b c j f i=some z):Does prog 66 [.ptr 0 0] [.cells 151 [lm za b,.mp 1,.mp 2,.mp 3,.mp 4],.mp true (zl Dt.s zc c),.mp false (zl Dt.s zk j),.mp true (zl Dt.s za f),.mp true (zl Dt.s zb i)] (fun r X=>r=.agg [lm za z.y,lm zc z.h,lm za z.r,lm zb z.o]/\X=[.cells 151 [lm za b,.mp 1,.mp 2,.mp 3,.mp 4],.mp true (zl Dt.s zc c),.mp false (zl Dt.s zk j),.mp true (zl Dt.s za f),.mp true (zl Dt.s zb i)]):=by
 unfold CE at hm
 refine dW 5 24 [.cell 2 26] func66 fun B=>nA fun hA=>?_
 refine qS ?_;obtain⟨t,k,hm⟩:=zd hm;obtain⟨u,l,hm⟩:=zd hm;obtain⟨v,m,hm⟩:=zd hm;obtain⟨w,n,hm⟩:=zd hm
 refine cj (plan:=pl [(0,none),(1,none),(2,none),(3,none),(5,none),(6,none),(7,none),(8,none),(10,none),(11,none),(12,none),(13,none),(15,none),(16,none),(17,none),(18,none),(4,some [5,6,7,8,10,11,12,13,15,16,17,18]),(9,some [10,11,12,13,15,16,17,18]),(14,some [15,16,17,18]),(19,some []),(20,none),(21,some [])]) (by kernel_rfl) rfl (by kernel_rfl) fun K2 p=>?_
 simp only[go_sem,simprocAttr]
 try refine⟨sd,?_⟩
 refine ce (Br.callR (av:=?av3) (g:=true) (o:=?o3) [] (fun hg=>Pl b _ k) si si si si si sg sg sg sg ?cont3);simp only[go_sem,simprocAttr]
 try refine⟨sd,?_⟩
 refine ce (Br.callR (av:=?av4) (g:=true) (o:=?o4) [1] (fun hg=>Ug c _ l) si si si si si sg sg sg sg ?cont4);simp only[go_sem,simprocAttr]
 try refine⟨sd,?_⟩
 refine ce (Br.callR (av:=?av5) (g:=true) (o:=?o5) [3] (fun hg=>Up f _ m) si si si si si sg sg sg sg ?cont5);simp only[go_sem,simprocAttr]
 try refine⟨sd,?_⟩
 refine ce (Br.callR (av:=?av6) (g:=true) (o:=?o6) [4] (fun hg=>Uo i _ n) si si si si si sg sg sg sg ?cont6);simp only[go_sem,simprocAttr];refine kA p ?_;exact wR
theorem SF(b:ah)(c:List ae)(z:ah×Int)(hm:H0 b c=some z):Does prog 36 [.agg [lm za b.y,lm zc b.h,lm za b.r,lm zb b.o],lm zf c] [] (fun r X=>r=.tup [.agg [lm za z.1.y,lm zc z.1.h,lm za z.1.r,lm zb z.1.o],pI z.2]/\X=[]):=by
 unfold H0 at hm
 refine dW 0 28 [.cell 4 26,.tmp 5] func36 fun B=>nA fun hA=>?_
 refine qS ?_;obtain⟨f,F,hm⟩:=zd hm;refine sO [] (OW b _ F) ?_
 refine ca fun K4 E N=>?_
 obtain⟨O,m,hm⟩:=zj hm
 have t:∀s,O s=some z->K4 [(4,.ptr 1 0),(6,.ptr 7 0)] [.cells 26 [.top,.top,.top,.top],.cells 26 [.nils,.nils,.nils,.nils],.cells 26 [.top,.top,.top,.top],.mp true (zl Dt.s zc s.1),.mp false (zl Dt.s zk s.2.1),.mp true (zl Dt.s za s.2.2.1),.mp true (zl Dt.s zb s.2.2.2),.cells 151 [lm za f.2.2.2.2,.mp 3,.mp 4,.mp 5,.mp 6]]:=by
  intro s hs;have hm:=m _ hs;clear hs;obtain⟨u,v,w,C⟩:=s
  try dsimp only at hm|-
  refine E _ _ ?_;obtain⟨U,G,hm⟩:=zd hm;refine sQ [7,3,4,5,6] (fun hg=>Pg f.2.2.2.2 u v w C _ G) ?_;exact wR
 clear E m;refine qS ?_;refine Wp.block ?_;obtain⟨V,I,hm⟩:=zm hm
 refine fL 12 c.length fun D=>?_
 refine Wp.forL (fun n s=>[(4,.ptr 1 0),(6,.ptr 7 0),(12,lm zf c),(13,pI (c.length:Int)),(14,pI (n:Int))]) (fun n s=>[.cells 26 [lm za b.y,lm zc b.h,lm za b.r,lm zb b.o],.cells 26 [.nils,.nils,.nils,.nils],.cells 26 [.top,.top,.top,.top],.mp true (zl Dt.s zc s.1),.mp false (zl Dt.s zk s.2.1),.mp true (zl Dt.s za s.2.2.1),.mp true (zl Dt.s zb s.2.2.2),.cells 151 [lm za f.2.2.2.2,.mp 3,.mp 4,.mp 5,.mp 6]]) wF hm ?_;clear hm;intro n s Q hm;obtain⟨g,i,j,k⟩:=s
 try dsimp only at hm|-
 refine qS ?_
 refine lB zf hm D (fun h=>N _ _ _ _ wF (t (g,i,j,k) (I _ h))) fun J W P R S T p hm hA _ L=>?_
 refine q6 ?_;obtain⟨l,M,hm⟩:=zd hm;refine sO [7,3,4,5,6] (RS P f.2.2.2.2 g i j k _ M) ?_;refine q6 ?_
 refine cN hm (fun hm=>?_) fun hm=>?_
 .refine q6 ?_
  refine Wp.ret ?_;simp only[zx,zq];refine zM ?_;cases hm;simp only[go_sem,simprocAttr,hA]
  try exact U3
 .refine Wp.skip (L _ _ (r6 ?_))
  exact wN (l.2.1,l.2.2.1,l.2.2.2.1,l.2.2.2.2) J (p _ hm)
theorem L7(b:ah)(c:List ae)(z:ah×Int)(hm:Ax b c=some z):Does prog 10 [.agg [lm za b.y,lm zc b.h,lm za b.r,lm zb b.o],lm zf c] [] (fun r X=>r=.tup [.agg [lm za z.1.y,lm zc z.1.h,lm za z.1.r,lm zb z.1.o],pI z.2]/\X=[]):=by
 unfold Ax at hm
 refine dW 0 18 [.cell 4 26,.tmp 5] func10 fun B=>nA fun hA=>?_
 refine qS ?_
 refine ca fun _ i _=>?_
 obtain⟨j,f,hm⟩:=zd hm;refine sX (fun hg=>OS b _ f) ?_;refine qS ?_
 refine cN hm (fun hm=>?_) fun hm=>?_
 .refine qS ?_
  refine Wp.ret ?_;simp only[zx,zq];refine zM ?_;cases hm;exact fB
 .refine Wp.skip (i _ _ ?_)
  obtain⟨k,g,hm⟩:=zd hm;refine sF (SF b c _ g) ?_;exact wR
theorem T3(b:ah)(c:List ae)(z:Int)(hm:IX b c=some z):Does prog 55 [.agg [lm za b.y,lm zc b.h,lm za b.r,lm zb b.o],lm zf c] [] (fun r X=>r=pI z/\X=[]):=by
 unfold IX at hm
 refine dW 0 72 [.tmp 4] func55 fun B=>nA fun hA=>?_
 refine qS ?_
 refine ca fun _ ag _=>?_
 obtain⟨aC,M,hm⟩:=zd hm;refine sX (fun hg=>OS b _ M) ?_;refine qS ?_
 refine cR hm fun hm=>?_
 refine Wp.skip (ag _ _ (ca fun _ an _=>?_));obtain⟨aD,N,hm⟩:=zd hm;refine sX (fun hg=>UW b.h _ N) ?_
 refine cR hm fun hm=>?_
 refine Wp.skip (an _ _ (ca fun ap p a0=>?_));obtain⟨aq,t,hm⟩:=zj hm
 have u:∀s,aq s=some z->ap [(1,lm zf c),(2,.ptr 0 0)] [.cells 26 [lm za b.y,lm zc b.h,lm za b.r,lm zb b.o]]:=by
  intro s hs;have hm:=t _ hs;clear hs
  try dsimp only at hm|-
  refine p _ _ (ca fun _ a1 _=>?_);obtain⟨a2,O,hm⟩:=zd hm;obtain⟨j,a3,hm⟩:=zd hm
  refine rS fun _ a4=>?_
  refine cF (Rz b _ O) ?_;refine cF (L7 a2 c _ a3) (a4 _ _ ?_);refine qS ?_
  refine cR hm fun hm=>?_
  refine Wp.skip (a1 _ _ (ca fun _ a5 _=>qS ?_))
  refine cR hm fun hm=>?_
  refine Wp.skip (a5 _ _ (qS ?_))
  refine ca fun ar v a6=>?_
  obtain⟨au,w,hm⟩:=zj hm
  have C:∀s,au s=some z->ar [] []:=by
   intro s hs;have hm:=w _ hs;clear hs
   try dsimp only at hm|-
   exact v _ _ (wQ)
  clear v w;refine qS ?_;refine Wp.block ?_;obtain⟨aE,P,hm⟩:=zm hm
  refine fL 58 c.length fun Q=>?_
  refine Wp.forL (fun D s=>[(11,.mp 2),(58,lm zf c),(59,pI (c.length:Int)),(60,pI (D:Int))]) (fun D s=>[.cells 26 [lm za b.y,lm zc b.h,lm za b.r,lm zb b.o],.cells 26 [lm za j.1.y,lm zc j.1.h,lm za j.1.r,lm zb j.1.o],.mp false (zl D4 eL s)]) wF hm ?_;clear hm;intro D f ay hm
  try dsimp only at hm|-
  refine qS ?_
  refine lB zf hm Q (fun h=>a6 _ _ _ _ wF (C () (P _ h))) fun R E Z az k aA F hm hA _ a7=>?_
  refine q6 ?_
  refine ca fun _ a8 _=>?_
  obtain⟨G,S,hm⟩:=zd hm;obtain⟨aF,a9,hm⟩:=il hm;have l:=iC (e:=eL) OU f G false;have m:=iD (e:=eL) OU f G;simp only[D4,zU,a9,eL,map_nil]at l m;have hA:=And.intro E (And.intro k (And.intro l m));refine sX (fun hg=>O3 Z _ S) ?_
  refine cR hm fun hm=>?_
  refine Wp.skip (a8 _ _ ?_);obtain⟨I,T,hm⟩:=zd hm;obtain⟨aG,hm⟩:=zh hm;have n:=mR (e:=eL) OU f I true;simp only[D4,zU,eL,map_nil]at n;have hA:=And.intro E (And.intro k n);refine eX (fun hg=>O3 Z _ T) ?_;refine a7 _ _ (r6 ?_);exact wN (dF f I true) R (F _ hm)
 clear p t;refine qS ?_;refine Wp.block ?_;obtain⟨aH,U,hm⟩:=zm hm
 refine fL 1 c.length fun V=>?_
 refine Wp.forL (fun i s=>[(1,lm zf c),(2,.ptr 0 0),(22,lm zf c),(23,pI (c.length:Int)),(24,pI (i:Int))]) (fun i s=>[.cells 26 [lm za b.y,lm zc b.h,lm za b.r,lm zb b.o]]) wF hm ?_;clear hm;intro i s av hm
 try dsimp only at hm|-
 refine qS ?_
 refine lB zf hm V (fun h=>a0 _ _ _ _ wF (u () (U _ h))) fun W aI ac aB aw ax J hm hA _ ad=>?_
 refine q6 ?_;obtain⟨L,af,hm⟩:=zd hm;refine sX (fun hg=>O3 ac _ af) ?_;obtain⟨aJ,Y,hm⟩:=zX hm;refine sX (g:=((decide (L.kind=1))&&(!(decide (L.name=([115,116,97,103,101]:dy)))))) (fun hg=>IL L.name _ (Y hg)) ?_
 refine cR hm fun hm=>?_
 refine Wp.skip (ad _ _ (r6 ?_));exact wN () W (J _ hm)
theorem TW(b:ab)(c:dy)(z:Bool)(hm:GX b c=some z):Does prog 129 [.agg [pS b.a,pS b.B,pB b.C],.rp [.s c]] [] (fun r X=>r=pB z/\X=[]):=by
 unfold GX at hm
 refine dW 0 8 [.tmp 3] func129 fun B=>nA fun hA=>?_
 refine qS ?_;exact wQ
theorem UP(b:List ab)(c:dy)(z:Int)(hm:ME b c=some z):Does prog 127 [lm zc b,.fn 129 [.rp [.s c]]] [] (fun r X=>r=pI z/\X=[]):=by
 unfold ME at hm
 refine dW 0 19 [.tmp 4] func127 fun B=>nA fun hA=>?_
 refine qS ?_
 refine ca fun K2 k p=>?_
 obtain⟨t,f,hm⟩:=zj hm
 have i:∀s,t s=some z->K2 [] []:=by
  intro s hs;have hm:=f _ hs;clear hs
  try dsimp only at hm|-
  exact k _ _ (wQ)
 clear k f;refine qS ?_;refine Wp.block ?_;obtain⟨F,l,hm⟩:=zm hm
 refine fL 0 b.length fun m=>?_
 refine Wp.forL (fun g s=>[(0,lm zc b),(1,.fn 129 [.rp [.s c]]),(7,pI (b.length:Int)),(8,pI (g:Int))]) (fun g s=>[]) wF hm ?_;clear hm;intro g s w hm
 try dsimp only at hm|-
 refine qS ?_
 refine lB zc hm m (fun h=>p _ _ _ _ wF (i () (l _ h))) fun n G u E C D j hm hA _ v=>?_
 refine q6 ?_;obtain⟨I,o,hm⟩:=zd hm;refine sX (fun hg=>TW u c _ o) ?_
 refine cR hm fun hm=>?_
 refine Wp.skip (v _ _ (r6 ?_));exact wN () n (j _ hm)
theorem RL(b:ah)(c:dy)(z:ab×Bool)(hm:DT b c=some z):Does prog 99 [.agg [lm za b.y,lm zc b.h,lm za b.r,lm zb b.o],pS c] [] (fun r X=>r=.tup [.agg [pS z.1.a,pS z.1.B,pB z.1.C],pB z.2]/\X=[]):=by
 unfold DT at hm
 refine dW 0 19 [.cell 4 57,.tmp 5] func99 fun B=>nA fun hA=>?_
 refine qS ?_;obtain⟨i,g,hm⟩:=zd hm;refine sX (fun hg=>UP b.h c _ g) ?_
 refine ca fun _ j _=>qS ?_
 refine cR hm fun hm=>?_
 refine Wp.skip (j _ _ ?_);obtain⟨k,l,f,m,hm⟩:=gf hm;replace f:∀d,(List.map zc b.h).getD i.toNat d=zc k:=f zc;have hA:=f;exact wQ
theorem T7(c:dy)(b:dy)(z:List dy)(hm:GU c b=some z):Does prog 130 [pS c,pS b] [] (fun r X=>r=lm dB z/\X=[]):=by
 unfold GU at hm
 refine dW 0 10 [.tmp 4] func130 fun B=>nA fun hA=>?_
 refine qS ?_;obtain⟨g,f,hm⟩:=zd hm;refine sF (RU c b (b.length:Int) (-1) _ f) ?_;exact wR
theorem Ut(c:dy)(b:dy)(z:dy×Bool)(hm:MH c b=some z):Does prog 205 [pS c,pS b] [] (fun r X=>r=.tup [pS z.1,pB z.2]/\X=[]):=by
 unfold MH at hm
 refine dW 0 15 [.tmp 4,.tmp 5] func205 fun B=>nA fun hA=>?_
 refine qS ?_
 refine ca fun _ g _=>?_
 obtain⟨i,f,hm⟩:=zd hm;refine sX (fun hg=>Sd c b _ f) ?_
 refine cR hm fun hm=>?_
 refine Wp.skip (g _ _ ?_);obtain⟨j,hm⟩:=zh hm;exact wQ
theorem TY(c:dy)(b:dy)(z:dy×Bool)(hm:I0 c b=some z):Does prog 174 [pS c,pS b] [] (fun r X=>r=.tup [pS z.1,pB z.2]/\X=[]):=by
 unfold I0 at hm
 refine dW 0 11 [.tmp 4,.tmp 5] func174 fun B=>nA fun hA=>?_
 refine qS ?_;obtain⟨g,f,hm⟩:=zd hm;refine sX (fun hg=>Ut c b _ f) ?_;exact wR
theorem Uv(c:dy)(b:dy)(z:Bool)(hm:MJ c b=some z):Does prog 228 [pS c,pS b] [] (fun r X=>r=pB z/\X=[]):=by
 unfold MJ at hm
 refine dW 0 21 [.tmp 4] func228 fun B=>nA fun hA=>?_
 refine qS ?_;obtain⟨f,hm⟩:=zh hm;exact wQ
theorem Uu(c:dy)(b:dy)(z:dy×Bool)(hm:MI c b=some z):Does prog 206 [pS c,pS b] [] (fun r X=>r=.tup [pS z.1,pB z.2]/\X=[]):=by
 unfold MI at hm
 refine dW 0 18 [.tmp 4,.tmp 5] func206 fun B=>nA fun hA=>?_
 refine qS ?_
 refine ca fun _ g _=>?_
 obtain⟨i,f,hm⟩:=zd hm;refine sX (fun hg=>Uv c b _ f) ?_
 refine cR hm fun hm=>?_
 refine Wp.skip (g _ _ ?_);obtain⟨j,hm⟩:=zh hm;exact wQ
theorem TZ(c:dy)(b:dy)(z:dy×Bool)(hm:I1 c b=some z):Does prog 175 [pS c,pS b] [] (fun r X=>r=.tup [pS z.1,pB z.2]/\X=[]):=by
 unfold I1 at hm
 refine dW 0 11 [.tmp 4,.tmp 5] func175 fun B=>nA fun hA=>?_
 refine qS ?_;obtain⟨g,f,hm⟩:=zd hm;refine sX (fun hg=>Uu c b _ f) ?_;exact wR
theorem Pi(b:dy)(c:List dy)(g:Bool)(z:dy×Bool×List dy)(hm:zI b c g=some z):Does prog 131 [.ptr 0 0,pS b] [.cells 167 [lm dB c,pB g]] (fun r X=>r=pS z.1/\X=[.cells 167 [lm dB z.2.2,pB z.2.1]]):=by
 unfold zI at hm
 refine dW 1 58 [.tmp 4] func131 fun B=>nA fun hA=>?_
 refine qS ?_
 refine ca fun _ l _=>qS ?_
 refine cN hm (fun hm=>?_) fun hm=>?_
 .refine qS ?_
  exact wQ
 .refine Wp.skip (l _ _ ?_)
  obtain⟨i,n,f,o,hm⟩:=gf hm;replace f:∀d,(List.map dB c).getD 0 d=dB i:=f dB;obtain⟨p,hm⟩:=zh hm;obtain⟨m,j,hm⟩:=zd hm;have hA:=f;refine sX (fun hg=>TY i (b++([32]:dy)) _ j) ?_;obtain⟨t,k,hm⟩:=zd hm;refine sX (fun hg=>TZ m.1 ([10]:dy) _ k) ?_;obtain⟨u,hm⟩:=zh hm;refine q6 ?_;refine q6 ?_;exact wQ
theorem S9(s:dy)(z:Int×Bool)(hm:OI s=some z):Does prog 207 [pS s] [] (fun r X=>r=.tup [pI z.1,.er z.2]/\X=[]):=by
 cases hm;exact dj Tryz.atoiE Kf Ke ⟨_,func207,by kernel_rfl,by kernel_rfl⟩ s
theorem S8(b:dy)(z:Int×Bool)(hm:Iw b=some z):Does prog 176 [pS b] [] (fun r X=>r=.tup [pI z.1,pB z.2]/\X=[]):=by
 unfold Iw at hm
 refine dW 0 47 [.tmp 2,.tmp 3] func176 fun B=>nA fun hA=>?_
 refine qS ?_
 refine ca fun _ C _=>?_
 obtain⟨J,hm⟩:=zh hm;refine q6 ?_
 refine cR hm fun hm=>?_
 refine Wp.skip (C _ _ (ca fun K6 n D=>?_));obtain⟨E,g,hm⟩:=zj hm
 have j:∀s,E s=some z->K6 [(0,pS b)] []:=by
  intro s hs;have hm:=g _ hs;clear hs
  try dsimp only at hm|-
  refine n _ _ ?_;obtain⟨L,o,hm⟩:=zd hm;refine sF (S9 b _ o) ?_
  refine dS (pl [(0,none),(1,none),(2,none),(3,none),(4,none)]) fun _ F=>F _ _ ?_
  exact wR
 clear n g;refine qS ?_;refine Wp.block ?_;obtain⟨M,p,hm⟩:=zm hm
 refine fL 0 b.length fun t=>?_
 refine Wp.forL (fun i s=>[(0,pS b),(4,pI (i:Int))]) (fun i s=>[]) wF hm ?_;clear hm;intro i s G hm
 try dsimp only at hm|-
 refine ca fun _ u _=>qS ?_
 refine Wp.cond rfl ⟨⟩ (fun f=>?_) fun f=>Wp.exit (D _ _ _ _ wF (j () (p _ (p8 hm (u2 f)))))
 have c:=tO f;have v:=qc c t;obtain⟨N,I,k,l,m,hm⟩:=p9 hm c;clear k;refine Wp.skip ?_;simp only[zx];refine u _ _ (ca fun _ w _=>Wp.block ?_);have hA:=And.intro v l;refine q6 ?_
 refine cR hm fun hm=>?_
 refine Wp.skip (w _ _ (r6 ?_));exact wN () c (m _ hm)
theorem Ue(n:Int)(o0:dy)(z:Unit)(hm:Mu n o0=some z):Does prog 211 [.ptr 0 0,pI n] [.cells 181 [.np 0,.buf 1],.sb 5 o0] (fun r X=>r=.tup []/\X=[.cells 181 [.np 0,.buf 1],.sb 5 o0]):=by
 obtain⟨h,-⟩:=zh hm;obtain⟨k,rfl⟩:=Int.eq_ofNat_of_zero_le h.1;exact Does.grow Bm Bo k o0 (by omega)
theorem UB(b:dy)(z:Unit)(hm:Sb b=some z):Does prog 179 [.ptr 0 0] [.cells 181 [.nil,.buf 1],.sb 5 b] (fun r X=>r=.tup []/\X=[.cells 181 [.ptr 0 0,.buf 1],.sb 5 b]):=by
 unfold Sb at hm
 refine dW 2 20 [] func179 fun B=>nA fun hA=>?_
 refine qS ?_;refine Wp.cond rfl ⟨⟩ (fun c=>?_) (fun c=>?_)
 rotate_left
 .cases c
 refine Wp.region fun K3 f=>?_
 simp only[go_sem,simprocAttr]
 try refine⟨sd,?_⟩
 refine dw (v:=?av4) (g:=true) A9 si si sg ?cont4;simp only[go_sem,simprocAttr];refine kA f ?_;refine vB ?_;cases hm;exact ub
theorem UC(b:dy)(z:Unit)(hm:Sc b=some z):Does prog 179 [.ptr 0 0] [.cells 181 [.ptr 0 0,.buf 1],.sb 5 b] (fun r X=>r=.tup []/\X=[.cells 181 [.ptr 0 0,.buf 1],.sb 5 b]):=by
 unfold Sc at hm
 refine dW 2 20 [] func179 fun B=>nA fun hA=>?_
 refine qS ?_;refine Wp.cond rfl ⟨⟩ (fun c=>?_) (fun c=>?_)
 .cases c
 refine qS ?_;refine Wp.cond rfl ⟨⟩ (fun f=>?_) (fun f=>?_)
 .cases f
 refine Wp.skip (vB ?_);cases hm;exact ub
theorem UD(o0:dy)(z:Unit)(hm:Pk o0=some z):Does prog 179 [.ptr 0 0] [.cells 181 [.np 0,.buf 1],.sb 5 o0] (fun r X=>r=.tup []/\X=[.cells 181 [.np 0,.buf 1],.sb 5 o0]) :=
 Does.np (UB o0 () rfl) (UC o0 () rfl)
theorem zt(c:dy)(b:dy)(z:Int×dy)(hm:zi c b=some z):Does prog 140 [.ptr 0 0,pS c] [.cells 181 [.np 0,.buf 1],.sb 5 b] (fun r X=>r=.tup [pI z.1,.raw .nilIface]/\X=[.cells 181 [.np 0,.buf 1],.sb 5 z.2]):=by
 unfold zi at hm
 refine dW 2 19 [.tmp 4,.tmp 5] func140 fun B=>nA fun hA=>?_
 refine qS ?_;obtain⟨g,f,hm⟩:=zd hm;refine sO [0,1] (UD b _ f) ?_;obtain⟨i,hm⟩:=zh hm;refine q6 ?_;exact wQ
theorem Sa(b:dy)(z:dy)(hm:CF b=some z):Does prog 145 [.ptr 0 0] [.cells 181 [.np 0,.buf 1],.sb 5 b] (fun r X=>r=pS z/\X=[.cells 181 [.np 0,.buf 1],.sb 5 b]):=by
 unfold CF at hm
 refine dW 2 14 [.tmp 2] func145 fun B=>nA fun hA=>?_
 refine qS ?_
 refine dS (pl [(0,none),(1,none),(2,none),(3,none),(5,none),(6,none),(7,none),(8,none),(9,none),(4,some [5,6,7,8,9]),(10,some []),(11,none)]) fun _ c=>c _ _ ?_
 exact wR
end Go.Proofs.YtbcjkdopkcbblaaGreatDoor
