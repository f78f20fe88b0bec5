/- That the code does what the models say (part 3). -/
import Derived.Test.YtggigadnagoglafGreatDoorTrWk0
import Derived.Test.YtggigadnagoglafGreatDoorTrWk1
import Derived.Test.YtggigadnagoglafGreatDoorTrWk2
set_option linter.unusedSimpArgs false
set_option linter.unusedVariables false
open Go.Proofs Go.Shelf
open List
namespace Go.Proofs.YtggigadnagoglafGreatDoor
open Tryz
open Go.Vc Go.Md
set_option maxRecDepth 100000
set_option maxHeartbeats 4000000
theorem NW(b:List ae)(c:dX)(z:Int)(hm:zW b c=some z):Does prog 94 [.vw 0 5 0 b.length,.fn 52 [.ptr 1 0]] [.fx 76 5 (List.map zd b),.cells 9 [pS c]] (fun r X=>r=pI z/\X=[.fx 76 5 (List.map zd b),.cells 9 [pS c]]):=by
 unfold zW at hm
 refine dW 2 19 [.tmp 4] func94 fun B=>nA fun hA=>?_
 refine qS ?_
 refine ca fun K2 n u=>?_
 obtain⟨v,k,hm⟩:=zN hm
 have m:∀s,v s=some z->K2 [] [.fx 76 5 (List.map zd b),.cells 9 [pS c]]:=by
  intro s hs;have hm:=k _ hs;clear hs
  try dsimp only at hm|-
  exact n _ _ (wQ)
 clear n k;refine qS ?_;refine Wp.block ?_;obtain⟨E,o,hm⟩:=rY hm;refine Wp.loopN (fun s=>[(0,.vw 0 5 0 b.length),(1,.fn 52 [.ptr 1 0]),(7,pI ((List.take b.length b).length:Int)),(8,pI s)]) (fun s=>[.fx 76 5 (List.map zd b),.cells 9 [pS c]]) ?_ hm ?_
 .exact eo
 clear hm;intro j D hm
 try dsimp only at hm|-
 refine qS ?_
 refine ca fun _ w _=>cN hm (fun hm=>?_) fun hm=>?_
 .refine Wp.skip (w _ _ (ca fun _ C _=>Wp.block (qS ?_)))
  obtain⟨F,hm⟩:=zl hm;obtain⟨G,p,hm⟩:=ze hm
  have f:=fun h=>yF (l:=b) (e:=zd) (d:=(ae.mk [] 0 [] [] [])) (i:=(j.toNat:Nat)) h []
  refine cb fun I t=>?_
  simp only[go_sem,simprocAttr,f (by omega)]
  try refine⟨sL,?_⟩
  refine Rg.callR (av:=?av11) (g:=true) [1] (fun hg=>KW (b.getD (j.toNat:Nat) (ae.mk [] 0 [] [] [])) c _ p) (by simp only[go_sem,simprocAttr,f (by omega)];exact Is.mk) (by simp only[go_sem,simprocAttr,f (by omega)];exact Is.mk) (by simp only[go_sem,simprocAttr,f (by omega)];exact Is.mk) (by simp only[go_sem,simprocAttr,f (by omega)];exact Is.mk) (by simp only[go_sem,simprocAttr,f (by omega)]) (by simp only[go_sem,simprocAttr,f (by omega)]) (by simp only[go_sem,simprocAttr,f (by omega)]) ?cont11;simp only[go_sem,simprocAttr,f (by omega)];refine kA t ?_
  refine cR hm fun hm=>?_
  refine Wp.skip (C _ _ (qR ?_));simp only[zS,zL,↓reduceIte];refine⟨IntKind.i64.wrap (j+1),hm,?_⟩;exact eo
 .refine Wp.exit ?_
  simp only[zS,zL,↓reduceIte];have hm:=o _ hm
  try dsimp only at hm
  refine u _ _ _ _ ?_ (m () hm);exact eo
theorem N1(f:List ae)(b:dX)(z:List ae)(hm:GU f b=some z):Does prog 51 [.buf 0,.fn 52 [.ptr 1 0]] [.buf 76 5 (List.map zd f),.cells 9 [pS b]] (fun r X=>r=.buf 0/\X=[.buf 76 5 (List.map zd z),.cells 9 [pS b]]):=by
 unfold GU at hm
 refine dW 2 42 [.tmp 4] func51 fun B=>nA fun hA=>?_
 refine cS 0 (by simp only[go_sem,simprocAttr];exact Is.mk) (by simp only[go_sem,simprocAttr]) ?_;simp only[go_sem,simprocAttr];refine cY 0 0 (by simp only[go_sem,simprocAttr];exact Is.mk) (by simp only[go_sem,simprocAttr];exact Is.mk) ?_;simp only[go_sem,simprocAttr];refine qS ?_;obtain⟨U,u,hm⟩:=ze hm;refine sQ [0,1] (fun hg=>NW f b _ u) ?_
 refine ca fun _ E _=>qS ?_
 refine cN hm (fun hm=>?_) fun hm=>?_
 .refine qS ?_
  refine cI 0 (by simp only[go_sem,simprocAttr];exact Is.mk) (by simp only[go_sem,simprocAttr]) ?_;simp only[go_sem,simprocAttr];refine cU 4 0 (by simp only[go_sem,simprocAttr];exact Is.mk) (by simp only[go_sem,simprocAttr];exact Is.mk) (by simp only[go_sem,simprocAttr]) ?_;simp only[go_sem,simprocAttr];exact wR
 .refine Wp.skip (E _ _ (ca fun K8 t F=>?_))
  obtain⟨G,k,hm⟩:=zN hm
  have o:∀s,G s=some z->K8 [(0,.vw 0 5 0 f.length),(5,pI s.1)] [.fx 76 5 (List.map zd s.2),.cells 9 [pS b]]:=by
   intro s hs;have hm:=k _ hs;clear hs;obtain⟨M,J⟩:=s
   try dsimp only at hm|-
   refine t _ _ ?_;obtain⟨N,hm⟩:=zl hm
   refine cb fun K9 I=>?_
   simp only[go_sem,simprocAttr]
   try refine⟨sL,?_⟩
   refine Rg.clear (i:=?i10) (sz:=?sz10) (a:=?a10) (m:=?m10) (T:=?T10) (rows:=?rows10) (e:=?e10) (eb:=?eb10) (ez:=?ez10) (z:=?z10) (fx:=?fx10) Is.mk Is.mk Is.mk Is.mk Is.mk sg sg si si si si sg sg sg ?cont10;simp only[go_sem,simprocAttr];refine kA I ?_;obtain⟨O,hm⟩:=zl hm;refine q6 ?_;refine cI 0 (by simp only[go_sem,simprocAttr];exact Is.mk) (by simp only[go_sem,simprocAttr]) ?_;simp only[go_sem,simprocAttr];refine cU 4 0 (by simp only[go_sem,simprocAttr];exact Is.mk) (by simp only[go_sem,simprocAttr];exact Is.mk) (by simp only[go_sem,simprocAttr]) ?_;simp only[go_sem,simprocAttr];exact wR
  clear t k;refine qS ?_;refine Wp.block ?_;obtain⟨V,v,hm⟩:=rY hm;refine Wp.loopN (fun s=>[(0,.vw 0 5 0 f.length),(1,.fn 52 [.ptr 1 0]),(5,pI s.1),(6,pI s.2.1)]) (fun s=>[.fx 76 5 (List.map zd s.2.2),.cells 9 [pS b]]) ?_ hm ?_
  .exact eo
  clear hm;intro s L hm;obtain⟨j,g,c⟩:=s
  try dsimp only at hm|-
  refine ca fun _ w _=>qS ?_
  refine cN hm (fun hm=>?_) fun hm=>?_
  .refine Wp.skip (w _ _ (ca fun _ n _=>Wp.block ?_))
   obtain⟨P,hm⟩:=zl hm;obtain⟨Q,hm⟩:=zl hm
   have p:=fun h=>yF (l:=c) (e:=zd) (d:=(ae.mk [] 0 [] [] [])) (i:=(g.toNat:Nat)) h []
   refine cb fun W C=>?_
   simp only[go_sem,simprocAttr,p (by omega)];refine kA C ?_;obtain⟨Y,D,hm⟩:=ze hm;refine sQ [1] (fun hg=>KW (c.getD (g.toNat:Nat) (ae.mk [] 0 [] [] [])) b _ D) ?_
   refine cN hm (fun hm=>?_) fun hm=>?_
   .obtain⟨R,hm⟩:=zl hm
    obtain⟨S,hm⟩:=zl hm;refine q6 ?_;refine qR ?_;refine n _ _ (qR ?_);simp only[zS,zL,↓reduceIte];refine⟨(IntKind.i64.wrap (j+1),IntKind.i64.wrap (g+1),List.set c (j.toNat:Nat) (c.getD (g.toNat:Nat) (ae.mk [] 0 [] [] []))),hm,?_⟩;exact eo
   .refine Wp.skip (n _ _ (qR ?_))
    simp only[zS,zL,↓reduceIte];refine⟨(j,IntKind.i64.wrap (g+1),c),hm,?_⟩;exact eo
  .refine Wp.exit ?_
   simp only[zS,zL,↓reduceIte];have hm:=v _ hm
   try dsimp only at hm
   refine F _ _ _ _ ?_ (o (j,c) hm);exact eo
theorem Mt(b:List ae)(z:(List (al×ae)))(hm:B6 b=some z):Does prog 17 [.buf 0] [.buf 76 5 (List.map zd b)] (fun r X=>r=.mp 1/\X=[.buf 76 5 (List.map zd b),.mp true (zj zi zd z)]):=by
 unfold B6 at hm
 refine dW 2 19 [.tmp 2] func17 fun B=>nA fun hA=>?_
 refine qS ?_;refine qS ?_
 refine ca fun K3 u F=>?_
 obtain⟨G,k,hm⟩:=zN hm
 have o:∀s,G s=some z->K3 [(3,.mp 1)] [.buf 76 5 (List.map zd b),.mp true (zj zi zd s)]:=by
  intro M hs;have hm:=k _ hs;clear hs
  try dsimp only at hm|-
  exact u _ _ (wQ)
 clear u k;refine qS ?_;refine Wp.block ?_;obtain⟨Q,C,hm⟩:=qQ hm
 refine dx 0 fun f=>?_
 replace f:b.length<=274877906944:=by
  simp only[go_sem,simprocAttr,length_map]at f;omega
 refine Wp.forC (fun c s=>[(3,.mp 1),(7,.buf 0),(8,pI (b.length:Int)),(9,pI (c:Int))]) (fun c s=>[.buf 76 5 (List.map zd b),.mp true (zj zi zd s)]) wF hm ?_;clear hm;intro c g N hm
 try dsimp only at hm|-
 refine qS ?_
 refine ca fun _ I _=>Wp.cond rfl ⟨⟩ (fun m=>?_) fun m=>Wp.exit (F _ _ _ _ wF (o g (C _ (tP hm (wY m)))))
 have j:=oe m;have v:=lu j f;obtain⟨O,p,hm⟩:=qP hm j;refine Wp.skip ?_;simp only[zS];refine I _ _ (ca fun _ J _=>Wp.block ?_)
 have t:=fun h=>yF (l:=b) (e:=zd) (d:=(ae.mk [] 0 [] [] [])) (i:=c) h []
 refine cb fun K9 L=>?_
 simp only[go_sem,simprocAttr,v,t (by omega)];refine kA L ?_;obtain⟨w,D,hm⟩:=ze hm;obtain⟨P,hm⟩:=zl hm;have n:=fN (e:=zd) zA g w (b.getD c (ae.mk [] 0 [] [] []));simp only[zi,zp,zd,map_nil]at n;have hA:=And.intro v n
 refine dE (pl [(0,none),(1,none),(2,none),(3,none),(4,some [])]) fun _ E=>?_
 refine cD (fun hg=>z6 (b.getD c (ae.mk [] 0 [] [] [])) _ D) (E _ _ ?_);refine J _ _ (r6 ?_);exact wN (ec g w (b.getD c (ae.mk [] 0 [] [] []))) j (p _ hm)
theorem KO(c:am)(b:dX)(z:List ae×dX×List ae×(List (al×ae)))(hm:BX c b=some z):Does prog 18 [.agg [lm zd c.r],pS b] [] (fun r X=>r=.mp 3/\X=[.cells 33 [lm zd z.1],.cells 9 [pS z.2.1],.buf 76 5 (List.map zd z.2.2.1),.mp true (zj zi zd z.2.2.2)]):=by
 unfold BX at hm
 refine dW 4 11 [.tmp 4] func18 fun B=>nA fun hA=>?_
 refine qS ?_;obtain⟨j,f,hm⟩:=ze hm;obtain⟨k,g,hm⟩:=ze hm;obtain⟨m,i,hm⟩:=ze hm
 refine rS fun _ l=>?_
 refine cO [] (Ln c.r _ f) ?_;refine cO [2,1] (N1 j b _ g) ?_;refine cO [2] (Mt k _ i) (l _ _ ?_);exact wR
theorem IZ(b:ak)(z:ai)(hm:xT b=some z):Does prog 81 [.agg [pI b.e,pS b.g.a,pS b.g.u,pB b.g.w,pS b.j.k,pS b.j.Value,pS b.h.o,pS b.h.a,pB b.h.B,pB b.h.A]] [] (fun r X=>r=.agg [pI z.e,pS z.g.a,pS z.g.u,pB z.g.w,pS z.j.k,pS z.j.Value,pS z.h.o,pS z.h.a,pB z.h.B,pB z.h.A]/\X=[]):=by
 unfold xT at hm
 refine dW 0 18 [.cell 2 51] func81 fun B=>nA fun hA=>?_
 refine qS ?_
 refine ca fun _ c _=>qS ?_
 refine Wp.block (qS ?_)
 refine cR hm fun hm=>?_
 refine qS ?_
 refine cR hm fun hm=>?_
 exact Wp.skip (c _ _ (wQ))
theorem Mv(b:ak)(z:Int)(hm:Gz b=some z):Does prog 76 [.agg [pI b.e,pS b.g.a,pS b.g.u,pB b.g.w,pS b.j.k,pS b.j.Value,pS b.h.o,pS b.h.a,pB b.h.B,pB b.h.A]] [] (fun r X=>r=pI z/\X=[]):=by
 unfold Gz at hm
 refine dW 0 38 [.tmp 2] func76 fun B=>nA fun hA=>?_
 refine qS ?_
 refine ca fun _ l _=>qS ?_
 refine cR hm fun hm=>?_
 refine Wp.skip (l _ _ ?_);obtain⟨m,c,hm⟩:=ze hm;refine sX (fun hg=>IZ b _ c) ?_
 refine ca fun _ n _=>?_
 obtain⟨p,f,hm⟩:=ze hm;refine sX (fun hg=>KV m _ f) ?_;refine qS ?_
 refine cR hm fun hm=>?_
 refine Wp.skip (n _ _ (qS ?_))
 refine ca fun _ i _=>qS ?_
 refine cR hm fun hm=>?_
 exact Wp.skip (i _ _ (wQ))
theorem KZ(b:ak)(z:Int)(hm:xP b=some z):Does prog 29 [.agg [pI b.e,pS b.g.a,pS b.g.u,pB b.g.w,pS b.j.k,pS b.j.Value,pS b.h.o,pS b.h.a,pB b.h.B,pB b.h.A]] [] (fun r X=>r=pI z/\X=[]):=by
 unfold xP at hm
 refine dW 0 5 [.tmp 2] func29 fun B=>nA fun hA=>?_
 refine qS ?_;obtain⟨f,c,hm⟩:=ze hm;refine sX (fun hg=>Mv b _ c) ?_;exact wR
theorem vn(b:ak)(z:al)(hm:nG b=some z):Does prog 19 [.agg [pI b.e,pS b.g.a,pS b.g.u,pB b.g.w,pS b.j.k,pS b.j.Value,pS b.h.o,pS b.h.a,pB b.h.B,pB b.h.A]] [] (fun r X=>r=.agg [pI z.C,pS z.y]/\X=[]):=by
 unfold nG at hm
 refine dW 0 21 [.cell 2 73] func19 fun B=>nA fun hA=>?_
 refine qS ?_
 refine ca fun _ c _=>qS ?_
 refine Wp.block (qS ?_)
 refine cR hm fun hm=>?_
 refine qS ?_
 refine cR hm fun hm=>?_
 exact Wp.skip (c _ _ (wQ))
theorem GK(b:ab)(z:dX)(hm:vW b=some z):Does prog 77 [.agg [pS b.k,pS b.Value]] [] (fun r X=>r=pS z/\X=[]):=by
 unfold vW at hm
 refine dW 0 7 [.tmp 2] func77 fun B=>nA fun hA=>?_
 refine qS ?_;obtain⟨f,hm⟩:=zl hm;obtain⟨g,c,hm⟩:=ze hm;refine sX (fun hg=>yN (([45]:dX)++b.Value) _ c) ?_;exact wR
theorem GJ(b:ah)(z:dX)(hm:vV b=some z):Does prog 78 [.agg [pS b.o,pS b.a,pB b.B,pB b.A]] [] (fun r X=>r=pS z/\X=[]):=by
 unfold vV at hm
 refine dW 0 13 [.tmp 2] func78 fun B=>nA fun hA=>?_
 refine qS ?_
 refine ca fun _ g _=>qS ?_
 refine cN hm (fun hm=>?_) fun hm=>?_
 .obtain⟨i,hm⟩:=zl hm
  obtain⟨j,c,hm⟩:=ze hm;refine sX (fun hg=>yN (([97]:dX)++b.a) _ c) ?_;exact wR
 .refine Wp.skip (g _ _ ?_)
  obtain⟨k,hm⟩:=zl hm;obtain⟨l,f,hm⟩:=ze hm;refine sX (fun hg=>yN (([45]:dX)++b.a) _ f) ?_;exact wR
theorem DJ(b:aa)(z:dX)(hm:vl b=some z):Does prog 79 [.agg [pS b.a,pS b.u,pB b.w]] [] (fun r X=>r=pS z/\X=[]):=by
 unfold vl at hm
 refine dW 0 13 [.tmp 2] func79 fun B=>nA fun hA=>?_
 refine qS ?_
 refine ca fun _ g _=>qS ?_
 refine cN hm (fun hm=>?_) fun hm=>?_
 .obtain⟨i,hm⟩:=zl hm
  obtain⟨j,c,hm⟩:=ze hm;refine sX (fun hg=>yN (([114]:dX)++b.u) _ c) ?_;exact wR
 .refine Wp.skip (g _ _ ?_)
  obtain⟨k,hm⟩:=zl hm;obtain⟨l,f,hm⟩:=ze hm;refine sX (fun hg=>yN (([45]:dX)++b.u) _ f) ?_;exact wR
theorem ID(b:ak)(z:dX)(hm:yH b=some z):Does prog 30 [.agg [pI b.e,pS b.g.a,pS b.g.u,pB b.g.w,pS b.j.k,pS b.j.Value,pS b.h.o,pS b.h.a,pB b.h.B,pB b.h.A]] [] (fun r X=>r=pS z/\X=[]):=by
 unfold yH at hm
 refine dW 0 18 [.tmp 2] func30 fun B=>nA fun hA=>?_
 refine qS ?_
 refine ca fun _ l _=>qS ?_
 refine Wp.block (qS ?_)
 refine cN hm (fun hm=>?_) fun hm=>?_
 .obtain⟨m,c,hm⟩:=ze hm
  refine sX (fun hg=>GK b.j _ c) ?_;exact wR
 .refine qS ?_
  refine cN hm (fun hm=>?_) fun hm=>?_
  .obtain⟨n,f,hm⟩:=ze hm
   refine sX (fun hg=>GJ b.h _ f) ?_;exact wR
  .refine Wp.skip (l _ _ ?_)
   obtain⟨p,i,hm⟩:=ze hm;refine sX (fun hg=>DJ b.g _ i) ?_;exact wR
theorem KN(c:dX)(b:ak)(z:ae)(hm:yL c b=some z):Does prog 23 [pS c,.agg [pI b.e,pS b.g.a,pS b.g.u,pB b.g.w,pS b.j.k,pS b.j.Value,pS b.h.o,pS b.h.a,pB b.h.B,pB b.h.A]] [] (fun r X=>r=.agg [pS z.t,pI z.e,pS z.a,pS z.x,pS z.z]/\X=[]):=by
 unfold yL at hm
 refine dW 0 23 [.cell 4 76] func23 fun B=>nA fun hA=>?_
 refine qS ?_;obtain⟨n,i,hm⟩:=ze hm;obtain⟨p,l,hm⟩:=ze hm
 refine dS (pl [(0,none),(1,none),(2,none),(3,none),(4,none),(5,none),(6,none),(7,none),(8,none),(9,some [0,1,2,3,4,5,6,7,8]),(10,some [])]) fun _ m=>?_
 refine cD (fun hg=>vn b _ i) ?_;refine cD (fun hg=>ID b _ l) (m _ _ ?_)
 refine ca fun _ f _=>qS ?_
 refine cN hm (fun hm=>?_) fun hm=>?_
 .refine qR ?_
  exact f _ _ (wQ)
 .exact Wp.skip (f _ _ (wQ))
theorem LW(b:ak)(z:Int)(hm:yK b=some z):Does prog 45 [.agg [pI b.e,pS b.g.a,pS b.g.u,pB b.g.w,pS b.j.k,pS b.j.Value,pS b.h.o,pS b.h.a,pB b.h.B,pB b.h.A]] [] (fun r X=>r=pI z/\X=[]):=by
 unfold yK at hm
 refine dW 0 19 [.tmp 2] func45 fun B=>nA fun hA=>?_
 refine qS ?_
 refine ca fun _ l _=>?_
 obtain⟨c,f,hm⟩:=ze hm;refine sX (fun hg=>vn b _ f) ?_;obtain⟨m,i,hm⟩:=zY hm;refine sX (g:=((decide (c.C=1))&&(!(decide (c.y=([115,116,97,103,101]:dX)))))) (fun hg=>KJ c.y ([115,116,97,103,101]:dX) _ (i hg)) ?_
 refine cR hm fun hm=>?_
 exact Wp.skip (l _ _ (wQ))
theorem MS(n:am)(b:dX)(k:List ak)(z:Int)(hm:DQ n b k=some z):Does prog 44 [.agg [lm zd n.r],pS b,lm zm k,.fn 45 []] [] (fun r X=>r=pI z/\X=[]):=by
 unfold DQ at hm
 refine dW 0 62 [.tmp 8] func44 fun B=>nA fun hA=>?_
 refine qS ?_;refine qS ?_;obtain⟨f,P,hm⟩:=ze hm;refine sO [] (KO n b _ P) ?_
 refine ca fun K5 O a1=>?_
 obtain⟨a2,C,hm⟩:=zN hm
 have F:∀s,a2 s=some z->K5 [] []:=by
  intro s hs;have hm:=C _ hs;clear hs
  try dsimp only at hm|-
  exact O _ _ (wQ)
 clear O C;refine qS ?_;refine Wp.block ?_;obtain⟨a6,G,hm⟩:=zF hm
 refine fL 22 k.length fun I=>?_
 refine Wp.forL (fun l s=>[(1,pS b),(3,.fn 45 []),(9,.mp 1),(10,.mp 5),(22,lm zm k),(23,pI (k.length:Int)),(24,pI (l:Int))]) (fun l s=>[.cells 33 [lm zd n.r],.mp false (zj zi eE s),.cells 33 [lm zd f.1],.cells 9 [pS f.2.1],.buf 76 5 (List.map zd f.2.2.1),.mp true (zj zi zd f.2.2.2)]) wF hm ?_;clear hm;intro l c a3 hm
 try dsimp only at hm|-
 refine qS ?_
 refine lB zm hm I (fun h=>a1 _ _ _ _ wF (F () (G _ h))) fun Q D o a4 j a5 E hm hA _ R=>?_
 refine q6 ?_
 refine ca fun _ S _=>?_
 obtain⟨a7,J,hm⟩:=ze hm;refine sX (fun hg=>KZ o _ J) ?_;refine q6 ?_
 refine cR hm fun hm=>?_
 refine Wp.skip (S _ _ ?_);obtain⟨i,T,hm⟩:=ze hm;refine sX (fun hg=>vn o _ T) ?_
 refine ca fun _ U _=>?_
 obtain⟨a8,V,hm⟩:=zC hm;have p:=zy (e:=eE) zA c i false;have t:=zx (e:=eE) zA c i;simp only[zi,zp,V,eE,map_nil]at p t;have hA:=And.intro D (And.intro j (And.intro p t));refine q6 ?_
 refine cR hm fun hm=>?_
 refine Wp.skip (U _ _ ?_);obtain⟨a9,hm⟩:=zl hm;have u:=fN (e:=eE) zA c i true;simp only[zi,zp,eE,map_nil]at u;have hA:=And.intro D (And.intro j u);refine q6 ?_
 refine ca fun _ W _=>?_
 obtain⟨m,Y,hm⟩:=zC hm;have v:=zy (e:=zd) zA f.2.2.2 i (ae.mk [] 0 [] [] []);have w:=zx (e:=zd) zA f.2.2.2 i;simp only[zi,zp,Y,zd,map_nil]at v w;have hA:=And.intro D (And.intro j (And.intro v w));refine q6 ?_;obtain⟨Z,L,hm⟩:=zY hm;obtain⟨ac,M,hm⟩:=zY hm
 refine dS (pl [(0,none),(1,none),(2,none),(3,none),(4,none),(5,none),(6,none),(7,none),(8,none)]) fun _ a0=>?_
 refine cD (g:=m.isSome) (fun hg=>KN b o _ (L hg)) ?_;refine cD (g:=m.isSome) (fun hg=>KG (m.getD (ae.mk [] 0 [] [] [])) Z _ (M hg)) (a0 _ _ ?_)
 refine cR hm fun hm=>?_
 refine Wp.skip (W _ _ ?_);obtain⟨ad,N,hm⟩:=ze hm;refine sX (fun hg=>LW o _ N) ?_;refine q6 ?_
 refine cR hm fun hm=>?_
 refine Wp.skip (R _ _ (r6 ?_));exact wN (ec c i true) Q (E _ hm)
theorem MU(b:dX)(f:List (dX×aa))(c:List (dX×Int))(g:List (dX×ab))(i:List (dX×ah))(z:(List (dX×Int)))(hm:IR b f c g i=some z):Does prog 50 [pS b,.ptr 0 0] [.cells 64 [.ptr 1 0],.cells 108 [.mp 2,.mp 3,.mp 4,.mp 5,.nils,.nils],.mp true (zj Dt.s zc f),.mp false (zj Dt.s zh c),.mp true (zj Dt.s za g),.mp true (zj Dt.s zb i)] (fun r X=>r=.tup []/\X=[.cells 64 [.ptr 1 0],.cells 108 [.mp 2,.mp 3,.mp 4,.mp 5,.nils,.nils],.mp true (zj Dt.s zc f),.mp false (zj Dt.s zh z),.mp true (zj Dt.s za g),.mp true (zj Dt.s zb i)]):=by
 unfold IR at hm
 refine dW 6 10 [] func50 fun B=>nA fun hA=>?_
 obtain⟨n,m,hm⟩:=zC hm;have j:=zy (e:=zh) zZ c b 0;have k:=zx (e:=zh) zZ c b;simp only[m,zh,map_nil]at j k;obtain⟨o,hm⟩:=zl hm;have l:=fN (e:=zh) zZ c b (IntKind.i64.wrap ((n.getD 0)+1));simp only[zh,map_nil]at l;have hA:=And.intro j (And.intro k l);refine r6 ?_;refine zq ?_;cases hm;exact eo
theorem Mf(b:dX)(c:List (dX×aa))(n:List (dX×Int))(f:List (dX×ab))(g:List (dX×ah))(z:(List (dX×Int)))(hm:Gv b c n f g=some z):Does prog 49 [pS b,.fn 50 [.ptr 0 0]] [.cells 64 [.ptr 1 0],.cells 108 [.mp 2,.mp 3,.mp 4,.mp 5,.nils,.nils],.mp true (zj Dt.s zc c),.mp false (zj Dt.s zh n),.mp true (zj Dt.s za f),.mp true (zj Dt.s zb g)] (fun r X=>r=.tup []/\X=[.cells 64 [.ptr 1 0],.cells 108 [.mp 2,.mp 3,.mp 4,.mp 5,.nils,.nils],.mp true (zj Dt.s zc c),.mp false (zj Dt.s zh z),.mp true (zj Dt.s za f),.mp true (zj Dt.s zb g)]):=by
 unfold Gv at hm
 refine dW 6 20 [] func49 fun B=>nA fun hA=>?_
 refine qS ?_;refine Wp.block ?_;obtain⟨G,o,hm⟩:=zF hm
 refine fL 0 b.length fun p=>?_
 refine Wp.forL (fun j s=>[(0,pS b),(1,.fn 50 [.ptr 0 0]),(4,pI (j:Int))]) (fun j s=>[.cells 64 [.ptr 1 0],.cells 108 [.mp 2,.mp 3,.mp 4,.mp 5,.nils,.nils],.mp true (zj Dt.s zc c),.mp false (zj Dt.s zh s),.mp true (zj Dt.s za f),.mp true (zj Dt.s zb g)]) wF hm ?_;clear hm;intro j k F hm
 try dsimp only at hm|-
 refine ca fun _ C _=>qS ?_
 refine Wp.cond rfl ⟨⟩ (fun l=>?_) (fun l=>?_)
 rotate_left
 .refine Wp.exit ?_
  have hm:=o _ (nE hm (vF (by first|exact l|simpa using l)))
  try dsimp only at hm
  simp only[zS,zL,↓reduceIte];refine zq ?_;cases hm;exact eo
 have i:=oe l;have D:=lu i p;obtain⟨L,I,t,u,m,hm⟩:=nD hm i;clear t;refine Wp.skip ?_;simp only[zS];refine C _ _ (ca fun _ v _=>Wp.block ?_);have hA:=And.intro D u;refine q6 ?_
 refine cN hm (fun hm=>?_) fun hm=>?_
 .obtain⟨J,hm⟩:=zl hm
  obtain⟨E,w,hm⟩:=ze hm;refine eO [0,1,2,3,4,5] (MU (List.take j b) c k f g _ w) ?_;refine v _ _ (r6 ?_);exact wN E i (m _ hm)
 .refine Wp.skip (v _ _ (r6 ?_))
  exact wN k i (m _ hm)
theorem GF(b:aj)(z:(List (dX×aa))×(List (dX×Int))×(List (dX×ab))×(List (dX×ah)))(hm:rI b=some z):Does prog 15 [.agg [lm za b.q,lm zc b.i,lm za b.n,lm zb b.m]] [] (fun r X=>r=.ptr 5 0/\X=[.cells 26 [.top,.top,.top,.top],.mp true (zj Dt.s zc z.1),.mp false (zj Dt.s zh z.2.1),.mp true (zj Dt.s za z.2.2.1),.mp true (zj Dt.s zb z.2.2.2),.cells 108 [.mp 1,.mp 2,.mp 3,.mp 4,.nils,.nils]]):=by
 unfold rI at hm
 refine dW 6 66 [.tmp 2] func15 fun B=>nA fun hA=>?_
 refine qS ?_;refine qS ?_
 refine ca fun K3 a6 ay=>?_
 obtain⟨az,J,hm⟩:=zN hm
 have Q:∀s,az s=some z->K3 [(1,.ptr 0 0),(3,.ptr 6 0)] [.cells 26 [lm za b.q,lm zc b.i,lm za b.n,lm zb b.m],.mp true (zj Dt.s zc s.1),.mp false (zj Dt.s zh s.2),.mp true (zj Dt.s za []),.mp true (zj Dt.s zb []),.cells 108 [.mp 1,.mp 2,.mp 3,.mp 4,.nils,.nils],.cells 64 [.ptr 5 0]]:=by
  intro s hs;have hm:=J _ hs;clear hs;obtain⟨g,j⟩:=s
  try dsimp only at hm|-
  refine a6 _ _ (ca fun K4 a7 aA=>?_);obtain⟨aB,L,hm⟩:=zN hm
  have R:∀s,aB s=some z->K4 [(1,.ptr 0 0),(3,.ptr 6 0)] [.cells 26 [lm za b.q,lm zc b.i,lm za b.n,lm zb b.m],.mp true (zj Dt.s zc g),.mp false (zj Dt.s zh j),.mp true (zj Dt.s za s),.mp true (zj Dt.s zb []),.cells 108 [.mp 1,.mp 2,.mp 3,.mp 4,.nils,.nils],.cells 64 [.ptr 5 0]]:=by
   intro w hs;have hm:=L _ hs;clear hs
   try dsimp only at hm|-
   refine a7 _ _ (ca fun K5 a8 aC=>?_);obtain⟨aD,M,hm⟩:=zN hm
   have S:∀s,aD s=some z->K5 [(3,.ptr 6 0)] [.cells 26 [.top,.top,.top,.top],.mp true (zj Dt.s zc g),.mp false (zj Dt.s zh j),.mp true (zj Dt.s za w),.mp true (zj Dt.s zb s),.cells 108 [.mp 1,.mp 2,.mp 3,.mp 4,.nils,.nils],.cells 64 [.ptr 5 0]]:=by
    intro aI hs;have hm:=M _ hs;clear hs
    try dsimp only at hm|-
    exact a8 _ _ (wQ)
   clear a8 M;refine qS ?_;refine Wp.block ?_;obtain⟨aP,T,hm⟩:=zF hm
   refine fL 51 b.m.length fun U=>?_
   refine Wp.forL (fun t s=>[(3,.ptr 6 0),(51,lm zb b.m),(52,pI (b.m.length:Int)),(53,pI (t:Int))]) (fun t s=>[.cells 26 [lm za b.q,lm zc b.i,lm za b.n,lm zb b.m],.mp true (zj Dt.s zc g),.mp false (zj Dt.s zh j),.mp true (zj Dt.s za w),.mp true (zj Dt.s zb s),.cells 108 [.mp 1,.mp 2,.mp 3,.mp 4,.nils,.nils],.cells 64 [.ptr 5 0]]) wF hm ?_;clear hm;intro t l aE hm
   try dsimp only at hm|-
   refine qS ?_
   refine lB zb hm U (fun h=>aC _ _ _ _ wF (S l (T _ h))) fun a9 aF C aJ V aK N hm hA _ ac=>?_
   refine q6 ?_;obtain⟨aQ,hm⟩:=zl hm;have D:=fN (e:=zb) zZ l C.o C;simp only[zb,map_nil]at D;have hA:=And.intro aF (And.intro V D)
   refine dE (pl [(0,none),(1,none),(2,none),(3,none),(4,none),(5,none),(6,none),(7,some [])]) fun _ ad=>ad _ _ ?_
   refine ac _ _ (r6 ?_);exact wN (ec l C.o C) a9 (N _ hm)
  clear a7 L;refine qS ?_;refine Wp.block ?_;obtain⟨aR,W,hm⟩:=zF hm
  refine fL 36 b.n.length fun Y=>?_
  refine Wp.forL (fun u s=>[(1,.ptr 0 0),(3,.ptr 6 0),(36,lm za b.n),(37,pI (b.n.length:Int)),(38,pI (u:Int))]) (fun u s=>[.cells 26 [lm za b.q,lm zc b.i,lm za b.n,lm zb b.m],.mp true (zj Dt.s zc g),.mp false (zj Dt.s zh j),.mp true (zj Dt.s za s),.mp true (zj Dt.s zb []),.cells 108 [.mp 1,.mp 2,.mp 3,.mp 4,.nils,.nils],.cells 64 [.ptr 5 0]]) wF hm ?_;clear hm;intro u p aG hm
  try dsimp only at hm|-
  refine qS ?_
  refine lB za hm Y (fun h=>aA _ _ _ _ wF (R p (W _ h))) fun Z af E aL a0 aM O hm hA _ ag=>?_
  refine q6 ?_;obtain⟨aS,hm⟩:=zl hm;have F:=fN (e:=za) zZ p E.k E;simp only[za,map_nil]at F;have hA:=And.intro af (And.intro a0 F)
  refine dE (pl [(0,none),(1,none),(2,none),(3,none),(4,none),(5,none),(6,none),(7,some [])]) fun _ an=>an _ _ ?_
  refine ag _ _ (r6 ?_);exact wN (ec p E.k E) Z (O _ hm)
 clear a6 J;refine qS ?_;refine Wp.block ?_;obtain⟨aT,a1,hm⟩:=zF hm
 refine fL 17 b.i.length fun a2=>?_
 refine Wp.forL (fun v s=>[(1,.ptr 0 0),(3,.ptr 6 0),(17,lm zc b.i),(18,pI (b.i.length:Int)),(19,pI (v:Int))]) (fun v s=>[.cells 26 [lm za b.q,lm zc b.i,lm za b.n,lm zb b.m],.mp true (zj Dt.s zc s.1),.mp false (zj Dt.s zh s.2),.mp true (zj Dt.s za []),.mp true (zj Dt.s zb []),.cells 108 [.mp 1,.mp 2,.mp 3,.mp 4,.nils,.nils],.cells 64 [.ptr 5 0]]) wF hm ?_;clear hm;intro v s aH hm;obtain⟨c,G⟩:=s
 try dsimp only at hm|-
 refine qS ?_
 refine lB zc hm a2 (fun h=>ay _ _ _ _ wF (Q (c,G) (a1 _ h))) fun a3 ap f aN a4 aO P hm hA _ av=>?_
 refine q6 ?_;obtain⟨aU,hm⟩:=zl hm;have I:=fN (e:=zc) zZ c f.a f;simp only[zc,map_nil]at I;have hA:=And.intro ap (And.intro a4 I)
 refine dS (pl [(0,none),(1,none),(2,none),(3,none),(4,none),(5,none),(6,none),(7,some [])]) fun _ aw=>aw _ _ ?_
 obtain⟨ax,a5,hm⟩:=ze hm;refine eO [6,5,1,2,3,4] (Mf f.a (ec c f.a f) G [] [] _ a5) ?_;refine av _ _ (r6 ?_);exact wN (ec c f.a f,ax) a3 (P _ hm)
theorem MR(f:ae)(c:ak)(z:Bool)(hm:I4 f c=some z):Does prog 92 [.agg [pS f.t,pI f.e,pS f.a,pS f.x,pS f.z],.rp [.i .i64 c.e,.s c.g.a,.s c.g.u,.b c.g.w,.s c.j.k,.s c.j.Value,.s c.h.o,.s c.h.a,.b c.h.B,.b c.h.A]] [] (fun r X=>r=pB z/\X=[]):=by
 unfold I4 at hm
 refine dW 0 9 [.tmp 3] func92 fun B=>nA fun hA=>?_
 refine qS ?_;obtain⟨p,l,hm⟩:=ze hm;obtain⟨v,m,hm⟩:=ze hm
 refine dS (pl [(0,none),(1,none),(2,none),(3,none),(4,none),(5,none)]) fun _ n=>?_
 refine cD (fun hg=>z6 f _ l) ?_;refine cD (fun hg=>vn c _ m) (n _ _ ?_);exact wR
theorem NX(f:List ae)(c:ak)(z:Int)(hm:Jd f c=some z):Does prog 94 [lm zd f,.fn 92 [.rp [.i .i64 c.e,.s c.g.a,.s c.g.u,.b c.g.w,.s c.j.k,.s c.j.Value,.s c.h.o,.s c.h.a,.b c.h.B,.b c.h.A]]] [] (fun r X=>r=pI z/\X=[]):=by
 unfold Jd at hm
 refine dW 0 19 [.tmp 4] func94 fun B=>nA fun hA=>?_
 refine qS ?_
 refine ca fun K2 t F=>?_
 obtain⟨G,l,hm⟩:=zN hm
 have n:∀s,G s=some z->K2 [] []:=by
  intro s hs;have hm:=l _ hs;clear hs
  try dsimp only at hm|-
  exact t _ _ (wQ)
 clear t l;refine qS ?_;refine Wp.block ?_;obtain⟨P,v,hm⟩:=zF hm
 refine fL 0 f.length fun C=>?_
 refine Wp.forL (fun m s=>[(0,lm zd f),(1,.fn 92 [.rp [.i .i64 c.e,.s c.g.a,.s c.g.u,.b c.g.w,.s c.j.k,.s c.j.Value,.s c.h.o,.s c.h.a,.b c.h.B,.b c.h.A]]),(7,pI (f.length:Int)),(8,pI (m:Int))]) (fun m s=>[]) wF hm ?_;clear hm;intro m s L hm
 try dsimp only at hm|-
 refine qS ?_
 refine lB zd hm C (fun h=>F _ _ _ _ wF (n () (v _ h))) fun D Q I O M N p hm hA _ J=>?_
 refine q6 ?_;obtain⟨R,E,hm⟩:=ze hm;refine sX (fun hg=>MR I c _ E) ?_
 refine cR hm fun hm=>?_
 refine Wp.skip (J _ _ (r6 ?_));exact wN () D (p _ hm)
theorem NT(f:List ae)(c:ak)(z:Bool)(hm:GX f c=some z):Does prog 93 [lm zd f,.fn 92 [.rp [.i .i64 c.e,.s c.g.a,.s c.g.u,.b c.g.w,.s c.j.k,.s c.j.Value,.s c.h.o,.s c.h.a,.b c.h.B,.b c.h.A]]] [] (fun r X=>r=pB z/\X=[]):=by
 unfold GX at hm
 refine dW 0 9 [.tmp 4] func93 fun B=>nA fun hA=>?_
 refine qS ?_;obtain⟨m,l,hm⟩:=ze hm;refine sX (fun hg=>NX f c _ l) ?_;exact wR
theorem M7(t:am)(b:ak)(c:List (dX×aa))(f:List (dX×Int))(i:List (dX×ab))(l:List (dX×ah))(z:Bool)(hm:GD t b c f i l=some z):Does prog 48 [.ptr 0 0,.agg [lm zd t.r],.agg [pI b.e,pS b.g.a,pS b.g.u,pB b.g.w,pS b.j.k,pS b.j.Value,pS b.h.o,pS b.h.a,pB b.h.B,pB b.h.A]] [.cells 108 [.mp 1,.mp 2,.mp 3,.mp 4,.nils,.nils],.mp true (zj Dt.s zc c),.mp false (zj Dt.s zh f),.mp true (zj Dt.s za i),.mp true (zj Dt.s zb l)] (fun r X=>r=pB z/\X=[.cells 108 [.mp 1,.mp 2,.mp 3,.mp 4,.nils,.nils],.mp true (zj Dt.s zc c),.mp false (zj Dt.s zh f),.mp true (zj Dt.s za i),.mp true (zj Dt.s zb l)]):=by
 unfold GD at hm
 refine dW 5 44 [.tmp 6] func48 fun B=>nA fun hA=>?_
 refine qS ?_
 refine ca fun _ D _=>qS ?_
 refine cR hm fun hm=>?_
 refine Wp.skip (D _ _ ?_);obtain⟨m,v,hm⟩:=zC hm;have n:=zy (e:=zc) zZ c b.g.a (aa.mk [] [] false);have p:=zx (e:=zc) zZ c b.g.a;simp only[v,zc,map_nil]at n p;have hA:=And.intro n p
 refine dS (pl [(0,none),(1,none),(2,none),(3,none),(4,none),(5,none),(6,none),(7,none),(8,none),(9,none),(10,none),(11,some [0,1,2,3,4,5,6,7,8,9,10]),(12,some [10]),(13,none)]) fun _ E=>E _ _ ?_
 refine qS ?_;obtain⟨F,C,hm⟩:=zY hm;refine sX (g:=(m.isSome&&(!((decide (((m.getD (aa.mk [] [] false)).a)=b.g.a))&&((decide (((m.getD (aa.mk [] [] false)).u)=b.g.u))&&(decide (((m.getD (aa.mk [] [] false)).w)=b.g.w))))))) (fun hg=>NT t.r b _ (C hg)) ?_;exact wR
theorem Nd(b:ak)(f:List (dX×aa))(i:List (dX×Int))(l:List (dX×ab))(m:List (dX×ah))(c:List ae)(z:Bool)(hm:yR b f i l m c=some z):Does prog 47 [.agg [pI b.e,pS b.g.a,pS b.g.u,pB b.g.w,pS b.j.k,pS b.j.Value,pS b.h.o,pS b.h.a,pB b.h.B,pB b.h.A],.ptr 0 0,.ptr 6 0] [.cells 64 [.ptr 1 0],.cells 108 [.mp 2,.mp 3,.mp 4,.mp 5,.nils,.nils],.mp true (zj Dt.s zc f),.mp false (zj Dt.s zh i),.mp true (zj Dt.s za l),.mp true (zj Dt.s zb m),.cells 33 [lm zd c]] (fun r X=>r=pB z/\X=[.cells 64 [.ptr 1 0],.cells 108 [.mp 2,.mp 3,.mp 4,.mp 5,.nils,.nils],.mp true (zj Dt.s zc f),.mp false (zj Dt.s zh i),.mp true (zj Dt.s za l),.mp true (zj Dt.s zb m),.cells 33 [lm zd c]]):=by
 unfold yR at hm
 refine dW 7 9 [.tmp 4] func47 fun B=>nA fun hA=>?_
 refine qS ?_;obtain⟨p,n,hm⟩:=ze hm;refine sQ [1,2,3,4,5] (fun hg=>M7 (am.mk c) b f i l m _ n) ?_;exact wR
theorem NZ(j:List ak)(c:List (dX×aa))(f:List (dX×Int))(g:List (dX×ab))(i:List (dX×ah))(b:List ae)(z:Int)(hm:GS j c f g i b=some z):Does prog 91 [lm zm j,.fn 47 [.ptr 0 0,.ptr 6 0]] [.cells 64 [.ptr 1 0],.cells 108 [.mp 2,.mp 3,.mp 4,.mp 5,.nils,.nils],.mp true (zj Dt.s zc c),.mp false (zj Dt.s zh f),.mp true (zj Dt.s za g),.mp true (zj Dt.s zb i),.cells 33 [lm zd b]] (fun r X=>r=pI z/\X=[.cells 64 [.ptr 1 0],.cells 108 [.mp 2,.mp 3,.mp 4,.mp 5,.nils,.nils],.mp true (zj Dt.s zc c),.mp false (zj Dt.s zh f),.mp true (zj Dt.s za g),.mp true (zj Dt.s zb i),.cells 33 [lm zd b]]):=by
 unfold GS at hm
 refine dW 7 19 [.tmp 4] func91 fun B=>nA fun hA=>?_
 refine qS ?_
 refine ca fun K2 u w=>?_
 obtain⟨C,k,hm⟩:=zN hm
 have n:∀s,C s=some z->K2 [] [.cells 64 [.ptr 1 0],.cells 108 [.mp 2,.mp 3,.mp 4,.mp 5,.nils,.nils],.mp true (zj Dt.s zc c),.mp false (zj Dt.s zh f),.mp true (zj Dt.s za g),.mp true (zj Dt.s zb i),.cells 33 [lm zd b]]:=by
  intro s hs;have hm:=k _ hs;clear hs
  try dsimp only at hm|-
  exact u _ _ (wQ)
 clear u k;refine qS ?_;refine Wp.block ?_;obtain⟨L,o,hm⟩:=zF hm
 refine fL 0 j.length fun p=>?_
 refine Wp.forL (fun l s=>[(0,lm zm j),(1,.fn 47 [.ptr 0 0,.ptr 6 0]),(7,pI (j.length:Int)),(8,pI (l:Int))]) (fun l s=>[.cells 64 [.ptr 1 0],.cells 108 [.mp 2,.mp 3,.mp 4,.mp 5,.nils,.nils],.mp true (zj Dt.s zc c),.mp false (zj Dt.s zh f),.mp true (zj Dt.s za g),.mp true (zj Dt.s zb i),.cells 33 [lm zd b]]) wF hm ?_;clear hm;intro l s F hm
 try dsimp only at hm|-
 refine qS ?_
 refine lB zm hm p (fun h=>w _ _ _ _ wF (n () (o _ h))) fun v N D G I J m hm hA _ E=>?_
 refine q6 ?_;obtain⟨M,t,hm⟩:=ze hm;refine sQ [0,1,2,3,4,5,6] (fun hg=>Nd D c f g i b _ t) ?_
 refine cR hm fun hm=>?_
 refine Wp.skip (E _ _ (r6 ?_));exact wN () v (m _ hm)
theorem NU(j:List ak)(c:List (dX×aa))(f:List (dX×Int))(g:List (dX×ab))(i:List (dX×ah))(b:List ae)(z:Bool)(hm:zI j c f g i b=some z):Does prog 46 [lm zm j,.fn 47 [.ptr 0 0,.ptr 6 0]] [.cells 64 [.ptr 1 0],.cells 108 [.mp 2,.mp 3,.mp 4,.mp 5,.nils,.nils],.mp true (zj Dt.s zc c),.mp false (zj Dt.s zh f),.mp true (zj Dt.s za g),.mp true (zj Dt.s zb i),.cells 33 [lm zd b]] (fun r X=>r=pB z/\X=[.cells 64 [.ptr 1 0],.cells 108 [.mp 2,.mp 3,.mp 4,.mp 5,.nils,.nils],.mp true (zj Dt.s zc c),.mp false (zj Dt.s zh f),.mp true (zj Dt.s za g),.mp true (zj Dt.s zb i),.cells 33 [lm zd b]]):=by
 unfold zI at hm
 refine dW 7 9 [.tmp 4] func46 fun B=>nA fun hA=>?_
 refine qS ?_;obtain⟨l,k,hm⟩:=ze hm;refine sQ [0,1,2,3,4,5,6] (fun hg=>NZ j c f g i b _ k) ?_;exact wR
theorem MN(f:aj)(j:am)(b:dX)(k:List ak)(c:au)(z:Int)(hm:DI f j b k c=some z):Does prog 14 [.agg [lm za f.q,lm zc f.i,lm za f.n,lm zb f.m],.agg [lm zd j.r],pS b,lm zm k,.agg [pB c.F,pB c.G]] [] (fun r X=>r=pI z/\X=[]):=by
 unfold DI at hm
 refine dW 0 43 [.tmp 10] func14 fun B=>nA fun hA=>?_
 refine qS ?_
 refine ca fun _ E _=>?_
 obtain⟨L,p,hm⟩:=ze hm;refine sX (fun hg=>Ix f j _ p) ?_;refine qS ?_
 refine cR hm fun hm=>?_
 refine Wp.skip (E _ _ (ca fun _ I _=>?_));obtain⟨M,t,hm⟩:=ze hm;refine sX (fun hg=>xS b _ t) ?_
 refine cR hm fun hm=>?_
 refine Wp.skip (I _ _ (ca fun _ u _=>qS ?_))
 refine cR hm fun hm=>?_
 refine Wp.skip (u _ _ (ca fun _ v _=>?_));obtain⟨N,w,hm⟩:=ze hm;refine sX (fun hg=>MS j b k _ w) ?_;refine qS ?_
 refine cR hm fun hm=>?_
 refine Wp.skip (v _ _ ?_);obtain⟨l,C,hm⟩:=ze hm;refine sO [] (GF f _ C) ?_
 refine ca fun _ D _=>?_
 obtain⟨J,o,hm⟩:=zY hm;refine sQ (g:=!c.F) [9,8,4,5,6,7,1] (fun hg=>NU k l.1 l.2.1 l.2.2.1 l.2.2.2 j.r _ (o hg)) ?_
 refine cR hm fun hm=>?_
 exact Wp.skip (D _ _ (wQ))
theorem IL(c:am)(b:dX)(z:List ae)(hm:rV c b=some z):Does prog 16 [.agg [lm zd c.r],pS b] [] (fun r X=>r=lm zd z/\X=[]):=by
 unfold rV at hm
 refine dW 0 25 [.tmp 4] func16 fun B=>nA fun hA=>?_
 refine qS ?_;refine qS ?_
 refine ca fun K3 m t=>?_
 obtain⟨u,i,hm⟩:=zN hm
 have l:∀s,u s=some z->K3 [(5,.buf 1)] [.cells 33 [.top],.buf 76 5 (List.map zd s)]:=by
  intro w hs;have hm:=i _ hs;clear hs
  try dsimp only at hm|-
  exact m _ _ (wQ)
 clear m i;refine qS ?_;refine Wp.block (cu 5 76 5 rfl ?_);simp only[go_sem,simprocAttr];obtain⟨I,o,hm⟩:=zF hm
 refine fL 9 c.r.length fun p=>?_
 refine Wp.forL (fun j s=>[(1,pS b),(5,.buf 1),(9,lm zd c.r),(10,pI (c.r.length:Int)),(11,pI (j:Int))]) (fun j s=>[.cells 33 [lm zd c.r],.buf 76 5 (List.map zd s)]) wF hm ?_;clear hm;intro j f C hm
 try dsimp only at hm|-
 refine qS ?_
 refine lB zd hm p (fun h=>t _ _ _ _ wF (l f (o _ h))) fun k J v F D E g hm hA _ n=>?_
 refine q6 ?_;refine q6 ?_
 refine cN hm (fun hm=>?_) fun hm=>?_
 .obtain⟨G,hm⟩:=zl hm
  refine r6 ?_;refine n _ _ (r6 ?_);exact wN (f++[v]) k (g _ hm)
 .refine Wp.skip (n _ _ (r6 ?_))
  exact wN f k (g _ hm)
theorem La(b:List ae)(z:(List (al×ae)))(hm:yQ b=some z):Does prog 17 [lm zd b] [] (fun r X=>r=.mp 0/\X=[.mp true (zj zi zd z)]):=by
 unfold yQ at hm
 refine dW 1 19 [.tmp 2] func17 fun B=>nA fun hA=>?_
 refine qS ?_;refine qS ?_
 refine ca fun K3 o C=>?_
 obtain⟨D,f,hm⟩:=zN hm
 have k:∀s,D s=some z->K3 [(3,.mp 0)] [.mp true (zj zi zd s)]:=by
  intro G hs;have hm:=f _ hs;clear hs
  try dsimp only at hm|-
  exact o _ _ (wQ)
 clear o f;refine qS ?_;refine Wp.block ?_;obtain⟨N,t,hm⟩:=zF hm
 refine fL 7 b.length fun l=>?_
 refine Wp.forL (fun g s=>[(3,.mp 0),(7,lm zd b),(8,pI (b.length:Int)),(9,pI (g:Int))]) (fun g s=>[.mp true (zj zi zd s)]) wF hm ?_;clear hm;intro g c I hm
 try dsimp only at hm|-
 refine qS ?_
 refine lB zd hm l (fun h=>C _ _ _ _ wF (k c (t _ h))) fun u E i L m J n hm hA _ F=>?_
 refine q6 ?_;obtain⟨p,v,hm⟩:=ze hm;obtain⟨M,hm⟩:=zl hm;have j:=fN (e:=zd) zA c p i;simp only[zi,zp,zd,map_nil]at j;have hA:=And.intro E (And.intro m j)
 refine dE (pl [(0,none),(1,none),(2,none),(3,none),(4,some [])]) fun _ w=>?_
 refine cD (fun hg=>z6 i _ v) (w _ _ ?_);refine F _ _ (r6 ?_);exact wN (ec c p i) u (n _ hm)
theorem MW(b:al)(c:List (dX×aa))(i:List (dX×Int))(f:List (dX×ab))(g:List (dX×ah))(z:dX×Bool)(hm:IV b c i f g=some z):Does prog 56 [.ptr 0 0,.agg [pI b.C,pS b.y]] [.cells 108 [.mp 1,.mp 2,.mp 3,.mp 4,.nils,.nils],.mp true (zj Dt.s zc c),.mp false (zj Dt.s zh i),.mp true (zj Dt.s za f),.mp true (zj Dt.s zb g)] (fun r X=>r=.tup [pS z.1,pB z.2]/\X=[.cells 108 [.mp 1,.mp 2,.mp 3,.mp 4,.nils,.nils],.mp true (zj Dt.s zc c),.mp false (zj Dt.s zh i),.mp true (zj Dt.s za f),.mp true (zj Dt.s zb g)]):=by
 unfold IV at hm
 refine dW 5 57 [.tmp 4,.tmp 5] func56 fun B=>nA fun hA=>?_
 refine qS ?_
 refine ca fun _ L _=>qS ?_
 refine Wp.block (qS ?_)
 refine cN hm (fun hm=>?_) fun hm=>?_
 .obtain⟨u,v,hm⟩:=zC hm
  have j:=zy (e:=za) zZ f b.y (ab.mk [] []);have k:=zx (e:=za) zZ f b.y;simp only[v,za,map_nil]at j k;have hA:=And.intro j k
  refine dS (pl [(0,none),(1,none),(2,none),(3,none),(4,none),(5,none),(6,none),(7,none),(8,none),(9,none),(10,some [0,1,2,3,4,5,6,7,8,9]),(11,some [9]),(12,none)]) fun _ M=>M _ _ ?_
  obtain⟨P,w,hm⟩:=ze hm;refine sX (fun hg=>GK (u.getD (ab.mk [] [])) _ w) ?_;exact wR
 .refine qS ?_
  refine cN hm (fun hm=>?_) fun hm=>?_
  .obtain⟨D,E,hm⟩:=zC hm
   have l:=zy (e:=zb) zZ g b.y (ah.mk [] [] false false);have m:=zx (e:=zb) zZ g b.y;simp only[E,zb,map_nil]at l m;have hA:=And.intro l m
   refine dS (pl [(0,none),(1,none),(2,none),(3,none),(4,none),(5,none),(6,none),(7,none),(8,none),(9,none),(10,some [0,1,2,3,4,5,6,7,8,9]),(11,some [9]),(12,none)]) fun _ F=>F _ _ ?_
   obtain⟨N,p,hm⟩:=ze hm;refine sX (fun hg=>GJ (D.getD (ah.mk [] [] false false)) _ p) ?_;exact wR
  .refine Wp.skip (L _ _ ?_)
   obtain⟨G,I,hm⟩:=zC hm;have n:=zy (e:=zc) zZ c b.y (aa.mk [] [] false);have o:=zx (e:=zc) zZ c b.y;simp only[I,zc,map_nil]at n o;have hA:=And.intro n o
   refine dS (pl [(0,none),(1,none),(2,none),(3,none),(4,none),(5,none),(6,none),(7,none),(8,none),(9,none),(10,some [0,1,2,3,4,5,6,7,8,9]),(11,some [9]),(12,none)]) fun _ J=>J _ _ ?_
   obtain⟨O,t,hm⟩:=ze hm;refine sX (fun hg=>DJ (G.getD (aa.mk [] [] false)) _ t) ?_;exact wR
theorem Nk(b:ae)(c:List (dX×aa))(f:List (dX×Int))(g:List (dX×ab))(i:List (dX×ah))(z:Int)(hm:Ck b c f g i=some z):Does prog 31 [.ptr 0 0,.agg [pS b.t,pI b.e,pS b.a,pS b.x,pS b.z]] [.cells 108 [.mp 1,.mp 2,.mp 3,.mp 4,.nils,.nils],.mp true (zj Dt.s zc c),.mp false (zj Dt.s zh f),.mp true (zj Dt.s za g),.mp true (zj Dt.s zb i)] (fun r X=>r=pI z/\X=[.cells 108 [.mp 1,.mp 2,.mp 3,.mp 4,.nils,.nils],.mp true (zj Dt.s zc c),.mp false (zj Dt.s zh f),.mp true (zj Dt.s za g),.mp true (zj Dt.s zb i)]):=by
 unfold Ck at hm
 refine dW 5 22 [.tmp 4] func31 fun B=>nA fun hA=>?_
 refine qS ?_;obtain⟨l,j,hm⟩:=ze hm;obtain⟨o,k,hm⟩:=ze hm
 refine rS fun _ m=>?_
 refine cX (fun hg=>z6 b _ j) ?_;refine cQ [0,1,2,3,4] (fun hg=>MW l c f g i _ k) (m _ _ ?_)
 refine ca fun _ n _=>Wp.block (qS ?_)
 refine cR hm fun hm=>?_
 refine qS ?_
 refine cR hm fun hm=>?_
 exact Wp.skip (n _ _ (wQ))
theorem MT(b:dX)(f:List (dX×aa))(c:List (dX×Int))(g:List (dX×ab))(i:List (dX×ah))(j:List ai)(z:(List (dX×Int)))(hm:I5 b f c g i j=some z):Does prog 111 [pS b,.ptr 0 0] [.cells 64 [.ptr 1 0],.cells 108 [.mp 2,.mp 3,.mp 4,.mp 5,.buf 6,.nils],.mp true (zj Dt.s zc f),.mp false (zj Dt.s zh c),.mp true (zj Dt.s za g),.mp true (zj Dt.s zb i),.buf 51 10 (List.map zf j)] (fun r X=>r=.tup []/\X=[.cells 64 [.ptr 1 0],.cells 108 [.mp 2,.mp 3,.mp 4,.mp 5,.buf 6,.nils],.mp true (zj Dt.s zc f),.mp false (zj Dt.s zh z),.mp true (zj Dt.s za g),.mp true (zj Dt.s zb i),.buf 51 10 (List.map zf j)]):=by
 unfold I5 at hm
 refine dW 7 10 [] func111 fun B=>nA fun hA=>?_
 obtain⟨o,n,hm⟩:=zC hm;have k:=zy (e:=zh) zZ c b 0;have l:=zx (e:=zh) zZ c b;simp only[n,zh,map_nil]at k l;obtain⟨p,hm⟩:=zl hm;have m:=fN (e:=zh) zZ c b (IntKind.i64.wrap ((o.getD 0)+1));simp only[zh,map_nil]at m;have hA:=And.intro k (And.intro l m);refine r6 ?_;refine zq ?_;cases hm;exact eo
theorem Mh(b:dX)(c:List (dX×aa))(k:List (dX×Int))(f:List (dX×ab))(g:List (dX×ah))(i:List ai)(z:(List (dX×Int)))(hm:It b c k f g i=some z):Does prog 49 [pS b,.fn 111 [.ptr 0 0]] [.cells 64 [.ptr 1 0],.cells 108 [.mp 2,.mp 3,.mp 4,.mp 5,.buf 6,.nils],.mp true (zj Dt.s zc c),.mp false (zj Dt.s zh k),.mp true (zj Dt.s za f),.mp true (zj Dt.s zb g),.buf 51 10 (List.map zf i)] (fun r X=>r=.tup []/\X=[.cells 64 [.ptr 1 0],.cells 108 [.mp 2,.mp 3,.mp 4,.mp 5,.buf 6,.nils],.mp true (zj Dt.s zc c),.mp false (zj Dt.s zh z),.mp true (zj Dt.s za f),.mp true (zj Dt.s zb g),.buf 51 10 (List.map zf i)]):=by
 unfold It at hm
 refine dW 7 20 [] func49 fun B=>nA fun hA=>?_
 refine qS ?_;refine Wp.block ?_;obtain⟨I,p,hm⟩:=zF hm
 refine fL 0 b.length fun t=>?_
 refine Wp.forL (fun l s=>[(0,pS b),(1,.fn 111 [.ptr 0 0]),(4,pI (l:Int))]) (fun l s=>[.cells 64 [.ptr 1 0],.cells 108 [.mp 2,.mp 3,.mp 4,.mp 5,.buf 6,.nils],.mp true (zj Dt.s zc c),.mp false (zj Dt.s zh s),.mp true (zj Dt.s za f),.mp true (zj Dt.s zb g),.buf 51 10 (List.map zf i)]) wF hm ?_;clear hm;intro l m G hm
 try dsimp only at hm|-
 refine ca fun _ D _=>qS ?_
 refine Wp.cond rfl ⟨⟩ (fun n=>?_) (fun n=>?_)
 rotate_left
 .refine Wp.exit ?_
  have hm:=p _ (nE hm (vF (by first|exact n|simpa using n)))
  try dsimp only at hm
  simp only[zS,zL,↓reduceIte];refine zq ?_;cases hm;exact eo
 have j:=oe n;have E:=lu j t;obtain⟨M,J,u,v,o,hm⟩:=nD hm j;clear u;refine Wp.skip ?_;simp only[zS];refine D _ _ (ca fun _ w _=>Wp.block ?_);have hA:=And.intro E v;refine q6 ?_
 refine cN hm (fun hm=>?_) fun hm=>?_
 .obtain⟨L,hm⟩:=zl hm
  obtain⟨F,C,hm⟩:=ze hm;refine eO [0,1,2,3,4,5,6] (MT (List.take l b) c m f g i _ C) ?_;refine w _ _ (r6 ?_);exact wN F j (o _ hm)
 .refine Wp.skip (w _ _ (r6 ?_))
  exact wN m j (o _ hm)
theorem Np(b:dX)(f:List (dX×aa))(c:List (dX×Int))(g:List (dX×ab))(i:List (dX×ah))(j:List ai)(z:(List (dX×Int)))(hm:I7 b f c g i j=some z):Does prog 112 [pS b,.ptr 0 0] [.cells 64 [.ptr 1 0],.cells 108 [.mp 2,.mp 3,.mp 4,.mp 5,.buf 6,.nils],.mp true (zj Dt.s zc f),.mp false (zj Dt.s zh c),.mp true (zj Dt.s za g),.mp true (zj Dt.s zb i),.buf 51 10 (List.map zf j)] (fun r X=>r=.tup []/\X=[.cells 64 [.ptr 1 0],.cells 108 [.mp 2,.mp 3,.mp 4,.mp 5,.buf 6,.nils],.mp true (zj Dt.s zc f),.mp false (zj Dt.s zh z),.mp true (zj Dt.s za g),.mp true (zj Dt.s zb i),.buf 51 10 (List.map zf j)]):=by
 unfold I7 at hm
 refine dW 7 10 [] func112 fun B=>nA fun hA=>?_
 obtain⟨o,n,hm⟩:=zC hm;have k:=zy (e:=zh) zZ c b 0;have l:=zx (e:=zh) zZ c b;simp only[n,zh,map_nil]at k l;obtain⟨p,hm⟩:=zl hm;have m:=fN (e:=zh) zZ c b (IntKind.i64.wrap ((o.getD 0)-1));simp only[zh,map_nil]at m;have hA:=And.intro k (And.intro l m);refine r6 ?_;refine zq ?_;cases hm;exact eo
theorem Mi(b:dX)(c:List (dX×aa))(k:List (dX×Int))(f:List (dX×ab))(g:List (dX×ah))(i:List ai)(z:(List (dX×Int)))(hm:Iu b c k f g i=some z):Does prog 49 [pS b,.fn 112 [.ptr 0 0]] [.cells 64 [.ptr 1 0],.cells 108 [.mp 2,.mp 3,.mp 4,.mp 5,.buf 6,.nils],.mp true (zj Dt.s zc c),.mp false (zj Dt.s zh k),.mp true (zj Dt.s za f),.mp true (zj Dt.s zb g),.buf 51 10 (List.map zf i)] (fun r X=>r=.tup []/\X=[.cells 64 [.ptr 1 0],.cells 108 [.mp 2,.mp 3,.mp 4,.mp 5,.buf 6,.nils],.mp true (zj Dt.s zc c),.mp false (zj Dt.s zh z),.mp true (zj Dt.s za f),.mp true (zj Dt.s zb g),.buf 51 10 (List.map zf i)]):=by
 unfold Iu at hm
 refine dW 7 20 [] func49 fun B=>nA fun hA=>?_
 refine qS ?_;refine Wp.block ?_;obtain⟨I,p,hm⟩:=zF hm
 refine fL 0 b.length fun t=>?_
 refine Wp.forL (fun l s=>[(0,pS b),(1,.fn 112 [.ptr 0 0]),(4,pI (l:Int))]) (fun l s=>[.cells 64 [.ptr 1 0],.cells 108 [.mp 2,.mp 3,.mp 4,.mp 5,.buf 6,.nils],.mp true (zj Dt.s zc c),.mp false (zj Dt.s zh s),.mp true (zj Dt.s za f),.mp true (zj Dt.s zb g),.buf 51 10 (List.map zf i)]) wF hm ?_;clear hm;intro l m G hm
 try dsimp only at hm|-
 refine ca fun _ D _=>qS ?_
 refine Wp.cond rfl ⟨⟩ (fun n=>?_) (fun n=>?_)
 rotate_left
 .refine Wp.exit ?_
  have hm:=p _ (nE hm (vF (by first|exact n|simpa using n)))
  try dsimp only at hm
  simp only[zS,zL,↓reduceIte];refine zq ?_;cases hm;exact eo
 have j:=oe n;have E:=lu j t;obtain⟨M,J,u,v,o,hm⟩:=nD hm j;clear u;refine Wp.skip ?_;simp only[zS];refine D _ _ (ca fun _ w _=>Wp.block ?_);have hA:=And.intro E v;refine q6 ?_
 refine cN hm (fun hm=>?_) fun hm=>?_
 .obtain⟨L,hm⟩:=zl hm
  obtain⟨F,C,hm⟩:=ze hm;refine eO [0,1,2,3,4,5,6] (Np (List.take l b) c m f g i _ C) ?_;refine w _ _ (r6 ?_);exact wN F j (o _ hm)
 .refine Wp.skip (w _ _ (r6 ?_))
  exact wN m j (o _ hm)
theorem M8(b:ai)(c:List (dX×aa))(l:List (dX×Int))(f:List (dX×ab))(i:List (dX×ah))(m:List ai)(z:(List (dX×aa))×(List (dX×Int))×(List (dX×ab))×(List (dX×ah))×List ai)(hm:I0 b c l f i m=some z):Does prog 80 [.ptr 0 0,.agg [pI b.e,pS b.g.a,pS b.g.u,pB b.g.w,pS b.j.k,pS b.j.Value,pS b.h.o,pS b.h.a,pB b.h.B,pB b.h.A]] [.cells 108 [.mp 1,.mp 2,.mp 3,.mp 4,.buf 5,.nils],.mp true (zj Dt.s zc c),.mp false (zj Dt.s zh l),.mp true (zj Dt.s za f),.mp true (zj Dt.s zb i),.buf 51 10 (List.map zf m)] (fun r X=>r=.tup []/\X=[.cells 108 [.mp 1,.mp 2,.mp 3,.mp 4,.buf 5,.nils],.mp true (zj Dt.s zc z.1),.mp false (zj Dt.s zh z.2.1),.mp true (zj Dt.s za z.2.2.1),.mp true (zj Dt.s zb z.2.2.2.1),.buf 51 10 (List.map zf z.2.2.2.2)]):=by
 unfold I0 at hm
 refine dW 6 99 [] func80 fun B=>nA fun hA=>?_
 refine qS ?_;obtain⟨W,hm⟩:=zl hm
 refine dS (pl [(0,none),(1,none),(2,none),(3,none),(4,none),(5,none),(6,some [0,1,2,3,4]),(7,some [0]),(8,none),(9,none),(10,some [])]) fun _ U=>U _ _ ?_
 refine qS ?_;refine Wp.block (qS ?_)
 refine cN hm (fun hm=>?_) fun hm=>?_
 .refine ca fun _ J _=>?_
  obtain⟨Y,L,hm⟩:=zC hm;have n:=zy (e:=zc) zZ c b.g.a (aa.mk [] [] false);have p:=zx (e:=zc) zZ c b.g.a;simp only[L,zc,map_nil]at n p;have hA:=And.intro n p
  refine dS (pl [(0,none),(1,none),(2,none),(3,none),(4,none),(5,none),(6,none),(7,none),(8,none),(9,none),(10,none),(11,some [0,1,2,3,4,5,6,7,8,9,10]),(12,some [10]),(13,none)]) fun _ V=>V _ _ ?_
  refine qS ?_
  refine cN hm (fun hm=>?_) fun hm=>?_
  .obtain⟨a4,M,hm⟩:=ze hm
   refine eO [6,0,1,2,3,4,5] (Mh b.g.a c l f i (m++[b]) _ M) ?_;refine J _ _ ?_;obtain⟨Z,hm⟩:=zl hm;have D:=fN (e:=zc) zZ c b.g.a b.g;simp only[zc,map_nil]at D;have hA:=D
   refine dE (pl [(0,none),(1,none),(2,none),(3,none),(4,none),(5,none),(6,none),(7,none),(8,none),(9,some [])]) fun _ N=>N _ _ ?_
   simp only[zS,zL,↓reduceIte];refine zq ?_;cases hm;exact eo
  .refine Wp.skip (J _ _ ?_)
   obtain⟨a0,hm⟩:=zl hm;have t:=fN (e:=zc) zZ c b.g.a b.g;simp only[zc,map_nil]at t;have hA:=t
   refine dE (pl [(0,none),(1,none),(2,none),(3,none),(4,none),(5,none),(6,none),(7,none),(8,none),(9,some [])]) fun _ O=>O _ _ ?_
   simp only[zS,zL,↓reduceIte];refine zq ?_;cases hm;exact eo
 .refine qS ?_
  refine cN hm (fun hm=>?_) fun hm=>?_
  .have E:=ve (e:=zc) zZ c b.g.a
   have hA:=E
   refine dS (pl [(0,none),(1,none),(2,none),(3,none),(4,none),(5,none),(6,none),(7,some [])]) fun _ P=>P _ _ ?_
   obtain⟨a1,F,hm⟩:=ze hm;refine eO [6,0,1,2,3,4,5] (Mi b.g.a (fe c b.g.a) l f i (m++[b]) _ F) ?_;simp only[zS,zL,↓reduceIte];refine zq ?_;cases hm;exact eo
  .refine qS ?_
   refine cN hm (fun hm=>?_) fun hm=>?_
   .obtain⟨a2,hm⟩:=zl hm
    have v:=fN (e:=za) zZ f b.j.k b.j;simp only[za,map_nil]at v;have hA:=v
    refine dE (pl [(0,none),(1,none),(2,none),(3,none),(4,none),(5,none),(6,none),(7,none),(8,none),(9,some [])]) fun _ Q=>Q _ _ ?_
    simp only[zS,zL,↓reduceIte];refine zq ?_;cases hm;exact eo
   .refine qS ?_
    refine cN hm (fun hm=>?_) fun hm=>?_
    .have G:=ve (e:=za) zZ f b.j.k
     have hA:=G
     refine dE (pl [(0,none),(1,none),(2,none),(3,none),(4,none),(5,none),(6,none),(7,some [])]) fun _ R=>R _ _ ?_
     simp only[zS,zL,↓reduceIte];refine zq ?_;cases hm;exact eo
    .refine qS ?_
     refine cN hm (fun hm=>?_) fun hm=>?_
     .obtain⟨a3,hm⟩:=zl hm
      have C:=fN (e:=zb) zZ i b.h.o b.h;simp only[zb,map_nil]at C;have hA:=C
      refine dE (pl [(0,none),(1,none),(2,none),(3,none),(4,none),(5,none),(6,none),(7,none),(8,none),(9,some [])]) fun _ S=>S _ _ ?_
      simp only[zS,zL,↓reduceIte];refine zq ?_;cases hm;exact eo
     .have I:=ve (e:=zb) zZ i b.h.o
      have hA:=I
      refine dE (pl [(0,none),(1,none),(2,none),(3,none),(4,none),(5,none),(6,none),(7,some [])]) fun _ T=>T _ _ ?_
      simp only[zS,zL,↓reduceIte];refine zq ?_;cases hm;exact eo
end Go.Proofs.YtggigadnagoglafGreatDoor
