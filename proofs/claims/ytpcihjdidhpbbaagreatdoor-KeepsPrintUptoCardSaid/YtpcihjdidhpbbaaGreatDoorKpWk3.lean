/- That the code does what the models say (part 3). -/
import Derived.Test.YtpcihjdidhpbbaaGreatDoorKpWk0
import Derived.Test.YtpcihjdidhpbbaaGreatDoorKpWk1
import Derived.Test.YtpcihjdidhpbbaaGreatDoorKpWk2
set_option linter.unusedSimpArgs false
set_option linter.unusedVariables false
open Go.Proofs Go.Shelf
open List
namespace Go.Proofs.YtpcihjdidhpbbaaGreatDoor
open Tryz
open Go.Vc Go.Md
set_option maxRecDepth 100000
set_option maxHeartbeats 4000000
theorem Px(b:ak)(c:List ai)(z:ak×Int)(w:BA b c=some z):Does prog 17 [.agg [lm za b.F,lm ze b.B,lm za b.E,lm zb b.D],lm zi c] [] (fun r X=>r=.tup [.agg [lm za z.1.F,lm ze z.1.B,lm za z.1.E,lm zb z.1.D],pI z.2]/\X=[]):=by
 unfold BA at w;refine dW 0 35 [.cell 4 29,.tmp 5] func17 fun B=>nA fun A=>?_;refine qS ?_;refine da fun _ Q _=>?_;obtain⟨d,J,w⟩:=zd w;refine sX (fun a=>H0 b _ J) ?_;refine qS ?_;refine cN w (fun w=>?_) fun w=>?_
 .refine qS ?_;refine Wp.ret ?_;simp only[zz,zw];refine z2 ?_;cases w;exact eS
 .refine Wp.skip (Q _ _ ?_);obtain⟨f,L,w⟩:=zd w;refine sO [] (Iw b _ L) ?_;refine da fun R k M=>?_;obtain⟨S,l,w⟩:=zo w
  have m:∀s,S s=some z->R [(4,.ptr 1 0),(7,.ptr 6 0)] [.cells 29 [.top,.top,.top,.top],.cells 29 [.nils,.nils,.nils,.nils],.cells 29 [.top,.top,.top,.top],.mp true (zH Dt.s ze s.1),.mp false (zH Dt.s ex s.2.1),.mp true (zH Dt.s zb s.2.2),.cells 175 [lm za f.2.2.2,.mp 3,.mp 4,.mp 5]]:=by
   intro s hs;have w:=l _ hs;clear hs;obtain⟨t,u,v⟩:=s;try dsimp only at w|-
   refine k _ _ ?_;obtain⟨e,N,w⟩:=zd w;refine sQ [6,3,4,5] (fun a=>UX f.2.2.2 t u v _ N) ?_;exact wR
  clear k l;refine qS ?_;refine Wp.block ?_;obtain⟨Z,C,w⟩:=zq w;refine fL 19 c.length fun G=>?_;refine Wp.forL (fun n s=>[(4,.ptr 1 0),(7,.ptr 6 0),(19,lm zi c),(20,pI (c.length:Int)),(21,pI (n:Int))]) (fun n s=>[.cells 29 [lm za b.F,lm ze b.B,lm za b.E,lm zb b.D],.cells 29 [.nils,.nils,.nils,.nils],.cells 29 [.top,.top,.top,.top],.mp true (zH Dt.s ze s.1),.mp false (zH Dt.s ex s.2.1),.mp true (zH Dt.s zb s.2.2),.cells 175 [lm za f.2.2.2,.mp 3,.mp 4,.mp 5]]) wF w ?_;clear w;intro n s U w;obtain⟨g,i,j⟩:=s;try dsimp only at w|-
  refine qS ?_;refine lB zi w G (fun h=>M _ _ _ _ wF (m (g,i,j) (C _ h))) fun I q T V W Y o w A _ O=>?_;refine q6 ?_;obtain⟨p,P,w⟩:=zd w;refine sO [6,3,4,5] (PY T f.2.2.2 g i j _ P) ?_;refine q6 ?_;refine cN w (fun w=>?_) fun w=>?_
  .refine q6 ?_;refine Wp.ret ?_;simp only[zz,zw];refine z2 ?_;cases w;simp only[go_sem,simprocAttr,A];try exact un
  .refine Wp.skip (O _ _ (r6 ?_));exact wN (p.2.1,p.2.2.1,p.2.2.2) I (o _ w)
theorem P6(b:ai)(c:List ab)(f:List ae)(i:List ab)(k:List ah)(z:List ab×List ae×List ab×List ah)(w:BN b c f i k=some z):Does prog 27 [.agg [pI b.g,pS b.j.a,pS b.j.G,pB b.j.H,pS b.x.u,pS b.x.Value,pS b.h.C,pS b.h.a,pB b.h.I,pB b.h.J],.ptr 0 0] [.cells 29 [lm za c,lm ze f,lm za i,lm zb k]] (fun r X=>r=.tup []/\X=[.cells 29 [lm za z.1,lm ze z.2.1,lm za z.2.2.1,lm zb z.2.2.2]]):=by
 unfold BN at w;refine dW 1 15 [] func27 fun B=>nA fun A=>?_;refine qS ?_;obtain⟨m,l,w⟩:=zd w;refine sF (Px (ak.mk c f i k) [b] _ l) ?_;refine qS ?_;refine cN w (fun w=>?_) fun w=>?_
 .refine qR ?_;refine zJ ?_;cases w;exact eS
 .refine Wp.skip (zJ ?_);cases w;exact eS
theorem qd(b:ak)(z:ak)(w:GX b=some z):Does prog 6 [.agg [lm za b.F,lm ze b.B,lm za b.E,lm zb b.D]] [] (fun r X=>r=.agg [lm za z.F,lm ze z.B,lm za z.E,lm zb z.D]/\X=[]):=by
 unfold GX at w;refine dW 0 110 [.cell 2 29] func6 fun B=>nA fun A=>?_;refine qS ?_;refine qS ?_;refine da fun a5 e K=>?_;obtain⟨b9,U,w⟩:=zo w;have a7:∀s,b9 s=some z->a5 [(1,.ptr 0 0),(2,.ptr 1 0),(3,.ptr 2 0)] [.cells 29 [lm za b.F,lm ze b.B,lm za b.E,lm zb b.D],.cells 29 [.nils,.nils,.nils,.nils],.cells 29 [.buf 3,.nils,.nils,.nils],.buf 63 2 (List.map za s)]:=by
  intro a8 hs;have w:=U _ hs;clear hs;try dsimp only at w|-
  refine e _ _ (di 3 (by simp only[go_sem,simprocAttr];exact Is.mk) (by simp only[go_sem,simprocAttr]) ?_);simp only[go_sem,simprocAttr];obtain⟨aI,a9,w⟩:=zd w;refine sO [3] (VC a8 _ a9) ?_;refine dj 3 (by simp only[go_sem,simprocAttr];exact Is.mk) (by simp only[go_sem,simprocAttr]) ?_;simp only[go_sem,simprocAttr];refine di 3 (by simp only[go_sem,simprocAttr];exact Is.mk) (by simp only[go_sem,simprocAttr]) ?_;simp only[go_sem,simprocAttr];obtain⟨bv,ac,w⟩:=zd w;refine sO [3] (VD aI _ ac) ?_;refine dj 3 (by simp only[go_sem,simprocAttr];exact Is.mk) (by simp only[go_sem,simprocAttr]) ?_;simp only[go_sem,simprocAttr];refine qS ?_;refine da fun K9 q ba=>?_;obtain⟨bb,V,w⟩:=zo w;have ad:∀s,bb s=some z->K9 [(1,.ptr 0 0),(2,.ptr 1 0),(3,.ptr 2 0),(6,.fn 27 [.ptr 2 0])] [.cells 29 [lm za b.F,lm ze b.B,lm za b.E,lm zb b.D],.cells 29 [.nils,.nils,.nils,.nils],.cells 29 [lm za s.1,lm ze s.2.1,lm za s.2.2.1,lm zb s.2.2.2]]:=by
   intro s hs;have w:=V _ hs;clear hs;obtain⟨aW,aX,aY,aZ⟩:=s;try dsimp only at w|-
   refine q _ _ (da fun bc W aJ=>?_);obtain⟨bd,Y,w⟩:=zo w;have Z:∀s,bd s=some z->bc [(1,.ptr 0 0),(2,.ptr 1 0),(3,.ptr 2 0),(6,.fn 27 [.ptr 2 0])] [.cells 29 [lm za b.F,lm ze b.B,lm za b.E,lm zb b.D],.cells 29 [.nils,.nils,.nils,.nils],.cells 29 [lm za s.1,lm ze s.2.1,lm za s.2.2.1,lm zb s.2.2.2]]:=by
    intro s hs;have w:=Y _ hs;clear hs;obtain⟨b0,b1,b2,b3⟩:=s;try dsimp only at w|-
    refine W _ _ (da fun be a0 aK=>?_);obtain⟨aL,O,w⟩:=zo w;have a1:∀s,aL s=some z->be [(2,.ptr 1 0),(3,.ptr 2 0)] [.cells 29 [.top,.top,.top,.top],.cells 29 [.nils,.nils,.nils,.nils],.cells 29 [lm za s.1,lm ze s.2.1,lm za s.2.2.1,lm zb s.2.2.2]]:=by
     intro s hs;have w:=O _ hs;clear hs;obtain⟨b4,b5,b6,b7⟩:=s;try dsimp only at w|-
     exact a0 _ _ (wQ)
    clear a0 O;obtain⟨bw,w⟩:=zh w;refine q6 ?_;refine Wp.block ?_;obtain⟨bx,af,w⟩:=zq w;refine fL 98 ((List.take ((min (b.D.length:Int) 40).toNat) b.D).length) fun ag=>?_;refine Wp.forL (fun J s=>[(2,.ptr 1 0),(3,.ptr 2 0),(6,.fn 27 [.ptr 2 0]),(98,lm zb (List.take ((min (b.D.length:Int) 40).toNat) b.D)),(99,pI ((List.take ((min (b.D.length:Int) 40).toNat) b.D).length:Int)),(100,pI (J:Int))]) (fun J s=>[.cells 29 [lm za b.F,lm ze b.B,lm za b.E,lm zb b.D],.cells 29 [.nils,.nils,.nils,.nils],.cells 29 [lm za s.1,lm ze s.2.1,lm za s.2.2.1,lm zb s.2.2.2]]) wF w ?_;clear w;intro J s bf w;obtain⟨c,f,i,j⟩:=s;try dsimp only at w|-
    refine qS ?_;refine lB zb w ag (fun h=>aK _ _ _ _ wF (a1 (c,f,i,j) (af _ h))) fun an bz aM bn bg bh a2 w A _ aN=>?_;refine q6 ?_;obtain⟨P,aO,w⟩:=zd w;refine eO [2] (P6 (ai.mk 5 (ae.mk [] [] false) (ab.mk [] []) aM) c f i j _ aO) ?_;refine aN _ _ (r6 ?_);exact wN (P.1,P.2.1,P.2.2.1,P.2.2.2) an (a2 _ w)
   clear W Y;obtain⟨bA,w⟩:=zh w;refine q6 ?_;refine Wp.block ?_;obtain⟨bB,av,w⟩:=zq w;refine fL 81 ((List.take ((min (b.E.length:Int) 40).toNat) b.E).length) fun aw=>?_;refine Wp.forL (fun L s=>[(1,.ptr 0 0),(2,.ptr 1 0),(3,.ptr 2 0),(6,.fn 27 [.ptr 2 0]),(81,lm za (List.take ((min (b.E.length:Int) 40).toNat) b.E)),(82,pI ((List.take ((min (b.E.length:Int) 40).toNat) b.E).length:Int)),(83,pI (L:Int))]) (fun L s=>[.cells 29 [lm za b.F,lm ze b.B,lm za b.E,lm zb b.D],.cells 29 [.nils,.nils,.nils,.nils],.cells 29 [lm za s.1,lm ze s.2.1,lm za s.2.2.1,lm zb s.2.2.2]]) wF w ?_;clear w;intro L s bi w;obtain⟨k,l,m,n⟩:=s;try dsimp only at w|-
   refine qS ?_;refine lB za w aw (fun h=>aJ _ _ _ _ wF (Z (k,l,m,n) (av _ h))) fun ay bC aP bo bj bk a3 w A _ aQ=>?_;refine q6 ?_;obtain⟨Q,aR,w⟩:=zd w;refine eO [2] (P6 (ai.mk 3 (ae.mk [] [] false) aP (ah.mk [] [] false false)) k l m n _ aR) ?_;refine aQ _ _ (r6 ?_);exact wN (Q.1,Q.2.1,Q.2.2.1,Q.2.2.2) ay (a3 _ w)
  clear q V;obtain⟨bD,w⟩:=zh w;refine q6 ?_;refine Wp.block (Wp.freeze 3 (by simp only[go_sem,simprocAttr];exact Is.mk) (by first|(simp only[go_sem,simprocAttr];done)|(simp only[go_sem,simprocAttr];omega)) ?_);simp only[go_sem,simprocAttr];obtain⟨bE,az,w⟩:=zq w;refine fL 56 ((List.take ((min (b.B.length:Int) 40).toNat) b.B).length) fun aA=>?_;refine Wp.forL (fun M s=>[(1,.ptr 0 0),(2,.ptr 1 0),(3,.ptr 2 0),(6,.fn 27 [.ptr 2 0]),(56,lm ze (List.take ((min (b.B.length:Int) 40).toNat) b.B)),(57,pI ((List.take ((min (b.B.length:Int) 40).toNat) b.B).length:Int)),(58,pI (M:Int))]) (fun M s=>[.cells 29 [lm za b.F,lm ze b.B,lm za b.E,lm zb b.D],.cells 29 [.nils,.nils,.nils,.nils],.cells 29 [lm za s.1,lm ze s.2.1,lm za s.2.2.1,lm zb s.2.2.2],.gone]) wF w ?_;clear w;intro M s bl w;obtain⟨o,p,t,v⟩:=s;try dsimp only at w|-
  refine qS ?_;refine lB ze w aA (fun h=>ba _ _ _ _ wF (ad (o,p,t,v) (az _ h))) fun aB bF R bp bq br a4 w A _ aS=>?_;refine q6 ?_;obtain⟨bG,w⟩:=zh w;refine q6 ?_;obtain⟨S,aT,w⟩:=zd w;refine eO [2] (P6 (ai.mk 1 (ae.mk R.a (List.take ((min (R.G.length:Int) 3000).toNat) R.G) R.H) (ab.mk [] []) (ah.mk [] [] false false)) o p t v _ aT) ?_;refine aS _ _ (r6 ?_);exact wN (S.1,S.2.1,S.2.2.1,S.2.2.2) aB (a4 _ w)
 clear e U;refine qS ?_;refine Wp.block (dd 2 0 63 2 rfl rfl ?_);simp only[go_sem,simprocAttr];obtain⟨bH,aC,w⟩:=zq w;refine fL 15 b.F.length fun aD=>?_;refine Wp.forL (fun N s=>[(1,.ptr 0 0),(2,.ptr 1 0),(3,.ptr 2 0),(15,lm za b.F),(16,pI (b.F.length:Int)),(17,pI (N:Int))]) (fun N s=>[.cells 29 [lm za b.F,lm ze b.B,lm za b.E,lm zb b.D],.cells 29 [.nils,.nils,.nils,.nils],.cells 29 [.buf 3,.nils,.nils,.nils],.buf 63 2 (List.map za s)]) wF w ?_;clear w;intro N C bm w;try dsimp only at w|-
 refine qS ?_;refine lB za w aD (fun h=>K _ _ _ _ wF (a7 C (aC _ h))) fun T bI d bs bt bu I w A _ x=>?_;refine q6 ?_;obtain⟨aU,aE,w⟩:=zd w;obtain⟨bJ,aF,w⟩:=zx w;refine rS fun _ aV=>?_;refine cX (fun y=>yc d.u _ aE) ?_;refine cX (g:=aU) (fun y=>PP d.Value _ (aF y)) (aV _ _ ?_);refine cN w (fun w=>?_) fun w=>?_
 .obtain⟨bK,w⟩:=zh w;refine r6 ?_;refine x _ _ (r6 ?_);exact wN (C++[d]) T (I _ w)
 .refine Wp.skip (x _ _ (r6 ?_));exact wN C T (I _ w)
theorem qa(b:ev)(z:Bool)(w:G3 b=some z):Does prog 35 [pS b] [] (fun r X=>r=pB z/\X=[]):=by
 unfold G3 at w;refine dW 0 31 [.tmp 2] func35 fun B=>nA fun A=>?_;refine qS ?_;refine da fun a j n=>?_;obtain⟨o,c,w⟩:=zo w;have g:∀s,o s=some z->a [(0,pS b)] []:=by
  intro s hs;have w:=c _ hs;clear hs;try dsimp only at w|-
  exact j _ _ (wQ)
 clear j c;refine qS ?_;refine Wp.block ?_;obtain⟨C,k,w⟩:=zq w;refine fL 0 b.length fun l=>?_;refine Wp.forL (fun f s=>[(0,pS b),(6,pI (b.length:Int)),(7,pI (f:Int))]) (fun f s=>[]) wF w ?_;clear w;intro f s t w;try dsimp only at w|-
 refine qS ?_;refine lS w l (fun h=>n _ _ _ _ wF (g () (k _ h))) fun m D E v u i w A _ p=>?_;refine q6 ?_;refine q6 ?_;refine q6 ?_;refine cR w fun w=>?_;refine Wp.skip (p _ _ (r6 ?_));exact wN () m (i _ w)
theorem Ve(b:Int)(z:Bool)(w:N6 b=some z):Does prog 194 [pI b] [] (fun r X=>r=pB z/\X=[]):=by
 unfold N6 at w;refine dW 0 8 [.tmp 2] func194 fun B=>nA fun A=>?_;refine qS ?_;exact wQ
theorem U3(b:Int)(z:Int)(w:Qe b=some z):Does prog 211 [.p (.i .u64 b)] [] (fun r X=>r=pI z/\X=[]):=by
 unfold Qe at w;refine dW 0 14 [.tmp 2] func211 fun B=>nA fun A=>?_;refine qS ?_;refine da fun _ c _=>qS ?_;refine cR w fun w=>?_;refine Wp.skip (c _ _ ?_);obtain⟨f,w⟩:=zh w;exact wQ
theorem U4(b:Int)(z:Int)(w:NT b=some z):Does prog 195 [.p (.i .u64 b)] [] (fun r X=>r=pI z/\X=[]):=by
 unfold NT at w;refine dW 0 8 [.tmp 2] func195 fun B=>nA fun A=>?_;refine qS ?_;refine da fun _ g _=>Wp.cond rfl ⟨⟩ (fun c=>?_) (fun c=>?_)
 .cases c
 refine Wp.skip (g _ _ ?_);obtain⟨j,f,w⟩:=zd w;refine sX (fun a=>U3 b _ f) ?_;exact wR
theorem Vg(c:List Int)(n:Int)(b:Int)(f:Bool)(a:Bool)(z:List Int×ev)(w:I0 c n b f a=some z):Does prog 169 [lm eU c,.p (.i .u64 n),pI b,pB f,pB a] [] (fun r X=>r=.tup [lm eU z.1,pS z.2]/\X=[]):=by
 unfold I0 at w;refine dW 0 102 [.tmp 10,.tmp 11] func169 fun B=>nA fun A=>?_;refine qS ?_;refine da fun a6 d H=>?_;obtain⟨K,C,w⟩:=zo w;have Y:∀s,K s=some z->a6 [(0,lm eU c),(1,.p (.i .u64 n)),(2,pI b),(3,pB f),(4,pB a),(10,.nils),(11,pS ([]))] []:=by
  intro s hs;have w:=C _ hs;clear hs;try dsimp only at w|-
  refine d _ _ (qS ?_);refine qS ?_;refine da fun K5 e h=>?_;obtain⟨ay,D,w⟩:=zo w;have E:∀s,ay s=some z->K5 [(0,lm eU c),(1,.p (.i .u64 s)),(2,pI b),(3,pB f),(4,pB a),(10,.nils),(11,pS ([])),(12,.ptr 0 0),(13,pI 65)] [.buf 248 1 (List.map eU (List.replicate 65 0))]:=by
   intro aU hs;have w:=D _ hs;clear hs;try dsimp only at w|-
   refine e _ _ (da fun K6 q a5=>?_);obtain⟨az,F,w⟩:=zo w;have G:∀s,az s=some z->K6 [(0,lm eU c),(3,pB f),(4,pB a),(10,.nils),(11,pS ([])),(12,.ptr 0 0),(13,pI s.1)] [.buf 248 1 (List.map eU s.2)]:=by
    intro s hs;have w:=F _ hs;clear hs;obtain⟨o,I⟩:=s;try dsimp only at w|-
    refine q _ _ (da fun K7 x y=>?_);obtain⟨aA,J,w⟩:=zo w;have L:∀s,aA s=some z->K7 [(0,lm eU c),(4,pB a),(10,.nils),(11,pS ([])),(12,.ptr 0 0),(13,pI s.1)] [.buf 248 1 (List.map eU s.2)]:=by
     intro s hs;have w:=J _ hs;clear hs;obtain⟨aV,aN⟩:=s;try dsimp only at w|-
     refine x _ _ (da fun _ aK _=>qS ?_);refine cN w (fun w=>?_) fun w=>?_
     .obtain⟨aW,w⟩:=zh w;cases w
     .refine Wp.skip (aK _ _ ?_);obtain⟨aX,w⟩:=zh w;refine q6 ?_;refine Wp.ret ?_;refine z2 ?_;cases w;exact jD
    clear x J;refine qS ?_;refine cN w (fun w=>?_) fun w=>?_
    .refine qS ?_;obtain⟨aY,w⟩:=zh w;refine r6 ?_;refine y _ _ _ _ ?_ (L (IntKind.i64.wrap (o-1),List.set I ((IntKind.i64.wrap (o-1)).toNat) 45) w);exact jD
    .refine Wp.skip (y _ _ _ _ ?_ (L (o,I) w));exact jD
   clear q F;obtain⟨aZ,Z,w⟩:=zd w;refine sX (fun hg=>Ve b _ Z) ?_;refine cN w (fun w=>?_) fun w=>?_
   .obtain⟨Q,a0,w⟩:=zd w;refine sX (fun hg=>U4 (IntKind.u64.wrap b) _ a0) ?_;refine qS ?_;refine qS ?_;refine da fun aL R aB=>?_;obtain⟨aC,M,w⟩:=zo w
    have S:∀s,aC s=some z->aL [(0,lm eU c),(1,.p (.i .u64 s.1)),(3,pB f),(4,pB a),(10,.nils),(11,pS ([])),(12,.ptr 0 0),(13,pI s.2.1)] [.buf 248 1 (List.map eU s.2.2)]:=by
     intro s hs;have w:=M _ hs;clear hs;obtain⟨aD,T,a1⟩:=s;try dsimp only at w|-
     refine R _ _ (qS ?_);obtain⟨af,aO,g,w⟩:=mK w;replace g:((([48,49,50,51,52,53,54,55,56,57,97,98,99,100,101,102,103,104,105,106,107,108,109,110,111,112,113,114,115,116,117,118,119,120,121,122]:ev).getD aD.toNat 0).toNat:Int)=af:=g;obtain⟨b0,w⟩:=zh w;have A:=g;refine r6 ?_;refine a5 _ _ _ _ ?_ (G (IntKind.i64.wrap (T-1),List.set a1 ((IntKind.i64.wrap (T-1)).toNat) af) w);simp only[go_sem,simprocAttr,A];try exact vz
    clear R M;refine Wp.block ?_;obtain⟨b1,a2,w⟩:=ii w;refine Wp.loopN (fun s=>[(0,lm eU c),(1,.p (.i .u64 s.1)),(3,pB f),(4,pB a),(10,.nils),(11,pS ([])),(12,.ptr 0 0),(13,pI s.2.1),(14,.p (.i .u64 (IntKind.u64.wrap Q))),(15,.p (.i .u64 (IntKind.u64.wrap b))),(16,.p (.i .u64 (IntKind.u64.wrap ((IntKind.u64.wrap b)-1))))]) (fun s=>[.buf 248 1 (List.map eU s.2.2)]) ?_ w ?_
    .exact jD
    clear w;intro s aP w;obtain⟨t,u,N⟩:=s;try dsimp only at w|-
    refine da fun _ aE _=>qS ?_;refine cN w (fun w=>?_) fun w=>?_
    .refine Wp.skip (aE _ _ (Wp.block (qS ?_)));obtain⟨ag,aQ,j,w⟩:=mK w;replace j:((([48,49,50,51,52,53,54,55,56,57,97,98,99,100,101,102,103,104,105,106,107,108,109,110,111,112,113,114,115,116,117,118,119,120,121,122]:ev).getD ((fl .and .u64 t (IntKind.u64.wrap ((IntKind.u64.wrap b)-1))).toNat) 0).toNat:Int)=ag:=j;obtain⟨b2,w⟩:=zh w;have A:=j;refine q6 ?_;obtain⟨b3,w⟩:=zh w;refine r6 ?_;simp only[zz,zw,↓reduceIte];refine⟨(Int.fdiv t (2^(fA .u64 (IntKind.u64.wrap Q))),IntKind.i64.wrap (u-1),List.set N ((IntKind.i64.wrap (u-1)).toNat) ag),w,?_⟩;simp only[go_sem,simprocAttr,A];try exact vz
    .refine Wp.exit ?_;simp only[zz,zw,↓reduceIte];have w:=a2 _ w;try dsimp only at w
     refine aB _ _ _ _ ?_ (S (t,u,N) w);exact jD
   .refine qS ?_;refine da fun aM U aF=>?_;obtain⟨aG,O,w⟩:=zo w
    have V:∀s,aG s=some z->aM [(0,lm eU c),(1,.p (.i .u64 s.1)),(3,pB f),(4,pB a),(10,.nils),(11,pS ([])),(12,.ptr 0 0),(13,pI s.2.1)] [.buf 248 1 (List.map eU s.2.2)]:=by
     intro s hs;have w:=O _ hs;clear hs;obtain⟨aH,W,a3⟩:=s;try dsimp only at w|-
     refine U _ _ (qS ?_);obtain⟨an,aR,k,w⟩:=mK w;replace k:((([48,49,50,51,52,53,54,55,56,57,97,98,99,100,101,102,103,104,105,106,107,108,109,110,111,112,113,114,115,116,117,118,119,120,121,122]:ev).getD aH.toNat 0).toNat:Int)=an:=k;obtain⟨b4,w⟩:=zh w;have A:=k;refine r6 ?_;refine a5 _ _ _ _ ?_ (G (IntKind.i64.wrap (W-1),List.set a3 ((IntKind.i64.wrap (W-1)).toNat) an) w);simp only[go_sem,simprocAttr,A];try exact vz
    clear U O;refine Wp.block ?_;obtain⟨b5,a4,w⟩:=ii w;refine Wp.loopN (fun s=>[(0,lm eU c),(1,.p (.i .u64 s.1)),(3,pB f),(4,pB a),(10,.nils),(11,pS ([])),(12,.ptr 0 0),(13,pI s.2.1),(17,.p (.i .u64 (IntKind.u64.wrap b)))]) (fun s=>[.buf 248 1 (List.map eU s.2.2)]) ?_ w ?_
    .exact jD
    clear w;intro s aS w;obtain⟨l,v,P⟩:=s;try dsimp only at w|-
    refine da fun _ aI _=>qS ?_;refine cN w (fun w=>?_) fun w=>?_
    .refine Wp.skip (aI _ _ (Wp.block (qS ?_)));obtain⟨b6,w⟩:=zh w;refine q6 ?_;obtain⟨av,aT,m,w⟩:=mK w;replace m:((([48,49,50,51,52,53,54,55,56,57,97,98,99,100,101,102,103,104,105,106,107,108,109,110,111,112,113,114,115,116,117,118,119,120,121,122]:ev).getD ((IntKind.u64.wrap (l-(IntKind.u64.wrap ((IntKind.u64.wrap (Int.tdiv l (IntKind.u64.wrap b)))*(IntKind.u64.wrap b))))).toNat) 0).toNat:Int)=av:=m;obtain⟨b7,w⟩:=zh w;have A:=m;refine q6 ?_;refine r6 ?_;simp only[zz,zw,↓reduceIte];refine⟨(IntKind.u64.wrap (Int.tdiv l (IntKind.u64.wrap b)),IntKind.i64.wrap (v-1),List.set P ((IntKind.i64.wrap (v-1)).toNat) av),w,?_⟩;simp only[go_sem,simprocAttr,A];try exact vz
    .refine Wp.exit ?_;simp only[zz,zw,↓reduceIte];have w:=a4 _ w;try dsimp only at w
     refine aF _ _ _ _ ?_ (V (l,v,P) w);exact jD
  clear e D;refine qS ?_;refine cN w (fun w=>?_) fun w=>?_
  .refine qR ?_;refine h _ _ _ _ ?_ (E (IntKind.u64.wrap (-n)) w);exact jD
  .refine Wp.skip (h _ _ _ _ ?_ (E n w));exact jD
 clear d C;refine qS ?_;refine cN w (fun w=>?_) fun w=>?_
 .cases w
 .refine Wp.skip (H _ _ _ _ ?_ (Y () w));exact jD
theorem Vf(c:Int)(b:Int)(z:ev)(w:N5 c b=some z):Does prog 140 [.p (.i .u64 c),pI b] [] (fun r X=>r=pS z/\X=[]):=by
 unfold N5 at w;refine dW 0 32 [.tmp 4] func140 fun B=>nA fun A=>?_;refine qS ?_;refine da fun _ g _=>qS ?_;refine cN w (fun w=>?_) fun w=>?_
 .refine da fun _ j _=>qS ?_;refine cN w (fun w=>?_) fun w=>?_
  .cases w
  .refine Wp.skip (j _ _ (qS ?_));cases w
 .refine Wp.skip (g _ _ ?_);obtain⟨k,f,w⟩:=zd w;refine sF (Vg [] c b false false _ f) ?_;exact wQ
theorem UY(c:Int)(b:Int)(z:ev)(w:IP c b=some z):Does prog 100 [.p (.i .u64 c),pI b] [] (fun r X=>r=pS z/\X=[]):=by
 unfold IP at w;refine dW 0 8 [.tmp 4] func100 fun B=>nA fun A=>?_;refine qS ?_;obtain⟨g,f,w⟩:=zd w;refine sX (fun a=>Vf c b _ f) ?_;exact wR
theorem UI(b:Int)(c:Int)(z:Int×Int)(w:P5 b c=some z):Does prog 171 [.p (.i .u64 b),.p (.i .u64 c)] [] (fun r X=>r=.tup [.p (.i .u64 z.1),.p (.i .u64 z.2)]/\X=[]):=by
 unfold P5 at w;refine dW 0 51 [.tmp 4,.tmp 5] func171 fun B=>nA fun A=>?_;refine qS ?_;refine qS ?_;refine qS ?_;refine qS ?_;refine qS ?_;refine qS ?_;refine qS ?_;refine qS ?_;refine qS ?_;refine qS ?_;refine qS ?_;exact wQ
theorem Uh(b:Int)(c:Int)(z:Int×Int)(w:ND b c=some z):Does prog 141 [.p (.i .u64 b),.p (.i .u64 c)] [] (fun r X=>r=.tup [.p (.i .u64 z.1),.p (.i .u64 z.2)]/\X=[]):=by
 unfold ND at w;refine dW 0 30 [.tmp 4,.tmp 5] func141 fun B=>nA fun A=>?_;refine qS ?_;refine da fun _ j _=>Wp.cond rfl ⟨⟩ (fun f=>?_) (fun f=>?_)
 .cases f
 refine Wp.skip (j _ _ ?_);obtain⟨k,g,w⟩:=zd w;refine sX (fun a=>UI b c _ g) ?_;exact wQ
theorem S4(n:Int)(a:ev)(z:Unit)(w:IQ n a=some z):Does prog 49 [.ptr 0 0,pI n] [.cells 82 [.np 0,.buf 1],.sb 5 a] (fun r X=>r=.tup []/\X=[.cells 82 [.np 0,.buf 1],.sb 5 a]):=by obtain⟨h,-⟩:=zh w;obtain⟨k,rfl⟩:=Int.eq_ofNat_of_zero_le h.1;exact Does.grow AP AQ k a (by omega)
theorem Vb(b:ev)(z:Unit)(w:S7 b=some z):Does prog 99 [.ptr 0 0] [.cells 82 [.nil,.buf 1],.sb 5 b] (fun r X=>r=.tup []/\X=[.cells 82 [.ptr 0 0,.buf 1],.sb 5 b]):=by
 unfold S7 at w;refine dW 2 20 [] func99 fun B=>nA fun A=>?_;refine qS ?_;refine Wp.cond rfl ⟨⟩ (fun c=>?_) (fun c=>?_);rotate_left
 .cases c
 refine Wp.region fun a f=>?_;simp only[go_sem,simprocAttr];try refine⟨sd,?_⟩
 refine ep (v:=?av4) (g:=true) Ak si si sg ?cont4;simp only[go_sem,simprocAttr];refine kA f ?_;refine zJ ?_;cases w;exact jD
theorem Vd(b:ev)(z:Unit)(w:S8 b=some z):Does prog 99 [.ptr 0 0] [.cells 82 [.ptr 0 0,.buf 1],.sb 5 b] (fun r X=>r=.tup []/\X=[.cells 82 [.ptr 0 0,.buf 1],.sb 5 b]):=by
 unfold S8 at w;refine dW 2 20 [] func99 fun B=>nA fun A=>?_;refine qS ?_;refine Wp.cond rfl ⟨⟩ (fun c=>?_) (fun c=>?_)
 .cases c
 refine qS ?_;refine Wp.cond rfl ⟨⟩ (fun f=>?_) (fun f=>?_)
 .cases f
 refine Wp.skip (zJ ?_);cases w;exact jD
theorem S5(a:ev)(z:Unit)(w:I3 a=some z):Does prog 99 [.ptr 0 0] [.cells 82 [.np 0,.buf 1],.sb 5 a] (fun r X=>r=.tup []/\X=[.cells 82 [.np 0,.buf 1],.sb 5 a]) :=
 Does.np (Vb a () rfl) (Vd a () rfl)
theorem zF(c:ev)(b:ev)(z:Int×ev)(w:zp c b=some z):Does prog 31 [.ptr 0 0,pS c] [.cells 82 [.np 0,.buf 1],.sb 5 b] (fun r X=>r=.tup [pI z.1,.raw .nilIface]/\X=[.cells 82 [.np 0,.buf 1],.sb 5 z.2]):=by
 unfold zp at w;refine dW 2 19 [.tmp 4,.tmp 5] func31 fun B=>nA fun A=>?_;refine qS ?_;obtain⟨g,f,w⟩:=zd w;refine sO [0,1] (S5 b _ f) ?_;obtain⟨i,w⟩:=zh w;refine q6 ?_;exact wQ
theorem NS(b:ev)(z:Int)(w:Df b=some z):Does prog 33 [.ptr 0 0] [.cells 82 [.np 0,.buf 1],.sb 5 b] (fun r X=>r=pI z/\X=[.cells 82 [.np 0,.buf 1],.sb 5 b]):=by
 unfold Df at w;refine dW 2 8 [.tmp 2] func33 fun B=>nA fun A=>?_;refine qS ?_;exact wQ
theorem I1(b:ev)(z:ev)(w:zN b=some z):Does prog 34 [.ptr 0 0] [.cells 82 [.np 0,.buf 1],.sb 5 b] (fun r X=>r=pS z/\X=[.cells 82 [.np 0,.buf 1],.sb 5 b]):=by
 unfold zN at w;refine dW 2 14 [.tmp 2] func34 fun B=>nA fun A=>?_;refine qS ?_;refine dS (pl [(0,none),(1,none),(2,none),(3,none),(5,none),(6,none),(7,none),(8,none),(9,none),(4,some [5,6,7,8,9]),(10,some []),(11,none)]) fun _ c=>c _ _ ?_;exact wR
theorem UB(b:ev)(j:Int)(z:ev)(w:IB b j=some z):Does prog 101 [pS b,pI j] [] (fun r X=>r=pS z/\X=[]):=by
 unfold IB at w;refine dW 0 125 [.tmp 4] func101 fun B=>nA fun A=>?_;refine qS ?_;refine da fun _ d _=>qS ?_;refine Wp.block (qS ?_);refine cR w fun w=>?_;refine qS ?_;refine cR w fun w=>?_;refine Wp.skip (d _ _ (da fun e E h=>?_));obtain⟨q,F,w⟩:=zo w;have G:∀s,q s=some z->e [(0,pS b),(1,pI j)] []:=by
  intro s hs;have w:=F _ hs;clear hs;try dsimp only at w|-
  refine E _ _ ?_;obtain⟨c,c0,w⟩:=zd w;refine sX (fun a=>Uh (IntKind.u64.wrap (b.length:Int)) (IntKind.u64.wrap j) _ c0) ?_;refine da fun x I y=>?_;obtain⟨c1,J,w⟩:=zo w;have L:∀s,c1 s=some z->x [(0,pS b),(6,.p (.i .u64 c.2))] []:=by
   intro s hs;have w:=J _ hs;clear hs;try dsimp only at w|-
   refine I _ _ (qS ?_);refine da fun _ H _=>qS ?_;refine cR w fun w=>?_;refine Wp.skip (H _ _ (da fun K M N=>?_));obtain⟨aL,O,w⟩:=zo w;have u:∀s,aL s=some z->K [(0,pS b),(7,pI (IntKind.i64.wrap c.2))] []:=by
    intro s hs;have w:=O _ hs;clear hs;try dsimp only at w|-
    refine M _ _ (qS ?_);refine da fun aM P v=>?_;obtain⟨aN,Q,w⟩:=zo w;have m:∀s,aN s=some z->aM [(0,pS b),(7,pI (IntKind.i64.wrap c.2)),(8,pI s)] []:=by
     intro k hs;have w:=Q _ hs;clear hs;try dsimp only at w|-
     refine P _ _ (qS ?_);refine dz 0 5 rfl ?_;simp only[go_sem,simprocAttr];obtain⟨aT,U,w⟩:=zd w;refine sO [0,1] (S4 (IntKind.i64.wrap c.2) [] _ U) ?_;obtain⟨aU,V,w⟩:=zd w;refine sO [0,1] (zF b [] _ V) ?_;refine da fun aO R an=>?_;obtain⟨av,C,w⟩:=zo w;have S:∀s,av s=some z->aO [(9,.ptr 0 0)] [.cells 82 [.np 0,.buf 1],.sb 5 s]:=by
      intro W hs;have w:=C _ hs;clear hs;try dsimp only at w|-
      refine R _ _ ?_;obtain⟨aV,Y,w⟩:=zd w;refine sO [0,1] (I1 W _ Y) ?_;exact wR
     clear R C;refine Wp.block ?_;obtain⟨aW,Z,w⟩:=ii w;refine Wp.loopN (fun s=>[(7,pI (IntKind.i64.wrap c.2)),(8,pI k),(9,.ptr 0 0)]) (fun s=>[.cells 82 [.np 0,.buf 1],.sb 5 s]) ?_ w ?_
     .exact jD
     clear w;intro l aR w;try dsimp only at w|-
     refine da fun _ aw _=>?_;obtain⟨aX,a0,w⟩:=zd w;refine sO [0,1] (NS l _ a0) ?_;refine cN w (fun w=>?_) fun w=>?_
     .refine Wp.skip (aw _ _ (Wp.block ?_));obtain⟨ay,a1,w⟩:=zd w;obtain⟨az,a2,w⟩:=zd w;refine rS fun _ aA=>?_;refine cO [0,1] (NS l _ a1) ?_;refine cO [0,1] (NS l _ a2) (aA _ _ ?_);obtain⟨aB,a3,w⟩:=zd w;obtain⟨aY,w⟩:=zh w;obtain⟨aC,a4,w⟩:=zd w;refine rE fun _ aD=>?_;refine cO [0,1] (I1 l _ a3) ?_;refine cO [0,1] (zF (List.take ((min (min (IntKind.i64.wrap ((IntKind.i64.wrap c.2)-ay)) az) k).toNat) aB) l _ a4) (aD _ _ ?_);simp only[zz,zw,↓reduceIte];refine⟨aC.2,w,?_⟩;exact jD
     .refine Wp.exit ?_;simp only[zz,zw,↓reduceIte];have w:=Z _ w;try dsimp only at w
      refine an _ _ _ _ ?_ (S l w);exact jD
    clear P Q;refine qS ?_;refine cN w (fun w=>?_) fun w=>?_
    .obtain⟨aZ,w⟩:=zh w;refine q6 ?_;refine qS ?_;refine cN w (fun w=>?_) fun w=>?_
     .refine qR ?_;refine v _ _ _ _ ?_ (m (b.length:Int) w);exact jD
     .refine Wp.skip (v _ _ _ _ ?_ (m (IntKind.i64.wrap ((IntKind.i64.wrap (Int.tdiv 8192 (b.length:Int)))*(b.length:Int))) w));exact jD
    .refine Wp.skip (v _ _ _ _ ?_ (m (IntKind.i64.wrap c.2) w));exact jD
   clear M O;obtain⟨o,aS,t,w⟩:=mK w;replace t:((b.getD 0 0).toNat:Int)=o:=t;have A:=t;refine q6 ?_;refine Wp.block (da fun aP T n=>?_);obtain⟨aE,D,w⟩:=zo w;have f:∀s,aE s=some z->aP [(0,pS b),(7,pI (IntKind.i64.wrap c.2)),(43,pB s)] []:=by
    intro aQ hs;have w:=D _ hs;clear hs;try dsimp only at w|-
    refine T _ _ (cN w (fun w=>?_) fun w=>?_)
    .refine Wp.block ?_;obtain⟨b0,a5,w⟩:=zx w;refine sX (g:=decide ((IntKind.i64.wrap c.2)<=128)) (fun a=>GK ((List.append [32,32,32,32,32,32,32,32,32,32,32,32,32,32,32,32,32,32,32,32,32,32,32,32,32,32,32,32,32,32,32,32,32,32,32,32,32,32,32,32,32,32,32,32,32,32,32,32,32,32,32,32,32,32,32,32,32,32,32,32,32,32,32,32] [32,32,32,32,32,32,32,32,32,32,32,32,32,32,32,32,32,32,32,32,32,32,32,32,32,32,32,32,32,32,32,32,32,32,32,32,32,32,32,32,32,32,32,32,32,32,32,32,32,32,32,32,32,32,32,32,32,32,32,32,32,32,32,32]):ev) b _ (a5 a)) ?_;refine cN w (fun w=>?_) fun w=>?_
     .obtain⟨b1,w⟩:=zh w;exact wQ
     .obtain⟨b2,a6,w⟩:=zx w;refine sX (g:=decide ((IntKind.i64.wrap c.2)<=128)) (fun a=>GK ((List.append [45,45,45,45,45,45,45,45,45,45,45,45,45,45,45,45,45,45,45,45,45,45,45,45,45,45,45,45,45,45,45,45,45,45,45,45,45,45,45,45,45,45,45,45,45,45,45,45,45,45,45,45,45,45,45,45,45,45,45,45,45,45,45,45] [45,45,45,45,45,45,45,45,45,45,45,45,45,45,45,45,45,45,45,45,45,45,45,45,45,45,45,45,45,45,45,45,45,45,45,45,45,45,45,45,45,45,45,45,45,45,45,45,45,45,45,45,45,45,45,45,45,45,45,45,45,45,45,45]):ev) b _ (a6 a)) ?_;refine cN w (fun w=>?_) fun w=>?_
      .obtain⟨b3,w⟩:=zh w;exact wQ
      .obtain⟨b4,a7,w⟩:=zx w;refine sX (g:=decide ((IntKind.i64.wrap c.2)<=64)) (fun a=>GK ([48,48,48,48,48,48,48,48,48,48,48,48,48,48,48,48,48,48,48,48,48,48,48,48,48,48,48,48,48,48,48,48,48,48,48,48,48,48,48,48,48,48,48,48,48,48,48,48,48,48,48,48,48,48,48,48,48,48,48,48,48,48,48,48]:ev) b _ (a7 a)) ?_;refine cN w (fun w=>?_) fun w=>?_
       .obtain⟨b5,w⟩:=zh w;exact wQ
       .obtain⟨b6,a8,w⟩:=zx w;refine sX (g:=decide ((IntKind.i64.wrap c.2)<=128)) (fun a=>GK ((List.append [61,61,61,61,61,61,61,61,61,61,61,61,61,61,61,61,61,61,61,61,61,61,61,61,61,61,61,61,61,61,61,61,61,61,61,61,61,61,61,61,61,61,61,61,61,61,61,61,61,61,61,61,61,61,61,61,61,61,61,61,61,61,61,61] [61,61,61,61,61,61,61,61,61,61,61,61,61,61,61,61,61,61,61,61,61,61,61,61,61,61,61,61,61,61,61,61,61,61,61,61,61,61,61,61,61,61,61,61,61,61,61,61,61,61,61,61,61,61,61,61,61,61,61,61,61,61,61,61]):ev) b _ (a8 a)) ?_;refine cN w (fun w=>?_) fun w=>?_
        .obtain⟨b7,w⟩:=zh w;exact wQ
        .obtain⟨b8,a9,w⟩:=zx w;refine sX (g:=decide ((IntKind.i64.wrap c.2)<=64)) (fun a=>GK ([9,9,9,9,9,9,9,9,9,9,9,9,9,9,9,9,9,9,9,9,9,9,9,9,9,9,9,9,9,9,9,9,9,9,9,9,9,9,9,9,9,9,9,9,9,9,9,9,9,9,9,9,9,9,9,9,9,9,9,9,9,9,9,9]:ev) b _ (a9 a)) ?_;refine cN w (fun w=>?_) fun w=>?_
         .obtain⟨b9,w⟩:=zh w;exact wQ
         .refine Wp.skip (N _ _ _ _ ?_ (u () w));simp only[go_sem,simprocAttr,A];try exact vz
    .refine Wp.skip (N _ _ _ _ ?_ (u () w));simp only[go_sem,simprocAttr,A];try exact vz
   clear T D;refine q6 ?_;refine cN w (fun w=>?_) fun w=>?_
   .refine Wp.skip (n _ _ _ _ ?_ (f (decide (o=32)) w));simp only[go_sem,simprocAttr,A];try exact vz
   .refine q6 ?_;refine cN w (fun w=>?_) fun w=>?_
    .refine Wp.skip (n _ _ _ _ ?_ (f (decide (o=45)) w));simp only[go_sem,simprocAttr,A];try exact vz
    .refine q6 ?_;refine cN w (fun w=>?_) fun w=>?_
     .refine Wp.skip (n _ _ _ _ ?_ (f (decide (o=48)) w));simp only[go_sem,simprocAttr,A];try exact vz
     .refine q6 ?_;refine cN w (fun w=>?_) fun w=>?_
      .refine Wp.skip (n _ _ _ _ ?_ (f (decide (o=61)) w));simp only[go_sem,simprocAttr,A];try exact vz
      .refine r6 ?_;refine n _ _ _ _ ?_ (f (decide (o=9)) w);simp only[go_sem,simprocAttr,A];try exact vz
  clear I J;refine qS ?_;refine cN w (fun w=>?_) fun w=>?_
  .cases w
  .refine Wp.skip (y _ _ _ _ ?_ (L () w));exact jD
 clear E F;refine qS ?_;refine cN w (fun w=>?_) fun w=>?_
 .cases w
 .refine Wp.skip (h _ _ _ _ ?_ (G () w));exact jD
theorem Py(b:ev)(z:ev)(w:CB b=some z):Does prog 36 [pS b] [] (fun r X=>r=pS z/\X=[]):=by
 unfold CB at w;refine dW 0 27 [.tmp 2] func36 fun B=>nA fun A=>?_;refine qS ?_;refine qS ?_;refine da fun a m D=>?_;obtain⟨E,c,w⟩:=zo w;have g:∀s,E s=some z->a [(3,.p (.i .u64 s))] []:=by
  intro o hs;have w:=c _ hs;clear hs;try dsimp only at w|-
  refine m _ _ ?_;obtain⟨F,t,w⟩:=zd w;refine sX (fun d=>UY o 16 _ t) ?_;obtain⟨O,u,w⟩:=zd w;obtain⟨L,w⟩:=zh w;refine sX (fun d=>UB ([48]:ev) (IntKind.i64.wrap (16-(F.length:Int))) _ u) ?_;exact wR
 clear m c;refine qS ?_;refine Wp.block ?_;obtain⟨P,v,w⟩:=zq w;refine fL 0 b.length fun j=>?_;refine Wp.forL (fun f s=>[(0,pS b),(3,.p (.i .u64 s)),(7,pI (b.length:Int)),(8,pI (f:Int))]) (fun f s=>[]) wF w ?_;clear w;intro f n I w;try dsimp only at w|-
 refine qS ?_;refine lS w j (fun h=>D _ _ _ _ wF (g n (v _ h))) fun k M G N J l w A _ C=>?_;refine q6 ?_;refine r6 ?_;refine C _ _ (r6 ?_);exact wN (IntKind.u64.wrap ((fl .xor .u64 n (IntKind.u64.wrap (G.toNat:Int)))*1099511628211)) k (l _ w)
theorem sI(b:Int)(z:Int)(w:ju b=some z):Does prog 41 [pI b] [] (fun r X=>r=pI z/\X=[]):=by
 unfold ju at w;refine dW 0 8 [.tmp 2] func41 fun B=>nA fun A=>?_;refine qS ?_;refine da fun _ c _=>qS ?_;refine Wp.block (qS ?_);refine cR w fun w=>?_;refine qS ?_;refine cR w fun w=>?_;exact Wp.skip (c _ _ (wQ))
theorem Tx(b:List Int)(z:Int)(w:yI b=some z):Does prog 104 [lm zA b] [] (fun r X=>r=pI z/\X=[]):=by
 unfold yI at w;refine dW 0 18 [.tmp 2] func104 fun B=>nA fun A=>?_;refine qS ?_;refine qS ?_;refine da fun a j n=>?_;obtain⟨o,c,w⟩:=zo w;have g:∀s,o s=some z->a [(3,pI 0)] []:=by
  intro s hs;have w:=c _ hs;clear hs;try dsimp only at w|-
  exact j _ _ (wQ)
 clear j c;refine qS ?_;refine Wp.block ?_;obtain⟨D,k,w⟩:=zq w;refine fL 6 b.length fun l=>?_;refine Wp.forL (fun f s=>[(3,pI 0),(6,lm zA b),(7,pI (b.length:Int)),(8,pI (f:Int))]) (fun f s=>[]) wF w ?_;clear w;intro f s t w;try dsimp only at w|-
 refine qS ?_;refine lB zA w l (fun h=>n _ _ _ _ wF (g () (k _ h))) fun m E F C u v i w A _ p=>?_;refine q6 ?_;refine q6 ?_;refine cR w fun w=>?_;refine Wp.skip (p _ _ (r6 ?_));exact wN () m (i _ w)
theorem TL(b:aa)(c:aa)(z:Int)(w:uk b c=some z):Does prog 40 [.agg [pS b.r,pI b.g,pS b.a,pS b.y,pS b.A],.agg [pS c.r,pI c.g,pS c.a,pS c.y,pS c.A]] [] (fun r X=>r=pI z/\X=[]):=by
 unfold uk at w;refine dW 0 24 [.tmp 4] func40 fun B=>nA fun A=>?_;refine qS ?_;obtain⟨m,f,w⟩:=zd w;obtain⟨n,i,w⟩:=zd w;obtain⟨o,j,w⟩:=zd w;obtain⟨p,k,w⟩:=zd w;obtain⟨u,l,w⟩:=zd w;refine dS (pl [(0,none),(1,none),(2,none),(3,none),(4,none),(5,none),(6,none),(7,none),(8,none),(9,none),(10,none),(11,none),(12,none),(13,none),(14,none),(15,none),(16,none),(17,some []),(18,none),(19,none)]) fun _ t=>?_;refine cD (fun d=>IU b.r c.r _ f) ?_;refine cD (fun d=>sI b.g _ i) ?_;refine cD (fun d=>sI c.g _ j) ?_;refine cD (fun d=>IU b.a c.a _ k) ?_;refine cD (fun d=>Tx [m,IntKind.i64.wrap (n-o),p] _ l) (t _ _ ?_);exact wR
end Go.Proofs.YtpcihjdidhpbbaaGreatDoor
