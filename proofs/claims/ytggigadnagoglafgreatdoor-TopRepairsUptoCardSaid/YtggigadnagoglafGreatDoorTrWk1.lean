/- That the code does what the models say (part 1). -/
import Derived.Test.YtggigadnagoglafGreatDoorTrWk0
set_option linter.unusedSimpArgs false
set_option linter.unusedVariables false
open Go.Proofs Go.Shelf
open List
namespace Go.Proofs.YtggigadnagoglafGreatDoor
open Tryz
open Go.Vc Go.Md
set_option maxRecDepth 100000
set_option maxHeartbeats 4000000
theorem IM(b:Int)(z:Bool)(hm:xN b=some z):Does prog 41 [.p (.i .u8 b)] [] (fun r X=>r=pB z/\X=[]):=by
 unfold xN at hm
 refine dW 0 9 [.tmp 2] func41 fun B=>nA fun hA=>?_
 refine qS ?_;exact wQ
theorem KQ(b:Int)(z:Bool)(hm:B1 b=some z):Does prog 42 [.p (.i .u8 b)] [] (fun r X=>r=pB z/\X=[]):=by
 unfold B1 at hm
 refine dW 0 9 [.tmp 2] func42 fun B=>nA fun hA=>?_
 refine qS ?_;exact wQ
theorem Mm(b:Int)(z:Bool)(hm:Du b=some z):Does prog 40 [.p (.i .u8 b)] [] (fun r X=>r=pB z/\X=[]):=by
 unfold Du at hm
 refine dW 0 17 [.tmp 2] func40 fun B=>nA fun hA=>?_
 refine qS ?_;obtain⟨j,c,hm⟩:=ze hm;obtain⟨l,f,hm⟩:=zY hm
 refine rS fun _ k=>?_
 refine cX (fun hg=>IM b _ c) ?_;refine cX (g:=!j) (fun hg=>KQ b _ (f hg)) (k _ _ ?_);exact wR
theorem L0(c:dX)(b:Int)(z:Bool)(hm:Gl c b=some z):Does prog 39 [pS c,pI b,.fn 40 []] [] (fun r X=>r=pB z/\X=[]):=by
 unfold Gl at hm
 refine dW 0 28 [.tmp 6] func39 fun B=>nA fun hA=>?_
 refine qS ?_
 refine ca fun K2 o v=>?_
 obtain⟨w,g,hm⟩:=zN hm
 have k:∀s,w s=some z->K2 [(0,pS c),(1,pI b)] []:=by
  intro s hs;have hm:=g _ hs;clear hs
  try dsimp only at hm|-
  exact o _ _ (wQ)
 clear o g;refine qS ?_;refine Wp.block ?_;obtain⟨J,p,hm⟩:=zF hm
 refine fL 0 c.length fun t=>?_
 refine Wp.forL (fun i s=>[(0,pS c),(1,pI b),(2,.fn 40 []),(7,pI (i:Int))]) (fun i s=>[]) wF hm ?_;clear hm;intro i s G hm
 try dsimp only at hm|-
 refine ca fun _ C _=>qS ?_
 refine Wp.cond rfl ⟨⟩ (fun j=>?_) fun j=>Wp.exit (v _ _ _ _ wF (k () (p _ (nE hm (wY j)))))
 have f:=oe j;have D:=lu f t;obtain⟨E,I,l,m,n,hm⟩:=nD hm f;clear l;refine Wp.skip ?_;simp only[zS];refine C _ _ (ca fun _ F _=>Wp.block ?_);obtain⟨L,u,hm⟩:=ze hm;have hA:=And.intro D m;refine sX (fun hg=>Mm (E.toNat:Int) _ u) ?_
 refine cR hm fun hm=>?_
 refine Wp.skip (F _ _ (r6 ?_));exact wN () f (n _ hm)
theorem xS(b:dX)(z:Bool)(hm:oP b=some z):Does prog 11 [pS b] [] (fun r X=>r=pB z/\X=[]):=by
 unfold oP at hm
 refine dW 0 10 [.tmp 2] func11 fun B=>nA fun hA=>?_
 refine qS ?_;obtain⟨i,c,hm⟩:=ze hm;obtain⟨k,hm⟩:=zl hm;obtain⟨l,f,hm⟩:=zY hm
 refine rS fun _ j=>?_
 refine cX (fun hg=>L0 b 40 _ c) ?_;refine cX (g:=i) (fun hg=>IM ((b.getD 0 0).toNat:Int) _ (f hg)) (j _ _ ?_);exact wR
theorem LC(z:Bool)(hm:C1=some z):Does prog 4 [] [] (fun r X=>r=pB z/\X=[]):=by
 unfold C1 at hm
 refine dW 0 2 [.tmp 0] func4 fun B=>nA fun hA=>?_
 refine qS ?_;obtain⟨c,b,hm⟩:=ze hm;refine sX (fun hg=>xS ([97]:dX) _ b) ?_;exact wR
theorem ME(b:Int)(z:Bool)(hm:GC b=some z):Does prog 143 [.p (.i .u8 b)] [] (fun r X=>r=pB z/\X=[]):=by
 unfold GC at hm
 refine dW 0 9 [.tmp 2] func143 fun B=>nA fun hA=>?_
 refine qS ?_;exact wQ
theorem L3(c:dX)(b:Int)(z:Bool)(hm:Gm c b=some z):Does prog 39 [pS c,pI b,.fn 143 []] [] (fun r X=>r=pB z/\X=[]):=by
 unfold Gm at hm
 refine dW 0 28 [.tmp 6] func39 fun B=>nA fun hA=>?_
 refine qS ?_
 refine ca fun K2 o v=>?_
 obtain⟨w,g,hm⟩:=zN hm
 have k:∀s,w s=some z->K2 [(0,pS c),(1,pI b)] []:=by
  intro s hs;have hm:=g _ hs;clear hs
  try dsimp only at hm|-
  exact o _ _ (wQ)
 clear o g;refine qS ?_;refine Wp.block ?_;obtain⟨J,p,hm⟩:=zF hm
 refine fL 0 c.length fun t=>?_
 refine Wp.forL (fun i s=>[(0,pS c),(1,pI b),(2,.fn 143 []),(7,pI (i:Int))]) (fun i s=>[]) wF hm ?_;clear hm;intro i s G hm
 try dsimp only at hm|-
 refine ca fun _ C _=>qS ?_
 refine Wp.cond rfl ⟨⟩ (fun j=>?_) fun j=>Wp.exit (v _ _ _ _ wF (k () (p _ (nE hm (wY j)))))
 have f:=oe j;have D:=lu f t;obtain⟨E,I,l,m,n,hm⟩:=nD hm f;clear l;refine Wp.skip ?_;simp only[zS];refine C _ _ (ca fun _ F _=>Wp.block ?_);obtain⟨L,u,hm⟩:=ze hm;have hA:=And.intro D m;refine sX (fun hg=>ME (E.toNat:Int) _ u) ?_
 refine cR hm fun hm=>?_
 refine Wp.skip (F _ _ (r6 ?_));exact wN () f (n _ hm)
theorem KP(b:dX)(z:Bool)(hm:B0 b=some z):Does prog 101 [pS b] [] (fun r X=>r=pB z/\X=[]):=by
 unfold B0 at hm
 refine dW 0 9 [.tmp 2] func101 fun B=>nA fun hA=>?_
 refine qS ?_;obtain⟨f,c,hm⟩:=zY hm;refine sX (g:=!(decide (b=[]))) (fun hg=>L3 b 1000 _ (c hg)) ?_;exact wR
theorem Nc(b:ab)(z:Int)(hm:GP b=some z):Does prog 64 [.agg [pS b.k,pS b.Value],.fn 11 []] [] (fun r X=>r=pI z/\X=[]):=by
 unfold GP at hm
 refine dW 0 14 [.tmp 4] func64 fun B=>nA fun hA=>?_
 refine qS ?_
 refine ca fun _ g _=>?_
 obtain⟨j,c,hm⟩:=ze hm;refine sX (fun hg=>xS b.k _ c) ?_
 refine cR hm fun hm=>?_
 refine Wp.skip (g _ _ (ca fun _ i _=>?_));obtain⟨l,f,hm⟩:=ze hm;refine sX (fun hg=>KP b.Value _ f) ?_
 refine cR hm fun hm=>?_
 exact Wp.skip (i _ _ (wQ))
theorem Mb(b:ab)(z:Int)(hm:Do b=some z):Does prog 63 [.agg [pS b.k,pS b.Value]] [] (fun r X=>r=pI z/\X=[]):=by
 unfold Do at hm
 refine dW 0 5 [.tmp 2] func63 fun B=>nA fun hA=>?_
 refine qS ?_;obtain⟨f,c,hm⟩:=ze hm;refine sX (fun hg=>Nc b _ c) ?_;exact wR
theorem GB(b:ab)(z:dX)(hm:xH b=some z):Does prog 65 [.agg [pS b.k,pS b.Value]] [] (fun r X=>r=pS z/\X=[]):=by
 unfold xH at hm
 refine dW 0 5 [.tmp 2] func65 fun B=>nA fun hA=>?_
 refine qS ?_;exact wQ
theorem NQ(b:List ab)(z:Int)(hm:DZ b=some z):Does prog 62 [lm za b,.fn 63 [],.fn 65 []] [] (fun r X=>r=pI z/\X=[]):=by
 unfold DZ at hm
 refine dW 0 39 [.tmp 6] func62 fun B=>nA fun hA=>?_
 refine qS ?_
 refine ca fun K2 t G=>?_
 obtain⟨I,j,hm⟩:=zN hm
 have m:∀s,I s=some z->K2 [] []:=by
  intro s hs;have hm:=j _ hs;clear hs
  try dsimp only at hm|-
  exact t _ _ (wQ)
 clear t j;refine qS ?_;refine Wp.block ?_;obtain⟨R,v,hm⟩:=zF hm
 refine fL 0 b.length fun n=>?_
 refine Wp.forL (fun c s=>[(0,lm za b),(1,.fn 63 []),(2,.fn 65 []),(10,lm za b),(11,pI (b.length:Int)),(12,pI (c:Int))]) (fun c s=>[]) wF hm ?_;clear hm;intro c s N hm
 try dsimp only at hm|-
 refine qS ?_
 refine lB za hm n (fun h=>G _ _ _ _ wF (m () (v _ h))) fun w J u P o O p hm hA _ L=>?_
 refine q6 ?_
 refine ca fun _ M _=>?_
 obtain⟨S,C,hm⟩:=ze hm;refine sX (fun hg=>Mb u _ C) ?_;refine q6 ?_
 refine cR hm fun hm=>?_
 refine Wp.skip (M _ _ ?_);obtain⟨T,D,hm⟩:=zY hm;obtain⟨Q,hm⟩:=zl hm;obtain⟨U,E,hm⟩:=zY hm;have f:=CT (l:=b) (e:=za) (d:=(ab.mk [] [])) (i:=(IntKind.i64.wrap ((c:Int)-1)).toNat);simp only[za,map_nil]at f;have hA:=And.intro J (And.intro o f)
 refine dS (pl [(0,none),(1,none),(2,none),(3,none),(4,none),(5,none),(6,none),(7,none),(8,none),(9,none),(10,none),(11,none),(12,none),(13,none),(14,none)]) fun _ F=>?_
 refine cD (g:=decide (0<(c:Int))) (fun hg=>GB u _ (D hg)) ?_;refine cD (g:=decide (0<(c:Int))) (fun hg=>GB (ab.mk ((b.getD ((IntKind.i64.wrap ((c:Int)-1)).toNat) (ab.mk [] [])).k) ((b.getD ((IntKind.i64.wrap ((c:Int)-1)).toNat) (ab.mk [] [])).Value)) _ (E hg)) (F _ _ ?_)
 refine cR hm fun hm=>?_
 refine Wp.skip (L _ _ (r6 ?_));exact wN () w (p _ hm)
theorem NM(b:dX)(c:Int)(z:Int)(hm:G4 b c=some z):Does prog 189 [pS b,.p (.i .u8 c)] [] (fun r X=>r=pI z/\X=[]):=by
 unfold G4 at hm
 refine dW 0 8 [.tmp 4] func189 fun B=>nA fun hA=>?_
 refine qS ?_;have j:=jw b c
 refine cb fun K2 f=>?_
 simp only[go_sem,simprocAttr]
 try refine⟨sd,?_⟩
 refine cW (av:=?av3) (g:=true) (fun hg=>Ar b c) si si si sg si ?cont3;intro k;simp only[go_sem,simprocAttr];refine kA f ?_;exact wR
theorem NE(f:dX)(b:dX)(z:Int)(hm:D4 f b=some z):Does prog 179 [pS f,pS b] [] (fun r X=>r=pI z/\X=[]):=by
 unfold D4 at hm
 refine dW 0 143 [.tmp 4] func179 fun B=>nA fun hA=>?_
 refine qS ?_;refine qS ?_
 refine ca fun _ _ _=>Wp.block (qS ?_)
 refine cR hm fun hm=>?_
 refine qS ?_
 refine cN hm (fun hm=>?_) fun hm=>?_
 .obtain⟨g,j,c,hm⟩:=H5 hm
  replace c:((b.getD 0 0).toNat:Int)=g:=c;obtain⟨k,i,hm⟩:=ze hm;have hA:=c;refine sX (fun hg=>NM f g _ i) ?_;exact wR
 .refine qS ?_
  refine cR hm fun hm=>?_
  cases hm
theorem KU(c:dX)(b:dX)(z:Int)(hm:Ca c b=some z):Does prog 155 [pS c,pS b] [] (fun r X=>r=pI z/\X=[]):=by
 unfold Ca at hm
 refine dW 0 8 [.tmp 4] func155 fun B=>nA fun hA=>?_
 refine qS ?_;obtain⟨g,f,hm⟩:=ze hm;refine sX (fun hg=>NE c b _ f) ?_;exact wR
theorem MC(f:dX)(b:dX)(z:Int)(hm:DD f b=some z):Does prog 154 [pS f,pS b] [] (fun r X=>r=pI z/\X=[]):=by
 unfold DD at hm
 refine dW 0 34 [.tmp 4] func154 fun B=>nA fun hA=>?_
 refine qS ?_
 refine ca fun _ m _=>qS ?_
 refine cN hm (fun hm=>?_) fun hm=>?_
 .cases hm
 .refine Wp.skip (m _ _ (ca fun _ n _=>qS ?_))
  refine cN hm (fun hm=>?_) fun hm=>?_
  .obtain⟨i,u,c,hm⟩:=H5 hm
   replace c:((b.getD 0 0).toNat:Int)=i:=c;have v:=JQ f i;have hA:=c
   refine cb fun K8 o=>?_
   simp only[go_sem,simprocAttr,hA]
   try refine⟨sd,?_⟩
   refine cW (av:=?av9) (g:=true) (fun hg=>As f i) (by simp only[go_sem,simprocAttr,hA];exact Is.mk) (by simp only[go_sem,simprocAttr,hA];exact Is.mk) (by simp only[go_sem,simprocAttr,hA];exact Is.mk) (by simp only[go_sem,simprocAttr,hA]) (by simp only[go_sem,simprocAttr,hA];exact Is.mk) ?cont9;intro E;simp only[go_sem,simprocAttr,hA];refine kA o ?_;exact wR
  .refine Wp.skip (n _ _ (qS ?_))
   refine Wp.block ?_;obtain⟨F,w,hm⟩:=rY hm;refine Wp.loopN (fun s=>[(0,pS s.1),(1,pS b),(4,pI 0),(5,pI s.2)]) (fun s=>[]) ?_ hm ?_
   .exact fa
   clear hm;intro s C hm;obtain⟨j,p⟩:=s
   try dsimp only at hm|-
   refine Wp.block ?_;obtain⟨t,k,hm⟩:=ze hm;refine sX (fun hg=>KU j b _ k) ?_
   refine ca fun _ l _=>qS ?_
   refine cR hm fun hm=>?_
   refine Wp.skip (l _ _ (qS ?_));obtain⟨D,hm⟩:=zl hm;refine r6 ?_;simp only[zS,zL,↓reduceIte];refine⟨(List.drop ((IntKind.i64.wrap (t+(b.length:Int))).toNat) j,IntKind.i64.wrap (p+1)),hm,?_⟩;exact fa
theorem M9(g:dX)(c:dX)(b:Int)(n:Int)(z:List dX)(hm:DG g c b n=some z):Does prog 115 [pS g,pS c,pI b,pI n] [] (fun r X=>r=lm fl z/\X=[]):=by
 unfold DG at hm
 refine dW 0 66 [.tmp 8] func115 fun B=>nA fun hA=>?_
 refine qS ?_
 refine ca fun _ L _=>qS ?_
 refine cN hm (fun hm=>?_) fun hm=>?_
 .refine qS ?_
  refine Wp.ret ?_;simp only[zS,zL];refine ls ?_;cases hm;exact fa
 .refine Wp.skip (L _ _ (ca fun _ M _=>qS ?_))
  refine cN hm (fun hm=>?_) fun hm=>?_
  .cases hm
  .refine Wp.skip (M _ _ (ca fun K9 w C=>?_))
   obtain⟨N,o,hm⟩:=zN hm
   have k:∀s,N s=some z->K9 [(0,pS g),(1,pS c),(2,pI b),(3,pI s)] []:=by
    intro E hs;have hm:=o _ hs;clear hs
    try dsimp only at hm|-
    refine w _ _ (qS ?_);obtain⟨S,hm⟩:=zl hm;refine q6 ?_;refine qS ?_;refine qS ?_
    refine ca fun O p t=>?_
    obtain⟨P,u,hm⟩:=zN hm
    have i:∀s,P s=some z->O [(0,pS s.1),(9,.buf 0),(10,pI s.2.1)] [.buf 9 1 (List.map fl s.2.2)]:=by
     intro s hs;have hm:=u _ hs;clear hs;obtain⟨T,U,Q⟩:=s
     try dsimp only at hm|-
     refine p _ _ ?_;obtain⟨V,hm⟩:=zl hm;refine q6 ?_;refine Wp.freeze 0 (by simp only[go_sem,simprocAttr];exact Is.mk) (by first|(simp only[go_sem,simprocAttr];done)|(simp only[go_sem,simprocAttr];omega)) ?_;simp only[go_sem,simprocAttr];obtain⟨W,hm⟩:=zl hm;exact wQ
    clear p u;refine Wp.block ?_;obtain⟨Y,l,hm⟩:=rY hm;refine Wp.loopN (fun s=>[(0,pS s.1),(1,pS c),(2,pI b),(3,pI (IntKind.i64.wrap ((min E (IntKind.i64.wrap ((g.length:Int)+1)))-1))),(9,.buf 0),(10,pI s.2.1)]) (fun s=>[.buf 9 1 (List.map fl s.2.2)]) ?_ hm ?_
    .exact fa
    clear hm;intro s R hm;obtain⟨j,m,f⟩:=s
    try dsimp only at hm|-
    refine ca fun _ F _=>qS ?_
    refine cN hm (fun hm=>?_) fun hm=>?_
    .refine Wp.skip (F _ _ (Wp.block ?_))
     obtain⟨D,G,hm⟩:=ze hm;refine sX (fun hg=>KU j c _ G) ?_
     refine ca fun _ I _=>qS ?_
     refine cN hm (fun hm=>?_) fun hm=>?_
     .refine Wp.exit ?_
      simp only[zS,zL,↓reduceIte];have hm:=l _ hm
      try dsimp only at hm
      refine t _ _ _ _ ?_ (i (j,m,f) hm);exact fa
     .refine Wp.skip (I _ _ ?_)
      obtain⟨Z,hm⟩:=zl hm;obtain⟨a0,hm⟩:=zl hm;refine q6 ?_;obtain⟨a1,hm⟩:=zl hm;refine q6 ?_;refine qR ?_;simp only[zS,zL,↓reduceIte];refine⟨(List.drop ((IntKind.i64.wrap (D+(c.length:Int))).toNat) j,IntKind.i64.wrap (m+1),List.set f m.toNat (List.take ((IntKind.i64.wrap (D+b)).toNat) j)),hm,?_⟩;exact fa
    .refine Wp.exit ?_
     simp only[zS,zL,↓reduceIte];have hm:=l _ hm
     try dsimp only at hm
     refine t _ _ _ _ ?_ (i (j,m,f) hm);exact fa
   clear w o;refine qS ?_
   refine cN hm (fun hm=>?_) fun hm=>?_
   .obtain⟨J,v,hm⟩:=ze hm
    refine eX (fun hg=>MC g c _ v) ?_;refine C _ _ _ _ ?_ (k (IntKind.i64.wrap (J+1)) hm);exact fa
   .refine Wp.skip (C _ _ _ _ ?_ (k n hm))
    exact fa
theorem MD(c:dX)(b:dX)(z:List dX)(hm:DE c b=some z):Does prog 83 [pS c,pS b] [] (fun r X=>r=lm fl z/\X=[]):=by
 unfold DE at hm
 refine dW 0 8 [.tmp 4] func83 fun B=>nA fun hA=>?_
 refine qS ?_;obtain⟨g,f,hm⟩:=ze hm;refine sF (M9 c b 0 (-1) _ f) ?_;exact wR
theorem Mo(b:Int)(z:Bool)(hm:Gw b=some z):Does prog 116 [.p (.i .u8 b)] [] (fun r X=>r=pB z/\X=[]):=by
 unfold Gw at hm
 refine dW 0 29 [.tmp 2] func116 fun B=>nA fun hA=>?_
 refine qS ?_;obtain⟨j,c,hm⟩:=ze hm;obtain⟨l,f,hm⟩:=zY hm
 refine rS fun _ k=>?_
 refine cX (fun hg=>IM b _ c) ?_;refine cX (g:=!(j||((decide (65<=b))&&(decide (b<=90))))) (fun hg=>KQ b _ (f hg)) (k _ _ ?_);exact wR
theorem L4(c:dX)(b:Int)(z:Bool)(hm:Gn c b=some z):Does prog 39 [pS c,pI b,.fn 116 []] [] (fun r X=>r=pB z/\X=[]):=by
 unfold Gn at hm
 refine dW 0 28 [.tmp 6] func39 fun B=>nA fun hA=>?_
 refine qS ?_
 refine ca fun K2 o v=>?_
 obtain⟨w,g,hm⟩:=zN hm
 have k:∀s,w s=some z->K2 [(0,pS c),(1,pI b)] []:=by
  intro s hs;have hm:=g _ hs;clear hs
  try dsimp only at hm|-
  exact o _ _ (wQ)
 clear o g;refine qS ?_;refine Wp.block ?_;obtain⟨J,p,hm⟩:=zF hm
 refine fL 0 c.length fun t=>?_
 refine Wp.forL (fun i s=>[(0,pS c),(1,pI b),(2,.fn 116 []),(7,pI (i:Int))]) (fun i s=>[]) wF hm ?_;clear hm;intro i s G hm
 try dsimp only at hm|-
 refine ca fun _ C _=>qS ?_
 refine Wp.cond rfl ⟨⟩ (fun j=>?_) fun j=>Wp.exit (v _ _ _ _ wF (k () (p _ (nE hm (wY j)))))
 have f:=oe j;have D:=lu f t;obtain⟨E,I,l,m,n,hm⟩:=nD hm f;clear l;refine Wp.skip ?_;simp only[zS];refine C _ _ (ca fun _ F _=>Wp.block ?_);obtain⟨L,u,hm⟩:=ze hm;have hA:=And.intro D m;refine sX (fun hg=>Mo (E.toNat:Int) _ u) ?_
 refine cR hm fun hm=>?_
 refine Wp.skip (F _ _ (r6 ?_));exact wN () f (n _ hm)
theorem LI(b:dX)(z:Bool)(hm:Di b=some z):Does prog 84 [pS b] [] (fun r X=>r=pB z/\X=[]):=by
 unfold Di at hm
 refine dW 0 15 [.tmp 2] func84 fun B=>nA fun hA=>?_
 refine qS ?_;refine qS ?_;obtain⟨f,c,hm⟩:=ze hm;refine sX (fun hg=>L4 b 40 _ c) ?_;exact wR
theorem B9(b:dX)(z:Bool)(hm:vj b=some z):Does prog 37 [pS b] [] (fun r X=>r=pB z/\X=[]):=by
 unfold vj at hm
 refine dW 0 19 [.tmp 2] func37 fun B=>nA fun hA=>?_
 refine qS ?_
 refine ca fun K2 k t=>?_
 obtain⟨u,c,hm⟩:=zN hm
 have i:∀s,u s=some z->K2 [(0,pS b)] []:=by
  intro s hs;have hm:=c _ hs;clear hs
  try dsimp only at hm|-
  exact k _ _ (wQ)
 clear k c;obtain⟨f,l,hm⟩:=ze hm;refine sF (MD b ([47]:dX) _ l) ?_;refine Wp.block ?_;obtain⟨G,m,hm⟩:=zF hm
 refine fL 6 f.length fun n=>?_
 refine Wp.forL (fun g s=>[(0,pS b),(6,lm fl f),(7,pI (f.length:Int)),(8,pI (g:Int))]) (fun g s=>[]) wF hm ?_;clear hm;intro g s C hm
 try dsimp only at hm|-
 refine qS ?_
 refine lB fl hm n (fun h=>t _ _ _ _ wF (i () (m _ h))) fun o I v F D E j hm hA _ w=>?_
 refine q6 ?_;obtain⟨J,p,hm⟩:=ze hm;refine sX (fun hg=>LI v _ p) ?_
 refine cR hm fun hm=>?_
 refine Wp.skip (w _ _ (r6 ?_));exact wN () o (j _ hm)
theorem IX(b:aa)(z:Int)(hm:xO b=some z):Does prog 66 [.agg [pS b.a,pS b.u,pB b.w]] [] (fun r X=>r=pI z/\X=[]):=by
 unfold xO at hm
 refine dW 0 11 [.tmp 2] func66 fun B=>nA fun hA=>?_
 refine qS ?_
 refine ca fun _ f _=>?_
 obtain⟨i,c,hm⟩:=ze hm;refine sX (fun hg=>B9 b.a _ c) ?_
 refine cR hm fun hm=>?_
 refine Wp.skip (f _ _ (ca fun _ g _=>qS ?_))
 refine cR hm fun hm=>?_
 exact Wp.skip (g _ _ (wQ))
theorem MM(b:dX)(c:List (dX×Bool))(z:Bool)(hm:DH b c=some z):Does prog 68 [pS b,.ptr 0 0] [.cells 125 [.mp 1],.mp false (zj Dt.s eE c)] (fun r X=>r=pB z/\X=[.cells 125 [.mp 1],.mp false (zj Dt.s eE c)]):=by
 unfold DH at hm
 refine dW 2 8 [.tmp 3] func68 fun B=>nA fun hA=>?_
 refine qS ?_;obtain⟨j,i,hm⟩:=zC hm;have f:=zy (e:=eE) zZ c b false;have g:=zx (e:=eE) zZ c b;simp only[i,eE,map_nil]at f g;have hA:=And.intro f g;exact wQ
theorem Mx(b:dX)(c:List (dX×Bool))(z:Bool)(hm:B8 b c=some z):Does prog 67 [pS b,.fn 68 [.ptr 0 0]] [.cells 125 [.mp 1],.mp false (zj Dt.s eE c)] (fun r X=>r=pB z/\X=[.cells 125 [.mp 1],.mp false (zj Dt.s eE c)]):=by
 unfold B8 at hm
 refine dW 2 24 [.tmp 4] func67 fun B=>nA fun hA=>?_
 refine qS ?_
 refine ca fun K2 p w=>?_
 obtain⟨C,j,hm⟩:=zN hm
 have l:∀s,C s=some z->K2 [] [.cells 125 [.mp 1],.mp false (zj Dt.s eE c)]:=by
  intro s hs;have hm:=j _ hs;clear hs
  try dsimp only at hm|-
  exact p _ _ (wQ)
 clear p j;refine qS ?_;refine Wp.block ?_;obtain⟨M,t,hm⟩:=zF hm
 refine fL 0 b.length fun u=>?_
 refine Wp.forL (fun i s=>[(0,pS b),(1,.fn 68 [.ptr 0 0]),(5,pI (i:Int))]) (fun i s=>[.cells 125 [.mp 1],.mp false (zj Dt.s eE c)]) wF hm ?_;clear hm;intro i s I hm
 try dsimp only at hm|-
 refine ca fun _ D _=>qS ?_
 refine Wp.cond rfl ⟨⟩ (fun k=>?_) fun k=>Wp.exit (w _ _ _ _ wF (l () (t _ (nE hm (wY k)))))
 have f:=oe k;have E:=lu f u;obtain⟨F,J,m,n,o,hm⟩:=nD hm f;clear m;refine Wp.skip ?_;simp only[zS];refine D _ _ (ca fun _ G _=>Wp.block ?_);obtain⟨L,hm⟩:=zl hm;obtain⟨N,v,hm⟩:=zY hm;have hA:=And.intro E n;refine sQ (g:=decide ((F.toNat:Int)=47)) [0,1] (fun hg=>MM (List.take i b) c _ (v hg)) ?_
 refine cR hm fun hm=>?_
 refine Wp.skip (G _ _ (r6 ?_));exact wN () f (o _ hm)
theorem Jc(b:ab)(z:Int)(hm:xX b=some z):Does prog 64 [.agg [pS b.k,pS b.Value],.fn 37 []] [] (fun r X=>r=pI z/\X=[]):=by
 unfold xX at hm
 refine dW 0 14 [.tmp 4] func64 fun B=>nA fun hA=>?_
 refine qS ?_
 refine ca fun _ g _=>?_
 obtain⟨j,c,hm⟩:=ze hm;refine sX (fun hg=>B9 b.k _ c) ?_
 refine cR hm fun hm=>?_
 refine Wp.skip (g _ _ (ca fun _ i _=>?_));obtain⟨l,f,hm⟩:=ze hm;refine sX (fun hg=>KP b.Value _ f) ?_
 refine cR hm fun hm=>?_
 exact Wp.skip (i _ _ (wQ))
theorem Mc(b:ab)(z:Int)(hm:Dp b=some z):Does prog 69 [.agg [pS b.k,pS b.Value]] [] (fun r X=>r=pI z/\X=[]):=by
 unfold Dp at hm
 refine dW 0 5 [.tmp 2] func69 fun B=>nA fun hA=>?_
 refine qS ?_;obtain⟨f,c,hm⟩:=ze hm;refine sX (fun hg=>Jc b _ c) ?_;exact wR
theorem NR(b:List ab)(z:Int)(hm:Ch b=some z):Does prog 62 [lm za b,.fn 69 [],.fn 65 []] [] (fun r X=>r=pI z/\X=[]):=by
 unfold Ch at hm
 refine dW 0 39 [.tmp 6] func62 fun B=>nA fun hA=>?_
 refine qS ?_
 refine ca fun K2 t G=>?_
 obtain⟨I,j,hm⟩:=zN hm
 have m:∀s,I s=some z->K2 [] []:=by
  intro s hs;have hm:=j _ hs;clear hs
  try dsimp only at hm|-
  exact t _ _ (wQ)
 clear t j;refine qS ?_;refine Wp.block ?_;obtain⟨R,v,hm⟩:=zF hm
 refine fL 0 b.length fun n=>?_
 refine Wp.forL (fun c s=>[(0,lm za b),(1,.fn 69 []),(2,.fn 65 []),(10,lm za b),(11,pI (b.length:Int)),(12,pI (c:Int))]) (fun c s=>[]) wF hm ?_;clear hm;intro c s N hm
 try dsimp only at hm|-
 refine qS ?_
 refine lB za hm n (fun h=>G _ _ _ _ wF (m () (v _ h))) fun w J u P o O p hm hA _ L=>?_
 refine q6 ?_
 refine ca fun _ M _=>?_
 obtain⟨S,C,hm⟩:=ze hm;refine sX (fun hg=>Mc u _ C) ?_;refine q6 ?_
 refine cR hm fun hm=>?_
 refine Wp.skip (M _ _ ?_);obtain⟨T,D,hm⟩:=zY hm;obtain⟨Q,hm⟩:=zl hm;obtain⟨U,E,hm⟩:=zY hm;have f:=CT (l:=b) (e:=za) (d:=(ab.mk [] [])) (i:=(IntKind.i64.wrap ((c:Int)-1)).toNat);simp only[za,map_nil]at f;have hA:=And.intro J (And.intro o f)
 refine dS (pl [(0,none),(1,none),(2,none),(3,none),(4,none),(5,none),(6,none),(7,none),(8,none),(9,none),(10,none),(11,none),(12,none),(13,none),(14,none)]) fun _ F=>?_
 refine cD (g:=decide (0<(c:Int))) (fun hg=>GB u _ (D hg)) ?_;refine cD (g:=decide (0<(c:Int))) (fun hg=>GB (ab.mk ((b.getD ((IntKind.i64.wrap ((c:Int)-1)).toNat) (ab.mk [] [])).k) ((b.getD ((IntKind.i64.wrap ((c:Int)-1)).toNat) (ab.mk [] [])).Value)) _ (E hg)) (F _ _ ?_)
 refine cR hm fun hm=>?_
 refine Wp.skip (L _ _ (r6 ?_));exact wN () w (p _ hm)
theorem Lh(b:ah)(z:Int)(hm:Cb b=some z):Does prog 71 [.agg [pS b.o,pS b.a,pB b.B,pB b.A]] [] (fun r X=>r=pI z/\X=[]):=by
 unfold Cb at hm
 refine dW 0 13 [.tmp 2] func71 fun B=>nA fun hA=>?_
 refine qS ?_
 refine ca fun _ i _=>?_
 obtain⟨j,c,hm⟩:=ze hm;obtain⟨l,f,hm⟩:=zY hm
 refine rS fun _ k=>?_
 refine cX (fun hg=>xS b.o _ c) ?_;refine cX (g:=!(!j)) (fun hg=>B9 b.a _ (f hg)) (k _ _ ?_)
 refine cR hm fun hm=>?_
 exact Wp.skip (i _ _ (wQ))
theorem KM(b:ah)(z:dX)(hm:C8 b=some z):Does prog 72 [.agg [pS b.o,pS b.a,pB b.B,pB b.A]] [] (fun r X=>r=pS z/\X=[]):=by
 unfold C8 at hm
 refine dW 0 5 [.tmp 2] func72 fun B=>nA fun hA=>?_
 refine qS ?_;exact wQ
theorem NP(b:List ah)(z:Int)(hm:Cg b=some z):Does prog 70 [lm zb b,.fn 71 [],.fn 72 []] [] (fun r X=>r=pI z/\X=[]):=by
 unfold Cg at hm
 refine dW 0 39 [.tmp 6] func70 fun B=>nA fun hA=>?_
 refine qS ?_
 refine ca fun K2 t G=>?_
 obtain⟨I,j,hm⟩:=zN hm
 have k:∀s,I s=some z->K2 [] []:=by
  intro s hs;have hm:=j _ hs;clear hs
  try dsimp only at hm|-
  exact t _ _ (wQ)
 clear t j;refine qS ?_;refine Wp.block ?_;obtain⟨R,v,hm⟩:=zF hm
 refine fL 0 b.length fun m=>?_
 refine Wp.forL (fun c s=>[(0,lm zb b),(1,.fn 71 []),(2,.fn 72 []),(10,lm zb b),(11,pI (b.length:Int)),(12,pI (c:Int))]) (fun c s=>[]) wF hm ?_;clear hm;intro c s N hm
 try dsimp only at hm|-
 refine qS ?_
 refine lB zb hm m (fun h=>G _ _ _ _ wF (k () (v _ h))) fun w J u P n O p hm hA _ L=>?_
 refine q6 ?_
 refine ca fun _ M _=>?_
 obtain⟨S,C,hm⟩:=ze hm;refine sX (fun hg=>Lh u _ C) ?_;refine q6 ?_
 refine cR hm fun hm=>?_
 refine Wp.skip (M _ _ ?_);obtain⟨T,D,hm⟩:=zY hm;obtain⟨Q,hm⟩:=zl hm;obtain⟨U,E,hm⟩:=zY hm;have f:=CT (l:=b) (e:=zb) (d:=(ah.mk [] [] false false)) (i:=(IntKind.i64.wrap ((c:Int)-1)).toNat);simp only[zb,map_nil]at f;have hA:=And.intro J (And.intro n f)
 refine dS (pl [(0,none),(1,none),(2,none),(3,none),(4,none),(5,none),(6,none),(7,none),(8,none),(9,none),(10,none),(11,none),(12,none),(13,none),(14,none)]) fun _ F=>?_
 refine cD (g:=decide (0<(c:Int))) (fun hg=>KM u _ (D hg)) ?_;refine cD (g:=decide (0<(c:Int))) (fun hg=>KM (ah.mk ((b.getD ((IntKind.i64.wrap ((c:Int)-1)).toNat) (ah.mk [] [] false false)).o) ((b.getD ((IntKind.i64.wrap ((c:Int)-1)).toNat) (ah.mk [] [] false false)).a) ((b.getD ((IntKind.i64.wrap ((c:Int)-1)).toNat) (ah.mk [] [] false false)).B) ((b.getD ((IntKind.i64.wrap ((c:Int)-1)).toNat) (ah.mk [] [] false false)).A)) _ (E hg)) (F _ _ ?_)
 refine cR hm fun hm=>?_
 refine Wp.skip (L _ _ (r6 ?_));exact wN () w (p _ hm)
theorem GA(b:aj)(z:Int)(hm:vQ b=some z):Does prog 26 [.agg [lm za b.q,lm zc b.i,lm za b.n,lm zb b.m]] [] (fun r X=>r=pI z/\X=[]):=by
 unfold vQ at hm
 refine dW 0 80 [.tmp 2] func26 fun B=>nA fun hA=>?_
 refine qS ?_
 refine ca fun _ S _=>qS ?_
 refine cR hm fun hm=>?_
 refine Wp.skip (S _ _ (ca fun _ T _=>?_));obtain⟨a3,E,hm⟩:=ze hm;refine sX (fun hg=>NQ b.q _ E) ?_;refine qS ?_
 refine cR hm fun hm=>?_
 refine Wp.skip (T _ _ (qS ?_));refine qS ?_
 refine ca fun U j F=>?_
 obtain⟨V,k,hm⟩:=zN hm
 have l:∀s,V s=some z->U [(1,.ptr 0 0)] [.cells 26 [lm za b.q,lm zc b.i,lm za b.n,lm zb b.m]]:=by
  intro s hs;have hm:=k _ hs;clear hs
  try dsimp only at hm|-
  refine j _ _ (ca fun _ G _=>?_);obtain⟨a4,I,hm⟩:=ze hm;refine sX (fun hg=>NR b.n _ I) ?_;refine qS ?_
  refine cR hm fun hm=>?_
  refine Wp.skip (G _ _ ?_);obtain⟨a5,J,hm⟩:=ze hm;refine sX (fun hg=>NP b.m _ J) ?_;exact wR
 clear j k;refine qS ?_;refine Wp.block ?_;obtain⟨a6,L,hm⟩:=zF hm
 refine fL 40 b.i.length fun t=>?_
 refine Wp.forL (fun o s=>[(1,.ptr 0 0),(4,pS s.1),(5,.ptr 2 0),(40,lm zc b.i),(41,pI (b.i.length:Int)),(42,pI (o:Int))]) (fun o s=>[.cells 26 [lm za b.q,lm zc b.i,lm za b.n,lm zb b.m],.mp false (zj Dt.s eE s.2),.cells 125 [.mp 1]]) wF hm ?_;clear hm;intro o s W hm;obtain⟨D,f⟩:=s
 try dsimp only at hm|-
 refine qS ?_
 refine lB zc hm t (fun h=>F _ _ _ _ wF (l () (L _ h))) fun u M c Y v Z p hm hA _ N=>?_
 refine q6 ?_
 refine ca fun _ O _=>?_
 obtain⟨a0,w,hm⟩:=ze hm;refine sX (fun hg=>IX c _ w) ?_;refine q6 ?_
 refine cR hm fun hm=>?_
 refine Wp.skip (O _ _ (ca fun _ P _=>q6 ?_))
 refine cR hm fun hm=>?_
 refine Wp.skip (P _ _ (ca fun _ Q _=>?_));obtain⟨a1,C,hm⟩:=ze hm;refine sQ [2,1] (fun hg=>Mx c.a f _ C) ?_
 refine cR hm fun hm=>?_
 refine Wp.skip (Q _ _ ?_);obtain⟨a2,hm⟩:=zl hm;have g:=fN (e:=eE) zZ f c.a true;simp only[eE,map_nil]at g;have hA:=And.intro M (And.intro v g)
 refine dE (pl [(0,none),(1,none),(2,none),(3,none),(4,none),(5,none),(6,some [])]) fun _ R=>R _ _ ?_
 refine N _ _ (r6 ?_);exact wN (c.a,ec f c.a true) u (p _ hm)
theorem Lp(b:List ab)(z:List ab)(hm:zO b=some z):Does prog 102 [lm za b] [] (fun r X=>r=lm za z/\X=[]):=by
 unfold zO at hm
 refine dW 0 8 [.tmp 2] func102 fun B=>nA fun hA=>?_
 refine qS ?_
 refine ca fun _ f _=>cb fun K3 g=>?_
 simp only[go_sem,simprocAttr]
 try refine⟨sd,?_⟩
 refine cJ (rows:=?rows4) (e:=?e4) (esz:=?esz4) (eb:=?eb4) (ez:=?ez4) Is.mk Is.mk sg sg si si ?cont4;intro i c;replace hm:=xJ hm i (fun h=>map_eq_nil_iff.1 (c h))
 try dsimp only at hm
 simp only[go_sem,simprocAttr];refine kA g ?_
 refine cN hm (fun hm=>?_) fun hm=>?_
 .refine qS ?_
  refine Wp.ret ?_;simp only[zS,zL];refine ls ?_;cases hm;exact fa
 .refine Wp.skip (f _ _ ?_)
  obtain⟨j,hm⟩:=zl hm;exact wQ
theorem NC(b:dX)(f:List ab)(i:List (dX×aa))(g:List (dX×Int))(j:List (dX×ab))(k:List (dX×ah))(c:Int)(z:Bool×(List (dX×Int)))(hm:DO b f i g j k c=some z):Does prog 169 [pS b,.ptr 0 0,.ptr 6 0] [.cells 131 [.ptr 1 0],.cells 161 [lm za f,.mp 2,.mp 3,.mp 4,.mp 5],.mp true (zj Dt.s zc i),.mp false (zj Dt.s zh g),.mp true (zj Dt.s za j),.mp true (zj Dt.s zb k),.cells 3 [pI c]] (fun r X=>r=pB z.1/\X=[.cells 131 [.ptr 1 0],.cells 161 [lm za f,.mp 2,.mp 3,.mp 4,.mp 5],.mp true (zj Dt.s zc i),.mp false (zj Dt.s zh z.2),.mp true (zj Dt.s za j),.mp true (zj Dt.s zb k),.cells 3 [pI c]]):=by
 unfold DO at hm
 refine dW 7 13 [.tmp 4] func169 fun B=>nA fun hA=>?_
 refine qS ?_;obtain⟨o,p,hm⟩:=zC hm;have l:=zy (e:=zh) zZ g b 0;have m:=zx (e:=zh) zZ g b;simp only[p,zh,map_nil]at l m;obtain⟨u,hm⟩:=zl hm;have n:=fN (e:=zh) zZ g b (IntKind.i64.wrap ((o.getD 0)+c));simp only[zh,map_nil]at n;have hA:=And.intro l (And.intro m n)
 refine dS (pl [(0,none),(1,none),(2,none),(3,none),(4,none),(5,none),(6,none),(7,none),(8,some [])]) fun _ t=>t _ _ ?_
 exact wQ
theorem My(f:dX)(b:List ab)(i:List (dX×aa))(m:List (dX×Int))(j:List (dX×ab))(k:List (dX×ah))(c:Int)(z:Bool×(List (dX×Int)))(hm:Gu f b i m j k c=some z):Does prog 67 [pS f,.fn 169 [.ptr 0 0,.ptr 6 0]] [.cells 131 [.ptr 1 0],.cells 161 [lm za b,.mp 2,.mp 3,.mp 4,.mp 5],.mp true (zj Dt.s zc i),.mp false (zj Dt.s zh m),.mp true (zj Dt.s za j),.mp true (zj Dt.s zb k),.cells 3 [pI c]] (fun r X=>r=pB z.1/\X=[.cells 131 [.ptr 1 0],.cells 161 [lm za b,.mp 2,.mp 3,.mp 4,.mp 5],.mp true (zj Dt.s zc i),.mp false (zj Dt.s zh z.2),.mp true (zj Dt.s za j),.mp true (zj Dt.s zb k),.cells 3 [pI c]]):=by
 unfold Gu at hm
 refine dW 7 24 [.tmp 4] func67 fun B=>nA fun hA=>?_
 refine qS ?_
 refine ca fun K2 G L=>?_
 obtain⟨I,n,hm⟩:=zN hm
 have v:∀s,I s=some z->K2 [] [.cells 131 [.ptr 1 0],.cells 161 [lm za b,.mp 2,.mp 3,.mp 4,.mp 5],.mp true (zj Dt.s zc i),.mp false (zj Dt.s zh s),.mp true (zj Dt.s za j),.mp true (zj Dt.s zb k),.cells 3 [pI c]]:=by
  intro S hs;have hm:=n _ hs;clear hs
  try dsimp only at hm|-
  exact G _ _ (wQ)
 clear G n;refine qS ?_;refine Wp.block ?_;obtain⟨V,w,hm⟩:=zF hm
 refine fL 0 f.length fun C=>?_
 refine Wp.forL (fun o s=>[(0,pS f),(1,.fn 169 [.ptr 0 0,.ptr 6 0]),(5,pI (o:Int))]) (fun o s=>[.cells 131 [.ptr 1 0],.cells 161 [lm za b,.mp 2,.mp 3,.mp 4,.mp 5],.mp true (zj Dt.s zc i),.mp false (zj Dt.s zh s),.mp true (zj Dt.s za j),.mp true (zj Dt.s zb k),.cells 3 [pI c]]) wF hm ?_;clear hm;intro o p T hm
 try dsimp only at hm|-
 refine ca fun _ M _=>qS ?_
 refine Wp.cond rfl ⟨⟩ (fun t=>?_) fun t=>Wp.exit (L _ _ _ _ wF (v p (w _ (nE hm (wY t)))))
 have l:=oe t;have N:=lu l C;obtain⟨O,U,D,E,u,hm⟩:=nD hm l;clear D;refine Wp.skip ?_;simp only[zS];refine M _ _ (ca fun _ P _=>Wp.block ?_);obtain⟨W,hm⟩:=zl hm;obtain⟨Q,J,F,hm⟩:=mZ hm;have hA:=And.intro N E
 refine cb fun K8 R=>?_
 simp only[go_sem,simprocAttr,hA]
 try refine⟨sL,?_⟩
 refine dp (av:=?av9) (g:=decide ((O.toNat:Int)=47)) [0,1,2,3,4,5,6] (fun hg=>NC (List.take o f) b i p j k c _ (J hg)) (fun hg=>by obtain rfl:=F hg;rfl) (by simp only[go_sem,simprocAttr,hA];exact Is.mk) (by simp only[go_sem,simprocAttr,hA];exact Is.mk) (by simp only[go_sem,simprocAttr,hA];exact Is.mk) (by simp only[go_sem,simprocAttr,hA];exact Is.mk) (by simp only[go_sem,simprocAttr,hA]) (by simp only[go_sem,simprocAttr,hA]) ?cont9;simp only[go_sem,simprocAttr,hA];refine kA R ?_
 refine cR hm fun hm=>?_
 refine Wp.skip (P _ _ (r6 ?_));exact wN Q.2 l (u _ hm)
theorem Lb(c:dX)(k:Int)(b:List ab)(f:List (dX×aa))(j:List (dX×Int))(g:List (dX×ab))(i:List (dX×ah))(z:(List (dX×Int)))(hm:Cj c k b f j g i=some z):Does prog 144 [.ptr 0 0,pS c,pI k] [.cells 161 [lm za b,.mp 1,.mp 2,.mp 3,.mp 4],.mp true (zj Dt.s zc f),.mp false (zj Dt.s zh j),.mp true (zj Dt.s za g),.mp true (zj Dt.s zb i)] (fun r X=>r=.tup []/\X=[.cells 161 [lm za b,.mp 1,.mp 2,.mp 3,.mp 4],.mp true (zj Dt.s zc f),.mp false (zj Dt.s zh z),.mp true (zj Dt.s za g),.mp true (zj Dt.s zb i)]):=by
 unfold Cj at hm
 refine dW 5 9 [] func144 fun B=>nA fun hA=>?_
 refine qS ?_;obtain⟨m,l,hm⟩:=ze hm;refine eO [5,0,1,2,3,4,6] (My c b f j g i k _ l) ?_;refine zq ?_;cases hm;exact fa
theorem Lg(b:aa)(f:List ab)(c:List (dX×aa))(j:List (dX×Int))(g:List (dX×ab))(i:List (dX×ah))(z:(List (dX×aa))×(List (dX×Int)))(hm:yS b f c j g i=some z):Does prog 103 [.ptr 0 0,.agg [pS b.a,pS b.u,pB b.w]] [.cells 161 [lm za f,.mp 1,.mp 2,.mp 3,.mp 4],.mp true (zj Dt.s zc c),.mp false (zj Dt.s zh j),.mp true (zj Dt.s za g),.mp true (zj Dt.s zb i)] (fun r X=>r=.tup []/\X=[.cells 161 [lm za f,.mp 1,.mp 2,.mp 3,.mp 4],.mp true (zj Dt.s zc z.1),.mp false (zj Dt.s zh z.2),.mp true (zj Dt.s za g),.mp true (zj Dt.s zb i)]):=by
 unfold yS at hm
 refine dW 5 29 [] func103 fun B=>nA fun hA=>?_
 refine qS ?_
 refine ca fun _ o _=>?_
 obtain⟨E,p,hm⟩:=zC hm;have k:=zy (e:=zc) zZ c b.a (aa.mk [] [] false);have l:=zx (e:=zc) zZ c b.a;simp only[p,zc,map_nil]at k l;have hA:=And.intro k l
 refine dS (pl [(0,none),(1,none),(2,none),(3,none),(4,none),(5,none),(6,none),(7,none),(8,none),(9,none),(10,some [0,1,2,3,4,5,6,7,8,9]),(11,some [9]),(12,none)]) fun _ v=>v _ _ ?_
 refine qS ?_
 refine cN hm (fun hm=>?_) fun hm=>?_
 .obtain⟨I,t,hm⟩:=ze hm
  refine eO [0,1,2,3,4] (Lb b.a 1 f c j g i _ t) ?_;refine o _ _ ?_;obtain⟨F,hm⟩:=zl hm;have n:=fN (e:=zc) zZ c b.a b;simp only[zc,map_nil]at n;have hA:=n
  refine dE (pl [(0,none),(1,none),(2,none),(3,none),(4,none),(5,none),(6,none),(7,some [])]) fun _ C=>C _ _ ?_
  refine zq ?_;cases hm;exact fa
 .refine Wp.skip (o _ _ ?_)
  obtain⟨G,hm⟩:=zl hm;have m:=fN (e:=zc) zZ c b.a b;simp only[zc,map_nil]at m;have hA:=m
  refine dE (pl [(0,none),(1,none),(2,none),(3,none),(4,none),(5,none),(6,none),(7,some [])]) fun _ D=>D _ _ ?_
  refine zq ?_;cases hm;exact fa
theorem Me(b:aj)(z:(List (dX×aa))×(List (dX×Int))×(List (dX×ab))×(List (dX×ah))×List ab)(hm:Dq b=some z):Does prog 73 [.agg [lm za b.q,lm zc b.i,lm za b.n,lm zb b.m]] [] (fun r X=>r=.ptr 5 0/\X=[.cells 26 [.top,.top,.top,.top],.mp true (zj Dt.s zc z.1),.mp false (zj Dt.s zh z.2.1),.mp true (zj Dt.s za z.2.2.1),.mp true (zj Dt.s zb z.2.2.2.1),.cells 161 [lm za z.2.2.2.2,.mp 1,.mp 2,.mp 3,.mp 4]]):=by
 unfold Dq at hm
 refine dW 6 61 [.tmp 2] func73 fun B=>nA fun hA=>?_
 refine qS ?_;obtain⟨c,a9,hm⟩:=ze hm;refine sF (Lp b.q _ a9) ?_
 refine ca fun K4 a6 ax=>?_
 obtain⟨ay,I,hm⟩:=zN hm
 have Q:∀s,ay s=some z->K4 [(1,.ptr 0 0),(3,.ptr 5 0)] [.cells 26 [lm za b.q,lm zc b.i,lm za b.n,lm zb b.m],.mp true (zj Dt.s zc s.1),.mp false (zj Dt.s zh s.2),.mp true (zj Dt.s za []),.mp true (zj Dt.s zb []),.cells 161 [lm za c,.mp 1,.mp 2,.mp 3,.mp 4]]:=by
  intro s hs;have hm:=I _ hs;clear hs;obtain⟨f,g⟩:=s
  try dsimp only at hm|-
  refine a6 _ _ (ca fun K5 a7 az=>?_);obtain⟨aA,J,hm⟩:=zN hm
  have R:∀s,aA s=some z->K5 [(1,.ptr 0 0),(3,.ptr 5 0)] [.cells 26 [lm za b.q,lm zc b.i,lm za b.n,lm zb b.m],.mp true (zj Dt.s zc f),.mp false (zj Dt.s zh g),.mp true (zj Dt.s za s),.mp true (zj Dt.s zb []),.cells 161 [lm za c,.mp 1,.mp 2,.mp 3,.mp 4]]:=by
   intro v hs;have hm:=J _ hs;clear hs
   try dsimp only at hm|-
   refine a7 _ _ (ca fun K6 a8 aB=>?_);obtain⟨aC,L,hm⟩:=zN hm
   have S:∀s,aC s=some z->K6 [(3,.ptr 5 0)] [.cells 26 [.top,.top,.top,.top],.mp true (zj Dt.s zc f),.mp false (zj Dt.s zh g),.mp true (zj Dt.s za v),.mp true (zj Dt.s zb s),.cells 161 [lm za c,.mp 1,.mp 2,.mp 3,.mp 4]]:=by
    intro aI hs;have hm:=L _ hs;clear hs
    try dsimp only at hm|-
    exact a8 _ _ (wQ)
   clear a8 L;refine qS ?_;refine Wp.block ?_;obtain⟨aO,T,hm⟩:=zF hm
   refine fL 46 b.m.length fun U=>?_
   refine Wp.forL (fun p s=>[(3,.ptr 5 0),(46,lm zb b.m),(47,pI (b.m.length:Int)),(48,pI (p:Int))]) (fun p s=>[.cells 26 [lm za b.q,lm zc b.i,lm za b.n,lm zb b.m],.mp true (zj Dt.s zc f),.mp false (zj Dt.s zh g),.mp true (zj Dt.s za v),.mp true (zj Dt.s zb s),.cells 161 [lm za c,.mp 1,.mp 2,.mp 3,.mp 4]]) wF hm ?_;clear hm;intro p j aD hm
   try dsimp only at hm|-
   refine qS ?_
   refine lB zb hm U (fun h=>aB _ _ _ _ wF (S j (T _ h))) fun V ac w aJ W aK M hm hA _ ad=>?_
   refine q6 ?_;obtain⟨aP,hm⟩:=zl hm;have C:=fN (e:=zb) zZ j w.o w;simp only[zb,map_nil]at C;have hA:=And.intro ac (And.intro W C)
   refine dE (pl [(0,none),(1,none),(2,none),(3,none),(4,none),(5,none),(6,none),(7,some [])]) fun _ af=>af _ _ ?_
   refine ad _ _ (r6 ?_);exact wN (ec j w.o w) V (M _ hm)
  clear a7 J;refine qS ?_;refine Wp.block ?_;obtain⟨aQ,Y,hm⟩:=zF hm
  refine fL 31 b.n.length fun Z=>?_
  refine Wp.forL (fun t s=>[(1,.ptr 0 0),(3,.ptr 5 0),(31,lm za b.n),(32,pI (b.n.length:Int)),(33,pI (t:Int))]) (fun t s=>[.cells 26 [lm za b.q,lm zc b.i,lm za b.n,lm zb b.m],.mp true (zj Dt.s zc f),.mp false (zj Dt.s zh g),.mp true (zj Dt.s za s),.mp true (zj Dt.s zb []),.cells 161 [lm za c,.mp 1,.mp 2,.mp 3,.mp 4]]) wF hm ?_;clear hm;intro t l aE hm
  try dsimp only at hm|-
  refine qS ?_
  refine lB za hm Z (fun h=>az _ _ _ _ wF (R l (Y _ h))) fun a0 ag D aL a1 aM N hm hA _ an=>?_
  refine q6 ?_;obtain⟨aR,hm⟩:=zl hm;have E:=fN (e:=za) zZ l D.k D;simp only[za,map_nil]at E;have hA:=And.intro ag (And.intro a1 E)
  refine dE (pl [(0,none),(1,none),(2,none),(3,none),(4,none),(5,none),(6,none),(7,some [])]) fun _ ap=>ap _ _ ?_
  refine an _ _ (r6 ?_);exact wN (ec l D.k D) a0 (N _ hm)
 clear a6 I;refine qS ?_;refine Wp.block ?_;obtain⟨aS,a2,hm⟩:=zF hm
 refine fL 20 b.i.length fun a3=>?_
 refine Wp.forL (fun u s=>[(1,.ptr 0 0),(3,.ptr 5 0),(20,lm zc b.i),(21,pI (b.i.length:Int)),(22,pI (u:Int))]) (fun u s=>[.cells 26 [lm za b.q,lm zc b.i,lm za b.n,lm zb b.m],.mp true (zj Dt.s zc s.1),.mp false (zj Dt.s zh s.2),.mp true (zj Dt.s za []),.mp true (zj Dt.s zb []),.cells 161 [lm za c,.mp 1,.mp 2,.mp 3,.mp 4]]) wF hm ?_;clear hm;intro u s aF hm;obtain⟨F,G⟩:=s
 try dsimp only at hm|-
 refine qS ?_
 refine lB zc hm a3 (fun h=>ax _ _ _ _ wF (Q (F,G) (a2 _ h))) fun a4 aT av aN aG aH O hm hA _ aw=>?_
 refine q6 ?_;obtain⟨P,a5,hm⟩:=ze hm;refine eO [5,1,2,3,4] (Lg av c F G [] [] _ a5) ?_;refine aw _ _ (r6 ?_);exact wN (P.1,P.2) a4 (O _ hm)
theorem KV(b:ai)(z:Int)(hm:Cc b=some z):Does prog 104 [.agg [pI b.e,pS b.g.a,pS b.g.u,pB b.g.w,pS b.j.k,pS b.j.Value,pS b.h.o,pS b.h.a,pB b.h.B,pB b.h.A]] [] (fun r X=>r=pI z/\X=[]):=by
 unfold Cc at hm
 refine dW 0 78 [.tmp 2] func104 fun B=>nA fun hA=>?_
 refine qS ?_;refine qS ?_;refine qS ?_
 refine ca fun K4 l f=>?_
 obtain⟨T,i,hm⟩:=zN hm
 have c:∀s,T s=some z->K4 [(1,.ptr 0 0),(3,.ptr 1 0),(4,pI s.1)] [.cells 51 [pI b.e,pS b.g.a,pS b.g.u,pB b.g.w,pS b.j.k,pS b.j.Value,pS b.h.o,pS b.h.a,pB b.h.B,pB b.h.A],.cells 51 [pI 0,pS s.2.1,pS s.2.2.1,pB s.2.2.2.1,pS s.2.2.2.2.1,pS s.2.2.2.2.2.1,pS s.2.2.2.2.2.2.1,pS s.2.2.2.2.2.2.2.1,pB s.2.2.2.2.2.2.2.2.1,pB s.2.2.2.2.2.2.2.2.2]]:=by
  intro s hs;have hm:=i _ hs;clear hs;obtain⟨a1,J,L,M,N,O,P,Q,R,S⟩:=s
  try dsimp only at hm|-
  refine l _ _ (qS ?_)
  refine ca fun _ U _=>qS ?_
  refine cR hm fun hm=>?_
  exact Wp.skip (U _ _ (wQ))
 clear l i;refine qS ?_;refine Wp.block (qS ?_)
 refine cN hm (fun hm=>?_) fun hm=>?_
 .obtain⟨V,m,hm⟩:=ze hm
  refine dE (pl [(0,none),(1,none),(2,none),(3,none),(4,none),(5,none),(6,some []),(7,none)]) fun _ n=>?_
  refine cD (fun hg=>IX b.g _ m) (n _ _ ?_);refine f _ _ _ _ ?_ (c (V,b.g.a,b.g.u,b.g.w,[],[],[],[],false,false) hm);exact fa
 .refine qS ?_
  refine cN hm (fun hm=>?_) fun hm=>?_
  .obtain⟨W,p,hm⟩:=ze hm
   refine dE (pl [(0,none),(1,none),(2,none),(3,none),(4,none),(5,none),(6,none),(7,none),(8,none),(9,none),(10,some []),(11,none)]) fun _ t=>?_
   refine cD (fun hg=>IX (aa.mk b.g.a [] false) _ p) (t _ _ ?_);refine f _ _ _ _ ?_ (c (W,b.g.a,[],false,[],[],[],[],false,false) hm);exact fa
  .refine qS ?_
   refine cN hm (fun hm=>?_) fun hm=>?_
   .obtain⟨Y,v,hm⟩:=ze hm
    refine dE (pl [(0,none),(1,none),(2,none),(3,none),(4,none),(5,none),(6,some []),(7,none)]) fun _ C=>?_
    refine cD (fun hg=>Jc b.j _ v) (C _ _ ?_);refine f _ _ _ _ ?_ (c (Y,[],[],false,b.j.k,b.j.Value,[],[],false,false) hm);exact fa
   .refine qS ?_
    refine cN hm (fun hm=>?_) fun hm=>?_
    .obtain⟨Z,D,hm⟩:=ze hm
     refine dE (pl [(0,none),(1,none),(2,none),(3,none),(4,none),(5,none),(6,none),(7,none),(8,none),(9,none),(10,some []),(11,none)]) fun _ E=>?_
     refine cD (fun hg=>Jc (ab.mk b.j.k []) _ D) (E _ _ ?_);refine f _ _ _ _ ?_ (c (Z,[],[],false,b.j.k,[],[],[],false,false) hm);exact fa
    .refine qS ?_
     refine cN hm (fun hm=>?_) fun hm=>?_
     .obtain⟨a0,F,hm⟩:=ze hm
      refine dE (pl [(0,none),(1,none),(2,none),(3,none),(4,none),(5,none),(6,some []),(7,none)]) fun _ G=>?_
      refine cD (fun hg=>Lh b.h _ F) (G _ _ ?_);refine f _ _ _ _ ?_ (c (a0,[],[],false,[],[],b.h.o,b.h.a,b.h.B,b.h.A) hm);exact fa
     .refine qS ?_
      refine cT hm fun hm=>?_
      refine qS ?_;obtain⟨a2,I,hm⟩:=ze hm;refine sX (fun hg=>xS b.h.o _ I) ?_
      refine cN hm (fun hm=>?_) fun hm=>?_
      .refine qR ?_
       refine f _ _ _ _ ?_ (c (5,[],[],false,[],[],b.h.o,[],false,false) hm);exact fa
      .refine Wp.skip (f _ _ _ _ ?_ (c (0,[],[],false,[],[],b.h.o,[],false,false) hm))
       exact fa
theorem Nu(b:dX)(c:List ab)(f:List (dX×aa))(g:List (dX×Int))(i:List (dX×ab))(j:List (dX×ah))(z:Bool)(hm:D2 b c f g i j=some z):Does prog 170 [pS b,.ptr 0 0] [.cells 131 [.ptr 1 0],.cells 161 [lm za c,.mp 2,.mp 3,.mp 4,.mp 5],.mp true (zj Dt.s zc f),.mp false (zj Dt.s zh g),.mp true (zj Dt.s za i),.mp true (zj Dt.s zb j)] (fun r X=>r=pB z/\X=[.cells 131 [.ptr 1 0],.cells 161 [lm za c,.mp 2,.mp 3,.mp 4,.mp 5],.mp true (zj Dt.s zc f),.mp false (zj Dt.s zh g),.mp true (zj Dt.s za i),.mp true (zj Dt.s zb j)]):=by
 unfold D2 at hm
 refine dW 6 17 [.tmp 3] func170 fun B=>nA fun hA=>?_
 refine qS ?_;obtain⟨n,m,hm⟩:=zC hm;have k:=zy (e:=zc) zZ f b (aa.mk [] [] false);have l:=zx (e:=zc) zZ f b;simp only[m,zc,map_nil]at k l;have hA:=And.intro k l;refine q6 ?_;exact wQ
theorem Mz(c:dX)(b:List ab)(f:List (dX×aa))(i:List (dX×Int))(j:List (dX×ab))(k:List (dX×ah))(z:Bool)(hm:Dy c b f i j k=some z):Does prog 67 [pS c,.fn 170 [.ptr 0 0]] [.cells 131 [.ptr 1 0],.cells 161 [lm za b,.mp 2,.mp 3,.mp 4,.mp 5],.mp true (zj Dt.s zc f),.mp false (zj Dt.s zh i),.mp true (zj Dt.s za j),.mp true (zj Dt.s zb k)] (fun r X=>r=pB z/\X=[.cells 131 [.ptr 1 0],.cells 161 [lm za b,.mp 2,.mp 3,.mp 4,.mp 5],.mp true (zj Dt.s zc f),.mp false (zj Dt.s zh i),.mp true (zj Dt.s za j),.mp true (zj Dt.s zb k)]):=by
 unfold Dy at hm
 refine dW 6 24 [.tmp 4] func67 fun B=>nA fun hA=>?_
 refine qS ?_
 refine ca fun K2 E F=>?_
 obtain⟨G,n,hm⟩:=zN hm
 have t:∀s,G s=some z->K2 [] [.cells 131 [.ptr 1 0],.cells 161 [lm za b,.mp 2,.mp 3,.mp 4,.mp 5],.mp true (zj Dt.s zc f),.mp false (zj Dt.s zh i),.mp true (zj Dt.s za j),.mp true (zj Dt.s zb k)]:=by
  intro s hs;have hm:=n _ hs;clear hs
  try dsimp only at hm|-
  exact E _ _ (wQ)
 clear E n;refine qS ?_;refine Wp.block ?_;obtain⟨P,u,hm⟩:=zF hm
 refine fL 0 c.length fun v=>?_
 refine Wp.forL (fun m s=>[(0,pS c),(1,.fn 170 [.ptr 0 0]),(5,pI (m:Int))]) (fun m s=>[.cells 131 [.ptr 1 0],.cells 161 [lm za b,.mp 2,.mp 3,.mp 4,.mp 5],.mp true (zj Dt.s zc f),.mp false (zj Dt.s zh i),.mp true (zj Dt.s za j),.mp true (zj Dt.s zb k)]) wF hm ?_;clear hm;intro m s N hm
 try dsimp only at hm|-
 refine ca fun _ I _=>qS ?_
 refine Wp.cond rfl ⟨⟩ (fun o=>?_) fun o=>Wp.exit (F _ _ _ _ wF (t () (u _ (nE hm (wY o)))))
 have l:=oe o;have J:=lu l v;obtain⟨L,O,w,C,p,hm⟩:=nD hm l;clear w;refine Wp.skip ?_;simp only[zS];refine I _ _ (ca fun _ M _=>Wp.block ?_);obtain⟨Q,hm⟩:=zl hm;obtain⟨R,D,hm⟩:=zY hm;have hA:=And.intro J C;refine sQ (g:=decide ((L.toNat:Int)=47)) [0,1,2,3,4,5] (fun hg=>Nu (List.take m c) b f i j k _ (D hg)) ?_
 refine cR hm fun hm=>?_
 refine Wp.skip (M _ _ (r6 ?_));exact wN () l (p _ hm)
theorem Nx(b:dX)(c:List ab)(g:List (dX×aa))(f:List (dX×Int))(i:List (dX×ab))(j:List (dX×ah))(z:Bool)(hm:D5 b c g f i j=some z):Does prog 145 [.ptr 0 0,pS b] [.cells 161 [lm za c,.mp 1,.mp 2,.mp 3,.mp 4],.mp true (zj Dt.s zc g),.mp false (zj Dt.s zh f),.mp true (zj Dt.s za i),.mp true (zj Dt.s zb j)] (fun r X=>r=pB z/\X=[.cells 161 [lm za c,.mp 1,.mp 2,.mp 3,.mp 4],.mp true (zj Dt.s zc g),.mp false (zj Dt.s zh f),.mp true (zj Dt.s za i),.mp true (zj Dt.s zb j)]):=by
 unfold D5 at hm
 refine dW 5 20 [.tmp 4] func145 fun B=>nA fun hA=>?_
 refine qS ?_;obtain⟨o,m,hm⟩:=ze hm;refine sQ [5,0,1,2,3,4] (fun hg=>Mz b c g f i j _ m) ?_;obtain⟨p,n,hm⟩:=zC hm;have k:=zy (e:=zh) zZ f b 0;have l:=zx (e:=zh) zZ f b;simp only[n,zh,map_nil]at k l;have hA:=And.intro k l;exact wQ
theorem Lm(b:dX)(c:List (dX×aa))(z:Bool)(hm:D3 b c=some z):Does prog 146 [.mp 0,pS b] [.mp true (zj Dt.s zc c)] (fun r X=>r=pB z/\X=[.mp true (zj Dt.s zc c)]):=by
 unfold D3 at hm
 refine dW 1 15 [.tmp 4] func146 fun B=>nA fun hA=>?_
 refine qS ?_;obtain⟨j,i,hm⟩:=zC hm;have f:=zy (e:=zc) zZ c b (aa.mk [] [] false);have g:=zx (e:=zc) zZ c b;simp only[i,zc,map_nil]at f g;have hA:=And.intro f g;refine q6 ?_;exact wQ
theorem Lk(b:dX)(c:List (dX×ab))(z:Bool)(hm:DX b c=some z):Does prog 147 [.mp 0,pS b] [.mp true (zj Dt.s za c)] (fun r X=>r=pB z/\X=[.mp true (zj Dt.s za c)]):=by
 unfold DX at hm
 refine dW 1 15 [.tmp 4] func147 fun B=>nA fun hA=>?_
 refine qS ?_;obtain⟨j,i,hm⟩:=zC hm;have f:=zy (e:=za) zZ c b (ab.mk [] []);have g:=zx (e:=za) zZ c b;simp only[i,za,map_nil]at f g;have hA:=And.intro f g;refine q6 ?_;exact wQ
theorem Lj(b:dX)(c:List (dX×ah))(z:Bool)(hm:DW b c=some z):Does prog 148 [.mp 0,pS b] [.mp true (zj Dt.s zb c)] (fun r X=>r=pB z/\X=[.mp true (zj Dt.s zb c)]):=by
 unfold DW at hm
 refine dW 1 15 [.tmp 4] func148 fun B=>nA fun hA=>?_
 refine qS ?_;obtain⟨j,i,hm⟩:=zC hm;have f:=zy (e:=zb) zZ c b (ah.mk [] [] false false);have g:=zx (e:=zb) zZ c b;simp only[i,zb,map_nil]at f g;have hA:=And.intro f g;refine q6 ?_;exact wQ
end Go.Proofs.YtggigadnagoglafGreatDoor
