/- That the code does what the models say (part 2). -/
import Derived.Test.YtkojogldchfkkaaGreatDoorScWk0
import Derived.Test.YtkojogldchfkkaaGreatDoorScWk1
set_option linter.unusedSimpArgs false
set_option linter.unusedVariables false
open Go.Proofs Go.Shelf
open List
namespace Go.Proofs.YtkojogldchfkkaaGreatDoor
open Tryz
open Go.Vc Go.Md
set_option maxRecDepth 100000
set_option maxHeartbeats 4000000
theorem Bu(b:List Int)(z:Int)(hm:lu b=some z):Does prog 66 [lm zE b] [] (fun r X=>r=pI z/\X=[]):=by
 unfold lu at hm
 refine dW 0 15 [.tmp 2] func66 fun B=>nA fun hA=>?_
 refine qS ?_
 refine df fun K2 j n=>?_
 obtain⟨o,c,hm⟩:=zj hm
 have g:∀s,o s=some z->K2 [] []:=by
  intro s hs;have hm:=c _ hs;clear hs
  try dsimp only at hm|-
  exact j _ _ (wQ)
 clear j c;refine qS ?_;refine Wp.block ?_;obtain⟨D,k,hm⟩:=zl hm
 refine fL 5 b.length fun l=>?_
 refine Wp.forL (fun f s=>[(5,lm zE b),(6,pI (b.length:Int)),(7,pI (f:Int))]) (fun f s=>[]) wF hm ?_;clear hm;intro f s t hm
 try dsimp only at hm|-
 refine qS ?_
 refine lB zE hm l (fun h=>n _ _ _ _ wF (g () (k _ h))) fun m E F C u v i hm hA _ p=>?_
 refine q6 ?_;refine q6 ?_
 refine cR hm fun hm=>?_
 refine Wp.skip (p _ _ (r6 ?_));exact wN () m (i _ hm)
theorem Qq(b:eA)(c:Int)(z:Int)(hm:F2 b c=some z):Does prog 253 [pS b,.p (.i .u8 c)] [] (fun r X=>r=pI z/\X=[]):=by
 unfold F2 at hm
 refine dW 0 8 [.tmp 4] func253 fun B=>nA fun hA=>?_
 refine qS ?_;have j:=kI b c
 refine dh fun K2 f=>?_
 simp only[go_sem,simprocAttr]
 try refine⟨sd,?_⟩
 refine dJ (av:=?av3) (g:=true) (fun hg=>DN b c) si si si sg si ?cont3;intro k;simp only[go_sem,simprocAttr];refine kA f ?_;exact wR
theorem Qv(f:eA)(b:eA)(z:Int)(hm:FX f b=some z):Does prog 229 [pS f,pS b] [] (fun r X=>r=pI z/\X=[]):=by
 unfold FX at hm
 refine dW 0 143 [.tmp 4] func229 fun B=>nA fun hA=>?_
 refine qS ?_;refine qS ?_
 refine df fun _ _ _=>Wp.block (qS ?_)
 refine cR hm fun hm=>?_
 refine qS ?_
 refine cN hm (fun hm=>?_) fun hm=>?_
 .obtain⟨g,j,c,hm⟩:=mL hm
  replace c:((b.getD 0 0).toNat:Int)=g:=c;obtain⟨k,i,hm⟩:=zd hm;have hA:=c;refine sX (fun hg=>Qq f g _ i) ?_;exact wR
 .refine qS ?_
  refine cR hm fun hm=>?_
  cases hm
theorem HW(c:eA)(b:eA)(z:Int)(hm:yP c b=some z):Does prog 186 [pS c,pS b] [] (fun r X=>r=pI z/\X=[]):=by
 unfold yP at hm
 refine dW 0 8 [.tmp 4] func186 fun B=>nA fun hA=>?_
 refine qS ?_;obtain⟨g,f,hm⟩:=zd hm;refine sX (fun hg=>Qv c b _ f) ?_;exact wR
theorem RL(f:eA)(b:eA)(z:Int)(hm:HN f b=some z):Does prog 185 [pS f,pS b] [] (fun r X=>r=pI z/\X=[]):=by
 unfold HN at hm
 refine dW 0 34 [.tmp 4] func185 fun B=>nA fun hA=>?_
 refine qS ?_
 refine df fun _ m _=>qS ?_
 refine cN hm (fun hm=>?_) fun hm=>?_
 .cases hm
 .refine Wp.skip (m _ _ (df fun _ n _=>qS ?_))
  refine cN hm (fun hm=>?_) fun hm=>?_
  .obtain⟨i,u,c,hm⟩:=mL hm
   replace c:((b.getD 0 0).toNat:Int)=i:=c;have v:=OS f i;have hA:=c
   refine dh fun K8 o=>?_
   simp only[go_sem,simprocAttr,hA]
   try refine⟨sd,?_⟩
   refine dJ (av:=?av9) (g:=true) (fun hg=>DO f i) (by simp only[go_sem,simprocAttr,hA];exact Is.mk) (by simp only[go_sem,simprocAttr,hA];exact Is.mk) (by simp only[go_sem,simprocAttr,hA];exact Is.mk) (by simp only[go_sem,simprocAttr,hA]) (by simp only[go_sem,simprocAttr,hA];exact Is.mk) ?cont9;intro F;simp only[go_sem,simprocAttr,hA];refine kA o ?_;exact wR
  .refine Wp.skip (n _ _ (qS ?_))
   refine Wp.block ?_;obtain⟨G,C,hm⟩:=jG hm;refine Wp.loopN (fun s=>[(0,pS s.1),(1,pS b),(4,pI 0),(5,pI s.2)]) (fun s=>[]) ?_ hm ?_
   .exact eS
   clear hm;intro s D hm;obtain⟨j,p⟩:=s
   try dsimp only at hm|-
   refine Wp.block ?_;obtain⟨t,k,hm⟩:=zd hm;refine sX (fun hg=>HW j b _ k) ?_
   refine df fun _ l _=>qS ?_
   refine cR hm fun hm=>?_
   refine Wp.skip (l _ _ (qS ?_));obtain⟨E,hm⟩:=zh hm;refine r6 ?_;simp only[zy,zq,↓reduceIte];refine⟨(List.drop ((IntKind.i64.wrap (t+(b.length:Int))).toNat) j,IntKind.i64.wrap (p+1)),hm,?_⟩;exact eS
theorem Qe(g:eA)(c:eA)(b:Int)(n:Int)(z:List eA)(hm:BJ g c b n=some z):Does prog 153 [pS g,pS c,pI b,pI n] [] (fun r X=>r=lm eD z/\X=[]):=by
 unfold BJ at hm
 refine dW 0 66 [.tmp 8] func153 fun B=>nA fun hA=>?_
 refine qS ?_
 refine df fun _ M _=>qS ?_
 refine cN hm (fun hm=>?_) fun hm=>?_
 .refine qS ?_
  refine Wp.ret ?_;simp only[zy,zq];refine zL ?_;cases hm;exact eS
 .refine Wp.skip (M _ _ (df fun _ N _=>qS ?_))
  refine cN hm (fun hm=>?_) fun hm=>?_
  .cases hm
  .refine Wp.skip (N _ _ (df fun K9 C D=>?_))
   obtain⟨O,o,hm⟩:=zj hm
   have k:∀s,O s=some z->K9 [(0,pS g),(1,pS c),(2,pI b),(3,pI s)] []:=by
    intro F hs;have hm:=o _ hs;clear hs
    try dsimp only at hm|-
    refine C _ _ (qS ?_);obtain⟨T,hm⟩:=zh hm;refine q6 ?_;refine qS ?_;refine qS ?_
    refine df fun P p t=>?_
    obtain⟨Q,u,hm⟩:=zj hm
    have i:∀s,Q s=some z->P [(0,pS s.1),(9,.buf 0),(10,pI s.2.1)] [.buf 9 1 (List.map eD s.2.2)]:=by
     intro s hs;have hm:=u _ hs;clear hs;obtain⟨U,V,R⟩:=s
     try dsimp only at hm|-
     refine p _ _ ?_;obtain⟨W,hm⟩:=zh hm;refine q6 ?_;refine Wp.freeze 0 (by simp only[go_sem,simprocAttr];exact Is.mk) (by first|(simp only[go_sem,simprocAttr];done)|(simp only[go_sem,simprocAttr];omega)) ?_;simp only[go_sem,simprocAttr];obtain⟨Y,hm⟩:=zh hm;exact wQ
    clear p u;refine Wp.block ?_;obtain⟨Z,l,hm⟩:=jG hm;refine Wp.loopN (fun s=>[(0,pS s.1),(1,pS c),(2,pI b),(3,pI (IntKind.i64.wrap ((min F (IntKind.i64.wrap ((g.length:Int)+1)))-1))),(9,.buf 0),(10,pI s.2.1)]) (fun s=>[.buf 9 1 (List.map eD s.2.2)]) ?_ hm ?_
    .exact eS
    clear hm;intro s S hm;obtain⟨j,m,f⟩:=s
    try dsimp only at hm|-
    refine df fun _ G _=>qS ?_
    refine cN hm (fun hm=>?_) fun hm=>?_
    .refine Wp.skip (G _ _ (Wp.block ?_))
     obtain⟨E,I,hm⟩:=zd hm;refine sX (fun hg=>HW j c _ I) ?_
     refine df fun _ J _=>qS ?_
     refine cN hm (fun hm=>?_) fun hm=>?_
     .refine Wp.exit ?_
      simp only[zy,zq,↓reduceIte];have hm:=l _ hm
      try dsimp only at hm
      refine t _ _ _ _ ?_ (i (j,m,f) hm);exact eS
     .refine Wp.skip (J _ _ ?_)
      obtain⟨a0,hm⟩:=zh hm;obtain⟨a1,hm⟩:=zh hm;refine q6 ?_;obtain⟨a2,hm⟩:=zh hm;refine q6 ?_;refine qR ?_;simp only[zy,zq,↓reduceIte];refine⟨(List.drop ((IntKind.i64.wrap (E+(c.length:Int))).toNat) j,IntKind.i64.wrap (m+1),List.set f m.toNat (List.take ((IntKind.i64.wrap (E+b)).toNat) j)),hm,?_⟩;exact eS
    .refine Wp.exit ?_
     simp only[zy,zq,↓reduceIte];have hm:=l _ hm
     try dsimp only at hm
     refine t _ _ _ _ ?_ (i (j,m,f) hm);exact eS
   clear C o;refine qS ?_
   refine cN hm (fun hm=>?_) fun hm=>?_
   .obtain⟨L,v,hm⟩:=zd hm
    refine eX (fun hg=>RL g c _ v) ?_;refine D _ _ _ _ ?_ (k (IntKind.i64.wrap (L+1)) hm);exact eS
   .refine Wp.skip (D _ _ _ _ ?_ (k n hm))
    exact eS
theorem HY(c:eA)(b:eA)(z:List eA)(hm:yQ c b=some z):Does prog 111 [pS c,pS b] [] (fun r X=>r=lm eD z/\X=[]):=by
 unfold yQ at hm
 refine dW 0 8 [.tmp 4] func111 fun B=>nA fun hA=>?_
 refine qS ?_;obtain⟨g,f,hm⟩:=zd hm;refine sF (Qe c b 0 (-1) _ f) ?_;exact wR
theorem nB(b:eA)(z:Bool)(hm:GC b=some z):Does prog 150 [pS b] [] (fun r X=>r=pB z/\X=[]):=by
 unfold GC at hm
 refine dW 0 63 [.tmp 2] func150 fun B=>nA fun hA=>?_
 refine qS ?_
 refine df fun K2 j n=>?_
 obtain⟨o,c,hm⟩:=zj hm
 have g:∀s,o s=some z->K2 [(0,pS b)] []:=by
  intro s hs;have hm:=c _ hs;clear hs
  try dsimp only at hm|-
  exact j _ _ (wQ)
 clear j c;refine qS ?_;refine Wp.block ?_;obtain⟨C,k,hm⟩:=zl hm
 refine fL 0 b.length fun l=>?_
 refine Wp.forL (fun f s=>[(0,pS b),(6,pI (b.length:Int)),(7,pI (f:Int))]) (fun f s=>[]) wF hm ?_;clear hm;intro f s t hm
 try dsimp only at hm|-
 refine qS ?_
 refine lS hm l (fun h=>n _ _ _ _ wF (g () (k _ h))) fun m D E v u i hm hA _ p=>?_
 refine q6 ?_;refine q6 ?_;refine q6 ?_
 refine cR hm fun hm=>?_
 refine Wp.skip (p _ _ (r6 ?_));exact wN () m (i _ hm)
theorem Hw(b:eA)(z:Bool)(hm:yE b=some z):Does prog 108 [pS b] [] (fun r X=>r=pB z/\X=[]):=by
 unfold yE at hm
 refine dW 0 19 [.tmp 2] func108 fun B=>nA fun hA=>?_
 refine qS ?_
 refine df fun K2 k t=>?_
 obtain⟨u,c,hm⟩:=zj hm
 have i:∀s,u s=some z->K2 [(0,pS b)] []:=by
  intro s hs;have hm:=c _ hs;clear hs
  try dsimp only at hm|-
  exact k _ _ (wQ)
 clear k c;obtain⟨f,l,hm⟩:=zd hm;refine sF (HY b ([47]:eA) _ l) ?_;refine Wp.block ?_;obtain⟨I,m,hm⟩:=zl hm
 refine fL 6 f.length fun n=>?_
 refine Wp.forL (fun g s=>[(0,pS b),(6,lm eD f),(7,pI (f.length:Int)),(8,pI (g:Int))]) (fun g s=>[]) wF hm ?_;clear hm;intro g s D hm
 try dsimp only at hm|-
 refine qS ?_
 refine lB eD hm n (fun h=>t _ _ _ _ wF (i () (m _ h))) fun o J v G E F j hm hA _ C=>?_
 refine q6 ?_;obtain⟨L,p,hm⟩:=zd hm;refine sX (fun hg=>nB v _ p) ?_
 refine cR hm fun hm=>?_
 refine Wp.skip (C _ _ (r6 ?_));exact wN () o (j _ hm)
theorem PL(b:ab)(z:Int)(hm:Fq b=some z):Does prog 67 [.agg [pS b.a,pS b.q,pB b.r]] [] (fun r X=>r=pI z/\X=[]):=by
 unfold Fq at hm
 refine dW 0 15 [.tmp 2] func67 fun B=>nA fun hA=>?_
 refine qS ?_;obtain⟨j,c,hm⟩:=zd hm;obtain⟨k,f,hm⟩:=zd hm;obtain⟨l,g,hm⟩:=zd hm;obtain⟨n,i,hm⟩:=zd hm
 refine dS (pl [(0,none),(1,none),(2,none),(3,none),(4,none),(5,none),(6,none),(7,none),(8,none),(9,none),(10,some []),(11,none),(12,none)]) fun _ m=>?_
 refine cD (fun hg=>Hw b.a _ c) ?_;refine cD (fun hg=>uv (!j) 5 _ f) ?_;refine cD (fun hg=>uv (decide (65536<(b.q.length:Int))) 4 _ g) ?_;refine cD (fun hg=>Bu [k,l] _ i) (m _ _ ?_);exact wR
theorem P6(b:aa)(z:Int)(hm:FF b=some z):Does prog 68 [.agg [pS b.e,pS b.Value]] [] (fun r X=>r=pI z/\X=[]):=by
 unfold FF at hm
 refine dW 0 15 [.tmp 2] func68 fun B=>nA fun hA=>?_
 refine qS ?_;obtain⟨k,c,hm⟩:=zd hm;obtain⟨l,f,hm⟩:=zd hm;obtain⟨m,g,hm⟩:=zd hm;obtain⟨n,i,hm⟩:=zd hm;obtain⟨p,j,hm⟩:=zd hm
 refine dS (pl [(0,none),(1,none),(2,none),(3,none),(4,none),(5,none),(6,none),(7,none),(8,none),(9,none),(10,some []),(11,none),(12,none)]) fun _ o=>?_
 refine cD (fun hg=>Hw b.e _ c) ?_;refine cD (fun hg=>uv (!k) 5 _ f) ?_;refine cD (fun hg=>M3 b.Value _ g) ?_;refine cD (fun hg=>uv (!m) 2 _ i) ?_;refine cD (fun hg=>Bu [l,n] _ j) (o _ _ ?_);exact wR
theorem P5(b:ah)(z:Int)(hm:FE b=some z):Does prog 69 [.agg [pS b.j,pS b.a,pB b.u,pB b.t]] [] (fun r X=>r=pI z/\X=[]):=by
 unfold FE at hm
 refine dW 0 14 [.tmp 2] func69 fun B=>nA fun hA=>?_
 refine qS ?_;obtain⟨c,f,hm⟩:=zd hm;obtain⟨l,i,hm⟩:=zx hm;obtain⟨n,k,hm⟩:=zd hm
 refine rS fun _ m=>?_
 refine cX (fun hg=>Fu b.j _ f) ?_;refine cX (g:=!(!c)) (fun hg=>Hw b.a _ (i hg)) ?_;refine cX (fun hg=>uv ((!c)||(!l)) 5 _ k) (m _ _ ?_);exact wR
end Go.Proofs.YtkojogldchfkkaaGreatDoor
