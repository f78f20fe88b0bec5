/- That the code does what the models say (part 4). -/
import Derived.Test.YtggigadnagoglafGreatDoorTrWk0
import Derived.Test.YtggigadnagoglafGreatDoorTrWk1
import Derived.Test.YtggigadnagoglafGreatDoorTrWk2
import Derived.Test.YtggigadnagoglafGreatDoorTrWk3
set_option linter.unusedSimpArgs false
set_option linter.unusedVariables false
open Go.Proofs Go.Shelf
open List
namespace Go.Proofs.YtggigadnagoglafGreatDoor
open Tryz
open Go.Vc Go.Md
set_option maxRecDepth 100000
set_option maxHeartbeats 4000000
theorem MX(b:al)(c:List (dX×aa))(i:List (dX×Int))(f:List (dX×ab))(g:List (dX×ah))(j:List ai)(z:dX×Bool)(hm:IW b c i f g j=some z):Does prog 56 [.ptr 0 0,.agg [pI b.C,pS b.y]] [.cells 108 [.mp 1,.mp 2,.mp 3,.mp 4,.buf 5,.nils],.mp true (zj Dt.s zc c),.mp false (zj Dt.s zh i),.mp true (zj Dt.s za f),.mp true (zj Dt.s zb g),.buf 51 10 (List.map zf j)] (fun r X=>r=.tup [pS z.1,pB z.2]/\X=[.cells 108 [.mp 1,.mp 2,.mp 3,.mp 4,.buf 5,.nils],.mp true (zj Dt.s zc c),.mp false (zj Dt.s zh i),.mp true (zj Dt.s za f),.mp true (zj Dt.s zb g),.buf 51 10 (List.map zf j)]):=by
 unfold IW at hm
 refine dW 6 57 [.tmp 4,.tmp 5] func56 fun B=>nA fun hA=>?_
 refine qS ?_
 refine ca fun _ M _=>qS ?_
 refine Wp.block (qS ?_)
 refine cN hm (fun hm=>?_) fun hm=>?_
 .obtain⟨w,D,hm⟩:=zC hm
  have k:=zy (e:=za) zZ f b.y (ab.mk [] []);have l:=zx (e:=za) zZ f b.y;simp only[D,za,map_nil]at k l;have hA:=And.intro k l
  refine dS (pl [(0,none),(1,none),(2,none),(3,none),(4,none),(5,none),(6,none),(7,none),(8,none),(9,none),(10,some [0,1,2,3,4,5,6,7,8,9]),(11,some [9]),(12,none)]) fun _ N=>N _ _ ?_
  obtain⟨O,t,hm⟩:=ze hm;refine sX (fun hg=>GK (w.getD (ab.mk [] [])) _ t) ?_;exact wR
 .refine qS ?_
  refine cN hm (fun hm=>?_) fun hm=>?_
  .obtain⟨E,F,hm⟩:=zC hm
   have m:=zy (e:=zb) zZ g b.y (ah.mk [] [] false false);have n:=zx (e:=zb) zZ g b.y;simp only[F,zb,map_nil]at m n;have hA:=And.intro m n
   refine dS (pl [(0,none),(1,none),(2,none),(3,none),(4,none),(5,none),(6,none),(7,none),(8,none),(9,none),(10,some [0,1,2,3,4,5,6,7,8,9]),(11,some [9]),(12,none)]) fun _ G=>G _ _ ?_
   obtain⟨P,u,hm⟩:=ze hm;refine sX (fun hg=>GJ (E.getD (ah.mk [] [] false false)) _ u) ?_;exact wR
  .refine Wp.skip (M _ _ ?_)
   obtain⟨I,J,hm⟩:=zC hm;have o:=zy (e:=zc) zZ c b.y (aa.mk [] [] false);have p:=zx (e:=zc) zZ c b.y;simp only[J,zc,map_nil]at o p;have hA:=And.intro o p
   refine dS (pl [(0,none),(1,none),(2,none),(3,none),(4,none),(5,none),(6,none),(7,none),(8,none),(9,none),(10,some [0,1,2,3,4,5,6,7,8,9]),(11,some [9]),(12,none)]) fun _ L=>L _ _ ?_
   obtain⟨Q,v,hm⟩:=ze hm;refine sX (fun hg=>DJ (I.getD (aa.mk [] [] false)) _ v) ?_;exact wR
theorem Nl(b:ae)(c:List (dX×aa))(f:List (dX×Int))(g:List (dX×ab))(i:List (dX×ah))(j:List ai)(z:Int)(hm:GH b c f g i j=some z):Does prog 31 [.ptr 0 0,.agg [pS b.t,pI b.e,pS b.a,pS b.x,pS b.z]] [.cells 108 [.mp 1,.mp 2,.mp 3,.mp 4,.buf 5,.nils],.mp true (zj Dt.s zc c),.mp false (zj Dt.s zh f),.mp true (zj Dt.s za g),.mp true (zj Dt.s zb i),.buf 51 10 (List.map zf j)] (fun r X=>r=pI z/\X=[.cells 108 [.mp 1,.mp 2,.mp 3,.mp 4,.buf 5,.nils],.mp true (zj Dt.s zc c),.mp false (zj Dt.s zh f),.mp true (zj Dt.s za g),.mp true (zj Dt.s zb i),.buf 51 10 (List.map zf j)]):=by
 unfold GH at hm
 refine dW 6 22 [.tmp 4] func31 fun B=>nA fun hA=>?_
 refine qS ?_;obtain⟨m,k,hm⟩:=ze hm;obtain⟨p,l,hm⟩:=ze hm
 refine rS fun _ n=>?_
 refine cX (fun hg=>z6 b _ k) ?_;refine cO [0,1,2,3,4,5] (MX m c f g i j _ l) (n _ _ ?_)
 refine ca fun _ o _=>Wp.block (qS ?_)
 refine cR hm fun hm=>?_
 refine qS ?_
 refine cR hm fun hm=>?_
 exact Wp.skip (o _ _ (wQ))
theorem DP(b:Int)(c:dX)(f:List (dX×aa))(g:List (dX×Int))(i:List (dX×ab))(j:List (dX×ah))(k:List ai)(l:List ao)(z:List ao)(hm:vU b c f g i j k l=some z):Does prog 55 [.ptr 0 0,pI b,pS c] [.cells 108 [.mp 1,.mp 2,.mp 3,.mp 4,.buf 5,.buf 6],.mp true (zj Dt.s zc f),.mp false (zj Dt.s zh g),.mp true (zj Dt.s za i),.mp true (zj Dt.s zb j),.buf 51 10 (List.map zf k),.buf 148 2 (List.map zk l)] (fun r X=>r=.tup []/\X=[.cells 108 [.mp 1,.mp 2,.mp 3,.mp 4,.buf 5,.buf 6],.mp true (zj Dt.s zc f),.mp false (zj Dt.s zh g),.mp true (zj Dt.s za i),.mp true (zj Dt.s zb j),.buf 51 10 (List.map zf k),.buf 148 2 (List.map zk z)]):=by
 unfold vU at hm
 refine dW 7 18 [] func55 fun B=>nA fun hA=>?_
 obtain⟨m,hm⟩:=zl hm;refine r6 ?_;refine zq ?_;cases hm;exact eo
theorem Li(b:al)(c:List (dX×aa))(j:List (dX×Int))(f:List (dX×ab))(g:List (dX×ah))(k:List ai)(i:List ao)(z:dX×Bool)(hm:DV b c j f g k i=some z):Does prog 56 [.ptr 0 0,.agg [pI b.C,pS b.y]] [.cells 108 [.mp 1,.mp 2,.mp 3,.mp 4,.buf 5,.buf 6],.mp true (zj Dt.s zc c),.mp false (zj Dt.s zh j),.mp true (zj Dt.s za f),.mp true (zj Dt.s zb g),.buf 51 10 (List.map zf k),.buf 148 2 (List.map zk i)] (fun r X=>r=.tup [pS z.1,pB z.2]/\X=[.cells 108 [.mp 1,.mp 2,.mp 3,.mp 4,.buf 5,.buf 6],.mp true (zj Dt.s zc c),.mp false (zj Dt.s zh j),.mp true (zj Dt.s za f),.mp true (zj Dt.s zb g),.buf 51 10 (List.map zf k),.buf 148 2 (List.map zk i)]):=by
 unfold DV at hm
 refine dW 7 57 [.tmp 4,.tmp 5] func56 fun B=>nA fun hA=>?_
 refine qS ?_
 refine ca fun _ N _=>qS ?_
 refine Wp.block (qS ?_)
 refine cN hm (fun hm=>?_) fun hm=>?_
 .obtain⟨D,E,hm⟩:=zC hm
  have l:=zy (e:=za) zZ f b.y (ab.mk [] []);have m:=zx (e:=za) zZ f b.y;simp only[E,za,map_nil]at l m;have hA:=And.intro l m
  refine dS (pl [(0,none),(1,none),(2,none),(3,none),(4,none),(5,none),(6,none),(7,none),(8,none),(9,none),(10,some [0,1,2,3,4,5,6,7,8,9]),(11,some [9]),(12,none)]) fun _ O=>O _ _ ?_
  obtain⟨P,u,hm⟩:=ze hm;refine sX (fun hg=>GK (D.getD (ab.mk [] [])) _ u) ?_;exact wR
 .refine qS ?_
  refine cN hm (fun hm=>?_) fun hm=>?_
  .obtain⟨F,G,hm⟩:=zC hm
   have n:=zy (e:=zb) zZ g b.y (ah.mk [] [] false false);have o:=zx (e:=zb) zZ g b.y;simp only[G,zb,map_nil]at n o;have hA:=And.intro n o
   refine dS (pl [(0,none),(1,none),(2,none),(3,none),(4,none),(5,none),(6,none),(7,none),(8,none),(9,none),(10,some [0,1,2,3,4,5,6,7,8,9]),(11,some [9]),(12,none)]) fun _ I=>I _ _ ?_
   obtain⟨Q,v,hm⟩:=ze hm;refine sX (fun hg=>GJ (F.getD (ah.mk [] [] false false)) _ v) ?_;exact wR
  .refine Wp.skip (N _ _ ?_)
   obtain⟨J,L,hm⟩:=zC hm;have p:=zy (e:=zc) zZ c b.y (aa.mk [] [] false);have t:=zx (e:=zc) zZ c b.y;simp only[L,zc,map_nil]at p t;have hA:=And.intro p t
   refine dS (pl [(0,none),(1,none),(2,none),(3,none),(4,none),(5,none),(6,none),(7,none),(8,none),(9,none),(10,some [0,1,2,3,4,5,6,7,8,9]),(11,some [9]),(12,none)]) fun _ M=>M _ _ ?_
   obtain⟨R,w,hm⟩:=ze hm;refine sX (fun hg=>DJ (J.getD (aa.mk [] [] false)) _ w) ?_;exact wR
theorem Nm(b:ae)(c:List (dX×aa))(f:List (dX×Int))(g:List (dX×ab))(i:List (dX×ah))(j:List ai)(k:List ao)(z:Int)(hm:I1 b c f g i j k=some z):Does prog 31 [.ptr 0 0,.agg [pS b.t,pI b.e,pS b.a,pS b.x,pS b.z]] [.cells 108 [.mp 1,.mp 2,.mp 3,.mp 4,.buf 5,.buf 6],.mp true (zj Dt.s zc c),.mp false (zj Dt.s zh f),.mp true (zj Dt.s za g),.mp true (zj Dt.s zb i),.buf 51 10 (List.map zf j),.buf 148 2 (List.map zk k)] (fun r X=>r=pI z/\X=[.cells 108 [.mp 1,.mp 2,.mp 3,.mp 4,.buf 5,.buf 6],.mp true (zj Dt.s zc c),.mp false (zj Dt.s zh f),.mp true (zj Dt.s za g),.mp true (zj Dt.s zb i),.buf 51 10 (List.map zf j),.buf 148 2 (List.map zk k)]):=by
 unfold I1 at hm
 refine dW 7 22 [.tmp 4] func31 fun B=>nA fun hA=>?_
 refine qS ?_;obtain⟨n,l,hm⟩:=ze hm;obtain⟨u,m,hm⟩:=ze hm
 refine rS fun _ o=>?_
 refine cX (fun hg=>z6 b _ l) ?_;refine cO [0,1,2,3,4,5,6] (Li n c f g i j k _ m) (o _ _ ?_)
 refine ca fun _ p _=>Wp.block (qS ?_)
 refine cR hm fun hm=>?_
 refine qS ?_
 refine cR hm fun hm=>?_
 exact Wp.skip (p _ _ (wQ))
theorem Nn(b:dX)(f:List (dX×aa))(c:List (dX×Int))(g:List (dX×ab))(i:List (dX×ah))(j:List ai)(k:List ao)(z:(List (dX×Int)))(hm:I6 b f c g i j k=some z):Does prog 111 [pS b,.ptr 0 0] [.cells 64 [.ptr 1 0],.cells 108 [.mp 2,.mp 3,.mp 4,.mp 5,.buf 6,.buf 7],.mp true (zj Dt.s zc f),.mp false (zj Dt.s zh c),.mp true (zj Dt.s za g),.mp true (zj Dt.s zb i),.buf 51 10 (List.map zf j),.buf 148 2 (List.map zk k)] (fun r X=>r=.tup []/\X=[.cells 64 [.ptr 1 0],.cells 108 [.mp 2,.mp 3,.mp 4,.mp 5,.buf 6,.buf 7],.mp true (zj Dt.s zc f),.mp false (zj Dt.s zh z),.mp true (zj Dt.s za g),.mp true (zj Dt.s zb i),.buf 51 10 (List.map zf j),.buf 148 2 (List.map zk k)]):=by
 unfold I6 at hm
 refine dW 8 10 [] func111 fun B=>nA fun hA=>?_
 obtain⟨o,p,hm⟩:=zC hm;have l:=zy (e:=zh) zZ c b 0;have m:=zx (e:=zh) zZ c b;simp only[p,zh,map_nil]at l m;obtain⟨t,hm⟩:=zl hm;have n:=fN (e:=zh) zZ c b (IntKind.i64.wrap ((o.getD 0)+1));simp only[zh,map_nil]at n;have hA:=And.intro l (And.intro m n);refine r6 ?_;refine zq ?_;cases hm;exact eo
theorem Mj(b:dX)(c:List (dX×aa))(l:List (dX×Int))(f:List (dX×ab))(g:List (dX×ah))(i:List ai)(j:List ao)(z:(List (dX×Int)))(hm:Iv b c l f g i j=some z):Does prog 49 [pS b,.fn 111 [.ptr 0 0]] [.cells 64 [.ptr 1 0],.cells 108 [.mp 2,.mp 3,.mp 4,.mp 5,.buf 6,.buf 7],.mp true (zj Dt.s zc c),.mp false (zj Dt.s zh l),.mp true (zj Dt.s za f),.mp true (zj Dt.s zb g),.buf 51 10 (List.map zf i),.buf 148 2 (List.map zk j)] (fun r X=>r=.tup []/\X=[.cells 64 [.ptr 1 0],.cells 108 [.mp 2,.mp 3,.mp 4,.mp 5,.buf 6,.buf 7],.mp true (zj Dt.s zc c),.mp false (zj Dt.s zh z),.mp true (zj Dt.s za f),.mp true (zj Dt.s zb g),.buf 51 10 (List.map zf i),.buf 148 2 (List.map zk j)]):=by
 unfold Iv at hm
 refine dW 8 20 [] func49 fun B=>nA fun hA=>?_
 refine qS ?_;refine Wp.block ?_;obtain⟨J,t,hm⟩:=zF hm
 refine fL 0 b.length fun u=>?_
 refine Wp.forL (fun m s=>[(0,pS b),(1,.fn 111 [.ptr 0 0]),(4,pI (m:Int))]) (fun m s=>[.cells 64 [.ptr 1 0],.cells 108 [.mp 2,.mp 3,.mp 4,.mp 5,.buf 6,.buf 7],.mp true (zj Dt.s zc c),.mp false (zj Dt.s zh s),.mp true (zj Dt.s za f),.mp true (zj Dt.s zb g),.buf 51 10 (List.map zf i),.buf 148 2 (List.map zk j)]) wF hm ?_;clear hm;intro m n I hm
 try dsimp only at hm|-
 refine ca fun _ F _=>qS ?_
 refine Wp.cond rfl ⟨⟩ (fun o=>?_) (fun o=>?_)
 rotate_left
 .refine Wp.exit ?_
  have hm:=t _ (nE hm (vF (by first|exact o|simpa using o)))
  try dsimp only at hm
  simp only[zS,zL,↓reduceIte];refine zq ?_;cases hm;exact eo
 have k:=oe o;have G:=lu k u;obtain⟨N,L,v,w,p,hm⟩:=nD hm k;clear v;refine Wp.skip ?_;simp only[zS];refine F _ _ (ca fun _ D _=>Wp.block ?_);have hA:=And.intro G w;refine q6 ?_
 refine cN hm (fun hm=>?_) fun hm=>?_
 .obtain⟨M,hm⟩:=zl hm
  obtain⟨E,C,hm⟩:=ze hm;refine eO [0,1,2,3,4,5,6,7] (Nn (List.take m b) c n f g i j _ C) ?_;refine D _ _ (r6 ?_);exact wN E k (p _ hm)
 .refine Wp.skip (D _ _ (r6 ?_))
  exact wN n k (p _ hm)
theorem Nq(b:dX)(f:List (dX×aa))(c:List (dX×Int))(g:List (dX×ab))(i:List (dX×ah))(j:List ai)(k:List ao)(z:(List (dX×Int)))(hm:I8 b f c g i j k=some z):Does prog 112 [pS b,.ptr 0 0] [.cells 64 [.ptr 1 0],.cells 108 [.mp 2,.mp 3,.mp 4,.mp 5,.buf 6,.buf 7],.mp true (zj Dt.s zc f),.mp false (zj Dt.s zh c),.mp true (zj Dt.s za g),.mp true (zj Dt.s zb i),.buf 51 10 (List.map zf j),.buf 148 2 (List.map zk k)] (fun r X=>r=.tup []/\X=[.cells 64 [.ptr 1 0],.cells 108 [.mp 2,.mp 3,.mp 4,.mp 5,.buf 6,.buf 7],.mp true (zj Dt.s zc f),.mp false (zj Dt.s zh z),.mp true (zj Dt.s za g),.mp true (zj Dt.s zb i),.buf 51 10 (List.map zf j),.buf 148 2 (List.map zk k)]):=by
 unfold I8 at hm
 refine dW 8 10 [] func112 fun B=>nA fun hA=>?_
 obtain⟨o,p,hm⟩:=zC hm;have l:=zy (e:=zh) zZ c b 0;have m:=zx (e:=zh) zZ c b;simp only[p,zh,map_nil]at l m;obtain⟨t,hm⟩:=zl hm;have n:=fN (e:=zh) zZ c b (IntKind.i64.wrap ((o.getD 0)-1));simp only[zh,map_nil]at n;have hA:=And.intro l (And.intro m n);refine r6 ?_;refine zq ?_;cases hm;exact eo
theorem Mk(b:dX)(c:List (dX×aa))(l:List (dX×Int))(f:List (dX×ab))(g:List (dX×ah))(i:List ai)(j:List ao)(z:(List (dX×Int)))(hm:Iw b c l f g i j=some z):Does prog 49 [pS b,.fn 112 [.ptr 0 0]] [.cells 64 [.ptr 1 0],.cells 108 [.mp 2,.mp 3,.mp 4,.mp 5,.buf 6,.buf 7],.mp true (zj Dt.s zc c),.mp false (zj Dt.s zh l),.mp true (zj Dt.s za f),.mp true (zj Dt.s zb g),.buf 51 10 (List.map zf i),.buf 148 2 (List.map zk j)] (fun r X=>r=.tup []/\X=[.cells 64 [.ptr 1 0],.cells 108 [.mp 2,.mp 3,.mp 4,.mp 5,.buf 6,.buf 7],.mp true (zj Dt.s zc c),.mp false (zj Dt.s zh z),.mp true (zj Dt.s za f),.mp true (zj Dt.s zb g),.buf 51 10 (List.map zf i),.buf 148 2 (List.map zk j)]):=by
 unfold Iw at hm
 refine dW 8 20 [] func49 fun B=>nA fun hA=>?_
 refine qS ?_;refine Wp.block ?_;obtain⟨J,t,hm⟩:=zF hm
 refine fL 0 b.length fun u=>?_
 refine Wp.forL (fun m s=>[(0,pS b),(1,.fn 112 [.ptr 0 0]),(4,pI (m:Int))]) (fun m s=>[.cells 64 [.ptr 1 0],.cells 108 [.mp 2,.mp 3,.mp 4,.mp 5,.buf 6,.buf 7],.mp true (zj Dt.s zc c),.mp false (zj Dt.s zh s),.mp true (zj Dt.s za f),.mp true (zj Dt.s zb g),.buf 51 10 (List.map zf i),.buf 148 2 (List.map zk j)]) wF hm ?_;clear hm;intro m n I hm
 try dsimp only at hm|-
 refine ca fun _ F _=>qS ?_
 refine Wp.cond rfl ⟨⟩ (fun o=>?_) (fun o=>?_)
 rotate_left
 .refine Wp.exit ?_
  have hm:=t _ (nE hm (vF (by first|exact o|simpa using o)))
  try dsimp only at hm
  simp only[zS,zL,↓reduceIte];refine zq ?_;cases hm;exact eo
 have k:=oe o;have G:=lu k u;obtain⟨N,L,v,w,p,hm⟩:=nD hm k;clear v;refine Wp.skip ?_;simp only[zS];refine F _ _ (ca fun _ D _=>Wp.block ?_);have hA:=And.intro G w;refine q6 ?_
 refine cN hm (fun hm=>?_) fun hm=>?_
 .obtain⟨M,hm⟩:=zl hm
  obtain⟨E,C,hm⟩:=ze hm;refine eO [0,1,2,3,4,5,6,7] (Nq (List.take m b) c n f g i j _ C) ?_;refine D _ _ (r6 ?_);exact wN E k (p _ hm)
 .refine Wp.skip (D _ _ (r6 ?_))
  exact wN n k (p _ hm)
theorem DU(b:ai)(c:List (dX×aa))(m:List (dX×Int))(f:List (dX×ab))(i:List (dX×ah))(n:List ai)(l:List ao)(z:(List (dX×aa))×(List (dX×Int))×(List (dX×ab))×(List (dX×ah))×List ai)(hm:xZ b c m f i n l=some z):Does prog 80 [.ptr 0 0,.agg [pI b.e,pS b.g.a,pS b.g.u,pB b.g.w,pS b.j.k,pS b.j.Value,pS b.h.o,pS b.h.a,pB b.h.B,pB b.h.A]] [.cells 108 [.mp 1,.mp 2,.mp 3,.mp 4,.buf 5,.buf 6],.mp true (zj Dt.s zc c),.mp false (zj Dt.s zh m),.mp true (zj Dt.s za f),.mp true (zj Dt.s zb i),.buf 51 10 (List.map zf n),.buf 148 2 (List.map zk l)] (fun r X=>r=.tup []/\X=[.cells 108 [.mp 1,.mp 2,.mp 3,.mp 4,.buf 5,.buf 6],.mp true (zj Dt.s zc z.1),.mp false (zj Dt.s zh z.2.1),.mp true (zj Dt.s za z.2.2.1),.mp true (zj Dt.s zb z.2.2.2.1),.buf 51 10 (List.map zf z.2.2.2.2),.buf 148 2 (List.map zk l)]):=by
 unfold xZ at hm
 refine dW 7 99 [] func80 fun B=>nA fun hA=>?_
 refine qS ?_;obtain⟨Y,hm⟩:=zl hm
 refine dS (pl [(0,none),(1,none),(2,none),(3,none),(4,none),(5,none),(6,some [0,1,2,3,4]),(7,some [0]),(8,none),(9,none),(10,some [])]) fun _ V=>V _ _ ?_
 refine qS ?_;refine Wp.block (qS ?_)
 refine cN hm (fun hm=>?_) fun hm=>?_
 .refine ca fun _ L _=>?_
  obtain⟨Z,M,hm⟩:=zC hm;have p:=zy (e:=zc) zZ c b.g.a (aa.mk [] [] false);have t:=zx (e:=zc) zZ c b.g.a;simp only[M,zc,map_nil]at p t;have hA:=And.intro p t
  refine dS (pl [(0,none),(1,none),(2,none),(3,none),(4,none),(5,none),(6,none),(7,none),(8,none),(9,none),(10,none),(11,some [0,1,2,3,4,5,6,7,8,9,10]),(12,some [10]),(13,none)]) fun _ W=>W _ _ ?_
  refine qS ?_
  refine cN hm (fun hm=>?_) fun hm=>?_
  .obtain⟨a5,N,hm⟩:=ze hm
   refine eO [7,0,1,2,3,4,5,6] (Mj b.g.a c m f i (n++[b]) l _ N) ?_;refine L _ _ ?_;obtain⟨a0,hm⟩:=zl hm;have v:=fN (e:=zc) zZ c b.g.a b.g;simp only[zc,map_nil]at v;have hA:=v
   refine dE (pl [(0,none),(1,none),(2,none),(3,none),(4,none),(5,none),(6,none),(7,none),(8,none),(9,some [])]) fun _ O=>O _ _ ?_
   simp only[zS,zL,↓reduceIte];refine zq ?_;cases hm;exact eo
  .refine Wp.skip (L _ _ ?_)
   obtain⟨a1,hm⟩:=zl hm;have C:=fN (e:=zc) zZ c b.g.a b.g;simp only[zc,map_nil]at C;have hA:=C
   refine dE (pl [(0,none),(1,none),(2,none),(3,none),(4,none),(5,none),(6,none),(7,none),(8,none),(9,some [])]) fun _ P=>P _ _ ?_
   simp only[zS,zL,↓reduceIte];refine zq ?_;cases hm;exact eo
 .refine qS ?_
  refine cN hm (fun hm=>?_) fun hm=>?_
  .have F:=ve (e:=zc) zZ c b.g.a
   have hA:=F
   refine dS (pl [(0,none),(1,none),(2,none),(3,none),(4,none),(5,none),(6,none),(7,some [])]) fun _ Q=>Q _ _ ?_
   obtain⟨a2,G,hm⟩:=ze hm;refine eO [7,0,1,2,3,4,5,6] (Mk b.g.a (fe c b.g.a) m f i (n++[b]) l _ G) ?_;simp only[zS,zL,↓reduceIte];refine zq ?_;cases hm;exact eo
  .refine qS ?_
   refine cN hm (fun hm=>?_) fun hm=>?_
   .obtain⟨a3,hm⟩:=zl hm
    have D:=fN (e:=za) zZ f b.j.k b.j;simp only[za,map_nil]at D;have hA:=D
    refine dE (pl [(0,none),(1,none),(2,none),(3,none),(4,none),(5,none),(6,none),(7,none),(8,none),(9,some [])]) fun _ R=>R _ _ ?_
    simp only[zS,zL,↓reduceIte];refine zq ?_;cases hm;exact eo
   .refine qS ?_
    refine cN hm (fun hm=>?_) fun hm=>?_
    .have I:=ve (e:=za) zZ f b.j.k
     have hA:=I
     refine dE (pl [(0,none),(1,none),(2,none),(3,none),(4,none),(5,none),(6,none),(7,some [])]) fun _ S=>S _ _ ?_
     simp only[zS,zL,↓reduceIte];refine zq ?_;cases hm;exact eo
    .refine qS ?_
     refine cN hm (fun hm=>?_) fun hm=>?_
     .obtain⟨a4,hm⟩:=zl hm
      have E:=fN (e:=zb) zZ i b.h.o b.h;simp only[zb,map_nil]at E;have hA:=E
      refine dE (pl [(0,none),(1,none),(2,none),(3,none),(4,none),(5,none),(6,none),(7,none),(8,none),(9,some [])]) fun _ T=>T _ _ ?_
      simp only[zS,zL,↓reduceIte];refine zq ?_;cases hm;exact eo
     .have J:=ve (e:=zb) zZ i b.h.o
      have hA:=J
      refine dE (pl [(0,none),(1,none),(2,none),(3,none),(4,none),(5,none),(6,none),(7,some [])]) fun _ U=>U _ _ ?_
      simp only[zS,zL,↓reduceIte];refine zq ?_;cases hm;exact eo
theorem Ns(k:al)(c:List (dX×aa))(f:List (dX×Int))(g:List (dX×ab))(i:List (dX×ah))(j:List ai)(b:List ao)(z:(List (dX×aa))×(List (dX×Int))×(List (dX×ab))×(List (dX×ah))×List ai)(hm:Ja k c f g i j b=some z):Does prog 54 [.ptr 0 0,.agg [pI k.C,pS k.y]] [.cells 108 [.mp 1,.mp 2,.mp 3,.mp 4,.buf 5,.buf 6],.mp true (zj Dt.s zc c),.mp false (zj Dt.s zh f),.mp true (zj Dt.s za g),.mp true (zj Dt.s zb i),.buf 51 10 (List.map zf j),.buf 148 2 (List.map zk b)] (fun r X=>r=.tup []/\X=[.cells 108 [.mp 1,.mp 2,.mp 3,.mp 4,.buf 5,.buf 6],.mp true (zj Dt.s zc z.1),.mp false (zj Dt.s zh z.2.1),.mp true (zj Dt.s za z.2.2.1),.mp true (zj Dt.s zb z.2.2.2.1),.buf 51 10 (List.map zf z.2.2.2.2),.buf 148 2 (List.map zk b)]):=by
 unfold Ja at hm
 refine dW 7 28 [] func54 fun B=>nA fun hA=>?_
 refine qS ?_;refine qS ?_;refine Wp.block (qS ?_)
 refine cN hm (fun hm=>?_) fun hm=>?_
 .obtain⟨p,m,hm⟩:=ze hm
  refine eO [0,1,2,3,4,5,6] (DU (ai.mk 4 (aa.mk [] [] false) (ab.mk k.y []) (ah.mk [] [] false false)) c f g i j b _ m) ?_;simp only[zS,zL,↓reduceIte];refine zq ?_;cases hm;exact eo
 .refine qS ?_
  refine cN hm (fun hm=>?_) fun hm=>?_
  .obtain⟨t,n,hm⟩:=ze hm
   refine eO [0,1,2,3,4,5,6] (DU (ai.mk 6 (aa.mk [] [] false) (ab.mk [] []) (ah.mk k.y [] false false)) c f g i j b _ n) ?_;simp only[zS,zL,↓reduceIte];refine zq ?_;cases hm;exact eo
  .obtain⟨o,l,hm⟩:=ze hm
   refine eO [0,1,2,3,4,5,6] (DU (ai.mk 2 (aa.mk k.y [] false) (ab.mk [] []) (ah.mk [] [] false false)) c f g i j b _ l) ?_;simp only[zS,zL,↓reduceIte];refine zq ?_;cases hm;exact eo
theorem Nr(b:ae)(f:Bool)(c:au)(g:List (dX×aa))(i:List (dX×Int))(j:List (dX×ab))(k:List (dX×ah))(l:List ai)(m:List ao)(z:(List (dX×aa))×(List (dX×Int))×(List (dX×ab))×(List (dX×ah))×List ai×List ao)(hm:I9 b f c g i j k l m=some z):Does prog 21 [.ptr 0 0,.agg [pS b.t,pI b.e,pS b.a,pS b.x,pS b.z],pB f,.agg [pB c.F,pB c.G]] [.cells 108 [.mp 1,.mp 2,.mp 3,.mp 4,.buf 5,.buf 6],.mp true (zj Dt.s zc g),.mp false (zj Dt.s zh i),.mp true (zj Dt.s za j),.mp true (zj Dt.s zb k),.buf 51 10 (List.map zf l),.buf 148 2 (List.map zk m)] (fun r X=>r=.tup []/\X=[.cells 108 [.mp 1,.mp 2,.mp 3,.mp 4,.buf 5,.buf 6],.mp true (zj Dt.s zc z.1),.mp false (zj Dt.s zh z.2.1),.mp true (zj Dt.s za z.2.2.1),.mp true (zj Dt.s zb z.2.2.2.1),.buf 51 10 (List.map zf z.2.2.2.2.1),.buf 148 2 (List.map zk z.2.2.2.2.2)]):=by
 unfold I9 at hm
 refine dW 7 44 [] func21 fun B=>nA fun hA=>?_
 refine qS ?_;obtain⟨v,M,hm⟩:=ze hm;refine sO [0,1,2,3,4,5,6] (Nm b g i j k l m _ M) ?_
 refine ca fun _ T _=>qS ?_
 refine cR hm fun hm=>?_
 refine Wp.skip (T _ _ (qS ?_))
 refine ca fun K8 L w=>?_
 obtain⟨N,p,hm⟩:=zN hm
 have n:∀s,N s=some z->K8 [(0,.ptr 0 0),(5,.ptr 7 0),(9,pB s)] [.cells 108 [.mp 1,.mp 2,.mp 3,.mp 4,.buf 5,.buf 6],.mp true (zj Dt.s zc g),.mp false (zj Dt.s zh i),.mp true (zj Dt.s za j),.mp true (zj Dt.s zb k),.buf 51 10 (List.map zf l),.buf 148 2 (List.map zk m),.cells 76 [pS b.t,pI b.e,pS b.a,pS b.x,pS b.z]]:=by
  intro S hs;have hm:=p _ hs;clear hs
  try dsimp only at hm|-
  refine L _ _ (qS ?_)
  refine cN hm (fun hm=>?_) fun hm=>?_
  .obtain⟨O,E,hm⟩:=ze hm
   obtain⟨W,I,hm⟩:=ze hm
   refine rE fun _ P=>?_
   refine cX (fun hg=>z6 b _ E) ?_;refine cO [0,1,2,3,4,5,6] (Ns O g i j k l m _ I) (P _ _ ?_);refine zq ?_;cases hm;exact eo
  .obtain⟨Y,J,hm⟩:=ze hm
   refine eO [0,1,2,3,4,5,6] (DP 6 b.a g i j k l m _ J) ?_;refine zq ?_;cases hm;exact eo
 clear L p;refine qS ?_;refine Wp.block (ca fun U C D=>?_);obtain⟨Q,u,hm⟩:=zN hm
 have o:∀s,Q s=some z->U [(0,.ptr 0 0),(2,pB f),(5,.ptr 7 0),(7,.ptr 8 0),(9,pB (decide (v=1))),(18,pI b.e),(24,pB s)] [.cells 108 [.mp 1,.mp 2,.mp 3,.mp 4,.buf 5,.buf 6],.mp true (zj Dt.s zc g),.mp false (zj Dt.s zh i),.mp true (zj Dt.s za j),.mp true (zj Dt.s zb k),.buf 51 10 (List.map zf l),.buf 148 2 (List.map zk m),.cells 76 [pS b.t,pI b.e,pS b.a,pS b.x,pS b.z],.cells 41 [pB c.F,pB c.G]]:=by
  intro V hs;have hm:=u _ hs;clear hs
  try dsimp only at hm|-
  refine C _ _ (cN hm (fun hm=>?_) fun hm=>?_)
  .refine qR ?_
   refine w _ _ _ _ ?_ (n true hm);exact eo
  .refine qS ?_
   refine cN hm (fun hm=>?_) fun hm=>?_
   .refine ca fun _ R _=>qS ?_
    refine cR hm fun hm=>?_
    refine Wp.skip (R _ _ (qR ?_));refine w _ _ _ _ ?_ (n ((decide (v=1))||c.F) hm);exact eo
   .refine qR ?_
    refine w _ _ _ _ ?_ (n ((decide (v=1))||c.G) hm);exact eo
 clear C u;refine qS ?_
 refine cN hm (fun hm=>?_) fun hm=>?_
 .refine Wp.skip (D _ _ _ _ ?_ (o (decide (b.e=1)) hm))
  exact eo
 .refine qR ?_
  refine D _ _ _ _ ?_ (o (decide (b.e=6)) hm);exact eo
theorem DN(b:ak)(i:List (dX×aa))(l:List (dX×Int))(m:List (dX×ab))(c:List (dX×ah))(n:List ai)(f:List ao)(z:(List (dX×aa))×(List (dX×Int))×(List (dX×ab))×(List (dX×ah))×List ai)(hm:vT b i l m c n f=some z):Does prog 33 [.ptr 0 0,.agg [pI b.e,pS b.g.a,pS b.g.u,pB b.g.w,pS b.j.k,pS b.j.Value,pS b.h.o,pS b.h.a,pB b.h.B,pB b.h.A]] [.cells 108 [.mp 1,.mp 2,.mp 3,.mp 4,.buf 5,.buf 6],.mp true (zj Dt.s zc i),.mp false (zj Dt.s zh l),.mp true (zj Dt.s za m),.mp true (zj Dt.s zb c),.buf 51 10 (List.map zf n),.buf 148 2 (List.map zk f)] (fun r X=>r=.tup []/\X=[.cells 108 [.mp 1,.mp 2,.mp 3,.mp 4,.buf 5,.buf 6],.mp true (zj Dt.s zc z.1),.mp false (zj Dt.s zh z.2.1),.mp true (zj Dt.s za z.2.2.1),.mp true (zj Dt.s zb z.2.2.2.1),.buf 51 10 (List.map zf z.2.2.2.2),.buf 148 2 (List.map zk f)]):=by
 unfold vT at hm
 refine dW 7 24 [] func33 fun B=>nA fun hA=>?_
 refine qS ?_;obtain⟨C,D,hm⟩:=zC hm;have p:=zy (e:=zb) zZ c b.h.o (ah.mk [] [] false false);have t:=zx (e:=zb) zZ c b.h.o;simp only[D,zb,map_nil]at p t;have hA:=And.intro p t
 refine dS (pl [(0,none),(1,none),(2,none),(3,none),(4,none),(5,none),(6,none),(7,none),(8,none),(9,none),(10,none),(11,none),(12,none),(13,none),(14,none),(15,none),(16,some [])]) fun _ F=>F _ _ ?_
 obtain⟨G,E,hm⟩:=ze hm;obtain⟨J,v,hm⟩:=ze hm
 refine rE fun _ I=>?_
 refine cX (fun hg=>IZ (ak.mk b.e b.g b.j (ah.mk b.h.o b.h.a b.h.B ((decide (b.e=6))&&((C.getD (ah.mk [] [] false false)).A)))) _ E) ?_;refine cO [0,1,2,3,4,5,6] (DU G i l m c n f _ v) (I _ _ ?_);refine zq ?_;cases hm;exact eo
theorem Nf(b:aa)(c:List (dX×aa))(f:List (dX×Int))(l:List (dX×ab))(i:List (dX×ah))(j:List ai)(k:List ao)(g:List (al×Bool))(z:(List (dX×aa))×(List (dX×Int))×(List (dX×ab))×(List (dX×ah))×List ai)(hm:DL b c f l i j k g=some z):Does prog 96 [.ptr 0 0,.agg [pS b.a,pS b.u,pB b.w],.mp 7] [.cells 108 [.mp 1,.mp 2,.mp 3,.mp 4,.buf 5,.buf 6],.mp true (zj Dt.s zc c),.mp false (zj Dt.s zh f),.mp true (zj Dt.s za l),.mp true (zj Dt.s zb i),.buf 51 10 (List.map zf j),.buf 148 2 (List.map zk k),.mp false (zj zi eE g)] (fun r X=>r=.tup []/\X=[.cells 108 [.mp 1,.mp 2,.mp 3,.mp 4,.buf 5,.buf 6],.mp true (zj Dt.s zc z.1),.mp false (zj Dt.s zh z.2.1),.mp true (zj Dt.s za z.2.2.1),.mp true (zj Dt.s zb z.2.2.2.1),.buf 51 10 (List.map zf z.2.2.2.2),.buf 148 2 (List.map zk k),.mp false (zj zi eE g)]):=by
 unfold DL at hm
 refine dW 8 51 [] func96 fun B=>nA fun hA=>?_
 refine qS ?_;obtain⟨L,hm⟩:=zl hm;refine q6 ?_;obtain⟨M,E,hm⟩:=zC hm;have m:=zy (e:=zc) zZ c (b.a++([46,110,101,119]:dX)) (aa.mk [] [] false);have n:=zx (e:=zc) zZ c (b.a++([46,110,101,119]:dX));simp only[E,zc,map_nil]at m n;have hA:=And.intro m n
 refine dS (pl [(0,none),(1,none),(2,none),(3,none),(4,none),(5,none),(6,none),(7,none),(8,none),(9,none),(10,some [0,1,2,3,4,5,6,7,8,9]),(11,some [9]),(12,none)]) fun _ I=>I _ _ ?_
 obtain⟨N,C,hm⟩:=ze hm;obtain⟨O,F,hm⟩:=zC hm;have o:=zy (e:=zh) zZ f (b.a++([46,110,101,119]:dX)) 0;have p:=zx (e:=zh) zZ f (b.a++([46,110,101,119]:dX));simp only[F,zh,map_nil]at o p;obtain⟨P,G,hm⟩:=zC hm;have t:=zy (e:=eE) zA g (al.mk 1 (b.a++([46,110,101,119]:dX))) false;have v:=zx (e:=eE) zA g (al.mk 1 (b.a++([46,110,101,119]:dX)));simp only[zi,zp,G,eE,map_nil]at t v;have hA:=And.intro o (And.intro p (And.intro t v))
 refine dS (pl [(0,none),(1,none),(2,none),(3,none),(4,none),(5,none),(6,none),(7,none),(8,none),(9,none),(10,none),(11,none),(12,none),(13,none),(14,none),(15,none),(16,none),(17,none),(18,none),(19,none),(20,none),(21,none),(22,none),(23,none),(24,none)]) fun _ J=>?_
 refine cD (fun hg=>B9 (b.a++([46,110,101,119]:dX)) _ C) (J _ _ ?_)
 refine cN hm (fun hm=>?_) fun hm=>?_
 .obtain⟨Q,D,hm⟩:=ze hm
  refine eO [0,1,2,3,4,5,6] (DU (ai.mk 1 (aa.mk (b.a++([46,110,101,119]:dX)) b.u b.w) (ab.mk [] []) (ah.mk [] [] false false)) c f l i j k _ D) ?_;refine zq ?_;cases hm;exact eo
 .refine Wp.skip (zq ?_)
  cases hm;exact eo
theorem Nt(b:ak)(i:ae)(p:Bool)(c:List (dX×aa))(v:List (dX×Int))(C:List (dX×ab))(l:List (dX×ah))(m:List ai)(f:List ao)(n:List (al×Bool))(z:(List (dX×aa))×(List (dX×Int))×(List (dX×ab))×(List (dX×ah))×List ai×List ao)(hm:DS b i p c v C l m f n=some z):Does prog 57 [.ptr 0 0,.agg [pI b.e,pS b.g.a,pS b.g.u,pB b.g.w,pS b.j.k,pS b.j.Value,pS b.h.o,pS b.h.a,pB b.h.B,pB b.h.A],.agg [pS i.t,pI i.e,pS i.a,pS i.x,pS i.z],pB p,.mp 7] [.cells 108 [.mp 1,.mp 2,.mp 3,.mp 4,.buf 5,.buf 6],.mp true (zj Dt.s zc c),.mp false (zj Dt.s zh v),.mp true (zj Dt.s za C),.mp true (zj Dt.s zb l),.buf 51 10 (List.map zf m),.buf 148 2 (List.map zk f),.mp false (zj zi eE n)] (fun r X=>r=.tup []/\X=[.cells 108 [.mp 1,.mp 2,.mp 3,.mp 4,.buf 5,.buf 6],.mp true (zj Dt.s zc z.1),.mp false (zj Dt.s zh z.2.1),.mp true (zj Dt.s za z.2.2.1),.mp true (zj Dt.s zb z.2.2.2.1),.buf 51 10 (List.map zf z.2.2.2.2.1),.buf 148 2 (List.map zk z.2.2.2.2.2),.mp false (zj zi eE n)]):=by
 unfold DS at hm
 refine dW 8 107 [] func57 fun B=>nA fun hA=>?_
 refine qS ?_;obtain⟨D,R,hm⟩:=zC hm;have G:=zy (e:=zc) zZ c b.g.a (aa.mk [] [] false);have I:=zx (e:=zc) zZ c b.g.a;simp only[R,zc,map_nil]at G I;have hA:=And.intro G I
 refine dS (pl [(0,none),(1,none),(2,none),(3,none),(4,none),(5,none),(6,none),(7,none),(8,none),(9,none),(10,none),(11,some [0,1,2,3,4,5,6,7,8,9,10]),(12,some [10]),(13,none)]) fun _ Y=>Y _ _ ?_
 refine Wp.block (qS ?_)
 refine cN hm (fun hm=>?_) fun hm=>?_
 .obtain⟨E,S,hm⟩:=ze hm
  refine sO [0,1,2,3,4,5,6] (DN b c v C l m f _ S) ?_;refine qS ?_
  refine cN hm (fun hm=>?_) fun hm=>?_
  .obtain⟨a0,N,hm⟩:=ze hm
   refine eO [0,1,2,3,4,5,6] (DP 2 b.g.a E.1 E.2.1 E.2.2.1 E.2.2.2.1 E.2.2.2.2 f _ N) ?_;simp only[zS,zL,↓reduceIte];refine zq ?_;cases hm;exact eo
  .refine Wp.skip ?_
   simp only[zS,zL,↓reduceIte];refine zq ?_;cases hm;exact eo
 .refine qS ?_
  refine cN hm (fun hm=>?_) fun hm=>?_
  .refine Wp.skip ?_
   simp only[zS,zL,↓reduceIte];refine zq ?_;cases hm;exact eo
  .obtain⟨a1,O,hm⟩:=zY hm
   refine dS (pl [(0,none),(1,none),(2,none),(3,none),(4,none),(5,none),(6,none),(7,none),(8,none)]) fun _ T=>?_
   refine cD (g:=p) (fun hg=>DJ (D.getD (aa.mk [] [] false)) _ (O hg)) (T _ _ ?_)
   refine cN hm (fun hm=>?_) fun hm=>?_
   .obtain⟨a2,P,hm⟩:=ze hm
    refine eO [0,1,2,3,4,5,6] (DN b c v C l m f _ P) ?_;simp only[zS,zL,↓reduceIte];refine zq ?_;cases hm;exact eo
   .refine qS ?_
    refine cN hm (fun hm=>?_) fun hm=>?_
    .refine Wp.skip ?_
     simp only[zS,zL,↓reduceIte];refine zq ?_;cases hm;exact eo
    .refine ca fun Z L U=>?_
     obtain⟨V,J,hm⟩:=zN hm
     have M:∀s,V s=some z->Z [(0,.ptr 0 0),(4,.mp 7),(6,.ptr 8 0),(10,.ptr 10 0)] [.cells 108 [.mp 1,.mp 2,.mp 3,.mp 4,.buf 5,.buf 6],.mp true (zj Dt.s zc c),.mp false (zj Dt.s zh v),.mp true (zj Dt.s za C),.mp true (zj Dt.s zb l),.buf 51 10 (List.map zf m),.buf 148 2 (List.map zk f),.mp false (zj zi eE n),.cells 56 [pI b.e,pS b.g.a,pS b.g.u,pB b.g.w,pS b.j.k,pS b.j.Value,pS b.h.o,pS b.h.a,pB b.h.B,pB b.h.A],.cells 76 [.top,.top,.top,.top,.top],.cells 45 [pS ((D.getD (aa.mk [] [] false)).a),pS ((D.getD (aa.mk [] [] false)).u),pB ((D.getD (aa.mk [] [] false)).w)]]:=by
      intro s hs;have hm:=J _ hs;clear hs
      try dsimp only at hm|-
      refine L _ _ ?_;obtain⟨F,W,hm⟩:=ze hm;refine sO [0,1,2,3,4,5,6,7] (Nf b.g c v C l m f n _ W) ?_;obtain⟨a3,Q,hm⟩:=ze hm;refine eO [0,1,2,3,4,5,6] (DP 4 ((D.getD (aa.mk [] [] false)).a) F.1 F.2.1 F.2.2.1 F.2.2.2.1 F.2.2.2.2 f _ Q) ?_;simp only[zS,zL,↓reduceIte];refine zq ?_;cases hm;exact eo
     clear L J;refine qS ?_
     refine cN hm (fun hm=>?_) fun hm=>?_
     .cases hm
     .refine Wp.skip (U _ _ _ _ ?_ (M () hm))
      exact eo
theorem Nj(b:ak)(n:ae)(v:Bool)(c:List (dX×aa))(f:List (dX×Int))(i:List (dX×ab))(l:List (dX×ah))(m:List ai)(p:List ao)(C:List (al×Bool))(z:(List (dX×aa))×(List (dX×Int))×(List (dX×ab))×(List (dX×ah))×List ai×List ao)(hm:DT b n v c f i l m p C=some z):Does prog 22 [.ptr 0 0,.agg [pI b.e,pS b.g.a,pS b.g.u,pB b.g.w,pS b.j.k,pS b.j.Value,pS b.h.o,pS b.h.a,pB b.h.B,pB b.h.A],.agg [pS n.t,pI n.e,pS n.a,pS n.x,pS n.z],pB v,.mp 7] [.cells 108 [.mp 1,.mp 2,.mp 3,.mp 4,.buf 5,.buf 6],.mp true (zj Dt.s zc c),.mp false (zj Dt.s zh f),.mp true (zj Dt.s za i),.mp true (zj Dt.s zb l),.buf 51 10 (List.map zf m),.buf 148 2 (List.map zk p),.mp false (zj zi eE C)] (fun r X=>r=.tup []/\X=[.cells 108 [.mp 1,.mp 2,.mp 3,.mp 4,.buf 5,.buf 6],.mp true (zj Dt.s zc z.1),.mp false (zj Dt.s zh z.2.1),.mp true (zj Dt.s za z.2.2.1),.mp true (zj Dt.s zb z.2.2.2.1),.buf 51 10 (List.map zf z.2.2.2.2.1),.buf 148 2 (List.map zk z.2.2.2.2.2),.mp false (zj zi eE C)]):=by
 unfold DT at hm
 refine dW 8 90 [] func22 fun B=>nA fun hA=>?_
 refine qS ?_;obtain⟨E,M,hm⟩:=ze hm;refine sX (fun hg=>vn b _ M) ?_;obtain⟨W,N,hm⟩:=ze hm;refine sO [0,1,2,3,4,5,6] (Li E c f i l m p _ N) ?_;obtain⟨a3,O,hm⟩:=zY hm;refine sX (g:=W.2) (fun hg=>ID b _ (O hg)) ?_;refine qS ?_
 refine ca fun _ a1 _=>qS ?_
 refine Wp.block (qS ?_)
 refine cN hm (fun hm=>?_) fun hm=>?_
 .obtain⟨a4,P,hm⟩:=ze hm
  refine sO [0,1,2,3,4,5,6,7] (Nt b n v c f i l m p C _ P) ?_;exact wR
 .refine qS ?_
  refine cN hm (fun hm=>?_) fun hm=>?_
  .refine ca fun _ I _=>qS ?_
   refine cN hm (fun hm=>?_) fun hm=>?_
   .obtain⟨a5,Q,hm⟩:=ze hm
    refine eO [0,1,2,3,4,5,6] (DN b c f i l m p _ Q) ?_;exact I _ _ (wR)
   .exact Wp.skip (I _ _ (wR))
  .refine qS ?_
   refine cN hm (fun hm=>?_) fun hm=>?_
   .refine ca fun _ F _=>Wp.block (qS ?_)
    refine cN hm (fun hm=>?_) fun hm=>?_
    .exact Wp.skip (F _ _ (wR))
    .refine qS ?_
     refine cN hm (fun hm=>?_) fun hm=>?_
     .obtain⟨a6,R,hm⟩:=ze hm
      refine eO [0,1,2,3,4,5,6] (DN b c f i l m p _ R) ?_;exact F _ _ (wR)
     .obtain⟨a7,S,hm⟩:=ze hm
      refine eO [0,1,2,3,4,5,6] (DP 5 E.y c f i l m p _ S) ?_;exact F _ _ (wR)
   .refine Wp.skip (a1 _ _ (ca fun _ Y _=>qS ?_))
    refine cR hm fun hm=>?_
    refine Wp.skip (Y _ _ (ca fun a2 J L=>?_));obtain⟨Z,G,hm⟩:=zN hm
    have D:∀s,Z s=some z->a2 [(0,.ptr 0 0),(6,.ptr 8 0)] [.cells 108 [.mp 1,.mp 2,.mp 3,.mp 4,.buf 5,.buf 6],.mp true (zj Dt.s zc c),.mp false (zj Dt.s zh f),.mp true (zj Dt.s za i),.mp true (zj Dt.s zb l),.buf 51 10 (List.map zf m),.buf 148 2 (List.map zk s),.mp false (zj zi eE C),.cells 56 [pI b.e,pS b.g.a,pS b.g.u,pB b.g.w,pS b.j.k,pS b.j.Value,pS b.h.o,pS b.h.a,pB b.h.B,pB b.h.A]]:=by
     intro T hs;have hm:=G _ hs;clear hs
     try dsimp only at hm|-
     refine J _ _ ?_;obtain⟨a8,U,hm⟩:=ze hm;refine eO [0,1,2,3,4,5,6] (DN b c f i l m T _ U) ?_;refine zq ?_;cases hm;exact eo
    clear J G;refine qS ?_
    refine cN hm (fun hm=>?_) fun hm=>?_
    .obtain⟨a0,V,hm⟩:=ze hm
     refine eO [0,1,2,3,4,5,6] (DP 1 E.y c f i l m p _ V) ?_;refine L _ _ _ _ ?_ (D a0 hm);exact eo
    .refine Wp.skip (L _ _ _ _ ?_ (D p hm))
     exact eo
theorem Lf(c:ae)(b:dX)(z:Bool)(hm:x5 c b=some z):Does prog 59 [.agg [pS c.t,pI c.e,pS c.a,pS c.x,pS c.z],.ptr 0 0] [.cells 9 [pS b]] (fun r X=>r=pB z/\X=[.cells 9 [pS b]]):=by
 unfold x5 at hm
 refine dW 1 8 [.tmp 3] func59 fun B=>nA fun hA=>?_
 refine qS ?_;exact wQ
theorem NY(b:List ae)(c:dX)(z:Int)(hm:zV b c=some z):Does prog 94 [.vw 0 5 0 b.length,.fn 59 [.ptr 1 0]] [.fx 76 5 (List.map zd b),.cells 9 [pS c]] (fun r X=>r=pI z/\X=[.fx 76 5 (List.map zd b),.cells 9 [pS c]]):=by
 unfold zV at hm
 refine dW 2 19 [.tmp 4] func94 fun B=>nA fun hA=>?_
 refine qS ?_
 refine ca fun K2 n u=>?_
 obtain⟨v,k,hm⟩:=zN hm
 have m:∀s,v s=some z->K2 [] [.fx 76 5 (List.map zd b),.cells 9 [pS c]]:=by
  intro s hs;have hm:=k _ hs;clear hs
  try dsimp only at hm|-
  exact n _ _ (wQ)
 clear n k;refine qS ?_;refine Wp.block ?_;obtain⟨E,o,hm⟩:=rY hm;refine Wp.loopN (fun s=>[(0,.vw 0 5 0 b.length),(1,.fn 59 [.ptr 1 0]),(7,pI ((List.take b.length b).length:Int)),(8,pI s)]) (fun s=>[.fx 76 5 (List.map zd b),.cells 9 [pS c]]) ?_ hm ?_
 .exact eo
 clear hm;intro j D hm
 try dsimp only at hm|-
 refine qS ?_
 refine ca fun _ w _=>cN hm (fun hm=>?_) fun hm=>?_
 .refine Wp.skip (w _ _ (ca fun _ C _=>Wp.block (qS ?_)))
  obtain⟨F,hm⟩:=zl hm;obtain⟨G,p,hm⟩:=ze hm
  have f:=fun h=>yF (l:=b) (e:=zd) (d:=(ae.mk [] 0 [] [] [])) (i:=(j.toNat:Nat)) h []
  refine cb fun I t=>?_
  simp only[go_sem,simprocAttr,f (by omega)]
  try refine⟨sL,?_⟩
  refine Rg.callR (av:=?av11) (g:=true) [1] (fun hg=>Lf (b.getD (j.toNat:Nat) (ae.mk [] 0 [] [] [])) c _ p) (by simp only[go_sem,simprocAttr,f (by omega)];exact Is.mk) (by simp only[go_sem,simprocAttr,f (by omega)];exact Is.mk) (by simp only[go_sem,simprocAttr,f (by omega)];exact Is.mk) (by simp only[go_sem,simprocAttr,f (by omega)];exact Is.mk) (by simp only[go_sem,simprocAttr,f (by omega)]) (by simp only[go_sem,simprocAttr,f (by omega)]) (by simp only[go_sem,simprocAttr,f (by omega)]) ?cont11;simp only[go_sem,simprocAttr,f (by omega)];refine kA t ?_
  refine cR hm fun hm=>?_
  refine Wp.skip (C _ _ (qR ?_));simp only[zS,zL,↓reduceIte];refine⟨IntKind.i64.wrap (j+1),hm,?_⟩;exact eo
 .refine Wp.exit ?_
  simp only[zS,zL,↓reduceIte];have hm:=o _ hm
  try dsimp only at hm
  refine u _ _ _ _ ?_ (m () hm);exact eo
theorem N2(f:List ae)(b:dX)(z:List ae)(hm:GV f b=some z):Does prog 51 [.buf 0,.fn 59 [.ptr 1 0]] [.buf 76 5 (List.map zd f),.cells 9 [pS b]] (fun r X=>r=.buf 0/\X=[.buf 76 5 (List.map zd z),.cells 9 [pS b]]):=by
 unfold GV at hm
 refine dW 2 42 [.tmp 4] func51 fun B=>nA fun hA=>?_
 refine cS 0 (by simp only[go_sem,simprocAttr];exact Is.mk) (by simp only[go_sem,simprocAttr]) ?_;simp only[go_sem,simprocAttr];refine cY 0 0 (by simp only[go_sem,simprocAttr];exact Is.mk) (by simp only[go_sem,simprocAttr];exact Is.mk) ?_;simp only[go_sem,simprocAttr];refine qS ?_;obtain⟨U,u,hm⟩:=ze hm;refine sQ [0,1] (fun hg=>NY f b _ u) ?_
 refine ca fun _ E _=>qS ?_
 refine cN hm (fun hm=>?_) fun hm=>?_
 .refine qS ?_
  refine cI 0 (by simp only[go_sem,simprocAttr];exact Is.mk) (by simp only[go_sem,simprocAttr]) ?_;simp only[go_sem,simprocAttr];refine cU 4 0 (by simp only[go_sem,simprocAttr];exact Is.mk) (by simp only[go_sem,simprocAttr];exact Is.mk) (by simp only[go_sem,simprocAttr]) ?_;simp only[go_sem,simprocAttr];exact wR
 .refine Wp.skip (E _ _ (ca fun K8 t F=>?_))
  obtain⟨G,k,hm⟩:=zN hm
  have o:∀s,G s=some z->K8 [(0,.vw 0 5 0 f.length),(5,pI s.1)] [.fx 76 5 (List.map zd s.2),.cells 9 [pS b]]:=by
   intro s hs;have hm:=k _ hs;clear hs;obtain⟨M,J⟩:=s
   try dsimp only at hm|-
   refine t _ _ ?_;obtain⟨N,hm⟩:=zl hm
   refine cb fun K9 I=>?_
   simp only[go_sem,simprocAttr]
   try refine⟨sL,?_⟩
   refine Rg.clear (i:=?i10) (sz:=?sz10) (a:=?a10) (m:=?m10) (T:=?T10) (rows:=?rows10) (e:=?e10) (eb:=?eb10) (ez:=?ez10) (z:=?z10) (fx:=?fx10) Is.mk Is.mk Is.mk Is.mk Is.mk sg sg si si si si sg sg sg ?cont10;simp only[go_sem,simprocAttr];refine kA I ?_;obtain⟨O,hm⟩:=zl hm;refine q6 ?_;refine cI 0 (by simp only[go_sem,simprocAttr];exact Is.mk) (by simp only[go_sem,simprocAttr]) ?_;simp only[go_sem,simprocAttr];refine cU 4 0 (by simp only[go_sem,simprocAttr];exact Is.mk) (by simp only[go_sem,simprocAttr];exact Is.mk) (by simp only[go_sem,simprocAttr]) ?_;simp only[go_sem,simprocAttr];exact wR
  clear t k;refine qS ?_;refine Wp.block ?_;obtain⟨V,v,hm⟩:=rY hm;refine Wp.loopN (fun s=>[(0,.vw 0 5 0 f.length),(1,.fn 59 [.ptr 1 0]),(5,pI s.1),(6,pI s.2.1)]) (fun s=>[.fx 76 5 (List.map zd s.2.2),.cells 9 [pS b]]) ?_ hm ?_
  .exact eo
  clear hm;intro s L hm;obtain⟨j,g,c⟩:=s
  try dsimp only at hm|-
  refine ca fun _ w _=>qS ?_
  refine cN hm (fun hm=>?_) fun hm=>?_
  .refine Wp.skip (w _ _ (ca fun _ n _=>Wp.block ?_))
   obtain⟨P,hm⟩:=zl hm;obtain⟨Q,hm⟩:=zl hm
   have p:=fun h=>yF (l:=c) (e:=zd) (d:=(ae.mk [] 0 [] [] [])) (i:=(g.toNat:Nat)) h []
   refine cb fun W C=>?_
   simp only[go_sem,simprocAttr,p (by omega)];refine kA C ?_;obtain⟨Y,D,hm⟩:=ze hm;refine sQ [1] (fun hg=>Lf (c.getD (g.toNat:Nat) (ae.mk [] 0 [] [] [])) b _ D) ?_
   refine cN hm (fun hm=>?_) fun hm=>?_
   .obtain⟨R,hm⟩:=zl hm
    obtain⟨S,hm⟩:=zl hm;refine q6 ?_;refine qR ?_;refine n _ _ (qR ?_);simp only[zS,zL,↓reduceIte];refine⟨(IntKind.i64.wrap (j+1),IntKind.i64.wrap (g+1),List.set c (j.toNat:Nat) (c.getD (g.toNat:Nat) (ae.mk [] 0 [] [] []))),hm,?_⟩;exact eo
   .refine Wp.skip (n _ _ (qR ?_))
    simp only[zS,zL,↓reduceIte];refine⟨(j,IntKind.i64.wrap (g+1),c),hm,?_⟩;exact eo
  .refine Wp.exit ?_
   simp only[zS,zL,↓reduceIte];have hm:=v _ hm
   try dsimp only at hm
   refine F _ _ _ _ ?_ (o (j,c) hm);exact eo
theorem NH(o0 z:List ae)(hm:DY o0=some z):Does prog 60 [.buf 0,.fn 61 []] [.fx 76 5 (List.map zd o0)] (fun r X=>r=.tup []/\X=[.fx 76 5 (List.map zd z)]) :=
 Does.mono (dm (α:=ae) (fun _=>Lr) trivial (fun _=>rfl) (fun _=>rfl) Tryz.sortFL60 ⟨_,func60,by kernel_rfl,by kernel_rfl⟩ 5 Tryz.isAgg76 Tryz.sizeOf76 zd (fun _=>rfl) (fun x d hd=>by simp only[zd,mem_cons,not_mem_nil,or_false]at hd;rcases hd with rfl|rfl|rfl|rfl|rfl <;> rfl) _ (sy (fun x:ae=>x.t) (fun x=>x.e) (fun x=>x.a)) 61 (enters_of func61 (by kernel_rfl) rfl) (fun x y=>@MZ Lr (fun _=>rfl) x y _ (xb x y)) 76 o0) fun r Y ⟨h1,l',h2,h3,h4⟩=>⟨h1,by have:=xJ hm l' ⟨h2,h3⟩;cases this;exact h4⟩
theorem MA(c:am)(b:dX)(f:List ae)(z:am)(hm:Dz c b f=some z):Does prog 25 [.agg [lm zd c.r],pS b,lm zd f] [] (fun r X=>r=.agg [lm zd z.r]/\X=[]):=by
 unfold Dz at hm
 refine dW 0 20 [.cell 6 33] func25 fun B=>nA fun hA=>?_
 refine qS ?_;obtain⟨k,g,hm⟩:=ze hm;obtain⟨l,i,hm⟩:=ze hm
 refine rS fun _ m=>?_
 refine cO [] (Ln c.r _ g) ?_;refine cO [3,1] (N2 k b _ i) (m _ _ ?_);obtain⟨n,hm⟩:=zl hm;refine q6 ?_;refine cS 3 (by simp only[go_sem,simprocAttr];exact Is.mk) (by simp only[go_sem,simprocAttr]) ?_;simp only[go_sem,simprocAttr];obtain⟨o,j,hm⟩:=ze hm;refine rS fun _ p=>?_;refine cO [3] (NH (l++f) _ j) (p _ _ ?_);refine cI 3 (by simp only[go_sem,simprocAttr];exact Is.mk) (by simp only[go_sem,simprocAttr]) ?_;simp only[go_sem,simprocAttr];exact wQ
theorem Ng(c:aj)(u:am)(k:List (dX×aa))(l:List (dX×Int))(p:List (dX×ab))(t:List (dX×ah))(j:List ai)(v:List ao)(z:aq×Int×List ai×List ao)(hm:DM c u k l p t j v=some z):Does prog 24 [.ptr 0 0,.agg [lm za c.q,lm zc c.i,lm za c.n,lm zb c.m],.agg [lm zd u.r]] [.cells 108 [.mp 1,.mp 2,.mp 3,.mp 4,.buf 5,.buf 6],.mp true (zj Dt.s zc k),.mp false (zj Dt.s zh l),.mp true (zj Dt.s za p),.mp true (zj Dt.s zb t),.buf 51 10 (List.map zf j),.buf 148 2 (List.map zk v)] (fun r X=>r=.tup [.agg [lm zf z.1.E,lm zd z.1.D.r,lm zk z.1.H],pI z.2.1]/\X=[.cells 108 [.mp 1,.mp 2,.mp 3,.mp 4,lm zf z.2.2.1,lm zk z.2.2.2],.mp true (zj Dt.s zc k),.mp false (zj Dt.s zh l),.mp true (zj Dt.s za p),.mp true (zj Dt.s zb t),.gone,.gone]):=by
 unfold DM at hm
 refine dW 7 40 [.cell 6 36,.tmp 7] func24 fun B=>nA fun hA=>?_
 refine qS ?_
 refine ca fun _ J _=>Wp.freeze 5 (by simp only[go_sem,simprocAttr];exact Is.mk) (by first|(simp only[go_sem,simprocAttr];done)|(simp only[go_sem,simprocAttr];omega)) ?_
 simp only[go_sem,simprocAttr];obtain⟨b,C,hm⟩:=ze hm
 refine cV (plan:=(.rd 0 (.rd 1 (.rd 2 (.rd 3 (.rd 4 (.fk 5 [] (.rd 6 (.rd 7 (.rd 8 (.ef 9 [0,1,2,3,4,6,7,8] (.ef 10 [8] (.rd 11 .nil)))))) 9 [0,1,2,3,4] (.ef 5 [] (.rd 6 (.rd 7 (.rd 8 (.ef 10 [8] (.rd 11 .nil))))))))))))) (by kernel_rfl) rfl (by kernel_rfl) fun K3 L w=>?_
 suffices f:K3 [(0,.ptr 0 0),(1,.agg [lm za c.q,lm zc c.i,lm za c.n,lm zb c.m]),(2,.agg [lm zd u.r]),(4,.ptr 7 0),(5,.ptr 8 0),(6,.ptr 9 0),(7,pI 0),(8,.ptr 10 0),(9,pI b.2),(11,.tup [.agg [lm za b.1.q,lm zc b.1.i,lm za b.1.n,lm zb b.1.m],pI b.2]),(12,.agg [lm za c.q,lm zc c.i,lm za c.n,lm zb c.m]),(13,.ptr 0 0),(14,.ptr 0 0),(15,.ptr 0 4),(16,lm zf j),(17,.tup [.agg [lm za b.1.q,lm zc b.1.i,lm za b.1.n,lm zb b.1.m],pI b.2]),(18,.agg [lm za b.1.q,lm zc b.1.i,lm za b.1.n,lm zb b.1.m]),(19,pI b.2)] [.cells 108 [.mp 1,.mp 2,.mp 3,.mp 4,lm zf j,.buf 6],.mp true (zj Dt.s zc k),.mp false (zj Dt.s zh l),.mp true (zj Dt.s za p),.mp true (zj Dt.s zb t),.gone,.buf 148 2 (List.map zk v),.cells 26 [lm za c.q,lm zc c.i,lm za c.n,lm zb c.m],.cells 33 [lm zd u.r],.cells 36 [.nils,.nils,.nils],.cells 26 [lm za b.1.q,lm zc b.1.i,lm za b.1.n,lm zb b.1.m]]by
  simp only[go_sem,simprocAttr]
  try refine⟨sd,?_⟩
  refine Dr.fk ?_ ?_
  ·
   refine id (Br.callR (av:=?av4) (g:=true) (o:=?o4) [] (fun hg=>xR c j _ C) si si si si si sg sg sg sg ?cont4);simp only[go_sem,simprocAttr]
   first|refine w.weak _ _ _ _ ?_ f|refine⟨sd,w.weak _ _ _ _ ?_ f⟩
   exact eo
  ·
   refine Br.run (o:=?o5) si si ?cont5;simp only[go_sem,simprocAttr]
   try refine⟨sd,?_⟩
   refine cn (Br.callR (av:=?av6) (g:=true) (o:=?o6) [] (fun hg=>xR c j _ C) si si si si si sg sg sg sg ?cont6);simp only[go_sem,simprocAttr]
   first|refine w.weak _ _ _ _ ?_ f|refine⟨sd,w.weak _ _ _ _ ?_ f⟩
   exact eo
 refine L _ _ (qS ?_)
 refine cN hm (fun hm=>?_) fun hm=>?_
 .refine qS ?_
  refine Wp.freeze 6 (by simp only[go_sem,simprocAttr];exact Is.mk) (by first|(simp only[go_sem,simprocAttr];done)|(simp only[go_sem,simprocAttr];omega)) ?_;simp only[go_sem,simprocAttr];refine Wp.ret ?_;simp only[zS,zL];refine ls ?_;cases hm;exact eo
 .refine Wp.skip (J _ _ (ca fun _ G _=>?_))
  obtain⟨M,F,hm⟩:=ze hm;refine sX (fun hg=>IC u _ F) ?_;refine qS ?_
  refine cN hm (fun hm=>?_) fun hm=>?_
  .refine qS ?_
   refine Wp.freeze 6 (by simp only[go_sem,simprocAttr];exact Is.mk) (by first|(simp only[go_sem,simprocAttr];done)|(simp only[go_sem,simprocAttr];omega)) ?_;simp only[go_sem,simprocAttr];refine Wp.ret ?_;simp only[zS,zL];refine ls ?_;cases hm;exact eo
  .refine Wp.skip (G _ _ (dS (pl [(0,none),(1,none),(2,none),(3,none),(4,none),(5,none),(6,none),(7,none),(8,none),(9,none),(10,some []),(11,none)]) fun _ I=>I _ _ ?_))
   refine Wp.freeze 6 (by simp only[go_sem,simprocAttr];exact Is.mk) (by first|(simp only[go_sem,simprocAttr];done)|(simp only[go_sem,simprocAttr];omega)) ?_;simp only[go_sem,simprocAttr];exact wR
end Go.Proofs.YtggigadnagoglafGreatDoor
