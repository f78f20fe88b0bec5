/- That the code does what the models say (part 7). -/
import Derived.Test.YtkojogldchfkkaaGreatDoorScWk0
import Derived.Test.YtkojogldchfkkaaGreatDoorScWk1
import Derived.Test.YtkojogldchfkkaaGreatDoorScWk3
import Derived.Test.YtkojogldchfkkaaGreatDoorScWk6
set_option linter.unusedSimpArgs false
set_option linter.unusedVariables false
open Go.Proofs Go.Shelf
open List
namespace Go.Proofs.YtkojogldchfkkaaGreatDoor
open Tryz
open Go.Vc Go.Md
set_option maxRecDepth 100000
set_option maxHeartbeats 4000000
theorem Rt(b:eA)(c:List (eA×Bool))(z:Bool)(hm:FI b c=some z):Does prog 76 [pS b,.fn 77 [.ptr 0 0]] [.cells 70 [.mp 1],.mp false (zm Dt.s fl c)] (fun r X=>r=pB z/\X=[.cells 70 [.mp 1],.mp false (zm Dt.s fl c)]):=by
 unfold FI at hm
 refine dW 2 24 [.tmp 4] func76 fun B=>nA fun hA=>?_
 refine qS ?_
 refine df fun K2 p C=>?_
 obtain⟨D,j,hm⟩:=zj hm
 have l:∀s,D s=some z->K2 [] [.cells 70 [.mp 1],.mp false (zm Dt.s fl c)]:=by
  intro s hs;have hm:=j _ hs;clear hs
  try dsimp only at hm|-
  exact p _ _ (wQ)
 clear p j;refine qS ?_;refine Wp.block ?_;obtain⟨N,t,hm⟩:=zl hm
 refine fL 0 b.length fun u=>?_
 refine Wp.forL (fun i s=>[(0,pS b),(1,.fn 77 [.ptr 0 0]),(5,pI (i:Int))]) (fun i s=>[.cells 70 [.mp 1],.mp false (zm Dt.s fl c)]) wF hm ?_;clear hm;intro i s J hm
 try dsimp only at hm|-
 refine df fun _ E _=>qS ?_
 refine Wp.cond rfl ⟨⟩ (fun k=>?_) fun k=>Wp.exit (C _ _ _ _ wF (l () (t _ (pw hm (uA k)))))
 have f:=rm k;have F:=pz f u;obtain⟨G,L,m,n,o,hm⟩:=py hm f;clear m;refine Wp.skip ?_;simp only[zy];refine E _ _ (df fun _ I _=>Wp.block ?_);obtain⟨M,hm⟩:=zh hm;obtain⟨O,v,hm⟩:=zx hm;have hA:=And.intro F n;refine sQ (g:=decide ((G.toNat:Int)=47)) [0,1] (fun hg=>RP (List.take i b) c _ (v hg)) ?_
 refine cR hm fun hm=>?_
 refine Wp.skip (I _ _ (r6 ?_));exact wN () f (o _ hm)
theorem NC(b:aa)(z:Int)(hm:BN b=some z):Does prog 73 [.agg [pS b.e,pS b.Value],.fn 79 []] [] (fun r X=>r=pI z/\X=[]):=by
 unfold BN at hm
 refine dW 0 14 [.tmp 4] func73 fun B=>nA fun hA=>?_
 refine qS ?_
 refine df fun _ g _=>?_
 obtain⟨j,c,hm⟩:=zd hm;refine sX (fun hg=>Nc b.e _ c) ?_
 refine cR hm fun hm=>?_
 refine Wp.skip (g _ _ (df fun _ i _=>?_));obtain⟨k,f,hm⟩:=zd hm;refine sX (fun hg=>PN b.Value _ f) ?_
 refine cR hm fun hm=>?_
 exact Wp.skip (i _ _ (wQ))
theorem Rb(b:aa)(z:Int)(hm:Hr b=some z):Does prog 78 [.agg [pS b.e,pS b.Value]] [] (fun r X=>r=pI z/\X=[]):=by
 unfold Hr at hm
 refine dW 0 5 [.tmp 2] func78 fun B=>nA fun hA=>?_
 refine qS ?_;obtain⟨f,c,hm⟩:=zd hm;refine sX (fun hg=>NC b _ c) ?_;exact wR
theorem SE(b:List aa)(z:Int)(hm:F0 b=some z):Does prog 71 [lm za b,.fn 78 [],.fn 74 []] [] (fun r X=>r=pI z/\X=[]):=by
 unfold F0 at hm
 refine dW 0 39 [.tmp 6] func71 fun B=>nA fun hA=>?_
 refine qS ?_
 refine df fun K2 p G=>?_
 obtain⟨I,j,hm⟩:=zj hm
 have k:∀s,I s=some z->K2 [] []:=by
  intro s hs;have hm:=j _ hs;clear hs
  try dsimp only at hm|-
  exact p _ _ (wQ)
 clear p j;refine qS ?_;refine Wp.block ?_;obtain⟨R,u,hm⟩:=zl hm
 refine fL 0 b.length fun m=>?_
 refine Wp.forL (fun c s=>[(0,lm za b),(1,.fn 78 []),(2,.fn 74 []),(10,lm za b),(11,pI (b.length:Int)),(12,pI (c:Int))]) (fun c s=>[]) wF hm ?_;clear hm;intro c s N hm
 try dsimp only at hm|-
 refine qS ?_
 refine lB za hm m (fun h=>G _ _ _ _ wF (k () (u _ h))) fun v J t P n O o hm hA _ L=>?_
 refine q6 ?_
 refine df fun _ M _=>?_
 obtain⟨S,C,hm⟩:=zd hm;refine sX (fun hg=>Rb t _ C) ?_;refine q6 ?_
 refine cR hm fun hm=>?_
 refine Wp.skip (M _ _ ?_);obtain⟨T,D,hm⟩:=zx hm;obtain⟨Q,hm⟩:=zh hm;obtain⟨U,E,hm⟩:=zx hm;have f:=uP (l:=b) (e:=za) (d:=(aa.mk [] [])) (i:=(IntKind.i64.wrap ((c:Int)-1)).toNat);simp only[za,map_nil]at f;have hA:=And.intro J (And.intro n f)
 refine dS (pl [(0,none),(1,none),(2,none),(3,none),(4,none),(5,none),(6,none),(7,none),(8,none),(9,none),(10,none),(11,none),(12,none),(13,none),(14,none)]) fun _ F=>?_
 refine cD (g:=decide (0<(c:Int))) (fun hg=>FK t _ (D hg)) ?_;refine cD (g:=decide (0<(c:Int))) (fun hg=>FK (aa.mk ((b.getD ((IntKind.i64.wrap ((c:Int)-1)).toNat) (aa.mk [] [])).e) ((b.getD ((IntKind.i64.wrap ((c:Int)-1)).toNat) (aa.mk [] [])).Value)) _ (E hg)) (F _ _ ?_)
 refine cR hm fun hm=>?_
 refine Wp.skip (L _ _ (r6 ?_));exact wN () v (o _ hm)
theorem P7(b:ah)(z:Int)(hm:FW b=some z):Does prog 81 [.agg [pS b.j,pS b.a,pB b.u,pB b.t]] [] (fun r X=>r=pI z/\X=[]):=by
 unfold FW at hm
 refine dW 0 13 [.tmp 2] func81 fun B=>nA fun hA=>?_
 refine qS ?_
 refine df fun _ i _=>?_
 obtain⟨k,c,hm⟩:=zd hm;obtain⟨m,f,hm⟩:=zx hm
 refine rS fun _ l=>?_
 refine cX (fun hg=>CU b.j _ c) ?_;refine cX (g:=!(!k)) (fun hg=>Nc b.a _ (f hg)) (l _ _ ?_)
 refine cR hm fun hm=>?_
 exact Wp.skip (i _ _ (wQ))
theorem KH(b:ah)(z:eA)(hm:x8 b=some z):Does prog 82 [.agg [pS b.j,pS b.a,pB b.u,pB b.t]] [] (fun r X=>r=pS z/\X=[]):=by
 unfold x8 at hm
 refine dW 0 5 [.tmp 2] func82 fun B=>nA fun hA=>?_
 refine qS ?_;exact wQ
theorem SC(b:List ah)(z:Int)(hm:FZ b=some z):Does prog 80 [lm zb b,.fn 81 [],.fn 82 []] [] (fun r X=>r=pI z/\X=[]):=by
 unfold FZ at hm
 refine dW 0 39 [.tmp 6] func80 fun B=>nA fun hA=>?_
 refine qS ?_
 refine df fun K2 v L=>?_
 obtain⟨M,k,hm⟩:=zj hm
 have m:∀s,M s=some z->K2 [] []:=by
  intro s hs;have hm:=k _ hs;clear hs
  try dsimp only at hm|-
  exact v _ _ (wQ)
 clear v k;refine qS ?_;refine Wp.block ?_;obtain⟨U,D,hm⟩:=zl hm
 refine fL 0 b.length fun n=>?_
 refine Wp.forL (fun c s=>[(0,lm zb b),(1,.fn 81 []),(2,.fn 82 []),(10,lm zb b),(11,pI (b.length:Int)),(12,pI (c:Int))]) (fun c s=>[]) wF hm ?_;clear hm;intro c s Q hm
 try dsimp only at hm|-
 refine qS ?_
 refine lB zb hm n (fun h=>L _ _ _ _ wF (m () (D _ h))) fun E N C S o R p hm hA _ O=>?_
 refine q6 ?_
 refine df fun _ P _=>?_
 obtain⟨V,F,hm⟩:=zd hm;refine sX (fun hg=>P7 C _ F) ?_;refine q6 ?_
 refine cR hm fun hm=>?_
 refine Wp.skip (P _ _ ?_);obtain⟨W,G,hm⟩:=zx hm;obtain⟨T,hm⟩:=zh hm;obtain⟨Y,I,hm⟩:=zx hm;have f:=uP (l:=b) (e:=zb) (d:=(ah.mk [] [] false false)) (i:=(IntKind.i64.wrap ((c:Int)-1)).toNat);simp only[zb,map_nil]at f;have hA:=And.intro N (And.intro o f)
 refine dS (pl [(0,none),(1,none),(2,none),(3,none),(4,none),(5,none),(6,none),(7,none),(8,none),(9,none),(10,none),(11,none),(12,none),(13,none),(14,none)]) fun _ J=>?_
 refine cD (g:=decide (0<(c:Int))) (fun hg=>KH C _ (G hg)) ?_;refine cD (g:=decide (0<(c:Int))) (fun hg=>KH (ah.mk ((b.getD ((IntKind.i64.wrap ((c:Int)-1)).toNat) (ah.mk [] [] false false)).j) ((b.getD ((IntKind.i64.wrap ((c:Int)-1)).toNat) (ah.mk [] [] false false)).a) ((b.getD ((IntKind.i64.wrap ((c:Int)-1)).toNat) (ah.mk [] [] false false)).u) ((b.getD ((IntKind.i64.wrap ((c:Int)-1)).toNat) (ah.mk [] [] false false)).t)) _ (I hg)) (J _ _ ?_)
 refine cR hm fun hm=>?_
 refine Wp.skip (O _ _ (r6 ?_));exact wN () E (p _ hm)
theorem KC(c:ai)(z:Int)(hm:Bp c=some z):Does prog 32 [.agg [lm za c.m,lm zc c.b,lm za c.i,lm zb c.h]] [] (fun r X=>r=pI z/\X=[]):=by
 unfold Bp at hm
 refine dW 0 80 [.tmp 2] func32 fun B=>nA fun hA=>?_
 refine qS ?_
 refine df fun _ T _=>qS ?_
 refine cR hm fun hm=>?_
 refine Wp.skip (T _ _ (df fun _ U _=>?_));obtain⟨a4,F,hm⟩:=zd hm;refine sX (fun hg=>SD c.m _ F) ?_;refine qS ?_
 refine cR hm fun hm=>?_
 refine Wp.skip (U _ _ (qS ?_));refine qS ?_
 refine df fun V k G=>?_
 obtain⟨W,l,hm⟩:=zj hm
 have n:∀s,W s=some z->V [(1,.ptr 0 0)] [.cells 26 [lm za c.m,lm zc c.b,lm za c.i,lm zb c.h]]:=by
  intro s hs;have hm:=l _ hs;clear hs
  try dsimp only at hm|-
  refine k _ _ (df fun _ I _=>?_);obtain⟨a5,J,hm⟩:=zd hm;refine sX (fun hg=>SE c.i _ J) ?_;refine qS ?_
  refine cR hm fun hm=>?_
  refine Wp.skip (I _ _ ?_);obtain⟨a6,L,hm⟩:=zd hm;refine sX (fun hg=>SC c.h _ L) ?_;exact wR
 clear k l;refine qS ?_;refine Wp.block ?_;obtain⟨a7,M,hm⟩:=zl hm
 refine fL 40 c.b.length fun t=>?_
 refine Wp.forL (fun o s=>[(1,.ptr 0 0),(4,pS s.1),(5,.ptr 2 0),(40,lm zc c.b),(41,pI (c.b.length:Int)),(42,pI (o:Int))]) (fun o s=>[.cells 26 [lm za c.m,lm zc c.b,lm za c.i,lm zb c.h],.mp false (zm Dt.s fl s.2),.cells 70 [.mp 1]]) wF hm ?_;clear hm;intro o s Y hm;obtain⟨E,g⟩:=s
 try dsimp only at hm|-
 refine qS ?_
 refine lB zc hm t (fun h=>G _ _ _ _ wF (n () (M _ h))) fun u N f Z v a0 p hm hA _ O=>?_
 refine q6 ?_
 refine df fun _ P _=>?_
 obtain⟨a1,C,hm⟩:=zd hm;refine sX (fun hg=>Nr f _ C) ?_;refine q6 ?_
 refine cR hm fun hm=>?_
 refine Wp.skip (P _ _ (df fun _ Q _=>q6 ?_))
 refine cR hm fun hm=>?_
 refine Wp.skip (Q _ _ (df fun _ R _=>?_));obtain⟨a2,D,hm⟩:=zd hm;refine sQ [2,1] (fun hg=>Rt f.a g _ D) ?_
 refine cR hm fun hm=>?_
 refine Wp.skip (R _ _ ?_);obtain⟨a3,hm⟩:=zh hm;have j:=mD (e:=fl) zZ g f.a true;simp only[fl,map_nil]at j;have hA:=And.intro N (And.intro v j)
 refine dE (pl [(0,none),(1,none),(2,none),(3,none),(4,none),(5,none),(6,some [])]) fun _ S=>S _ _ ?_
 refine O _ _ (r6 ?_);exact wN (f.a,eG g f.a true) u (p _ hm)
theorem Se(b:ab)(z:Bool)(hm:KX b=some z):Does prog 34 [.agg [pS b.a,pS b.q,pB b.r]] [] (fun r X=>r=pB z/\X=[]):=by
 unfold KX at hm
 refine dW 0 6 [.tmp 2] func34 fun B=>nA fun hA=>?_
 refine qS ?_;exact wQ
theorem SP(b:List ab)(z:Int)(hm:Lf b=some z):Does prog 83 [lm zc b,.fn 34 []] [] (fun r X=>r=pI z/\X=[]):=by
 unfold Lf at hm
 refine dW 0 19 [.tmp 4] func83 fun B=>nA fun hA=>?_
 refine qS ?_
 refine df fun K2 j o=>?_
 obtain⟨p,c,hm⟩:=zj hm
 have g:∀s,p s=some z->K2 [] []:=by
  intro s hs;have hm:=c _ hs;clear hs
  try dsimp only at hm|-
  exact j _ _ (wQ)
 clear j c;refine qS ?_;refine Wp.block ?_;obtain⟨F,k,hm⟩:=zl hm
 refine fL 0 b.length fun l=>?_
 refine Wp.forL (fun f s=>[(0,lm zc b),(1,.fn 34 []),(7,pI (b.length:Int)),(8,pI (f:Int))]) (fun f s=>[]) wF hm ?_;clear hm;intro f s v hm
 try dsimp only at hm|-
 refine qS ?_
 refine lB zc hm l (fun h=>o _ _ _ _ wF (g () (k _ h))) fun m G t E C D i hm hA _ u=>?_
 refine q6 ?_;obtain⟨I,n,hm⟩:=zd hm;refine sX (fun hg=>Se t _ n) ?_
 refine cR hm fun hm=>?_
 refine Wp.skip (u _ _ (r6 ?_));exact wN () m (i _ hm)
theorem S0(b:List ab)(z:Bool)(hm:zS b=some z):Does prog 33 [lm zc b,.fn 34 []] [] (fun r X=>r=pB z/\X=[]):=by
 unfold zS at hm
 refine dW 0 9 [.tmp 4] func33 fun B=>nA fun hA=>?_
 refine qS ?_;obtain⟨f,c,hm⟩:=zd hm;refine sX (fun hg=>SP b _ c) ?_;exact wR
theorem Nl(b:ae)(z:al)(hm:yO b=some z):Does prog 35 [.agg [pI b.k,pS b.g.a,pS b.g.q,pB b.g.r,pS b.o.e,pS b.o.Value,pS b.f.j,pS b.f.a,pB b.f.u,pB b.f.t]] [] (fun r X=>r=.agg [pI z.kind,pS z.name]/\X=[]):=by
 unfold yO at hm
 refine dW 0 23 [.cell 2 75] func35 fun B=>nA fun hA=>?_
 refine qS ?_
 refine df fun _ D _=>qS ?_
 refine Wp.block (df fun K4 n p=>?_);obtain⟨E,l,hm⟩:=zj hm
 have c:∀s,E s=some z->K4 [(1,.ptr 0 0),(2,.ptr 1 0),(4,pI b.k),(5,pB s)] [.cells 50 [pI b.k,pS b.g.a,pS b.g.q,pB b.g.r,pS b.o.e,pS b.o.Value,pS b.f.j,pS b.f.a,pB b.f.u,pB b.f.t],.cells 75 [pI 0,pS ([])]]:=by
  intro I hs;have hm:=l _ hs;clear hs
  try dsimp only at hm|-
  refine n _ _ (cR hm fun hm=>?_)
  refine df fun K7 v C=>?_
  obtain⟨F,m,hm⟩:=zj hm
  have i:∀s,F s=some z->K7 [(1,.ptr 0 0),(2,.ptr 1 0),(12,pB s)] [.cells 50 [pI b.k,pS b.g.a,pS b.g.q,pB b.g.r,pS b.o.e,pS b.o.Value,pS b.f.j,pS b.f.a,pB b.f.u,pB b.f.t],.cells 75 [pI 0,pS ([])]]:=by
   intro G hs;have hm:=m _ hs;clear hs
   try dsimp only at hm|-
   refine v _ _ (cR hm fun hm=>?_);exact Wp.skip (D _ _ (wQ))
  clear v m;refine qS ?_
  refine cN hm (fun hm=>?_) fun hm=>?_
  .refine Wp.skip (C _ _ _ _ ?_ (i (decide (b.k=3)) hm))
   exact gf
  .refine qR ?_
   refine C _ _ _ _ ?_ (i (decide (b.k=4)) hm);exact gf
 clear n l;refine qS ?_
 refine cN hm (fun hm=>?_) fun hm=>?_
 .refine Wp.skip (p _ _ _ _ ?_ (c (decide (b.k=1)) hm))
  exact gf
 .refine qR ?_
  refine p _ _ _ _ ?_ (c (decide (b.k=2)) hm);exact gf
theorem Rc(b:eA)(c:eA)(z:Bool)(hm:M9 b c=some z):Does prog 84 [pS b,pS c] [] (fun r X=>r=pB z/\X=[]):=by
 unfold M9 at hm
 refine dW 0 9 [.tmp 4] func84 fun B=>nA fun hA=>?_
 refine qS ?_;obtain⟨g,hm⟩:=zh hm;obtain⟨i,f,hm⟩:=zd hm;refine sX (fun hg=>C3 b (c++([47]:eA)) _ f) ?_;exact wR
theorem KM(b:eA)(z:Bool)(hm:BC b=some z):Does prog 36 [pS b] [] (fun r X=>r=pB z/\X=[]):=by
 unfold BC at hm
 refine dW 0 5 [.tmp 2] func36 fun B=>nA fun hA=>?_
 refine qS ?_;obtain⟨f,c,hm⟩:=zd hm;refine sX (fun hg=>Rc b ([115,116,97,103,101]:eA) _ c) ?_;exact wR
theorem Qz(b:List aa)(z:List aa)(hm:zt b=some z):Does prog 89 [lm za b] [] (fun r X=>r=.buf 0/\X=[.buf 46 2 (List.map za z)]):=by
 unfold zt at hm
 refine dW 1 8 [.tmp 2] func89 fun B=>nA fun hA=>?_
 refine qS ?_
 refine df fun _ f _=>dh fun K3 g=>?_
 simp only[go_sem,simprocAttr]
 try refine⟨sd,?_⟩
 refine dz (rows:=?rows4) (e:=?e4) (esz:=?esz4) (eb:=?eb4) (ez:=?ez4) Is.mk Is.mk sg sg si si ?cont4;intro i c;replace hm:=Fg hm i (fun h=>map_eq_nil_iff.1 (c h))
 try dsimp only at hm
 simp only[go_sem,simprocAttr];refine kA g ?_
 refine cN hm (fun hm=>?_) fun hm=>?_
 .refine qS ?_
  refine di 2 46 2 rfl ?_;simp only[go_sem,simprocAttr];exact wR
 .refine Wp.skip (f _ _ ?_)
  obtain⟨j,hm⟩:=zh hm;exact wQ
theorem SJ(b:List ab)(z:List ab)(hm:Ld b=some z):Does prog 116 [lm zc b] [] (fun r X=>r=.buf 0/\X=[.buf 44 3 (List.map zc z)]):=by
 unfold Ld at hm
 refine dW 1 8 [.tmp 2] func116 fun B=>nA fun hA=>?_
 refine qS ?_
 refine df fun _ f _=>dh fun K3 g=>?_
 simp only[go_sem,simprocAttr]
 try refine⟨sd,?_⟩
 refine dz (rows:=?rows4) (e:=?e4) (esz:=?esz4) (eb:=?eb4) (ez:=?ez4) Is.mk Is.mk sg sg si si ?cont4;intro i c;replace hm:=Fg hm i (fun h=>map_eq_nil_iff.1 (c h))
 try dsimp only at hm
 simp only[go_sem,simprocAttr];refine kA g ?_
 refine cN hm (fun hm=>?_) fun hm=>?_
 .refine qS ?_
  refine di 2 44 3 rfl ?_;simp only[go_sem,simprocAttr];exact wR
 .refine Wp.skip (f _ _ ?_)
  obtain⟨j,hm⟩:=zh hm;exact wQ
theorem SZ(b:List ah)(z:List ah)(hm:Li b=some z):Does prog 117 [lm zb b] [] (fun r X=>r=.buf 0/\X=[.buf 48 4 (List.map zb z)]):=by
 unfold Li at hm
 refine dW 1 8 [.tmp 2] func117 fun B=>nA fun hA=>?_
 refine qS ?_
 refine df fun _ f _=>dh fun K3 g=>?_
 simp only[go_sem,simprocAttr]
 try refine⟨sd,?_⟩
 refine dz (rows:=?rows4) (e:=?e4) (esz:=?esz4) (eb:=?eb4) (ez:=?ez4) Is.mk Is.mk sg sg si si ?cont4;intro i c;replace hm:=Fg hm i (fun h=>map_eq_nil_iff.1 (c h))
 try dsimp only at hm
 simp only[go_sem,simprocAttr];refine kA g ?_
 refine cN hm (fun hm=>?_) fun hm=>?_
 .refine qS ?_
  refine di 2 48 4 rfl ?_;simp only[go_sem,simprocAttr];exact wR
 .refine Wp.skip (f _ _ ?_)
  obtain⟨j,hm⟩:=zh hm;exact wQ
theorem RC(c:ai)(z:List aa×List ab×List aa×List ah×List aa×List ab×List aa×List ah)(hm:HJ c=some z):Does prog 86 [.agg [lm za c.m,lm zc c.b,lm za c.i,lm zb c.h]] [] (fun r X=>r=.agg [.buf 2,.buf 3,.buf 4,.buf 5]/\X=[.cells 26 [lm za z.1,lm zc z.2.1,lm za z.2.2.1,lm zb z.2.2.2.1],.cells 26 [.buf 2,.buf 3,.buf 4,.buf 5],.buf 46 2 (List.map za z.2.2.2.2.1),.buf 44 3 (List.map zc z.2.2.2.2.2.1),.buf 46 2 (List.map za z.2.2.2.2.2.2.1),.buf 48 4 (List.map zb z.2.2.2.2.2.2.2)]):=by
 unfold HJ at hm
 refine dW 6 16 [.cell 2 26] func86 fun B=>nA fun hA=>?_
 refine qS ?_;obtain⟨n,f,hm⟩:=zd hm;obtain⟨o,g,hm⟩:=zd hm;obtain⟨p,j,hm⟩:=zd hm;obtain⟨t,k,hm⟩:=zd hm
 refine dS (pl [(0,none),(1,none),(3,none),(4,none),(6,none),(7,none),(9,none),(10,none),(2,some [3,4,6,7,9,10]),(5,some [6,7,9,10]),(8,some [9,10]),(11,some []),(12,none),(13,some [])]) fun _ l=>?_
 refine cE [] (Qz c.m _ f) ?_;refine cE [] (SJ c.b _ g) ?_;refine cE [] (Qz c.i _ j) ?_;refine cE [] (SZ c.h _ k) (l _ _ ?_);exact wR
theorem P1(b:ab)(z:Bool)(hm:BB b=some z):Does prog 88 [.agg [pS b.a,pS b.q,pB b.r]] [] (fun r X=>r=pB z/\X=[]):=by
 unfold BB at hm
 refine dW 0 6 [.tmp 2] func88 fun B=>nA fun hA=>?_
 refine qS ?_;obtain⟨f,c,hm⟩:=zd hm;refine sX (fun hg=>KM b.a _ c) ?_;exact wR
end Go.Proofs.YtkojogldchfkkaaGreatDoor
