/- That the code does what the models say (part 6). -/
import Derived.Test.YtkojogldchfkkaaGreatDoorScWk0
import Derived.Test.YtkojogldchfkkaaGreatDoorScWk1
import Derived.Test.YtkojogldchfkkaaGreatDoorScWk2
import Derived.Test.YtkojogldchfkkaaGreatDoorScWk3
import Derived.Test.YtkojogldchfkkaaGreatDoorScWk5
set_option linter.unusedSimpArgs false
set_option linter.unusedVariables false
open Go.Proofs Go.Shelf
open List
namespace Go.Proofs.YtkojogldchfkkaaGreatDoor
open Tryz
open Go.Vc Go.Md
set_option maxRecDepth 100000
set_option maxHeartbeats 4000000
theorem KT(c:ai)(f:List ae)(z:Int)(hm:BH c f=some z):Does prog 7 [.agg [lm za c.m,lm zc c.b,lm za c.i,lm zb c.h],lm zf f] [] (fun r X=>r=pI z/\X=[]):=by
 unfold BH at hm
 refine dW 0 85 [.tmp 4] func7 fun B=>nA fun hA=>?_
 refine qS ?_
 refine df fun _ aw _=>?_
 obtain⟨aI,U,hm⟩:=zd hm;refine sX (fun hg=>OE c _ U) ?_;refine qS ?_
 refine cR hm fun hm=>?_
 refine Wp.skip (aw _ _ (df fun _ ax _=>?_));obtain⟨l,a7,hm⟩:=zd hm;obtain⟨n,a8,hm⟩:=zI hm;have t:=zw (e:=zc) zZ l.1 ([115,116,97,103,101]:eA) (ab.mk [] [] false);have u:=zu (e:=zc) zZ l.1 ([115,116,97,103,101]:eA);simp only[a8,zc,map_nil]at t u;have hA:=And.intro t u;refine sO [] (CT c _ a7) ?_;refine qS ?_
 refine cR hm fun hm=>?_
 refine Wp.skip (ax _ _ (df fun ay J a9=>?_));obtain⟨az,L,hm⟩:=zj hm
 have M:∀s,az s=some z->ay [(1,lm zf f),(2,.ptr 0 0)] [.cells 26 [lm za c.m,lm zc c.b,lm za c.i,lm zb c.h]]:=by
  intro s hs;have hm:=L _ hs;clear hs
  try dsimp only at hm|-
  refine J _ _ (df fun _ ac _=>?_);obtain⟨ad,V,hm⟩:=zd hm;obtain⟨v,af,hm⟩:=zd hm
  refine rS fun _ ag=>?_
  refine cF (My c _ V) ?_;refine cF (Ho ad f _ af) (ag _ _ ?_);refine qS ?_
  refine cR hm fun hm=>?_
  refine Wp.skip (ac _ _ (df fun _ an _=>qS ?_))
  refine cR hm fun hm=>?_
  refine Wp.skip (an _ _ (qS ?_))
  refine df fun aA N ao=>?_
  obtain⟨ap,C,hm⟩:=zj hm
  have O:∀s,ap s=some z->aA [] []:=by
   intro s hs;have hm:=C _ hs;clear hs
   try dsimp only at hm|-
   exact N _ _ (wQ)
  clear N C;refine qS ?_;refine Wp.block ?_;obtain⟨aJ,W,hm⟩:=zl hm
  refine fL 71 f.length fun Y=>?_
  refine Wp.forL (fun o s=>[(12,.mp 2),(71,lm zf f),(72,pI (f.length:Int)),(73,pI (o:Int))]) (fun o s=>[.cells 26 [lm za c.m,lm zc c.b,lm za c.i,lm zb c.h],.cells 26 [lm za v.1.m,lm zc v.1.b,lm za v.1.i,lm zb v.1.h],.mp false (zm Dt.s fl s)]) wF hm ?_;clear hm;intro o j aB hm
  try dsimp only at hm|-
  refine qS ?_
  refine lB zf hm Y (fun h=>ao _ _ _ _ wF (O () (W _ h))) fun Z P a6 aD D aE Q hm hA _ aq=>?_
  refine q6 ?_
  refine df fun _ ar _=>?_
  obtain⟨R,a0,hm⟩:=zd hm;obtain⟨aK,au,hm⟩:=zI hm;have E:=zw (e:=fl) zZ j R false;have F:=zu (e:=fl) zZ j R;simp only[au,fl,map_nil]at E F;have hA:=And.intro P (And.intro D (And.intro E F));refine sX (fun hg=>OG a6 _ a0) ?_
  refine cR hm fun hm=>?_
  refine Wp.skip (ar _ _ ?_);obtain⟨S,a1,hm⟩:=zd hm;obtain⟨aL,hm⟩:=zh hm;have G:=mD (e:=fl) zZ j S true;simp only[fl,map_nil]at G;have hA:=And.intro P (And.intro D G);refine eX (fun hg=>OG a6 _ a1) ?_;refine aq _ _ (r6 ?_);exact wN (eG j S true) Z (Q _ hm)
 clear J L;refine qS ?_;refine Wp.block ?_;obtain⟨aM,a2,hm⟩:=zl hm
 refine fL 1 f.length fun a3=>?_
 refine Wp.forL (fun p s=>[(1,lm zf f),(2,.ptr 0 0),(30,lm zf f),(31,pI (f.length:Int)),(32,pI (p:Int))]) (fun p s=>[.cells 26 [lm za c.m,lm zc c.b,lm za c.i,lm zb c.h],.cells 26 [.top,.top,.top,.top],.mp true (zm Dt.s zc l.1),.mp false (zm Dt.s eD l.2.1),.mp true (zm Dt.s zb l.2.2.1),.cells 67 [lm za l.2.2.2,.mp 2,.mp 3,.mp 4],.cells 44 [pS ((n.getD (ab.mk [] [] false)).a),pS ((n.getD (ab.mk [] [] false)).q),pB ((n.getD (ab.mk [] [] false)).r)]]) wF hm ?_;clear hm;intro p s aC hm
 try dsimp only at hm|-
 refine qS ?_
 refine lB zf hm a3 (fun h=>a9 _ _ _ _ wF (M () (a2 _ h))) fun a4 aN I aF aG aH T hm hA _ av=>?_
 refine q6 ?_;obtain⟨aO,a5,hm⟩:=zx hm;refine sX (g:=(((decide (I.k=1))||(decide (I.k=2)))&&(!(decide (I.g.a=([115,116,97,103,101]:eA)))))) (fun hg=>Na I.g.a _ (a5 hg)) ?_
 refine cR hm fun hm=>?_
 refine Wp.skip (av _ _ (r6 ?_));exact wN () a4 (T _ hm)
theorem QN(p:ai)(v:List ae)(F:Bool)(z:List ae)(hm:CK p v F=some z):Does prog 6 [.agg [lm za p.m,lm zc p.b,lm za p.i,lm zb p.h],lm zf v,pB F] [] (fun r X=>r=lm zf z/\X=[]):=by
 unfold CK at hm
 refine dW 0 36 [.tmp 6] func6 fun B=>nA fun hA=>?_
 refine qS ?_
 refine df fun _ W _=>qS ?_
 refine cR hm fun hm=>?_
 refine Wp.skip (W _ _ (qS ?_))
 refine df fun K7 T Y=>?_
 obtain⟨Z,L,hm⟩:=zj hm
 have Q:∀s,Z s=some z->K7 [(7,.buf 1)] [.cells 26 [.top,.top,.top,.top],.buf 50 10 (List.map zf s)]:=by
  intro a1 hs;have hm:=L _ hs;clear hs
  try dsimp only at hm|-
  exact T _ _ (wQ)
 clear T L;obtain⟨a4,hm⟩:=zh hm;refine q6 ?_;refine Wp.block (di 7 50 10 rfl ?_);simp only[go_sem,simprocAttr];obtain⟨a5,R,hm⟩:=zl hm
 refine fL 16 ((List.take ((min (v.length:Int) 12).toNat) v).length) fun S=>?_
 refine Wp.forL (fun G s=>[(3,.ptr 0 0),(7,.buf 1),(16,lm zf (List.take ((min (v.length:Int) 12).toNat) v)),(17,pI ((List.take ((min (v.length:Int) 12).toNat) v).length:Int)),(18,pI (G:Int))]) (fun G s=>[.cells 26 [lm za p.m,lm zc p.b,lm za p.i,lm zb p.h],.buf 50 10 (List.map zf s)]) wF hm ?_;clear hm;intro G D a2 hm
 try dsimp only at hm|-
 refine qS ?_
 refine lB zf hm S (fun h=>Y _ _ _ _ wF (Q D (R _ h))) fun I l n a6 c a3 J hm hA _ M=>?_
 refine q6 ?_;obtain⟨N,O,hm⟩:=zd hm;obtain⟨a7,hm⟩:=zh hm;obtain⟨U,P,hm⟩:=zd hm
 refine eh (plan:=(.rd 0 (.rd 1 (.rd 3 (.fk 2 [0,3] (.ef 4 [0,1] (.ef 5 [0] (.rd 6 (.rd 7 .nil)))) 4 [0,1] (.ef 2 [0,3] (.ef 5 [0] (.rd 6 (.rd 7 .nil))))))))) (by kernel_rfl) rfl (by kernel_rfl) fun a0 V E=>?_
 suffices C:a0 [(3,.ptr 0 0),(7,.buf 1),(9,.ptr 2 0),(16,lm zf (List.take ((min (v.length:Int) 12).toNat) v)),(17,pI ((List.take ((min (v.length:Int) 12).toNat) v).length:Int)),(18,pI (G:Int)),(19,pB (decide ((G:Int)<((List.take ((min (v.length:Int) 12).toNat) v).length:Int)))),(20,.rp [.i .i64 n.k,.s n.g.a,.s n.g.q,.b n.g.r,.s n.o.e,.s n.o.Value,.s n.f.j,.s n.f.a,.b n.f.u,.b n.f.t]),(21,.agg [pI n.k,pS n.g.a,pS n.g.q,pB n.g.r,pS n.o.e,pS n.o.Value,pS n.f.j,pS n.f.a,pB n.f.u,pB n.f.t]),(22,.agg [lm za p.m,lm zc p.b,lm za p.i,lm zb p.h]),(23,.buf 1),(24,.top),(25,.agg [pI n.k,pS n.g.a,pS n.g.q,pB n.g.r,pS n.o.e,pS n.o.Value,pS n.f.j,pS n.f.a,pB n.f.u,pB n.f.t]),(26,.full (List.map zf [n])),(27,.buf 3),(28,pI U),(29,pB (decide (U=0)))] [.cells 26 [lm za p.m,lm zc p.b,lm za p.i,lm zb p.h],.buf 50 10 (List.map zf D),.cells 50 [pI n.k,pS n.g.a,pS n.g.q,pB n.g.r,pS n.o.e,pS n.o.Value,pS n.f.j,pS n.f.a,pB n.f.u,pB n.f.t],.buf 50 10 (List.map zf (N++[n]))]by
  simp only[go_sem,simprocAttr,l,c]
  try refine⟨sL,?_⟩
  refine Dr.fk ?_ ?_
  ·
   refine id (dP (av:=?av15) (o:=?o15) (Qx D _ O) (Ov (fun _=>rfl) _) (by simp only[go_sem,simprocAttr,l,c];exact Is.mk) (by simp only[go_sem,simprocAttr,l,c];exact Is.mk) (by simp only[go_sem,simprocAttr,l,c];exact Is.mk) (by simp only[go_sem,simprocAttr,l,c];exact Is.mk) (by simp only[go_sem,simprocAttr,l,c]) (by simp only[go_sem,simprocAttr,l,c]) ?cont15);simp only[go_sem,simprocAttr,l,c]
   try refine⟨sL,?_⟩
   refine Dr.callF (av:=?av16) (g:=true) (o:=?o16) (fun hg=>KT p (N++[n]) _ P) (by simp only[go_sem,simprocAttr,l,c];exact Is.mk) (by simp only[go_sem,simprocAttr,l,c];exact Is.mk) (by simp only[go_sem,simprocAttr,l,c];exact Is.mk) (by simp only[go_sem,simprocAttr,l,c,lm,map_append,map_cons,map_nil];exact Is.mk) (by simp only[go_sem,simprocAttr,l,c]) (by simp only[go_sem,simprocAttr,l,c];exact Is.mk) ?cont16;simp only[go_sem,simprocAttr,l,c]
   first|refine E.weak _ _ _ _ ?_ C|refine⟨sL,E.weak _ _ _ _ ?_ C⟩
   simp only[go_sem,simprocAttr,l,c]
   try exact qa
  ·
   refine Br.run (o:=?o17) (by simp only[go_sem,simprocAttr,l,c];exact Is.mk) (by simp only[go_sem,simprocAttr,l,c];exact Is.mk) ?cont17;simp only[go_sem,simprocAttr,l,c]
   try refine⟨sL,?_⟩
   refine dj (dP (av:=?av18) (o:=?o18) (Qx D _ O) (Ov (fun _=>rfl) _) (by simp only[go_sem,simprocAttr,l,c];exact Is.mk) (by simp only[go_sem,simprocAttr,l,c];exact Is.mk) (by simp only[go_sem,simprocAttr,l,c];exact Is.mk) (by simp only[go_sem,simprocAttr,l,c];exact Is.mk) (by simp only[go_sem,simprocAttr,l,c]) (by simp only[go_sem,simprocAttr,l,c]) ?cont18);simp only[go_sem,simprocAttr,l,c]
   try refine⟨sL,?_⟩
   refine Dr.callF (av:=?av19) (g:=true) (o:=?o19) (fun hg=>KT p (N++[n]) _ P) (by simp only[go_sem,simprocAttr,l,c];exact Is.mk) (by simp only[go_sem,simprocAttr,l,c];exact Is.mk) (by simp only[go_sem,simprocAttr,l,c];exact Is.mk) (by simp only[go_sem,simprocAttr,l,c,lm,map_append,map_cons,map_nil];exact Is.mk) (by simp only[go_sem,simprocAttr,l,c]) (by simp only[go_sem,simprocAttr,l,c];exact Is.mk) ?cont19;simp only[go_sem,simprocAttr,l,c]
   first|refine E.weak _ _ _ _ ?_ C|refine⟨sL,E.weak _ _ _ _ ?_ C⟩
   simp only[go_sem,simprocAttr,l,c]
   try exact qa
 refine V _ _ (cN hm (fun hm=>?_) fun hm=>?_)
 .obtain⟨a8,hm⟩:=zh hm
  refine r6 ?_;refine M _ _ (r6 ?_);exact wN (D++[n]) I (J _ hm)
 .refine Wp.skip (M _ _ (r6 ?_))
  exact wN D I (J _ hm)
theorem RM(b:Int)(z:Bool)(hm:KF b=some z):Does prog 152 [.p (.i .u8 b)] [] (fun r X=>r=pB z/\X=[]):=by
 unfold KF at hm
 refine dW 0 9 [.tmp 2] func152 fun B=>nA fun hA=>?_
 refine qS ?_;exact wQ
theorem Q4(c:eA)(b:Int)(z:Bool)(hm:Kr c b=some z):Does prog 57 [pS c,pI b,.fn 152 []] [] (fun r X=>r=pB z/\X=[]):=by
 unfold Kr at hm
 refine dW 0 28 [.tmp 6] func57 fun B=>nA fun hA=>?_
 refine qS ?_
 refine df fun K2 o v=>?_
 obtain⟨C,g,hm⟩:=zj hm
 have k:∀s,C s=some z->K2 [(0,pS c),(1,pI b)] []:=by
  intro s hs;have hm:=g _ hs;clear hs
  try dsimp only at hm|-
  exact o _ _ (wQ)
 clear o g;refine qS ?_;refine Wp.block ?_;obtain⟨L,p,hm⟩:=zl hm
 refine fL 0 c.length fun t=>?_
 refine Wp.forL (fun i s=>[(0,pS c),(1,pI b),(2,.fn 152 []),(7,pI (i:Int))]) (fun i s=>[]) wF hm ?_;clear hm;intro i s I hm
 try dsimp only at hm|-
 refine df fun _ D _=>qS ?_
 refine Wp.cond rfl ⟨⟩ (fun j=>?_) fun j=>Wp.exit (v _ _ _ _ wF (k () (p _ (pw hm (uA j)))))
 have f:=rm j;have E:=pz f t;obtain⟨F,J,l,m,n,hm⟩:=py hm f;clear l;refine Wp.skip ?_;simp only[zy];refine D _ _ (df fun _ G _=>Wp.block ?_);obtain⟨M,u,hm⟩:=zd hm;have hA:=And.intro E m;refine sX (fun hg=>RM (F.toNat:Int) _ u) ?_
 refine cR hm fun hm=>?_
 refine Wp.skip (G _ _ (r6 ?_));exact wN () f (n _ hm)
theorem PN(b:eA)(z:Bool)(hm:Fo b=some z):Does prog 110 [pS b] [] (fun r X=>r=pB z/\X=[]):=by
 unfold Fo at hm
 refine dW 0 9 [.tmp 2] func110 fun B=>nA fun hA=>?_
 refine qS ?_;obtain⟨f,c,hm⟩:=zx hm;refine sX (g:=!(decide (b=[]))) (fun hg=>Q4 b 1000 _ (c hg)) ?_;exact wR
theorem Sd(b:aa)(z:Int)(hm:KV b=some z):Does prog 73 [.agg [pS b.e,pS b.Value],.fn 17 []] [] (fun r X=>r=pI z/\X=[]):=by
 unfold KV at hm
 refine dW 0 14 [.tmp 4] func73 fun B=>nA fun hA=>?_
 refine qS ?_
 refine df fun _ g _=>?_
 obtain⟨j,c,hm⟩:=zd hm;refine sX (fun hg=>CU b.e _ c) ?_
 refine cR hm fun hm=>?_
 refine Wp.skip (g _ _ (df fun _ i _=>?_));obtain⟨k,f,hm⟩:=zd hm;refine sX (fun hg=>PN b.Value _ f) ?_
 refine cR hm fun hm=>?_
 exact Wp.skip (i _ _ (wQ))
theorem Ra(b:aa)(z:Int)(hm:Hq b=some z):Does prog 72 [.agg [pS b.e,pS b.Value]] [] (fun r X=>r=pI z/\X=[]):=by
 unfold Hq at hm
 refine dW 0 5 [.tmp 2] func72 fun B=>nA fun hA=>?_
 refine qS ?_;obtain⟨f,c,hm⟩:=zd hm;refine sX (fun hg=>Sd b _ c) ?_;exact wR
theorem FK(b:aa)(z:eA)(hm:sx b=some z):Does prog 74 [.agg [pS b.e,pS b.Value]] [] (fun r X=>r=pS z/\X=[]):=by
 unfold sx at hm
 refine dW 0 5 [.tmp 2] func74 fun B=>nA fun hA=>?_
 refine qS ?_;exact wQ
theorem SD(b:List aa)(z:Int)(hm:H9 b=some z):Does prog 71 [lm za b,.fn 72 [],.fn 74 []] [] (fun r X=>r=pI z/\X=[]):=by
 unfold H9 at hm
 refine dW 0 39 [.tmp 6] func71 fun B=>nA fun hA=>?_
 refine qS ?_
 refine df fun K2 p G=>?_
 obtain⟨I,j,hm⟩:=zj hm
 have k:∀s,I s=some z->K2 [] []:=by
  intro s hs;have hm:=j _ hs;clear hs
  try dsimp only at hm|-
  exact p _ _ (wQ)
 clear p j;refine qS ?_;refine Wp.block ?_;obtain⟨R,u,hm⟩:=zl hm
 refine fL 0 b.length fun m=>?_
 refine Wp.forL (fun c s=>[(0,lm za b),(1,.fn 72 []),(2,.fn 74 []),(10,lm za b),(11,pI (b.length:Int)),(12,pI (c:Int))]) (fun c s=>[]) wF hm ?_;clear hm;intro c s N hm
 try dsimp only at hm|-
 refine qS ?_
 refine lB za hm m (fun h=>G _ _ _ _ wF (k () (u _ h))) fun v J t P n O o hm hA _ L=>?_
 refine q6 ?_
 refine df fun _ M _=>?_
 obtain⟨S,C,hm⟩:=zd hm;refine sX (fun hg=>Ra t _ C) ?_;refine q6 ?_
 refine cR hm fun hm=>?_
 refine Wp.skip (M _ _ ?_);obtain⟨T,D,hm⟩:=zx hm;obtain⟨Q,hm⟩:=zh hm;obtain⟨U,E,hm⟩:=zx hm;have f:=uP (l:=b) (e:=za) (d:=(aa.mk [] [])) (i:=(IntKind.i64.wrap ((c:Int)-1)).toNat);simp only[za,map_nil]at f;have hA:=And.intro J (And.intro n f)
 refine dS (pl [(0,none),(1,none),(2,none),(3,none),(4,none),(5,none),(6,none),(7,none),(8,none),(9,none),(10,none),(11,none),(12,none),(13,none),(14,none)]) fun _ F=>?_
 refine cD (g:=decide (0<(c:Int))) (fun hg=>FK t _ (D hg)) ?_;refine cD (g:=decide (0<(c:Int))) (fun hg=>FK (aa.mk ((b.getD ((IntKind.i64.wrap ((c:Int)-1)).toNat) (aa.mk [] [])).e) ((b.getD ((IntKind.i64.wrap ((c:Int)-1)).toNat) (aa.mk [] [])).Value)) _ (E hg)) (F _ _ ?_)
 refine cR hm fun hm=>?_
 refine Wp.skip (L _ _ (r6 ?_));exact wN () v (o _ hm)
theorem Rk(b:Int)(z:Bool)(hm:Ky b=some z):Does prog 154 [.p (.i .u8 b)] [] (fun r X=>r=pB z/\X=[]):=by
 unfold Ky at hm
 refine dW 0 29 [.tmp 2] func154 fun B=>nA fun hA=>?_
 refine qS ?_;obtain⟨j,c,hm⟩:=zd hm;obtain⟨l,f,hm⟩:=zx hm
 refine rS fun _ k=>?_
 refine cX (fun hg=>Nj b _ c) ?_;refine cX (g:=!(j||((decide (65<=b))&&(decide (b<=90))))) (fun hg=>PO b _ (f hg)) (k _ _ ?_);exact wR
theorem Q5(c:eA)(b:Int)(z:Bool)(hm:Ks c b=some z):Does prog 57 [pS c,pI b,.fn 154 []] [] (fun r X=>r=pB z/\X=[]):=by
 unfold Ks at hm
 refine dW 0 28 [.tmp 6] func57 fun B=>nA fun hA=>?_
 refine qS ?_
 refine df fun K2 o v=>?_
 obtain⟨C,g,hm⟩:=zj hm
 have k:∀s,C s=some z->K2 [(0,pS c),(1,pI b)] []:=by
  intro s hs;have hm:=g _ hs;clear hs
  try dsimp only at hm|-
  exact o _ _ (wQ)
 clear o g;refine qS ?_;refine Wp.block ?_;obtain⟨L,p,hm⟩:=zl hm
 refine fL 0 c.length fun t=>?_
 refine Wp.forL (fun i s=>[(0,pS c),(1,pI b),(2,.fn 154 []),(7,pI (i:Int))]) (fun i s=>[]) wF hm ?_;clear hm;intro i s I hm
 try dsimp only at hm|-
 refine df fun _ D _=>qS ?_
 refine Wp.cond rfl ⟨⟩ (fun j=>?_) fun j=>Wp.exit (v _ _ _ _ wF (k () (p _ (pw hm (uA j)))))
 have f:=rm j;have E:=pz f t;obtain⟨F,J,l,m,n,hm⟩:=py hm f;clear l;refine Wp.skip ?_;simp only[zy];refine D _ _ (df fun _ G _=>Wp.block ?_);obtain⟨M,u,hm⟩:=zd hm;have hA:=And.intro E m;refine sX (fun hg=>Rk (F.toNat:Int) _ u) ?_
 refine cR hm fun hm=>?_
 refine Wp.skip (G _ _ (r6 ?_));exact wN () f (n _ hm)
theorem QT(b:eA)(z:Bool)(hm:Hm b=some z):Does prog 112 [pS b] [] (fun r X=>r=pB z/\X=[]):=by
 unfold Hm at hm
 refine dW 0 15 [.tmp 2] func112 fun B=>nA fun hA=>?_
 refine qS ?_;refine qS ?_;obtain⟨f,c,hm⟩:=zd hm;refine sX (fun hg=>Q5 b 40 _ c) ?_;exact wR
theorem Nc(b:eA)(z:Bool)(hm:CI b=some z):Does prog 79 [pS b] [] (fun r X=>r=pB z/\X=[]):=by
 unfold CI at hm
 refine dW 0 19 [.tmp 2] func79 fun B=>nA fun hA=>?_
 refine qS ?_
 refine df fun K2 k t=>?_
 obtain⟨u,c,hm⟩:=zj hm
 have i:∀s,u s=some z->K2 [(0,pS b)] []:=by
  intro s hs;have hm:=c _ hs;clear hs
  try dsimp only at hm|-
  exact k _ _ (wQ)
 clear k c;obtain⟨f,l,hm⟩:=zd hm;refine sF (HY b ([47]:eA) _ l) ?_;refine Wp.block ?_;obtain⟨I,m,hm⟩:=zl hm
 refine fL 6 f.length fun n=>?_
 refine Wp.forL (fun g s=>[(0,pS b),(6,lm eD f),(7,pI (f.length:Int)),(8,pI (g:Int))]) (fun g s=>[]) wF hm ?_;clear hm;intro g s D hm
 try dsimp only at hm|-
 refine qS ?_
 refine lB eD hm n (fun h=>t _ _ _ _ wF (i () (m _ h))) fun o J v G E F j hm hA _ C=>?_
 refine q6 ?_;obtain⟨L,p,hm⟩:=zd hm;refine sX (fun hg=>QT v _ p) ?_
 refine cR hm fun hm=>?_
 refine Wp.skip (C _ _ (r6 ?_));exact wN () o (j _ hm)
theorem Nr(b:ab)(z:Int)(hm:BM b=some z):Does prog 75 [.agg [pS b.a,pS b.q,pB b.r]] [] (fun r X=>r=pI z/\X=[]):=by
 unfold BM at hm
 refine dW 0 11 [.tmp 2] func75 fun B=>nA fun hA=>?_
 refine qS ?_
 refine df fun _ f _=>?_
 obtain⟨i,c,hm⟩:=zd hm;refine sX (fun hg=>Nc b.a _ c) ?_
 refine cR hm fun hm=>?_
 refine Wp.skip (f _ _ (df fun _ g _=>qS ?_))
 refine cR hm fun hm=>?_
 exact Wp.skip (g _ _ (wQ))
theorem RP(b:eA)(c:List (eA×Bool))(z:Bool)(hm:HR b c=some z):Does prog 77 [pS b,.ptr 0 0] [.cells 70 [.mp 1],.mp false (zm Dt.s fl c)] (fun r X=>r=pB z/\X=[.cells 70 [.mp 1],.mp false (zm Dt.s fl c)]):=by
 unfold HR at hm
 refine dW 2 8 [.tmp 3] func77 fun B=>nA fun hA=>?_
 refine qS ?_;obtain⟨j,i,hm⟩:=zI hm;have f:=zw (e:=fl) zZ c b false;have g:=zu (e:=fl) zZ c b;simp only[i,fl,map_nil]at f g;have hA:=And.intro f g;exact wQ
end Go.Proofs.YtkojogldchfkkaaGreatDoor
