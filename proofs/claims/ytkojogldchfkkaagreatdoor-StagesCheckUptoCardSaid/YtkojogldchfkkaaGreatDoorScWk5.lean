/- That the code does what the models say (part 5). -/
import Derived.Test.YtkojogldchfkkaaGreatDoorScWk0
import Derived.Test.YtkojogldchfkkaaGreatDoorScWk1
import Derived.Test.YtkojogldchfkkaaGreatDoorScWk3
import Derived.Test.YtkojogldchfkkaaGreatDoorScWk4
set_option linter.unusedSimpArgs false
set_option linter.unusedVariables false
open Go.Proofs Go.Shelf
open List
namespace Go.Proofs.YtkojogldchfkkaaGreatDoor
open Tryz
open Go.Vc Go.Md
set_option maxRecDepth 100000
set_option maxHeartbeats 4000000
theorem Ho(c:ai)(f:List ae)(z:ai×Int)(hm:xQ c f=some z):Does prog 26 [.agg [lm za c.m,lm zc c.b,lm za c.i,lm zb c.h],lm zf f] [] (fun r X=>r=.tup [.agg [lm za z.1.m,lm zc z.1.b,lm za z.1.i,lm zb z.1.h],pI z.2]/\X=[]):=by
 unfold xQ at hm
 refine dW 0 35 [.cell 4 26,.tmp 5] func26 fun B=>nA fun hA=>?_
 refine qS ?_
 refine df fun _ Q _=>?_
 obtain⟨a1,J,hm⟩:=zd hm;refine sX (fun hg=>OE c _ J) ?_;refine qS ?_
 refine cN hm (fun hm=>?_) fun hm=>?_
 .refine qS ?_
  refine Wp.ret ?_;simp only[zy,zq];refine zL ?_;cases hm;exact eS
 .refine Wp.skip (Q _ _ ?_)
  obtain⟨g,L,hm⟩:=zd hm;refine sO [] (CT c _ L) ?_
  refine df fun R n M=>?_
  obtain⟨S,o,hm⟩:=zj hm
  have p:∀s,S s=some z->R [(4,.ptr 1 0),(7,.ptr 6 0)] [.cells 26 [.top,.top,.top,.top],.cells 26 [.nils,.nils,.nils,.nils],.cells 26 [.top,.top,.top,.top],.mp true (zm Dt.s zc s.1),.mp false (zm Dt.s eD s.2.1),.mp true (zm Dt.s zb s.2.2),.cells 67 [lm za g.2.2.2,.mp 3,.mp 4,.mp 5]]:=by
   intro s hs;have hm:=o _ hs;clear hs;obtain⟨C,D,E⟩:=s
   try dsimp only at hm|-
   refine n _ _ ?_;obtain⟨a2,N,hm⟩:=zd hm;refine sQ [6,3,4,5] (fun hg=>P9 g.2.2.2 C D E _ N) ?_;exact wR
  clear n o;refine qS ?_;refine Wp.block ?_;obtain⟨Z,F,hm⟩:=zl hm
  refine fL 19 f.length fun G=>?_
  refine Wp.forL (fun t s=>[(4,.ptr 1 0),(7,.ptr 6 0),(19,lm zf f),(20,pI (f.length:Int)),(21,pI (t:Int))]) (fun t s=>[.cells 26 [lm za c.m,lm zc c.b,lm za c.i,lm zb c.h],.cells 26 [.nils,.nils,.nils,.nils],.cells 26 [.top,.top,.top,.top],.mp true (zm Dt.s zc s.1),.mp false (zm Dt.s eD s.2.1),.mp true (zm Dt.s zb s.2.2),.cells 67 [lm za g.2.2.2,.mp 3,.mp 4,.mp 5]]) wF hm ?_;clear hm;intro t s U hm;obtain⟨j,k,l⟩:=s
  try dsimp only at hm|-
  refine qS ?_
  refine lB zf hm G (fun h=>M _ _ _ _ wF (p (j,k,l) (F _ h))) fun I a0 T V W Y u hm hA _ O=>?_
  refine q6 ?_;obtain⟨v,P,hm⟩:=zd hm;refine sO [6,3,4,5] (Rs T g.2.2.2 j k l _ P) ?_;refine q6 ?_
  refine cN hm (fun hm=>?_) fun hm=>?_
  .refine q6 ?_
   refine Wp.ret ?_;simp only[zy,zq];refine zL ?_;cases hm;simp only[go_sem,simprocAttr,hA]
   try exact qa
  .refine Wp.skip (O _ _ (r6 ?_))
   exact wN (v.2.1,v.2.2.1,v.2.2.2) I (u _ hm)
theorem uz(b:ae)(c:List aa)(z:List aa×List ab×List aa×List ah)(hm:Ph b c=some z):Does prog 25 [.agg [pI b.k,pS b.g.a,pS b.g.q,pB b.g.r,pS b.o.e,pS b.o.Value,pS b.f.j,pS b.f.a,pB b.f.u,pB b.f.t],.ptr 0 0] [.cells 26 [lm za c,.nils,.nils,.nils]] (fun r X=>r=.tup []/\X=[.cells 26 [lm za z.1,lm zc z.2.1,lm za z.2.2.1,lm zb z.2.2.2]]):=by
 unfold Ph at hm
 refine dW 1 15 [] func25 fun B=>nA fun hA=>?_
 refine qS ?_;obtain⟨l,i,hm⟩:=zd hm;refine sF (Ho (ai.mk c [] [] []) [b] _ i) ?_;refine qS ?_
 refine cN hm (fun hm=>?_) fun hm=>?_
 .refine qR ?_
  refine uy ?_;cases hm;exact eS
 .refine Wp.skip (lK ?_)
  cases hm;exact eS
theorem Nm(b:ae)(c:List aa)(i:List ab)(l:List aa)(m:List ah)(z:List aa×List ab×List aa×List ah)(hm:BD b c i l m=some z):Does prog 25 [.agg [pI b.k,pS b.g.a,pS b.g.q,pB b.g.r,pS b.o.e,pS b.o.Value,pS b.f.j,pS b.f.a,pB b.f.u,pB b.f.t],.ptr 0 0] [.cells 26 [lm za c,lm zc i,lm za l,lm zb m]] (fun r X=>r=.tup []/\X=[.cells 26 [lm za z.1,lm zc z.2.1,lm za z.2.2.1,lm zb z.2.2.2]]):=by
 unfold BD at hm
 refine dW 1 15 [] func25 fun B=>nA fun hA=>?_
 refine qS ?_;obtain⟨p,n,hm⟩:=zd hm;refine sF (Ho (ai.mk c i l m) [b] _ n) ?_;refine qS ?_
 refine cN hm (fun hm=>?_) fun hm=>?_
 .refine qR ?_
  refine uy ?_;cases hm;exact eS
 .refine Wp.skip (uy ?_)
  cases hm;exact eS
theorem qm(c:ai)(z:ai)(hm:Gl c=some z):Does prog 5 [.agg [lm za c.m,lm zc c.b,lm za c.i,lm zb c.h]] [] (fun r X=>r=.agg [lm za z.m,lm zc z.b,lm za z.i,lm zb z.h]/\X=[]):=by
 unfold Gl at hm
 refine dW 0 110 [.cell 2 26] func5 fun B=>nA fun hA=>?_
 refine qS ?_;refine qS ?_
 refine df fun K3 ay b0=>?_
 obtain⟨b1,S,hm⟩:=zj hm
 have a5:∀s,b1 s=some z->K3 [(1,.ptr 0 0),(2,.ptr 1 0),(3,.ptr 2 0)] [.cells 26 [lm za c.m,lm zc c.b,lm za c.i,lm zb c.h],.cells 26 [.nils,.nils,.nils,.nils],.cells 26 [.buf 3,.nils,.nils,.nils],.buf 46 2 (List.map za s)]:=by
  intro a6 hs;have hm:=S _ hs;clear hs
  try dsimp only at hm|-
  refine ay _ _ (dr 3 (by simp only[go_sem,simprocAttr];exact Is.mk) (by simp only[go_sem,simprocAttr]) ?_);simp only[go_sem,simprocAttr];obtain⟨aA,a7,hm⟩:=zd hm;refine sO [3] (S5 a6 _ a7) ?_;refine dv 3 (by simp only[go_sem,simprocAttr];exact Is.mk) (by simp only[go_sem,simprocAttr]) ?_;simp only[go_sem,simprocAttr];refine dr 3 (by simp only[go_sem,simprocAttr];exact Is.mk) (by simp only[go_sem,simprocAttr]) ?_;simp only[go_sem,simprocAttr];obtain⟨bn,a8,hm⟩:=zd hm;refine sO [3] (SY aA _ a8) ?_;refine dv 3 (by simp only[go_sem,simprocAttr];exact Is.mk) (by simp only[go_sem,simprocAttr]) ?_;simp only[go_sem,simprocAttr];refine qS ?_
  refine df fun K9 az b2=>?_
  obtain⟨b3,T,hm⟩:=zj hm
  have a9:∀s,b3 s=some z->K9 [(1,.ptr 0 0),(2,.ptr 1 0),(3,.ptr 2 0),(6,.fn 25 [.ptr 2 0])] [.cells 26 [lm za c.m,lm zc c.b,lm za c.i,lm zb c.h],.cells 26 [.nils,.nils,.nils,.nils],.cells 26 [lm za s.1,lm zc s.2.1,lm za s.2.2.1,lm zb s.2.2.2]]:=by
   intro s hs;have hm:=T _ hs;clear hs;obtain⟨aO,aP,aQ,aR⟩:=s
   try dsimp only at hm|-
   refine az _ _ (df fun b4 U aB=>?_);obtain⟨b5,V,hm⟩:=zj hm
   have W:∀s,b5 s=some z->b4 [(1,.ptr 0 0),(2,.ptr 1 0),(3,.ptr 2 0),(6,.fn 25 [.ptr 2 0])] [.cells 26 [lm za c.m,lm zc c.b,lm za c.i,lm zb c.h],.cells 26 [.nils,.nils,.nils,.nils],.cells 26 [lm za s.1,lm zc s.2.1,lm za s.2.2.1,lm zb s.2.2.2]]:=by
    intro s hs;have hm:=V _ hs;clear hs;obtain⟨aS,aT,aU,aV⟩:=s
    try dsimp only at hm|-
    refine U _ _ (df fun b6 Y aC=>?_);obtain⟨aD,M,hm⟩:=zj hm
    have Z:∀s,aD s=some z->b6 [(2,.ptr 1 0),(3,.ptr 2 0)] [.cells 26 [.top,.top,.top,.top],.cells 26 [.nils,.nils,.nils,.nils],.cells 26 [lm za s.1,lm zc s.2.1,lm za s.2.2.1,lm zb s.2.2.2]]:=by
     intro s hs;have hm:=M _ hs;clear hs;obtain⟨aW,aX,aY,aZ⟩:=s
     try dsimp only at hm|-
     exact Y _ _ (wQ)
    clear Y M;obtain⟨bo,hm⟩:=zh hm;refine q6 ?_;refine Wp.block ?_;obtain⟨bp,ac,hm⟩:=zl hm
    refine fL 98 ((List.take ((min (c.h.length:Int) 40).toNat) c.h).length) fun ad=>?_
    refine Wp.forL (fun G s=>[(2,.ptr 1 0),(3,.ptr 2 0),(6,.fn 25 [.ptr 2 0]),(98,lm zb (List.take ((min (c.h.length:Int) 40).toNat) c.h)),(99,pI ((List.take ((min (c.h.length:Int) 40).toNat) c.h).length:Int)),(100,pI (G:Int))]) (fun G s=>[.cells 26 [lm za c.m,lm zc c.b,lm za c.i,lm zb c.h],.cells 26 [.nils,.nils,.nils,.nils],.cells 26 [lm za s.1,lm zc s.2.1,lm za s.2.2.1,lm zb s.2.2.2]]) wF hm ?_;clear hm;intro G s b7 hm;obtain⟨f,j,k,l⟩:=s
    try dsimp only at hm|-
    refine qS ?_
    refine lB zb hm ad (fun h=>aC _ _ _ _ wF (Z (f,j,k,l) (ac _ h))) fun af bq aE bf b8 b9 a0 hm hA _ aF=>?_
    refine q6 ?_;obtain⟨N,aG,hm⟩:=zd hm;refine eO [2] (Nm (ae.mk 5 (ab.mk [] [] false) (aa.mk [] []) aE) f j k l _ aG) ?_;refine aF _ _ (r6 ?_);exact wN (N.1,N.2.1,N.2.2.1,N.2.2.2) af (a0 _ hm)
   clear U V;obtain⟨br,hm⟩:=zh hm;refine q6 ?_;refine Wp.block ?_;obtain⟨bs,ag,hm⟩:=zl hm
   refine fL 81 ((List.take ((min (c.i.length:Int) 40).toNat) c.i).length) fun an=>?_
   refine Wp.forL (fun I s=>[(1,.ptr 0 0),(2,.ptr 1 0),(3,.ptr 2 0),(6,.fn 25 [.ptr 2 0]),(81,lm za (List.take ((min (c.i.length:Int) 40).toNat) c.i)),(82,pI ((List.take ((min (c.i.length:Int) 40).toNat) c.i).length:Int)),(83,pI (I:Int))]) (fun I s=>[.cells 26 [lm za c.m,lm zc c.b,lm za c.i,lm zb c.h],.cells 26 [.nils,.nils,.nils,.nils],.cells 26 [lm za s.1,lm zc s.2.1,lm za s.2.2.1,lm zb s.2.2.2]]) wF hm ?_;clear hm;intro I s ba hm;obtain⟨n,o,p,t⟩:=s
   try dsimp only at hm|-
   refine qS ?_
   refine lB za hm an (fun h=>aB _ _ _ _ wF (W (n,o,p,t) (ag _ h))) fun ao bt aH bg bb bc a1 hm hA _ aI=>?_
   refine q6 ?_;obtain⟨O,aJ,hm⟩:=zd hm;refine eO [2] (Nm (ae.mk 3 (ab.mk [] [] false) aH (ah.mk [] [] false false)) n o p t _ aJ) ?_;refine aI _ _ (r6 ?_);exact wN (O.1,O.2.1,O.2.2.1,O.2.2.2) ao (a1 _ hm)
  clear az T;obtain⟨bu,hm⟩:=zh hm;refine q6 ?_;refine Wp.block (Wp.freeze 3 (by simp only[go_sem,simprocAttr];exact Is.mk) (by first|(simp only[go_sem,simprocAttr];done)|(simp only[go_sem,simprocAttr];omega)) ?_);simp only[go_sem,simprocAttr];obtain⟨bv,ap,hm⟩:=zl hm
  refine fL 56 ((List.take ((min (c.b.length:Int) 40).toNat) c.b).length) fun aq=>?_
  refine Wp.forL (fun J s=>[(1,.ptr 0 0),(2,.ptr 1 0),(3,.ptr 2 0),(6,.fn 25 [.ptr 2 0]),(56,lm zc (List.take ((min (c.b.length:Int) 40).toNat) c.b)),(57,pI ((List.take ((min (c.b.length:Int) 40).toNat) c.b).length:Int)),(58,pI (J:Int))]) (fun J s=>[.cells 26 [lm za c.m,lm zc c.b,lm za c.i,lm zb c.h],.cells 26 [.nils,.nils,.nils,.nils],.cells 26 [lm za s.1,lm zc s.2.1,lm za s.2.2.1,lm zb s.2.2.2],.gone]) wF hm ?_;clear hm;intro J s bd hm;obtain⟨u,v,C,D⟩:=s
  try dsimp only at hm|-
  refine qS ?_
  refine lB zc hm aq (fun h=>b2 _ _ _ _ wF (a9 (u,v,C,D) (ap _ h))) fun ar bw P bh bi bj a2 hm hA _ aK=>?_
  refine q6 ?_;obtain⟨bx,hm⟩:=zh hm;refine q6 ?_;obtain⟨Q,aL,hm⟩:=zd hm;refine eO [2] (Nm (ae.mk 1 (ab.mk P.a (List.take ((min (P.q.length:Int) 3000).toNat) P.q) P.r) (aa.mk [] []) (ah.mk [] [] false false)) u v C D _ aL) ?_;refine aK _ _ (r6 ?_);exact wN (Q.1,Q.2.1,Q.2.2.1,Q.2.2.2) ar (a2 _ hm)
 clear ay S;refine qS ?_;refine Wp.block (dw 2 0 46 2 rfl rfl ?_);simp only[go_sem,simprocAttr];obtain⟨bz,au,hm⟩:=zl hm
 refine fL 15 c.m.length fun av=>?_
 refine Wp.forL (fun L s=>[(1,.ptr 0 0),(2,.ptr 1 0),(3,.ptr 2 0),(15,lm za c.m),(16,pI (c.m.length:Int)),(17,pI (L:Int))]) (fun L s=>[.cells 26 [lm za c.m,lm zc c.b,lm za c.i,lm zb c.h],.cells 26 [.nils,.nils,.nils,.nils],.cells 26 [.buf 3,.nils,.nils,.nils],.buf 46 2 (List.map za s)]) wF hm ?_;clear hm;intro L E be hm
 try dsimp only at hm|-
 refine qS ?_
 refine lB za hm av (fun h=>b0 _ _ _ _ wF (a5 E (au _ h))) fun R bA a3 bk bl bm F hm hA _ a4=>?_
 refine q6 ?_;obtain⟨aM,aw,hm⟩:=zd hm;obtain⟨bB,ax,hm⟩:=zx hm
 refine rS fun _ aN=>?_
 refine cX (fun hg=>Fu a3.e _ aw) ?_;refine cX (g:=aM) (fun hg=>M3 a3.Value _ (ax hg)) (aN _ _ ?_)
 refine cN hm (fun hm=>?_) fun hm=>?_
 .obtain⟨bC,hm⟩:=zh hm
  refine r6 ?_;refine a4 _ _ (r6 ?_);exact wN (E++[a3]) R (F _ hm)
 .refine Wp.skip (a4 _ _ (r6 ?_))
  exact wN E R (F _ hm)
theorem Qx(b:List ae)(z:List ae)(hm:zW b=some z):Does prog 27 [lm zf b] [] (fun r X=>r=.buf 0/\X=[.buf 50 10 (List.map zf z)]):=by
 unfold zW at hm
 refine dW 1 8 [.tmp 2] func27 fun B=>nA fun hA=>?_
 refine qS ?_
 refine df fun _ f _=>dh fun K3 g=>?_
 simp only[go_sem,simprocAttr]
 try refine⟨sd,?_⟩
 refine dz (rows:=?rows4) (e:=?e4) (esz:=?esz4) (eb:=?eb4) (ez:=?ez4) Is.mk Is.mk sg sg si si ?cont4;intro i c;replace hm:=Fg hm i (fun h=>map_eq_nil_iff.1 (c h))
 try dsimp only at hm
 simp only[go_sem,simprocAttr];refine kA g ?_
 refine cN hm (fun hm=>?_) fun hm=>?_
 .refine qS ?_
  refine di 2 50 10 rfl ?_;simp only[go_sem,simprocAttr];exact wR
 .refine Wp.skip (f _ _ ?_)
  obtain⟨j,hm⟩:=zh hm;exact wQ
theorem Na(b:eA)(z:Bool)(hm:Bh b=some z):Does prog 30 [pS b] [] (fun r X=>r=pB z/\X=[]):=by
 unfold Bh at hm
 refine dW 0 5 [.tmp 2] func30 fun B=>nA fun hA=>?_
 refine qS ?_;obtain⟨f,c,hm⟩:=zd hm;refine sX (fun hg=>MA b ([115,116,97,103,101]:eA) _ c) ?_;exact wR
theorem My(o:ai)(z:ai)(hm:Cv o=some z):Does prog 12 [.agg [lm za o.m,lm zc o.b,lm za o.i,lm zb o.h]] [] (fun r X=>r=.agg [lm za z.m,lm zc z.b,lm za z.i,lm zb z.h]/\X=[]):=by
 unfold Cv at hm
 refine dW 0 25 [.cell 2 26] func12 fun B=>nA fun hA=>?_
 refine qS ?_;obtain⟨p,a1,hm⟩:=zd hm;refine sO [] (CT o _ a1) ?_
 refine df fun K4 a0 a8=>?_
 obtain⟨a2,G,hm⟩:=zj hm
 have P:∀s,a2 s=some z->K4 [(2,.ptr 1 0),(3,.ptr 6 0)] [.cells 26 [.top,.top,.top,.top],.cells 26 [.nils,.nils,.nils,.nils],.cells 26 [.top,.top,.top,.top],.mp true (zm Dt.s zc s),.mp false (zm Dt.s eD p.2.1),.mp true (zm Dt.s zb p.2.2.1),.cells 67 [lm za p.2.2.2,.mp 3,.mp 4,.mp 5]]:=by
  intro Q hs;have hm:=G _ hs;clear hs
  try dsimp only at hm|-
  refine a0 _ _ ?_;obtain⟨af,R,hm⟩:=zd hm;refine sQ [6,3,4,5] (fun hg=>P9 p.2.2.2 Q p.2.1 p.2.2.1 _ R) ?_;exact wR
 clear a0 G
 refine dh fun K7 a9=>?_
 simp only[go_sem,simprocAttr]
 try refine⟨sd,?_⟩
 refine Rg.range (i:=3) (ag:=?ag8) (es:=?es8) (kt:=?kt8) (et:=?et8) Is.mk Is.mk sg sg si si si ?cont8;intro c D k I S;replace k:=Gi k;simp only[go_sem,simprocAttr];refine kA a9 ?_;refine Wp.block ?_;obtain⟨N,hm⟩:=zh hm;obtain⟨an,T,hm⟩:=GX hm;refine ei (bs:=c) (fun t n s=>[(2,.ptr 1 0),(3,.ptr 6 0),(11,.ptr 7 0)]) (fun t n s=>[.cells 26 [lm za o.m,lm zc o.b,lm za o.i,lm zb o.h],.cells 26 [.nils,.nils,.nils,.nils],.cells 26 [.top,.top,.top,.top],.mpb true (zm Dt.s zc s) (left c n c) D,.mp false (zm Dt.s eD p.2.1),.mp true (zm Dt.s zb p.2.2.1),.cells 67 [lm za p.2.2.2,.mp 3,.mp 4,.mp 5],.it 3 D t]) (fun s=>s) k ?_ rfl hm ?_
 .have U:=GN c c rfl
  have hA:=U;simp only[go_sem,simprocAttr,hA]
  try exact qa
 clear hm;intro t n u j f hm
 try dsimp only at hm f
 try dsimp only
 have J:(left c n c).Nodup:=(JT c c).nodup I
 have V:∀b∈(left c n c),b<D:=fun b hb=>S b (JS hb).1
 have W:u.length=(left c n c).length:=by rw[f];exact LS k
 refine dh fun K9 L=>?_
 simp only[go_sem,simprocAttr]
 try refine⟨by exact sd,?_⟩
 refine Rg.next (q:=7) (i:=3) (cl:=D) (bs:=(left c n c)) (seen:=t) (ag:=?ag9) (es:=?es9) Is.mk Is.mk sg sg si si si sg ?hb9 J V ?he9 ?hs9
 case hb9=>rw[CB];exact W
 case he9 =>
  intro hend;simp only[go_sem,simprocAttr]
  first|apply L|refine⟨by exact sd,L _ _ ?_⟩
  refine df fun ac O a3=>?_
  refine Wp.cond rfl ⟨⟩ (fun h=>?_) (fun h=>?_)
  .cases h
  refine dB 3 7 (by simp only[go_sem,simprocAttr];exact Is.mk) (by simp only[go_sem,simprocAttr];exact Is.mk) (by simp only[go_sem,simprocAttr]) ?_;simp only[go_sem,simprocAttr];refine Wp.exit ?_;have hm:=T _ (GK hm ((Bz (m:=c) k rfl).trans ((congrArg List.length (J7 j rfl)).symm.trans hend)))
  try dsimp only at hm
  refine a8 _ _ _ _ ?_ (P u hm);exact eS
 case hs9 =>
  intro ao ap E l;simp only[go_sem,simprocAttr]
  first|apply L|refine⟨by exact sd,L _ _ ?_⟩
  refine df fun ac O a3=>?_
  refine Wp.cond rfl ⟨⟩ (fun h=>?_) (fun h=>?_)
  rotate_left
  .cases h
  refine Wp.skip ?_;simp only[zy];refine O _ _ ?_;obtain⟨F,ad,C,v,hm⟩:=GY hm (l.up j k f).1;replace C:=(l.up j k f).2.2.symm.trans C;refine Wp.block ?_
  refine dh fun az a4=>?_
  simp only[go_sem,simprocAttr]
  try refine⟨sd,?_⟩
  refine Rg.entry (q:=7) (i:=3) (cl:=D) (bs:=(left c n c)) (seen:=t) (ag:=?ag12) (es:=?es12) (d:=?d12) (row:=?row12) Is.mk Is.mk sg sg si si si J l.hp ?he12 ?cont12
  case he12=>exact GI C
  simp only[go_sem,simprocAttr];refine kA a4 ?_;obtain⟨ar,Y,hm⟩:=zd hm
  refine dh fun aA a5=>?_
  simp only[go_sem,simprocAttr]
  try refine⟨sd,?_⟩
  refine dA (av:=?av14) (g:=true) (fun hg=>Na F.1 _ Y) si si si sg si ?cont14;intro au;simp only[go_sem,simprocAttr];refine kA a5 ?_;refine cM hm (fun a6 hm=>?_) (fun a6 hm=>?_)
  .have Z:=Bg (e:=zc) zZ u F.1
   have M:=wV (kd:=Dt.s) (e:=zc) zZ N I k f l.hp C
   refine Wp.region fun aB a7=>?_
   simp only[go_sem,simprocAttr,Z,M.2];refine kA a7 ?_;simp only[zy,zq,↓reduceIte];refine⟨_,n++[E],gg u F.1,j.both E,M.1,(Kg l j k f (v _ hm)).1,(Kg l j k f (v _ hm)).2,?_⟩;exact eS
  .refine Wp.skip ?_
   simp only[zy,zq,↓reduceIte];refine⟨_,n,u,j.more E,f,(Kg l j k f (v _ hm)).1,(Kg l j k f (v _ hm)).2,?_⟩;exact eS
theorem OG(b:ae)(z:eA)(hm:Bb b=some z):Does prog 31 [.agg [pI b.k,pS b.g.a,pS b.g.q,pB b.g.r,pS b.o.e,pS b.o.Value,pS b.f.j,pS b.f.a,pB b.f.u,pB b.f.t]] [] (fun r X=>r=pS z/\X=[]):=by
 unfold Bb at hm
 refine dW 0 23 [.tmp 2] func31 fun B=>nA fun hA=>?_
 refine qS ?_
 refine df fun _ D _=>qS ?_
 refine Wp.block (df fun K4 n p=>?_);obtain⟨E,l,hm⟩:=zj hm
 have c:∀s,E s=some z->K4 [(1,.ptr 0 0),(4,pI b.k),(5,pB s)] [.cells 50 [pI b.k,pS b.g.a,pS b.g.q,pB b.g.r,pS b.o.e,pS b.o.Value,pS b.f.j,pS b.f.a,pB b.f.u,pB b.f.t]]:=by
  intro I hs;have hm:=l _ hs;clear hs
  try dsimp only at hm|-
  refine n _ _ (cN hm (fun hm=>?_) fun hm=>?_)
  .obtain⟨J,hm⟩:=zh hm
   exact wQ
  .refine df fun K7 v C=>?_
   obtain⟨F,m,hm⟩:=zj hm
   have i:∀s,F s=some z->K7 [(1,.ptr 0 0),(12,pB s)] [.cells 50 [pI b.k,pS b.g.a,pS b.g.q,pB b.g.r,pS b.o.e,pS b.o.Value,pS b.f.j,pS b.f.a,pB b.f.u,pB b.f.t]]:=by
    intro G hs;have hm:=m _ hs;clear hs
    try dsimp only at hm|-
    refine v _ _ (cN hm (fun hm=>?_) fun hm=>?_)
    .obtain⟨L,hm⟩:=zh hm
     exact wQ
    .refine Wp.skip (D _ _ ?_)
     obtain⟨M,hm⟩:=zh hm;exact wQ
   clear v m;refine qS ?_
   refine cN hm (fun hm=>?_) fun hm=>?_
   .refine Wp.skip (C _ _ _ _ ?_ (i (decide (b.k=3)) hm))
    exact eS
   .refine qR ?_
    refine C _ _ _ _ ?_ (i (decide (b.k=4)) hm);exact eS
 clear n l;refine qS ?_
 refine cN hm (fun hm=>?_) fun hm=>?_
 .refine Wp.skip (p _ _ _ _ ?_ (c (decide (b.k=1)) hm))
  exact eS
 .refine qR ?_
  refine p _ _ _ _ ?_ (c (decide (b.k=2)) hm);exact eS
end Go.Proofs.YtkojogldchfkkaaGreatDoor
