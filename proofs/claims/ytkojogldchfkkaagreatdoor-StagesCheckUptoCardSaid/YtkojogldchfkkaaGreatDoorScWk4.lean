/- That the code does what the models say (part 4). -/
import Derived.Test.YtkojogldchfkkaaGreatDoorScWk0
import Derived.Test.YtkojogldchfkkaaGreatDoorScWk3
set_option linter.unusedSimpArgs false
set_option linter.unusedVariables false
open Go.Proofs Go.Shelf
open List
namespace Go.Proofs.YtkojogldchfkkaaGreatDoor
open Tryz
open Go.Vc Go.Md
set_option maxRecDepth 100000
set_option maxHeartbeats 4000000
theorem Rs(b:ae)(p:List aa)(c:List (eA×ab))(l:List (eA×eA))(n:List (eA×ah))(z:Int×(List (eA×ab))×(List (eA×eA))×(List (eA×ah)))(hm:FH b p c l n=some z):Does prog 63 [.ptr 0 0,.agg [pI b.k,pS b.g.a,pS b.g.q,pB b.g.r,pS b.o.e,pS b.o.Value,pS b.f.j,pS b.f.a,pB b.f.u,pB b.f.t]] [.cells 67 [lm za p,.mp 1,.mp 2,.mp 3],.mp true (zm Dt.s zc c),.mp false (zm Dt.s eD l),.mp true (zm Dt.s zb n)] (fun r X=>r=pI z.1/\X=[.cells 67 [lm za p,.mp 1,.mp 2,.mp 3],.mp true (zm Dt.s zc z.2.1),.mp false (zm Dt.s eD z.2.2.1),.mp true (zm Dt.s zb z.2.2.2)]):=by
 unfold FH at hm
 refine dW 4 208 [.tmp 4] func63 fun B=>nA fun hA=>?_
 refine qS ?_
 refine df fun _ b3 _=>?_
 obtain⟨bb,ac,hm⟩:=zd hm;refine sX (fun hg=>P0 b _ ac) ?_;refine qS ?_
 refine cR hm fun hm=>?_
 refine Wp.skip (b3 _ _ (df fun K8 ax I=>?_));obtain⟨ay,R,hm⟩:=zj hm
 have D:∀s,ay s=some z->K8 [] [.cells 67 [lm za p,.mp 1,.mp 2,.mp 3],.mp true (zm Dt.s zc s.1),.mp false (zm Dt.s eD s.2.1),.mp true (zm Dt.s zb s.2.2)]:=by
  intro s hs;have hm:=R _ hs;clear hs;obtain⟨b6,b7,b8⟩:=s
  try dsimp only at hm|-
  exact ax _ _ (wQ)
 clear ax R;refine qS ?_;refine Wp.block (qS ?_)
 refine cN hm (fun hm=>?_) fun hm=>?_
 .refine df fun _ az _=>?_
  obtain⟨bc,aA,hm⟩:=zI hm;have S:=zw (e:=zc) zZ c b.g.a (ab.mk [] [] false);have T:=zu (e:=zc) zZ c b.g.a;simp only[aA,zc,map_nil]at S T;have hA:=And.intro S T
  refine dS (pl [(0,none),(1,none),(2,none),(3,none),(4,none),(5,none),(6,none),(7,none),(8,none),(9,none),(10,none),(11,some [0,1,2,3,4,5,6,7,8,9,10]),(12,some [10]),(13,none)]) fun _ aB=>aB _ _ ?_
  refine qS ?_
  refine cR hm fun hm=>?_
  refine Wp.skip (az _ _ ?_);have ad:=Bg (e:=zc) zZ c b.g.a;have hA:=ad
  refine dE (pl [(0,none),(1,none),(2,none),(3,none),(4,none),(5,none),(6,none),(7,some [])]) fun _ aC=>aC _ _ ?_
  refine I _ _ _ _ ?_ (D (gg c b.g.a,l,n) hm);exact eS
 .refine qS ?_
  refine cN hm (fun hm=>?_) fun hm=>?_
  .refine df fun _ aD _=>?_
   obtain⟨bd,aE,hm⟩:=zI hm;have U:=zw (e:=eD) zZ l b.o.e [];have V:=zu (e:=eD) zZ l b.o.e;simp only[aE,eD,map_nil]at U V;have hA:=And.intro U V
   refine dS (pl [(0,none),(1,none),(2,none),(3,none),(4,none),(5,none),(6,none),(7,none),(8,none),(9,none),(10,none),(11,none),(12,none)]) fun _ aF=>aF _ _ ?_
   refine qS ?_
   refine cR hm fun hm=>?_
   refine Wp.skip (aD _ _ ?_);have af:=Bg (e:=eD) zZ l b.o.e;have hA:=af
   refine dE (pl [(0,none),(1,none),(2,none),(3,none),(4,none),(5,none),(6,none),(7,some [])]) fun _ aG=>aG _ _ ?_
   refine I _ _ _ _ ?_ (D (c,gg l b.o.e,n) hm);exact eS
  .refine qS ?_
   refine cN hm (fun hm=>?_) fun hm=>?_
   .refine df fun _ aH _=>?_
    obtain⟨be,aI,hm⟩:=zI hm;have W:=zw (e:=zb) zZ n b.f.j (ah.mk [] [] false false);have Y:=zu (e:=zb) zZ n b.f.j;simp only[aI,zb,map_nil]at W Y;have hA:=And.intro W Y
    refine dS (pl [(0,none),(1,none),(2,none),(3,none),(4,none),(5,none),(6,none),(7,none),(8,none),(9,none),(10,none),(11,some [0,1,2,3,4,5,6,7,8,9,10]),(12,some [10]),(13,none)]) fun _ aJ=>aJ _ _ ?_
    refine qS ?_
    refine cR hm fun hm=>?_
    refine Wp.skip (aH _ _ ?_);have an:=Bg (e:=zb) zZ n b.f.j;have hA:=an
    refine dE (pl [(0,none),(1,none),(2,none),(3,none),(4,none),(5,none),(6,none),(7,some [])]) fun _ aK=>aK _ _ ?_
    refine I _ _ _ _ ?_ (D (c,l,gg n b.f.j) hm);exact eS
   .refine qS ?_
    refine cN hm (fun hm=>?_) fun hm=>?_
    .refine df fun b4 a6 aL=>?_
     obtain⟨aM,Z,hm⟩:=zj hm
     have a7:∀s,aM s=some z->b4 [(0,.ptr 0 0),(3,.ptr 4 0)] [.cells 67 [lm za p,.mp 1,.mp 2,.mp 3],.mp true (zm Dt.s zc c),.mp false (zm Dt.s eD l),.mp true (zm Dt.s zb n),.cells 50 [pI b.k,pS b.g.a,pS b.g.q,pB b.g.r,pS b.o.e,pS b.o.Value,pS b.f.j,pS b.f.a,pB b.f.u,pB b.f.t]]:=by
      intro s hs;have hm:=Z _ hs;clear hs
      try dsimp only at hm|-
      refine a6 _ _ (df fun _ aN _=>?_);obtain⟨bf,aO,hm⟩:=zI hm;have a0:=zw (e:=zc) zZ c b.g.a (ab.mk [] [] false);have a1:=zu (e:=zc) zZ c b.g.a;simp only[aO,zc,map_nil]at a0 a1;have hA:=And.intro a0 a1
      refine dS (pl [(0,none),(1,none),(2,none),(3,none),(4,none),(5,none),(6,none),(7,none),(8,none),(9,none),(10,none),(11,some [0,1,2,3,4,5,6,7,8,9,10]),(12,some [10]),(13,none)]) fun _ aP=>aP _ _ ?_
      refine qS ?_
      refine cR hm fun hm=>?_
      refine Wp.skip (aN _ _ ?_);obtain⟨bg,hm⟩:=zh hm;have a2:=mD (e:=zc) zZ c b.g.a b.g;simp only[zc,map_nil]at a2;have hA:=a2
      refine dE (pl [(0,none),(1,none),(2,none),(3,none),(4,none),(5,none),(6,none),(7,none),(8,none),(9,some [])]) fun _ aQ=>aQ _ _ ?_
      refine I _ _ _ _ ?_ (D (eG c b.g.a b.g,l,n) hm);exact eS
     clear a6 Z
     refine dh fun bw aR=>?_
     simp only[go_sem,simprocAttr]
     try refine⟨sd,?_⟩
     refine Rg.range (i:=1) (ag:=?ag45) (es:=?es45) (kt:=?kt45) (et:=?et45) Is.mk Is.mk sg sg si si si ?cont45;intro E G v a3 ao;replace v:=Gi v;simp only[go_sem,simprocAttr];refine kA aR ?_;refine Wp.block ?_;obtain⟨bh,ap,hm⟩:=GX hm;refine Wp.forM (bs:=E) (fun F s=>[(0,.ptr 0 0),(3,.ptr 4 0),(128,.ptr 5 0)]) (fun F s=>[.cells 67 [lm za p,.mp 1,.mp 2,.mp 3],.mpb true (zm Dt.s zc c) E G,.mp false (zm Dt.s eD l),.mp true (zm Dt.s zb n),.cells 50 [pI b.k,pS b.g.a,pS b.g.q,pB b.g.r,pS b.o.e,pS b.o.Value,pS b.f.j,pS b.f.a,pB b.f.u,pB b.f.t],.it 1 G F]) v ?_ hm ?_
     .exact eS
     clear hm;intro F s hm
     try dsimp only at hm|-
     refine dh fun bx J=>?_
     simp only[go_sem,simprocAttr]
     try refine⟨by exact sd,?_⟩
     refine Rg.next (q:=5) (i:=1) (cl:=G) (bs:=E) (seen:=F) (ag:=?ag46) (es:=?es46) Is.mk Is.mk sg sg si si si sg ?hb46 a3 ao ?he46 ?hs46
     case hb46=>rw[CB];exact v
     case he46 =>
      intro hend;simp only[go_sem,simprocAttr]
      first|apply J|refine⟨by exact sd,J _ _ ?_⟩
      refine df fun b5 a8 aS=>?_
      refine Wp.cond rfl ⟨⟩ (fun h=>?_) (fun h=>?_)
      .cases h
      refine dB 1 5 (by simp only[go_sem,simprocAttr];exact Is.mk) (by simp only[go_sem,simprocAttr];exact Is.mk) (by simp only[go_sem,simprocAttr]) ?_;simp only[go_sem,simprocAttr];refine Wp.exit ?_;have hm:=ap _ (GK hm ((Bz (m:=E) v rfl).trans hend))
      try dsimp only at hm
      refine aL _ _ _ _ ?_ (a7 () hm);exact eS
     case hs46 =>
      intro bl bm b9 C;simp only[go_sem,simprocAttr]
      first|apply J|refine⟨by exact sd,J _ _ ?_⟩
      refine df fun b5 a8 aS=>?_
      refine Wp.cond rfl ⟨⟩ (fun h=>?_) (fun h=>?_)
      rotate_left
      .cases h
      refine Wp.skip ?_;simp only[zy];refine a8 _ _ ?_;obtain⟨a9,ba,L,M,hm⟩:=GY hm (C.er _ v).1;replace L:=(C.er _ v).2.2.symm.trans L;refine Wp.block ?_
      refine dh fun bz aT=>?_
      simp only[go_sem,simprocAttr]
      try refine⟨sd,?_⟩
      refine Rg.entry (q:=5) (i:=1) (cl:=G) (bs:=E) (seen:=F) (ag:=?ag49) (es:=?es49) (d:=?d49) (row:=?row49) Is.mk Is.mk sg sg si si si a3 C.hp ?he49 ?cont49
      case he49=>exact GI L
      simp only[go_sem,simprocAttr];refine kA aT ?_;obtain⟨aU,aq,hm⟩:=zd hm;obtain⟨bo,ar,hm⟩:=zx hm
      refine dh fun bA aV=>?_
      simp only[go_sem,simprocAttr]
      try refine⟨sd,?_⟩
      refine dA (av:=?av51) (g:=true) (fun hg=>MA a9.1 b.g.a _ aq) si si si sg si ?cont51;intro bp;simp only[go_sem,simprocAttr]
      try refine⟨sd,?_⟩
      refine dA (av:=?av52) (g:=!aU) (fun hg=>MA b.g.a a9.1 _ (ar hg)) si si si sg si ?cont52;intro bq;simp only[go_sem,simprocAttr];refine kA aV ?_;refine cM hm (fun aW hm=>?_) (fun aW hm=>?_)
      .refine qS ?_
       refine dB 1 5 (by simp only[go_sem,simprocAttr];exact Is.mk) (by simp only[go_sem,simprocAttr];exact Is.mk) (by simp only[go_sem,simprocAttr]) ?_;simp only[go_sem,simprocAttr];refine Wp.ret ?_;refine ng ?_;cases hm;exact eS
      .refine Wp.skip ?_
       simp only[zy,zq,↓reduceIte];refine⟨_,(),(Bi C v (M _ hm)).1,(Bi C v (M _ hm)).2,?_⟩;exact eS
    .refine qS ?_
     refine cN hm (fun hm=>?_) fun hm=>?_
     .refine df fun _ aX _=>?_
      obtain⟨br,au,hm⟩:=zI hm;have N:=zw (e:=eD) zZ l b.o.e [];have O:=zu (e:=eD) zZ l b.o.e;simp only[au,eD,map_nil]at N O;have hA:=And.intro N O
      refine dS (pl [(0,none),(1,none),(2,none),(3,none),(4,none),(5,none),(6,none),(7,none),(8,none),(9,none),(10,none),(11,none),(12,none)]) fun _ aY=>aY _ _ ?_
      refine qS ?_
      refine cR hm fun hm=>?_
      refine Wp.skip (aX _ _ ?_);obtain⟨bt,hm⟩:=zh hm;have a4:=mD (e:=eD) zZ l b.o.e b.o.Value;simp only[eD,map_nil]at a4;have hA:=a4
      refine dE (pl [(0,none),(1,none),(2,none),(3,none),(4,none),(5,none),(6,none),(7,none),(8,none),(9,none),(10,some [])]) fun _ aZ=>aZ _ _ ?_
      refine I _ _ _ _ ?_ (D (c,eG l b.o.e b.o.Value,n) hm);exact eS
     .refine df fun _ b0 _=>?_
      obtain⟨bu,aw,hm⟩:=zI hm;have P:=zw (e:=zb) zZ n b.f.j (ah.mk [] [] false false);have Q:=zu (e:=zb) zZ n b.f.j;simp only[aw,zb,map_nil]at P Q;have hA:=And.intro P Q
      refine dS (pl [(0,none),(1,none),(2,none),(3,none),(4,none),(5,none),(6,none),(7,none),(8,none),(9,none),(10,none),(11,some [0,1,2,3,4,5,6,7,8,9,10]),(12,some [10]),(13,none)]) fun _ b1=>b1 _ _ ?_
      refine qS ?_
      refine cR hm fun hm=>?_
      refine Wp.skip (b0 _ _ ?_);obtain⟨bv,hm⟩:=zh hm;have a5:=mD (e:=zb) zZ n b.f.j b.f;simp only[zb,map_nil]at a5;have hA:=a5
      refine dE (pl [(0,none),(1,none),(2,none),(3,none),(4,none),(5,none),(6,none),(7,none),(8,none),(9,some [])]) fun _ b2=>b2 _ _ ?_
      refine I _ _ _ _ ?_ (D (c,l,eG n b.f.j b.f) hm);exact eS
theorem NE(b:List aa)(z:List aa)(hm:zC b=some z):Does prog 89 [lm za b] [] (fun r X=>r=lm za z/\X=[]):=by
 unfold zC at hm
 refine dW 0 8 [.tmp 2] func89 fun B=>nA fun hA=>?_
 refine qS ?_
 refine df fun _ f _=>dh fun K3 g=>?_
 simp only[go_sem,simprocAttr]
 try refine⟨sd,?_⟩
 refine dz (rows:=?rows4) (e:=?e4) (esz:=?esz4) (eb:=?eb4) (ez:=?ez4) Is.mk Is.mk sg sg si si ?cont4;intro i c;replace hm:=Fg hm i (fun h=>map_eq_nil_iff.1 (c h))
 try dsimp only at hm
 simp only[go_sem,simprocAttr];refine kA g ?_
 refine cN hm (fun hm=>?_) fun hm=>?_
 .refine qS ?_
  refine Wp.ret ?_;simp only[zy,zq];refine zL ?_;cases hm;exact eS
 .refine Wp.skip (f _ _ ?_)
  obtain⟨j,hm⟩:=zh hm;exact wQ
theorem Nx(o0 z:List eA)(hm:KP o0=some z):Does prog 118 [.buf 0] [.fx 9 1 (List.map eD o0)] (fun r X=>r=.tup []/\X=[.fx 9 1 (List.map eD z)]):=by
 cases hm;exact Does.sortS Tryz.sortL ⟨_,func118,by kernel_rfl,by kernel_rfl⟩ 9 o0
theorem KY(f:List (eA×ab))(z:List eA)(hm:ya f=some z):Does prog 90 [.mp 0] [.mp true (zm Dt.s zc f)] (fun r X=>r=lm eD z/\X=[.mp true (zm Dt.s zc f)]):=by
 unfold ya at hm
 refine dW 1 18 [.tmp 2] func90 fun B=>nA fun hA=>?_
 refine qS ?_;refine qS ?_
 refine df fun K3 I O=>?_
 obtain⟨P,u,hm⟩:=zj hm
 have C:∀s,P s=some z->K3 [(3,.buf 2)] [.mp true (zm Dt.s zc f),.gone,.buf 9 1 (List.map eD s)]:=by
  intro D hs;have hm:=u _ hs;clear hs
  try dsimp only at hm|-
  refine I _ _ (dr 2 (by simp only[go_sem,simprocAttr];exact Is.mk) (by simp only[go_sem,simprocAttr]) ?_);simp only[go_sem,simprocAttr];obtain⟨T,E,hm⟩:=zd hm;refine sO [2] (Nx D _ E) ?_;refine dv 2 (by simp only[go_sem,simprocAttr];exact Is.mk) (by simp only[go_sem,simprocAttr]) ?_;simp only[go_sem,simprocAttr];exact wQ
 clear I u
 refine dh fun K7 Q=>?_
 simp only[go_sem,simprocAttr]
 try refine⟨sd,?_⟩
 refine Rg.range (i:=0) (ag:=?ag8) (es:=?es8) (kt:=?kt8) (et:=?et8) Is.mk Is.mk sg sg si si si ?cont8;intro g k b n F;replace b:=Gi b;simp only[go_sem,simprocAttr];refine kA Q ?_;refine Wp.block (di 3 9 1 rfl ?_);simp only[go_sem,simprocAttr];obtain⟨U,G,hm⟩:=GX hm;refine Wp.forM (bs:=g) (fun j s=>[(3,.buf 2),(6,.ptr 1 0)]) (fun j s=>[.mpb true (zm Dt.s zc f) g k,.it 0 k j,.buf 9 1 (List.map eD s)]) b ?_ hm ?_
 .exact eS
 clear hm;intro j o hm
 try dsimp only at hm|-
 refine dh fun K9 p=>?_
 simp only[go_sem,simprocAttr]
 try refine⟨by exact sd,?_⟩
 refine Rg.next (q:=1) (i:=0) (cl:=k) (bs:=g) (seen:=j) (ag:=?ag9) (es:=?es9) Is.mk Is.mk sg sg si si si sg ?hb9 n F ?he9 ?hs9
 case hb9=>rw[CB];exact b
 case he9 =>
  intro hend;simp only[go_sem,simprocAttr]
  first|apply p|refine⟨by exact sd,p _ _ ?_⟩
  refine df fun R v J=>?_
  refine Wp.cond rfl ⟨⟩ (fun h=>?_) (fun h=>?_)
  .cases h
  refine dB 0 1 (by simp only[go_sem,simprocAttr];exact Is.mk) (by simp only[go_sem,simprocAttr];exact Is.mk) (by simp only[go_sem,simprocAttr]) ?_;simp only[go_sem,simprocAttr];refine Wp.exit ?_;have hm:=G _ (GK hm ((Bz (m:=g) b rfl).trans hend))
  try dsimp only at hm
  refine O _ _ _ _ ?_ (C o hm);exact eS
 case hs9 =>
  intro V W S c;simp only[go_sem,simprocAttr]
  first|apply p|refine⟨by exact sd,p _ _ ?_⟩
  refine df fun R v J=>?_
  refine Wp.cond rfl ⟨⟩ (fun h=>?_) (fun h=>?_)
  rotate_left
  .cases h
  refine Wp.skip ?_;simp only[zy];refine v _ _ ?_;obtain⟨L,Y,l,t,hm⟩:=GY hm (c.er _ b).1;replace l:=(c.er _ b).2.2.symm.trans l;refine Wp.block ?_
  refine dh fun a4 M=>?_
  simp only[go_sem,simprocAttr]
  try refine⟨sd,?_⟩
  refine Rg.entry (q:=1) (i:=0) (cl:=k) (bs:=g) (seen:=j) (ag:=?ag12) (es:=?es12) (d:=?d12) (row:=?row12) Is.mk Is.mk sg sg si si si n c.hp ?he12 ?cont12
  case he12=>exact GI l
  simp only[go_sem,simprocAttr];refine kA M ?_;obtain⟨a0,hm⟩:=zh hm
  refine Wp.region fun a5 N=>?_
  simp only[go_sem,simprocAttr];refine kA N ?_;simp only[zy,zq,↓reduceIte];refine⟨_,o++[L.1],(Bi c b (t _ hm)).1,(Bi c b (t _ hm)).2,?_⟩;exact eS
theorem Nt(f:List (eA×eA))(z:List eA)(hm:BI f=some z):Does prog 91 [.mp 0] [.mp false (zm Dt.s eD f)] (fun r X=>r=lm eD z/\X=[.mp false (zm Dt.s eD f)]):=by
 unfold BI at hm
 refine dW 1 18 [.tmp 2] func91 fun B=>nA fun hA=>?_
 refine qS ?_;refine qS ?_
 refine df fun K3 I O=>?_
 obtain⟨P,u,hm⟩:=zj hm
 have C:∀s,P s=some z->K3 [(3,.buf 2)] [.mp false (zm Dt.s eD f),.gone,.buf 9 1 (List.map eD s)]:=by
  intro D hs;have hm:=u _ hs;clear hs
  try dsimp only at hm|-
  refine I _ _ (dr 2 (by simp only[go_sem,simprocAttr];exact Is.mk) (by simp only[go_sem,simprocAttr]) ?_);simp only[go_sem,simprocAttr];obtain⟨T,E,hm⟩:=zd hm;refine sO [2] (Nx D _ E) ?_;refine dv 2 (by simp only[go_sem,simprocAttr];exact Is.mk) (by simp only[go_sem,simprocAttr]) ?_;simp only[go_sem,simprocAttr];exact wQ
 clear I u
 refine dh fun K7 Q=>?_
 simp only[go_sem,simprocAttr]
 try refine⟨sd,?_⟩
 refine Rg.range (i:=0) (ag:=?ag8) (es:=?es8) (kt:=?kt8) (et:=?et8) Is.mk Is.mk sg sg si si si ?cont8;intro g k b n F;replace b:=Gi b;simp only[go_sem,simprocAttr];refine kA Q ?_;refine Wp.block (di 3 9 1 rfl ?_);simp only[go_sem,simprocAttr];obtain⟨U,G,hm⟩:=GX hm;refine Wp.forM (bs:=g) (fun j s=>[(3,.buf 2),(6,.ptr 1 0)]) (fun j s=>[.mpb false (zm Dt.s eD f) g k,.it 0 k j,.buf 9 1 (List.map eD s)]) b ?_ hm ?_
 .exact eS
 clear hm;intro j o hm
 try dsimp only at hm|-
 refine dh fun K9 p=>?_
 simp only[go_sem,simprocAttr]
 try refine⟨by exact sd,?_⟩
 refine Rg.next (q:=1) (i:=0) (cl:=k) (bs:=g) (seen:=j) (ag:=?ag9) (es:=?es9) Is.mk Is.mk sg sg si si si sg ?hb9 n F ?he9 ?hs9
 case hb9=>rw[CB];exact b
 case he9 =>
  intro hend;simp only[go_sem,simprocAttr]
  first|apply p|refine⟨by exact sd,p _ _ ?_⟩
  refine df fun R v J=>?_
  refine Wp.cond rfl ⟨⟩ (fun h=>?_) (fun h=>?_)
  .cases h
  refine dB 0 1 (by simp only[go_sem,simprocAttr];exact Is.mk) (by simp only[go_sem,simprocAttr];exact Is.mk) (by simp only[go_sem,simprocAttr]) ?_;simp only[go_sem,simprocAttr];refine Wp.exit ?_;have hm:=G _ (GK hm ((Bz (m:=g) b rfl).trans hend))
  try dsimp only at hm
  refine O _ _ _ _ ?_ (C o hm);exact eS
 case hs9 =>
  intro V W S c;simp only[go_sem,simprocAttr]
  first|apply p|refine⟨by exact sd,p _ _ ?_⟩
  refine df fun R v J=>?_
  refine Wp.cond rfl ⟨⟩ (fun h=>?_) (fun h=>?_)
  rotate_left
  .cases h
  refine Wp.skip ?_;simp only[zy];refine v _ _ ?_;obtain⟨L,Y,l,t,hm⟩:=GY hm (c.er _ b).1;replace l:=(c.er _ b).2.2.symm.trans l;refine Wp.block ?_
  refine dh fun a4 M=>?_
  simp only[go_sem,simprocAttr]
  try refine⟨sd,?_⟩
  refine Rg.entry (q:=1) (i:=0) (cl:=k) (bs:=g) (seen:=j) (ag:=?ag12) (es:=?es12) (d:=?d12) (row:=?row12) Is.mk Is.mk sg sg si si si n c.hp ?he12 ?cont12
  case he12=>exact GI l
  simp only[go_sem,simprocAttr];refine kA M ?_;obtain⟨a0,hm⟩:=zh hm
  refine Wp.region fun a5 N=>?_
  simp only[go_sem,simprocAttr];refine kA N ?_;simp only[zy,zq,↓reduceIte];refine⟨_,o++[L.1],(Bi c b (t _ hm)).1,(Bi c b (t _ hm)).2,?_⟩;exact eS
theorem NB(f:List (eA×ah))(z:List eA)(hm:BO f=some z):Does prog 92 [.mp 0] [.mp true (zm Dt.s zb f)] (fun r X=>r=lm eD z/\X=[.mp true (zm Dt.s zb f)]):=by
 unfold BO at hm
 refine dW 1 18 [.tmp 2] func92 fun B=>nA fun hA=>?_
 refine qS ?_;refine qS ?_
 refine df fun K3 I O=>?_
 obtain⟨P,u,hm⟩:=zj hm
 have C:∀s,P s=some z->K3 [(3,.buf 2)] [.mp true (zm Dt.s zb f),.gone,.buf 9 1 (List.map eD s)]:=by
  intro D hs;have hm:=u _ hs;clear hs
  try dsimp only at hm|-
  refine I _ _ (dr 2 (by simp only[go_sem,simprocAttr];exact Is.mk) (by simp only[go_sem,simprocAttr]) ?_);simp only[go_sem,simprocAttr];obtain⟨T,E,hm⟩:=zd hm;refine sO [2] (Nx D _ E) ?_;refine dv 2 (by simp only[go_sem,simprocAttr];exact Is.mk) (by simp only[go_sem,simprocAttr]) ?_;simp only[go_sem,simprocAttr];exact wQ
 clear I u
 refine dh fun K7 Q=>?_
 simp only[go_sem,simprocAttr]
 try refine⟨sd,?_⟩
 refine Rg.range (i:=0) (ag:=?ag8) (es:=?es8) (kt:=?kt8) (et:=?et8) Is.mk Is.mk sg sg si si si ?cont8;intro g k b n F;replace b:=Gi b;simp only[go_sem,simprocAttr];refine kA Q ?_;refine Wp.block (di 3 9 1 rfl ?_);simp only[go_sem,simprocAttr];obtain⟨U,G,hm⟩:=GX hm;refine Wp.forM (bs:=g) (fun j s=>[(3,.buf 2),(6,.ptr 1 0)]) (fun j s=>[.mpb true (zm Dt.s zb f) g k,.it 0 k j,.buf 9 1 (List.map eD s)]) b ?_ hm ?_
 .exact eS
 clear hm;intro j o hm
 try dsimp only at hm|-
 refine dh fun K9 p=>?_
 simp only[go_sem,simprocAttr]
 try refine⟨by exact sd,?_⟩
 refine Rg.next (q:=1) (i:=0) (cl:=k) (bs:=g) (seen:=j) (ag:=?ag9) (es:=?es9) Is.mk Is.mk sg sg si si si sg ?hb9 n F ?he9 ?hs9
 case hb9=>rw[CB];exact b
 case he9 =>
  intro hend;simp only[go_sem,simprocAttr]
  first|apply p|refine⟨by exact sd,p _ _ ?_⟩
  refine df fun R v J=>?_
  refine Wp.cond rfl ⟨⟩ (fun h=>?_) (fun h=>?_)
  .cases h
  refine dB 0 1 (by simp only[go_sem,simprocAttr];exact Is.mk) (by simp only[go_sem,simprocAttr];exact Is.mk) (by simp only[go_sem,simprocAttr]) ?_;simp only[go_sem,simprocAttr];refine Wp.exit ?_;have hm:=G _ (GK hm ((Bz (m:=g) b rfl).trans hend))
  try dsimp only at hm
  refine O _ _ _ _ ?_ (C o hm);exact eS
 case hs9 =>
  intro V W S c;simp only[go_sem,simprocAttr]
  first|apply p|refine⟨by exact sd,p _ _ ?_⟩
  refine df fun R v J=>?_
  refine Wp.cond rfl ⟨⟩ (fun h=>?_) (fun h=>?_)
  rotate_left
  .cases h
  refine Wp.skip ?_;simp only[zy];refine v _ _ ?_;obtain⟨L,Y,l,t,hm⟩:=GY hm (c.er _ b).1;replace l:=(c.er _ b).2.2.symm.trans l;refine Wp.block ?_
  refine dh fun a4 M=>?_
  simp only[go_sem,simprocAttr]
  try refine⟨sd,?_⟩
  refine Rg.entry (q:=1) (i:=0) (cl:=k) (bs:=g) (seen:=j) (ag:=?ag12) (es:=?es12) (d:=?d12) (row:=?row12) Is.mk Is.mk sg sg si si si n c.hp ?he12 ?cont12
  case he12=>exact GI l
  simp only[go_sem,simprocAttr];refine kA M ?_;obtain⟨a0,hm⟩:=zh hm
  refine Wp.region fun a5 N=>?_
  simp only[go_sem,simprocAttr];refine kA N ?_;simp only[zy,zq,↓reduceIte];refine⟨_,o++[L.1],(Bi c b (t _ hm)).1,(Bi c b (t _ hm)).2,?_⟩;exact eS
theorem P9(c:List aa)(f:List (eA×ab))(g:List (eA×eA))(j:List (eA×ah))(z:ai)(hm:BQ c f g j=some z):Does prog 43 [.ptr 0 0] [.cells 67 [lm za c,.mp 1,.mp 2,.mp 3],.mp true (zm Dt.s zc f),.mp false (zm Dt.s eD g),.mp true (zm Dt.s zb j)] (fun r X=>r=.agg [lm za z.m,lm zc z.b,lm za z.i,lm zb z.h]/\X=[.cells 67 [lm za c,.mp 1,.mp 2,.mp 3],.mp true (zm Dt.s zc f),.mp false (zm Dt.s eD g),.mp true (zm Dt.s zb j)]):=by
 unfold BQ at hm
 refine dW 4 85 [.cell 2 26] func43 fun B=>nA fun hA=>?_
 refine qS ?_;obtain⟨l,au,hm⟩:=zd hm;refine sF (NE c _ au) ?_
 refine df fun K4 ap aN=>?_
 obtain⟨av,C,hm⟩:=zj hm
 have a0:∀s,av s=some z->K4 [(0,.ptr 0 0),(2,.ptr 4 0),(3,.ptr 5 0)] [.cells 67 [lm za c,.mp 1,.mp 2,.mp 3],.mp true (zm Dt.s zc f),.mp false (zm Dt.s eD g),.mp true (zm Dt.s zb j),.cells 26 [.nils,.nils,.nils,.nils],.cells 26 [lm za l,.buf 6,.nils,.nils],.buf 44 3 (List.map zc s)]:=by
  intro k hs;have hm:=C _ hs;clear hs
  try dsimp only at hm|-
  refine ap _ _ (df fun K5 aq aO=>?_);obtain⟨aw,D,hm⟩:=zj hm
  have a1:∀s,aw s=some z->K5 [(0,.ptr 0 0),(2,.ptr 4 0),(3,.ptr 5 0)] [.cells 67 [lm za c,.mp 1,.mp 2,.mp 3],.mp true (zm Dt.s zc f),.mp false (zm Dt.s eD g),.mp true (zm Dt.s zb j),.cells 26 [.nils,.nils,.nils,.nils],.cells 26 [lm za l,.buf 6,.buf 7,.nils],.buf 44 3 (List.map zc k),.buf 46 2 (List.map za s)]:=by
   intro E hs;have hm:=D _ hs;clear hs
   try dsimp only at hm|-
   refine aq _ _ (df fun K6 ar aP=>?_);obtain⟨ax,F,hm⟩:=zj hm
   have a2:∀s,ax s=some z->K6 [(2,.ptr 4 0),(3,.ptr 5 0)] [.cells 67 [lm za c,.mp 1,.mp 2,.mp 3],.mp true (zm Dt.s zc f),.mp false (zm Dt.s eD g),.mp true (zm Dt.s zb j),.cells 26 [.nils,.nils,.nils,.nils],.cells 26 [lm za l,.buf 6,.buf 7,.buf 8],.buf 44 3 (List.map zc k),.buf 46 2 (List.map za E),.buf 48 4 (List.map zb s)]:=by
    intro aV hs;have hm:=F _ hs;clear hs
    try dsimp only at hm|-
    exact ar _ _ (wQ)
   clear ar F;obtain⟨n,a3,hm⟩:=zd hm;refine sQ [3] (fun hg=>NB j _ a3) ?_;refine Wp.block (dw 5 3 48 4 rfl rfl ?_);simp only[go_sem,simprocAttr];obtain⟨b0,a4,hm⟩:=zl hm
   refine fL 66 n.length fun a5=>?_
   refine Wp.forL (fun o s=>[(0,.ptr 0 0),(2,.ptr 4 0),(3,.ptr 5 0),(66,lm eD n),(67,pI (n.length:Int)),(68,pI (o:Int))]) (fun o s=>[.cells 67 [lm za c,.mp 1,.mp 2,.mp 3],.mp true (zm Dt.s zc f),.mp false (zm Dt.s eD g),.mp true (zm Dt.s zb j),.cells 26 [.nils,.nils,.nils,.nils],.cells 26 [lm za l,.buf 6,.buf 7,.buf 8],.buf 44 3 (List.map zc k),.buf 46 2 (List.map za E),.buf 48 4 (List.map zb s)]) wF hm ?_;clear hm;intro o G aQ hm
   try dsimp only at hm|-
   refine qS ?_
   refine lB eD hm a5 (fun h=>aP _ _ _ _ wF (a2 G (a4 _ h))) fun a6 ay R aW S aR T hm hA _ az=>?_
   refine q6 ?_;obtain⟨aA,aB,hm⟩:=zI hm;have I:=zw (e:=zb) zZ j R (ah.mk [] [] false false);have J:=zu (e:=zb) zZ j R;simp only[aB,zb,map_nil]at I J;obtain⟨b1,hm⟩:=zh hm;have hA:=And.intro ay (And.intro S (And.intro I J))
   refine dE (pl [(0,none),(1,none),(2,none),(3,none),(4,none),(5,none),(6,none),(7,none),(8,some [0,1]),(9,some []),(10,none),(11,some [])]) fun _ aC=>aC _ _ ?_
   refine az _ _ (r6 ?_);exact wN (G++[(aA.getD (ah.mk [] [] false false))]) a6 (T _ hm)
  clear aq D;obtain⟨p,a7,hm⟩:=zd hm;refine sQ [2] (fun hg=>Nt g _ a7) ?_;refine Wp.block (dw 5 2 46 2 rfl rfl ?_);simp only[go_sem,simprocAttr];obtain⟨b2,a8,hm⟩:=zl hm
  refine fL 42 p.length fun a9=>?_
  refine Wp.forL (fun t s=>[(0,.ptr 0 0),(2,.ptr 4 0),(3,.ptr 5 0),(42,lm eD p),(43,pI (p.length:Int)),(44,pI (t:Int))]) (fun t s=>[.cells 67 [lm za c,.mp 1,.mp 2,.mp 3],.mp true (zm Dt.s zc f),.mp false (zm Dt.s eD g),.mp true (zm Dt.s zb j),.cells 26 [.nils,.nils,.nils,.nils],.cells 26 [lm za l,.buf 6,.buf 7,.nils],.buf 44 3 (List.map zc k),.buf 46 2 (List.map za s)]) wF hm ?_;clear hm;intro t L aS hm
  try dsimp only at hm|-
  refine qS ?_
  refine lB eD hm a9 (fun h=>aO _ _ _ _ wF (a1 L (a8 _ h))) fun ac aD U aX ad aY V hm hA _ aE=>?_
  refine q6 ?_;obtain⟨aF,aG,hm⟩:=zI hm;have M:=zw (e:=eD) zZ g U [];have N:=zu (e:=eD) zZ g U;simp only[aG,eD,map_nil]at M N;obtain⟨b3,hm⟩:=zh hm;have hA:=And.intro aD (And.intro ad (And.intro M N))
  refine dE (pl [(0,none),(1,none),(2,none),(3,none),(4,none),(5,none),(6,none),(7,none),(8,none),(9,none),(10,some [0,1]),(11,some []),(12,none),(13,some [])]) fun _ aH=>aH _ _ ?_
  refine aE _ _ (r6 ?_);exact wN (L++[(aa.mk U (aF.getD []))]) ac (V _ hm)
 clear ap C;obtain⟨u,af,hm⟩:=zd hm;refine sQ [1] (fun hg=>KY f _ af) ?_;refine Wp.block (dw 5 1 44 3 rfl rfl ?_);simp only[go_sem,simprocAttr];obtain⟨b4,ag,hm⟩:=zl hm
 refine fL 20 u.length fun an=>?_
 refine Wp.forL (fun v s=>[(0,.ptr 0 0),(2,.ptr 4 0),(3,.ptr 5 0),(20,lm eD u),(21,pI (u.length:Int)),(22,pI (v:Int))]) (fun v s=>[.cells 67 [lm za c,.mp 1,.mp 2,.mp 3],.mp true (zm Dt.s zc f),.mp false (zm Dt.s eD g),.mp true (zm Dt.s zb j),.cells 26 [.nils,.nils,.nils,.nils],.cells 26 [lm za l,.buf 6,.nils,.nils],.buf 44 3 (List.map zc s)]) wF hm ?_;clear hm;intro v O aT hm
 try dsimp only at hm|-
 refine qS ?_
 refine lB eD hm an (fun h=>aN _ _ _ _ wF (a0 O (ag _ h))) fun ao aI W aZ Y aU Z hm hA _ aJ=>?_
 refine q6 ?_;obtain⟨aK,aL,hm⟩:=zI hm;have P:=zw (e:=zc) zZ f W (ab.mk [] [] false);have Q:=zu (e:=zc) zZ f W;simp only[aL,zc,map_nil]at P Q;obtain⟨b5,hm⟩:=zh hm;have hA:=And.intro aI (And.intro Y (And.intro P Q))
 refine dE (pl [(0,none),(1,none),(2,none),(3,none),(4,none),(5,none),(6,none),(7,none),(8,some [0,1]),(9,some []),(10,none),(11,some [])]) fun _ aM=>aM _ _ ?_
 refine aJ _ _ (r6 ?_);exact wN (O++[(aK.getD (ab.mk [] [] false))]) ao (Z _ hm)
end Go.Proofs.YtkojogldchfkkaaGreatDoor
