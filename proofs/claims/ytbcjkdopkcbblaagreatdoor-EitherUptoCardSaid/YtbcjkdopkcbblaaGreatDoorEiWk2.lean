/- That the code does what the models say (part 2). -/
import Derived.Test.YtbcjkdopkcbblaaGreatDoorEiWk0
import Derived.Test.YtbcjkdopkcbblaaGreatDoorEiWk1
set_option linter.unusedSimpArgs false
set_option linter.unusedVariables false
open Go.Proofs Go.Shelf
open List
namespace Go.Proofs.YtbcjkdopkcbblaaGreatDoor
open Tryz
open Go.Vc Go.Md
set_option maxRecDepth 100000
set_option maxHeartbeats 4000000
theorem Tr(b:ae)(z:Int)(hm:IE b=some z):Does prog 94 [.agg [pI b.u,pS b.i.a,pS b.i.B,pB b.i.C,pS b.z.k,pS b.z.Value,pS b.q.w,pS b.q.a,pB b.q.D,pB b.q.E]] [] (fun r X=>r=pI z/\X=[]):=by
 unfold IE at hm
 refine dW 0 67 [.tmp 2] func94 fun B=>nA fun hA=>?_
 refine qS ?_;refine qS ?_;refine qS ?_
 refine ca fun K4 M f=>?_
 obtain⟨a2,F,hm⟩:=zj hm
 have c:∀s,a2 s=some z->K4 [(3,.ptr 1 0),(4,pI s.1)] [.cells 61 [.top,.top,.top,.top,.top,.top,.top,.top,.top,.top],.cells 61 [pI 0,pS s.2.1,pS s.2.2.1,pB s.2.2.2.1,pS s.2.2.2.2.1,pS s.2.2.2.2.2.1,pS s.2.2.2.2.2.2.1,pS s.2.2.2.2.2.2.2.1,pB s.2.2.2.2.2.2.2.2.1,pB s.2.2.2.2.2.2.2.2.2]]:=by
  intro s hs;have hm:=F _ hs;clear hs;obtain⟨N,g,j,l,m,n,o,p,t,v⟩:=s
  try dsimp only at hm|-
  refine M _ _ ?_;obtain⟨a3,O,hm⟩:=zd hm;obtain⟨ad,G,hm⟩:=zd hm
  refine rS fun _ a4=>?_
  refine cX (fun hg=>uZ (!(true&&((decide (g=[]))&&((decide (j=[]))&&((decide (l=false))&&((decide (m=[]))&&((decide (n=[]))&&((decide (o=[]))&&((decide (p=[]))&&((decide (t=false))&&(decide (v=false)))))))))))) 2 _ O) ?_;refine cX (fun hg=>DL [N,a3] _ G) (a4 _ _ ?_);exact wR
 clear M F;refine qS ?_;refine qS ?_;refine Wp.block (qS ?_)
 refine cN hm (fun hm=>?_) fun hm=>?_
 .obtain⟨a5,P,hm⟩:=zd hm
  refine eX (fun hg=>Rx b.i _ P) ?_;refine f _ _ _ _ ?_ (c (a5,[],[],false,b.z.k,b.z.Value,b.q.w,b.q.a,b.q.D,b.q.E) hm);exact dR
 .refine qS ?_
  refine cN hm (fun hm=>?_) fun hm=>?_
  .obtain⟨a6,Q,hm⟩:=zd hm
   obtain⟨a7,R,hm⟩:=zd hm
   refine rE fun _ S=>?_
   refine cX (fun hg=>Ij b.i.a _ Q) ?_;refine cX (fun hg=>uZ (!a6) 5 _ R) (S _ _ ?_);refine f _ _ _ _ ?_ (c (a7,[],b.i.B,b.i.C,b.z.k,b.z.Value,b.q.w,b.q.a,b.q.D,b.q.E) hm);exact dR
  .refine qS ?_
   refine cN hm (fun hm=>?_) fun hm=>?_
   .obtain⟨a8,T,hm⟩:=zd hm
    refine eX (fun hg=>RO b.z _ T) ?_;refine f _ _ _ _ ?_ (c (a8,b.i.a,b.i.B,b.i.C,[],[],b.q.w,b.q.a,b.q.D,b.q.E) hm);exact dR
   .refine qS ?_
    refine cN hm (fun hm=>?_) fun hm=>?_
    .obtain⟨a9,U,hm⟩:=zd hm
     obtain⟨ac,V,hm⟩:=zd hm
     refine rE fun _ W=>?_
     refine cX (fun hg=>Ij b.z.k _ U) ?_;refine cX (fun hg=>uZ (!a9) 5 _ V) (W _ _ ?_);refine f _ _ _ _ ?_ (c (ac,b.i.a,b.i.B,b.i.C,[],b.z.Value,b.q.w,b.q.a,b.q.D,b.q.E) hm);exact dR
    .refine qS ?_
     refine cN hm (fun hm=>?_) fun hm=>?_
     .obtain⟨Y,I,hm⟩:=zd hm
      refine eX (fun hg=>RN b.q _ I) ?_;refine f _ _ _ _ ?_ (c (Y,b.i.a,b.i.B,b.i.C,b.z.k,b.z.Value,[],[],false,false) hm);exact dR
     .refine qS ?_
      refine cT hm fun hm=>?_
      obtain⟨Z,J,hm⟩:=zd hm;obtain⟨a0,L,hm⟩:=zd hm
      refine rE fun _ a1=>?_
      refine cX (fun hg=>Ii b.q.w _ J) ?_;refine cX (fun hg=>uZ (!Z) 5 _ L) (a1 _ _ ?_);refine f _ _ _ _ ?_ (c (a0,b.i.a,b.i.B,b.i.C,b.z.k,b.z.Value,[],b.q.a,b.q.D,b.q.E) hm);exact dR
theorem Sd(c:dy)(b:dy)(z:Bool)(hm:G9 c b=some z):Does prog 122 [pS c,pS b] [] (fun r X=>r=pB z/\X=[]):=by
 unfold G9 at hm
 refine dW 0 18 [.tmp 4] func122 fun B=>nA fun hA=>?_
 refine qS ?_;obtain⟨f,hm⟩:=zh hm;exact wQ
theorem R0(c:dy)(b:dy)(z:Bool)(hm:I2 c b=some z):Does prog 83 [pS c,pS b] [] (fun r X=>r=pB z/\X=[]):=by
 unfold I2 at hm
 refine dW 0 8 [.tmp 4] func83 fun B=>nA fun hA=>?_
 refine qS ?_;obtain⟨g,f,hm⟩:=zd hm;refine sX (fun hg=>Sd c b _ f) ?_;exact wR
theorem Of(b:dy)(c:dy)(z:Bool)(hm:Ag b c=some z):Does prog 45 [pS b,pS c] [] (fun r X=>r=pB z/\X=[]):=by
 unfold Ag at hm
 refine dW 0 9 [.tmp 4] func45 fun B=>nA fun hA=>?_
 refine qS ?_;obtain⟨g,hm⟩:=zh hm;obtain⟨i,f,hm⟩:=zd hm;refine sX (fun hg=>R0 b (c++([47]:dy)) _ f) ?_;exact wR
theorem Ts(b:ae)(l:List aa)(c:List (dy×ab))(f:List (dy×dy))(j:List (dy×ai))(z:Int×(List (dy×ab))×(List (dy×dy))×(List (dy×ai)))(hm:Gz b l c f j=some z):Does prog 53 [.ptr 0 0,.agg [pI b.u,pS b.i.a,pS b.i.B,pB b.i.C,pS b.z.k,pS b.z.Value,pS b.q.w,pS b.q.a,pB b.q.D,pB b.q.E]] [.cells 47 [lm za l,.mp 1,.mp 2,.mp 3],.mp true (zl Dt.s zc c),.mp false (zl Dt.s dB f),.mp true (zl Dt.s zb j)] (fun r X=>r=pI z.1/\X=[.cells 47 [lm za l,.mp 1,.mp 2,.mp 3],.mp true (zl Dt.s zc z.2.1),.mp false (zl Dt.s dB z.2.2.1),.mp true (zl Dt.s zb z.2.2.2)]):=by
 unfold Gz at hm
 refine dW 4 208 [.tmp 4] func53 fun B=>nA fun hA=>?_
 refine qS ?_
 refine ca fun _ b3 _=>?_
 obtain⟨bb,a9,hm⟩:=zd hm;refine sX (fun hg=>Tr b _ a9) ?_;refine qS ?_
 refine cR hm fun hm=>?_
 refine Wp.skip (b3 _ _ (ca fun K8 ax G=>?_));obtain⟨ay,Q,hm⟩:=zj hm
 have p:∀s,ay s=some z->K8 [] [.cells 47 [lm za l,.mp 1,.mp 2,.mp 3],.mp true (zl Dt.s zc s.1),.mp false (zl Dt.s dB s.2.1),.mp true (zl Dt.s zb s.2.2)]:=by
  intro s hs;have hm:=Q _ hs;clear hs;obtain⟨b6,b7,b8⟩:=s
  try dsimp only at hm|-
  exact ax _ _ (wQ)
 clear ax Q;refine qS ?_;refine Wp.block (qS ?_)
 refine cN hm (fun hm=>?_) fun hm=>?_
 .refine ca fun _ az _=>?_
  obtain⟨bc,aA,hm⟩:=il hm;have R:=iC (e:=zc) dQ c b.i.a (ab.mk [] [] false);have S:=iD (e:=zc) dQ c b.i.a;simp only[aA,zc,map_nil]at R S;have hA:=And.intro R S
  refine dS (pl [(0,none),(1,none),(2,none),(3,none),(4,none),(5,none),(6,none),(7,none),(8,none),(9,none),(10,none),(11,some [0,1,2,3,4,5,6,7,8,9,10]),(12,some [10]),(13,none)]) fun _ aB=>aB _ _ ?_
  refine qS ?_
  refine cR hm fun hm=>?_
  refine Wp.skip (az _ _ ?_);have ac:=Cc (e:=zc) dQ c b.i.a;have hA:=ac
  refine dE (pl [(0,none),(1,none),(2,none),(3,none),(4,none),(5,none),(6,none),(7,some [])]) fun _ aC=>aC _ _ ?_
  refine G _ _ _ _ ?_ (p (fC c b.i.a,f,j) hm);exact dR
 .refine qS ?_
  refine cN hm (fun hm=>?_) fun hm=>?_
  .refine ca fun _ aD _=>?_
   obtain⟨bd,aE,hm⟩:=il hm;have T:=iC (e:=dB) dQ f b.z.k [];have U:=iD (e:=dB) dQ f b.z.k;simp only[aE,dB,map_nil]at T U;have hA:=And.intro T U
   refine dS (pl [(0,none),(1,none),(2,none),(3,none),(4,none),(5,none),(6,none),(7,none),(8,none),(9,none),(10,none),(11,none),(12,none)]) fun _ aF=>aF _ _ ?_
   refine qS ?_
   refine cR hm fun hm=>?_
   refine Wp.skip (aD _ _ ?_);have ad:=Cc (e:=dB) dQ f b.z.k;have hA:=ad
   refine dE (pl [(0,none),(1,none),(2,none),(3,none),(4,none),(5,none),(6,none),(7,some [])]) fun _ aG=>aG _ _ ?_
   refine G _ _ _ _ ?_ (p (c,fC f b.z.k,j) hm);exact dR
  .refine qS ?_
   refine cN hm (fun hm=>?_) fun hm=>?_
   .refine ca fun _ aH _=>?_
    obtain⟨be,aI,hm⟩:=il hm;have V:=iC (e:=zb) dQ j b.q.w (ai.mk [] [] false false);have W:=iD (e:=zb) dQ j b.q.w;simp only[aI,zb,map_nil]at V W;have hA:=And.intro V W
    refine dS (pl [(0,none),(1,none),(2,none),(3,none),(4,none),(5,none),(6,none),(7,none),(8,none),(9,none),(10,none),(11,some [0,1,2,3,4,5,6,7,8,9,10]),(12,some [10]),(13,none)]) fun _ aJ=>aJ _ _ ?_
    refine qS ?_
    refine cR hm fun hm=>?_
    refine Wp.skip (aH _ _ ?_);have af:=Cc (e:=zb) dQ j b.q.w;have hA:=af
    refine dE (pl [(0,none),(1,none),(2,none),(3,none),(4,none),(5,none),(6,none),(7,some [])]) fun _ aK=>aK _ _ ?_
    refine G _ _ _ _ ?_ (p (c,f,fC j b.q.w) hm);exact dR
   .refine qS ?_
    refine cN hm (fun hm=>?_) fun hm=>?_
    .refine ca fun b4 a5 aL=>?_
     obtain⟨aM,Y,hm⟩:=zj hm
     have a6:∀s,aM s=some z->b4 [(0,.ptr 0 0),(3,.ptr 4 0)] [.cells 47 [lm za l,.mp 1,.mp 2,.mp 3],.mp true (zl Dt.s zc c),.mp false (zl Dt.s dB f),.mp true (zl Dt.s zb j),.cells 61 [pI b.u,pS b.i.a,pS b.i.B,pB b.i.C,pS b.z.k,pS b.z.Value,pS b.q.w,pS b.q.a,pB b.q.D,pB b.q.E]]:=by
      intro s hs;have hm:=Y _ hs;clear hs
      try dsimp only at hm|-
      refine a5 _ _ (ca fun _ aN _=>?_);obtain⟨bf,aO,hm⟩:=il hm;have Z:=iC (e:=zc) dQ c b.i.a (ab.mk [] [] false);have a0:=iD (e:=zc) dQ c b.i.a;simp only[aO,zc,map_nil]at Z a0;have hA:=And.intro Z a0
      refine dS (pl [(0,none),(1,none),(2,none),(3,none),(4,none),(5,none),(6,none),(7,none),(8,none),(9,none),(10,none),(11,some [0,1,2,3,4,5,6,7,8,9,10]),(12,some [10]),(13,none)]) fun _ aP=>aP _ _ ?_
      refine qS ?_
      refine cR hm fun hm=>?_
      refine Wp.skip (aN _ _ ?_);obtain⟨bg,hm⟩:=zh hm;have a1:=mR (e:=zc) dQ c b.i.a b.i;simp only[zc,map_nil]at a1;have hA:=a1
      refine dE (pl [(0,none),(1,none),(2,none),(3,none),(4,none),(5,none),(6,none),(7,none),(8,none),(9,some [])]) fun _ aQ=>aQ _ _ ?_
      refine G _ _ _ _ ?_ (p (dF c b.i.a b.i,f,j) hm);exact dR
     clear a5 Y
     refine cb fun bw aR=>?_
     simp only[go_sem,simprocAttr]
     try refine⟨sd,?_⟩
     refine Rg.range (i:=1) (ag:=?ag45) (es:=?es45) (kt:=?kt45) (et:=?et45) Is.mk Is.mk sg sg si si si ?cont45;intro t F n a2 an;replace n:=He n;simp only[go_sem,simprocAttr];refine kA aR ?_;refine Wp.block ?_;obtain⟨bh,ap,hm⟩:=HU hm;refine Wp.forM (bs:=t) (fun v s=>[(0,.ptr 0 0),(3,.ptr 4 0),(128,.ptr 5 0)]) (fun v s=>[.cells 47 [lm za l,.mp 1,.mp 2,.mp 3],.mpb true (zl Dt.s zc c) t F,.mp false (zl Dt.s dB f),.mp true (zl Dt.s zb j),.cells 61 [pI b.u,pS b.i.a,pS b.i.B,pB b.i.C,pS b.z.k,pS b.z.Value,pS b.q.w,pS b.q.a,pB b.q.D,pB b.q.E],.it 1 F v]) n ?_ hm ?_
     .exact dR
     clear hm;intro v s hm
     try dsimp only at hm|-
     refine cb fun bx I=>?_
     simp only[go_sem,simprocAttr]
     try refine⟨by exact sd,?_⟩
     refine Rg.next (q:=5) (i:=1) (cl:=F) (bs:=t) (seen:=v) (ag:=?ag46) (es:=?es46) Is.mk Is.mk sg sg si si si sg ?hb46 a2 an ?he46 ?hs46
     case hb46=>rw[Dy];exact n
     case he46 =>
      intro hend;simp only[go_sem,simprocAttr]
      first|apply I|refine⟨by exact sd,I _ _ ?_⟩
      refine ca fun b5 a7 aS=>?_
      refine Wp.cond rfl ⟨⟩ (fun h=>?_) (fun h=>?_)
      .cases h
      refine cH 1 5 (by simp only[go_sem,simprocAttr];exact Is.mk) (by simp only[go_sem,simprocAttr];exact Is.mk) (by simp only[go_sem,simprocAttr]) ?_;simp only[go_sem,simprocAttr];refine Wp.exit ?_;have hm:=ap _ (HI hm ((Cr (m:=t) n rfl).trans hend))
      try dsimp only at hm
      refine aL _ _ _ _ ?_ (a6 () hm);exact dR
     case hs46 =>
      intro bl bm b9 o;simp only[go_sem,simprocAttr]
      first|apply I|refine⟨by exact sd,I _ _ ?_⟩
      refine ca fun b5 a7 aS=>?_
      refine Wp.cond rfl ⟨⟩ (fun h=>?_) (fun h=>?_)
      rotate_left
      .cases h
      refine Wp.skip ?_;simp only[zx];refine a7 _ _ ?_;obtain⟨a8,ba,J,L,hm⟩:=HV hm (o.er _ n).1;replace J:=(o.er _ n).2.2.symm.trans J;refine Wp.block ?_
      refine cb fun bz aT=>?_
      simp only[go_sem,simprocAttr]
      try refine⟨sd,?_⟩
      refine Rg.entry (q:=5) (i:=1) (cl:=F) (bs:=t) (seen:=v) (ag:=?ag49) (es:=?es49) (d:=?d49) (row:=?row49) Is.mk Is.mk sg sg si si si a2 o.hp ?he49 ?cont49
      case he49=>exact HG J
      simp only[go_sem,simprocAttr];refine kA aT ?_;obtain⟨aU,aq,hm⟩:=zd hm;obtain⟨bo,ar,hm⟩:=zX hm
      refine cb fun bA aV=>?_
      simp only[go_sem,simprocAttr]
      try refine⟨sd,?_⟩
      refine cG (av:=?av51) (g:=true) (fun hg=>Of a8.1 b.i.a _ aq) si si si sg si ?cont51;intro bp;simp only[go_sem,simprocAttr]
      try refine⟨sd,?_⟩
      refine cG (av:=?av52) (g:=!aU) (fun hg=>Of b.i.a a8.1 _ (ar hg)) si si si sg si ?cont52;intro bq;simp only[go_sem,simprocAttr];refine kA aV ?_;refine cM hm (fun aW hm=>?_) (fun aW hm=>?_)
      .refine qS ?_
       refine cH 1 5 (by simp only[go_sem,simprocAttr];exact Is.mk) (by simp only[go_sem,simprocAttr];exact Is.mk) (by simp only[go_sem,simprocAttr]) ?_;simp only[go_sem,simprocAttr];refine Wp.ret ?_;refine Lk ?_;cases hm;exact dR
      .refine Wp.skip ?_
       simp only[zx,zq,↓reduceIte];refine⟨_,(),(Ce o n (L _ hm)).1,(Ce o n (L _ hm)).2,?_⟩;exact dR
    .refine qS ?_
     refine cN hm (fun hm=>?_) fun hm=>?_
     .refine ca fun _ aX _=>?_
      obtain⟨br,au,hm⟩:=il hm;have M:=iC (e:=dB) dQ f b.z.k [];have N:=iD (e:=dB) dQ f b.z.k;simp only[au,dB,map_nil]at M N;have hA:=And.intro M N
      refine dS (pl [(0,none),(1,none),(2,none),(3,none),(4,none),(5,none),(6,none),(7,none),(8,none),(9,none),(10,none),(11,none),(12,none)]) fun _ aY=>aY _ _ ?_
      refine qS ?_
      refine cR hm fun hm=>?_
      refine Wp.skip (aX _ _ ?_);obtain⟨bt,hm⟩:=zh hm;have a3:=mR (e:=dB) dQ f b.z.k b.z.Value;simp only[dB,map_nil]at a3;have hA:=a3
      refine dE (pl [(0,none),(1,none),(2,none),(3,none),(4,none),(5,none),(6,none),(7,none),(8,none),(9,none),(10,some [])]) fun _ aZ=>aZ _ _ ?_
      refine G _ _ _ _ ?_ (p (c,dF f b.z.k b.z.Value,j) hm);exact dR
     .refine ca fun _ b0 _=>?_
      obtain⟨bu,aw,hm⟩:=il hm;have O:=iC (e:=zb) dQ j b.q.w (ai.mk [] [] false false);have P:=iD (e:=zb) dQ j b.q.w;simp only[aw,zb,map_nil]at O P;have hA:=And.intro O P
      refine dS (pl [(0,none),(1,none),(2,none),(3,none),(4,none),(5,none),(6,none),(7,none),(8,none),(9,none),(10,none),(11,some [0,1,2,3,4,5,6,7,8,9,10]),(12,some [10]),(13,none)]) fun _ b1=>b1 _ _ ?_
      refine qS ?_
      refine cR hm fun hm=>?_
      refine Wp.skip (b0 _ _ ?_);obtain⟨bv,hm⟩:=zh hm;have a4:=mR (e:=zb) dQ j b.q.w b.q;simp only[zb,map_nil]at a4;have hA:=a4
      refine dE (pl [(0,none),(1,none),(2,none),(3,none),(4,none),(5,none),(6,none),(7,none),(8,none),(9,some [])]) fun _ b2=>b2 _ _ ?_
      refine G _ _ _ _ ?_ (p (c,f,dF j b.q.w b.q) hm);exact dR
theorem Pl(b:List aa)(z:List aa)(hm:zy b=some z):Does prog 46 [lm za b] [] (fun r X=>r=lm za z/\X=[]):=by
 unfold zy at hm
 refine dW 0 8 [.tmp 2] func46 fun B=>nA fun hA=>?_
 refine qS ?_
 refine ca fun _ f _=>cb fun K3 g=>?_
 simp only[go_sem,simprocAttr]
 try refine⟨sd,?_⟩
 refine cC (rows:=?rows4) (e:=?e4) (esz:=?esz4) (eb:=?eb4) (ez:=?ez4) Is.mk Is.mk sg sg si si ?cont4;intro i c;replace hm:=Gj hm i (fun h=>map_eq_nil_iff.1 (c h))
 try dsimp only at hm
 simp only[go_sem,simprocAttr];refine kA g ?_
 refine cN hm (fun hm=>?_) fun hm=>?_
 .refine qS ?_
  refine Wp.ret ?_;simp only[zx,zq];refine zM ?_;cases hm;exact dR
 .refine Wp.skip (f _ _ ?_)
  obtain⟨j,hm⟩:=zh hm;exact wQ
theorem O5(o0 z:List dy)(hm:Me o0=some z):Does prog 84 [.buf 0] [.fx 9 1 (List.map dB o0)] (fun r X=>r=.tup []/\X=[.fx 9 1 (List.map dB z)]):=by
 cases hm;exact Does.sortS Tryz.sortL ⟨_,func84,by kernel_rfl,by kernel_rfl⟩ 9 o0
theorem T2(f:List (dy×ab))(z:List dy)(hm:Mm f=some z):Does prog 47 [.mp 0] [.mp true (zl Dt.s zc f)] (fun r X=>r=lm dB z/\X=[.mp true (zl Dt.s zc f)]):=by
 unfold Mm at hm
 refine dW 1 18 [.tmp 2] func47 fun B=>nA fun hA=>?_
 refine qS ?_;refine qS ?_
 refine ca fun K3 G N=>?_
 obtain⟨O,u,hm⟩:=zj hm
 have w:∀s,O s=some z->K3 [(3,.buf 2)] [.mp true (zl Dt.s zc f),.gone,.buf 9 1 (List.map dB s)]:=by
  intro C hs;have hm:=u _ hs;clear hs
  try dsimp only at hm|-
  refine G _ _ (ct 2 (by simp only[go_sem,simprocAttr];exact Is.mk) (by simp only[go_sem,simprocAttr]) ?_);simp only[go_sem,simprocAttr];obtain⟨S,D,hm⟩:=zd hm;refine sO [2] (O5 C _ D) ?_;refine cu 2 (by simp only[go_sem,simprocAttr];exact Is.mk) (by simp only[go_sem,simprocAttr]) ?_;simp only[go_sem,simprocAttr];exact wQ
 clear G u
 refine cb fun K7 P=>?_
 simp only[go_sem,simprocAttr]
 try refine⟨sd,?_⟩
 refine Rg.range (i:=0) (ag:=?ag8) (es:=?es8) (kt:=?kt8) (et:=?et8) Is.mk Is.mk sg sg si si si ?cont8;intro g k b n E;replace b:=He b;simp only[go_sem,simprocAttr];refine kA P ?_;refine Wp.block (cd 3 9 1 rfl ?_);simp only[go_sem,simprocAttr];obtain⟨T,F,hm⟩:=HU hm;refine Wp.forM (bs:=g) (fun j s=>[(3,.buf 2),(6,.ptr 1 0)]) (fun j s=>[.mpb true (zl Dt.s zc f) g k,.it 0 k j,.buf 9 1 (List.map dB s)]) b ?_ hm ?_
 .exact dR
 clear hm;intro j o hm
 try dsimp only at hm|-
 refine cb fun K9 p=>?_
 simp only[go_sem,simprocAttr]
 try refine⟨by exact sd,?_⟩
 refine Rg.next (q:=1) (i:=0) (cl:=k) (bs:=g) (seen:=j) (ag:=?ag9) (es:=?es9) Is.mk Is.mk sg sg si si si sg ?hb9 n E ?he9 ?hs9
 case hb9=>rw[Dy];exact b
 case he9 =>
  intro hend;simp only[go_sem,simprocAttr]
  first|apply p|refine⟨by exact sd,p _ _ ?_⟩
  refine ca fun Q v I=>?_
  refine Wp.cond rfl ⟨⟩ (fun h=>?_) (fun h=>?_)
  .cases h
  refine cH 0 1 (by simp only[go_sem,simprocAttr];exact Is.mk) (by simp only[go_sem,simprocAttr];exact Is.mk) (by simp only[go_sem,simprocAttr]) ?_;simp only[go_sem,simprocAttr];refine Wp.exit ?_;have hm:=F _ (HI hm ((Cr (m:=g) b rfl).trans hend))
  try dsimp only at hm
  refine N _ _ _ _ ?_ (w o hm);exact dR
 case hs9 =>
  intro U V R c;simp only[go_sem,simprocAttr]
  first|apply p|refine⟨by exact sd,p _ _ ?_⟩
  refine ca fun Q v I=>?_
  refine Wp.cond rfl ⟨⟩ (fun h=>?_) (fun h=>?_)
  rotate_left
  .cases h
  refine Wp.skip ?_;simp only[zx];refine v _ _ ?_;obtain⟨J,W,l,t,hm⟩:=HV hm (c.er _ b).1;replace l:=(c.er _ b).2.2.symm.trans l;refine Wp.block ?_
  refine cb fun a3 L=>?_
  simp only[go_sem,simprocAttr]
  try refine⟨sd,?_⟩
  refine Rg.entry (q:=1) (i:=0) (cl:=k) (bs:=g) (seen:=j) (ag:=?ag12) (es:=?es12) (d:=?d12) (row:=?row12) Is.mk Is.mk sg sg si si si n c.hp ?he12 ?cont12
  case he12=>exact HG l
  simp only[go_sem,simprocAttr];refine kA L ?_;obtain⟨Z,hm⟩:=zh hm
  refine Wp.region fun a4 M=>?_
  simp only[go_sem,simprocAttr];refine kA M ?_;simp only[zx,zq,↓reduceIte];refine⟨_,o++[J.1],(Ce c b (t _ hm)).1,(Ce c b (t _ hm)).2,?_⟩;exact dR
theorem TB(f:List (dy×dy))(z:List dy)(hm:Mk f=some z):Does prog 48 [.mp 0] [.mp false (zl Dt.s dB f)] (fun r X=>r=lm dB z/\X=[.mp false (zl Dt.s dB f)]):=by
 unfold Mk at hm
 refine dW 1 18 [.tmp 2] func48 fun B=>nA fun hA=>?_
 refine qS ?_;refine qS ?_
 refine ca fun K3 G N=>?_
 obtain⟨O,u,hm⟩:=zj hm
 have w:∀s,O s=some z->K3 [(3,.buf 2)] [.mp false (zl Dt.s dB f),.gone,.buf 9 1 (List.map dB s)]:=by
  intro C hs;have hm:=u _ hs;clear hs
  try dsimp only at hm|-
  refine G _ _ (ct 2 (by simp only[go_sem,simprocAttr];exact Is.mk) (by simp only[go_sem,simprocAttr]) ?_);simp only[go_sem,simprocAttr];obtain⟨S,D,hm⟩:=zd hm;refine sO [2] (O5 C _ D) ?_;refine cu 2 (by simp only[go_sem,simprocAttr];exact Is.mk) (by simp only[go_sem,simprocAttr]) ?_;simp only[go_sem,simprocAttr];exact wQ
 clear G u
 refine cb fun K7 P=>?_
 simp only[go_sem,simprocAttr]
 try refine⟨sd,?_⟩
 refine Rg.range (i:=0) (ag:=?ag8) (es:=?es8) (kt:=?kt8) (et:=?et8) Is.mk Is.mk sg sg si si si ?cont8;intro g k b n E;replace b:=He b;simp only[go_sem,simprocAttr];refine kA P ?_;refine Wp.block (cd 3 9 1 rfl ?_);simp only[go_sem,simprocAttr];obtain⟨T,F,hm⟩:=HU hm;refine Wp.forM (bs:=g) (fun j s=>[(3,.buf 2),(6,.ptr 1 0)]) (fun j s=>[.mpb false (zl Dt.s dB f) g k,.it 0 k j,.buf 9 1 (List.map dB s)]) b ?_ hm ?_
 .exact dR
 clear hm;intro j o hm
 try dsimp only at hm|-
 refine cb fun K9 p=>?_
 simp only[go_sem,simprocAttr]
 try refine⟨by exact sd,?_⟩
 refine Rg.next (q:=1) (i:=0) (cl:=k) (bs:=g) (seen:=j) (ag:=?ag9) (es:=?es9) Is.mk Is.mk sg sg si si si sg ?hb9 n E ?he9 ?hs9
 case hb9=>rw[Dy];exact b
 case he9 =>
  intro hend;simp only[go_sem,simprocAttr]
  first|apply p|refine⟨by exact sd,p _ _ ?_⟩
  refine ca fun Q v I=>?_
  refine Wp.cond rfl ⟨⟩ (fun h=>?_) (fun h=>?_)
  .cases h
  refine cH 0 1 (by simp only[go_sem,simprocAttr];exact Is.mk) (by simp only[go_sem,simprocAttr];exact Is.mk) (by simp only[go_sem,simprocAttr]) ?_;simp only[go_sem,simprocAttr];refine Wp.exit ?_;have hm:=F _ (HI hm ((Cr (m:=g) b rfl).trans hend))
  try dsimp only at hm
  refine N _ _ _ _ ?_ (w o hm);exact dR
 case hs9 =>
  intro U V R c;simp only[go_sem,simprocAttr]
  first|apply p|refine⟨by exact sd,p _ _ ?_⟩
  refine ca fun Q v I=>?_
  refine Wp.cond rfl ⟨⟩ (fun h=>?_) (fun h=>?_)
  rotate_left
  .cases h
  refine Wp.skip ?_;simp only[zx];refine v _ _ ?_;obtain⟨J,W,l,t,hm⟩:=HV hm (c.er _ b).1;replace l:=(c.er _ b).2.2.symm.trans l;refine Wp.block ?_
  refine cb fun a3 L=>?_
  simp only[go_sem,simprocAttr]
  try refine⟨sd,?_⟩
  refine Rg.entry (q:=1) (i:=0) (cl:=k) (bs:=g) (seen:=j) (ag:=?ag12) (es:=?es12) (d:=?d12) (row:=?row12) Is.mk Is.mk sg sg si si si n c.hp ?he12 ?cont12
  case he12=>exact HG l
  simp only[go_sem,simprocAttr];refine kA L ?_;obtain⟨Z,hm⟩:=zh hm
  refine Wp.region fun a4 M=>?_
  simp only[go_sem,simprocAttr];refine kA M ?_;simp only[zx,zq,↓reduceIte];refine⟨_,o++[J.1],(Ce c b (t _ hm)).1,(Ce c b (t _ hm)).2,?_⟩;exact dR
theorem T8(f:List (dy×ai))(z:List dy)(hm:Mq f=some z):Does prog 49 [.mp 0] [.mp true (zl Dt.s zb f)] (fun r X=>r=lm dB z/\X=[.mp true (zl Dt.s zb f)]):=by
 unfold Mq at hm
 refine dW 1 18 [.tmp 2] func49 fun B=>nA fun hA=>?_
 refine qS ?_;refine qS ?_
 refine ca fun K3 G N=>?_
 obtain⟨O,u,hm⟩:=zj hm
 have w:∀s,O s=some z->K3 [(3,.buf 2)] [.mp true (zl Dt.s zb f),.gone,.buf 9 1 (List.map dB s)]:=by
  intro C hs;have hm:=u _ hs;clear hs
  try dsimp only at hm|-
  refine G _ _ (ct 2 (by simp only[go_sem,simprocAttr];exact Is.mk) (by simp only[go_sem,simprocAttr]) ?_);simp only[go_sem,simprocAttr];obtain⟨S,D,hm⟩:=zd hm;refine sO [2] (O5 C _ D) ?_;refine cu 2 (by simp only[go_sem,simprocAttr];exact Is.mk) (by simp only[go_sem,simprocAttr]) ?_;simp only[go_sem,simprocAttr];exact wQ
 clear G u
 refine cb fun K7 P=>?_
 simp only[go_sem,simprocAttr]
 try refine⟨sd,?_⟩
 refine Rg.range (i:=0) (ag:=?ag8) (es:=?es8) (kt:=?kt8) (et:=?et8) Is.mk Is.mk sg sg si si si ?cont8;intro g k b n E;replace b:=He b;simp only[go_sem,simprocAttr];refine kA P ?_;refine Wp.block (cd 3 9 1 rfl ?_);simp only[go_sem,simprocAttr];obtain⟨T,F,hm⟩:=HU hm;refine Wp.forM (bs:=g) (fun j s=>[(3,.buf 2),(6,.ptr 1 0)]) (fun j s=>[.mpb true (zl Dt.s zb f) g k,.it 0 k j,.buf 9 1 (List.map dB s)]) b ?_ hm ?_
 .exact dR
 clear hm;intro j o hm
 try dsimp only at hm|-
 refine cb fun K9 p=>?_
 simp only[go_sem,simprocAttr]
 try refine⟨by exact sd,?_⟩
 refine Rg.next (q:=1) (i:=0) (cl:=k) (bs:=g) (seen:=j) (ag:=?ag9) (es:=?es9) Is.mk Is.mk sg sg si si si sg ?hb9 n E ?he9 ?hs9
 case hb9=>rw[Dy];exact b
 case he9 =>
  intro hend;simp only[go_sem,simprocAttr]
  first|apply p|refine⟨by exact sd,p _ _ ?_⟩
  refine ca fun Q v I=>?_
  refine Wp.cond rfl ⟨⟩ (fun h=>?_) (fun h=>?_)
  .cases h
  refine cH 0 1 (by simp only[go_sem,simprocAttr];exact Is.mk) (by simp only[go_sem,simprocAttr];exact Is.mk) (by simp only[go_sem,simprocAttr]) ?_;simp only[go_sem,simprocAttr];refine Wp.exit ?_;have hm:=F _ (HI hm ((Cr (m:=g) b rfl).trans hend))
  try dsimp only at hm
  refine N _ _ _ _ ?_ (w o hm);exact dR
 case hs9 =>
  intro U V R c;simp only[go_sem,simprocAttr]
  first|apply p|refine⟨by exact sd,p _ _ ?_⟩
  refine ca fun Q v I=>?_
  refine Wp.cond rfl ⟨⟩ (fun h=>?_) (fun h=>?_)
  rotate_left
  .cases h
  refine Wp.skip ?_;simp only[zx];refine v _ _ ?_;obtain⟨J,W,l,t,hm⟩:=HV hm (c.er _ b).1;replace l:=(c.er _ b).2.2.symm.trans l;refine Wp.block ?_
  refine cb fun a3 L=>?_
  simp only[go_sem,simprocAttr]
  try refine⟨sd,?_⟩
  refine Rg.entry (q:=1) (i:=0) (cl:=k) (bs:=g) (seen:=j) (ag:=?ag12) (es:=?es12) (d:=?d12) (row:=?row12) Is.mk Is.mk sg sg si si si n c.hp ?he12 ?cont12
  case he12=>exact HG l
  simp only[go_sem,simprocAttr];refine kA L ?_;obtain⟨Z,hm⟩:=zh hm
  refine Wp.region fun a4 M=>?_
  simp only[go_sem,simprocAttr];refine kA M ?_;simp only[zx,zq,↓reduceIte];refine⟨_,o++[J.1],(Ce c b (t _ hm)).1,(Ce c b (t _ hm)).2,?_⟩;exact dR
theorem RX(b:List aa)(c:List (dy×ab))(f:List (dy×dy))(g:List (dy×ai))(z:ah)(hm:CG b c f g=some z):Does prog 16 [.ptr 0 0] [.cells 47 [lm za b,.mp 1,.mp 2,.mp 3],.mp true (zl Dt.s zc c),.mp false (zl Dt.s dB f),.mp true (zl Dt.s zb g)] (fun r X=>r=.agg [lm za z.y,lm zc z.h,lm za z.r,lm zb z.o]/\X=[.cells 47 [lm za b,.mp 1,.mp 2,.mp 3],.mp true (zl Dt.s zc c),.mp false (zl Dt.s dB f),.mp true (zl Dt.s zb g)]):=by
 unfold CG at hm
 refine dW 4 85 [.cell 2 26] func16 fun B=>nA fun hA=>?_
 refine qS ?_;obtain⟨j,aq,hm⟩:=zd hm;refine sF (Pl b _ aq) ?_
 refine ca fun K4 ag aL=>?_
 obtain⟨ar,u,hm⟩:=zj hm
 have W:∀s,ar s=some z->K4 [(0,.ptr 0 0),(2,.ptr 4 0),(3,.ptr 5 0)] [.cells 47 [lm za b,.mp 1,.mp 2,.mp 3],.mp true (zl Dt.s zc c),.mp false (zl Dt.s dB f),.mp true (zl Dt.s zb g),.cells 26 [.nils,.nils,.nils,.nils],.cells 26 [lm za j,.buf 6,.nils,.nils],.buf 57 3 (List.map zc s)]:=by
  intro i hs;have hm:=u _ hs;clear hs
  try dsimp only at hm|-
  refine ag _ _ (ca fun K5 an aM=>?_);obtain⟨au,v,hm⟩:=zj hm
  have Y:∀s,au s=some z->K5 [(0,.ptr 0 0),(2,.ptr 4 0),(3,.ptr 5 0)] [.cells 47 [lm za b,.mp 1,.mp 2,.mp 3],.mp true (zl Dt.s zc c),.mp false (zl Dt.s dB f),.mp true (zl Dt.s zb g),.cells 26 [.nils,.nils,.nils,.nils],.cells 26 [lm za j,.buf 6,.buf 7,.nils],.buf 57 3 (List.map zc i),.buf 50 2 (List.map za s)]:=by
   intro w hs;have hm:=v _ hs;clear hs
   try dsimp only at hm|-
   refine an _ _ (ca fun K6 ap aN=>?_);obtain⟨av,C,hm⟩:=zj hm
   have Z:∀s,av s=some z->K6 [(2,.ptr 4 0),(3,.ptr 5 0)] [.cells 47 [lm za b,.mp 1,.mp 2,.mp 3],.mp true (zl Dt.s zc c),.mp false (zl Dt.s dB f),.mp true (zl Dt.s zb g),.cells 26 [.nils,.nils,.nils,.nils],.cells 26 [lm za j,.buf 6,.buf 7,.buf 8],.buf 57 3 (List.map zc i),.buf 50 2 (List.map za w),.buf 59 4 (List.map zb s)]:=by
    intro aT hs;have hm:=C _ hs;clear hs
    try dsimp only at hm|-
    exact ap _ _ (wQ)
   clear ap C;obtain⟨k,a0,hm⟩:=zd hm;refine sQ [3] (fun hg=>T8 g _ a0) ?_;refine Wp.block (cw 5 3 59 4 rfl rfl ?_);simp only[go_sem,simprocAttr];obtain⟨aY,a1,hm⟩:=zm hm
   refine fL 66 k.length fun a2=>?_
   refine Wp.forL (fun l s=>[(0,.ptr 0 0),(2,.ptr 4 0),(3,.ptr 5 0),(66,lm dB k),(67,pI (k.length:Int)),(68,pI (l:Int))]) (fun l s=>[.cells 47 [lm za b,.mp 1,.mp 2,.mp 3],.mp true (zl Dt.s zc c),.mp false (zl Dt.s dB f),.mp true (zl Dt.s zb g),.cells 26 [.nils,.nils,.nils,.nils],.cells 26 [lm za j,.buf 6,.buf 7,.buf 8],.buf 57 3 (List.map zc i),.buf 50 2 (List.map za w),.buf 59 4 (List.map zb s)]) wF hm ?_;clear hm;intro l D aO hm
   try dsimp only at hm|-
   refine qS ?_
   refine lB dB hm a2 (fun h=>aN _ _ _ _ wF (Z D (a1 _ h))) fun a3 aw O aU P aP Q hm hA _ ax=>?_
   refine q6 ?_;obtain⟨ay,az,hm⟩:=il hm;have E:=iC (e:=zb) dQ g O (ai.mk [] [] false false);have F:=iD (e:=zb) dQ g O;simp only[az,zb,map_nil]at E F;obtain⟨aZ,hm⟩:=zh hm;have hA:=And.intro aw (And.intro P (And.intro E F))
   refine dE (pl [(0,none),(1,none),(2,none),(3,none),(4,none),(5,none),(6,none),(7,none),(8,some [0,1]),(9,some []),(10,none),(11,some [])]) fun _ aA=>aA _ _ ?_
   refine ax _ _ (r6 ?_);exact wN (D++[(ay.getD (ai.mk [] [] false false))]) a3 (Q _ hm)
  clear an v;obtain⟨m,a4,hm⟩:=zd hm;refine sQ [2] (fun hg=>TB f _ a4) ?_;refine Wp.block (cw 5 2 50 2 rfl rfl ?_);simp only[go_sem,simprocAttr];obtain⟨b0,a5,hm⟩:=zm hm
  refine fL 42 m.length fun a6=>?_
  refine Wp.forL (fun n s=>[(0,.ptr 0 0),(2,.ptr 4 0),(3,.ptr 5 0),(42,lm dB m),(43,pI (m.length:Int)),(44,pI (n:Int))]) (fun n s=>[.cells 47 [lm za b,.mp 1,.mp 2,.mp 3],.mp true (zl Dt.s zc c),.mp false (zl Dt.s dB f),.mp true (zl Dt.s zb g),.cells 26 [.nils,.nils,.nils,.nils],.cells 26 [lm za j,.buf 6,.buf 7,.nils],.buf 57 3 (List.map zc i),.buf 50 2 (List.map za s)]) wF hm ?_;clear hm;intro n G aQ hm
  try dsimp only at hm|-
  refine qS ?_
  refine lB dB hm a6 (fun h=>aM _ _ _ _ wF (Y G (a5 _ h))) fun a7 aB R aV a8 aW S hm hA _ aC=>?_
  refine q6 ?_;obtain⟨aD,aE,hm⟩:=il hm;have I:=iC (e:=dB) dQ f R [];have J:=iD (e:=dB) dQ f R;simp only[aE,dB,map_nil]at I J;obtain⟨b1,hm⟩:=zh hm;have hA:=And.intro aB (And.intro a8 (And.intro I J))
  refine dE (pl [(0,none),(1,none),(2,none),(3,none),(4,none),(5,none),(6,none),(7,none),(8,none),(9,none),(10,some [0,1]),(11,some []),(12,none),(13,some [])]) fun _ aF=>aF _ _ ?_
  refine aC _ _ (r6 ?_);exact wN (G++[(aa.mk R (aD.getD []))]) a7 (S _ hm)
 clear ag u;obtain⟨p,a9,hm⟩:=zd hm;refine sQ [1] (fun hg=>T2 c _ a9) ?_;refine Wp.block (cw 5 1 57 3 rfl rfl ?_);simp only[go_sem,simprocAttr];obtain⟨b2,ac,hm⟩:=zm hm
 refine fL 20 p.length fun ad=>?_
 refine Wp.forL (fun t s=>[(0,.ptr 0 0),(2,.ptr 4 0),(3,.ptr 5 0),(20,lm dB p),(21,pI (p.length:Int)),(22,pI (t:Int))]) (fun t s=>[.cells 47 [lm za b,.mp 1,.mp 2,.mp 3],.mp true (zl Dt.s zc c),.mp false (zl Dt.s dB f),.mp true (zl Dt.s zb g),.cells 26 [.nils,.nils,.nils,.nils],.cells 26 [lm za j,.buf 6,.nils,.nils],.buf 57 3 (List.map zc s)]) wF hm ?_;clear hm;intro t L aR hm
 try dsimp only at hm|-
 refine qS ?_
 refine lB dB hm ad (fun h=>aL _ _ _ _ wF (W L (ac _ h))) fun af aG T aX U aS V hm hA _ aH=>?_
 refine q6 ?_;obtain⟨aI,aJ,hm⟩:=il hm;have M:=iC (e:=zc) dQ c T (ab.mk [] [] false);have N:=iD (e:=zc) dQ c T;simp only[aJ,zc,map_nil]at M N;obtain⟨b3,hm⟩:=zh hm;have hA:=And.intro aG (And.intro U (And.intro M N))
 refine dE (pl [(0,none),(1,none),(2,none),(3,none),(4,none),(5,none),(6,none),(7,none),(8,some [0,1]),(9,some []),(10,none),(11,some [])]) fun _ aK=>aK _ _ ?_
 refine aH _ _ (r6 ?_);exact wN (L++[(aI.getD (ab.mk [] [] false))]) af (V _ hm)
theorem Qs(b:ah)(c:List ae)(z:ah×Int)(hm:FW b c=some z):Does prog 24 [.agg [lm za b.y,lm zc b.h,lm za b.r,lm zb b.o],lm zf c] [] (fun r X=>r=.tup [.agg [lm za z.1.y,lm zc z.1.h,lm za z.1.r,lm zb z.1.o],pI z.2]/\X=[]):=by
 unfold FW at hm
 refine dW 0 35 [.cell 4 26,.tmp 5] func24 fun B=>nA fun hA=>?_
 refine qS ?_
 refine ca fun _ N _=>?_
 obtain⟨Y,F,hm⟩:=zd hm;refine sX (fun hg=>Qu b _ F) ?_;refine qS ?_
 refine cN hm (fun hm=>?_) fun hm=>?_
 .refine qS ?_
  refine Wp.ret ?_;simp only[zx,zq];refine zM ?_;cases hm;exact dR
 .refine Wp.skip (N _ _ ?_)
  obtain⟨f,G,hm⟩:=zd hm;refine sO [] (ON b _ G) ?_
  refine ca fun O k I=>?_
  obtain⟨P,l,hm⟩:=zj hm
  have m:∀s,P s=some z->O [(4,.ptr 1 0),(7,.ptr 6 0)] [.cells 26 [.top,.top,.top,.top],.cells 26 [.nils,.nils,.nils,.nils],.cells 26 [.top,.top,.top,.top],.mp true (zl Dt.s zc s.1),.mp false (zl Dt.s dB s.2.1),.mp true (zl Dt.s zb s.2.2),.cells 47 [lm za f.2.2.2,.mp 3,.mp 4,.mp 5]]:=by
   intro s hs;have hm:=l _ hs;clear hs;obtain⟨u,v,w⟩:=s
   try dsimp only at hm|-
   refine k _ _ ?_;obtain⟨Z,J,hm⟩:=zd hm;refine sQ [6,3,4,5] (fun hg=>RX f.2.2.2 u v w _ J) ?_;exact wR
  clear k l;refine qS ?_;refine Wp.block ?_;obtain⟨V,C,hm⟩:=zm hm
  refine fL 19 c.length fun D=>?_
  refine Wp.forL (fun n s=>[(4,.ptr 1 0),(7,.ptr 6 0),(19,lm zf c),(20,pI (c.length:Int)),(21,pI (n:Int))]) (fun n s=>[.cells 26 [lm za b.y,lm zc b.h,lm za b.r,lm zb b.o],.cells 26 [.nils,.nils,.nils,.nils],.cells 26 [.top,.top,.top,.top],.mp true (zl Dt.s zc s.1),.mp false (zl Dt.s dB s.2.1),.mp true (zl Dt.s zb s.2.2),.cells 47 [lm za f.2.2.2,.mp 3,.mp 4,.mp 5]]) wF hm ?_;clear hm;intro n s R hm;obtain⟨g,i,j⟩:=s
  try dsimp only at hm|-
  refine qS ?_
  refine lB zf hm D (fun h=>I _ _ _ _ wF (m (g,i,j) (C _ h))) fun E W Q S T U p hm hA _ L=>?_
  refine q6 ?_;obtain⟨t,M,hm⟩:=zd hm;refine sO [6,3,4,5] (Ts Q f.2.2.2 g i j _ M) ?_;refine q6 ?_
  refine cN hm (fun hm=>?_) fun hm=>?_
  .refine q6 ?_
   refine Wp.ret ?_;simp only[zx,zq];refine zM ?_;cases hm;simp only[go_sem,simprocAttr,hA]
   try exact qz
  .refine Wp.skip (L _ _ (r6 ?_))
   exact wN (t.2.1,t.2.2.1,t.2.2.2) E (p _ hm)
theorem OV(b:ae)(c:List aa)(f:List ab)(g:List aa)(j:List ai)(z:List aa×List ab×List aa×List ai)(hm:Cv b c f g j=some z):Does prog 23 [.agg [pI b.u,pS b.i.a,pS b.i.B,pB b.i.C,pS b.z.k,pS b.z.Value,pS b.q.w,pS b.q.a,pB b.q.D,pB b.q.E],.ptr 0 0] [.cells 26 [lm za c,lm zc f,lm za g,lm zb j]] (fun r X=>r=.tup []/\X=[.cells 26 [lm za z.1,lm zc z.2.1,lm za z.2.2.1,lm zb z.2.2.2]]):=by
 unfold Cv at hm
 refine dW 1 15 [] func23 fun B=>nA fun hA=>?_
 refine qS ?_;obtain⟨m,l,hm⟩:=zd hm;refine sF (Qs (ah.mk c f g j) [b] _ l) ?_;refine qS ?_
 refine cN hm (fun hm=>?_) fun hm=>?_
 .refine qR ?_
  refine vB ?_;cases hm;exact dR
 .refine Wp.skip (vB ?_)
  cases hm;exact dR
theorem qN(b:ah)(z:ah)(hm:Hj b=some z):Does prog 6 [.agg [lm za b.y,lm zc b.h,lm za b.r,lm zb b.o]] [] (fun r X=>r=.agg [lm za z.y,lm zc z.h,lm za z.r,lm zb z.o]/\X=[]):=by
 unfold Hj at hm
 refine dW 0 110 [.cell 2 26] func6 fun B=>nA fun hA=>?_
 refine qS ?_;refine qS ?_
 refine ca fun K3 ay b0=>?_
 obtain⟨b1,R,hm⟩:=zj hm
 have a4:∀s,b1 s=some z->K3 [(1,.ptr 0 0),(2,.ptr 1 0),(3,.ptr 2 0)] [.cells 26 [lm za b.y,lm zc b.h,lm za b.r,lm zb b.o],.cells 26 [.nils,.nils,.nils,.nils],.cells 26 [.buf 3,.nils,.nils,.nils],.buf 50 2 (List.map za s)]:=by
  intro a5 hs;have hm:=R _ hs;clear hs
  try dsimp only at hm|-
  refine ay _ _ (ct 3 (by simp only[go_sem,simprocAttr];exact Is.mk) (by simp only[go_sem,simprocAttr]) ?_);simp only[go_sem,simprocAttr];obtain⟨aA,a6,hm⟩:=zd hm;refine sO [3] (U1 a5 _ a6) ?_;refine cu 3 (by simp only[go_sem,simprocAttr];exact Is.mk) (by simp only[go_sem,simprocAttr]) ?_;simp only[go_sem,simprocAttr];refine ct 3 (by simp only[go_sem,simprocAttr];exact Is.mk) (by simp only[go_sem,simprocAttr]) ?_;simp only[go_sem,simprocAttr];obtain⟨bn,a7,hm⟩:=zd hm;refine sO [3] (UT aA _ a7) ?_;refine cu 3 (by simp only[go_sem,simprocAttr];exact Is.mk) (by simp only[go_sem,simprocAttr]) ?_;simp only[go_sem,simprocAttr];refine qS ?_
  refine ca fun K9 az b2=>?_
  obtain⟨b3,S,hm⟩:=zj hm
  have a8:∀s,b3 s=some z->K9 [(1,.ptr 0 0),(2,.ptr 1 0),(3,.ptr 2 0),(6,.fn 23 [.ptr 2 0])] [.cells 26 [lm za b.y,lm zc b.h,lm za b.r,lm zb b.o],.cells 26 [.nils,.nils,.nils,.nils],.cells 26 [lm za s.1,lm zc s.2.1,lm za s.2.2.1,lm zb s.2.2.2]]:=by
   intro s hs;have hm:=S _ hs;clear hs;obtain⟨aO,aP,aQ,aR⟩:=s
   try dsimp only at hm|-
   refine az _ _ (ca fun b4 T aB=>?_);obtain⟨b5,U,hm⟩:=zj hm
   have V:∀s,b5 s=some z->b4 [(1,.ptr 0 0),(2,.ptr 1 0),(3,.ptr 2 0),(6,.fn 23 [.ptr 2 0])] [.cells 26 [lm za b.y,lm zc b.h,lm za b.r,lm zb b.o],.cells 26 [.nils,.nils,.nils,.nils],.cells 26 [lm za s.1,lm zc s.2.1,lm za s.2.2.1,lm zb s.2.2.2]]:=by
    intro s hs;have hm:=U _ hs;clear hs;obtain⟨aS,aT,aU,aV⟩:=s
    try dsimp only at hm|-
    refine T _ _ (ca fun b6 W aC=>?_);obtain⟨aD,L,hm⟩:=zj hm
    have Y:∀s,aD s=some z->b6 [(2,.ptr 1 0),(3,.ptr 2 0)] [.cells 26 [.top,.top,.top,.top],.cells 26 [.nils,.nils,.nils,.nils],.cells 26 [lm za s.1,lm zc s.2.1,lm za s.2.2.1,lm zb s.2.2.2]]:=by
     intro s hs;have hm:=L _ hs;clear hs;obtain⟨aW,aX,aY,aZ⟩:=s
     try dsimp only at hm|-
     exact W _ _ (wQ)
    clear W L;obtain⟨bo,hm⟩:=zh hm;refine q6 ?_;refine Wp.block ?_;obtain⟨bp,a9,hm⟩:=zm hm
    refine fL 98 ((List.take ((min (b.o.length:Int) 40).toNat) b.o).length) fun ac=>?_
    refine Wp.forL (fun F s=>[(2,.ptr 1 0),(3,.ptr 2 0),(6,.fn 23 [.ptr 2 0]),(98,lm zb (List.take ((min (b.o.length:Int) 40).toNat) b.o)),(99,pI ((List.take ((min (b.o.length:Int) 40).toNat) b.o).length:Int)),(100,pI (F:Int))]) (fun F s=>[.cells 26 [lm za b.y,lm zc b.h,lm za b.r,lm zb b.o],.cells 26 [.nils,.nils,.nils,.nils],.cells 26 [lm za s.1,lm zc s.2.1,lm za s.2.2.1,lm zb s.2.2.2]]) wF hm ?_;clear hm;intro F s b7 hm;obtain⟨c,f,i,j⟩:=s
    try dsimp only at hm|-
    refine qS ?_
    refine lB zb hm ac (fun h=>aC _ _ _ _ wF (Y (c,f,i,j) (a9 _ h))) fun ad bq aE bf b8 b9 Z hm hA _ aF=>?_
    refine q6 ?_;obtain⟨M,aG,hm⟩:=zd hm;refine eO [2] (OV (ae.mk 5 (ab.mk [] [] false) (aa.mk [] []) aE) c f i j _ aG) ?_;refine aF _ _ (r6 ?_);exact wN (M.1,M.2.1,M.2.2.1,M.2.2.2) ad (Z _ hm)
   clear T U;obtain⟨br,hm⟩:=zh hm;refine q6 ?_;refine Wp.block ?_;obtain⟨bs,af,hm⟩:=zm hm
   refine fL 81 ((List.take ((min (b.r.length:Int) 40).toNat) b.r).length) fun ag=>?_
   refine Wp.forL (fun G s=>[(1,.ptr 0 0),(2,.ptr 1 0),(3,.ptr 2 0),(6,.fn 23 [.ptr 2 0]),(81,lm za (List.take ((min (b.r.length:Int) 40).toNat) b.r)),(82,pI ((List.take ((min (b.r.length:Int) 40).toNat) b.r).length:Int)),(83,pI (G:Int))]) (fun G s=>[.cells 26 [lm za b.y,lm zc b.h,lm za b.r,lm zb b.o],.cells 26 [.nils,.nils,.nils,.nils],.cells 26 [lm za s.1,lm zc s.2.1,lm za s.2.2.1,lm zb s.2.2.2]]) wF hm ?_;clear hm;intro G s ba hm;obtain⟨l,m,n,p⟩:=s
   try dsimp only at hm|-
   refine qS ?_
   refine lB za hm ag (fun h=>aB _ _ _ _ wF (V (l,m,n,p) (af _ h))) fun an bt aH bg bb bc a0 hm hA _ aI=>?_
   refine q6 ?_;obtain⟨N,aJ,hm⟩:=zd hm;refine eO [2] (OV (ae.mk 3 (ab.mk [] [] false) aH (ai.mk [] [] false false)) l m n p _ aJ) ?_;refine aI _ _ (r6 ?_);exact wN (N.1,N.2.1,N.2.2.1,N.2.2.2) an (a0 _ hm)
  clear az S;obtain⟨bu,hm⟩:=zh hm;refine q6 ?_;refine Wp.block (Wp.freeze 3 (by simp only[go_sem,simprocAttr];exact Is.mk) (by first|(simp only[go_sem,simprocAttr];done)|(simp only[go_sem,simprocAttr];omega)) ?_);simp only[go_sem,simprocAttr];obtain⟨bv,ap,hm⟩:=zm hm
  refine fL 56 ((List.take ((min (b.h.length:Int) 40).toNat) b.h).length) fun aq=>?_
  refine Wp.forL (fun I s=>[(1,.ptr 0 0),(2,.ptr 1 0),(3,.ptr 2 0),(6,.fn 23 [.ptr 2 0]),(56,lm zc (List.take ((min (b.h.length:Int) 40).toNat) b.h)),(57,pI ((List.take ((min (b.h.length:Int) 40).toNat) b.h).length:Int)),(58,pI (I:Int))]) (fun I s=>[.cells 26 [lm za b.y,lm zc b.h,lm za b.r,lm zb b.o],.cells 26 [.nils,.nils,.nils,.nils],.cells 26 [lm za s.1,lm zc s.2.1,lm za s.2.2.1,lm zb s.2.2.2],.gone]) wF hm ?_;clear hm;intro I s bd hm;obtain⟨t,u,v,w⟩:=s
  try dsimp only at hm|-
  refine qS ?_
  refine lB zc hm aq (fun h=>b2 _ _ _ _ wF (a8 (t,u,v,w) (ap _ h))) fun ar bw O bh bi bj a1 hm hA _ aK=>?_
  refine q6 ?_;obtain⟨bx,hm⟩:=zh hm;refine q6 ?_;obtain⟨P,aL,hm⟩:=zd hm;refine eO [2] (OV (ae.mk 1 (ab.mk O.a (List.take ((min (O.B.length:Int) 3000).toNat) O.B) O.C) (aa.mk [] []) (ai.mk [] [] false false)) t u v w _ aL) ?_;refine aK _ _ (r6 ?_);exact wN (P.1,P.2.1,P.2.2.1,P.2.2.2) ar (a1 _ hm)
 clear ay R;refine qS ?_;refine Wp.block (cw 2 0 50 2 rfl rfl ?_);simp only[go_sem,simprocAttr];obtain⟨bz,au,hm⟩:=zm hm
 refine fL 15 b.y.length fun av=>?_
 refine Wp.forL (fun J s=>[(1,.ptr 0 0),(2,.ptr 1 0),(3,.ptr 2 0),(15,lm za b.y),(16,pI (b.y.length:Int)),(17,pI (J:Int))]) (fun J s=>[.cells 26 [lm za b.y,lm zc b.h,lm za b.r,lm zb b.o],.cells 26 [.nils,.nils,.nils,.nils],.cells 26 [.buf 3,.nils,.nils,.nils],.buf 50 2 (List.map za s)]) wF hm ?_;clear hm;intro J D be hm
 try dsimp only at hm|-
 refine qS ?_
 refine lB za hm av (fun h=>b0 _ _ _ _ wF (a4 D (au _ h))) fun Q bA a2 bk bl bm E hm hA _ a3=>?_
 refine q6 ?_;obtain⟨aM,aw,hm⟩:=zd hm;obtain⟨bB,ax,hm⟩:=zX hm
 refine rS fun _ aN=>?_
 refine cX (fun hg=>Ii a2.k _ aw) ?_;refine cX (g:=aM) (fun hg=>OM a2.Value _ (ax hg)) (aN _ _ ?_)
 refine cN hm (fun hm=>?_) fun hm=>?_
 .obtain⟨bC,hm⟩:=zh hm
  refine r6 ?_;refine a3 _ _ (r6 ?_);exact wN (D++[a2]) Q (E _ hm)
 .refine Wp.skip (a3 _ _ (r6 ?_))
  exact wN D Q (E _ hm)
theorem Re(b:dy)(z:Bool)(hm:Gg b=some z):Does prog 15 [pS b] [] (fun r X=>r=pB z/\X=[]):=by
 unfold Gg at hm
 refine dW 0 5 [.tmp 2] func15 fun B=>nA fun hA=>?_
 refine qS ?_;obtain⟨f,c,hm⟩:=zd hm;refine sX (fun hg=>Of b ([115,116,97,103,101]:dy) _ c) ?_;exact wR
theorem Qv(p:ah)(z:ah)(hm:FY p=some z):Does prog 5 [.agg [lm za p.y,lm zc p.h,lm za p.r,lm zb p.o]] [] (fun r X=>r=.agg [lm za z.y,lm zc z.h,lm za z.r,lm zb z.o]/\X=[]):=by
 unfold FY at hm
 refine dW 0 25 [.cell 2 26] func5 fun B=>nA fun hA=>?_
 refine qS ?_;obtain⟨t,a1,hm⟩:=zd hm;refine sO [] (ON p _ a1) ?_
 refine ca fun K4 a0 a8=>?_
 obtain⟨a2,G,hm⟩:=zj hm
 have P:∀s,a2 s=some z->K4 [(2,.ptr 1 0),(3,.ptr 6 0)] [.cells 26 [.top,.top,.top,.top],.cells 26 [.nils,.nils,.nils,.nils],.cells 26 [.top,.top,.top,.top],.mp true (zl Dt.s zc s),.mp false (zl Dt.s dB t.2.1),.mp true (zl Dt.s zb t.2.2.1),.cells 47 [lm za t.2.2.2,.mp 3,.mp 4,.mp 5]]:=by
  intro Q hs;have hm:=G _ hs;clear hs
  try dsimp only at hm|-
  refine a0 _ _ ?_;obtain⟨af,R,hm⟩:=zd hm;refine sQ [6,3,4,5] (fun hg=>RX t.2.2.2 Q t.2.1 t.2.2.1 _ R) ?_;exact wR
 clear a0 G
 refine cb fun K7 a9=>?_
 simp only[go_sem,simprocAttr]
 try refine⟨sd,?_⟩
 refine Rg.range (i:=3) (ag:=?ag8) (es:=?es8) (kt:=?kt8) (et:=?et8) Is.mk Is.mk sg sg si si si ?cont8;intro c D k I S;replace k:=He k;simp only[go_sem,simprocAttr];refine kA a9 ?_;refine Wp.block ?_;obtain⟨N,hm⟩:=zh hm;obtain⟨an,T,hm⟩:=HU hm;refine dq (bs:=c) (fun u n s=>[(2,.ptr 1 0),(3,.ptr 6 0),(11,.ptr 7 0)]) (fun u n s=>[.cells 26 [lm za p.y,lm zc p.h,lm za p.r,lm zb p.o],.cells 26 [.nils,.nils,.nils,.nils],.cells 26 [.top,.top,.top,.top],.mpb true (zl Dt.s zc s) (left c n c) D,.mp false (zl Dt.s dB t.2.1),.mp true (zl Dt.s zb t.2.2.1),.cells 47 [lm za t.2.2.2,.mp 3,.mp 4,.mp 5],.it 3 D u]) (fun s=>s) k ?_ rfl hm ?_
 .have U:=HO c c rfl
  have hA:=U;simp only[go_sem,simprocAttr,hA]
  try exact qz
 clear hm;intro u n v j f hm
 try dsimp only at hm f
 try dsimp only
 have J:(left c n c).Nodup:=(Ld c c).nodup I
 have V:∀b∈(left c n c),b<D:=fun b hb=>S b (Lc hb).1
 have W:v.length=(left c n c).length:=by rw[f];exact Nh k
 refine cb fun K9 L=>?_
 simp only[go_sem,simprocAttr]
 try refine⟨by exact sd,?_⟩
 refine Rg.next (q:=7) (i:=3) (cl:=D) (bs:=(left c n c)) (seen:=u) (ag:=?ag9) (es:=?es9) Is.mk Is.mk sg sg si si si sg ?hb9 J V ?he9 ?hs9
 case hb9=>rw[Dy];exact W
 case he9 =>
  intro hend;simp only[go_sem,simprocAttr]
  first|apply L|refine⟨by exact sd,L _ _ ?_⟩
  refine ca fun ac O a3=>?_
  refine Wp.cond rfl ⟨⟩ (fun h=>?_) (fun h=>?_)
  .cases h
  refine cH 3 7 (by simp only[go_sem,simprocAttr];exact Is.mk) (by simp only[go_sem,simprocAttr];exact Is.mk) (by simp only[go_sem,simprocAttr]) ?_;simp only[go_sem,simprocAttr];refine Wp.exit ?_;have hm:=T _ (HI hm ((Cr (m:=c) k rfl).trans ((congrArg List.length (LH j rfl)).symm.trans hend)))
  try dsimp only at hm
  refine a8 _ _ _ _ ?_ (P v hm);exact dR
 case hs9 =>
  intro ap aq E l;simp only[go_sem,simprocAttr]
  first|apply L|refine⟨by exact sd,L _ _ ?_⟩
  refine ca fun ac O a3=>?_
  refine Wp.cond rfl ⟨⟩ (fun h=>?_) (fun h=>?_)
  rotate_left
  .cases h
  refine Wp.skip ?_;simp only[zx];refine O _ _ ?_;obtain⟨F,ad,C,w,hm⟩:=HV hm (l.up j k f).1;replace C:=(l.up j k f).2.2.symm.trans C;refine Wp.block ?_
  refine cb fun aA a4=>?_
  simp only[go_sem,simprocAttr]
  try refine⟨sd,?_⟩
  refine Rg.entry (q:=7) (i:=3) (cl:=D) (bs:=(left c n c)) (seen:=u) (ag:=?ag12) (es:=?es12) (d:=?d12) (row:=?row12) Is.mk Is.mk sg sg si si si J l.hp ?he12 ?cont12
  case he12=>exact HG C
  simp only[go_sem,simprocAttr];refine kA a4 ?_;obtain⟨au,Y,hm⟩:=zd hm
  refine cb fun aB a5=>?_
  simp only[go_sem,simprocAttr]
  try refine⟨sd,?_⟩
  refine cG (av:=?av14) (g:=true) (fun hg=>Re F.1 _ Y) si si si sg si ?cont14;intro aw;simp only[go_sem,simprocAttr];refine kA a5 ?_;refine cM hm (fun a6 hm=>?_) (fun a6 hm=>?_)
  .have Z:=Cc (e:=zc) dQ v F.1
   have M:=xC (kd:=Dt.s) (e:=zc) dQ N I k f l.hp C
   refine Wp.region fun aC a7=>?_
   simp only[go_sem,simprocAttr,Z,M.2];refine kA a7 ?_;simp only[zx,zq,↓reduceIte];refine⟨_,n++[E],fC v F.1,j.both E,M.1,(LK l j k f (w _ hm)).1,(LK l j k f (w _ hm)).2,?_⟩;exact dR
  .refine Wp.skip ?_
   simp only[zx,zq,↓reduceIte];refine⟨_,n,v,j.more E,f,(LK l j k f (w _ hm)).1,(LK l j k f (w _ hm)).2,?_⟩;exact dR
theorem Sj(b:List ae)(z:List ae)(hm:zW b=some z):Does prog 26 [lm zf b] [] (fun r X=>r=.buf 0/\X=[.buf 61 10 (List.map zf z)]):=by
 unfold zW at hm
 refine dW 1 8 [.tmp 2] func26 fun B=>nA fun hA=>?_
 refine qS ?_
 refine ca fun _ f _=>cb fun K3 g=>?_
 simp only[go_sem,simprocAttr]
 try refine⟨sd,?_⟩
 refine cC (rows:=?rows4) (e:=?e4) (esz:=?esz4) (eb:=?eb4) (ez:=?ez4) Is.mk Is.mk sg sg si si ?cont4;intro i c;replace hm:=Gj hm i (fun h=>map_eq_nil_iff.1 (c h))
 try dsimp only at hm
 simp only[go_sem,simprocAttr];refine kA g ?_
 refine cN hm (fun hm=>?_) fun hm=>?_
 .refine qS ?_
  refine cd 2 61 10 rfl ?_;simp only[go_sem,simprocAttr];exact wR
 .refine Wp.skip (f _ _ ?_)
  obtain⟨j,hm⟩:=zh hm;exact wQ
theorem Qw(b:ae)(z:dy)(hm:B8 b=some z):Does prog 54 [.agg [pI b.u,pS b.i.a,pS b.i.B,pB b.i.C,pS b.z.k,pS b.z.Value,pS b.q.w,pS b.q.a,pB b.q.D,pB b.q.E]] [] (fun r X=>r=pS z/\X=[]):=by
 unfold B8 at hm
 refine dW 0 23 [.tmp 2] func54 fun B=>nA fun hA=>?_
 refine qS ?_
 refine ca fun _ p _=>qS ?_
 refine Wp.block (ca fun K4 l m=>?_);obtain⟨t,g,hm⟩:=zj hm
 have c:∀s,t s=some z->K4 [(1,.ptr 0 0),(4,pI b.u),(5,pB s)] [.cells 61 [pI b.u,pS b.i.a,pS b.i.B,pB b.i.C,pS b.z.k,pS b.z.Value,pS b.q.w,pS b.q.a,pB b.q.D,pB b.q.E]]:=by
  intro G hs;have hm:=g _ hs;clear hs
  try dsimp only at hm|-
  refine l _ _ (cN hm (fun hm=>?_) fun hm=>?_)
  .obtain⟨I,hm⟩:=zh hm
   exact wQ
  .refine ca fun K7 n o=>?_
   obtain⟨v,j,hm⟩:=zj hm
   have f:∀s,v s=some z->K7 [(1,.ptr 0 0),(12,pB s)] [.cells 61 [pI b.u,pS b.i.a,pS b.i.B,pB b.i.C,pS b.z.k,pS b.z.Value,pS b.q.w,pS b.q.a,pB b.q.D,pB b.q.E]]:=by
    intro F hs;have hm:=j _ hs;clear hs
    try dsimp only at hm|-
    refine n _ _ (cN hm (fun hm=>?_) fun hm=>?_)
    .obtain⟨J,hm⟩:=zh hm
     exact wQ
    .refine Wp.skip (p _ _ ?_)
     obtain⟨L,hm⟩:=zh hm;exact wQ
   clear n j;refine qS ?_
   refine cN hm (fun hm=>?_) fun hm=>?_
   .refine Wp.skip (o _ _ _ _ ?_ (f (decide (b.u=3)) hm))
    exact dR
   .refine qR ?_
    refine o _ _ _ _ ?_ (f (decide (b.u=4)) hm);exact dR
 clear l g;refine qS ?_
 refine cN hm (fun hm=>?_) fun hm=>?_
 .refine Wp.skip (m _ _ _ _ ?_ (c (decide (b.u=1)) hm))
  exact dR
 .refine qR ?_
  refine m _ _ _ _ ?_ (c (decide (b.u=2)) hm);exact dR
theorem RV(b:ah)(c:List ae)(z:Int)(hm:GP b c=some z):Does prog 25 [.agg [lm za b.y,lm zc b.h,lm za b.r,lm zb b.o],lm zf c] [] (fun r X=>r=pI z/\X=[]):=by
 unfold GP at hm
 refine dW 0 85 [.tmp 4] func25 fun B=>nA fun hA=>?_
 refine qS ?_
 refine ca fun _ aw _=>?_
 obtain⟨aI,T,hm⟩:=zd hm;refine sX (fun hg=>Qu b _ T) ?_;refine qS ?_
 refine cR hm fun hm=>?_
 refine Wp.skip (aw _ _ (ca fun _ ax _=>?_));obtain⟨j,a6,hm⟩:=zd hm;obtain⟨k,a7,hm⟩:=il hm;have n:=iC (e:=zc) dQ j.1 ([115,116,97,103,101]:dy) (ab.mk [] [] false);have p:=iD (e:=zc) dQ j.1 ([115,116,97,103,101]:dy);simp only[a7,zc,map_nil]at n p;have hA:=And.intro n p;refine sO [] (ON b _ a6) ?_;refine qS ?_
 refine cR hm fun hm=>?_
 refine Wp.skip (ax _ _ (ca fun ay I a8=>?_));obtain⟨az,J,hm⟩:=zj hm
 have L:∀s,az s=some z->ay [(1,lm zf c),(2,.ptr 0 0)] [.cells 26 [lm za b.y,lm zc b.h,lm za b.r,lm zb b.o]]:=by
  intro s hs;have hm:=J _ hs;clear hs
  try dsimp only at hm|-
  refine I _ _ (ca fun _ a9 _=>?_);obtain⟨ac,U,hm⟩:=zd hm;obtain⟨t,ad,hm⟩:=zd hm
  refine rS fun _ af=>?_
  refine cF (Qv b _ U) ?_;refine cF (Qs ac c _ ad) (af _ _ ?_);refine qS ?_
  refine cR hm fun hm=>?_
  refine Wp.skip (a9 _ _ (ca fun _ ag _=>qS ?_))
  refine cR hm fun hm=>?_
  refine Wp.skip (ag _ _ (qS ?_))
  refine ca fun aA M an=>?_
  obtain⟨ap,v,hm⟩:=zj hm
  have N:∀s,ap s=some z->aA [] []:=by
   intro s hs;have hm:=v _ hs;clear hs
   try dsimp only at hm|-
   exact M _ _ (wQ)
  clear M v;refine qS ?_;refine Wp.block ?_;obtain⟨aJ,V,hm⟩:=zm hm
  refine fL 71 c.length fun W=>?_
  refine Wp.forL (fun l s=>[(12,.mp 2),(71,lm zf c),(72,pI (c.length:Int)),(73,pI (l:Int))]) (fun l s=>[.cells 26 [lm za b.y,lm zc b.h,lm za b.r,lm zb b.o],.cells 26 [lm za t.1.y,lm zc t.1.h,lm za t.1.r,lm zb t.1.o],.mp false (zl Dt.s eL s)]) wF hm ?_;clear hm;intro l f aB hm
  try dsimp only at hm|-
  refine qS ?_
  refine lB zf hm W (fun h=>an _ _ _ _ wF (N () (V _ h))) fun Y O a5 aD w aE P hm hA _ aq=>?_
  refine q6 ?_
  refine ca fun _ ar _=>?_
  obtain⟨Q,Z,hm⟩:=zd hm;obtain⟨aK,au,hm⟩:=il hm;have D:=iC (e:=eL) dQ f Q false;have E:=iD (e:=eL) dQ f Q;simp only[au,eL,map_nil]at D E;have hA:=And.intro O (And.intro w (And.intro D E));refine sX (fun hg=>Qw a5 _ Z) ?_
  refine cR hm fun hm=>?_
  refine Wp.skip (ar _ _ ?_);obtain⟨R,a0,hm⟩:=zd hm;obtain⟨aL,hm⟩:=zh hm;have F:=mR (e:=eL) dQ f R true;simp only[eL,map_nil]at F;have hA:=And.intro O (And.intro w F);refine eX (fun hg=>Qw a5 _ a0) ?_;refine aq _ _ (r6 ?_);exact wN (dF f R true) Y (P _ hm)
 clear I J;refine qS ?_;refine Wp.block ?_;obtain⟨aM,a1,hm⟩:=zm hm
 refine fL 1 c.length fun a2=>?_
 refine Wp.forL (fun m s=>[(1,lm zf c),(2,.ptr 0 0),(30,lm zf c),(31,pI (c.length:Int)),(32,pI (m:Int))]) (fun m s=>[.cells 26 [lm za b.y,lm zc b.h,lm za b.r,lm zb b.o],.cells 26 [.top,.top,.top,.top],.mp true (zl Dt.s zc j.1),.mp false (zl Dt.s dB j.2.1),.mp true (zl Dt.s zb j.2.2.1),.cells 47 [lm za j.2.2.2,.mp 2,.mp 3,.mp 4],.cells 57 [pS ((k.getD (ab.mk [] [] false)).a),pS ((k.getD (ab.mk [] [] false)).B),pB ((k.getD (ab.mk [] [] false)).C)]]) wF hm ?_;clear hm;intro m s aC hm
 try dsimp only at hm|-
 refine qS ?_
 refine lB zf hm a2 (fun h=>a8 _ _ _ _ wF (L () (a1 _ h))) fun a3 aN G aF aG aH S hm hA _ av=>?_
 refine q6 ?_;obtain⟨aO,a4,hm⟩:=zX hm;refine sX (g:=(((decide (G.u=1))||(decide (G.u=2)))&&(!(decide (G.i.a=([115,116,97,103,101]:dy)))))) (fun hg=>Re G.i.a _ (a4 hg)) ?_
 refine cR hm fun hm=>?_
 refine Wp.skip (av _ _ (r6 ?_));exact wN () a3 (S _ hm)
end Go.Proofs.YtbcjkdopkcbblaaGreatDoor
