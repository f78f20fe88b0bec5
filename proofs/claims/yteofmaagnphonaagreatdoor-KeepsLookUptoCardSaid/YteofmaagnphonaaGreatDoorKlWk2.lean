/- That the code does what the models say (part 2). -/
import Derived.Test.YteofmaagnphonaaGreatDoorKlWk0
import Derived.Test.YteofmaagnphonaaGreatDoorKlWk1
set_option linter.unusedSimpArgs false
set_option linter.unusedVariables false
open Go.Proofs Go.Shelf
open List
namespace Go.Proofs.YteofmaagnphonaaGreatDoor
open Tryz
open Go.Vc Go.Md
set_option maxRecDepth 100000
set_option maxHeartbeats 4000000
theorem EK(b:aj)(z:(List (eo×ae))×(List (eo×eo))×(List (eo×ah))×List ab)(w:tQ b=some z):Does prog 38 [.agg [lm za b.D,lm zc b.u,lm za b.B,lm zb b.A]] [] (fun r X=>r=.ptr 4 0/\X=[.cells 26 [.top,.top,.top,.top],.mp true (zz Dt.s zc z.1),.mp false (zz Dt.s eu z.2.1),.mp true (zz Dt.s zb z.2.2.1),.cells 163 [lm za z.2.2.2,.mp 1,.mp 2,.mp 3]]):=by
 unfold tQ at w;refine dW 5 64 [.tmp 2] func38 fun B=>nA fun A=>?_;refine qS ?_;refine qS ?_;refine dc fun x d y=>?_;obtain⟨H,E,w⟩:=zp w;have N:∀s,H s=some z->x [(1,.ptr 0 0),(3,.ptr 4 0)] [.cells 26 [lm za b.D,lm zc b.u,lm za b.B,lm zb b.A],.mp true (zz Dt.s zc s),.mp false (zz Dt.s eu []),.mp true (zz Dt.s zb []),.cells 163 [lm za b.D,.mp 1,.mp 2,.mp 3]]:=by
  intro c hs;have w:=E _ hs;clear hs;try dsimp only at w|-
  refine d _ _ (dc fun K q aw=>?_);obtain⟨az,F,w⟩:=zp w;have O:∀s,az s=some z->K [(1,.ptr 0 0),(3,.ptr 4 0)] [.cells 26 [lm za b.D,lm zc b.u,lm za b.B,lm zb b.A],.mp true (zz Dt.s zc c),.mp false (zz Dt.s eu s),.mp true (zz Dt.s zb []),.cells 163 [lm za b.D,.mp 1,.mp 2,.mp 3]]:=by
   intro l hs;have w:=F _ hs;clear hs;try dsimp only at w|-
   refine q _ _ (dc fun K5 a2 aA=>?_);obtain⟨aB,G,w⟩:=zp w;have P:∀s,aB s=some z->K5 [(3,.ptr 4 0)] [.cells 26 [.top,.top,.top,.top],.mp true (zz Dt.s zc c),.mp false (zz Dt.s eu l),.mp true (zz Dt.s zb s),.cells 163 [lm za b.D,.mp 1,.mp 2,.mp 3]]:=by
    intro aF hs;have w:=G _ hs;clear hs;try dsimp only at w|-
    exact a2 _ _ (wQ)
   clear a2 G;refine qS ?_;refine Wp.block ?_;obtain⟨aN,Q,w⟩:=zq w;refine fL 49 b.A.length fun R=>?_;refine Wp.forL (fun I s=>[(3,.ptr 4 0),(49,lm zb b.A),(50,pI (b.A.length:Int)),(51,pI (I:Int))]) (fun I s=>[.cells 26 [lm za b.D,lm zc b.u,lm za b.B,lm zb b.A],.mp true (zz Dt.s zc c),.mp false (zz Dt.s eu l),.mp true (zz Dt.s zb s),.cells 163 [lm za b.D,.mp 1,.mp 2,.mp 3]]) wF w ?_;clear w;intro I f aG w;try dsimp only at w|-
   refine qS ?_;refine lB zb w R (fun h=>aA _ _ _ _ wF (P f (Q _ h))) fun a5 aC m aH S aI J w A _ a6=>?_;refine q6 ?_;obtain⟨aO,w⟩:=zi w;have n:=oH (e:=zb) eZ f m.C m;simp only[zb,map_nil]at n;have A:=And.intro aC (And.intro S n);refine dE (pl [(0,none),(1,none),(2,none),(3,none),(4,none),(5,none),(6,none),(7,some [])]) fun _ a7=>a7 _ _ ?_;refine a6 _ _ (r6 ?_);exact wN (eD f m.C m) a5 (J _ w)
  clear q F;refine qS ?_;refine Wp.block ?_;obtain⟨aP,T,w⟩:=zq w;refine fL 33 b.B.length fun U=>?_;refine Wp.forL (fun j s=>[(1,.ptr 0 0),(3,.ptr 4 0),(33,lm za b.B),(34,pI (b.B.length:Int)),(35,pI (j:Int))]) (fun j s=>[.cells 26 [lm za b.D,lm zc b.u,lm za b.B,lm zb b.A],.mp true (zz Dt.s zc c),.mp false (zz Dt.s eu s),.mp true (zz Dt.s zb []),.cells 163 [lm za b.D,.mp 1,.mp 2,.mp 3]]) wF w ?_;clear w;intro j g aD w;try dsimp only at w|-
  refine qS ?_;refine lB za w U (fun h=>aw _ _ _ _ wF (O g (T _ h))) fun V a8 o aJ W aK L w A _ a9=>?_;refine q6 ?_;obtain⟨aQ,w⟩:=zi w;have p:=oH (e:=eu) eZ g o.r o.Value;simp only[eu,map_nil]at p;have A:=And.intro a8 (And.intro W p);refine dE (pl [(0,none),(1,none),(2,none),(3,none),(4,none),(5,none),(6,none),(7,none),(8,some [])]) fun _ ac=>ac _ _ ?_;refine a9 _ _ (r6 ?_);exact wN (eD g o.r o.Value) V (L _ w)
 clear d E;refine qS ?_;refine Wp.block ?_;obtain⟨aR,Y,w⟩:=zq w;refine fL 18 b.u.length fun Z=>?_;refine Wp.forL (fun k s=>[(1,.ptr 0 0),(3,.ptr 4 0),(18,lm zc b.u),(19,pI (b.u.length:Int)),(20,pI (k:Int))]) (fun k s=>[.cells 26 [lm za b.D,lm zc b.u,lm za b.B,lm zb b.A],.mp true (zz Dt.s zc s),.mp false (zz Dt.s eu []),.mp true (zz Dt.s zb []),.cells 163 [lm za b.D,.mp 1,.mp 2,.mp 3]]) wF w ?_;clear w;intro k i aE w;try dsimp only at w|-
 refine qS ?_;refine lB zc w Z (fun h=>y _ _ _ _ wF (N i (Y _ h))) fun a0 ad t aL a1 aM M w A _ af=>?_;refine q6 ?_;obtain⟨aS,w⟩:=zi w;have v:=oH (e:=zc) eZ i t.a t;simp only[zc,map_nil]at v;have A:=And.intro ad (And.intro a1 v);refine dE (pl [(0,none),(1,none),(2,none),(3,none),(4,none),(5,none),(6,none),(7,some [])]) fun _ ag=>ag _ _ ?_;refine af _ _ (r6 ?_);exact wN (eD i t.a t) a0 (M _ w)
theorem ZO(b:ai)(z:Int)(w:LF b=some z):Does prog 119 [.agg [pI b.g,pS b.j.a,pS b.j.F,pB b.j.G,pS b.x.r,pS b.x.Value,pS b.h.C,pS b.h.a,pB b.h.H,pB b.h.I]] [] (fun r X=>r=pI z/\X=[]):=by
 unfold LF at w;refine dW 0 67 [.tmp 2] func119 fun B=>nA fun A=>?_;refine qS ?_;refine qS ?_;refine qS ?_;refine dc fun e M f=>?_;obtain⟨q,v,w⟩:=zp w;have c:∀s,q s=some z->e [(3,.ptr 1 0),(4,pI s.1)] [.cells 74 [.top,.top,.top,.top,.top,.top,.top,.top,.top,.top],.cells 74 [pI 0,pS s.2.1,pS s.2.2.1,pB s.2.2.2.1,pS s.2.2.2.2.1,pS s.2.2.2.2.2.1,pS s.2.2.2.2.2.2.1,pS s.2.2.2.2.2.2.2.1,pB s.2.2.2.2.2.2.2.2.1,pB s.2.2.2.2.2.2.2.2.2]]:=by
  intro s hs;have w:=v _ hs;clear hs;obtain⟨N,i,k,l,m,n,o,p,t,u⟩:=s;try dsimp only at w|-
  refine M _ _ ?_;obtain⟨a2,O,w⟩:=ze w;obtain⟨ad,D,w⟩:=ze w;refine rS fun _ y=>?_;refine cX (fun d=>ji (!(true&&((decide (i=[]))&&((decide (k=[]))&&((decide (l=false))&&((decide (m=[]))&&((decide (n=[]))&&((decide (o=[]))&&((decide (p=[]))&&((decide (t=false))&&(decide (u=false)))))))))))) 2 _ O) ?_;refine cX (fun d=>oP [N,a2] _ D) (y _ _ ?_);exact wR
 clear M v;refine qS ?_;refine qS ?_;refine Wp.block (qS ?_);refine cN w (fun w=>?_) fun w=>?_
 .obtain⟨a3,P,w⟩:=ze w;refine eX (fun d=>ZJ b.j _ P) ?_;refine f _ _ _ _ ?_ (c (a3,[],[],false,b.x.r,b.x.Value,b.h.C,b.h.a,b.h.H,b.h.I) w);exact eP
 .refine qS ?_;refine cN w (fun w=>?_) fun w=>?_
  .obtain⟨K,Q,w⟩:=ze w;obtain⟨a7,R,w⟩:=ze w;refine rE fun _ S=>?_;refine cX (fun d=>AX b.j.a _ Q) ?_;refine cX (fun d=>ji (!K) 5 _ R) (S _ _ ?_);refine f _ _ _ _ ?_ (c (a7,[],b.j.F,b.j.G,b.x.r,b.x.Value,b.h.C,b.h.a,b.h.H,b.h.I) w);exact eP
  .refine qS ?_;refine cN w (fun w=>?_) fun w=>?_
   .obtain⟨a8,T,w⟩:=ze w;refine eX (fun d=>Z0 b.x _ T) ?_;refine f _ _ _ _ ?_ (c (a8,b.j.a,b.j.F,b.j.G,[],[],b.h.C,b.h.a,b.h.H,b.h.I) w);exact eP
   .refine qS ?_;refine cN w (fun w=>?_) fun w=>?_
    .obtain⟨a9,U,w⟩:=ze w;obtain⟨ac,V,w⟩:=ze w;refine rE fun _ W=>?_;refine cX (fun d=>AX b.x.r _ U) ?_;refine cX (fun d=>ji (!a9) 5 _ V) (W _ _ ?_);refine f _ _ _ _ ?_ (c (ac,b.j.a,b.j.F,b.j.G,[],b.x.Value,b.h.C,b.h.a,b.h.H,b.h.I) w);exact eP
    .refine qS ?_;refine cN w (fun w=>?_) fun w=>?_
     .obtain⟨Y,E,w⟩:=ze w;refine eX (fun d=>ZZ b.h _ E) ?_;refine f _ _ _ _ ?_ (c (Y,b.j.a,b.j.F,b.j.G,b.x.r,b.x.Value,[],[],false,false) w);exact eP
     .refine qS ?_;refine cT w fun w=>?_;obtain⟨Z,J,w⟩:=ze w;obtain⟨a0,L,w⟩:=ze w;refine rE fun _ a1=>?_;refine cX (fun d=>xh b.h.C _ J) ?_;refine cX (fun d=>ji (!Z) 5 _ L) (a1 _ _ ?_);refine f _ _ _ _ ?_ (c (a0,b.j.a,b.j.F,b.j.G,b.x.r,b.x.Value,[],b.h.a,b.h.H,b.h.I) w);exact eP
theorem zeA(c:eo)(b:eo)(z:Bool)(w:Px c b=some z):Does prog 140 [pS c,pS b] [] (fun r X=>r=pB z/\X=[]):=by
 unfold Px at w;refine dW 0 18 [.tmp 4] func140 fun B=>nA fun A=>?_;refine qS ?_;obtain⟨f,w⟩:=zi w;exact wQ
theorem EX(c:eo)(b:eo)(z:Bool)(w:z6 c b=some z):Does prog 112 [pS c,pS b] [] (fun r X=>r=pB z/\X=[]):=by
 unfold z6 at w;refine dW 0 8 [.tmp 4] func112 fun B=>nA fun A=>?_;refine qS ?_;obtain⟨g,f,w⟩:=ze w;refine sX (fun a=>zeA c b _ f) ?_;exact wR
theorem Na(b:eo)(c:eo)(z:Bool)(w:tg b c=some z):Does prog 52 [pS b,pS c] [] (fun r X=>r=pB z/\X=[]):=by
 unfold tg at w;refine dW 0 9 [.tmp 4] func52 fun B=>nA fun A=>?_;refine qS ?_;obtain⟨g,w⟩:=zi w;obtain⟨i,f,w⟩:=ze w;refine sX (fun a=>EX b (c++([47]:eo)) _ f) ?_;exact wR
theorem Xl(b:ai)(l:List ab)(c:List (eo×ae))(f:List (eo×eo))(k:List (eo×ah))(z:Int×(List (eo×ae))×(List (eo×eo))×(List (eo×ah)))(w:xP b l c f k=some z):Does prog 72 [.ptr 0 0,.agg [pI b.g,pS b.j.a,pS b.j.F,pB b.j.G,pS b.x.r,pS b.x.Value,pS b.h.C,pS b.h.a,pB b.h.H,pB b.h.I]] [.cells 163 [lm za l,.mp 1,.mp 2,.mp 3],.mp true (zz Dt.s zc c),.mp false (zz Dt.s eu f),.mp true (zz Dt.s zb k)] (fun r X=>r=pI z.1/\X=[.cells 163 [lm za l,.mp 1,.mp 2,.mp 3],.mp true (zz Dt.s zc z.2.1),.mp false (zz Dt.s eu z.2.2.1),.mp true (zz Dt.s zb z.2.2.2)]):=by
 unfold xP at w;refine dW 4 208 [.tmp 4] func72 fun B=>nA fun A=>?_;refine qS ?_;refine dc fun _ b9 _=>?_;obtain⟨bh,a9,w⟩:=ze w;refine sX (fun y=>ZO b _ a9) ?_;refine qS ?_;refine cR w fun w=>?_;refine Wp.skip (b9 _ _ (dc fun K8 c0 D=>?_));obtain⟨aE,Q,w⟩:=zp w;have p:∀s,aE s=some z->K8 [] [.cells 163 [lm za l,.mp 1,.mp 2,.mp 3],.mp true (zz Dt.s zc s.1),.mp false (zz Dt.s eu s.2.1),.mp true (zz Dt.s zb s.2.2)]:=by
  intro s hs;have w:=Q _ hs;clear hs;obtain⟨bc,bd,be⟩:=s;try dsimp only at w|-
  exact c0 _ _ (wQ)
 clear c0 Q;refine qS ?_;refine Wp.block (qS ?_);refine cN w (fun w=>?_) fun w=>?_
 .refine dc fun _ aF _=>?_;obtain⟨bi,aG,w⟩:=il w;have R:=ju (e:=zc) eZ c b.j.a (ae.mk [] [] false);have S:=jv (e:=zc) eZ c b.j.a;simp only[aG,zc,map_nil]at R S;have A:=And.intro R S;refine dS (pl [(0,none),(1,none),(2,none),(3,none),(4,none),(5,none),(6,none),(7,none),(8,none),(9,none),(10,none),(11,some [0,1,2,3,4,5,6,7,8,9,10]),(12,some [10]),(13,none)]) fun _ aH=>aH _ _ ?_;refine qS ?_;refine cR w fun w=>?_;refine Wp.skip (aF _ _ ?_);have ac:=Ud (e:=zc) eZ c b.j.a;have A:=ac;refine dE (pl [(0,none),(1,none),(2,none),(3,none),(4,none),(5,none),(6,none),(7,some [])]) fun _ aI=>aI _ _ ?_;refine D _ _ _ _ ?_ (p (jm c b.j.a,f,k) w);exact eP
 .refine qS ?_;refine cN w (fun w=>?_) fun w=>?_
  .refine dc fun _ aJ _=>?_;obtain⟨bj,aK,w⟩:=il w;have T:=ju (e:=eu) eZ f b.x.r [];have U:=jv (e:=eu) eZ f b.x.r;simp only[aK,eu,map_nil]at T U;have A:=And.intro T U;refine dS (pl [(0,none),(1,none),(2,none),(3,none),(4,none),(5,none),(6,none),(7,none),(8,none),(9,none),(10,none),(11,none),(12,none)]) fun _ aL=>aL _ _ ?_;refine qS ?_;refine cR w fun w=>?_;refine Wp.skip (aJ _ _ ?_);have ad:=Ud (e:=eu) eZ f b.x.r;have A:=ad;refine dE (pl [(0,none),(1,none),(2,none),(3,none),(4,none),(5,none),(6,none),(7,some [])]) fun _ aM=>aM _ _ ?_;refine D _ _ _ _ ?_ (p (c,jm f b.x.r,k) w);exact eP
  .refine qS ?_;refine cN w (fun w=>?_) fun w=>?_
   .refine dc fun _ aN _=>?_;obtain⟨bk,aO,w⟩:=il w;have V:=ju (e:=zb) eZ k b.h.C (ah.mk [] [] false false);have W:=jv (e:=zb) eZ k b.h.C;simp only[aO,zb,map_nil]at V W;have A:=And.intro V W;refine dS (pl [(0,none),(1,none),(2,none),(3,none),(4,none),(5,none),(6,none),(7,none),(8,none),(9,none),(10,none),(11,some [0,1,2,3,4,5,6,7,8,9,10]),(12,some [10]),(13,none)]) fun _ aP=>aP _ _ ?_;refine qS ?_;refine cR w fun w=>?_;refine Wp.skip (aN _ _ ?_);have af:=Ud (e:=zb) eZ k b.h.C;have A:=af;refine dE (pl [(0,none),(1,none),(2,none),(3,none),(4,none),(5,none),(6,none),(7,some [])]) fun _ aQ=>aQ _ _ ?_;refine D _ _ _ _ ?_ (p (c,f,jm k b.h.C) w);exact eP
   .refine qS ?_;refine cN w (fun w=>?_) fun w=>?_
    .refine dc fun ba K aR=>?_;obtain⟨aS,Y,w⟩:=zp w
     have a6:∀s,aS s=some z->ba [(0,.ptr 0 0),(3,.ptr 4 0)] [.cells 163 [lm za l,.mp 1,.mp 2,.mp 3],.mp true (zz Dt.s zc c),.mp false (zz Dt.s eu f),.mp true (zz Dt.s zb k),.cells 74 [pI b.g,pS b.j.a,pS b.j.F,pB b.j.G,pS b.x.r,pS b.x.Value,pS b.h.C,pS b.h.a,pB b.h.H,pB b.h.I]]:=by
      intro s hs;have w:=Y _ hs;clear hs;try dsimp only at w|-
      refine K _ _ (dc fun _ aT _=>?_);obtain⟨bl,aU,w⟩:=il w;have Z:=ju (e:=zc) eZ c b.j.a (ae.mk [] [] false);have a0:=jv (e:=zc) eZ c b.j.a;simp only[aU,zc,map_nil]at Z a0;have A:=And.intro Z a0;refine dS (pl [(0,none),(1,none),(2,none),(3,none),(4,none),(5,none),(6,none),(7,none),(8,none),(9,none),(10,none),(11,some [0,1,2,3,4,5,6,7,8,9,10]),(12,some [10]),(13,none)]) fun _ aV=>aV _ _ ?_;refine qS ?_;refine cR w fun w=>?_;refine Wp.skip (aT _ _ ?_);obtain⟨bm,w⟩:=zi w;have a1:=oH (e:=zc) eZ c b.j.a b.j;simp only[zc,map_nil]at a1;have A:=a1;refine dE (pl [(0,none),(1,none),(2,none),(3,none),(4,none),(5,none),(6,none),(7,none),(8,none),(9,some [])]) fun _ aW=>aW _ _ ?_;refine D _ _ _ _ ?_ (p (eD c b.j.a b.j,f,k) w);exact eP
     clear K Y;refine dd fun bD aX=>?_;simp only[go_sem,simprocAttr];try refine⟨sd,?_⟩
     refine Rg.range (i:=1) (ag:=?ag45) (es:=?es45) (kt:=?kt45) (et:=?et45) Is.mk Is.mk sg sg si si si ?cont45;intro t v n a2 an;replace n:=Mo n;simp only[go_sem,simprocAttr];refine kA aX ?_;refine Wp.block ?_;obtain⟨bn,aw,w⟩:=MQ w;refine Wp.forM (bs:=t) (fun u s=>[(0,.ptr 0 0),(3,.ptr 4 0),(128,.ptr 5 0)]) (fun u s=>[.cells 163 [lm za l,.mp 1,.mp 2,.mp 3],.mpb true (zz Dt.s zc c) t v,.mp false (zz Dt.s eu f),.mp true (zz Dt.s zb k),.cells 74 [pI b.g,pS b.j.a,pS b.j.F,pB b.j.G,pS b.x.r,pS b.x.Value,pS b.h.C,pS b.h.a,pB b.h.H,pB b.h.I],.it 1 v u]) n ?_ w ?_
     .exact eP
     clear w;intro u s w;try dsimp only at w|-
     refine dd fun bF E=>?_;simp only[go_sem,simprocAttr];try refine⟨by exact sd,?_⟩
     refine Rg.next (q:=5) (i:=1) (cl:=v) (bs:=t) (seen:=u) (ag:=?ag46) (es:=?es46) Is.mk Is.mk sg sg si si si sg ?hb46 a2 an ?he46 ?hs46;case hb46=>rw[BU];exact n
     case he46 =>
      intro a5;simp only[go_sem,simprocAttr];first|apply E|refine⟨by exact sd,E _ _ ?_⟩
      refine dc fun bb a7 aY=>?_;refine Wp.cond rfl ⟨⟩ (fun h=>?_) (fun h=>?_)
      .cases h
      refine dv 1 5 (by simp only[go_sem,simprocAttr];exact Is.mk) (by simp only[go_sem,simprocAttr];exact Is.mk) (by simp only[go_sem,simprocAttr]) ?_;simp only[go_sem,simprocAttr];refine Wp.exit ?_;have w:=aw _ (MC w ((EM (m:=t) n rfl).trans a5));try dsimp only at w
      refine aR _ _ _ _ ?_ (a6 () w);exact eP
     case hs46 =>
      intro br bt bf o;simp only[go_sem,simprocAttr];first|apply E|refine⟨by exact sd,E _ _ ?_⟩
      refine dc fun bb a7 aY=>?_;refine Wp.cond rfl ⟨⟩ (fun h=>?_) (fun h=>?_);rotate_left
      .cases h
      refine Wp.skip ?_;simp only[zF];refine a7 _ _ ?_;obtain⟨a8,bg,J,L,w⟩:=MR w (o.er _ n).1;replace J:=(o.er _ n).2.2.symm.trans J;refine Wp.block ?_;refine dd fun bG aZ=>?_;simp only[go_sem,simprocAttr];try refine⟨sd,?_⟩
      refine Rg.entry (q:=5) (i:=1) (cl:=v) (bs:=t) (seen:=u) (ag:=?ag49) (es:=?es49) (d:=?d49) (row:=?row49) Is.mk Is.mk sg sg si si si a2 o.hp ?he49 ?cont49;case he49=>exact MA J
      simp only[go_sem,simprocAttr];refine kA aZ ?_;obtain⟨b0,az,w⟩:=ze w;obtain⟨bv,aA,w⟩:=zs w;refine dd fun bH b1=>?_;simp only[go_sem,simprocAttr];try refine⟨sd,?_⟩
      refine dz (av:=?av51) (g:=true) (fun y=>Na a8.1 b.j.a _ az) si si si sg si ?cont51;intro bw;simp only[go_sem,simprocAttr];try refine⟨sd,?_⟩
      refine dz (av:=?av52) (g:=!b0) (fun y=>Na b.j.a a8.1 _ (aA y)) si si si sg si ?cont52;intro bx;simp only[go_sem,simprocAttr];refine kA b1 ?_;refine cM w (fun b2 w=>?_) (fun b2 w=>?_)
      .refine qS ?_;refine dv 1 5 (by simp only[go_sem,simprocAttr];exact Is.mk) (by simp only[go_sem,simprocAttr];exact Is.mk) (by simp only[go_sem,simprocAttr]) ?_;simp only[go_sem,simprocAttr];refine Wp.ret ?_;refine tO ?_;cases w;exact eP
      .refine Wp.skip ?_;simp only[zF,zB,↓reduceIte];refine⟨_,(),(xf o n (L _ w)).1,(xf o n (L _ w)).2,?_⟩;exact eP
    .refine qS ?_;refine cN w (fun w=>?_) fun w=>?_
     .refine dc fun _ b3 _=>?_;obtain⟨bz,aB,w⟩:=il w;have M:=ju (e:=eu) eZ f b.x.r [];have N:=jv (e:=eu) eZ f b.x.r;simp only[aB,eu,map_nil]at M N;have A:=And.intro M N;refine dS (pl [(0,none),(1,none),(2,none),(3,none),(4,none),(5,none),(6,none),(7,none),(8,none),(9,none),(10,none),(11,none),(12,none)]) fun _ b4=>b4 _ _ ?_;refine qS ?_;refine cR w fun w=>?_;refine Wp.skip (b3 _ _ ?_);obtain⟨bA,w⟩:=zi w;have a3:=oH (e:=eu) eZ f b.x.r b.x.Value;simp only[eu,map_nil]at a3;have A:=a3;refine dE (pl [(0,none),(1,none),(2,none),(3,none),(4,none),(5,none),(6,none),(7,none),(8,none),(9,none),(10,some [])]) fun _ b5=>b5 _ _ ?_;refine D _ _ _ _ ?_ (p (c,eD f b.x.r b.x.Value,k) w);exact eP
     .refine dc fun _ b6 _=>?_;obtain⟨bB,aC,w⟩:=il w;have O:=ju (e:=zb) eZ k b.h.C (ah.mk [] [] false false);have P:=jv (e:=zb) eZ k b.h.C;simp only[aC,zb,map_nil]at O P;have A:=And.intro O P;refine dS (pl [(0,none),(1,none),(2,none),(3,none),(4,none),(5,none),(6,none),(7,none),(8,none),(9,none),(10,none),(11,some [0,1,2,3,4,5,6,7,8,9,10]),(12,some [10]),(13,none)]) fun _ b7=>b7 _ _ ?_;refine qS ?_;refine cR w fun w=>?_;refine Wp.skip (b6 _ _ ?_);obtain⟨bC,w⟩:=zi w;have a4:=oH (e:=zb) eZ k b.h.C b.h;simp only[zb,map_nil]at a4;have A:=a4;refine dE (pl [(0,none),(1,none),(2,none),(3,none),(4,none),(5,none),(6,none),(7,none),(8,none),(9,some [])]) fun _ b8=>b8 _ _ ?_;refine D _ _ _ _ ?_ (p (c,f,eD k b.h.C b.h) w);exact eP
theorem zdm(b:List ab)(z:List ab)(w:PA b=some z):Does prog 120 [lm za b] [] (fun r X=>r=lm za z/\X=[]):=by
 unfold PA at w;refine dW 0 8 [.tmp 2] func120 fun B=>nA fun A=>?_;refine qS ?_;refine dc fun _ f _=>dd fun a g=>?_;simp only[go_sem,simprocAttr];try refine⟨sd,?_⟩
 refine dI (rows:=?rows4) (e:=?e4) (esz:=?esz4) (eb:=?eb4) (ez:=?ez4) Is.mk Is.mk sg sg si si ?cont4;intro i c;replace w:=MU w i (fun h=>map_eq_nil_iff.1 (c h));try dsimp only at w
 simp only[go_sem,simprocAttr];refine kA g ?_;refine cN w (fun w=>?_) fun w=>?_
 .refine qS ?_;refine Wp.ret ?_;simp only[zF,zB];refine gP ?_;cases w;exact eP
 .refine Wp.skip (f _ _ ?_);obtain⟨j,w⟩:=zi w;exact wQ
theorem Xm(a z:List eo)(w:UY a=some z):Does prog 147 [.buf 0] [.fx 9 1 (List.map eu a)] (fun r X=>r=.tup []/\X=[.fx 9 1 (List.map eu z)]):=by cases w;exact Does.sortS Tryz.sortL ⟨_,func147,by kernel_rfl,by kernel_rfl⟩ 9 a
theorem zh4(f:List (eo×ae))(z:List eo)(w:U5 f=some z):Does prog 121 [.mp 0] [.mp true (zz Dt.s zc f)] (fun r X=>r=lm eu z/\X=[.mp true (zz Dt.s zc f)]):=by
 unfold U5 at w;refine dW 1 18 [.tmp 2] func121 fun B=>nA fun A=>?_;refine qS ?_;refine qS ?_;refine dc fun e I O=>?_;obtain⟨P,u,w⟩:=zp w;have C:∀s,P s=some z->e [(3,.buf 2)] [.mp true (zz Dt.s zc f),.gone,.buf 9 1 (List.map eu s)]:=by
  intro D hs;have w:=u _ hs;clear hs;try dsimp only at w|-
  refine I _ _ (dm 2 (by simp only[go_sem,simprocAttr];exact Is.mk) (by simp only[go_sem,simprocAttr]) ?_);simp only[go_sem,simprocAttr];obtain⟨T,E,w⟩:=ze w;refine sO [2] (Xm D _ E) ?_;refine dn 2 (by simp only[go_sem,simprocAttr];exact Is.mk) (by simp only[go_sem,simprocAttr]) ?_;simp only[go_sem,simprocAttr];exact wQ
 clear I u;refine dd fun K Q=>?_;simp only[go_sem,simprocAttr];try refine⟨sd,?_⟩
 refine Rg.range (i:=0) (ag:=?ag8) (es:=?es8) (kt:=?kt8) (et:=?et8) Is.mk Is.mk sg sg si si si ?cont8;intro g k b n F;replace b:=Mo b;simp only[go_sem,simprocAttr];refine kA Q ?_;refine Wp.block (df 3 9 1 rfl ?_);simp only[go_sem,simprocAttr];obtain⟨U,G,w⟩:=MQ w;refine Wp.forM (bs:=g) (fun j s=>[(3,.buf 2),(6,.ptr 1 0)]) (fun j s=>[.mpb true (zz Dt.s zc f) g k,.it 0 k j,.buf 9 1 (List.map eu s)]) b ?_ w ?_
 .exact eP
 clear w;intro j o w;try dsimp only at w|-
 refine dd fun x p=>?_;simp only[go_sem,simprocAttr];try refine⟨by exact sd,?_⟩
 refine Rg.next (q:=1) (i:=0) (cl:=k) (bs:=g) (seen:=j) (ag:=?ag9) (es:=?es9) Is.mk Is.mk sg sg si si si sg ?hb9 n F ?he9 ?hs9;case hb9=>rw[BU];exact b
 case he9 =>
  intro a;simp only[go_sem,simprocAttr];first|apply p|refine⟨by exact sd,p _ _ ?_⟩
  refine dc fun R v J=>?_;refine Wp.cond rfl ⟨⟩ (fun h=>?_) (fun h=>?_)
  .cases h
  refine dv 0 1 (by simp only[go_sem,simprocAttr];exact Is.mk) (by simp only[go_sem,simprocAttr];exact Is.mk) (by simp only[go_sem,simprocAttr]) ?_;simp only[go_sem,simprocAttr];refine Wp.exit ?_;have w:=G _ (MC w ((EM (m:=g) b rfl).trans a));try dsimp only at w
  refine O _ _ _ _ ?_ (C o w);exact eP
 case hs9 =>
  intro V W S c;simp only[go_sem,simprocAttr];first|apply p|refine⟨by exact sd,p _ _ ?_⟩
  refine dc fun R v J=>?_;refine Wp.cond rfl ⟨⟩ (fun h=>?_) (fun h=>?_);rotate_left
  .cases h
  refine Wp.skip ?_;simp only[zF];refine v _ _ ?_;obtain⟨L,Y,l,t,w⟩:=MR w (c.er _ b).1;replace l:=(c.er _ b).2.2.symm.trans l;refine Wp.block ?_;refine dd fun y M=>?_;simp only[go_sem,simprocAttr];try refine⟨sd,?_⟩
  refine Rg.entry (q:=1) (i:=0) (cl:=k) (bs:=g) (seen:=j) (ag:=?ag12) (es:=?es12) (d:=?d12) (row:=?row12) Is.mk Is.mk sg sg si si si n c.hp ?he12 ?cont12;case he12=>exact MA l
  simp only[go_sem,simprocAttr];refine kA M ?_;obtain⟨Z,w⟩:=zi w;refine Wp.region fun H N=>?_;simp only[go_sem,simprocAttr];refine kA N ?_;simp only[zF,zB,↓reduceIte];refine⟨_,o++[L.1],(xf c b (t _ w)).1,(xf c b (t _ w)).2,?_⟩;exact eP
theorem zjn(f:List (eo×eo))(z:List eo)(w:U0 f=some z):Does prog 122 [.mp 0] [.mp false (zz Dt.s eu f)] (fun r X=>r=lm eu z/\X=[.mp false (zz Dt.s eu f)]):=by
 unfold U0 at w;refine dW 1 18 [.tmp 2] func122 fun B=>nA fun A=>?_;refine qS ?_;refine qS ?_;refine dc fun e I O=>?_;obtain⟨P,u,w⟩:=zp w;have C:∀s,P s=some z->e [(3,.buf 2)] [.mp false (zz Dt.s eu f),.gone,.buf 9 1 (List.map eu s)]:=by
  intro D hs;have w:=u _ hs;clear hs;try dsimp only at w|-
  refine I _ _ (dm 2 (by simp only[go_sem,simprocAttr];exact Is.mk) (by simp only[go_sem,simprocAttr]) ?_);simp only[go_sem,simprocAttr];obtain⟨T,E,w⟩:=ze w;refine sO [2] (Xm D _ E) ?_;refine dn 2 (by simp only[go_sem,simprocAttr];exact Is.mk) (by simp only[go_sem,simprocAttr]) ?_;simp only[go_sem,simprocAttr];exact wQ
 clear I u;refine dd fun K Q=>?_;simp only[go_sem,simprocAttr];try refine⟨sd,?_⟩
 refine Rg.range (i:=0) (ag:=?ag8) (es:=?es8) (kt:=?kt8) (et:=?et8) Is.mk Is.mk sg sg si si si ?cont8;intro g k b n F;replace b:=Mo b;simp only[go_sem,simprocAttr];refine kA Q ?_;refine Wp.block (df 3 9 1 rfl ?_);simp only[go_sem,simprocAttr];obtain⟨U,G,w⟩:=MQ w;refine Wp.forM (bs:=g) (fun j s=>[(3,.buf 2),(6,.ptr 1 0)]) (fun j s=>[.mpb false (zz Dt.s eu f) g k,.it 0 k j,.buf 9 1 (List.map eu s)]) b ?_ w ?_
 .exact eP
 clear w;intro j o w;try dsimp only at w|-
 refine dd fun x p=>?_;simp only[go_sem,simprocAttr];try refine⟨by exact sd,?_⟩
 refine Rg.next (q:=1) (i:=0) (cl:=k) (bs:=g) (seen:=j) (ag:=?ag9) (es:=?es9) Is.mk Is.mk sg sg si si si sg ?hb9 n F ?he9 ?hs9;case hb9=>rw[BU];exact b
 case he9 =>
  intro a;simp only[go_sem,simprocAttr];first|apply p|refine⟨by exact sd,p _ _ ?_⟩
  refine dc fun R v J=>?_;refine Wp.cond rfl ⟨⟩ (fun h=>?_) (fun h=>?_)
  .cases h
  refine dv 0 1 (by simp only[go_sem,simprocAttr];exact Is.mk) (by simp only[go_sem,simprocAttr];exact Is.mk) (by simp only[go_sem,simprocAttr]) ?_;simp only[go_sem,simprocAttr];refine Wp.exit ?_;have w:=G _ (MC w ((EM (m:=g) b rfl).trans a));try dsimp only at w
  refine O _ _ _ _ ?_ (C o w);exact eP
 case hs9 =>
  intro V W S c;simp only[go_sem,simprocAttr];first|apply p|refine⟨by exact sd,p _ _ ?_⟩
  refine dc fun R v J=>?_;refine Wp.cond rfl ⟨⟩ (fun h=>?_) (fun h=>?_);rotate_left
  .cases h
  refine Wp.skip ?_;simp only[zF];refine v _ _ ?_;obtain⟨L,Y,l,t,w⟩:=MR w (c.er _ b).1;replace l:=(c.er _ b).2.2.symm.trans l;refine Wp.block ?_;refine dd fun y M=>?_;simp only[go_sem,simprocAttr];try refine⟨sd,?_⟩
  refine Rg.entry (q:=1) (i:=0) (cl:=k) (bs:=g) (seen:=j) (ag:=?ag12) (es:=?es12) (d:=?d12) (row:=?row12) Is.mk Is.mk sg sg si si si n c.hp ?he12 ?cont12;case he12=>exact MA l
  simp only[go_sem,simprocAttr];refine kA M ?_;obtain⟨Z,w⟩:=zi w;refine Wp.region fun H N=>?_;simp only[go_sem,simprocAttr];refine kA N ?_;simp only[zF,zB,↓reduceIte];refine⟨_,o++[L.1],(xf c b (t _ w)).1,(xf c b (t _ w)).2,?_⟩;exact eP
theorem zg0(f:List (eo×ah))(z:List eo)(w:U9 f=some z):Does prog 123 [.mp 0] [.mp true (zz Dt.s zb f)] (fun r X=>r=lm eu z/\X=[.mp true (zz Dt.s zb f)]):=by
 unfold U9 at w;refine dW 1 18 [.tmp 2] func123 fun B=>nA fun A=>?_;refine qS ?_;refine qS ?_;refine dc fun e I O=>?_;obtain⟨P,u,w⟩:=zp w;have C:∀s,P s=some z->e [(3,.buf 2)] [.mp true (zz Dt.s zb f),.gone,.buf 9 1 (List.map eu s)]:=by
  intro D hs;have w:=u _ hs;clear hs;try dsimp only at w|-
  refine I _ _ (dm 2 (by simp only[go_sem,simprocAttr];exact Is.mk) (by simp only[go_sem,simprocAttr]) ?_);simp only[go_sem,simprocAttr];obtain⟨T,E,w⟩:=ze w;refine sO [2] (Xm D _ E) ?_;refine dn 2 (by simp only[go_sem,simprocAttr];exact Is.mk) (by simp only[go_sem,simprocAttr]) ?_;simp only[go_sem,simprocAttr];exact wQ
 clear I u;refine dd fun K Q=>?_;simp only[go_sem,simprocAttr];try refine⟨sd,?_⟩
 refine Rg.range (i:=0) (ag:=?ag8) (es:=?es8) (kt:=?kt8) (et:=?et8) Is.mk Is.mk sg sg si si si ?cont8;intro g k b n F;replace b:=Mo b;simp only[go_sem,simprocAttr];refine kA Q ?_;refine Wp.block (df 3 9 1 rfl ?_);simp only[go_sem,simprocAttr];obtain⟨U,G,w⟩:=MQ w;refine Wp.forM (bs:=g) (fun j s=>[(3,.buf 2),(6,.ptr 1 0)]) (fun j s=>[.mpb true (zz Dt.s zb f) g k,.it 0 k j,.buf 9 1 (List.map eu s)]) b ?_ w ?_
 .exact eP
 clear w;intro j o w;try dsimp only at w|-
 refine dd fun x p=>?_;simp only[go_sem,simprocAttr];try refine⟨by exact sd,?_⟩
 refine Rg.next (q:=1) (i:=0) (cl:=k) (bs:=g) (seen:=j) (ag:=?ag9) (es:=?es9) Is.mk Is.mk sg sg si si si sg ?hb9 n F ?he9 ?hs9;case hb9=>rw[BU];exact b
 case he9 =>
  intro a;simp only[go_sem,simprocAttr];first|apply p|refine⟨by exact sd,p _ _ ?_⟩
  refine dc fun R v J=>?_;refine Wp.cond rfl ⟨⟩ (fun h=>?_) (fun h=>?_)
  .cases h
  refine dv 0 1 (by simp only[go_sem,simprocAttr];exact Is.mk) (by simp only[go_sem,simprocAttr];exact Is.mk) (by simp only[go_sem,simprocAttr]) ?_;simp only[go_sem,simprocAttr];refine Wp.exit ?_;have w:=G _ (MC w ((EM (m:=g) b rfl).trans a));try dsimp only at w
  refine O _ _ _ _ ?_ (C o w);exact eP
 case hs9 =>
  intro V W S c;simp only[go_sem,simprocAttr];first|apply p|refine⟨by exact sd,p _ _ ?_⟩
  refine dc fun R v J=>?_;refine Wp.cond rfl ⟨⟩ (fun h=>?_) (fun h=>?_);rotate_left
  .cases h
  refine Wp.skip ?_;simp only[zF];refine v _ _ ?_;obtain⟨L,Y,l,t,w⟩:=MR w (c.er _ b).1;replace l:=(c.er _ b).2.2.symm.trans l;refine Wp.block ?_;refine dd fun y M=>?_;simp only[go_sem,simprocAttr];try refine⟨sd,?_⟩
  refine Rg.entry (q:=1) (i:=0) (cl:=k) (bs:=g) (seen:=j) (ag:=?ag12) (es:=?es12) (d:=?d12) (row:=?row12) Is.mk Is.mk sg sg si si si n c.hp ?he12 ?cont12;case he12=>exact MA l
  simp only[go_sem,simprocAttr];refine kA M ?_;obtain⟨Z,w⟩:=zi w;refine Wp.region fun H N=>?_;simp only[go_sem,simprocAttr];refine kA N ?_;simp only[zF,zB,↓reduceIte];refine⟨_,o++[L.1],(xf c b (t _ w)).1,(xf c b (t _ w)).2,?_⟩;exact eP
theorem zh1(b:List ab)(c:List (eo×ae))(f:List (eo×eo))(g:List (eo×ah))(z:aj)(w:LR b c f g=some z):Does prog 73 [.ptr 0 0] [.cells 163 [lm za b,.mp 1,.mp 2,.mp 3],.mp true (zz Dt.s zc c),.mp false (zz Dt.s eu f),.mp true (zz Dt.s zb g)] (fun r X=>r=.agg [lm za z.D,lm zc z.u,lm za z.B,lm zb z.A]/\X=[.cells 163 [lm za b,.mp 1,.mp 2,.mp 3],.mp true (zz Dt.s zc c),.mp false (zz Dt.s eu f),.mp true (zz Dt.s zb g)]):=by
 unfold LR at w;refine dW 4 85 [.cell 2 26] func73 fun B=>nA fun A=>?_;refine qS ?_;obtain⟨j,x,w⟩:=ze w;refine sF (zdm b _ x) ?_;refine dc fun y a H=>?_;obtain⟨K,t,w⟩:=zp w;have Z:∀s,K s=some z->y [(0,.ptr 0 0),(2,.ptr 4 0),(3,.ptr 5 0)] [.cells 163 [lm za b,.mp 1,.mp 2,.mp 3],.mp true (zz Dt.s zc c),.mp false (zz Dt.s eu f),.mp true (zz Dt.s zb g),.cells 26 [.nils,.nils,.nils,.nils],.cells 26 [lm za j,.buf 6,.nils,.nils],.buf 68 3 (List.map zc s)]:=by
  intro i hs;have w:=t _ hs;clear hs;try dsimp only at w|-
  refine a _ _ (dc fun K5 d aU=>?_);obtain⟨aC,v,w⟩:=zp w;have a0:∀s,aC s=some z->K5 [(0,.ptr 0 0),(2,.ptr 4 0),(3,.ptr 5 0)] [.cells 163 [lm za b,.mp 1,.mp 2,.mp 3],.mp true (zz Dt.s zc c),.mp false (zz Dt.s eu f),.mp true (zz Dt.s zb g),.cells 26 [.nils,.nils,.nils,.nils],.cells 26 [lm za j,.buf 6,.buf 7,.nils],.buf 68 3 (List.map zc i),.buf 70 2 (List.map za s)]:=by
   intro C hs;have w:=v _ hs;clear hs;try dsimp only at w|-
   refine d _ _ (dc fun K6 q aV=>?_);obtain⟨aD,E,w⟩:=zp w;have a1:∀s,aD s=some z->K6 [(2,.ptr 4 0),(3,.ptr 5 0)] [.cells 163 [lm za b,.mp 1,.mp 2,.mp 3],.mp true (zz Dt.s zc c),.mp false (zz Dt.s eu f),.mp true (zz Dt.s zb g),.cells 26 [.nils,.nils,.nils,.nils],.cells 26 [lm za j,.buf 6,.buf 7,.buf 8],.buf 68 3 (List.map zc i),.buf 70 2 (List.map za C),.buf 72 4 (List.map zb s)]:=by
    intro b1 hs;have w:=E _ hs;clear hs;try dsimp only at w|-
    exact q _ _ (wQ)
   clear q E;obtain⟨k,a2,w⟩:=ze w;refine sQ [3] (fun c0=>zg0 g _ a2) ?_;refine Wp.block (di 5 3 72 4 rfl rfl ?_);simp only[go_sem,simprocAttr];obtain⟨b6,a3,w⟩:=zq w;refine fL 66 k.length fun a4=>?_;refine Wp.forL (fun l s=>[(0,.ptr 0 0),(2,.ptr 4 0),(3,.ptr 5 0),(66,lm eu k),(67,pI (k.length:Int)),(68,pI (l:Int))]) (fun l s=>[.cells 163 [lm za b,.mp 1,.mp 2,.mp 3],.mp true (zz Dt.s zc c),.mp false (zz Dt.s eu f),.mp true (zz Dt.s zb g),.cells 26 [.nils,.nils,.nils,.nils],.cells 26 [lm za j,.buf 6,.buf 7,.buf 8],.buf 68 3 (List.map zc i),.buf 70 2 (List.map za C),.buf 72 4 (List.map zb s)]) wF w ?_;clear w;intro l F aW w;try dsimp only at w|-
   refine qS ?_;refine lB eu w a4 (fun h=>aV _ _ _ _ wF (a1 F (a3 _ h))) fun a5 aE Q b2 R aX S w A _ aF=>?_;refine q6 ?_;obtain⟨aG,aH,w⟩:=il w;have G:=ju (e:=zb) eZ g Q (ah.mk [] [] false false);have I:=jv (e:=zb) eZ g Q;simp only[aH,zb,map_nil]at G I;obtain⟨b7,w⟩:=zi w;have A:=And.intro aE (And.intro R (And.intro G I));refine dE (pl [(0,none),(1,none),(2,none),(3,none),(4,none),(5,none),(6,none),(7,none),(8,some [0,1]),(9,some []),(10,none),(11,some [])]) fun _ aI=>aI _ _ ?_;refine aF _ _ (r6 ?_);exact wN (F++[(aG.getD (ah.mk [] [] false false))]) a5 (S _ w)
  clear d v;obtain⟨m,a6,w⟩:=ze w;refine sQ [2] (fun c0=>zjn f _ a6) ?_;refine Wp.block (di 5 2 70 2 rfl rfl ?_);simp only[go_sem,simprocAttr];obtain⟨b8,a7,w⟩:=zq w;refine fL 42 m.length fun a8=>?_;refine Wp.forL (fun n s=>[(0,.ptr 0 0),(2,.ptr 4 0),(3,.ptr 5 0),(42,lm eu m),(43,pI (m.length:Int)),(44,pI (n:Int))]) (fun n s=>[.cells 163 [lm za b,.mp 1,.mp 2,.mp 3],.mp true (zz Dt.s zc c),.mp false (zz Dt.s eu f),.mp true (zz Dt.s zb g),.cells 26 [.nils,.nils,.nils,.nils],.cells 26 [lm za j,.buf 6,.buf 7,.nils],.buf 68 3 (List.map zc i),.buf 70 2 (List.map za s)]) wF w ?_;clear w;intro n J aY w;try dsimp only at w|-
  refine qS ?_;refine lB eu w a8 (fun h=>aU _ _ _ _ wF (a0 J (a7 _ h))) fun a9 aJ T b3 ac b4 U w A _ aK=>?_;refine q6 ?_;obtain⟨aL,aM,w⟩:=il w;have L:=ju (e:=eu) eZ f T [];have M:=jv (e:=eu) eZ f T;simp only[aM,eu,map_nil]at L M;obtain⟨b9,w⟩:=zi w;have A:=And.intro aJ (And.intro ac (And.intro L M));refine dE (pl [(0,none),(1,none),(2,none),(3,none),(4,none),(5,none),(6,none),(7,none),(8,none),(9,none),(10,some [0,1]),(11,some []),(12,none),(13,some [])]) fun _ aN=>aN _ _ ?_;refine aK _ _ (r6 ?_);exact wN (J++[(ab.mk T (aL.getD []))]) a9 (U _ w)
 clear a t;obtain⟨o,ad,w⟩:=ze w;refine sQ [1] (fun c0=>zh4 c _ ad) ?_;refine Wp.block (di 5 1 68 3 rfl rfl ?_);simp only[go_sem,simprocAttr];obtain⟨ba,af,w⟩:=zq w;refine fL 20 o.length fun ag=>?_;refine Wp.forL (fun p s=>[(0,.ptr 0 0),(2,.ptr 4 0),(3,.ptr 5 0),(20,lm eu o),(21,pI (o.length:Int)),(22,pI (p:Int))]) (fun p s=>[.cells 163 [lm za b,.mp 1,.mp 2,.mp 3],.mp true (zz Dt.s zc c),.mp false (zz Dt.s eu f),.mp true (zz Dt.s zb g),.cells 26 [.nils,.nils,.nils,.nils],.cells 26 [lm za j,.buf 6,.nils,.nils],.buf 68 3 (List.map zc s)]) wF w ?_;clear w;intro p N aZ w;try dsimp only at w|-
 refine qS ?_;refine lB eu w ag (fun h=>H _ _ _ _ wF (Z N (af _ h))) fun an aO V b5 W b0 Y w A _ aP=>?_;refine q6 ?_;obtain⟨aQ,aR,w⟩:=il w;have O:=ju (e:=zc) eZ c V (ae.mk [] [] false);have P:=jv (e:=zc) eZ c V;simp only[aR,zc,map_nil]at O P;obtain⟨bb,w⟩:=zi w;have A:=And.intro aO (And.intro W (And.intro O P));refine dE (pl [(0,none),(1,none),(2,none),(3,none),(4,none),(5,none),(6,none),(7,none),(8,some [0,1]),(9,some []),(10,none),(11,some [])]) fun _ aS=>aS _ _ ?_;refine aP _ _ (r6 ?_);exact wN (N++[(aQ.getD (ae.mk [] [] false))]) an (Y _ w)
theorem Ww(b:aj)(c:List ai)(z:aj×Int)(w:AD b c=some z):Does prog 20 [.agg [lm za b.D,lm zc b.u,lm za b.B,lm zb b.A],lm zg c] [] (fun r X=>r=.tup [.agg [lm za z.1.D,lm zc z.1.u,lm za z.1.B,lm zb z.1.A],pI z.2]/\X=[]):=by
 unfold AD at w;refine dW 0 35 [.cell 4 26,.tmp 5] func20 fun B=>nA fun A=>?_;refine qS ?_;refine dc fun _ P _=>?_;obtain⟨d,I,w⟩:=ze w;refine sX (fun a=>Lq b _ I) ?_;refine qS ?_;refine cN w (fun w=>?_) fun w=>?_
 .refine qS ?_;refine Wp.ret ?_;simp only[zF,zB];refine gP ?_;cases w;exact eP
 .refine Wp.skip (P _ _ ?_);obtain⟨f,J,w⟩:=ze w;refine sO [] (EK b _ J) ?_;refine dc fun Q k L=>?_;obtain⟨R,l,w⟩:=zp w
  have m:∀s,R s=some z->Q [(4,.ptr 1 0),(7,.ptr 6 0)] [.cells 26 [.top,.top,.top,.top],.cells 26 [.nils,.nils,.nils,.nils],.cells 26 [.top,.top,.top,.top],.mp true (zz Dt.s zc s.1),.mp false (zz Dt.s eu s.2.1),.mp true (zz Dt.s zb s.2.2),.cells 163 [lm za f.2.2.2,.mp 3,.mp 4,.mp 5]]:=by
   intro s hs;have w:=l _ hs;clear hs;obtain⟨t,v,C⟩:=s;try dsimp only at w|-
   refine k _ _ ?_;obtain⟨e,M,w⟩:=ze w;refine sQ [6,3,4,5] (fun a=>zh1 f.2.2.2 t v C _ M) ?_;exact wR
  clear k l;refine qS ?_;refine Wp.block ?_;obtain⟨Y,E,w⟩:=zq w;refine fL 19 c.length fun F=>?_;refine Wp.forL (fun n s=>[(4,.ptr 1 0),(7,.ptr 6 0),(19,lm zg c),(20,pI (c.length:Int)),(21,pI (n:Int))]) (fun n s=>[.cells 26 [lm za b.D,lm zc b.u,lm za b.B,lm zb b.A],.cells 26 [.nils,.nils,.nils,.nils],.cells 26 [.top,.top,.top,.top],.mp true (zz Dt.s zc s.1),.mp false (zz Dt.s eu s.2.1),.mp true (zz Dt.s zb s.2.2),.cells 163 [lm za f.2.2.2,.mp 3,.mp 4,.mp 5]]) wF w ?_;clear w;intro n s T w;obtain⟨g,i,j⟩:=s;try dsimp only at w|-
  refine qS ?_;refine lB zg w F (fun h=>L _ _ _ _ wF (m (g,i,j) (E _ h))) fun G Z S U V W o w A _ N=>?_;refine q6 ?_;obtain⟨p,O,w⟩:=ze w;refine sO [6,3,4,5] (Xl S f.2.2.2 g i j _ O) ?_;refine q6 ?_;refine cN w (fun w=>?_) fun w=>?_
  .refine q6 ?_;refine Wp.ret ?_;simp only[zF,zB];refine gP ?_;cases w;simp only[go_sem,simprocAttr,A];try exact tw
  .refine Wp.skip (N _ _ (r6 ?_));exact wN (p.2.1,p.2.2.1,p.2.2.2) G (o _ w)
theorem W0(b:ai)(c:List ab)(f:List ae)(i:List ab)(k:List ah)(z:List ab×List ae×List ab×List ah)(w:AZ b c f i k=some z):Does prog 30 [.agg [pI b.g,pS b.j.a,pS b.j.F,pB b.j.G,pS b.x.r,pS b.x.Value,pS b.h.C,pS b.h.a,pB b.h.H,pB b.h.I],.ptr 0 0] [.cells 26 [lm za c,lm zc f,lm za i,lm zb k]] (fun r X=>r=.tup []/\X=[.cells 26 [lm za z.1,lm zc z.2.1,lm za z.2.2.1,lm zb z.2.2.2]]):=by
 unfold AZ at w;refine dW 1 15 [] func30 fun B=>nA fun A=>?_;refine qS ?_;obtain⟨m,l,w⟩:=ze w;refine sF (Ww (aj.mk c f i k) [b] _ l) ?_;refine qS ?_;refine cN w (fun w=>?_) fun w=>?_
 .refine qR ?_;refine zG ?_;cases w;exact eP
 .refine Wp.skip (zG ?_);cases w;exact eP
theorem pD(b:aj)(z:aj)(w:L3 b=some z):Does prog 6 [.agg [lm za b.D,lm zc b.u,lm za b.B,lm zb b.A]] [] (fun r X=>r=.agg [lm za z.D,lm zc z.u,lm za z.B,lm zb z.A]/\X=[]):=by
 unfold L3 at w;refine dW 0 110 [.cell 2 26] func6 fun B=>nA fun A=>?_;refine qS ?_;refine qS ?_;refine dc fun y e H=>?_;obtain⟨K,T,w⟩:=zp w;have a6:∀s,K s=some z->y [(1,.ptr 0 0),(2,.ptr 1 0),(3,.ptr 2 0)] [.cells 26 [lm za b.D,lm zc b.u,lm za b.B,lm zb b.A],.cells 26 [.nils,.nils,.nils,.nils],.cells 26 [.buf 3,.nils,.nils,.nils],.buf 70 2 (List.map za s)]:=by
  intro a7 hs;have w:=T _ hs;clear hs;try dsimp only at w|-
  refine e _ _ (dm 3 (by simp only[go_sem,simprocAttr];exact Is.mk) (by simp only[go_sem,simprocAttr]) ?_);simp only[go_sem,simprocAttr];obtain⟨aI,a8,w⟩:=ze w;refine sO [3] (zbJ a7 _ a8) ?_;refine dn 3 (by simp only[go_sem,simprocAttr];exact Is.mk) (by simp only[go_sem,simprocAttr]) ?_;simp only[go_sem,simprocAttr];refine dm 3 (by simp only[go_sem,simprocAttr];exact Is.mk) (by simp only[go_sem,simprocAttr]) ?_;simp only[go_sem,simprocAttr];obtain⟨bv,a9,w⟩:=ze w;refine sO [3] (zb0 aI _ a9) ?_;refine dn 3 (by simp only[go_sem,simprocAttr];exact Is.mk) (by simp only[go_sem,simprocAttr]) ?_;simp only[go_sem,simprocAttr];refine qS ?_;refine dc fun K9 q ba=>?_;obtain⟨bb,U,w⟩:=zp w;have ac:∀s,bb s=some z->K9 [(1,.ptr 0 0),(2,.ptr 1 0),(3,.ptr 2 0),(6,.fn 30 [.ptr 2 0])] [.cells 26 [lm za b.D,lm zc b.u,lm za b.B,lm zb b.A],.cells 26 [.nils,.nils,.nils,.nils],.cells 26 [lm za s.1,lm zc s.2.1,lm za s.2.2.1,lm zb s.2.2.2]]:=by
   intro s hs;have w:=U _ hs;clear hs;obtain⟨aW,aX,aY,aZ⟩:=s;try dsimp only at w|-
   refine q _ _ (dc fun bc V aJ=>?_);obtain⟨bd,W,w⟩:=zp w;have Y:∀s,bd s=some z->bc [(1,.ptr 0 0),(2,.ptr 1 0),(3,.ptr 2 0),(6,.fn 30 [.ptr 2 0])] [.cells 26 [lm za b.D,lm zc b.u,lm za b.B,lm zb b.A],.cells 26 [.nils,.nils,.nils,.nils],.cells 26 [lm za s.1,lm zc s.2.1,lm za s.2.2.1,lm zb s.2.2.2]]:=by
    intro s hs;have w:=W _ hs;clear hs;obtain⟨b0,b1,b2,b3⟩:=s;try dsimp only at w|-
    refine V _ _ (dc fun be Z aK=>?_);obtain⟨aL,N,w⟩:=zp w;have a0:∀s,aL s=some z->be [(2,.ptr 1 0),(3,.ptr 2 0)] [.cells 26 [.top,.top,.top,.top],.cells 26 [.nils,.nils,.nils,.nils],.cells 26 [lm za s.1,lm zc s.2.1,lm za s.2.2.1,lm zb s.2.2.2]]:=by
     intro s hs;have w:=N _ hs;clear hs;obtain⟨b4,b5,b6,b7⟩:=s;try dsimp only at w|-
     exact Z _ _ (wQ)
    clear Z N;obtain⟨bw,w⟩:=zi w;refine q6 ?_;refine Wp.block ?_;obtain⟨bx,ad,w⟩:=zq w;refine fL 98 ((List.take ((min (b.A.length:Int) 40).toNat) b.A).length) fun af=>?_;refine Wp.forL (fun I s=>[(2,.ptr 1 0),(3,.ptr 2 0),(6,.fn 30 [.ptr 2 0]),(98,lm zb (List.take ((min (b.A.length:Int) 40).toNat) b.A)),(99,pI ((List.take ((min (b.A.length:Int) 40).toNat) b.A).length:Int)),(100,pI (I:Int))]) (fun I s=>[.cells 26 [lm za b.D,lm zc b.u,lm za b.B,lm zb b.A],.cells 26 [.nils,.nils,.nils,.nils],.cells 26 [lm za s.1,lm zc s.2.1,lm za s.2.2.1,lm zb s.2.2.2]]) wF w ?_;clear w;intro I s bf w;obtain⟨c,f,i,j⟩:=s;try dsimp only at w|-
    refine qS ?_;refine lB zb w af (fun h=>aK _ _ _ _ wF (a0 (c,f,i,j) (ad _ h))) fun ag bz aM bn bg bh a1 w A _ aN=>?_;refine q6 ?_;obtain⟨O,aO,w⟩:=ze w;refine eO [2] (W0 (ai.mk 5 (ae.mk [] [] false) (ab.mk [] []) aM) c f i j _ aO) ?_;refine aN _ _ (r6 ?_);exact wN (O.1,O.2.1,O.2.2.1,O.2.2.2) ag (a1 _ w)
   clear V W;obtain⟨bA,w⟩:=zi w;refine q6 ?_;refine Wp.block ?_;obtain⟨bB,an,w⟩:=zq w;refine fL 81 ((List.take ((min (b.B.length:Int) 40).toNat) b.B).length) fun av=>?_;refine Wp.forL (fun J s=>[(1,.ptr 0 0),(2,.ptr 1 0),(3,.ptr 2 0),(6,.fn 30 [.ptr 2 0]),(81,lm za (List.take ((min (b.B.length:Int) 40).toNat) b.B)),(82,pI ((List.take ((min (b.B.length:Int) 40).toNat) b.B).length:Int)),(83,pI (J:Int))]) (fun J s=>[.cells 26 [lm za b.D,lm zc b.u,lm za b.B,lm zb b.A],.cells 26 [.nils,.nils,.nils,.nils],.cells 26 [lm za s.1,lm zc s.2.1,lm za s.2.2.1,lm zb s.2.2.2]]) wF w ?_;clear w;intro J s bi w;obtain⟨k,l,m,n⟩:=s;try dsimp only at w|-
   refine qS ?_;refine lB za w av (fun h=>aJ _ _ _ _ wF (Y (k,l,m,n) (an _ h))) fun aw bC aP bo bj bk a2 w A _ aQ=>?_;refine q6 ?_;obtain⟨P,aR,w⟩:=ze w;refine eO [2] (W0 (ai.mk 3 (ae.mk [] [] false) aP (ah.mk [] [] false false)) k l m n _ aR) ?_;refine aQ _ _ (r6 ?_);exact wN (P.1,P.2.1,P.2.2.1,P.2.2.2) aw (a2 _ w)
  clear q U;obtain⟨bD,w⟩:=zi w;refine q6 ?_;refine Wp.block (Wp.freeze 3 (by simp only[go_sem,simprocAttr];exact Is.mk) (by first|(simp only[go_sem,simprocAttr];done)|(simp only[go_sem,simprocAttr];omega)) ?_);simp only[go_sem,simprocAttr];obtain⟨bF,az,w⟩:=zq w;refine fL 56 ((List.take ((min (b.u.length:Int) 40).toNat) b.u).length) fun aA=>?_;refine Wp.forL (fun L s=>[(1,.ptr 0 0),(2,.ptr 1 0),(3,.ptr 2 0),(6,.fn 30 [.ptr 2 0]),(56,lm zc (List.take ((min (b.u.length:Int) 40).toNat) b.u)),(57,pI ((List.take ((min (b.u.length:Int) 40).toNat) b.u).length:Int)),(58,pI (L:Int))]) (fun L s=>[.cells 26 [lm za b.D,lm zc b.u,lm za b.B,lm zb b.A],.cells 26 [.nils,.nils,.nils,.nils],.cells 26 [lm za s.1,lm zc s.2.1,lm za s.2.2.1,lm zb s.2.2.2],.gone]) wF w ?_;clear w;intro L s bl w;obtain⟨o,p,t,v⟩:=s;try dsimp only at w|-
  refine qS ?_;refine lB zc w aA (fun h=>ba _ _ _ _ wF (ac (o,p,t,v) (az _ h))) fun aB bG Q bp bq br a3 w A _ aS=>?_;refine q6 ?_;obtain⟨bH,w⟩:=zi w;refine q6 ?_;obtain⟨R,aT,w⟩:=ze w;refine eO [2] (W0 (ai.mk 1 (ae.mk Q.a (List.take ((min (Q.F.length:Int) 3000).toNat) Q.F) Q.G) (ab.mk [] []) (ah.mk [] [] false false)) o p t v _ aT) ?_;refine aS _ _ (r6 ?_);exact wN (R.1,R.2.1,R.2.2.1,R.2.2.2) aB (a3 _ w)
 clear e T;refine qS ?_;refine Wp.block (di 2 0 70 2 rfl rfl ?_);simp only[go_sem,simprocAttr];obtain⟨bI,aC,w⟩:=zq w;refine fL 15 b.D.length fun aD=>?_;refine Wp.forL (fun M s=>[(1,.ptr 0 0),(2,.ptr 1 0),(3,.ptr 2 0),(15,lm za b.D),(16,pI (b.D.length:Int)),(17,pI (M:Int))]) (fun M s=>[.cells 26 [lm za b.D,lm zc b.u,lm za b.B,lm zb b.A],.cells 26 [.nils,.nils,.nils,.nils],.cells 26 [.buf 3,.nils,.nils,.nils],.buf 70 2 (List.map za s)]) wF w ?_;clear w;intro M C bm w;try dsimp only at w|-
 refine qS ?_;refine lB za w aD (fun h=>H _ _ _ _ wF (a6 C (aC _ h))) fun S bJ d bs bt bu E w A _ a4=>?_;refine q6 ?_;obtain⟨aU,aE,w⟩:=ze w;obtain⟨bK,aF,w⟩:=zs w;refine rS fun _ aV=>?_;refine cX (fun x=>xh d.r _ aE) ?_;refine cX (g:=aU) (fun x=>WY d.Value _ (aF x)) (aV _ _ ?_);refine cN w (fun w=>?_) fun w=>?_
 .obtain⟨bL,w⟩:=zi w;refine r6 ?_;refine a4 _ _ (r6 ?_);exact wN (C++[d]) S (E _ w)
 .refine Wp.skip (a4 _ _ (r6 ?_));exact wN C S (E _ w)
theorem px(b:eo)(z:Bool)(w:L7 b=some z):Does prog 109 [pS b] [] (fun r X=>r=pB z/\X=[]):=by
 unfold L7 at w;refine dW 0 31 [.tmp 2] func109 fun B=>nA fun A=>?_;refine qS ?_;refine dc fun a j n=>?_;obtain⟨o,c,w⟩:=zp w;have g:∀s,o s=some z->a [(0,pS b)] []:=by
  intro s hs;have w:=c _ hs;clear hs;try dsimp only at w|-
  exact j _ _ (wQ)
 clear j c;refine qS ?_;refine Wp.block ?_;obtain⟨C,k,w⟩:=zq w;refine fL 0 b.length fun l=>?_;refine Wp.forL (fun f s=>[(0,pS b),(6,pI (b.length:Int)),(7,pI (f:Int))]) (fun f s=>[]) wF w ?_;clear w;intro f s t w;try dsimp only at w|-
 refine qS ?_;refine lS w l (fun h=>n _ _ _ _ wF (g () (k _ h))) fun m D E v u i w A _ p=>?_;refine q6 ?_;refine q6 ?_;refine q6 ?_;refine cR w fun w=>?_;refine Wp.skip (p _ _ (r6 ?_));exact wN () m (i _ w)
theorem zeP(b:Int)(z:Bool)(w:Vl b=some z):Does prog 215 [pI b] [] (fun r X=>r=pB z/\X=[]):=by
 unfold Vl at w;refine dW 0 8 [.tmp 2] func215 fun B=>nA fun A=>?_;refine qS ?_;exact wQ
theorem zfW(b:Int)(z:Int)(w:Xt b=some z):Does prog 226 [.p (.i .u64 b)] [] (fun r X=>r=pI z/\X=[]):=by
 unfold Xt at w;refine dW 0 14 [.tmp 2] func226 fun B=>nA fun A=>?_;refine qS ?_;refine dc fun _ c _=>qS ?_;refine cR w fun w=>?_;refine Wp.skip (c _ _ ?_);obtain⟨f,w⟩:=zi w;exact wQ
theorem zgu(b:Int)(z:Int)(w:U8 b=some z):Does prog 216 [.p (.i .u64 b)] [] (fun r X=>r=pI z/\X=[]):=by
 unfold U8 at w;refine dW 0 8 [.tmp 2] func216 fun B=>nA fun A=>?_;refine qS ?_;refine dc fun _ g _=>Wp.cond rfl ⟨⟩ (fun c=>?_) (fun c=>?_)
 .cases c
 refine Wp.skip (g _ _ ?_);obtain⟨j,f,w⟩:=ze w;refine sX (fun a=>zfW b _ f) ?_;exact wR
theorem zfp(c:List Int)(n:Int)(b:Int)(f:Bool)(a:Bool)(z:List Int×eo)(w:PE c n b f a=some z):Does prog 189 [lm eY c,.p (.i .u64 n),pI b,pB f,pB a] [] (fun r X=>r=.tup [lm eY z.1,pS z.2]/\X=[]):=by
 unfold PE at w;refine dW 0 102 [.tmp 10,.tmp 11] func189 fun B=>nA fun A=>?_;refine qS ?_;refine dc fun a6 d H=>?_;obtain⟨K,C,w⟩:=zp w;have Y:∀s,K s=some z->a6 [(0,lm eY c),(1,.p (.i .u64 n)),(2,pI b),(3,pB f),(4,pB a),(10,.nils),(11,pS ([]))] []:=by
  intro s hs;have w:=C _ hs;clear hs;try dsimp only at w|-
  refine d _ _ (qS ?_);refine qS ?_;refine dc fun K5 e h=>?_;obtain⟨az,D,w⟩:=zp w;have E:∀s,az s=some z->K5 [(0,lm eY c),(1,.p (.i .u64 s)),(2,pI b),(3,pB f),(4,pB a),(10,.nils),(11,pS ([])),(12,.ptr 0 0),(13,pI 65)] [.buf 260 1 (List.map eY (List.replicate 65 0))]:=by
   intro aV hs;have w:=D _ hs;clear hs;try dsimp only at w|-
   refine e _ _ (dc fun K6 q a5=>?_);obtain⟨aA,F,w⟩:=zp w;have G:∀s,aA s=some z->K6 [(0,lm eY c),(3,pB f),(4,pB a),(10,.nils),(11,pS ([])),(12,.ptr 0 0),(13,pI s.1)] [.buf 260 1 (List.map eY s.2)]:=by
    intro s hs;have w:=F _ hs;clear hs;obtain⟨o,I⟩:=s;try dsimp only at w|-
    refine q _ _ (dc fun K7 x y=>?_);obtain⟨aB,J,w⟩:=zp w;have L:∀s,aB s=some z->K7 [(0,lm eY c),(4,pB a),(10,.nils),(11,pS ([])),(12,.ptr 0 0),(13,pI s.1)] [.buf 260 1 (List.map eY s.2)]:=by
     intro s hs;have w:=J _ hs;clear hs;obtain⟨aW,aO⟩:=s;try dsimp only at w|-
     refine x _ _ (dc fun _ aL _=>qS ?_);refine cN w (fun w=>?_) fun w=>?_
     .obtain⟨aX,w⟩:=zi w;cases w
     .refine Wp.skip (aL _ _ ?_);obtain⟨aY,w⟩:=zi w;refine q6 ?_;refine Wp.ret ?_;refine gP ?_;cases w;exact jF
    clear x J;refine qS ?_;refine cN w (fun w=>?_) fun w=>?_
    .refine qS ?_;obtain⟨aZ,w⟩:=zi w;refine r6 ?_;refine y _ _ _ _ ?_ (L (IntKind.i64.wrap (o-1),List.set I ((IntKind.i64.wrap (o-1)).toNat) 45) w);exact jF
    .refine Wp.skip (y _ _ _ _ ?_ (L (o,I) w));exact jF
   clear q F;obtain⟨b0,Z,w⟩:=ze w;refine sX (fun hg=>zeP b _ Z) ?_;refine cN w (fun w=>?_) fun w=>?_
   .obtain⟨Q,a0,w⟩:=ze w;refine sX (fun hg=>zgu (IntKind.u64.wrap b) _ a0) ?_;refine qS ?_;refine qS ?_;refine dc fun aM R aC=>?_;obtain⟨aD,M,w⟩:=zp w
    have S:∀s,aD s=some z->aM [(0,lm eY c),(1,.p (.i .u64 s.1)),(3,pB f),(4,pB a),(10,.nils),(11,pS ([])),(12,.ptr 0 0),(13,pI s.2.1)] [.buf 260 1 (List.map eY s.2.2)]:=by
     intro s hs;have w:=M _ hs;clear hs;obtain⟨aE,T,a1⟩:=s;try dsimp only at w|-
     refine R _ _ (qS ?_);obtain⟨af,aP,g,w⟩:=xG w;replace g:((([48,49,50,51,52,53,54,55,56,57,97,98,99,100,101,102,103,104,105,106,107,108,109,110,111,112,113,114,115,116,117,118,119,120,121,122]:eo).getD aE.toNat 0).toNat:Int)=af:=g;obtain⟨b1,w⟩:=zi w;have A:=g;refine r6 ?_;refine a5 _ _ _ _ ?_ (G (IntKind.i64.wrap (T-1),List.set a1 ((IntKind.i64.wrap (T-1)).toNat) af) w);simp only[go_sem,simprocAttr,A];try exact uF
    clear R M;refine Wp.block ?_;obtain⟨b2,a2,w⟩:=jj w;refine Wp.loopN (fun s=>[(0,lm eY c),(1,.p (.i .u64 s.1)),(3,pB f),(4,pB a),(10,.nils),(11,pS ([])),(12,.ptr 0 0),(13,pI s.2.1),(14,.p (.i .u64 (IntKind.u64.wrap Q))),(15,.p (.i .u64 (IntKind.u64.wrap b))),(16,.p (.i .u64 (IntKind.u64.wrap ((IntKind.u64.wrap b)-1))))]) (fun s=>[.buf 260 1 (List.map eY s.2.2)]) ?_ w ?_
    .exact jF
    clear w;intro s aQ w;obtain⟨t,u,N⟩:=s;try dsimp only at w|-
    refine dc fun _ aF _=>qS ?_;refine cN w (fun w=>?_) fun w=>?_
    .refine Wp.skip (aF _ _ (Wp.block (qS ?_)));obtain⟨ag,aR,j,w⟩:=xG w;replace j:((([48,49,50,51,52,53,54,55,56,57,97,98,99,100,101,102,103,104,105,106,107,108,109,110,111,112,113,114,115,116,117,118,119,120,121,122]:eo).getD ((gv .and .u64 t (IntKind.u64.wrap ((IntKind.u64.wrap b)-1))).toNat) 0).toNat:Int)=ag:=j;obtain⟨b3,w⟩:=zi w;have A:=j;refine q6 ?_;obtain⟨b4,w⟩:=zi w;refine r6 ?_;simp only[zF,zB,↓reduceIte];refine⟨(Int.fdiv t (2^(jx .u64 (IntKind.u64.wrap Q))),IntKind.i64.wrap (u-1),List.set N ((IntKind.i64.wrap (u-1)).toNat) ag),w,?_⟩;simp only[go_sem,simprocAttr,A];try exact uF
    .refine Wp.exit ?_;simp only[zF,zB,↓reduceIte];have w:=a2 _ w;try dsimp only at w
     refine aC _ _ _ _ ?_ (S (t,u,N) w);exact jF
   .refine qS ?_;refine dc fun aN U aG=>?_;obtain⟨aH,O,w⟩:=zp w
    have V:∀s,aH s=some z->aN [(0,lm eY c),(1,.p (.i .u64 s.1)),(3,pB f),(4,pB a),(10,.nils),(11,pS ([])),(12,.ptr 0 0),(13,pI s.2.1)] [.buf 260 1 (List.map eY s.2.2)]:=by
     intro s hs;have w:=O _ hs;clear hs;obtain⟨aI,W,a3⟩:=s;try dsimp only at w|-
     refine U _ _ (qS ?_);obtain⟨an,aS,k,w⟩:=xG w;replace k:((([48,49,50,51,52,53,54,55,56,57,97,98,99,100,101,102,103,104,105,106,107,108,109,110,111,112,113,114,115,116,117,118,119,120,121,122]:eo).getD aI.toNat 0).toNat:Int)=an:=k;obtain⟨b5,w⟩:=zi w;have A:=k;refine r6 ?_;refine a5 _ _ _ _ ?_ (G (IntKind.i64.wrap (W-1),List.set a3 ((IntKind.i64.wrap (W-1)).toNat) an) w);simp only[go_sem,simprocAttr,A];try exact uF
    clear U O;refine Wp.block ?_;obtain⟨b6,a4,w⟩:=jj w;refine Wp.loopN (fun s=>[(0,lm eY c),(1,.p (.i .u64 s.1)),(3,pB f),(4,pB a),(10,.nils),(11,pS ([])),(12,.ptr 0 0),(13,pI s.2.1),(17,.p (.i .u64 (IntKind.u64.wrap b)))]) (fun s=>[.buf 260 1 (List.map eY s.2.2)]) ?_ w ?_
    .exact jF
    clear w;intro s aT w;obtain⟨l,v,P⟩:=s;try dsimp only at w|-
    refine dc fun _ aJ _=>qS ?_;refine cN w (fun w=>?_) fun w=>?_
    .refine Wp.skip (aJ _ _ (Wp.block (qS ?_)));obtain⟨b7,w⟩:=zi w;refine q6 ?_;obtain⟨av,aU,m,w⟩:=xG w;replace m:((([48,49,50,51,52,53,54,55,56,57,97,98,99,100,101,102,103,104,105,106,107,108,109,110,111,112,113,114,115,116,117,118,119,120,121,122]:eo).getD ((IntKind.u64.wrap (l-(IntKind.u64.wrap ((IntKind.u64.wrap (Int.tdiv l (IntKind.u64.wrap b)))*(IntKind.u64.wrap b))))).toNat) 0).toNat:Int)=av:=m;obtain⟨b8,w⟩:=zi w;have A:=m;refine q6 ?_;refine r6 ?_;simp only[zF,zB,↓reduceIte];refine⟨(IntKind.u64.wrap (Int.tdiv l (IntKind.u64.wrap b)),IntKind.i64.wrap (v-1),List.set P ((IntKind.i64.wrap (v-1)).toNat) av),w,?_⟩;simp only[go_sem,simprocAttr,A];try exact uF
    .refine Wp.exit ?_;simp only[zF,zB,↓reduceIte];have w:=a4 _ w;try dsimp only at w
     refine aG _ _ _ _ ?_ (V (l,v,P) w);exact jF
  clear e D;refine qS ?_;refine cN w (fun w=>?_) fun w=>?_
  .refine qR ?_;refine h _ _ _ _ ?_ (E (IntKind.u64.wrap (-n)) w);exact jF
  .refine Wp.skip (h _ _ _ _ ?_ (E n w));exact jF
 clear d C;refine qS ?_;refine cN w (fun w=>?_) fun w=>?_
 .cases w
 .refine Wp.skip (H _ _ _ _ ?_ (Y () w));exact jF
theorem zfq(c:Int)(b:Int)(z:eo)(w:U7 c b=some z):Does prog 160 [.p (.i .u64 c),pI b] [] (fun r X=>r=pS z/\X=[]):=by
 unfold U7 at w;refine dW 0 32 [.tmp 4] func160 fun B=>nA fun A=>?_;refine qS ?_;refine dc fun _ g _=>qS ?_;refine cN w (fun w=>?_) fun w=>?_
 .refine dc fun _ j _=>qS ?_;refine cN w (fun w=>?_) fun w=>?_
  .cases w
  .refine Wp.skip (j _ _ (qS ?_));cases w
 .refine Wp.skip (g _ _ ?_);obtain⟨k,f,w⟩:=ze w;refine sF (zfp [] c b false false _ f) ?_;exact wQ
theorem zhX(c:Int)(b:Int)(z:eo)(w:Ps c b=some z):Does prog 137 [.p (.i .u64 c),pI b] [] (fun r X=>r=pS z/\X=[]):=by
 unfold Ps at w;refine dW 0 8 [.tmp 4] func137 fun B=>nA fun A=>?_;refine qS ?_;obtain⟨g,f,w⟩:=ze w;refine sX (fun a=>zfq c b _ f) ?_;exact wR
end Go.Proofs.YteofmaagnphonaaGreatDoor
