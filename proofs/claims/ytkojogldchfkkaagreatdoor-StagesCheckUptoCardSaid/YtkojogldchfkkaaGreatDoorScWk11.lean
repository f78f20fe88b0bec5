/- That the code does what the models say (part 11). -/
import Derived.Test.YtkojogldchfkkaaGreatDoorScWk0
import Derived.Test.YtkojogldchfkkaaGreatDoorScWk2
import Derived.Test.YtkojogldchfkkaaGreatDoorScWk10
set_option linter.unusedSimpArgs false
set_option linter.unusedVariables false
open Go.Proofs Go.Shelf
open List
namespace Go.Proofs.YtkojogldchfkkaaGreatDoor
open Tryz
open Go.Vc Go.Md
set_option maxRecDepth 100000
set_option maxHeartbeats 4000000
theorem Ri(b:eA)(z:Int×Bool)(hm:HF b=some z):Does prog 165 [pS b] [] (fun r X=>r=.tup [pI z.1,pB z.2]/\X=[]):=by
 unfold HF at hm
 refine dW 0 47 [.tmp 2,.tmp 3] func165 fun B=>nA fun hA=>?_
 refine qS ?_
 refine df fun _ D _=>?_
 obtain⟨L,hm⟩:=zh hm;refine q6 ?_
 refine cR hm fun hm=>?_
 refine Wp.skip (D _ _ (df fun K6 n E=>?_));obtain⟨F,g,hm⟩:=zj hm
 have j:∀s,F s=some z->K6 [(0,pS b)] []:=by
  intro s hs;have hm:=g _ hs;clear hs
  try dsimp only at hm|-
  refine n _ _ ?_;obtain⟨M,o,hm⟩:=zd hm;refine sF (PU b _ o) ?_
  refine dS (pl [(0,none),(1,none),(2,none),(3,none),(4,none)]) fun _ G=>G _ _ ?_
  exact wR
 clear n g;refine qS ?_;refine Wp.block ?_;obtain⟨N,p,hm⟩:=zl hm
 refine fL 0 b.length fun t=>?_
 refine Wp.forL (fun i s=>[(0,pS b),(4,pI (i:Int))]) (fun i s=>[]) wF hm ?_;clear hm;intro i s I hm
 try dsimp only at hm|-
 refine df fun _ u _=>qS ?_
 refine Wp.cond rfl ⟨⟩ (fun f=>?_) fun f=>Wp.exit (E _ _ _ _ wF (j () (p _ (pw hm (uA f)))))
 have c:=rm f;have v:=pz c t;obtain⟨O,J,k,l,m,hm⟩:=py hm c;clear k;refine Wp.skip ?_;simp only[zy];refine u _ _ (df fun _ C _=>Wp.block ?_);have hA:=And.intro v l;refine q6 ?_
 refine cR hm fun hm=>?_
 refine Wp.skip (C _ _ (r6 ?_));exact wN () c (m _ hm)
theorem Qk(n:Int)(o0:eA)(z:Unit)(hm:H7 n o0=some z):Does prog 178 [.ptr 0 0,pI n] [.cells 154 [.np 0,.buf 1],.sb 5 o0] (fun r X=>r=.tup []/\X=[.cells 154 [.np 0,.buf 1],.sb 5 o0]):=by
 obtain⟨h,-⟩:=zh hm;obtain⟨k,rfl⟩:=Int.eq_ofNat_of_zero_le h.1;exact Does.grow As At k o0 (by omega)
theorem SH(b:eA)(z:Unit)(hm:Ql b=some z):Does prog 167 [.ptr 0 0] [.cells 154 [.nil,.buf 1],.sb 5 b] (fun r X=>r=.tup []/\X=[.cells 154 [.ptr 0 0,.buf 1],.sb 5 b]):=by
 unfold Ql at hm
 refine dW 2 20 [] func167 fun B=>nA fun hA=>?_
 refine qS ?_;refine Wp.cond rfl ⟨⟩ (fun c=>?_) (fun c=>?_)
 rotate_left
 .cases c
 refine Wp.region fun K3 f=>?_
 simp only[go_sem,simprocAttr]
 try refine⟨sd,?_⟩
 refine eo (v:=?av4) (g:=true) Ah si si sg ?cont4;simp only[go_sem,simprocAttr];refine kA f ?_;refine uy ?_;cases hm;exact tr
theorem SI(b:eA)(z:Unit)(hm:Qm b=some z):Does prog 167 [.ptr 0 0] [.cells 154 [.ptr 0 0,.buf 1],.sb 5 b] (fun r X=>r=.tup []/\X=[.cells 154 [.ptr 0 0,.buf 1],.sb 5 b]):=by
 unfold Qm at hm
 refine dW 2 20 [] func167 fun B=>nA fun hA=>?_
 refine qS ?_;refine Wp.cond rfl ⟨⟩ (fun c=>?_) (fun c=>?_)
 .cases c
 refine qS ?_;refine Wp.cond rfl ⟨⟩ (fun f=>?_) (fun f=>?_)
 .cases f
 refine Wp.skip (uy ?_);cases hm;exact tr
theorem Qu(o0:eA)(z:Unit)(hm:Lq o0=some z):Does prog 167 [.ptr 0 0] [.cells 154 [.np 0,.buf 1],.sb 5 o0] (fun r X=>r=.tup []/\X=[.cells 154 [.np 0,.buf 1],.sb 5 o0]) :=
 Does.np (SH o0 () rfl) (SI o0 () rfl)
theorem zk(c:eA)(b:eA)(z:Int×eA)(hm:zi c b=some z):Does prog 129 [.ptr 0 0,pS c] [.cells 154 [.np 0,.buf 1],.sb 5 b] (fun r X=>r=.tup [pI z.1,.raw .nilIface]/\X=[.cells 154 [.np 0,.buf 1],.sb 5 z.2]):=by
 unfold zi at hm
 refine dW 2 19 [.tmp 4,.tmp 5] func129 fun B=>nA fun hA=>?_
 refine qS ?_;obtain⟨g,f,hm⟩:=zd hm;refine sO [0,1] (Qu b _ f) ?_;obtain⟨i,hm⟩:=zh hm;refine q6 ?_;exact wQ
theorem H8(b:eA)(z:eA)(hm:zA b=some z):Does prog 134 [.ptr 0 0] [.cells 154 [.np 0,.buf 1],.sb 5 b] (fun r X=>r=pS z/\X=[.cells 154 [.np 0,.buf 1],.sb 5 b]):=by
 unfold zA at hm
 refine dW 2 14 [.tmp 2] func134 fun B=>nA fun hA=>?_
 refine qS ?_
 refine dS (pl [(0,none),(1,none),(2,none),(3,none),(5,none),(6,none),(7,none),(8,none),(9,none),(4,some [5,6,7,8,9]),(10,some []),(11,none)]) fun _ c=>c _ _ ?_
 exact wR
theorem PV(b:List eA)(c:eA)(z:eA)(hm:yN b c=some z):Does prog 143 [lm eD b,pS c] [] (fun r X=>r=pS z/\X=[]):=by
 unfold yN at hm
 refine dW 0 75 [.tmp 4] func143 fun B=>nA fun hA=>?_
 refine qS ?_
 refine df fun _ ad _=>qS ?_
 refine Wp.block (qS ?_)
 refine cR hm fun hm=>?_
 refine qS ?_
 refine cN hm (fun hm=>?_) fun hm=>?_
 .obtain⟨af,ay,g,az,hm⟩:=fV hm
  replace g:∀d,(List.map eD b).getD 0 d=eD af:=g eD;have hA:=g;exact wQ
 .refine Wp.skip (ad _ _ (qS ?_))
  refine df fun ag o p=>?_
  obtain⟨an,t,hm⟩:=zj hm
  have l:∀s,an s=some z->ag [(0,lm eD b),(1,pS c),(5,pI s)] []:=by
   intro aG hs;have hm:=t _ hs;clear hs
   try dsimp only at hm|-
   refine o _ _ (df fun ao u Z=>?_);obtain⟨ap,v,hm⟩:=zj hm
   have C:∀s,ap s=some z->ao [(0,lm eD b),(1,pS c),(5,pI s)] []:=by
    intro a0 hs;have hm:=v _ hs;clear hs
    try dsimp only at hm|-
    refine u _ _ (qS ?_);refine dC 0 5 rfl ?_;simp only[go_sem,simprocAttr];obtain⟨aH,M,hm⟩:=zd hm;refine sO [0,1] (Qk a0 [] _ M) ?_;obtain⟨Y,aA,f,aB,hm⟩:=fV hm;replace f:∀d,(List.map eD b).getD 0 d=eD Y:=f eD;obtain⟨aI,N,hm⟩:=zd hm;have hA:=f;refine sO [0,1] (zk Y [] _ N) ?_
    refine df fun aq D a1=>?_
    obtain⟨ar,E,hm⟩:=zj hm
    have F:∀s,ar s=some z->aq [(8,.ptr 0 0)] [.cells 154 [.np 0,.buf 1],.sb 5 s]:=by
     intro O hs;have hm:=E _ hs;clear hs
     try dsimp only at hm|-
     refine D _ _ ?_;obtain⟨aJ,P,hm⟩:=zd hm;refine sO [0,1] (H8 O _ P) ?_;exact wR
    clear D E;obtain⟨aK,hm⟩:=zh hm;refine q6 ?_;refine Wp.block ?_;obtain⟨aL,Q,hm⟩:=zl hm
    refine fL 63 ((List.drop 1 b).length) fun R=>?_
    refine Wp.forL (fun G s=>[(1,pS c),(8,.ptr 0 0),(63,lm eD (List.drop 1 b)),(64,pI ((List.drop 1 b).length:Int)),(65,pI (G:Int))]) (fun G s=>[.cells 154 [.np 0,.buf 1],.sb 5 s]) ?_ hm ?_
    .simp only[go_sem,simprocAttr,hA]
     try exact QA
    clear hm;intro G n aC hm
    try dsimp only at hm|-
    refine q6 ?_
    refine df fun _ a2 _=>Wp.cond rfl ⟨⟩ (fun i=>?_) (fun i=>?_)
    rotate_left
    .refine Wp.exit ?_
     have hm:=Q _ (pw hm (jh (by first|exact i|simpa using i)))
     try dsimp only at hm
     refine a1 _ _ _ _ ?_ (F n hm);simp only[go_sem,simprocAttr,hA]
     try exact QA
    have j:=rm i;have a3:=pz j R;obtain⟨au,aD,k,aE,I,hm⟩:=py hm j;replace k:=k eD;refine Wp.skip ?_;simp only[zy];refine a2 _ _ (df fun _ a4 _=>Wp.block ?_);have hA:=And.intro f (And.intro a3 k);refine q6 ?_;obtain⟨a5,S,hm⟩:=zd hm;refine sO [0,1] (zk c n _ S) ?_;obtain⟨a6,T,hm⟩:=zd hm;refine eO [0,1] (zk au a5.2 _ T) ?_;refine a4 _ _ (r6 ?_);exact wN a6.2 j (I _ hm)
   clear u v;refine qS ?_;refine Wp.block ?_;obtain⟨aM,U,hm⟩:=zl hm
   refine fL 0 b.length fun V=>?_
   refine Wp.forL (fun m s=>[(0,lm eD b),(1,pS c),(5,pI s),(39,lm eD b),(40,pI (b.length:Int)),(41,pI (m:Int))]) (fun m s=>[]) wF hm ?_;clear hm;intro m J av hm
   try dsimp only at hm|-
   refine qS ?_
   refine lB eD hm V (fun h=>Z _ _ _ _ wF (C J (U _ h))) fun W aN a7 aF aw ax L hm hA _ a8=>?_
   refine q6 ?_
   refine df fun _ a9 _=>q6 ?_
   refine cN hm (fun hm=>?_) fun hm=>?_
   .cases hm
   .refine Wp.skip (a9 _ _ (r6 ?_))
    refine a8 _ _ (r6 ?_);exact wN (IntKind.i64.wrap (J+(a7.length:Int))) W (L _ hm)
  clear o t;refine qS ?_
  refine cN hm (fun hm=>?_) fun hm=>?_
  .refine df fun _ ac _=>?_
   obtain⟨aO,hm⟩:=zh hm;refine q6 ?_
   refine cN hm (fun hm=>?_) fun hm=>?_
   .cases hm
   .refine Wp.skip (ac _ _ (qR ?_))
    refine p _ _ _ _ ?_ (l (IntKind.i64.wrap (0+(IntKind.i64.wrap ((c.length:Int)*(IntKind.i64.wrap ((b.length:Int)-1)))))) hm);exact tr
  .refine Wp.skip (p _ _ _ _ ?_ (l 0 hm))
   exact tr
theorem SB(c:eA)(b:eA)(z:eA×eA×Bool)(hm:Lc c b=some z):Does prog 221 [pS c,pS b] [] (fun r X=>r=.tup [pS z.1,pS z.2.1,pB z.2.2]/\X=[]):=by
 unfold Lc at hm
 refine dW 0 23 [.tmp 4,.tmp 5,.tmp 6] func221 fun B=>nA fun hA=>?_
 refine qS ?_
 refine df fun _ g _=>?_
 obtain⟨j,f,hm⟩:=zd hm;refine sX (fun hg=>Qv c b _ f) ?_;refine qS ?_
 refine cN hm (fun hm=>?_) fun hm=>?_
 .obtain⟨k,hm⟩:=zh hm
  obtain⟨l,hm⟩:=zh hm
  refine dS (pl [(0,none),(1,none),(2,none),(3,none),(4,none),(5,none),(6,none),(7,none),(8,none),(9,none),(10,none),(11,none)]) fun _ i=>i _ _ ?_
  exact wR
 .exact Wp.skip (g _ _ (wQ))
theorem HK(c:eA)(b:eA)(z:eA×eA×Bool)(hm:x9 c b=some z):Does prog 174 [pS c,pS b] [] (fun r X=>r=.tup [pS z.1,pS z.2.1,pB z.2.2]/\X=[]):=by
 unfold x9 at hm
 refine dW 0 13 [.tmp 4,.tmp 5,.tmp 6] func174 fun B=>nA fun hA=>?_
 refine qS ?_;obtain⟨g,f,hm⟩:=zd hm;refine sX (fun hg=>SB c b _ f) ?_;exact wR
theorem P8(b:eA)(c:Int)(z:Int)(hm:FU b c=some z):Does prog 268 [pS b,.p (.i .u8 c)] [] (fun r X=>r=pI z/\X=[]):=by
 unfold FU at hm
 refine dW 0 8 [.tmp 4] func268 fun B=>nA fun hA=>?_
 refine qS ?_;obtain⟨g,f,hm⟩:=zd hm;refine sX (fun hg=>Qq b c _ f) ?_;exact wR
theorem Q0(g:eA)(z:Int×Int)(hm:Hj g=some z):Does prog 267 [pS g] [] (fun r X=>r=.tup [.p (.i .u8 z.1),pI z.2]/\X=[]):=by
 unfold Hj at hm
 refine dW 0 61 [.tmp 2,.tmp 3] func267 fun B=>nA fun hA=>?_
 refine qS ?_
 refine df fun _ u _=>Wp.block (qS ?_)
 refine cR hm fun hm=>?_
 obtain⟨v,C,b,hm⟩:=mL hm;replace b:((g.getD 0 0).toNat:Int)=v:=b;have hA:=b;refine q6 ?_
 refine cR hm fun hm=>?_
 refine q6 ?_
 refine cR hm fun hm=>?_
 refine q6 ?_
 refine cR hm fun hm=>?_
 refine Wp.skip (u _ _ ?_);obtain⟨j,D,c,hm⟩:=mL hm;replace c:((g.getD 1 0).toNat:Int)=j:=c;obtain⟨F,l,hm⟩:=zd hm;obtain⟨k,E,f,hm⟩:=mL hm;replace f:((g.getD 2 0).toNat:Int)=k:=f;obtain⟨G,m,hm⟩:=zd hm;have hA:=And.intro b (And.intro c f)
 refine dS (pl [(0,none),(1,none),(2,none),(3,none),(4,none),(5,none),(6,none),(7,none)]) fun _ n=>?_
 refine cD (fun hg=>P8 ([48,49,50,51,52,53,54,55,56,57,97,98,99,100,101,102]:eA) j _ l) ?_;refine cD (fun hg=>P8 ([48,49,50,51,52,53,54,55,56,57,97,98,99,100,101,102]:eA) k _ m) (n _ _ ?_)
 refine df fun _ o _=>q6 ?_
 refine cR hm fun hm=>?_
 refine Wp.skip (o _ _ (q6 ?_))
 refine df fun _ t _=>q6 ?_
 refine cR hm fun hm=>?_
 exact Wp.skip (t _ _ (wQ))
theorem PS(b:eA)(z:eA×Int)(hm:Fy b=some z):Does prog 259 [pS b] [] (fun r X=>r=.tup [pS z.1,pI z.2]/\X=[]):=by
 unfold Fy at hm
 refine dW 0 74 [.tmp 2,.tmp 3] func259 fun B=>nA fun hA=>?_
 refine qS ?_
 refine df fun _ D _=>?_
 obtain⟨Q,hm⟩:=zh hm;obtain⟨R,hm⟩:=zh hm;refine q6 ?_
 refine cR hm fun hm=>?_
 refine Wp.skip (D _ _ ?_);obtain⟨L,hm⟩:=zh hm;refine q6 ?_;obtain⟨M,hm⟩:=zh hm;refine q6 ?_
 refine df fun K8 m E=>?_
 obtain⟨F,i,hm⟩:=zj hm
 have l:∀s,F s=some z->K8 [(4,.buf 0)] [.buf 5 1 (List.map fv s)]:=by
  intro G hs;have hm:=i _ hs;clear hs
  try dsimp only at hm|-
  exact m _ _ (wQ)
 clear m i;refine qS ?_;refine Wp.block ?_;obtain⟨S,p,hm⟩:=jG hm;refine Wp.loopN (fun s=>[(0,pS (List.take ((IntKind.i64.wrap ((b.length:Int)-1)).toNat-1) (List.drop 1 b))),(4,.buf 0),(5,pI s.1)]) (fun s=>[.buf 5 1 (List.map fv s.2)]) ?_ hm ?_
 .exact fI
 clear hm;intro s I hm;obtain⟨g,f⟩:=s
 try dsimp only at hm|-
 refine df fun _ t _=>qS ?_
 refine cN hm (fun hm=>?_) fun hm=>?_
 .refine Wp.skip (t _ _ (df fun _ j _=>Wp.block ?_))
  obtain⟨n,J,c,hm⟩:=mL hm;replace c:(((List.take ((IntKind.i64.wrap ((b.length:Int)-1)).toNat-1) (List.drop 1 b)).getD g.toNat 0).toNat:Int)=n:=c;have hA:=c;refine q6 ?_
  refine df fun _ u _=>q6 ?_
  refine cR hm fun hm=>?_
  refine Wp.skip (u _ _ (df fun _ k _=>q6 ?_))
  refine cN hm (fun hm=>?_) fun hm=>?_
  .obtain⟨N,hm⟩:=zh hm
   obtain⟨o,v,hm⟩:=zd hm;refine sX (fun hg=>Q0 (List.drop ((IntKind.i64.wrap (g+1)).toNat) (List.take ((IntKind.i64.wrap ((b.length:Int)-1)).toNat-1) (List.drop 1 b))) _ v) ?_
   refine df fun _ C _=>q6 ?_
   refine cR hm fun hm=>?_
   refine Wp.skip (C _ _ (r6 ?_));refine k _ _ ?_;obtain⟨O,hm⟩:=zh hm;refine r6 ?_;refine j _ _ (r6 ?_);simp only[zy,zq,↓reduceIte];refine⟨(IntKind.i64.wrap ((IntKind.i64.wrap (g+o.2))+1),f++[o.1]),hm,?_⟩;simp only[go_sem,simprocAttr,hA]
   try exact lF
  .refine Wp.skip (k _ _ ?_)
   obtain⟨P,hm⟩:=zh hm;refine r6 ?_;refine j _ _ (r6 ?_);simp only[zy,zq,↓reduceIte];refine⟨(IntKind.i64.wrap (g+1),f++[n]),hm,?_⟩;simp only[go_sem,simprocAttr,hA]
   try exact lF
 .refine Wp.exit ?_
  simp only[zy,zq,↓reduceIte];have hm:=p _ hm
  try dsimp only at hm
  refine E _ _ _ _ ?_ (l f hm);exact fI
theorem Pw(b:eA)(z:Bool)(hm:Hb b=some z):Does prog 260 [pS b] [] (fun r X=>r=pB z/\X=[]):=by
 unfold Hb at hm
 refine dW 0 9 [.tmp 2] func260 fun B=>nA fun hA=>?_
 refine qS ?_;exact wQ
theorem RJ(J:eA)(z:ak×Bool)(hm:FJ J=some z):Does prog 243 [pS J] [] (fun r X=>r=.tup [.agg [pS z.1.A,pS z.1.C.a,pS z.1.C.q,pB z.1.C.r,pS z.1.D.e,pS z.1.D.Value,pS z.1.B.j,pS z.1.B.a,pB z.1.B.u,pB z.1.B.t],pB z.2]/\X=[]):=by
 unfold FJ at hm
 refine dW 0 147 [.cell 2 228,.tmp 3] func243 fun B=>nA fun hA=>?_
 refine qS ?_;obtain⟨b,U,hm⟩:=zd hm;refine sX (fun hg=>HK J ([32]:eA) _ U) ?_;obtain⟨f,V,hm⟩:=zd hm;refine sX (fun hg=>HK b.2.1 ([32]:eA) _ V) ?_
 refine df fun _ a2 _=>qS ?_
 refine cR hm fun hm=>?_
 refine Wp.skip (a2 _ _ (qS ?_))
 refine df fun _ m _=>qS ?_
 refine Wp.block (df fun a3 L M=>?_);obtain⟨a4,N,hm⟩:=zj hm
 have E:∀s,a4 s=some z->a3 [(2,.ptr 0 0),(4,pS b.1),(7,pS f.1),(8,pS f.2.1),(9,pB f.2.2),(10,.ptr 1 0),(37,pS b.1),(38,pB s)] [.cells 228 [pS ([]),pS ([]),pS ([]),pB false,pS ([]),pS ([]),pS ([]),pS ([]),pB false,pB false],.cells 228 [pS b.1,pS ([]),pS ([]),pB false,pS ([]),pS ([]),pS ([]),pS ([]),pB false,pB false]]:=by
  intro a5 hs;have hm:=N _ hs;clear hs
  try dsimp only at hm|-
  refine L _ _ (cN hm (fun hm=>?_) fun hm=>?_)
  .obtain⟨ar,Q,hm⟩:=zd hm
   refine sX (fun hg=>PS f.2.1 _ Q) ?_;refine qS ?_;exact wQ
  .refine df fun a6 O n=>?_
   obtain⟨a7,P,hm⟩:=zj hm
   have k:∀s,a7 s=some z->a6 [(2,.ptr 0 0),(4,pS b.1),(7,pS f.1),(8,pS f.2.1),(9,pB f.2.2),(10,.ptr 1 0),(37,pS b.1),(56,pB s)] [.cells 228 [pS ([]),pS ([]),pS ([]),pB false,pS ([]),pS ([]),pS ([]),pS ([]),pB false,pB false],.cells 228 [pS b.1,pS ([]),pS ([]),pB false,pS ([]),pS ([]),pS ([]),pS ([]),pB false,pB false]]:=by
    intro a8 hs;have hm:=P _ hs;clear hs
    try dsimp only at hm|-
    refine O _ _ (cN hm (fun hm=>?_) fun hm=>?_)
    .obtain⟨au,R,hm⟩:=zd hm
     refine sX (fun hg=>PS f.2.1 _ R) ?_;refine qS ?_;exact wQ
    .refine qS ?_
     refine cN hm (fun hm=>?_) fun hm=>?_
     .obtain⟨c,W,hm⟩:=zd hm
      refine sF (HY f.2.1 ([32]:eA) _ W) ?_
      refine df fun _ Y _=>?_
      obtain⟨av,hm⟩:=zh hm;obtain⟨aw,hm⟩:=zh hm;obtain⟨Z,S,hm⟩:=zx hm;obtain⟨ax,hm⟩:=zh hm;obtain⟨ay,T,hm⟩:=zx hm;have F:=uP (l:=c) (e:=eD) (d:=[]) (i:=0);simp only[eD,map_nil]at F;have G:=uP (l:=c) (e:=eD) (d:=[]) (i:=1);simp only[eD,map_nil]at G;have I:=uP (l:=c) (e:=eD) (d:=[]) (i:=2);simp only[eD,map_nil]at I;have hA:=And.intro F (And.intro G I)
      refine rS fun _ a0=>?_
      refine cX (g:=!(((!f.2.2)||(!decide ((c.length:Int)=3)))||(decide ((c.getD 0 [])=[])))) (fun hg=>Pw (c.getD 1 []) _ (S hg)) ?_;refine cX (g:=!((((!f.2.2)||(!decide ((c.length:Int)=3)))||(decide ((c.getD 0 [])=[])))||(!Z))) (fun hg=>Pw (c.getD 2 []) _ (T hg)) (a0 _ _ ?_)
      refine cR hm fun hm=>?_
      refine Wp.skip (Y _ _ ?_);obtain⟨a9,af,o,ag,hm⟩:=fV hm;replace o:∀d,(List.map eD c).getD 0 d=eD a9:=o eD;obtain⟨ac,an,p,ao,hm⟩:=fV hm;replace p:∀d,(List.map eD c).getD 1 d=eD ac:=p eD;obtain⟨ad,ap,v,aq,hm⟩:=fV hm;replace v:∀d,(List.map eD c).getD 2 d=eD ad:=v eD;have hA:=And.intro o (And.intro p v)
      refine dS (pl [(0,none),(1,none),(2,none),(3,none),(4,none),(5,none),(6,none),(7,none),(8,none),(9,none),(10,none),(11,none),(12,none),(13,none),(14,some [])]) fun _ a1=>a1 _ _ ?_
      exact wQ
     .refine qS ?_
      refine cN hm (fun hm=>?_) fun hm=>?_
      .refine qR ?_
       exact m _ _ (wQ)
      .refine qS ?_
       refine cN hm (fun hm=>?_) fun hm=>?_
       .refine qR ?_
        exact m _ _ (wQ)
       .refine qS ?_
        refine cN hm (fun hm=>?_) fun hm=>?_
        .refine qR ?_
         exact m _ _ (wQ)
        .exact Wp.skip (m _ _ (wQ))
   clear O P;refine qS ?_
   refine cN hm (fun hm=>?_) fun hm=>?_
   .refine Wp.skip (n _ _ _ _ ?_ (k (decide (b.1=([102,105,108,101]:eA))) hm))
    exact fI
   .refine qS ?_
    refine cN hm (fun hm=>?_) fun hm=>?_
    .refine Wp.skip (n _ _ _ _ ?_ (k (decide (b.1=([114,117,110]:eA))) hm))
     exact fI
    .refine qS ?_
     refine cN hm (fun hm=>?_) fun hm=>?_
     .refine Wp.skip (n _ _ _ _ ?_ (k (decide (b.1=([112,117,116]:eA))) hm))
      exact fI
     .refine qR ?_
      refine n _ _ _ _ ?_ (k (decide (b.1=([112,117,116,114,117,110]:eA))) hm);exact fI
 clear L N;refine qS ?_
 refine cN hm (fun hm=>?_) fun hm=>?_
 .refine Wp.skip (M _ _ _ _ ?_ (E (decide (b.1=([102,97,99,116]:eA))) hm))
  exact fI
 .refine qR ?_
  refine M _ _ _ _ ?_ (E (decide (b.1=([115,101,116]:eA))) hm);exact fI
theorem RQ(b:eA)(z:Int)(hm:HS b=some z):Does prog 210 [pS b] [] (fun r X=>r=pI z/\X=[]):=by
 unfold HS at hm
 refine dW 0 17 [.tmp 2] func210 fun B=>nA fun hA=>?_
 refine qS ?_
 refine df fun _ j _=>qS ?_
 refine Wp.block (df fun K4 g i=>?_);obtain⟨k,f,hm⟩:=zj hm
 have c:∀s,k s=some z->K4 [(3,pS b),(4,pB s)] []:=by
  intro l hs;have hm:=f _ hs;clear hs
  try dsimp only at hm|-
  refine g _ _ (cR hm fun hm=>?_);refine qS ?_
  refine cR hm fun hm=>?_
  refine qS ?_
  refine cR hm fun hm=>?_
  refine qS ?_
  refine cR hm fun hm=>?_
  refine qS ?_
  refine cR hm fun hm=>?_
  refine qS ?_
  refine cR hm fun hm=>?_
  exact Wp.skip (j _ _ (wQ))
 clear g f;refine qS ?_
 refine cN hm (fun hm=>?_) fun hm=>?_
 .refine Wp.skip (i _ _ _ _ ?_ (c (decide (b=([112,117,116]:eA))) hm))
  exact fI
 .refine qR ?_
  refine i _ _ _ _ ?_ (c (decide (b=([112,117,116,114,117,110]:eA))) hm);exact fI
theorem Si(b:ak)(c:List ae)(z:Bool×List ae)(hm:F4 b c=some z):Does prog 209 [.agg [pS b.A,pS b.C.a,pS b.C.q,pB b.C.r,pS b.D.e,pS b.D.Value,pS b.B.j,pS b.B.a,pB b.B.u,pB b.B.t],.ptr 0 0] [.cells 27 [.buf 1],.buf 50 10 (List.map zf c)] (fun r X=>r=pB z.1/\X=[.cells 27 [.buf 1],.buf 50 10 (List.map zf z.2)]):=by
 unfold F4 at hm
 refine dW 2 21 [.tmp 3] func209 fun B=>nA fun hA=>?_
 refine qS ?_;obtain⟨g,f,hm⟩:=zd hm;refine sX (fun hg=>RQ b.A _ f) ?_;obtain⟨i,hm⟩:=zh hm;refine q6 ?_;exact wQ
end Go.Proofs.YtkojogldchfkkaaGreatDoor
