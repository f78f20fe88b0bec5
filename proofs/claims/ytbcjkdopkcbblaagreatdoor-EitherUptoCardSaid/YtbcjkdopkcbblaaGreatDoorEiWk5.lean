/- That the code does what the models say (part 5). -/
import Derived.Test.YtbcjkdopkcbblaaGreatDoorEiWk0
import Derived.Test.YtbcjkdopkcbblaaGreatDoorEiWk1
import Derived.Test.YtbcjkdopkcbblaaGreatDoorEiWk3
import Derived.Test.YtbcjkdopkcbblaaGreatDoorEiWk4
set_option linter.unusedSimpArgs false
set_option linter.unusedVariables false
open Go.Proofs Go.Shelf
open List
namespace Go.Proofs.YtbcjkdopkcbblaaGreatDoor
open Tryz
open Go.Vc Go.Md
set_option maxRecDepth 100000
set_option maxHeartbeats 4000000
theorem Tb(b:List dy)(c:dy)(z:dy)(hm:GF b c=some z):Does prog 178 [lm dB b,pS c] [] (fun r X=>r=pS z/\X=[]):=by
 unfold GF at hm
 refine dW 0 75 [.tmp 4] func178 fun B=>nA fun hA=>?_
 refine qS ?_
 refine ca fun _ ac _=>qS ?_
 refine Wp.block (qS ?_)
 refine cR hm fun hm=>?_
 refine qS ?_
 refine cN hm (fun hm=>?_) fun hm=>?_
 .obtain⟨ad,ay,g,az,hm⟩:=gf hm
  replace g:∀d,(List.map dB b).getD 0 d=dB ad:=g dB;have hA:=g;exact wQ
 .refine Wp.skip (ac _ _ (qS ?_))
  refine ca fun af o p=>?_
  obtain⟨ag,t,hm⟩:=zj hm
  have l:∀s,ag s=some z->af [(0,lm dB b),(1,pS c),(5,pI s)] []:=by
   intro aG hs;have hm:=t _ hs;clear hs
   try dsimp only at hm|-
   refine o _ _ (ca fun an u Y=>?_);obtain⟨ap,v,hm⟩:=zj hm
   have w:∀s,ap s=some z->an [(0,lm dB b),(1,pS c),(5,pI s)] []:=by
    intro Z hs;have hm:=v _ hs;clear hs
    try dsimp only at hm|-
    refine u _ _ (qS ?_);refine cW 0 5 rfl ?_;simp only[go_sem,simprocAttr];obtain⟨aH,L,hm⟩:=zd hm;refine sO [0,1] (Ue Z [] _ L) ?_;obtain⟨W,aA,f,aB,hm⟩:=gf hm;replace f:∀d,(List.map dB b).getD 0 d=dB W:=f dB;obtain⟨aI,M,hm⟩:=zd hm;have hA:=f;refine sO [0,1] (zt W [] _ M) ?_
    refine ca fun aq C a0=>?_
    obtain⟨ar,D,hm⟩:=zj hm
    have E:∀s,ar s=some z->aq [(8,.ptr 0 0)] [.cells 181 [.np 0,.buf 1],.sb 5 s]:=by
     intro N hs;have hm:=D _ hs;clear hs
     try dsimp only at hm|-
     refine C _ _ ?_;obtain⟨aJ,O,hm⟩:=zd hm;refine sO [0,1] (Sa N _ O) ?_;exact wR
    clear C D;obtain⟨aK,hm⟩:=zh hm;refine q6 ?_;refine Wp.block ?_;obtain⟨aL,P,hm⟩:=zm hm
    refine fL 63 ((List.drop 1 b).length) fun Q=>?_
    refine Wp.forL (fun F s=>[(1,pS c),(8,.ptr 0 0),(63,lm dB (List.drop 1 b)),(64,pI ((List.drop 1 b).length:Int)),(65,pI (F:Int))]) (fun F s=>[.cells 181 [.np 0,.buf 1],.sb 5 s]) ?_ hm ?_
    .simp only[go_sem,simprocAttr,hA]
     try exact So
    clear hm;intro F n aC hm
    try dsimp only at hm|-
    refine q6 ?_
    refine ca fun _ a1 _=>Wp.cond rfl ⟨⟩ (fun i=>?_) (fun i=>?_)
    rotate_left
    .refine Wp.exit ?_
     have hm:=P _ (p8 hm (mg (by first|exact i|simpa using i)))
     try dsimp only at hm
     refine a0 _ _ _ _ ?_ (E n hm);simp only[go_sem,simprocAttr,hA]
     try exact So
    have j:=tO i;have a2:=qc j Q;obtain⟨au,aD,k,aE,G,hm⟩:=p9 hm j;replace k:=k dB;refine Wp.skip ?_;simp only[zx];refine a1 _ _ (ca fun _ a3 _=>Wp.block ?_);have hA:=And.intro f (And.intro a2 k);refine q6 ?_;obtain⟨a4,R,hm⟩:=zd hm;refine sO [0,1] (zt c n _ R) ?_;obtain⟨a5,S,hm⟩:=zd hm;refine eO [0,1] (zt au a4.2 _ S) ?_;refine a3 _ _ (r6 ?_);exact wN a5.2 j (G _ hm)
   clear u v;refine qS ?_;refine Wp.block ?_;obtain⟨aM,T,hm⟩:=zm hm
   refine fL 0 b.length fun U=>?_
   refine Wp.forL (fun m s=>[(0,lm dB b),(1,pS c),(5,pI s),(39,lm dB b),(40,pI (b.length:Int)),(41,pI (m:Int))]) (fun m s=>[]) wF hm ?_;clear hm;intro m I av hm
   try dsimp only at hm|-
   refine qS ?_
   refine lB dB hm U (fun h=>Y _ _ _ _ wF (w I (T _ h))) fun V aN a6 aF aw ax J hm hA _ a7=>?_
   refine q6 ?_
   refine ca fun _ a8 _=>q6 ?_
   refine cN hm (fun hm=>?_) fun hm=>?_
   .cases hm
   .refine Wp.skip (a8 _ _ (r6 ?_))
    refine a7 _ _ (r6 ?_);exact wN (IntKind.i64.wrap (I+(a6.length:Int))) V (J _ hm)
  clear o t;refine qS ?_
  refine cN hm (fun hm=>?_) fun hm=>?_
  .refine ca fun _ a9 _=>?_
   obtain⟨aO,hm⟩:=zh hm;refine q6 ?_
   refine cN hm (fun hm=>?_) fun hm=>?_
   .cases hm
   .refine Wp.skip (a9 _ _ (qR ?_))
    refine p _ _ _ _ ?_ (l (IntKind.i64.wrap (0+(IntKind.i64.wrap ((c.length:Int)*(IntKind.i64.wrap ((b.length:Int)-1)))))) hm);exact ub
  .refine Wp.skip (p _ _ _ _ ?_ (l 0 hm))
   exact ub
theorem Uh(c:dy)(b:dy)(z:dy×dy×Bool)(hm:Mz c b=some z):Does prog 248 [pS c,pS b] [] (fun r X=>r=.tup [pS z.1,pS z.2.1,pB z.2.2]/\X=[]):=by
 unfold Mz at hm
 refine dW 0 23 [.tmp 4,.tmp 5,.tmp 6] func248 fun B=>nA fun hA=>?_
 refine qS ?_
 refine ca fun _ g _=>?_
 obtain⟨j,f,hm⟩:=zd hm;refine sX (fun hg=>R8 c b _ f) ?_;refine qS ?_
 refine cN hm (fun hm=>?_) fun hm=>?_
 .obtain⟨k,hm⟩:=zh hm
  obtain⟨l,hm⟩:=zh hm
  refine dS (pl [(0,none),(1,none),(2,none),(3,none),(4,none),(5,none),(6,none),(7,none),(8,none),(9,none),(10,none),(11,none)]) fun _ i=>i _ _ ?_
  exact wR
 .exact Wp.skip (g _ _ (wQ))
theorem OY(c:dy)(b:dy)(z:dy×dy×Bool)(hm:Cs c b=some z):Does prog 231 [pS c,pS b] [] (fun r X=>r=.tup [pS z.1,pS z.2.1,pB z.2.2]/\X=[]):=by
 unfold Cs at hm
 refine dW 0 13 [.tmp 4,.tmp 5,.tmp 6] func231 fun B=>nA fun hA=>?_
 refine qS ?_;obtain⟨g,f,hm⟩:=zd hm;refine sX (fun hg=>Uh c b _ f) ?_;exact wR
theorem R1(b:dy)(c:Int)(z:Int)(hm:GY b c=some z):Does prog 262 [pS b,.p (.i .u8 c)] [] (fun r X=>r=pI z/\X=[]):=by
 unfold GY at hm
 refine dW 0 8 [.tmp 4] func262 fun B=>nA fun hA=>?_
 refine qS ?_;obtain⟨g,f,hm⟩:=zd hm;refine sX (fun hg=>Se b c _ f) ?_;exact wR
theorem SN(g:dy)(z:Int×Int)(hm:Ih g=some z):Does prog 259 [pS g] [] (fun r X=>r=.tup [.p (.i .u8 z.1),pI z.2]/\X=[]):=by
 unfold Ih at hm
 refine dW 0 61 [.tmp 2,.tmp 3] func259 fun B=>nA fun hA=>?_
 refine qS ?_
 refine ca fun _ u _=>Wp.block (qS ?_)
 refine cR hm fun hm=>?_
 obtain⟨v,w,b,hm⟩:=yQ hm;replace b:((g.getD 0 0).toNat:Int)=v:=b;have hA:=b;refine q6 ?_
 refine cR hm fun hm=>?_
 refine q6 ?_
 refine cR hm fun hm=>?_
 refine q6 ?_
 refine cR hm fun hm=>?_
 refine Wp.skip (u _ _ ?_);obtain⟨j,C,c,hm⟩:=yQ hm;replace c:((g.getD 1 0).toNat:Int)=j:=c;obtain⟨E,l,hm⟩:=zd hm;obtain⟨k,D,f,hm⟩:=yQ hm;replace f:((g.getD 2 0).toNat:Int)=k:=f;obtain⟨F,m,hm⟩:=zd hm;have hA:=And.intro b (And.intro c f)
 refine dS (pl [(0,none),(1,none),(2,none),(3,none),(4,none),(5,none),(6,none),(7,none)]) fun _ n=>?_
 refine cD (fun hg=>R1 ([48,49,50,51,52,53,54,55,56,57,97,98,99,100,101,102]:dy) j _ l) ?_;refine cD (fun hg=>R1 ([48,49,50,51,52,53,54,55,56,57,97,98,99,100,101,102]:dy) k _ m) (n _ _ ?_)
 refine ca fun _ o _=>q6 ?_
 refine cR hm fun hm=>?_
 refine Wp.skip (o _ _ (q6 ?_))
 refine ca fun _ t _=>q6 ?_
 refine cR hm fun hm=>?_
 exact Wp.skip (t _ _ (wQ))
theorem RK(b:dy)(z:dy×Int)(hm:GG b=some z):Does prog 249 [pS b] [] (fun r X=>r=.tup [pS z.1,pI z.2]/\X=[]):=by
 unfold GG at hm
 refine dW 0 74 [.tmp 2,.tmp 3] func249 fun B=>nA fun hA=>?_
 refine qS ?_
 refine ca fun _ C _=>?_
 obtain⟨P,hm⟩:=zh hm;obtain⟨Q,hm⟩:=zh hm;refine q6 ?_
 refine cR hm fun hm=>?_
 refine Wp.skip (C _ _ ?_);obtain⟨J,hm⟩:=zh hm;refine q6 ?_;obtain⟨L,hm⟩:=zh hm;refine q6 ?_
 refine ca fun K8 m D=>?_
 obtain⟨E,i,hm⟩:=zj hm
 have l:∀s,E s=some z->K8 [(4,.buf 0)] [.buf 5 1 (List.map gT s)]:=by
  intro F hs;have hm:=i _ hs;clear hs
  try dsimp only at hm|-
  exact m _ _ (wQ)
 clear m i;refine qS ?_;refine Wp.block ?_;obtain⟨R,p,hm⟩:=jF hm;refine Wp.loopN (fun s=>[(0,pS (List.take ((IntKind.i64.wrap ((b.length:Int)-1)).toNat-1) (List.drop 1 b))),(4,.buf 0),(5,pI s.1)]) (fun s=>[.buf 5 1 (List.map gT s.2)]) ?_ hm ?_
 .exact eZ
 clear hm;intro s G hm;obtain⟨g,f⟩:=s
 try dsimp only at hm|-
 refine ca fun _ t _=>qS ?_
 refine cN hm (fun hm=>?_) fun hm=>?_
 .refine Wp.skip (t _ _ (ca fun _ j _=>Wp.block ?_))
  obtain⟨n,I,c,hm⟩:=yQ hm;replace c:(((List.take ((IntKind.i64.wrap ((b.length:Int)-1)).toNat-1) (List.drop 1 b)).getD g.toNat 0).toNat:Int)=n:=c;have hA:=c;refine q6 ?_
  refine ca fun _ u _=>q6 ?_
  refine cR hm fun hm=>?_
  refine Wp.skip (u _ _ (ca fun _ k _=>q6 ?_))
  refine cN hm (fun hm=>?_) fun hm=>?_
  .obtain⟨M,hm⟩:=zh hm
   obtain⟨o,v,hm⟩:=zd hm;refine sX (fun hg=>SN (List.drop ((IntKind.i64.wrap (g+1)).toNat) (List.take ((IntKind.i64.wrap ((b.length:Int)-1)).toNat-1) (List.drop 1 b))) _ v) ?_
   refine ca fun _ w _=>q6 ?_
   refine cR hm fun hm=>?_
   refine Wp.skip (w _ _ (r6 ?_));refine k _ _ ?_;obtain⟨N,hm⟩:=zh hm;refine r6 ?_;refine j _ _ (r6 ?_);simp only[zx,zq,↓reduceIte];refine⟨(IntKind.i64.wrap ((IntKind.i64.wrap (g+o.2))+1),f++[o.1]),hm,?_⟩;simp only[go_sem,simprocAttr,hA]
   try exact lM
  .refine Wp.skip (k _ _ ?_)
   obtain⟨O,hm⟩:=zh hm;refine r6 ?_;refine j _ _ (r6 ?_);simp only[zx,zq,↓reduceIte];refine⟨(IntKind.i64.wrap (g+1),f++[n]),hm,?_⟩;simp only[go_sem,simprocAttr,hA]
   try exact lM
 .refine Wp.exit ?_
  simp only[zx,zq,↓reduceIte];have hm:=p _ hm
  try dsimp only at hm
  refine D _ _ _ _ ?_ (l f hm);exact eZ
theorem Ro(b:dy)(z:Bool)(hm:H3 b=some z):Does prog 250 [pS b] [] (fun r X=>r=pB z/\X=[]):=by
 unfold H3 at hm
 refine dW 0 9 [.tmp 2] func250 fun B=>nA fun hA=>?_
 refine qS ?_;exact wQ
theorem Tl(L:dy)(z:al×Bool)(hm:GB L=some z):Does prog 232 [pS L] [] (fun r X=>r=.tup [.agg [pS z.1.H,pS z.1.J.a,pS z.1.J.B,pB z.1.J.C,pS z.1.K.k,pS z.1.K.Value,pS z.1.I.w,pS z.1.I.a,pB z.1.I.D,pB z.1.I.E],pB z.2]/\X=[]):=by
 unfold GB at hm
 refine dW 0 147 [.cell 2 239,.tmp 3] func232 fun B=>nA fun hA=>?_
 refine qS ?_;obtain⟨b,V,hm⟩:=zd hm;refine sX (fun hg=>OY L ([32]:dy) _ V) ?_;obtain⟨f,W,hm⟩:=zd hm;refine sX (fun hg=>OY b.2.1 ([32]:dy) _ W) ?_
 refine ca fun _ a3 _=>qS ?_
 refine cR hm fun hm=>?_
 refine Wp.skip (a3 _ _ (qS ?_))
 refine ca fun _ m _=>qS ?_
 refine Wp.block (ca fun a4 M N=>?_);obtain⟨a5,O,hm⟩:=zj hm
 have u:∀s,a5 s=some z->a4 [(2,.ptr 0 0),(4,pS b.1),(7,pS f.1),(8,pS f.2.1),(9,pB f.2.2),(10,.ptr 1 0),(37,pS b.1),(38,pB s)] [.cells 239 [pS ([]),pS ([]),pS ([]),pB false,pS ([]),pS ([]),pS ([]),pS ([]),pB false,pB false],.cells 239 [pS b.1,pS ([]),pS ([]),pB false,pS ([]),pS ([]),pS ([]),pS ([]),pB false,pB false]]:=by
  intro a6 hs;have hm:=O _ hs;clear hs
  try dsimp only at hm|-
  refine M _ _ (cN hm (fun hm=>?_) fun hm=>?_)
  .obtain⟨av,R,hm⟩:=zd hm
   refine sX (fun hg=>RK f.2.1 _ R) ?_;refine qS ?_;exact wQ
  .refine ca fun a7 P n=>?_
   obtain⟨a8,Q,hm⟩:=zj hm
   have j:∀s,a8 s=some z->a7 [(2,.ptr 0 0),(4,pS b.1),(7,pS f.1),(8,pS f.2.1),(9,pB f.2.2),(10,.ptr 1 0),(37,pS b.1),(56,pB s)] [.cells 239 [pS ([]),pS ([]),pS ([]),pB false,pS ([]),pS ([]),pS ([]),pS ([]),pB false,pB false],.cells 239 [pS b.1,pS ([]),pS ([]),pB false,pS ([]),pS ([]),pS ([]),pS ([]),pB false,pB false]]:=by
    intro a9 hs;have hm:=Q _ hs;clear hs
    try dsimp only at hm|-
    refine P _ _ (cN hm (fun hm=>?_) fun hm=>?_)
    .obtain⟨aw,S,hm⟩:=zd hm
     refine sX (fun hg=>RK f.2.1 _ S) ?_;refine qS ?_;exact wQ
    .refine qS ?_
     refine cN hm (fun hm=>?_) fun hm=>?_
     .obtain⟨c,Y,hm⟩:=zd hm
      refine sF (O4 f.2.1 ([32]:dy) _ Y) ?_
      refine ca fun _ Z _=>?_
      obtain⟨ax,hm⟩:=zh hm;obtain⟨ay,hm⟩:=zh hm;obtain⟨a0,T,hm⟩:=zX hm;obtain⟨az,hm⟩:=zh hm;obtain⟨aA,U,hm⟩:=zX hm;have v:=Dz (l:=c) (e:=dB) (d:=[]) (i:=0);simp only[dB,map_nil]at v;have F:=Dz (l:=c) (e:=dB) (d:=[]) (i:=1);simp only[dB,map_nil]at F;have G:=Dz (l:=c) (e:=dB) (d:=[]) (i:=2);simp only[dB,map_nil]at G;have hA:=And.intro v (And.intro F G)
      refine rS fun _ a1=>?_
      refine cX (g:=!(((!f.2.2)||(!decide ((c.length:Int)=3)))||(decide ((c.getD 0 [])=[])))) (fun hg=>Ro (c.getD 1 []) _ (T hg)) ?_;refine cX (g:=!((((!f.2.2)||(!decide ((c.length:Int)=3)))||(decide ((c.getD 0 [])=[])))||(!a0))) (fun hg=>Ro (c.getD 2 []) _ (U hg)) (a1 _ _ ?_)
      refine cR hm fun hm=>?_
      refine Wp.skip (Z _ _ ?_);obtain⟨ac,ag,o,an,hm⟩:=gf hm;replace o:∀d,(List.map dB c).getD 0 d=dB ac:=o dB;obtain⟨ad,ap,p,aq,hm⟩:=gf hm;replace p:∀d,(List.map dB c).getD 1 d=dB ad:=p dB;obtain⟨af,ar,t,au,hm⟩:=gf hm;replace t:∀d,(List.map dB c).getD 2 d=dB af:=t dB;have hA:=And.intro o (And.intro p t)
      refine dS (pl [(0,none),(1,none),(2,none),(3,none),(4,none),(5,none),(6,none),(7,none),(8,none),(9,none),(10,none),(11,none),(12,none),(13,none),(14,some [])]) fun _ a2=>a2 _ _ ?_
      exact wQ
     .refine qS ?_
      refine cN hm (fun hm=>?_) fun hm=>?_
      .refine qR ?_
       exact m _ _ (wQ)
      .refine qS ?_
       refine cN hm (fun hm=>?_) fun hm=>?_
       .refine qR ?_
        exact m _ _ (wQ)
       .refine qS ?_
        refine cN hm (fun hm=>?_) fun hm=>?_
        .refine qR ?_
         exact m _ _ (wQ)
        .exact Wp.skip (m _ _ (wQ))
   clear P Q;refine qS ?_
   refine cN hm (fun hm=>?_) fun hm=>?_
   .refine Wp.skip (n _ _ _ _ ?_ (j (decide (b.1=([102,105,108,101]:dy))) hm))
    exact eZ
   .refine qS ?_
    refine cN hm (fun hm=>?_) fun hm=>?_
    .refine Wp.skip (n _ _ _ _ ?_ (j (decide (b.1=([114,117,110]:dy))) hm))
     exact eZ
    .refine qS ?_
     refine cN hm (fun hm=>?_) fun hm=>?_
     .refine Wp.skip (n _ _ _ _ ?_ (j (decide (b.1=([112,117,116]:dy))) hm))
      exact eZ
     .refine qR ?_
      refine n _ _ _ _ ?_ (j (decide (b.1=([112,117,116,114,117,110]:dy))) hm);exact eZ
 clear M O;refine qS ?_
 refine cN hm (fun hm=>?_) fun hm=>?_
 .refine Wp.skip (N _ _ _ _ ?_ (u (decide (b.1=([102,97,99,116]:dy))) hm))
  exact eZ
 .refine qR ?_
  refine N _ _ _ _ ?_ (u (decide (b.1=([115,101,116]:dy))) hm);exact eZ
theorem TS(b:dy)(z:Int)(hm:IW b=some z):Does prog 210 [pS b] [] (fun r X=>r=pI z/\X=[]):=by
 unfold IW at hm
 refine dW 0 17 [.tmp 2] func210 fun B=>nA fun hA=>?_
 refine qS ?_
 refine ca fun _ j _=>qS ?_
 refine Wp.block (ca fun K4 g i=>?_);obtain⟨k,f,hm⟩:=zj hm
 have c:∀s,k s=some z->K4 [(3,pS b),(4,pB s)] []:=by
  intro l hs;have hm:=f _ hs;clear hs
  try dsimp only at hm|-
  refine g _ _ (cR hm fun hm=>?_);refine qS ?_
  refine cR hm fun hm=>?_
  refine qS ?_
  refine cR hm fun hm=>?_
  refine qS ?_
  refine cR hm fun hm=>?_
  refine qS ?_
  refine cR hm fun hm=>?_
  refine qS ?_
  refine cR hm fun hm=>?_
  exact Wp.skip (j _ _ (wQ))
 clear g f;refine qS ?_
 refine cN hm (fun hm=>?_) fun hm=>?_
 .refine Wp.skip (i _ _ _ _ ?_ (c (decide (b=([112,117,116]:dy))) hm))
  exact eZ
 .refine qR ?_
  refine i _ _ _ _ ?_ (c (decide (b=([112,117,116,114,117,110]:dy))) hm);exact eZ
theorem Ui(b:al)(c:List ae)(z:Bool×List ae)(hm:Hb b c=some z):Does prog 209 [.agg [pS b.H,pS b.J.a,pS b.J.B,pB b.J.C,pS b.K.k,pS b.K.Value,pS b.I.w,pS b.I.a,pB b.I.D,pB b.I.E],.ptr 0 0] [.cells 27 [.buf 1],.buf 61 10 (List.map zf c)] (fun r X=>r=pB z.1/\X=[.cells 27 [.buf 1],.buf 61 10 (List.map zf z.2)]):=by
 unfold Hb at hm
 refine dW 2 21 [.tmp 3] func209 fun B=>nA fun hA=>?_
 refine qS ?_;obtain⟨g,f,hm⟩:=zd hm;refine sX (fun hg=>TS b.H _ f) ?_;obtain⟨i,hm⟩:=zh hm;refine q6 ?_;exact wQ
theorem TD(b:dy)(c:List ae)(z:Int×List ae)(hm:GN b c=some z):Does prog 208 [pS b,.fn 209 [.ptr 0 0]] [.cells 27 [.buf 1],.buf 61 10 (List.map zf c)] (fun r X=>r=pI z.1/\X=[.cells 27 [.buf 1],.buf 61 10 (List.map zf z.2)]):=by
 unfold GN at hm
 refine dW 2 40 [.tmp 4] func208 fun B=>nA fun hA=>?_
 refine qS ?_
 refine ca fun K2 n E=>?_
 obtain⟨F,f,hm⟩:=zj hm
 have l:∀s,F s=some z->K2 [] [.cells 27 [.buf 1],.buf 61 10 (List.map zf s)]:=by
  intro L hs;have hm:=f _ hs;clear hs
  try dsimp only at hm|-
  exact n _ _ (wQ)
 clear n f;refine qS ?_;refine Wp.block ?_;obtain⟨N,p,hm⟩:=jF hm;refine Wp.loopN (fun s=>[(0,pS s.1),(1,.fn 209 [.ptr 0 0]),(5,pI s.2.1)]) (fun s=>[.cells 27 [.buf 1],.buf 61 10 (List.map zf s.2.2)]) ?_ hm ?_
 .exact eZ
 clear hm;intro s M hm;obtain⟨i,t,j⟩:=s
 try dsimp only at hm|-
 refine ca fun _ G _=>qS ?_
 refine cN hm (fun hm=>?_) fun hm=>?_
 .refine Wp.skip (G _ _ (ca fun _ I _=>Wp.block ?_))
  obtain⟨k,u,hm⟩:=zd hm;refine sX (fun hg=>OY i ([10]:dy) _ u) ?_;obtain⟨o,v,hm⟩:=zd hm;refine sX (fun hg=>Tl k.1 _ v) ?_
  refine ca fun _ w _=>?_
  obtain⟨J,C,m,hm⟩:=QQ hm
  refine cb fun O D=>?_
  simp only[go_sem,simprocAttr]
  try refine⟨sd,?_⟩
  refine cZ (av:=?av15) (g:=!((!k.2.2)||(!o.2))) [0,1] (fun hg=>Ui o.1 j _ (C hg)) (fun hg=>by obtain rfl:=m hg;rfl) si si si si sg sg ?cont15;simp only[go_sem,simprocAttr];refine kA D ?_
  refine cR hm fun hm=>?_
  refine Wp.skip (w _ _ (qR ?_));refine I _ _ (qR ?_);simp only[zx,zq,↓reduceIte];refine⟨(k.2.1,IntKind.i64.wrap (t+1),J.2),hm,?_⟩;exact eZ
 .refine Wp.exit ?_
  simp only[zx,zq,↓reduceIte];have hm:=p _ hm
  try dsimp only at hm
  refine E _ _ _ _ ?_ (l j hm);exact eZ
theorem RY(b:List ae)(z:Int)(hm:D1 b=some z):Does prog 139 [lm zf b] [] (fun r X=>r=pI z/\X=[]):=by
 unfold D1 at hm
 refine dW 0 18 [.tmp 2] func139 fun B=>nA fun hA=>?_
 refine qS ?_
 refine ca fun K2 j o=>?_
 obtain⟨p,c,hm⟩:=zj hm
 have g:∀s,p s=some z->K2 [] []:=by
  intro s hs;have hm:=c _ hs;clear hs
  try dsimp only at hm|-
  exact j _ _ (wQ)
 clear j c;refine qS ?_;refine Wp.block ?_;obtain⟨E,k,hm⟩:=zm hm
 refine fL 6 b.length fun l=>?_
 refine Wp.forL (fun f s=>[(6,lm zf b),(7,pI (b.length:Int)),(8,pI (f:Int))]) (fun f s=>[]) wF hm ?_;clear hm;intro f s v hm
 try dsimp only at hm|-
 refine qS ?_
 refine lB zf hm l (fun h=>o _ _ _ _ wF (g () (k _ h))) fun m F t D w C i hm hA _ u=>?_
 refine q6 ?_;obtain⟨G,n,hm⟩:=zd hm;refine sX (fun hg=>Pc t _ n) ?_;refine q6 ?_
 refine cR hm fun hm=>?_
 refine Wp.skip (u _ _ (r6 ?_));exact wN () m (i _ hm)
theorem TU(b:dy)(z:List ae×Int×Int)(hm:IY b=some z):Does prog 177 [pS b] [] (fun r X=>r=.tup [lm zf z.1,pI z.2.1,pI z.2.2]/\X=[]):=by
 unfold IY at hm
 refine dW 0 23 [.tmp 2,.tmp 3,.tmp 4] func177 fun B=>nA fun hA=>?_
 refine qS ?_
 refine ca fun _ i _=>qS ?_
 refine cN hm (fun hm=>?_) fun hm=>?_
 .refine qS ?_
  refine Wp.ret ?_;simp only[zx,zq];refine zM ?_;cases hm;exact ub
 .refine Wp.skip (i _ _ (qS ?_))
  refine cw 0 0 61 10 rfl rfl ?_;simp only[go_sem,simprocAttr];obtain⟨j,c,hm⟩:=zd hm;refine sO [0,1] (TD b [] _ c) ?_
  refine ca fun _ k _=>qS ?_
  refine cN hm (fun hm=>?_) fun hm=>?_
  .refine qS ?_
   refine Wp.ret ?_;simp only[zx,zq];refine zM ?_;cases hm;exact eZ
  .refine Wp.skip (k _ _ (ca fun _ f _=>?_))
   obtain⟨l,g,hm⟩:=zd hm;refine sX (fun hg=>RY j.2 _ g) ?_;refine qS ?_
   refine cN hm (fun hm=>?_) fun hm=>?_
   .refine qS ?_
    refine Wp.ret ?_;simp only[zx,zq];refine zM ?_;cases hm;exact eZ
   .exact Wp.skip (f _ _ (wQ))
theorem R7(b:dy)(c:List dy)(f:Bool)(z:List ae×Int×List dy×Bool)(hm:zo b c f=some z):Does prog 132 [.ptr 0 0,pS b] [.cells 167 [lm dB c,pB f]] (fun r X=>r=.tup [lm zf z.1,pI z.2.1]/\X=[.cells 167 [lm dB z.2.2.1,pB z.2.2.2]]):=by
 unfold zo at hm
 refine dW 1 66 [.tmp 4,.tmp 5] func132 fun B=>nA fun hA=>?_
 refine qS ?_;obtain⟨g,i,hm⟩:=zd hm;obtain⟨n,j,hm⟩:=zd hm
 refine rS fun _ o=>?_
 refine cO [0] (Pi b c f _ i) ?_;refine cX (fun hg=>S8 g.1 _ j) (o _ _ ?_)
 refine ca fun _ p _=>qS ?_
 refine cN hm (fun hm=>?_) fun hm=>?_
 .refine qS ?_
  refine qS ?_;refine Wp.ret ?_;simp only[zx,zq];refine zM ?_;cases hm;exact eZ
 .refine Wp.skip (p _ _ ?_)
  obtain⟨u,hm⟩:=zh hm;obtain⟨t,k,hm⟩:=zd hm;obtain⟨v,l,hm⟩:=zd hm
  refine rS fun _ m=>?_
  refine cX (fun hg=>Tb (List.take n.1.toNat g.2.2) [] _ k) ?_;refine cF (TU t _ l) (m _ _ ?_);obtain⟨w,hm⟩:=zh hm;refine q6 ?_;refine qS ?_;exact wQ
theorem SO(b:dy)(z:Bool)(hm:Gt b=some z):Does prog 133 [pS b] [] (fun r X=>r=pB z/\X=[]):=by
 unfold Gt at hm
 refine dW 0 36 [.tmp 2] func133 fun B=>nA fun hA=>?_
 refine qS ?_
 refine ca fun K2 n t=>?_
 obtain⟨u,f,hm⟩:=zj hm
 have j:∀s,u s=some z->K2 [(0,pS b)] []:=by
  intro s hs;have hm:=f _ hs;clear hs
  try dsimp only at hm|-
  exact n _ _ (wQ)
 clear n f;refine qS ?_;refine Wp.block ?_;obtain⟨F,o,hm⟩:=zm hm
 refine fL 0 b.length fun p=>?_
 refine Wp.forL (fun g s=>[(0,pS b),(3,pI (g:Int))]) (fun g s=>[]) wF hm ?_;clear hm;intro g s D hm
 try dsimp only at hm|-
 refine ca fun _ v _=>qS ?_
 refine Wp.cond rfl ⟨⟩ (fun i=>?_) fun i=>Wp.exit (t _ _ _ _ wF (j () (o _ (p8 hm (u2 i)))))
 have c:=tO i;have w:=qc c p;obtain⟨G,E,k,l,m,hm⟩:=p9 hm c;clear k;refine Wp.skip ?_;simp only[zx];refine v _ _ (ca fun _ C _=>Wp.block ?_);have hA:=And.intro w l;refine q6 ?_
 refine cR hm fun hm=>?_
 refine Wp.skip (C _ _ (r6 ?_));exact wN () c (m _ hm)
theorem Rw(b:dy)(z:dy)(hm:Ck b=some z):Does prog 107 [pS b] [] (fun r X=>r=pS z/\X=[]):=by
 unfold Ck at hm
 refine dW 0 39 [.tmp 2] func107 fun B=>nA fun hA=>?_
 refine qS ?_;refine qS ?_
 refine ca fun K3 F Q=>?_
 obtain⟨R,l,hm⟩:=zj hm
 have u:∀s,R s=some z->K3 [(3,.p (.i .u64 s))] []:=by
  intro G hs;have hm:=l _ hs;clear hs
  try dsimp only at hm|-
  refine F _ _ (qS ?_)
  refine ca fun K5 I S=>?_
  obtain⟨T,m,hm⟩:=zj hm
  have v:∀s,T s=some z->K5 [(5,.buf 0)] [.buf 5 1 (List.map gT s)]:=by
   intro W hs;have hm:=m _ hs;clear hs
   try dsimp only at hm|-
   exact I _ _ (wQ)
  clear I m;refine qS ?_;refine Wp.block ?_;obtain⟨a5,L,hm⟩:=jF hm;refine Wp.loopN (fun s=>[(3,.p (.i .u64 G)),(5,.buf 0),(22,pI ((List.replicate 16 0).length:Int)),(23,pI s.1)]) (fun s=>[.buf 5 1 (List.map gT s.2)]) ?_ hm ?_
  .exact eZ
  clear hm;intro s Y hm;obtain⟨c,k⟩:=s
  try dsimp only at hm|-
  refine qS ?_
  refine ca fun _ U _=>cN hm (fun hm=>?_) fun hm=>?_
  .refine Wp.skip (U _ _ (ca fun _ M _=>Wp.block (qS ?_)))
   obtain⟨a2,hm⟩:=zh hm;obtain⟨J,Z,f,hm⟩:=yQ hm;replace f:((([48,49,50,51,52,53,54,55,56,57,97,98,99,100,101,102]:dy).getD ((pN .and .u64 (Int.fdiv G (2^(yY .u64 (IntKind.i64.wrap (60-(IntKind.i64.wrap (4*c))))))) 15).toNat) 0).toNat:Int)=J:=f;obtain⟨a3,hm⟩:=zh hm;have hA:=f;refine r6 ?_;refine M _ _ (r6 ?_);simp only[zx,zq,↓reduceIte];refine⟨(IntKind.i64.wrap (c+1),List.set k c.toNat J),hm,?_⟩;simp only[go_sem,simprocAttr,hA]
   try exact lM
  .refine Wp.exit ?_
   simp only[zx,zq,↓reduceIte];have hm:=L _ hm
   try dsimp only at hm
   refine S _ _ _ _ ?_ (v k hm);exact eZ
 clear F l;refine qS ?_;refine Wp.block ?_;obtain⟨a4,w,hm⟩:=zm hm
 refine fL 0 b.length fun C=>?_
 refine Wp.forL (fun n s=>[(0,pS b),(3,.p (.i .u64 s)),(4,pI (n:Int))]) (fun n s=>[]) wF hm ?_;clear hm;intro n o a0 hm
 try dsimp only at hm|-
 refine ca fun _ N _=>qS ?_
 refine Wp.cond rfl ⟨⟩ (fun j=>?_) fun j=>Wp.exit (Q _ _ _ _ wF (u o (w _ (p8 hm (u2 j)))))
 have g:=tO j;have O:=qc g C;obtain⟨V,a1,D,E,t,hm⟩:=p9 hm g;clear D;refine Wp.skip ?_;simp only[zx];refine N _ _ (ca fun _ P _=>Wp.block ?_);have hA:=And.intro O E;refine r6 ?_;refine P _ _ (r6 ?_);exact wN (IntKind.u64.wrap ((pN .xor .u64 o (IntKind.u64.wrap (V.toNat:Int)))*1099511628211)) g (t _ hm)
theorem T4(b:dy)(z:aj×Int)(hm:AH b=some z):Does prog 100 [pS b] [] (fun r X=>r=.tup [.agg [pS z.1.F,lm zf z.1.A,lm zf z.1.G],pI z.2]/\X=[]):=by
 unfold AH at hm
 refine dW 0 111 [.cell 2 98,.tmp 3] func100 fun B=>nA fun hA=>?_
 refine qS ?_;obtain⟨c,I,hm⟩:=zd hm;refine sF (T7 b ([10]:dy) _ I) ?_;obtain⟨V,hm⟩:=zh hm;refine q6 ?_;obtain⟨n,J,hm⟩:=zd hm;refine sO [1] (Pi ([106,111,117,114,110,97,108]:dy) (List.take ((IntKind.i64.wrap ((c.length:Int)-1)).toNat) c) false _ J) ?_;refine qS ?_;obtain⟨o,L,hm⟩:=zd hm;refine sO [1] (R7 ([99,104,97,110,103,101,115]:dy) n.2.2 n.2.1 _ L) ?_;obtain⟨f,M,hm⟩:=zd hm;refine sO [1] (R7 ([111,108,100]:dy) o.2.2.1 o.2.2.2 _ M) ?_;refine qS ?_
 refine ca fun R t u=>?_
 obtain⟨S,v,hm⟩:=zj hm
 have k:∀s,S s=some z->R [(0,pS b),(2,.ptr 0 0),(4,lm dB c),(5,.ptr 1 0),(6,.ptr 2 0),(7,pI o.2.1),(8,pI f.2.1),(9,pI s)] [.cells 98 [pS ([]),.nils,.nils],.cells 167 [lm dB f.2.2.1,pB f.2.2.2],.cells 98 [pS n.1,lm zf o.1,lm zf f.1]]:=by
  intro m hs;have hm:=v _ hs;clear hs
  try dsimp only at hm|-
  refine t _ _ ?_;obtain⟨w,N,hm⟩:=zd hm;refine sO [1] (Pi ([115,117,109]:dy) f.2.2.1 f.2.2.2 _ N) ?_
  refine ca fun _ O _=>?_
  obtain⟨W,hm⟩:=zh hm;obtain⟨a1,P,hm⟩:=zX hm;have p:=Dz (l:=c) (e:=dB) (d:=[]) (i:=(IntKind.i64.wrap ((c.length:Int)-1)).toNat);simp only[dB,map_nil]at p;have hA:=p;refine sX (g:=!((w.2.1||(decide (0<(w.2.2.length:Int))))||(!decide ((c.getD ((IntKind.i64.wrap ((c.length:Int)-1)).toNat) [])=[])))) (fun hg=>SO w.1 _ (P hg)) ?_
  refine cN hm (fun hm=>?_) fun hm=>?_
  .refine qS ?_
   refine Wp.ret ?_;simp only[zx,zq];refine zM ?_;cases hm;exact eZ
  .refine Wp.skip (O _ _ (ca fun _ Q _=>Wp.block ?_))
   obtain⟨Y,hm⟩:=zh hm;obtain⟨Z,C,hm⟩:=zd hm;refine sX (fun hg=>Rw (List.take m.toNat b) _ C) ?_
   refine cN hm (fun hm=>?_) fun hm=>?_
   .refine qS ?_
    refine Wp.ret ?_;simp only[zx,zq];refine zM ?_;cases hm;exact eZ
   .obtain⟨a0,D,hm⟩:=zd hm
    refine sX (fun hg=>DW n.1 _ D) ?_
    refine cN hm (fun hm=>?_) fun hm=>?_
    .refine qS ?_
     refine Wp.ret ?_;simp only[zx,zq];refine zM ?_;cases hm;exact eZ
    .refine qS ?_
     refine cN hm (fun hm=>?_) fun hm=>?_
     .refine qS ?_
      refine Wp.ret ?_;simp only[zx,zq];refine zM ?_;cases hm;exact eZ
     .refine qS ?_
      refine cN hm (fun hm=>?_) fun hm=>?_
      .refine qS ?_
       refine Wp.ret ?_;simp only[zx,zq];refine zM ?_;cases hm;exact eZ
      .refine qS ?_
       refine cN hm (fun hm=>?_) fun hm=>?_
       .refine qS ?_
        refine Wp.ret ?_;simp only[zx,zq];refine zM ?_;cases hm;exact eZ
       .exact Wp.skip (Q _ _ (wQ))
 clear t v;refine qS ?_
 refine cN hm (fun hm=>?_) fun hm=>?_
 .obtain⟨E,T,j,U,hm⟩:=gf hm
  replace j:∀d,(List.map dB f.2.2.1).getD 0 d=dB E:=j dB;have hA:=j;refine r6 ?_;refine u _ _ _ _ ?_ (k (IntKind.i64.wrap ((b.length:Int)-(E.length:Int))) hm);simp only[go_sem,simprocAttr,hA]
  try exact lM
 .refine Wp.skip (u _ _ _ _ ?_ (k (b.length:Int) hm))
  exact eZ
theorem Rq(b:ah)(z:aj×Int)(hm:Gp b=some z):Does prog 56 [.agg [lm za b.y,lm zc b.h,lm za b.r,lm zb b.o]] [] (fun r X=>r=.tup [.agg [pS z.1.F,lm zf z.1.A,lm zf z.1.G],pI z.2]/\X=[]):=by
 unfold Gp at hm
 refine dW 0 26 [.cell 2 98,.tmp 3] func56 fun B=>nA fun hA=>?_
 refine qS ?_;obtain⟨i,c,hm⟩:=zd hm;refine sX (fun hg=>RL b ([115,116,97,103,101,47,106,111,117,114,110,97,108]:dy) _ c) ?_
 refine ca fun _ j _=>qS ?_
 refine cN hm (fun hm=>?_) fun hm=>?_
 .refine qS ?_
  refine Wp.ret ?_;simp only[zx,zq];refine zM ?_;cases hm;exact ub
 .refine Wp.skip (j _ _ ?_)
  obtain⟨k,f,hm⟩:=zd hm;refine sF (T4 i.1.B _ f) ?_
  refine ca fun _ g _=>qS ?_
  refine cN hm (fun hm=>?_) fun hm=>?_
  .refine qS ?_
   refine Wp.ret ?_;simp only[zx,zq];refine zM ?_;cases hm;exact eZ
  .exact Wp.skip (g _ _ (wQ))
theorem Cz(c:ah)(b:dy)(z:Bool)(hm:pX c b=some z):Does prog 57 [.agg [lm za c.y,lm zc c.h,lm za c.r,lm zb c.o],pS b] [] (fun r X=>r=pB z/\X=[]):=by
 unfold pX at hm
 refine dW 0 14 [.tmp 4] func57 fun B=>nA fun hA=>?_
 refine qS ?_;obtain⟨g,f,hm⟩:=zd hm;refine sX (fun hg=>RL c b _ f) ?_;exact wQ
theorem Ry(b:ab)(z:dy)(hm:DM b=some z):Does prog 135 [.agg [pS b.a,pS b.B,pB b.C]] [] (fun r X=>r=pS z/\X=[]):=by
 unfold DM at hm
 refine dW 0 5 [.tmp 2] func135 fun B=>nA fun hA=>?_
 refine qS ?_;exact wQ
theorem Uk(i:List ab)(j:List ab)(z:List ab×List ab)(hm:I5 i j=some z):Does prog 134 [lm zc i,lm zc j,.fn 135 []] [] (fun r X=>r=.tup [lm zc z.1,lm zc z.2]/\X=[]):=by
 unfold I5 at hm
 refine dW 0 90 [.tmp 6,.tmp 7] func134 fun B=>nA fun hA=>?_
 refine qS ?_;refine qS ?_
 refine ca fun K3 J a0=>?_
 obtain⟨R,u,hm⟩:=zj hm
 have D:∀s,R s=some z->K3 [(6,.buf 0),(7,.buf 1)] [.buf 57 3 (List.map zc s.1),.buf 57 3 (List.map zc s.2)]:=by
  intro s hs;have hm:=u _ hs;clear hs;obtain⟨a5,a6⟩:=s
  try dsimp only at hm|-
  exact J _ _ (wQ)
 clear J u;refine Wp.block (cd 6 57 3 rfl ?_);simp only[go_sem,simprocAttr];refine cd 7 57 3 rfl ?_;simp only[go_sem,simprocAttr];obtain⟨au,E,hm⟩:=jF hm;refine Wp.loopN (fun s=>[(0,lm zc i),(1,lm zc j),(2,.fn 135 []),(6,.buf 0),(7,.buf 1),(8,pI s.1),(9,pI s.2.1)]) (fun s=>[.buf 57 3 (List.map zc s.2.2.1),.buf 57 3 (List.map zc s.2.2.2)]) ?_ hm ?_
 .exact eZ
 clear hm;intro s a7 hm;obtain⟨f,g,b,c⟩:=s
 try dsimp only at hm|-
 refine ca fun _ a1 _=>qS ?_
 refine cN hm (fun hm=>?_) fun hm=>?_
 .refine Wp.skip (a1 _ _ (Wp.block (qS ?_)))
  refine ca fun K9 L w=>?_
  obtain⟨S,v,hm⟩:=zj hm
  have l:∀s,S s=some z->K9 [(0,lm zc i),(1,lm zc j),(2,.fn 135 []),(6,.buf 0),(7,.buf 1),(8,pI f),(9,pI g),(10,pI s)] [.buf 57 3 (List.map zc b),.buf 57 3 (List.map zc c)]:=by
   intro a2 hs;have hm:=v _ hs;clear hs
   try dsimp only at hm|-
   refine L _ _ (Wp.block (qS ?_))
   refine cN hm (fun hm=>?_) fun hm=>?_
   .obtain⟨M,a8,m,a9,hm⟩:=gf hm
    replace m:∀d,(List.map zc i).getD f.toNat d=zc M:=m zc;obtain⟨av,hm⟩:=zh hm;have hA:=m;refine q6 ?_;refine r6 ?_;simp only[zx,zq,↓reduceIte];refine⟨(IntKind.i64.wrap (f+1),g,b++[M],c),hm,?_⟩;simp only[go_sem,simprocAttr,hA]
    try exact lM
   .refine qS ?_
    refine cN hm (fun hm=>?_) fun hm=>?_
    .obtain⟨N,ac,n,ad,hm⟩:=gf hm
     replace n:∀d,(List.map zc j).getD g.toNat d=zc N:=n zc;obtain⟨aw,hm⟩:=zh hm;have hA:=n;refine q6 ?_;refine r6 ?_;simp only[zx,zq,↓reduceIte];refine⟨(f,IntKind.i64.wrap (g+1),b,c++[N]),hm,?_⟩;simp only[go_sem,simprocAttr,hA]
     try exact lM
    .refine ca fun _ C _=>?_
     obtain⟨T,a3,k,a4,hm⟩:=gf hm;replace k:∀d,(List.map zc i).getD f.toNat d=zc T:=k zc;obtain⟨O,af,o,ag,hm⟩:=gf hm;replace o:∀d,(List.map zc j).getD g.toNat d=zc O:=o zc;have hA:=And.intro k o
     refine dS (pl [(0,none),(1,none),(2,none),(3,none),(4,none),(5,none),(6,none),(7,none),(8,none)]) fun _ U=>U _ _ ?_
     refine cN hm (fun hm=>?_) fun hm=>?_
     .obtain⟨ax,hm⟩:=zh hm
      refine r6 ?_;refine C _ _ (r6 ?_);simp only[zx,zq,↓reduceIte];refine⟨(IntKind.i64.wrap (f+1),IntKind.i64.wrap (g+1),b,c++[O]),hm,?_⟩;simp only[go_sem,simprocAttr,hA]
      try exact lM
     .refine Wp.skip (C _ _ (r6 ?_))
      simp only[zx,zq,↓reduceIte];refine⟨(IntKind.i64.wrap (f+1),IntKind.i64.wrap (g+1),b,c),hm,?_⟩;simp only[go_sem,simprocAttr,hA]
      try exact lM
  clear L v;refine Wp.block (qS ?_)
  refine cN hm (fun hm=>?_) fun hm=>?_
  .refine qR ?_
   refine w _ _ _ _ ?_ (l (-1) hm);exact eZ
  .refine qS ?_
   refine cN hm (fun hm=>?_) fun hm=>?_
   .refine qR ?_
    refine w _ _ _ _ ?_ (l 1 hm);exact eZ
   .obtain⟨P,an,p,ap,hm⟩:=gf hm
    replace p:∀d,(List.map zc i).getD f.toNat d=zc P:=p zc;obtain⟨V,F,hm⟩:=zd hm;obtain⟨Q,aq,t,ar,hm⟩:=gf hm;replace t:∀d,(List.map zc j).getD g.toNat d=zc Q:=t zc;obtain⟨W,G,hm⟩:=zd hm;obtain⟨Y,I,hm⟩:=zd hm;have hA:=And.intro p t
    refine dE (pl [(0,none),(1,none),(2,none),(3,none),(4,none),(5,none),(6,none),(7,none),(8,none),(9,none),(10,none),(11,none),(12,none),(13,none)]) fun _ Z=>?_
    refine cD (fun hg=>Ry P _ F) ?_;refine cD (fun hg=>Ry Q _ G) ?_;refine cD (fun hg=>Mo V W _ I) (Z _ _ ?_);refine w _ _ _ _ ?_ (l Y hm);simp only[go_sem,simprocAttr,hA]
    try exact lM
 .refine Wp.exit ?_
  simp only[zx,zq,↓reduceIte];have hm:=E _ hm
  try dsimp only at hm
  refine a0 _ _ _ _ ?_ (D (b,c) hm);exact eZ
theorem Ur(i:List aa)(j:List aa)(z:List aa×List aa)(hm:Jd i j=some z):Does prog 136 [lm za i,lm za j,.fn 73 []] [] (fun r X=>r=.tup [lm za z.1,lm za z.2]/\X=[]):=by
 unfold Jd at hm
 refine dW 0 90 [.tmp 6,.tmp 7] func136 fun B=>nA fun hA=>?_
 refine qS ?_;refine qS ?_
 refine ca fun K3 J a0=>?_
 obtain⟨R,u,hm⟩:=zj hm
 have D:∀s,R s=some z->K3 [(6,.buf 0),(7,.buf 1)] [.buf 50 2 (List.map za s.1),.buf 50 2 (List.map za s.2)]:=by
  intro s hs;have hm:=u _ hs;clear hs;obtain⟨a5,a6⟩:=s
  try dsimp only at hm|-
  exact J _ _ (wQ)
 clear J u;refine Wp.block (cd 6 50 2 rfl ?_);simp only[go_sem,simprocAttr];refine cd 7 50 2 rfl ?_;simp only[go_sem,simprocAttr];obtain⟨au,E,hm⟩:=jF hm;refine Wp.loopN (fun s=>[(0,lm za i),(1,lm za j),(2,.fn 73 []),(6,.buf 0),(7,.buf 1),(8,pI s.1),(9,pI s.2.1)]) (fun s=>[.buf 50 2 (List.map za s.2.2.1),.buf 50 2 (List.map za s.2.2.2)]) ?_ hm ?_
 .exact eZ
 clear hm;intro s a7 hm;obtain⟨f,g,b,c⟩:=s
 try dsimp only at hm|-
 refine ca fun _ a1 _=>qS ?_
 refine cN hm (fun hm=>?_) fun hm=>?_
 .refine Wp.skip (a1 _ _ (Wp.block (qS ?_)))
  refine ca fun K9 L w=>?_
  obtain⟨S,v,hm⟩:=zj hm
  have l:∀s,S s=some z->K9 [(0,lm za i),(1,lm za j),(2,.fn 73 []),(6,.buf 0),(7,.buf 1),(8,pI f),(9,pI g),(10,pI s)] [.buf 50 2 (List.map za b),.buf 50 2 (List.map za c)]:=by
   intro a2 hs;have hm:=v _ hs;clear hs
   try dsimp only at hm|-
   refine L _ _ (Wp.block (qS ?_))
   refine cN hm (fun hm=>?_) fun hm=>?_
   .obtain⟨M,a8,m,a9,hm⟩:=gf hm
    replace m:∀d,(List.map za i).getD f.toNat d=za M:=m za;obtain⟨av,hm⟩:=zh hm;have hA:=m;refine q6 ?_;refine r6 ?_;simp only[zx,zq,↓reduceIte];refine⟨(IntKind.i64.wrap (f+1),g,b++[M],c),hm,?_⟩;simp only[go_sem,simprocAttr,hA]
    try exact lM
   .refine qS ?_
    refine cN hm (fun hm=>?_) fun hm=>?_
    .obtain⟨N,ac,n,ad,hm⟩:=gf hm
     replace n:∀d,(List.map za j).getD g.toNat d=za N:=n za;obtain⟨aw,hm⟩:=zh hm;have hA:=n;refine q6 ?_;refine r6 ?_;simp only[zx,zq,↓reduceIte];refine⟨(f,IntKind.i64.wrap (g+1),b,c++[N]),hm,?_⟩;simp only[go_sem,simprocAttr,hA]
     try exact lM
    .refine ca fun _ C _=>?_
     obtain⟨T,a3,k,a4,hm⟩:=gf hm;replace k:∀d,(List.map za i).getD f.toNat d=za T:=k za;obtain⟨O,af,o,ag,hm⟩:=gf hm;replace o:∀d,(List.map za j).getD g.toNat d=za O:=o za;have hA:=And.intro k o
     refine dS (pl [(0,none),(1,none),(2,none),(3,none),(4,none),(5,none),(6,none),(7,none),(8,none)]) fun _ U=>U _ _ ?_
     refine cN hm (fun hm=>?_) fun hm=>?_
     .obtain⟨ax,hm⟩:=zh hm
      refine r6 ?_;refine C _ _ (r6 ?_);simp only[zx,zq,↓reduceIte];refine⟨(IntKind.i64.wrap (f+1),IntKind.i64.wrap (g+1),b,c++[O]),hm,?_⟩;simp only[go_sem,simprocAttr,hA]
      try exact lM
     .refine Wp.skip (C _ _ (r6 ?_))
      simp only[zx,zq,↓reduceIte];refine⟨(IntKind.i64.wrap (f+1),IntKind.i64.wrap (g+1),b,c),hm,?_⟩;simp only[go_sem,simprocAttr,hA]
      try exact lM
  clear L v;refine Wp.block (qS ?_)
  refine cN hm (fun hm=>?_) fun hm=>?_
  .refine qR ?_
   refine w _ _ _ _ ?_ (l (-1) hm);exact eZ
  .refine qS ?_
   refine cN hm (fun hm=>?_) fun hm=>?_
   .refine qR ?_
    refine w _ _ _ _ ?_ (l 1 hm);exact eZ
   .obtain⟨P,an,p,ap,hm⟩:=gf hm
    replace p:∀d,(List.map za i).getD f.toNat d=za P:=p za;obtain⟨V,F,hm⟩:=zd hm;obtain⟨Q,aq,t,ar,hm⟩:=gf hm;replace t:∀d,(List.map za j).getD g.toNat d=za Q:=t za;obtain⟨W,G,hm⟩:=zd hm;obtain⟨Y,I,hm⟩:=zd hm;have hA:=And.intro p t
    refine dE (pl [(0,none),(1,none),(2,none),(3,none),(4,none),(5,none),(6,none),(7,none),(8,none),(9,none),(10,none),(11,none),(12,none),(13,none)]) fun _ Z=>?_
    refine cD (fun hg=>GC P _ F) ?_;refine cD (fun hg=>GC Q _ G) ?_;refine cD (fun hg=>Mo V W _ I) (Z _ _ ?_);refine w _ _ _ _ ?_ (l Y hm);simp only[go_sem,simprocAttr,hA]
    try exact lM
 .refine Wp.exit ?_
  simp only[zx,zq,↓reduceIte];have hm:=E _ hm
  try dsimp only at hm
  refine a0 _ _ _ _ ?_ (D (b,c) hm);exact eZ
theorem Uq(i:List ai)(j:List ai)(z:List ai×List ai)(hm:Jc i j=some z):Does prog 137 [lm zb i,lm zb j,.fn 81 []] [] (fun r X=>r=.tup [lm zb z.1,lm zb z.2]/\X=[]):=by
 unfold Jc at hm
 refine dW 0 90 [.tmp 6,.tmp 7] func137 fun B=>nA fun hA=>?_
 refine qS ?_;refine qS ?_
 refine ca fun K3 J a0=>?_
 obtain⟨R,u,hm⟩:=zj hm
 have D:∀s,R s=some z->K3 [(6,.buf 0),(7,.buf 1)] [.buf 59 4 (List.map zb s.1),.buf 59 4 (List.map zb s.2)]:=by
  intro s hs;have hm:=u _ hs;clear hs;obtain⟨a5,a6⟩:=s
  try dsimp only at hm|-
  exact J _ _ (wQ)
 clear J u;refine Wp.block (cd 6 59 4 rfl ?_);simp only[go_sem,simprocAttr];refine cd 7 59 4 rfl ?_;simp only[go_sem,simprocAttr];obtain⟨au,E,hm⟩:=jF hm;refine Wp.loopN (fun s=>[(0,lm zb i),(1,lm zb j),(2,.fn 81 []),(6,.buf 0),(7,.buf 1),(8,pI s.1),(9,pI s.2.1)]) (fun s=>[.buf 59 4 (List.map zb s.2.2.1),.buf 59 4 (List.map zb s.2.2.2)]) ?_ hm ?_
 .exact eZ
 clear hm;intro s a7 hm;obtain⟨f,g,b,c⟩:=s
 try dsimp only at hm|-
 refine ca fun _ a1 _=>qS ?_
 refine cN hm (fun hm=>?_) fun hm=>?_
 .refine Wp.skip (a1 _ _ (Wp.block (qS ?_)))
  refine ca fun K9 L w=>?_
  obtain⟨S,v,hm⟩:=zj hm
  have l:∀s,S s=some z->K9 [(0,lm zb i),(1,lm zb j),(2,.fn 81 []),(6,.buf 0),(7,.buf 1),(8,pI f),(9,pI g),(10,pI s)] [.buf 59 4 (List.map zb b),.buf 59 4 (List.map zb c)]:=by
   intro a2 hs;have hm:=v _ hs;clear hs
   try dsimp only at hm|-
   refine L _ _ (Wp.block (qS ?_))
   refine cN hm (fun hm=>?_) fun hm=>?_
   .obtain⟨M,a8,m,a9,hm⟩:=gf hm
    replace m:∀d,(List.map zb i).getD f.toNat d=zb M:=m zb;obtain⟨av,hm⟩:=zh hm;have hA:=m;refine q6 ?_;refine r6 ?_;simp only[zx,zq,↓reduceIte];refine⟨(IntKind.i64.wrap (f+1),g,b++[M],c),hm,?_⟩;simp only[go_sem,simprocAttr,hA]
    try exact lM
   .refine qS ?_
    refine cN hm (fun hm=>?_) fun hm=>?_
    .obtain⟨N,ac,n,ad,hm⟩:=gf hm
     replace n:∀d,(List.map zb j).getD g.toNat d=zb N:=n zb;obtain⟨aw,hm⟩:=zh hm;have hA:=n;refine q6 ?_;refine r6 ?_;simp only[zx,zq,↓reduceIte];refine⟨(f,IntKind.i64.wrap (g+1),b,c++[N]),hm,?_⟩;simp only[go_sem,simprocAttr,hA]
     try exact lM
    .refine ca fun _ C _=>?_
     obtain⟨T,a3,k,a4,hm⟩:=gf hm;replace k:∀d,(List.map zb i).getD f.toNat d=zb T:=k zb;obtain⟨O,af,o,ag,hm⟩:=gf hm;replace o:∀d,(List.map zb j).getD g.toNat d=zb O:=o zb;have hA:=And.intro k o
     refine dS (pl [(0,none),(1,none),(2,none),(3,none),(4,none),(5,none),(6,none),(7,none),(8,none)]) fun _ U=>U _ _ ?_
     refine cN hm (fun hm=>?_) fun hm=>?_
     .obtain⟨ax,hm⟩:=zh hm
      refine r6 ?_;refine C _ _ (r6 ?_);simp only[zx,zq,↓reduceIte];refine⟨(IntKind.i64.wrap (f+1),IntKind.i64.wrap (g+1),b,c++[O]),hm,?_⟩;simp only[go_sem,simprocAttr,hA]
      try exact lM
     .refine Wp.skip (C _ _ (r6 ?_))
      simp only[zx,zq,↓reduceIte];refine⟨(IntKind.i64.wrap (f+1),IntKind.i64.wrap (g+1),b,c),hm,?_⟩;simp only[go_sem,simprocAttr,hA]
      try exact lM
  clear L v;refine Wp.block (qS ?_)
  refine cN hm (fun hm=>?_) fun hm=>?_
  .refine qR ?_
   refine w _ _ _ _ ?_ (l (-1) hm);exact eZ
  .refine qS ?_
   refine cN hm (fun hm=>?_) fun hm=>?_
   .refine qR ?_
    refine w _ _ _ _ ?_ (l 1 hm);exact eZ
   .obtain⟨P,an,p,ap,hm⟩:=gf hm
    replace p:∀d,(List.map zb i).getD f.toNat d=zb P:=p zb;obtain⟨V,F,hm⟩:=zd hm;obtain⟨Q,aq,t,ar,hm⟩:=gf hm;replace t:∀d,(List.map zb j).getD g.toNat d=zb Q:=t zb;obtain⟨W,G,hm⟩:=zd hm;obtain⟨Y,I,hm⟩:=zd hm;have hA:=And.intro p t
    refine dE (pl [(0,none),(1,none),(2,none),(3,none),(4,none),(5,none),(6,none),(7,none),(8,none),(9,none),(10,none),(11,none),(12,none),(13,none)]) fun _ Z=>?_
    refine cD (fun hg=>L4 P _ F) ?_;refine cD (fun hg=>L4 Q _ G) ?_;refine cD (fun hg=>Mo V W _ I) (Z _ _ ?_);refine w _ _ _ _ ?_ (l Y hm);simp only[go_sem,simprocAttr,hA]
    try exact lM
 .refine Wp.exit ?_
  simp only[zx,zq,↓reduceIte];have hm:=E _ hm
  try dsimp only at hm
  refine a0 _ _ _ _ ?_ (D (b,c) hm);exact eZ
end Go.Proofs.YtbcjkdopkcbblaaGreatDoor
