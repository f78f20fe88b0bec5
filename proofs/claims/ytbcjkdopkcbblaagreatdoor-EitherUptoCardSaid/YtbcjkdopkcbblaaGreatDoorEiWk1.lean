/- That the code does what the models say (part 1). -/
import Derived.Test.YtbcjkdopkcbblaaGreatDoorEiWk0
set_option linter.unusedSimpArgs false
set_option linter.unusedVariables false
open Go.Proofs Go.Shelf
open List
namespace Go.Proofs.YtbcjkdopkcbblaaGreatDoor
open Tryz
open Go.Vc Go.Md
set_option maxRecDepth 100000
set_option maxHeartbeats 4000000
theorem OZ(b:Int)(z:Bool)(hm:Ct b=some z):Does prog 43 [.p (.i .u8 b)] [] (fun r X=>r=pB z/\X=[]):=by
 unfold Ct at hm
 refine dW 0 9 [.tmp 2] func43 fun B=>nA fun hA=>?_
 refine qS ?_;exact wQ
theorem RB(b:Int)(z:Bool)(hm:Gv b=some z):Does prog 44 [.p (.i .u8 b)] [] (fun r X=>r=pB z/\X=[]):=by
 unfold Gv at hm
 refine dW 0 9 [.tmp 2] func44 fun B=>nA fun hA=>?_
 refine qS ?_;exact wQ
theorem Tc(b:Int)(z:Bool)(hm:Ix b=some z):Does prog 42 [.p (.i .u8 b)] [] (fun r X=>r=pB z/\X=[]):=by
 unfold Ix at hm
 refine dW 0 17 [.tmp 2] func42 fun B=>nA fun hA=>?_
 refine qS ?_;obtain⟨j,c,hm⟩:=zd hm;obtain⟨l,f,hm⟩:=zX hm
 refine rS fun _ k=>?_
 refine cX (fun hg=>OZ b _ c) ?_;refine cX (g:=!j) (fun hg=>RB b _ (f hg)) (k _ _ ?_);exact wR
theorem SP(c:dy)(b:Int)(z:Bool)(hm:LX c b=some z):Does prog 41 [pS c,pI b,.fn 42 []] [] (fun r X=>r=pB z/\X=[]):=by
 unfold LX at hm
 refine dW 0 28 [.tmp 6] func41 fun B=>nA fun hA=>?_
 refine qS ?_
 refine ca fun K2 o v=>?_
 obtain⟨w,g,hm⟩:=zj hm
 have k:∀s,w s=some z->K2 [(0,pS c),(1,pI b)] []:=by
  intro s hs;have hm:=g _ hs;clear hs
  try dsimp only at hm|-
  exact o _ _ (wQ)
 clear o g;refine qS ?_;refine Wp.block ?_;obtain⟨J,p,hm⟩:=zm hm
 refine fL 0 c.length fun t=>?_
 refine Wp.forL (fun i s=>[(0,pS c),(1,pI b),(2,.fn 42 []),(7,pI (i:Int))]) (fun i s=>[]) wF hm ?_;clear hm;intro i s G hm
 try dsimp only at hm|-
 refine ca fun _ C _=>qS ?_
 refine Wp.cond rfl ⟨⟩ (fun j=>?_) fun j=>Wp.exit (v _ _ _ _ wF (k () (p _ (p8 hm (u2 j)))))
 have f:=tO j;have D:=qc f t;obtain⟨E,I,l,m,n,hm⟩:=p9 hm f;clear l;refine Wp.skip ?_;simp only[zx];refine C _ _ (ca fun _ F _=>Wp.block ?_);obtain⟨L,u,hm⟩:=zd hm;have hA:=And.intro D m;refine sX (fun hg=>Tc (E.toNat:Int) _ u) ?_
 refine cR hm fun hm=>?_
 refine Wp.skip (F _ _ (r6 ?_));exact wN () f (n _ hm)
theorem DW(b:dy)(z:Bool)(hm:ta b=some z):Does prog 13 [pS b] [] (fun r X=>r=pB z/\X=[]):=by
 unfold ta at hm
 refine dW 0 10 [.tmp 2] func13 fun B=>nA fun hA=>?_
 refine qS ?_;obtain⟨i,c,hm⟩:=zd hm;obtain⟨k,hm⟩:=zh hm;obtain⟨l,f,hm⟩:=zX hm
 refine rS fun _ j=>?_
 refine cX (fun hg=>SP b 40 _ c) ?_;refine cX (g:=i) (fun hg=>OZ ((b.getD 0 0).toNat:Int) _ (f hg)) (j _ _ ?_);exact wR
theorem SD(z:Bool)(hm:Ia=some z):Does prog 4 [] [] (fun r X=>r=pB z/\X=[]):=by
 unfold Ia at hm
 refine dW 0 2 [.tmp 0] func4 fun B=>nA fun hA=>?_
 refine qS ?_;obtain⟨c,b,hm⟩:=zd hm;refine sX (fun hg=>DW ([97]:dy) _ b) ?_;exact wR
theorem Ii(b:dy)(z:Bool)(hm:Aq b=some z):Does prog 8 [pS b] [] (fun r X=>r=pB z/\X=[]):=by
 unfold Aq at hm
 refine dW 0 54 [.tmp 2] func8 fun B=>nA fun hA=>?_
 refine qS ?_
 refine ca fun K2 j n=>?_
 obtain⟨o,c,hm⟩:=zj hm
 have g:∀s,o s=some z->K2 [(0,pS b)] []:=by
  intro s hs;have hm:=c _ hs;clear hs
  try dsimp only at hm|-
  exact j _ _ (wQ)
 clear j c;refine qS ?_;refine Wp.block ?_;obtain⟨w,k,hm⟩:=zm hm
 refine fL 0 b.length fun l=>?_
 refine Wp.forL (fun f s=>[(0,pS b),(7,pI (b.length:Int)),(8,pI (f:Int))]) (fun f s=>[]) wF hm ?_;clear hm;intro f s t hm
 try dsimp only at hm|-
 refine qS ?_
 refine lS hm l (fun h=>n _ _ _ _ wF (g () (k _ h))) fun m C D v u i hm hA _ p=>?_
 refine q6 ?_;refine q6 ?_;refine q6 ?_;refine q6 ?_
 refine cR hm fun hm=>?_
 refine Wp.skip (p _ _ (r6 ?_));exact wN () m (i _ hm)
theorem OM(b:dy)(z:Bool)(hm:DE b=some z):Does prog 17 [pS b] [] (fun r X=>r=pB z/\X=[]):=by
 unfold DE at hm
 refine dW 0 23 [.tmp 2] func17 fun B=>nA fun hA=>?_
 refine qS ?_
 refine ca fun K2 j n=>?_
 obtain⟨o,c,hm⟩:=zj hm
 have g:∀s,o s=some z->K2 [(0,pS b)] []:=by
  intro s hs;have hm:=c _ hs;clear hs
  try dsimp only at hm|-
  exact j _ _ (wQ)
 clear j c;refine qS ?_;refine Wp.block ?_;obtain⟨w,k,hm⟩:=zm hm
 refine fL 0 b.length fun l=>?_
 refine Wp.forL (fun f s=>[(0,pS b),(5,pI (b.length:Int)),(6,pI (f:Int))]) (fun f s=>[]) wF hm ?_;clear hm;intro f s t hm
 try dsimp only at hm|-
 refine qS ?_
 refine lS hm l (fun h=>n _ _ _ _ wF (g () (k _ h))) fun m C D v u i hm hA _ p=>?_
 refine q6 ?_;refine q6 ?_
 refine cR hm fun hm=>?_
 refine Wp.skip (p _ _ (r6 ?_));exact wN () m (i _ hm)
theorem Us(b:dy)(c:dy)(z:Int)(hm:Pj b c=some z):Does prog 51 [pS b,pS c] [] (fun r X=>r=pI z/\X=[]):=by
 unfold Pj at hm
 refine dW 0 8 [.tmp 4] func51 fun B=>nA fun hA=>?_
 refine qS ?_;have i:=sD b c
 refine cb fun K2 f=>?_
 simp only[go_sem,simprocAttr]
 try refine⟨sd,?_⟩
 refine cP (av:=?av3) (g:=true) (fun hg=>JQ b c) si si si sg si ?cont3;intro j;simp only[go_sem,simprocAttr];refine kA f ?_;exact wR
theorem Mo(b:dy)(c:dy)(z:Int)(hm:D5 b c=some z):Does prog 20 [pS b,pS c] [] (fun r X=>r=pI z/\X=[]):=by
 unfold D5 at hm
 refine dW 0 8 [.tmp 4] func20 fun B=>nA fun hA=>?_
 refine qS ?_;obtain⟨g,f,hm⟩:=zd hm;refine sX (fun hg=>Us b c _ f) ?_;exact wR
theorem l6(b:aa)(c:aa)(z:Int)(hm:Lu b c=some z):Does prog 19 [.agg [pS b.k,pS b.Value],.agg [pS c.k,pS c.Value]] [] (fun r X=>r=pI z/\X=[]):=by
 unfold Lu at hm
 refine dW 0 10 [.tmp 4] func19 fun B=>nA fun hA=>?_
 refine qS ?_;obtain⟨g,f,hm⟩:=zd hm;refine sX (fun hg=>Mo b.k c.k _ f) ?_;exact wR
theorem Sl(C:Int)(D:Int)(L:List aa)(z:List aa)(hm:zn C D L=some z):Does prog 85 [.buf 0,pI C,pI D,.fn 19 []] [.fx 50 2 (List.map za L)] (fun r X=>r=.tup []/\X=[.fx 50 2 (List.map za z)]):=by
 unfold zn at hm
 refine dW 1 53 [] func85 fun B=>nA fun hA=>?_
 refine qS ?_;refine Wp.block ?_;obtain⟨ac,N,hm⟩:=jF hm;refine Wp.loopN (fun s=>[(0,.buf 0),(1,pI C),(2,pI D),(3,.fn 19 []),(8,pI s.1)]) (fun s=>[.fx 50 2 (List.map za s.2)]) ?_ hm ?_
 .exact dR
 clear hm;intro s a7 hm;obtain⟨F,a8⟩:=s
 try dsimp only at hm|-
 refine ca fun _ a3 _=>qS ?_
 refine cN hm (fun hm=>?_) fun hm=>?_
 .refine Wp.skip (a3 _ _ (ca fun K5 U a4=>?_))
  obtain⟨V,M,hm⟩:=zj hm
  have O:∀s,V s=some z->K5 [(0,.buf 0),(1,pI C),(2,pI D),(3,.fn 19 []),(8,pI F)] [.fx 50 2 (List.map za s)]:=by
   intro P hs;have hm:=M _ hs;clear hs
   try dsimp only at hm|-
   refine U _ _ (qR ?_);simp only[zx,zq,↓reduceIte];refine⟨(IntKind.i64.wrap (F+1),P),hm,?_⟩;exact dR
  clear U M;refine Wp.block (qS ?_);refine Wp.block ?_;obtain⟨ad,Q,hm⟩:=jF hm;refine Wp.loopN (fun s=>[(0,.buf 0),(1,pI C),(2,pI D),(3,.fn 19 []),(8,pI F),(9,pI s.1)]) (fun s=>[.fx 50 2 (List.map za s.2)]) ?_ hm ?_
  .exact dR
  clear hm;intro s a9 hm;obtain⟨j,f⟩:=s
  try dsimp only at hm|-
  refine ca fun _ a5 _=>?_
  obtain⟨W,hm⟩:=zh hm;obtain⟨Y,hm⟩:=zh hm;obtain⟨E,R,hm⟩:=zX hm
  refine dn (plan:=pl [(0,none),(1,none),(2,none),(3,none),(4,none),(5,none),(6,none),(7,none),(8,none),(9,none),(10,none),(11,none),(12,none),(13,none),(14,none),(15,none),(16,none)]) (by kernel_rfl) rfl (by kernel_rfl) fun K9 a6 w=>?_
  suffices m:K9 [(0,.buf 0),(1,pI C),(2,pI D),(3,.fn 19 []),(8,pI F),(9,pI j),(34,pB ((decide (C<j))&&(decide (E<0))))] [.fx 50 2 (List.map za f)]by
   rcases Bool.eq_false_or_eq_true (decide (C<j))with b|b
   ·
    have Z:=W b
    try dsimp only at Z
    have a0:=Y b
    try dsimp only at a0
    have t:=fun h=>mS (l:=f) (e:=za) (d:=(aa.mk [] [])) (i:=j.toNat) h []
    have u:=fun h=>mS (l:=f) (e:=za) (d:=(aa.mk [] [])) (i:=(IntKind.i64.wrap (j-1)).toNat) h []
    simp only[go_sem,simprocAttr,false_implies,and_true,true_and,dD,b,t (by omega),u (by omega)]
    try refine⟨sL,?_⟩
    refine Dr.callF (av:=?av10) (g:=decide (C<j)) (o:=?o10) (fun hg=>l6 (aa.mk ((f.getD j.toNat (aa.mk [] [])).k) ((f.getD j.toNat (aa.mk [] [])).Value)) (aa.mk ((f.getD ((IntKind.i64.wrap (j-1)).toNat) (aa.mk [] [])).k) ((f.getD ((IntKind.i64.wrap (j-1)).toNat) (aa.mk [] [])).Value)) _ (R hg)) (by simp only[go_sem,simprocAttr,false_implies,and_true,true_and,dD,b,t (by omega),u (by omega)];exact Is.mk) (by simp only[go_sem,simprocAttr,false_implies,and_true,true_and,dD,b,t (by omega),u (by omega)];exact Is.mk) (by simp only[go_sem,simprocAttr,false_implies,and_true,true_and,dD,b,t (by omega),u (by omega)];exact Is.mk) (by simp only[go_sem,simprocAttr,false_implies,and_true,true_and,dD,b,t (by omega),u (by omega)];exact Is.mk) (by simp only[go_sem,simprocAttr,false_implies,and_true,true_and,dD,b,t (by omega),u (by omega)]) (by simp only[go_sem,simprocAttr,false_implies,and_true,true_and,dD,b,t (by omega),u (by omega)];exact Is.mk) ?cont10;simp only[go_sem,simprocAttr,false_implies,and_true,true_and,dD,b,t (by omega),u (by omega)]
    first|refine w _ _ _ _ ?_ m|refine⟨sL,w _ _ _ _ ?_ m⟩
    simp only[go_sem,simprocAttr,false_implies,and_true,true_and,dD,b,t (by omega),u (by omega)]
    try exact qz
   ·
    rcases Nat.lt_or_ge j.toNat f.length with G|G
    ·
     have c:=mS (l:=f) (e:=za) (d:=(aa.mk [] [])) (i:=j.toNat) G []
     rcases Nat.lt_or_ge ((IntKind.i64.wrap (j-1)).toNat) f.length with I|I
     ·
      have n:=mS (l:=f) (e:=za) (d:=(aa.mk [] [])) (i:=(IntKind.i64.wrap (j-1)).toNat) I [];simp only[go_sem,simprocAttr,false_implies,and_true,true_and,dD,b,c,n]
      try refine⟨sL,?_⟩
      refine cI (o:=?o11) (v:=pI E) (gw:=?gw11) (by simp only[go_sem,simprocAttr,false_implies,and_true,true_and,dD,b,c,n];exact Is.mk) (by simp only[go_sem,simprocAttr,false_implies,and_true,true_and,dD,b,c,n];exact Is.mk) (by simp only[go_sem,simprocAttr,false_implies,and_true,true_and,dD,b,c,n];exact Is.mk) (by simp only[go_sem,simprocAttr,false_implies,and_true,true_and,dD,b,c,n]) ?cont11;simp only[go_sem,simprocAttr,false_implies,and_true,true_and,dD,b,c,n]
      first|refine w _ _ _ _ ?_ m|refine⟨sL,w _ _ _ _ ?_ m⟩
      simp only[go_sem,simprocAttr,false_implies,and_true,true_and,dD,b,c,n]
      try exact qz
     ·
      have n:(List.map za f).getD ((IntKind.i64.wrap (j-1)).toNat) []=[]:=by rw[getD_eq_getElem?_getD,getElem?_eq_none (by simpa using I)];rfl
      simp only[go_sem,simprocAttr,false_implies,and_true,true_and,dD,b,c,n]
      try refine⟨sL,?_⟩
      refine cI (o:=?o12) (v:=pI E) (gw:=?gw12) (by simp only[go_sem,simprocAttr,false_implies,and_true,true_and,dD,b,c,n];exact Is.mk) (by simp only[go_sem,simprocAttr,false_implies,and_true,true_and,dD,b,c,n];exact Is.mk) (by simp only[go_sem,simprocAttr,false_implies,and_true,true_and,dD,b,c,n];exact Is.mk) (by simp only[go_sem,simprocAttr,false_implies,and_true,true_and,dD,b,c,n]) ?cont12;simp only[go_sem,simprocAttr,false_implies,and_true,true_and,dD,b,c,n]
      first|refine w _ _ _ _ ?_ m|refine⟨sL,w _ _ _ _ ?_ m⟩
      simp only[go_sem,simprocAttr,false_implies,and_true,true_and,dD,b,c,n]
      try exact qz
    ·
     have c:(List.map za f).getD j.toNat []=[]:=by rw[getD_eq_getElem?_getD,getElem?_eq_none (by simpa using G)];rfl
     rcases Nat.lt_or_ge ((IntKind.i64.wrap (j-1)).toNat) f.length with J|J
     ·
      have p:=mS (l:=f) (e:=za) (d:=(aa.mk [] [])) (i:=(IntKind.i64.wrap (j-1)).toNat) J [];simp only[go_sem,simprocAttr,false_implies,and_true,true_and,dD,b,c,p]
      try refine⟨sL,?_⟩
      refine cI (o:=?o13) (v:=pI E) (gw:=?gw13) (by simp only[go_sem,simprocAttr,false_implies,and_true,true_and,dD,b,c,p];exact Is.mk) (by simp only[go_sem,simprocAttr,false_implies,and_true,true_and,dD,b,c,p];exact Is.mk) (by simp only[go_sem,simprocAttr,false_implies,and_true,true_and,dD,b,c,p];exact Is.mk) (by simp only[go_sem,simprocAttr,false_implies,and_true,true_and,dD,b,c,p]) ?cont13;simp only[go_sem,simprocAttr,false_implies,and_true,true_and,dD,b,c,p]
      first|refine w _ _ _ _ ?_ m|refine⟨sL,w _ _ _ _ ?_ m⟩
      simp only[go_sem,simprocAttr,false_implies,and_true,true_and,dD,b,c,p]
      try exact qz
     ·
      have p:(List.map za f).getD ((IntKind.i64.wrap (j-1)).toNat) []=[]:=by rw[getD_eq_getElem?_getD,getElem?_eq_none (by simpa using J)];rfl
      simp only[go_sem,simprocAttr,false_implies,and_true,true_and,dD,b,c,p]
      try refine⟨sL,?_⟩
      refine cI (o:=?o14) (v:=pI E) (gw:=?gw14) (by simp only[go_sem,simprocAttr,false_implies,and_true,true_and,dD,b,c,p];exact Is.mk) (by simp only[go_sem,simprocAttr,false_implies,and_true,true_and,dD,b,c,p];exact Is.mk) (by simp only[go_sem,simprocAttr,false_implies,and_true,true_and,dD,b,c,p];exact Is.mk) (by simp only[go_sem,simprocAttr,false_implies,and_true,true_and,dD,b,c,p]) ?cont14;simp only[go_sem,simprocAttr,false_implies,and_true,true_and,dD,b,c,p]
      first|refine w _ _ _ _ ?_ m|refine⟨sL,w _ _ _ _ ?_ m⟩
      simp only[go_sem,simprocAttr,false_implies,and_true,true_and,dD,b,c,p]
      try exact qz
  refine a6 _ _ (cN hm (fun hm=>?_) fun hm=>?_)
  .refine Wp.skip (a5 _ _ (ca fun _ a1 _=>Wp.block ?_))
   obtain⟨af,hm⟩:=zh hm;obtain⟨ag,hm⟩:=zh hm;obtain⟨an,hm⟩:=zh hm;obtain⟨ap,hm⟩:=zh hm
   have S:=fun h=>mS (l:=f) (e:=za) (d:=(aa.mk [] [])) (i:=(IntKind.i64.wrap (j-1)).toNat) h []
   have T:=fun h=>mS (l:=f) (e:=za) (d:=(aa.mk [] [])) (i:=j.toNat) h []
   refine cz (plan:=pl [(0,none),(1,none),(2,none),(3,none),(4,none),(5,none),(6,none),(7,none),(8,none),(9,none),(10,none),(11,none),(12,none),(13,none),(14,none),(15,some [2,3,4]),(16,none),(17,some [])]) (by kernel_rfl) rfl (by kernel_rfl) fun aq a2=>?_
   simp only[go_sem,simprocAttr,S (by omega),T (by omega)];refine kA a2 ?_;refine a1 _ _ (qR ?_);simp only[zx,zq,↓reduceIte];refine⟨(IntKind.i64.wrap (j-1),List.set (List.set f j.toNat (aa.mk ((f.getD ((IntKind.i64.wrap (j-1)).toNat) (aa.mk [] [])).k) ((f.getD ((IntKind.i64.wrap (j-1)).toNat) (aa.mk [] [])).Value))) ((IntKind.i64.wrap (j-1)).toNat) (aa.mk ((f.getD j.toNat (aa.mk [] [])).k) ((f.getD j.toNat (aa.mk [] [])).Value))),hm,?_⟩;exact dR
  .refine Wp.exit ?_
   simp only[zx,zq,↓reduceIte];have hm:=Q _ hm
   try dsimp only at hm
   refine a4 _ _ _ _ ?_ (O f hm);exact dR
 .refine Wp.exit ?_
  simp only[zx,zq,↓reduceIte];have hm:=N _ hm
  try dsimp only at hm
  refine vB ?_;cases hm;exact dR
theorem UF(c:Int)(g:List aa)(z:List aa)(hm:MA c g=some z):Does prog 50 [.buf 0,pI c,.fn 19 []] [.fx 50 2 (List.map za g)] (fun r X=>r=.tup []/\X=[.fx 50 2 (List.map za z)]):=by
 unfold MA at hm
 refine dW 1 63 [] func50 fun B=>nA fun hA=>?_
 refine qS ?_;refine qS ?_
 refine ca fun K3 w M=>?_
 obtain⟨N,i,hm⟩:=zj hm
 have p:∀s,N s=some z->K3 [(0,.buf 0),(1,pI c),(2,.fn 19 []),(6,pI 20),(7,pI s.1)] [.fx 50 2 (List.map za s.2)]:=by
  intro s hs;have hm:=i _ hs;clear hs;obtain⟨C,t⟩:=s
  try dsimp only at hm|-
  refine w _ _ ?_;obtain⟨j,D,hm⟩:=zd hm;refine sO [0] (Sl C c t _ D) ?_;refine Wp.block ?_;obtain⟨Y,E,hm⟩:=jF hm;refine Wp.loopN (fun s=>[(0,.buf 0),(1,pI c),(2,.fn 19 []),(6,pI s)]) (fun s=>[.fx 50 2 (List.map za j)]) ?_ hm ?_
  .exact dR
  clear hm;intro b S hm
  try dsimp only at hm|-
  refine ca fun _ O _=>qS ?_
  refine cN hm (fun hm=>?_) fun hm=>?_
  .refine Wp.skip (O _ _ (Wp.block (qS ?_)))
   refine ca fun P k F=>?_
   obtain⟨Q,l,hm⟩:=zj hm
   have m:∀s,Q s=some z->P [(0,.buf 0),(1,pI c),(2,.fn 19 []),(6,pI b),(7,pI 0)] [.fx 50 2 (List.map za j)]:=by
    intro s hs;have hm:=l _ hs;clear hs
    try dsimp only at hm|-
    refine k _ _ (ca fun _ G _=>qS ?_);refine qS ?_
    refine cN hm (fun hm=>?_) fun hm=>?_
    .cases hm
    .refine Wp.skip (G _ _ (qR ?_))
     simp only[zx,zq,↓reduceIte];refine⟨IntKind.i64.wrap (b*2),hm,?_⟩;exact dR
   clear k l;refine Wp.block ?_;obtain⟨V,u,hm⟩:=jF hm;refine Wp.loopN (fun s=>[(0,.buf 0),(1,pI c),(2,.fn 19 []),(6,pI b),(7,pI 0),(8,pI (IntKind.i64.wrap (2*b)))]) (fun s=>[.fx 50 2 (List.map za j)]) ?_ hm ?_
   .exact dR
   clear hm;intro s T hm
   try dsimp only at hm|-
   refine ca fun _ I _=>qS ?_
   refine cN hm (fun hm=>?_) fun hm=>?_
   .refine Wp.skip (I _ _ (Wp.block ?_))
    cases hm
   .refine Wp.exit ?_
    simp only[zx,zq,↓reduceIte];have hm:=u _ hm
    try dsimp only at hm
    refine F _ _ _ _ ?_ (m () hm);exact dR
  .refine Wp.exit ?_
   simp only[zx,zq,↓reduceIte];have hm:=E _ hm
   try dsimp only at hm
   refine vB ?_;cases hm;exact dR
 clear w i;refine Wp.block ?_;obtain⟨W,v,hm⟩:=jF hm;refine Wp.loopN (fun s=>[(0,.buf 0),(1,pI c),(2,.fn 19 []),(6,pI 20),(7,pI s.1),(8,pI s.2.1)]) (fun s=>[.fx 50 2 (List.map za s.2.2)]) ?_ hm ?_
 .exact dR
 clear hm;intro s U hm;obtain⟨n,o,f⟩:=s
 try dsimp only at hm|-
 refine ca fun _ J _=>qS ?_
 refine cN hm (fun hm=>?_) fun hm=>?_
 .refine Wp.skip (J _ _ (Wp.block ?_))
  obtain⟨R,L,hm⟩:=zd hm;refine sO [0] (Sl n o f _ L) ?_;refine qS ?_;refine qR ?_;simp only[zx,zq,↓reduceIte];refine⟨(o,IntKind.i64.wrap (o+20),R),hm,?_⟩;exact dR
 .refine Wp.exit ?_
  simp only[zx,zq,↓reduceIte];have hm:=v _ hm
  try dsimp only at hm
  refine M _ _ _ _ ?_ (p (n,f) hm);exact dR
theorem U1(b:List aa)(z:List aa)(hm:zw b=some z):Does prog 18 [.buf 0,.fn 19 []] [.fx 50 2 (List.map za b)] (fun r X=>r=.tup []/\X=[.fx 50 2 (List.map za z)]):=by
 unfold zw at hm
 refine dW 1 9 [] func18 fun B=>nA fun hA=>?_
 obtain⟨f,c,hm⟩:=zd hm;refine eO [0] (UF (b.length:Int) b _ c) ?_;refine vB ?_;cases hm;exact dR
theorem Rc(b:aa)(c:aa)(z:Bool)(hm:HP b c=some z):Does prog 22 [.agg [pS b.k,pS b.Value],.agg [pS c.k,pS c.Value]] [] (fun r X=>r=pB z/\X=[]):=by
 unfold HP at hm
 refine dW 0 10 [.tmp 4] func22 fun B=>nA fun hA=>?_
 refine qS ?_;exact wQ
theorem UT(b:List aa)(z:Nat×Nat×List aa)(hm:zE b=some z):Does prog 21 [.buf 0,.fn 22 []] [.fx 50 2 (List.map za b)] (fun r X=>r=.vw 0 2 z.1 z.2.1/\X=[.fx 50 2 (List.map za z.2.2)]):=by
 unfold zE at hm
 refine dW 1 66 [.tmp 4] func21 fun B=>nA fun hA=>?_
 refine cU 0 0 (by simp only[go_sem,simprocAttr];exact Is.mk) (by simp only[go_sem,simprocAttr];exact Is.mk) ?_;simp only[go_sem,simprocAttr];refine qS ?_
 refine ca fun _ a3 _=>qS ?_
 refine cR hm fun hm=>?_
 refine Wp.skip (a3 _ _ (ca fun K6 R a4=>?_));obtain⟨a5,D,hm⟩:=zj hm
 have L:∀s,a5 s=some z->K6 [(0,.vw 0 2 0 b.length)] [.fx 50 2 (List.map za b)]:=by
  intro s hs;have hm:=D _ hs;clear hs
  try dsimp only at hm|-
  exact R _ _ (wQ)
 clear R D;refine qS ?_;refine Wp.block ?_;obtain⟨af,M,hm⟩:=jF hm;refine Wp.loopN (fun s=>[(0,.vw 0 2 0 b.length),(1,.fn 22 []),(5,pI s)]) (fun s=>[.fx 50 2 (List.map za b)]) ?_ hm ?_
 .exact dR
 clear hm;intro c a9 hm
 try dsimp only at hm|-
 refine ca fun _ a6 _=>qS ?_
 refine cN hm (fun hm=>?_) fun hm=>?_
 .refine Wp.skip (a6 _ _ (ca fun a7 E S=>?_))
  obtain⟨U,w,hm⟩:=zj hm
  have F:∀s,U s=some z->a7 [(0,.vw 0 2 0 b.length),(1,.fn 22 []),(5,pI c)] [.fx 50 2 (List.map za b)]:=by
   intro s hs;have hm:=w _ hs;clear hs
   try dsimp only at hm|-
   refine E _ _ (qR ?_);simp only[zx,zq,↓reduceIte];refine⟨IntKind.i64.wrap (c+1),hm,?_⟩;exact dR
  clear E w;refine Wp.block ?_;obtain⟨ag,hm⟩:=zh hm;obtain⟨an,hm⟩:=zh hm;obtain⟨ap,N,hm⟩:=zd hm
  have n:=fun h=>mS (l:=b) (e:=za) (d:=(aa.mk [] [])) (i:=(c.toNat:Nat)) h []
  have p:=fun h=>mS (l:=b) (e:=za) (d:=(aa.mk [] [])) (i:=((IntKind.i64.wrap (c-1)).toNat:Nat)) h []
  refine cj (plan:=pl [(0,none),(1,none),(2,none),(3,none),(4,none),(5,none),(6,none),(7,none),(8,none),(9,none),(10,none)]) (by kernel_rfl) rfl (by kernel_rfl) fun aH V=>?_
  simp only[go_sem,simprocAttr,n (by omega),p (by omega)]
  try refine⟨sL,?_⟩
  refine Dr.callF (av:=?av15) (g:=true) (o:=?o15) (fun hg=>Rc (aa.mk ((b.getD (c.toNat:Nat) (aa.mk [] [])).k) ((b.getD (c.toNat:Nat) (aa.mk [] [])).Value)) (aa.mk ((b.getD ((IntKind.i64.wrap (c-1)).toNat:Nat) (aa.mk [] [])).k) ((b.getD ((IntKind.i64.wrap (c-1)).toNat:Nat) (aa.mk [] [])).Value)) _ N) (by simp only[go_sem,simprocAttr,n (by omega),p (by omega)];exact Is.mk) (by simp only[go_sem,simprocAttr,n (by omega),p (by omega)];exact Is.mk) (by simp only[go_sem,simprocAttr,n (by omega),p (by omega)];exact Is.mk) (by simp only[go_sem,simprocAttr,n (by omega),p (by omega)];exact Is.mk) (by simp only[go_sem,simprocAttr,n (by omega),p (by omega)]) (by simp only[go_sem,simprocAttr,n (by omega),p (by omega)];exact Is.mk) ?cont15;simp only[go_sem,simprocAttr,n (by omega),p (by omega)];refine kA V ?_
  refine cN hm (fun hm=>?_) fun hm=>?_
  .obtain⟨aq,hm⟩:=zh hm
   refine q6 ?_
   refine ca fun a8 G W=>?_
   obtain⟨Y,C,hm⟩:=zj hm
   have I:∀s,Y s=some z->a8 [(0,.vw 0 2 0 b.length),(5,pI s.1)] [.fx 50 2 (List.map za s.2)]:=by
    intro s hs;have hm:=C _ hs;clear hs;obtain⟨ar,ac⟩:=s
    try dsimp only at hm|-
    refine G _ _ ?_;obtain⟨au,hm⟩:=zh hm
    refine cb fun aI Z=>?_
    simp only[go_sem,simprocAttr]
    try refine⟨sL,?_⟩
    refine Rg.clear (i:=?i20) (sz:=?sz20) (a:=?a20) (m:=?m20) (T:=?T20) (rows:=?rows20) (e:=?e20) (eb:=?eb20) (ez:=?ez20) (z:=?z20) (fx:=?fx20) Is.mk Is.mk Is.mk Is.mk Is.mk sg sg si si si si sg sg sg ?cont20;simp only[go_sem,simprocAttr];refine kA Z ?_;obtain⟨aw,hm⟩:=zh hm;exact wQ
   clear G C;refine qS ?_;refine Wp.block ?_;obtain⟨ax,O,hm⟩:=jF hm;refine Wp.loopN (fun s=>[(0,.vw 0 2 0 b.length),(1,.fn 22 []),(5,pI s.1),(6,.vw 0 2 c.toNat (b.length-c.toNat)),(7,pI s.2.1)]) (fun s=>[.fx 50 2 (List.map za s.2.2)]) ?_ hm ?_
   .exact dR
   clear hm;intro s ad hm;obtain⟨v,j,f⟩:=s
   try dsimp only at hm|-
   refine ca fun _ a0 _=>qS ?_
   refine cN hm (fun hm=>?_) fun hm=>?_
   .refine Wp.skip (a0 _ _ (ca fun _ J _=>Wp.block ?_))
    obtain⟨ay,hm⟩:=zh hm;obtain⟨az,hm⟩:=zh hm;obtain⟨aA,hm⟩:=zh hm;obtain⟨aB,hm⟩:=zh hm;obtain⟨aC,P,hm⟩:=zd hm
    have t:=fun h=>mS (l:=f) (e:=za) (d:=(aa.mk [] [])) (i:=(c.toNat+j.toNat:Nat)) h []
    have u:=fun h=>mS (l:=f) (e:=za) (d:=(aa.mk [] [])) (i:=(c.toNat+((IntKind.i64.wrap (j-1)).toNat):Nat)) h []
    refine cj (plan:=pl [(0,none),(1,none),(2,none),(3,none),(4,none),(5,none),(6,none),(7,none),(8,none),(9,none),(10,none),(11,none)]) (by kernel_rfl) rfl (by kernel_rfl) fun aJ a1=>?_
    simp only[go_sem,simprocAttr,t (by omega),u (by omega)]
    try refine⟨sL,?_⟩
    refine Dr.callF (av:=?av28) (g:=true) (o:=?o28) (fun hg=>Rc (aa.mk ((f.getD (c.toNat+j.toNat:Nat) (aa.mk [] [])).k) ((f.getD (c.toNat+j.toNat:Nat) (aa.mk [] [])).Value)) (aa.mk ((f.getD (c.toNat+((IntKind.i64.wrap (j-1)).toNat):Nat) (aa.mk [] [])).k) ((f.getD (c.toNat+((IntKind.i64.wrap (j-1)).toNat):Nat) (aa.mk [] [])).Value)) _ P) (by simp only[go_sem,simprocAttr,t (by omega),u (by omega)];exact Is.mk) (by simp only[go_sem,simprocAttr,t (by omega),u (by omega)];exact Is.mk) (by simp only[go_sem,simprocAttr,t (by omega),u (by omega)];exact Is.mk) (by simp only[go_sem,simprocAttr,t (by omega),u (by omega)];exact Is.mk) (by simp only[go_sem,simprocAttr,t (by omega),u (by omega)]) (by simp only[go_sem,simprocAttr,t (by omega),u (by omega)];exact Is.mk) ?cont28;simp only[go_sem,simprocAttr,t (by omega),u (by omega)];refine kA a1 ?_
    refine cN hm (fun hm=>?_) fun hm=>?_
    .obtain⟨aD,hm⟩:=zh hm
     obtain⟨aE,hm⟩:=zh hm;obtain⟨aF,hm⟩:=zh hm;obtain⟨aG,hm⟩:=zh hm
     have Q:=fun h=>mS (l:=f) (e:=za) (d:=(aa.mk [] [])) (i:=(c.toNat+j.toNat:Nat)) h []
     refine cb fun aK a2=>?_
     simp only[go_sem,simprocAttr,Q (by omega)];refine kA a2 ?_;refine qR ?_;refine J _ _ (qR ?_);simp only[zx,zq,↓reduceIte];refine⟨(IntKind.i64.wrap (v+1),IntKind.i64.wrap (j+1),List.set f (v.toNat:Nat) (aa.mk ((f.getD (c.toNat+j.toNat:Nat) (aa.mk [] [])).k) ((f.getD (c.toNat+j.toNat:Nat) (aa.mk [] [])).Value))),hm,?_⟩;exact dR
    .refine Wp.skip (J _ _ (qR ?_))
     simp only[zx,zq,↓reduceIte];refine⟨(v,IntKind.i64.wrap (j+1),f),hm,?_⟩;exact dR
   .refine Wp.exit ?_
    simp only[zx,zq,↓reduceIte];have hm:=O _ hm
    try dsimp only at hm
    refine W _ _ _ _ ?_ (I (v,f) hm);exact dR
  .refine Wp.skip (S _ _ _ _ ?_ (F () hm))
   exact dR
 .refine Wp.exit ?_
  simp only[zx,zq,↓reduceIte];have hm:=M _ hm
  try dsimp only at hm
  refine a4 _ _ _ _ ?_ (L () hm);exact dR
theorem uZ(b:Bool)(c:Int)(z:Int)(hm:p6 b c=some z):Does prog 89 [pB b,pI c] [] (fun r X=>r=pI z/\X=[]):=by
 unfold p6 at hm
 refine dW 0 7 [.tmp 4] func89 fun B=>nA fun hA=>?_
 refine qS ?_
 refine ca fun _ f _=>qS ?_
 refine cR hm fun hm=>?_
 exact Wp.skip (f _ _ (wQ))
theorem Mc(f:Int)(c:dy)(b:dy)(z:Int×dy)(hm:Cw f c b=some z):Does prog 88 [pI f,pS c,.ptr 0 0] [.cells 9 [pS b]] (fun r X=>r=pI z.1/\X=[.cells 9 [pS z.2]]):=by
 unfold Cw at hm
 refine dW 1 17 [.tmp 5] func88 fun B=>nA fun hA=>?_
 refine qS ?_;refine qS ?_;refine qS ?_;obtain⟨i,g,hm⟩:=zd hm;refine sX (fun hg=>uZ ((decide (0<f))&&(ls c b||decide (c=b))) 7 _ g) ?_;exact wR
theorem DL(b:List Int)(z:Int)(hm:pW b=some z):Does prog 90 [lm zk b] [] (fun r X=>r=pI z/\X=[]):=by
 unfold pW at hm
 refine dW 0 15 [.tmp 2] func90 fun B=>nA fun hA=>?_
 refine qS ?_
 refine ca fun K2 j n=>?_
 obtain⟨o,c,hm⟩:=zj hm
 have g:∀s,o s=some z->K2 [] []:=by
  intro s hs;have hm:=c _ hs;clear hs
  try dsimp only at hm|-
  exact j _ _ (wQ)
 clear j c;refine qS ?_;refine Wp.block ?_;obtain⟨C,k,hm⟩:=zm hm
 refine fL 5 b.length fun l=>?_
 refine Wp.forL (fun f s=>[(5,lm zk b),(6,pI (b.length:Int)),(7,pI (f:Int))]) (fun f s=>[]) wF hm ?_;clear hm;intro f s t hm
 try dsimp only at hm|-
 refine qS ?_
 refine lB zk hm l (fun h=>n _ _ _ _ wF (g () (k _ h))) fun m D E w u v i hm hA _ p=>?_
 refine q6 ?_;refine q6 ?_
 refine cR hm fun hm=>?_
 refine Wp.skip (p _ _ (r6 ?_));exact wN () m (i _ hm)
theorem Se(b:dy)(c:Int)(z:Int)(hm:Ha b c=some z):Does prog 239 [pS b,.p (.i .u8 c)] [] (fun r X=>r=pI z/\X=[]):=by
 unfold Ha at hm
 refine dW 0 8 [.tmp 4] func239 fun B=>nA fun hA=>?_
 refine qS ?_;have j:=kN b c
 refine cb fun K2 f=>?_
 simp only[go_sem,simprocAttr]
 try refine⟨sd,?_⟩
 refine cP (av:=?av3) (g:=true) (fun hg=>EM b c) si si si sg si ?cont3;intro k;simp only[go_sem,simprocAttr];refine kA f ?_;exact wR
theorem R8(f:dy)(b:dy)(z:Int)(hm:G4 f b=some z):Does prog 226 [pS f,pS b] [] (fun r X=>r=pI z/\X=[]):=by
 unfold G4 at hm
 refine dW 0 143 [.tmp 4] func226 fun B=>nA fun hA=>?_
 refine qS ?_;refine qS ?_
 refine ca fun _ _ _=>Wp.block (qS ?_)
 refine cR hm fun hm=>?_
 refine qS ?_
 refine cN hm (fun hm=>?_) fun hm=>?_
 .obtain⟨g,j,c,hm⟩:=yQ hm
  replace c:((b.getD 0 0).toNat:Int)=g:=c;obtain⟨k,i,hm⟩:=zd hm;have hA:=c;refine sX (fun hg=>Se f g _ i) ?_;exact wR
 .refine qS ?_
  refine cR hm fun hm=>?_
  cases hm
theorem RJ(c:dy)(b:dy)(z:Int)(hm:GD c b=some z):Does prog 197 [pS c,pS b] [] (fun r X=>r=pI z/\X=[]):=by
 unfold GD at hm
 refine dW 0 8 [.tmp 4] func197 fun B=>nA fun hA=>?_
 refine qS ?_;obtain⟨g,f,hm⟩:=zd hm;refine sX (fun hg=>R8 c b _ f) ?_;exact wR
theorem Tm(f:dy)(b:dy)(z:Int)(hm:IA f b=some z):Does prog 196 [pS f,pS b] [] (fun r X=>r=pI z/\X=[]):=by
 unfold IA at hm
 refine dW 0 34 [.tmp 4] func196 fun B=>nA fun hA=>?_
 refine qS ?_
 refine ca fun _ m _=>qS ?_
 refine cN hm (fun hm=>?_) fun hm=>?_
 .cases hm
 .refine Wp.skip (m _ _ (ca fun _ n _=>qS ?_))
  refine cN hm (fun hm=>?_) fun hm=>?_
  .obtain⟨i,u,c,hm⟩:=yQ hm
   replace c:((b.getD 0 0).toNat:Int)=i:=c;have v:=QI f i;have hA:=c
   refine cb fun K8 o=>?_
   simp only[go_sem,simprocAttr,hA]
   try refine⟨sd,?_⟩
   refine cP (av:=?av9) (g:=true) (fun hg=>EN f i) (by simp only[go_sem,simprocAttr,hA];exact Is.mk) (by simp only[go_sem,simprocAttr,hA];exact Is.mk) (by simp only[go_sem,simprocAttr,hA];exact Is.mk) (by simp only[go_sem,simprocAttr,hA]) (by simp only[go_sem,simprocAttr,hA];exact Is.mk) ?cont9;intro E;simp only[go_sem,simprocAttr,hA];refine kA o ?_;exact wR
  .refine Wp.skip (n _ _ (qS ?_))
   refine Wp.block ?_;obtain⟨F,w,hm⟩:=jF hm;refine Wp.loopN (fun s=>[(0,pS s.1),(1,pS b),(4,pI 0),(5,pI s.2)]) (fun s=>[]) ?_ hm ?_
   .exact dR
   clear hm;intro s C hm;obtain⟨j,p⟩:=s
   try dsimp only at hm|-
   refine Wp.block ?_;obtain⟨t,k,hm⟩:=zd hm;refine sX (fun hg=>RJ j b _ k) ?_
   refine ca fun _ l _=>qS ?_
   refine cR hm fun hm=>?_
   refine Wp.skip (l _ _ (qS ?_));obtain⟨D,hm⟩:=zh hm;refine r6 ?_;simp only[zx,zq,↓reduceIte];refine⟨(List.drop ((IntKind.i64.wrap (t+(b.length:Int))).toNat) j,IntKind.i64.wrap (p+1)),hm,?_⟩;exact dR
theorem RU(g:dy)(c:dy)(b:Int)(n:Int)(z:List dy)(hm:CB g c b n=some z):Does prog 155 [pS g,pS c,pI b,pI n] [] (fun r X=>r=lm dB z/\X=[]):=by
 unfold CB at hm
 refine dW 0 66 [.tmp 8] func155 fun B=>nA fun hA=>?_
 refine qS ?_
 refine ca fun _ L _=>qS ?_
 refine cN hm (fun hm=>?_) fun hm=>?_
 .refine qS ?_
  refine Wp.ret ?_;simp only[zx,zq];refine zM ?_;cases hm;exact dR
 .refine Wp.skip (L _ _ (ca fun _ M _=>qS ?_))
  refine cN hm (fun hm=>?_) fun hm=>?_
  .cases hm
  .refine Wp.skip (M _ _ (ca fun K9 w C=>?_))
   obtain⟨N,o,hm⟩:=zj hm
   have k:∀s,N s=some z->K9 [(0,pS g),(1,pS c),(2,pI b),(3,pI s)] []:=by
    intro E hs;have hm:=o _ hs;clear hs
    try dsimp only at hm|-
    refine w _ _ (qS ?_);obtain⟨S,hm⟩:=zh hm;refine q6 ?_;refine qS ?_;refine qS ?_
    refine ca fun O p t=>?_
    obtain⟨P,u,hm⟩:=zj hm
    have i:∀s,P s=some z->O [(0,pS s.1),(9,.buf 0),(10,pI s.2.1)] [.buf 9 1 (List.map dB s.2.2)]:=by
     intro s hs;have hm:=u _ hs;clear hs;obtain⟨T,U,Q⟩:=s
     try dsimp only at hm|-
     refine p _ _ ?_;obtain⟨V,hm⟩:=zh hm;refine q6 ?_;refine Wp.freeze 0 (by simp only[go_sem,simprocAttr];exact Is.mk) (by first|(simp only[go_sem,simprocAttr];done)|(simp only[go_sem,simprocAttr];omega)) ?_;simp only[go_sem,simprocAttr];obtain⟨W,hm⟩:=zh hm;exact wQ
    clear p u;refine Wp.block ?_;obtain⟨Y,l,hm⟩:=jF hm;refine Wp.loopN (fun s=>[(0,pS s.1),(1,pS c),(2,pI b),(3,pI (IntKind.i64.wrap ((min E (IntKind.i64.wrap ((g.length:Int)+1)))-1))),(9,.buf 0),(10,pI s.2.1)]) (fun s=>[.buf 9 1 (List.map dB s.2.2)]) ?_ hm ?_
    .exact dR
    clear hm;intro s R hm;obtain⟨j,m,f⟩:=s
    try dsimp only at hm|-
    refine ca fun _ F _=>qS ?_
    refine cN hm (fun hm=>?_) fun hm=>?_
    .refine Wp.skip (F _ _ (Wp.block ?_))
     obtain⟨D,G,hm⟩:=zd hm;refine sX (fun hg=>RJ j c _ G) ?_
     refine ca fun _ I _=>qS ?_
     refine cN hm (fun hm=>?_) fun hm=>?_
     .refine Wp.exit ?_
      simp only[zx,zq,↓reduceIte];have hm:=l _ hm
      try dsimp only at hm
      refine t _ _ _ _ ?_ (i (j,m,f) hm);exact dR
     .refine Wp.skip (I _ _ ?_)
      obtain⟨Z,hm⟩:=zh hm;obtain⟨a0,hm⟩:=zh hm;refine q6 ?_;obtain⟨a1,hm⟩:=zh hm;refine q6 ?_;refine qR ?_;simp only[zx,zq,↓reduceIte];refine⟨(List.drop ((IntKind.i64.wrap (D+(c.length:Int))).toNat) j,IntKind.i64.wrap (m+1),List.set f m.toNat (List.take ((IntKind.i64.wrap (D+b)).toNat) j)),hm,?_⟩;exact dR
    .refine Wp.exit ?_
     simp only[zx,zq,↓reduceIte];have hm:=l _ hm
     try dsimp only at hm
     refine t _ _ _ _ ?_ (i (j,m,f) hm);exact dR
   clear w o;refine qS ?_
   refine cN hm (fun hm=>?_) fun hm=>?_
   .obtain⟨J,v,hm⟩:=zd hm
    refine eX (fun hg=>Tm g c _ v) ?_;refine C _ _ _ _ ?_ (k (IntKind.i64.wrap (J+1)) hm);exact dR
   .refine Wp.skip (C _ _ _ _ ?_ (k n hm))
    exact dR
theorem O4(c:dy)(b:dy)(z:List dy)(hm:DY c b=some z):Does prog 117 [pS c,pS b] [] (fun r X=>r=lm dB z/\X=[]):=by
 unfold DY at hm
 refine dW 0 8 [.tmp 4] func117 fun B=>nA fun hA=>?_
 refine qS ?_;obtain⟨g,f,hm⟩:=zd hm;refine sF (RU c b 0 (-1) _ f) ?_;exact wR
theorem nQ(b:dy)(z:Bool)(hm:HA b=some z):Does prog 173 [pS b] [] (fun r X=>r=pB z/\X=[]):=by
 unfold HA at hm
 refine dW 0 63 [.tmp 2] func173 fun B=>nA fun hA=>?_
 refine qS ?_
 refine ca fun K2 j n=>?_
 obtain⟨o,c,hm⟩:=zj hm
 have g:∀s,o s=some z->K2 [(0,pS b)] []:=by
  intro s hs;have hm:=c _ hs;clear hs
  try dsimp only at hm|-
  exact j _ _ (wQ)
 clear j c;refine qS ?_;refine Wp.block ?_;obtain⟨w,k,hm⟩:=zm hm
 refine fL 0 b.length fun l=>?_
 refine Wp.forL (fun f s=>[(0,pS b),(6,pI (b.length:Int)),(7,pI (f:Int))]) (fun f s=>[]) wF hm ?_;clear hm;intro f s t hm
 try dsimp only at hm|-
 refine qS ?_
 refine lS hm l (fun h=>n _ _ _ _ wF (g () (k _ h))) fun m C D v u i hm hA _ p=>?_
 refine q6 ?_;refine q6 ?_;refine q6 ?_
 refine cR hm fun hm=>?_
 refine Wp.skip (p _ _ (r6 ?_));exact wN () m (i _ hm)
theorem Ij(b:dy)(z:Bool)(hm:Ar b=some z):Does prog 126 [pS b] [] (fun r X=>r=pB z/\X=[]):=by
 unfold Ar at hm
 refine dW 0 19 [.tmp 2] func126 fun B=>nA fun hA=>?_
 refine qS ?_
 refine ca fun K2 k t=>?_
 obtain⟨u,c,hm⟩:=zj hm
 have i:∀s,u s=some z->K2 [(0,pS b)] []:=by
  intro s hs;have hm:=c _ hs;clear hs
  try dsimp only at hm|-
  exact k _ _ (wQ)
 clear k c;obtain⟨f,l,hm⟩:=zd hm;refine sF (O4 b ([47]:dy) _ l) ?_;refine Wp.block ?_;obtain⟨G,m,hm⟩:=zm hm
 refine fL 6 f.length fun n=>?_
 refine Wp.forL (fun g s=>[(0,pS b),(6,lm dB f),(7,pI (f.length:Int)),(8,pI (g:Int))]) (fun g s=>[]) wF hm ?_;clear hm;intro g s C hm
 try dsimp only at hm|-
 refine qS ?_
 refine lB dB hm n (fun h=>t _ _ _ _ wF (i () (m _ h))) fun o I v F D E j hm hA _ w=>?_
 refine q6 ?_;obtain⟨J,p,hm⟩:=zd hm;refine sX (fun hg=>nQ v _ p) ?_
 refine cR hm fun hm=>?_
 refine Wp.skip (w _ _ (r6 ?_));exact wN () o (j _ hm)
theorem Rx(b:ab)(z:Int)(hm:Gk b=some z):Does prog 91 [.agg [pS b.a,pS b.B,pB b.C]] [] (fun r X=>r=pI z/\X=[]):=by
 unfold Gk at hm
 refine dW 0 15 [.tmp 2] func91 fun B=>nA fun hA=>?_
 refine qS ?_;obtain⟨j,c,hm⟩:=zd hm;obtain⟨k,f,hm⟩:=zd hm;obtain⟨l,g,hm⟩:=zd hm;obtain⟨n,i,hm⟩:=zd hm
 refine dS (pl [(0,none),(1,none),(2,none),(3,none),(4,none),(5,none),(6,none),(7,none),(8,none),(9,none),(10,some []),(11,none),(12,none)]) fun _ m=>?_
 refine cD (fun hg=>Ij b.a _ c) ?_;refine cD (fun hg=>uZ (!j) 5 _ f) ?_;refine cD (fun hg=>uZ (decide (65536<(b.B.length:Int))) 4 _ g) ?_;refine cD (fun hg=>DL [k,l] _ i) (m _ _ ?_);exact wR
theorem RO(b:aa)(z:Int)(hm:GM b=some z):Does prog 92 [.agg [pS b.k,pS b.Value]] [] (fun r X=>r=pI z/\X=[]):=by
 unfold GM at hm
 refine dW 0 15 [.tmp 2] func92 fun B=>nA fun hA=>?_
 refine qS ?_;obtain⟨l,c,hm⟩:=zd hm;obtain⟨m,f,hm⟩:=zd hm;obtain⟨n,g,hm⟩:=zd hm;obtain⟨o,i,hm⟩:=zd hm;obtain⟨t,j,hm⟩:=zd hm
 refine dS (pl [(0,none),(1,none),(2,none),(3,none),(4,none),(5,none),(6,none),(7,none),(8,none),(9,none),(10,some []),(11,none),(12,none)]) fun _ p=>?_
 refine cD (fun hg=>Ij b.k _ c) ?_;refine cD (fun hg=>uZ (!l) 5 _ f) ?_;refine cD (fun hg=>OM b.Value _ g) ?_;refine cD (fun hg=>uZ (!n) 2 _ i) ?_;refine cD (fun hg=>DL [m,o] _ j) (p _ _ ?_);exact wR
theorem RN(b:ai)(z:Int)(hm:GL b=some z):Does prog 93 [.agg [pS b.w,pS b.a,pB b.D,pB b.E]] [] (fun r X=>r=pI z/\X=[]):=by
 unfold GL at hm
 refine dW 0 14 [.tmp 2] func93 fun B=>nA fun hA=>?_
 refine qS ?_;obtain⟨c,f,hm⟩:=zd hm;obtain⟨k,i,hm⟩:=zX hm;obtain⟨m,j,hm⟩:=zd hm
 refine rS fun _ l=>?_
 refine cX (fun hg=>Ii b.w _ f) ?_;refine cX (g:=!(!c)) (fun hg=>Ij b.a _ (i hg)) ?_;refine cX (fun hg=>uZ ((!c)||(!k)) 5 _ j) (l _ _ ?_);exact wR
theorem Qu(b:ah)(z:Int)(hm:FX b=some z):Does prog 52 [.agg [lm za b.y,lm zc b.h,lm za b.r,lm zb b.o]] [] (fun r X=>r=pI z/\X=[]):=by
 unfold FX at hm
 refine dW 0 160 [.tmp 2] func52 fun B=>nA fun hA=>?_
 refine qS ?_
 refine ca fun _ bt _=>qS ?_
 refine cR hm fun hm=>?_
 refine Wp.skip (bt _ _ (qS ?_));refine qS ?_
 refine ca fun K8 aV bu=>?_
 obtain⟨aW,G,hm⟩:=zj hm
 have au:∀s,aW s=some z->K8 [(1,.ptr 0 0),(4,.fn 88 [.ptr 1 0])] [.cells 26 [lm za b.y,lm zc b.h,lm za b.r,lm zb b.o],.cells 9 [pS s]]:=by
  intro bq hs;have hm:=G _ hs;clear hs
  try dsimp only at hm|-
  refine aV _ _ (qS ?_)
  refine ca fun bv W aX=>?_
  obtain⟨aY,I,hm⟩:=zj hm
  have Y:∀s,aY s=some z->bv [(1,.ptr 0 0),(4,.fn 88 [.ptr 1 0])] [.cells 26 [lm za b.y,lm zc b.h,lm za b.r,lm zb b.o],.cells 9 [pS s]]:=by
   intro br hs;have hm:=I _ hs;clear hs
   try dsimp only at hm|-
   refine W _ _ (ca fun bw Z aZ=>?_);obtain⟨b0,J,hm⟩:=zj hm
   have a0:∀s,b0 s=some z->bw [(1,.ptr 0 0),(4,.fn 88 [.ptr 1 0])] [.cells 26 [lm za b.y,lm zc b.h,lm za b.r,lm zb b.o],.cells 9 [pS s]]:=by
    intro bs hs;have hm:=J _ hs;clear hs
    try dsimp only at hm|-
    refine Z _ _ (ca fun bx a1 b1=>?_);obtain⟨b2,L,hm⟩:=zj hm
    have a2:∀s,b2 s=some z->bx [] []:=by
     intro s hs;have hm:=L _ hs;clear hs
     try dsimp only at hm|-
     exact a1 _ _ (wQ)
    clear a1 L;refine qS ?_;refine Wp.block ?_;obtain⟨bU,av,hm⟩:=zm hm
    refine fL 140 b.o.length fun aw=>?_
    refine Wp.forL (fun M s=>[(4,.fn 88 [.ptr 1 0]),(140,lm zb b.o),(141,pI (b.o.length:Int)),(142,pI (M:Int))]) (fun M s=>[.cells 26 [lm za b.y,lm zc b.h,lm za b.r,lm zb b.o],.cells 9 [pS s]]) wF hm ?_;clear hm;intro M U bJ hm
    try dsimp only at hm|-
    refine qS ?_
    refine lB zb hm aw (fun h=>b1 _ _ _ _ wF (a2 () (av _ h))) fun ax bV a3 bK bz bA a4 hm hA _ b3=>?_
    refine q6 ?_;obtain⟨b4,ay,hm⟩:=zd hm;obtain⟨a5,az,hm⟩:=zd hm;obtain⟨bW,aA,hm⟩:=zd hm
    refine dS (pl [(0,none),(1,none),(2,none),(3,none),(4,none),(5,none),(6,some []),(7,some []),(8,none),(9,none)]) fun _ b5=>?_
    refine cD (fun hg=>RN a3 _ ay) ?_;refine cE [1] (Mc (M:Int) a3.w U _ az) ?_;refine cD (fun hg=>DL [b4,a5.1] _ aA) (b5 _ _ ?_);refine q6 ?_
    refine cR hm fun hm=>?_
    refine Wp.skip (b3 _ _ (r6 ?_));exact wN a5.2 ax (a4 _ hm)
   clear Z J;refine qS ?_;refine Wp.block ?_;obtain⟨bX,aB,hm⟩:=zm hm
   refine fL 119 b.r.length fun aC=>?_
   refine Wp.forL (fun N s=>[(1,.ptr 0 0),(4,.fn 88 [.ptr 1 0]),(119,lm za b.r),(120,pI (b.r.length:Int)),(121,pI (N:Int))]) (fun N s=>[.cells 26 [lm za b.y,lm zc b.h,lm za b.r,lm zb b.o],.cells 9 [pS s]]) wF hm ?_;clear hm;intro N l bL hm
   try dsimp only at hm|-
   refine qS ?_
   refine lB za hm aC (fun h=>aZ _ _ _ _ wF (a0 l (aB _ h))) fun aD bY a6 bM bB bC a7 hm hA _ b6=>?_
   refine q6 ?_;obtain⟨b7,aE,hm⟩:=zd hm;obtain⟨a8,aF,hm⟩:=zd hm;obtain⟨bZ,aG,hm⟩:=zd hm
   refine dS (pl [(0,none),(1,none),(2,none),(3,none),(4,none),(5,none),(6,some []),(7,some []),(8,none),(9,none)]) fun _ b8=>?_
   refine cD (fun hg=>RO a6 _ aE) ?_;refine cE [1] (Mc (N:Int) a6.k l _ aF) ?_;refine cD (fun hg=>DL [b7,a8.1] _ aG) (b8 _ _ ?_);refine q6 ?_
   refine cR hm fun hm=>?_
   refine Wp.skip (b6 _ _ (r6 ?_));exact wN a8.2 aD (a7 _ hm)
  clear W I;refine qS ?_;refine Wp.block ?_;obtain⟨c0,aH,hm⟩:=zm hm
  refine fL 73 b.h.length fun aI=>?_
  refine Wp.forL (fun j s=>[(1,.ptr 0 0),(4,.fn 88 [.ptr 1 0]),(8,.mp 2),(73,lm zc b.h),(74,pI (b.h.length:Int)),(75,pI (j:Int))]) (fun j s=>[.cells 26 [lm za b.y,lm zc b.h,lm za b.r,lm zb b.o],.cells 9 [pS s.1],.mp false (zl Dt.s eL s.2)]) wF hm ?_;clear hm;intro j s bN hm;obtain⟨m,i⟩:=s
  try dsimp only at hm|-
  refine qS ?_
  refine ca fun _ b9 _=>Wp.cond rfl ⟨⟩ (fun E=>?_) fun E=>Wp.exit (aX _ _ _ _ wF (Y m (aH _ (p8 hm (u2 E)))))
  have p:=tO E;have t:=qc p aI;obtain⟨c,bO,g,bP,a9,hm⟩:=p9 hm p;replace g:=g zc;refine Wp.skip ?_;simp only[zx];refine b9 _ _ (ca fun bD ac ba=>?_);obtain⟨bb,O,hm⟩:=zj hm
  have ad:∀s,bb s=some z->bD [(1,.ptr 0 0),(4,.fn 88 [.ptr 1 0]),(8,.mp 2),(73,lm zc b.h),(74,pI (b.h.length:Int)),(75,pI (j:Int))] [.cells 26 [lm za b.y,lm zc b.h,lm za b.r,lm zb b.o],.cells 9 [pS s],.mp false (zl Dt.s eL (dF i c.a true))]:=by
   intro V hs;have hm:=O _ hs;clear hs
   try dsimp only at hm|-
   refine ac _ _ ?_;have hA:=And.intro t g;refine r6 ?_;exact wN (V,dF i c.a true) p (a9 _ hm)
  clear ac O;refine Wp.block ?_;have hA:=And.intro t g;refine q6 ?_;obtain⟨bc,aJ,hm⟩:=zd hm;obtain⟨P,bd,hm⟩:=zd hm;obtain⟨be,aK,hm⟩:=zd hm
  refine dS (pl [(0,none),(1,none),(2,none),(3,none),(4,none),(5,none),(6,some []),(7,some []),(8,none),(9,none)]) fun _ bf=>?_
  refine cD (fun hg=>Rx c _ aJ) ?_;refine cE [1] (Mc (j:Int) c.a m _ bd) ?_;refine cD (fun hg=>DL [bc,P.1] _ aK) (bf _ _ ?_)
  refine ca fun bE af ag=>?_
  obtain⟨bg,Q,hm⟩:=zj hm
  have D:∀s,bg s=some z->bE [(1,.ptr 0 0),(4,.fn 88 [.ptr 1 0]),(8,.mp 2),(10,.ptr 3 0),(11,pI s),(73,lm zc b.h),(74,pI (b.h.length:Int)),(75,pI (j:Int))] [.cells 26 [lm za b.y,lm zc b.h,lm za b.r,lm zb b.o],.cells 9 [pS P.2],.mp false (zl Dt.s eL i),.cells 57 [pS c.a,pS c.B,pB c.C]]:=by
   intro c1 hs;have hm:=Q _ hs;clear hs
   try dsimp only at hm|-
   refine af _ _ (ca fun _ bh _=>q6 ?_)
   refine cR hm fun hm=>?_
   refine Wp.skip (bh _ _ ?_);obtain⟨c2,hm⟩:=zh hm;have R:=mR (e:=eL) dQ i c.a true;simp only[eL,map_nil]at R;have hA:=And.intro t (And.intro g R);refine r6 ?_;refine ba _ _ _ _ ?_ (ad P.2 hm);simp only[go_sem,simprocAttr,hA]
   try exact qz
  clear af Q;refine q6 ?_
  refine cN hm (fun hm=>?_) fun hm=>?_
  .refine q6 ?_
   refine Wp.block ?_;obtain⟨c3,aL,hm⟩:=jF hm;refine Wp.loopN (fun s=>[(1,.ptr 0 0),(4,.fn 88 [.ptr 1 0]),(8,.mp 2),(10,.ptr 3 0),(11,pI s.1),(73,lm zc b.h),(74,pI (b.h.length:Int)),(75,pI (j:Int)),(93,pI (c.a.length:Int)),(94,pI s.2)]) (fun s=>[.cells 26 [lm za b.y,lm zc b.h,lm za b.r,lm zb b.o],.cells 9 [pS P.2],.mp false (zl Dt.s eL i),.cells 57 [pS c.a,pS c.B,pB c.C]]) ?_ hm ?_
   .simp only[go_sem,simprocAttr,hA]
    try exact qz
   clear hm;intro s bQ hm;obtain⟨an,f⟩:=s
   try dsimp only at hm|-
   refine q6 ?_
   refine ca fun _ bi _=>cN hm (fun hm=>?_) fun hm=>?_
   .refine Wp.skip (bi _ _ (ca fun _ ap _=>Wp.block (q6 ?_)))
    obtain⟨bF,bS,u,hm⟩:=yQ hm;replace u:((c.a.getD f.toNat 0).toNat:Int)=bF:=u;obtain⟨c4,hm⟩:=zh hm;obtain⟨c5,bj,hm⟩:=il hm;have S:=iC (e:=eL) dQ i (List.take f.toNat c.a) false;have T:=iD (e:=eL) dQ i (List.take f.toNat c.a);simp only[bj,eL,map_nil]at S T;have hA:=And.intro t (And.intro g (And.intro u (And.intro S T)));refine q6 ?_
    refine cN hm (fun hm=>?_) fun hm=>?_
    .refine r6 ?_
     refine ap _ _ (r6 ?_);simp only[zx,zq,↓reduceIte];refine⟨(11,IntKind.i64.wrap (f+1)),hm,?_⟩;simp only[go_sem,simprocAttr,hA]
     try exact qz
    .refine Wp.skip (ap _ _ (r6 ?_))
     simp only[zx,zq,↓reduceIte];refine⟨(an,IntKind.i64.wrap (f+1)),hm,?_⟩;simp only[go_sem,simprocAttr,hA]
     try exact qz
   .refine Wp.exit ?_
    simp only[zx,zq,↓reduceIte];have hm:=aL _ hm
    try dsimp only at hm
    refine ag _ _ _ _ ?_ (D an hm);simp only[go_sem,simprocAttr,hA]
    try exact qz
  .refine Wp.skip (ag _ _ _ _ ?_ (D be hm))
   simp only[go_sem,simprocAttr,hA]
   try exact qz
 clear aV G;refine qS ?_;refine Wp.block ?_;obtain⟨c6,aM,hm⟩:=zm hm
 refine fL 43 b.y.length fun aN=>?_
 refine Wp.forL (fun v s=>[(1,.ptr 0 0),(4,.fn 88 [.ptr 1 0]),(43,lm za b.y),(44,pI (b.y.length:Int)),(45,pI (v:Int))]) (fun v s=>[.cells 26 [lm za b.y,lm zc b.h,lm za b.r,lm zb b.o],.cells 9 [pS s]]) wF hm ?_;clear hm;intro v n bG hm
 try dsimp only at hm|-
 refine qS ?_
 refine lB za hm aN (fun h=>bu _ _ _ _ wF (au n (aM _ h))) fun aO c7 F bT bH bI aq hm hA _ bk=>?_
 refine q6 ?_;obtain⟨bl,aP,hm⟩:=zd hm;obtain⟨bm,aQ,hm⟩:=zd hm;obtain⟨bn,aR,hm⟩:=zd hm;obtain⟨bo,aS,hm⟩:=zd hm;obtain⟨ar,aT,hm⟩:=zd hm;obtain⟨c9,aU,hm⟩:=zd hm
 refine dS (pl [(0,none),(1,none),(2,none),(3,none),(4,none),(5,none),(6,none),(7,none),(8,none),(9,none),(10,none),(11,none),(12,none),(13,none),(14,some []),(15,some []),(16,none),(17,none)]) fun _ bp=>?_
 refine cD (fun hg=>Ii F.k _ aP) ?_;refine cD (fun hg=>uZ (!bl) 5 _ aQ) ?_;refine cD (fun hg=>OM F.Value _ aR) ?_;refine cD (fun hg=>uZ (!bn) 2 _ aS) ?_;refine cE [1] (Mc (v:Int) F.k n _ aT) ?_;refine cD (fun hg=>DL [bm,bo,ar.1] _ aU) (bp _ _ ?_);refine q6 ?_
 refine cR hm fun hm=>?_
 refine Wp.skip (bk _ _ (r6 ?_));exact wN ar.2 aO (aq _ hm)
theorem ON(b:ah)(z:(List (dy×ab))×(List (dy×dy))×(List (dy×ai))×List aa)(hm:DF b=some z):Does prog 14 [.agg [lm za b.y,lm zc b.h,lm za b.r,lm zb b.o]] [] (fun r X=>r=.ptr 4 0/\X=[.cells 26 [.top,.top,.top,.top],.mp true (zl Dt.s zc z.1),.mp false (zl Dt.s dB z.2.1),.mp true (zl Dt.s zb z.2.2.1),.cells 47 [lm za z.2.2.2,.mp 1,.mp 2,.mp 3]]):=by
 unfold DF at hm
 refine dW 5 64 [.tmp 2] func14 fun B=>nA fun hA=>?_
 refine qS ?_;refine qS ?_
 refine ca fun K3 a1 ag=>?_
 obtain⟨an,D,hm⟩:=zj hm
 have M:∀s,an s=some z->K3 [(1,.ptr 0 0),(3,.ptr 4 0)] [.cells 26 [lm za b.y,lm zc b.h,lm za b.r,lm zb b.o],.mp true (zl Dt.s zc s),.mp false (zl Dt.s dB []),.mp true (zl Dt.s zb []),.cells 47 [lm za b.y,.mp 1,.mp 2,.mp 3]]:=by
  intro c hs;have hm:=D _ hs;clear hs
  try dsimp only at hm|-
  refine a1 _ _ (ca fun K4 a2 ap=>?_);obtain⟨aq,E,hm⟩:=zj hm
  have N:∀s,aq s=some z->K4 [(1,.ptr 0 0),(3,.ptr 4 0)] [.cells 26 [lm za b.y,lm zc b.h,lm za b.r,lm zb b.o],.mp true (zl Dt.s zc c),.mp false (zl Dt.s dB s),.mp true (zl Dt.s zb []),.cells 47 [lm za b.y,.mp 1,.mp 2,.mp 3]]:=by
   intro m hs;have hm:=E _ hs;clear hs
   try dsimp only at hm|-
   refine a2 _ _ (ca fun K5 a3 ar=>?_);obtain⟨au,F,hm⟩:=zj hm
   have O:∀s,au s=some z->K5 [(3,.ptr 4 0)] [.cells 26 [.top,.top,.top,.top],.mp true (zl Dt.s zc c),.mp false (zl Dt.s dB m),.mp true (zl Dt.s zb s),.cells 47 [lm za b.y,.mp 1,.mp 2,.mp 3]]:=by
    intro ay hs;have hm:=F _ hs;clear hs
    try dsimp only at hm|-
    exact a3 _ _ (wQ)
   clear a3 F;refine qS ?_;refine Wp.block ?_;obtain⟨aG,P,hm⟩:=zm hm
   refine fL 49 b.o.length fun Q=>?_
   refine Wp.forL (fun G s=>[(3,.ptr 4 0),(49,lm zb b.o),(50,pI (b.o.length:Int)),(51,pI (G:Int))]) (fun G s=>[.cells 26 [lm za b.y,lm zc b.h,lm za b.r,lm zb b.o],.mp true (zl Dt.s zc c),.mp false (zl Dt.s dB m),.mp true (zl Dt.s zb s),.cells 47 [lm za b.y,.mp 1,.mp 2,.mp 3]]) wF hm ?_;clear hm;intro G f az hm
   try dsimp only at hm|-
   refine qS ?_
   refine lB zb hm Q (fun h=>ar _ _ _ _ wF (O f (P _ h))) fun a4 av n aA R aB I hm hA _ a5=>?_
   refine q6 ?_;obtain⟨aH,hm⟩:=zh hm;have p:=mR (e:=zb) dQ f n.w n;simp only[zb,map_nil]at p;have hA:=And.intro av (And.intro R p)
   refine dE (pl [(0,none),(1,none),(2,none),(3,none),(4,none),(5,none),(6,none),(7,some [])]) fun _ a6=>a6 _ _ ?_
   refine a5 _ _ (r6 ?_);exact wN (dF f n.w n) a4 (I _ hm)
  clear a2 E;refine qS ?_;refine Wp.block ?_;obtain⟨aI,S,hm⟩:=zm hm
  refine fL 33 b.r.length fun T=>?_
  refine Wp.forL (fun j s=>[(1,.ptr 0 0),(3,.ptr 4 0),(33,lm za b.r),(34,pI (b.r.length:Int)),(35,pI (j:Int))]) (fun j s=>[.cells 26 [lm za b.y,lm zc b.h,lm za b.r,lm zb b.o],.mp true (zl Dt.s zc c),.mp false (zl Dt.s dB s),.mp true (zl Dt.s zb []),.cells 47 [lm za b.y,.mp 1,.mp 2,.mp 3]]) wF hm ?_;clear hm;intro j g aw hm
  try dsimp only at hm|-
  refine qS ?_
  refine lB za hm T (fun h=>ap _ _ _ _ wF (N g (S _ h))) fun U a7 t aC V aD J hm hA _ a8=>?_
  refine q6 ?_;obtain⟨aJ,hm⟩:=zh hm;have u:=mR (e:=dB) dQ g t.k t.Value;simp only[dB,map_nil]at u;have hA:=And.intro a7 (And.intro V u)
  refine dE (pl [(0,none),(1,none),(2,none),(3,none),(4,none),(5,none),(6,none),(7,none),(8,some [])]) fun _ a9=>a9 _ _ ?_
  refine a8 _ _ (r6 ?_);exact wN (dF g t.k t.Value) U (J _ hm)
 clear a1 D;refine qS ?_;refine Wp.block ?_;obtain⟨aK,W,hm⟩:=zm hm
 refine fL 18 b.h.length fun Y=>?_
 refine Wp.forL (fun l s=>[(1,.ptr 0 0),(3,.ptr 4 0),(18,lm zc b.h),(19,pI (b.h.length:Int)),(20,pI (l:Int))]) (fun l s=>[.cells 26 [lm za b.y,lm zc b.h,lm za b.r,lm zb b.o],.mp true (zl Dt.s zc s),.mp false (zl Dt.s dB []),.mp true (zl Dt.s zb []),.cells 47 [lm za b.y,.mp 1,.mp 2,.mp 3]]) wF hm ?_;clear hm;intro l i ax hm
 try dsimp only at hm|-
 refine qS ?_
 refine lB zc hm Y (fun h=>ag _ _ _ _ wF (M i (W _ h))) fun Z ac v aE a0 aF L hm hA _ ad=>?_
 refine q6 ?_;obtain⟨aL,hm⟩:=zh hm;have C:=mR (e:=zc) dQ i v.a v;simp only[zc,map_nil]at C;have hA:=And.intro ac (And.intro a0 C)
 refine dE (pl [(0,none),(1,none),(2,none),(3,none),(4,none),(5,none),(6,none),(7,some [])]) fun _ af=>af _ _ ?_
 refine ad _ _ (r6 ?_);exact wN (dF i v.a v) Z (L _ hm)
end Go.Proofs.YtbcjkdopkcbblaaGreatDoor
