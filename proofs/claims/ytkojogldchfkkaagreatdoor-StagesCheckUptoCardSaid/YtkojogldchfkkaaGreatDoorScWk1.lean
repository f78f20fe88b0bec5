/- That the code does what the models say (part 1). -/
import Derived.Test.YtkojogldchfkkaaGreatDoorScWk0
set_option linter.unusedSimpArgs false
set_option linter.unusedVariables false
open Go.Proofs Go.Shelf
open List
namespace Go.Proofs.YtkojogldchfkkaaGreatDoor
open Tryz
open Go.Vc Go.Md
set_option maxRecDepth 100000
set_option maxHeartbeats 4000000
theorem Nj(b:Int)(z:Bool)(hm:Bx b=some z):Does prog 59 [.p (.i .u8 b)] [] (fun r X=>r=pB z/\X=[]):=by
 unfold Bx at hm
 refine dW 0 9 [.tmp 2] func59 fun B=>nA fun hA=>?_
 refine qS ?_;exact wQ
theorem PO(b:Int)(z:Bool)(hm:Fp b=some z):Does prog 60 [.p (.i .u8 b)] [] (fun r X=>r=pB z/\X=[]):=by
 unfold Fp at hm
 refine dW 0 9 [.tmp 2] func60 fun B=>nA fun hA=>?_
 refine qS ?_;exact wQ
theorem Rj(b:Int)(z:Bool)(hm:HH b=some z):Does prog 58 [.p (.i .u8 b)] [] (fun r X=>r=pB z/\X=[]):=by
 unfold HH at hm
 refine dW 0 17 [.tmp 2] func58 fun B=>nA fun hA=>?_
 refine qS ?_;obtain⟨j,c,hm⟩:=zd hm;obtain⟨l,f,hm⟩:=zx hm
 refine rS fun _ k=>?_
 refine cX (fun hg=>Nj b _ c) ?_;refine cX (g:=!j) (fun hg=>PO b _ (f hg)) (k _ _ ?_);exact wR
theorem Q3(c:eA)(b:Int)(z:Bool)(hm:Kq c b=some z):Does prog 57 [pS c,pI b,.fn 58 []] [] (fun r X=>r=pB z/\X=[]):=by
 unfold Kq at hm
 refine dW 0 28 [.tmp 6] func57 fun B=>nA fun hA=>?_
 refine qS ?_
 refine df fun K2 o v=>?_
 obtain⟨C,g,hm⟩:=zj hm
 have k:∀s,C s=some z->K2 [(0,pS c),(1,pI b)] []:=by
  intro s hs;have hm:=g _ hs;clear hs
  try dsimp only at hm|-
  exact o _ _ (wQ)
 clear o g;refine qS ?_;refine Wp.block ?_;obtain⟨L,p,hm⟩:=zl hm
 refine fL 0 c.length fun t=>?_
 refine Wp.forL (fun i s=>[(0,pS c),(1,pI b),(2,.fn 58 []),(7,pI (i:Int))]) (fun i s=>[]) wF hm ?_;clear hm;intro i s I hm
 try dsimp only at hm|-
 refine df fun _ D _=>qS ?_
 refine Wp.cond rfl ⟨⟩ (fun j=>?_) fun j=>Wp.exit (v _ _ _ _ wF (k () (p _ (pw hm (uA j)))))
 have f:=rm j;have E:=pz f t;obtain⟨F,J,l,m,n,hm⟩:=py hm f;clear l;refine Wp.skip ?_;simp only[zy];refine D _ _ (df fun _ G _=>Wp.block ?_);obtain⟨M,u,hm⟩:=zd hm;have hA:=And.intro E m;refine sX (fun hg=>Rj (F.toNat:Int) _ u) ?_
 refine cR hm fun hm=>?_
 refine Wp.skip (G _ _ (r6 ?_));exact wN () f (n _ hm)
theorem CU(b:eA)(z:Bool)(hm:sw b=some z):Does prog 17 [pS b] [] (fun r X=>r=pB z/\X=[]):=by
 unfold sw at hm
 refine dW 0 10 [.tmp 2] func17 fun B=>nA fun hA=>?_
 refine qS ?_;obtain⟨i,c,hm⟩:=zd hm;obtain⟨k,hm⟩:=zh hm;obtain⟨l,f,hm⟩:=zx hm
 refine rS fun _ j=>?_
 refine cX (fun hg=>Q3 b 40 _ c) ?_;refine cX (g:=i) (fun hg=>Nj ((b.getD 0 0).toNat:Int) _ (f hg)) (j _ _ ?_);exact wR
theorem QM(z:Bool)(hm:G4=some z):Does prog 4 [] [] (fun r X=>r=pB z/\X=[]):=by
 unfold G4 at hm
 refine dW 0 2 [.tmp 0] func4 fun B=>nA fun hA=>?_
 refine qS ?_;obtain⟨c,b,hm⟩:=zd hm;refine sX (fun hg=>CU ([97]:eA) _ b) ?_;exact wR
theorem Fu(b:eA)(z:Bool)(hm:xW b=some z):Does prog 18 [pS b] [] (fun r X=>r=pB z/\X=[]):=by
 unfold xW at hm
 refine dW 0 54 [.tmp 2] func18 fun B=>nA fun hA=>?_
 refine qS ?_
 refine df fun K2 j n=>?_
 obtain⟨o,c,hm⟩:=zj hm
 have g:∀s,o s=some z->K2 [(0,pS b)] []:=by
  intro s hs;have hm:=c _ hs;clear hs
  try dsimp only at hm|-
  exact j _ _ (wQ)
 clear j c;refine qS ?_;refine Wp.block ?_;obtain⟨C,k,hm⟩:=zl hm
 refine fL 0 b.length fun l=>?_
 refine Wp.forL (fun f s=>[(0,pS b),(7,pI (b.length:Int)),(8,pI (f:Int))]) (fun f s=>[]) wF hm ?_;clear hm;intro f s t hm
 try dsimp only at hm|-
 refine qS ?_
 refine lS hm l (fun h=>n _ _ _ _ wF (g () (k _ h))) fun m D E v u i hm hA _ p=>?_
 refine q6 ?_;refine q6 ?_;refine q6 ?_;refine q6 ?_
 refine cR hm fun hm=>?_
 refine Wp.skip (p _ _ (r6 ?_));exact wN () m (i _ hm)
theorem M3(b:eA)(z:Bool)(hm:CG b=some z):Does prog 19 [pS b] [] (fun r X=>r=pB z/\X=[]):=by
 unfold CG at hm
 refine dW 0 23 [.tmp 2] func19 fun B=>nA fun hA=>?_
 refine qS ?_
 refine df fun K2 j n=>?_
 obtain⟨o,c,hm⟩:=zj hm
 have g:∀s,o s=some z->K2 [(0,pS b)] []:=by
  intro s hs;have hm:=c _ hs;clear hs
  try dsimp only at hm|-
  exact j _ _ (wQ)
 clear j c;refine qS ?_;refine Wp.block ?_;obtain⟨C,k,hm⟩:=zl hm
 refine fL 0 b.length fun l=>?_
 refine Wp.forL (fun f s=>[(0,pS b),(5,pI (b.length:Int)),(6,pI (f:Int))]) (fun f s=>[]) wF hm ?_;clear hm;intro f s t hm
 try dsimp only at hm|-
 refine qS ?_
 refine lS hm l (fun h=>n _ _ _ _ wF (g () (k _ h))) fun m D E v u i hm hA _ p=>?_
 refine q6 ?_;refine q6 ?_
 refine cR hm fun hm=>?_
 refine Wp.skip (p _ _ (r6 ?_));exact wN () m (i _ hm)
theorem SK(b:eA)(c:eA)(z:Int)(hm:ND b c=some z):Does prog 62 [pS b,pS c] [] (fun r X=>r=pI z/\X=[]):=by
 unfold ND at hm
 refine dW 0 8 [.tmp 4] func62 fun B=>nA fun hA=>?_
 refine qS ?_;have i:=rI b c
 refine dh fun K2 f=>?_
 simp only[go_sem,simprocAttr]
 try refine⟨sd,?_⟩
 refine dJ (av:=?av3) (g:=true) (fun hg=>DP b c) si si si sg si ?cont3;intro j;simp only[go_sem,simprocAttr];refine kA f ?_;exact wR
theorem KU(b:eA)(c:eA)(z:Int)(hm:C1 b c=some z):Does prog 22 [pS b,pS c] [] (fun r X=>r=pI z/\X=[]):=by
 unfold C1 at hm
 refine dW 0 8 [.tmp 4] func22 fun B=>nA fun hA=>?_
 refine qS ?_;obtain⟨g,f,hm⟩:=zd hm;refine sX (fun hg=>SK b c _ f) ?_;exact wR
theorem lT(b:aa)(c:aa)(z:Int)(hm:J8 b c=some z):Does prog 21 [.agg [pS b.e,pS b.Value],.agg [pS c.e,pS c.Value]] [] (fun r X=>r=pI z/\X=[]):=by
 unfold J8 at hm
 refine dW 0 10 [.tmp 4] func21 fun B=>nA fun hA=>?_
 refine qS ?_;obtain⟨g,f,hm⟩:=zd hm;refine sX (fun hg=>KU b.e c.e _ f) ?_;exact wR
theorem Qy(C:Int)(D:Int)(L:List aa)(z:List aa)(hm:zn C D L=some z):Does prog 104 [.buf 0,pI C,pI D,.fn 21 []] [.fx 46 2 (List.map za L)] (fun r X=>r=.tup []/\X=[.fx 46 2 (List.map za z)]):=by
 unfold zn at hm
 refine dW 1 53 [] func104 fun B=>nA fun hA=>?_
 refine qS ?_;refine Wp.block ?_;obtain⟨ac,N,hm⟩:=jG hm;refine Wp.loopN (fun s=>[(0,.buf 0),(1,pI C),(2,pI D),(3,.fn 21 []),(8,pI s.1)]) (fun s=>[.fx 46 2 (List.map za s.2)]) ?_ hm ?_
 .exact eS
 clear hm;intro s a7 hm;obtain⟨F,a8⟩:=s
 try dsimp only at hm|-
 refine df fun _ a3 _=>qS ?_
 refine cN hm (fun hm=>?_) fun hm=>?_
 .refine Wp.skip (a3 _ _ (df fun K5 U a4=>?_))
  obtain⟨V,M,hm⟩:=zj hm
  have O:∀s,V s=some z->K5 [(0,.buf 0),(1,pI C),(2,pI D),(3,.fn 21 []),(8,pI F)] [.fx 46 2 (List.map za s)]:=by
   intro P hs;have hm:=M _ hs;clear hs
   try dsimp only at hm|-
   refine U _ _ (qR ?_);simp only[zy,zq,↓reduceIte];refine⟨(IntKind.i64.wrap (F+1),P),hm,?_⟩;exact eS
  clear U M;refine Wp.block (qS ?_);refine Wp.block ?_;obtain⟨ad,Q,hm⟩:=jG hm;refine Wp.loopN (fun s=>[(0,.buf 0),(1,pI C),(2,pI D),(3,.fn 21 []),(8,pI F),(9,pI s.1)]) (fun s=>[.fx 46 2 (List.map za s.2)]) ?_ hm ?_
  .exact eS
  clear hm;intro s a9 hm;obtain⟨j,f⟩:=s
  try dsimp only at hm|-
  refine df fun _ a5 _=>?_
  obtain⟨W,hm⟩:=zh hm;obtain⟨Y,hm⟩:=zh hm;obtain⟨E,R,hm⟩:=zx hm
  refine ed (plan:=pl [(0,none),(1,none),(2,none),(3,none),(4,none),(5,none),(6,none),(7,none),(8,none),(9,none),(10,none),(11,none),(12,none),(13,none),(14,none),(15,none),(16,none)]) (by kernel_rfl) rfl (by kernel_rfl) fun K9 a6 u=>?_
  suffices k:K9 [(0,.buf 0),(1,pI C),(2,pI D),(3,.fn 21 []),(8,pI F),(9,pI j),(34,pB ((decide (C<j))&&(decide (E<0))))] [.fx 46 2 (List.map za f)]by
   rcases Bool.eq_false_or_eq_true (decide (C<j))with b|b
   ·
    have Z:=W b
    try dsimp only at Z
    have a0:=Y b
    try dsimp only at a0
    have p:=fun h=>qM (l:=f) (e:=za) (d:=(aa.mk [] [])) (i:=j.toNat) h []
    have t:=fun h=>qM (l:=f) (e:=za) (d:=(aa.mk [] [])) (i:=(IntKind.i64.wrap (j-1)).toNat) h []
    simp only[go_sem,simprocAttr,false_implies,and_true,true_and,eE,b,p (by omega),t (by omega)]
    try refine⟨sL,?_⟩
    refine Dr.callF (av:=?av10) (g:=decide (C<j)) (o:=?o10) (fun hg=>lT (aa.mk ((f.getD j.toNat (aa.mk [] [])).e) ((f.getD j.toNat (aa.mk [] [])).Value)) (aa.mk ((f.getD ((IntKind.i64.wrap (j-1)).toNat) (aa.mk [] [])).e) ((f.getD ((IntKind.i64.wrap (j-1)).toNat) (aa.mk [] [])).Value)) _ (R hg)) (by simp only[go_sem,simprocAttr,false_implies,and_true,true_and,eE,b,p (by omega),t (by omega)];exact Is.mk) (by simp only[go_sem,simprocAttr,false_implies,and_true,true_and,eE,b,p (by omega),t (by omega)];exact Is.mk) (by simp only[go_sem,simprocAttr,false_implies,and_true,true_and,eE,b,p (by omega),t (by omega)];exact Is.mk) (by simp only[go_sem,simprocAttr,false_implies,and_true,true_and,eE,b,p (by omega),t (by omega)];exact Is.mk) (by simp only[go_sem,simprocAttr,false_implies,and_true,true_and,eE,b,p (by omega),t (by omega)]) (by simp only[go_sem,simprocAttr,false_implies,and_true,true_and,eE,b,p (by omega),t (by omega)];exact Is.mk) ?cont10;simp only[go_sem,simprocAttr,false_implies,and_true,true_and,eE,b,p (by omega),t (by omega)]
    first|refine u _ _ _ _ ?_ k|refine⟨sL,u _ _ _ _ ?_ k⟩
    simp only[go_sem,simprocAttr,false_implies,and_true,true_and,eE,b,p (by omega),t (by omega)]
    try exact qa
   ·
    rcases Nat.lt_or_ge j.toNat f.length with G|G
    ·
     have c:=qM (l:=f) (e:=za) (d:=(aa.mk [] [])) (i:=j.toNat) G []
     rcases Nat.lt_or_ge ((IntKind.i64.wrap (j-1)).toNat) f.length with I|I
     ·
      have m:=qM (l:=f) (e:=za) (d:=(aa.mk [] [])) (i:=(IntKind.i64.wrap (j-1)).toNat) I [];simp only[go_sem,simprocAttr,false_implies,and_true,true_and,eE,b,c,m]
      try refine⟨sL,?_⟩
      refine dF (o:=?o11) (v:=pI E) (gw:=?gw11) (by simp only[go_sem,simprocAttr,false_implies,and_true,true_and,eE,b,c,m];exact Is.mk) (by simp only[go_sem,simprocAttr,false_implies,and_true,true_and,eE,b,c,m];exact Is.mk) (by simp only[go_sem,simprocAttr,false_implies,and_true,true_and,eE,b,c,m];exact Is.mk) (by simp only[go_sem,simprocAttr,false_implies,and_true,true_and,eE,b,c,m]) ?cont11;simp only[go_sem,simprocAttr,false_implies,and_true,true_and,eE,b,c,m]
      first|refine u _ _ _ _ ?_ k|refine⟨sL,u _ _ _ _ ?_ k⟩
      simp only[go_sem,simprocAttr,false_implies,and_true,true_and,eE,b,c,m]
      try exact qa
     ·
      have m:(List.map za f).getD ((IntKind.i64.wrap (j-1)).toNat) []=[]:=by rw[getD_eq_getElem?_getD,getElem?_eq_none (by simpa using I)];rfl
      simp only[go_sem,simprocAttr,false_implies,and_true,true_and,eE,b,c,m]
      try refine⟨sL,?_⟩
      refine dF (o:=?o12) (v:=pI E) (gw:=?gw12) (by simp only[go_sem,simprocAttr,false_implies,and_true,true_and,eE,b,c,m];exact Is.mk) (by simp only[go_sem,simprocAttr,false_implies,and_true,true_and,eE,b,c,m];exact Is.mk) (by simp only[go_sem,simprocAttr,false_implies,and_true,true_and,eE,b,c,m];exact Is.mk) (by simp only[go_sem,simprocAttr,false_implies,and_true,true_and,eE,b,c,m]) ?cont12;simp only[go_sem,simprocAttr,false_implies,and_true,true_and,eE,b,c,m]
      first|refine u _ _ _ _ ?_ k|refine⟨sL,u _ _ _ _ ?_ k⟩
      simp only[go_sem,simprocAttr,false_implies,and_true,true_and,eE,b,c,m]
      try exact qa
    ·
     have c:(List.map za f).getD j.toNat []=[]:=by rw[getD_eq_getElem?_getD,getElem?_eq_none (by simpa using G)];rfl
     rcases Nat.lt_or_ge ((IntKind.i64.wrap (j-1)).toNat) f.length with J|J
     ·
      have n:=qM (l:=f) (e:=za) (d:=(aa.mk [] [])) (i:=(IntKind.i64.wrap (j-1)).toNat) J [];simp only[go_sem,simprocAttr,false_implies,and_true,true_and,eE,b,c,n]
      try refine⟨sL,?_⟩
      refine dF (o:=?o13) (v:=pI E) (gw:=?gw13) (by simp only[go_sem,simprocAttr,false_implies,and_true,true_and,eE,b,c,n];exact Is.mk) (by simp only[go_sem,simprocAttr,false_implies,and_true,true_and,eE,b,c,n];exact Is.mk) (by simp only[go_sem,simprocAttr,false_implies,and_true,true_and,eE,b,c,n];exact Is.mk) (by simp only[go_sem,simprocAttr,false_implies,and_true,true_and,eE,b,c,n]) ?cont13;simp only[go_sem,simprocAttr,false_implies,and_true,true_and,eE,b,c,n]
      first|refine u _ _ _ _ ?_ k|refine⟨sL,u _ _ _ _ ?_ k⟩
      simp only[go_sem,simprocAttr,false_implies,and_true,true_and,eE,b,c,n]
      try exact qa
     ·
      have n:(List.map za f).getD ((IntKind.i64.wrap (j-1)).toNat) []=[]:=by rw[getD_eq_getElem?_getD,getElem?_eq_none (by simpa using J)];rfl
      simp only[go_sem,simprocAttr,false_implies,and_true,true_and,eE,b,c,n]
      try refine⟨sL,?_⟩
      refine dF (o:=?o14) (v:=pI E) (gw:=?gw14) (by simp only[go_sem,simprocAttr,false_implies,and_true,true_and,eE,b,c,n];exact Is.mk) (by simp only[go_sem,simprocAttr,false_implies,and_true,true_and,eE,b,c,n];exact Is.mk) (by simp only[go_sem,simprocAttr,false_implies,and_true,true_and,eE,b,c,n];exact Is.mk) (by simp only[go_sem,simprocAttr,false_implies,and_true,true_and,eE,b,c,n]) ?cont14;simp only[go_sem,simprocAttr,false_implies,and_true,true_and,eE,b,c,n]
      first|refine u _ _ _ _ ?_ k|refine⟨sL,u _ _ _ _ ?_ k⟩
      simp only[go_sem,simprocAttr,false_implies,and_true,true_and,eE,b,c,n]
      try exact qa
  refine a6 _ _ (cN hm (fun hm=>?_) fun hm=>?_)
  .refine Wp.skip (a5 _ _ (df fun _ a1 _=>Wp.block ?_))
   obtain⟨af,hm⟩:=zh hm;obtain⟨ag,hm⟩:=zh hm;obtain⟨an,hm⟩:=zh hm;obtain⟨ao,hm⟩:=zh hm
   have S:=fun h=>qM (l:=f) (e:=za) (d:=(aa.mk [] [])) (i:=(IntKind.i64.wrap (j-1)).toNat) h []
   have T:=fun h=>qM (l:=f) (e:=za) (d:=(aa.mk [] [])) (i:=j.toNat) h []
   refine dD (plan:=pl [(0,none),(1,none),(2,none),(3,none),(4,none),(5,none),(6,none),(7,none),(8,none),(9,none),(10,none),(11,none),(12,none),(13,none),(14,none),(15,some [2,3,4]),(16,none),(17,some [])]) (by kernel_rfl) rfl (by kernel_rfl) fun ap a2=>?_
   simp only[go_sem,simprocAttr,S (by omega),T (by omega)];refine kA a2 ?_;refine a1 _ _ (qR ?_);simp only[zy,zq,↓reduceIte];refine⟨(IntKind.i64.wrap (j-1),List.set (List.set f j.toNat (aa.mk ((f.getD ((IntKind.i64.wrap (j-1)).toNat) (aa.mk [] [])).e) ((f.getD ((IntKind.i64.wrap (j-1)).toNat) (aa.mk [] [])).Value))) ((IntKind.i64.wrap (j-1)).toNat) (aa.mk ((f.getD j.toNat (aa.mk [] [])).e) ((f.getD j.toNat (aa.mk [] [])).Value))),hm,?_⟩;exact eS
  .refine Wp.exit ?_
   simp only[zy,zq,↓reduceIte];have hm:=Q _ hm
   try dsimp only at hm
   refine a4 _ _ _ _ ?_ (O f hm);exact eS
 .refine Wp.exit ?_
  simp only[zy,zq,↓reduceIte];have hm:=N _ hm
  try dsimp only at hm
  refine uy ?_;cases hm;exact eS
theorem SV(c:Int)(g:List aa)(z:List aa)(hm:Le c g=some z):Does prog 61 [.buf 0,pI c,.fn 21 []] [.fx 46 2 (List.map za g)] (fun r X=>r=.tup []/\X=[.fx 46 2 (List.map za z)]):=by
 unfold Le at hm
 refine dW 1 63 [] func61 fun B=>nA fun hA=>?_
 refine qS ?_;refine qS ?_
 refine df fun K3 C N=>?_
 obtain⟨O,i,hm⟩:=zj hm
 have p:∀s,O s=some z->K3 [(0,.buf 0),(1,pI c),(2,.fn 21 []),(6,pI 20),(7,pI s.1)] [.fx 46 2 (List.map za s.2)]:=by
  intro s hs;have hm:=i _ hs;clear hs;obtain⟨D,t⟩:=s
  try dsimp only at hm|-
  refine C _ _ ?_;obtain⟨j,E,hm⟩:=zd hm;refine sO [0] (Qy D c t _ E) ?_;refine Wp.block ?_;obtain⟨Z,F,hm⟩:=jG hm;refine Wp.loopN (fun s=>[(0,.buf 0),(1,pI c),(2,.fn 21 []),(6,pI s)]) (fun s=>[.fx 46 2 (List.map za j)]) ?_ hm ?_
  .exact eS
  clear hm;intro b T hm
  try dsimp only at hm|-
  refine df fun _ P _=>qS ?_
  refine cN hm (fun hm=>?_) fun hm=>?_
  .refine Wp.skip (P _ _ (Wp.block (qS ?_)))
   refine df fun Q k G=>?_
   obtain⟨R,l,hm⟩:=zj hm
   have m:∀s,R s=some z->Q [(0,.buf 0),(1,pI c),(2,.fn 21 []),(6,pI b),(7,pI 0)] [.fx 46 2 (List.map za j)]:=by
    intro s hs;have hm:=l _ hs;clear hs
    try dsimp only at hm|-
    refine k _ _ (df fun _ I _=>qS ?_);refine qS ?_
    refine cN hm (fun hm=>?_) fun hm=>?_
    .cases hm
    .refine Wp.skip (I _ _ (qR ?_))
     simp only[zy,zq,↓reduceIte];refine⟨IntKind.i64.wrap (b*2),hm,?_⟩;exact eS
   clear k l;refine Wp.block ?_;obtain⟨W,u,hm⟩:=jG hm;refine Wp.loopN (fun s=>[(0,.buf 0),(1,pI c),(2,.fn 21 []),(6,pI b),(7,pI 0),(8,pI (IntKind.i64.wrap (2*b)))]) (fun s=>[.fx 46 2 (List.map za j)]) ?_ hm ?_
   .exact eS
   clear hm;intro s U hm
   try dsimp only at hm|-
   refine df fun _ J _=>qS ?_
   refine cN hm (fun hm=>?_) fun hm=>?_
   .refine Wp.skip (J _ _ (Wp.block ?_))
    cases hm
   .refine Wp.exit ?_
    simp only[zy,zq,↓reduceIte];have hm:=u _ hm
    try dsimp only at hm
    refine G _ _ _ _ ?_ (m () hm);exact eS
  .refine Wp.exit ?_
   simp only[zy,zq,↓reduceIte];have hm:=F _ hm
   try dsimp only at hm
   refine uy ?_;cases hm;exact eS
 clear C i;refine Wp.block ?_;obtain⟨Y,v,hm⟩:=jG hm;refine Wp.loopN (fun s=>[(0,.buf 0),(1,pI c),(2,.fn 21 []),(6,pI 20),(7,pI s.1),(8,pI s.2.1)]) (fun s=>[.fx 46 2 (List.map za s.2.2)]) ?_ hm ?_
 .exact eS
 clear hm;intro s V hm;obtain⟨n,o,f⟩:=s
 try dsimp only at hm|-
 refine df fun _ L _=>qS ?_
 refine cN hm (fun hm=>?_) fun hm=>?_
 .refine Wp.skip (L _ _ (Wp.block ?_))
  obtain⟨S,M,hm⟩:=zd hm;refine sO [0] (Qy n o f _ M) ?_;refine qS ?_;refine qR ?_;simp only[zy,zq,↓reduceIte];refine⟨(o,IntKind.i64.wrap (o+20),S),hm,?_⟩;exact eS
 .refine Wp.exit ?_
  simp only[zy,zq,↓reduceIte];have hm:=v _ hm
  try dsimp only at hm
  refine N _ _ _ _ ?_ (p (n,f) hm);exact eS
theorem S5(b:List aa)(z:List aa)(hm:zz b=some z):Does prog 20 [.buf 0,.fn 21 []] [.fx 46 2 (List.map za b)] (fun r X=>r=.tup []/\X=[.fx 46 2 (List.map za z)]):=by
 unfold zz at hm
 refine dW 1 9 [] func20 fun B=>nA fun hA=>?_
 obtain⟨f,c,hm⟩:=zd hm;refine eO [0] (SV (b.length:Int) b _ c) ?_;refine uy ?_;cases hm;exact eS
theorem Pn(b:aa)(c:aa)(z:Bool)(hm:GS b c=some z):Does prog 24 [.agg [pS b.e,pS b.Value],.agg [pS c.e,pS c.Value]] [] (fun r X=>r=pB z/\X=[]):=by
 unfold GS at hm
 refine dW 0 10 [.tmp 4] func24 fun B=>nA fun hA=>?_
 refine qS ?_;exact wQ
theorem SY(b:List aa)(z:Nat×Nat×List aa)(hm:zH b=some z):Does prog 23 [.buf 0,.fn 24 []] [.fx 46 2 (List.map za b)] (fun r X=>r=.vw 0 2 z.1 z.2.1/\X=[.fx 46 2 (List.map za z.2.2)]):=by
 unfold zH at hm
 refine dW 1 66 [.tmp 4] func23 fun B=>nA fun hA=>?_
 refine dL 0 0 (by simp only[go_sem,simprocAttr];exact Is.mk) (by simp only[go_sem,simprocAttr];exact Is.mk) ?_;simp only[go_sem,simprocAttr];refine qS ?_
 refine df fun _ a3 _=>qS ?_
 refine cR hm fun hm=>?_
 refine Wp.skip (a3 _ _ (df fun K6 R a4=>?_));obtain⟨a5,D,hm⟩:=zj hm
 have L:∀s,a5 s=some z->K6 [(0,.vw 0 2 0 b.length)] [.fx 46 2 (List.map za b)]:=by
  intro s hs;have hm:=D _ hs;clear hs
  try dsimp only at hm|-
  exact R _ _ (wQ)
 clear R D;refine qS ?_;refine Wp.block ?_;obtain⟨af,M,hm⟩:=jG hm;refine Wp.loopN (fun s=>[(0,.vw 0 2 0 b.length),(1,.fn 24 []),(5,pI s)]) (fun s=>[.fx 46 2 (List.map za b)]) ?_ hm ?_
 .exact eS
 clear hm;intro c a9 hm
 try dsimp only at hm|-
 refine df fun _ a6 _=>qS ?_
 refine cN hm (fun hm=>?_) fun hm=>?_
 .refine Wp.skip (a6 _ _ (df fun a7 E S=>?_))
  obtain⟨U,v,hm⟩:=zj hm
  have F:∀s,U s=some z->a7 [(0,.vw 0 2 0 b.length),(1,.fn 24 []),(5,pI c)] [.fx 46 2 (List.map za b)]:=by
   intro s hs;have hm:=v _ hs;clear hs
   try dsimp only at hm|-
   refine E _ _ (qR ?_);simp only[zy,zq,↓reduceIte];refine⟨IntKind.i64.wrap (c+1),hm,?_⟩;exact eS
  clear E v;refine Wp.block ?_;obtain⟨ag,hm⟩:=zh hm;obtain⟨an,hm⟩:=zh hm;obtain⟨ao,N,hm⟩:=zd hm
  have k:=fun h=>qM (l:=b) (e:=za) (d:=(aa.mk [] [])) (i:=(c.toNat:Nat)) h []
  have n:=fun h=>qM (l:=b) (e:=za) (d:=(aa.mk [] [])) (i:=((IntKind.i64.wrap (c-1)).toNat:Nat)) h []
  refine dn (plan:=pl [(0,none),(1,none),(2,none),(3,none),(4,none),(5,none),(6,none),(7,none),(8,none),(9,none),(10,none)]) (by kernel_rfl) rfl (by kernel_rfl) fun aG V=>?_
  simp only[go_sem,simprocAttr,k (by omega),n (by omega)]
  try refine⟨sL,?_⟩
  refine Dr.callF (av:=?av15) (g:=true) (o:=?o15) (fun hg=>Pn (aa.mk ((b.getD (c.toNat:Nat) (aa.mk [] [])).e) ((b.getD (c.toNat:Nat) (aa.mk [] [])).Value)) (aa.mk ((b.getD ((IntKind.i64.wrap (c-1)).toNat:Nat) (aa.mk [] [])).e) ((b.getD ((IntKind.i64.wrap (c-1)).toNat:Nat) (aa.mk [] [])).Value)) _ N) (by simp only[go_sem,simprocAttr,k (by omega),n (by omega)];exact Is.mk) (by simp only[go_sem,simprocAttr,k (by omega),n (by omega)];exact Is.mk) (by simp only[go_sem,simprocAttr,k (by omega),n (by omega)];exact Is.mk) (by simp only[go_sem,simprocAttr,k (by omega),n (by omega)];exact Is.mk) (by simp only[go_sem,simprocAttr,k (by omega),n (by omega)]) (by simp only[go_sem,simprocAttr,k (by omega),n (by omega)];exact Is.mk) ?cont15;simp only[go_sem,simprocAttr,k (by omega),n (by omega)];refine kA V ?_
  refine cN hm (fun hm=>?_) fun hm=>?_
  .obtain⟨ap,hm⟩:=zh hm
   refine q6 ?_
   refine df fun a8 G W=>?_
   obtain⟨Y,C,hm⟩:=zj hm
   have I:∀s,Y s=some z->a8 [(0,.vw 0 2 0 b.length),(5,pI s.1)] [.fx 46 2 (List.map za s.2)]:=by
    intro s hs;have hm:=C _ hs;clear hs;obtain⟨aq,ac⟩:=s
    try dsimp only at hm|-
    refine G _ _ ?_;obtain⟨ar,hm⟩:=zh hm
    refine dh fun aH Z=>?_
    simp only[go_sem,simprocAttr]
    try refine⟨sL,?_⟩
    refine Rg.clear (i:=?i20) (sz:=?sz20) (a:=?a20) (m:=?m20) (T:=?T20) (rows:=?rows20) (e:=?e20) (eb:=?eb20) (ez:=?ez20) (z:=?z20) (fx:=?fx20) Is.mk Is.mk Is.mk Is.mk Is.mk sg sg si si si si sg sg sg ?cont20;simp only[go_sem,simprocAttr];refine kA Z ?_;obtain⟨au,hm⟩:=zh hm;exact wQ
   clear G C;refine qS ?_;refine Wp.block ?_;obtain⟨aw,O,hm⟩:=jG hm;refine Wp.loopN (fun s=>[(0,.vw 0 2 0 b.length),(1,.fn 24 []),(5,pI s.1),(6,.vw 0 2 c.toNat (b.length-c.toNat)),(7,pI s.2.1)]) (fun s=>[.fx 46 2 (List.map za s.2.2)]) ?_ hm ?_
   .exact eS
   clear hm;intro s ad hm;obtain⟨u,j,f⟩:=s
   try dsimp only at hm|-
   refine df fun _ a0 _=>qS ?_
   refine cN hm (fun hm=>?_) fun hm=>?_
   .refine Wp.skip (a0 _ _ (df fun _ J _=>Wp.block ?_))
    obtain⟨ax,hm⟩:=zh hm;obtain⟨ay,hm⟩:=zh hm;obtain⟨az,hm⟩:=zh hm;obtain⟨aA,hm⟩:=zh hm;obtain⟨aB,P,hm⟩:=zd hm
    have p:=fun h=>qM (l:=f) (e:=za) (d:=(aa.mk [] [])) (i:=(c.toNat+j.toNat:Nat)) h []
    have t:=fun h=>qM (l:=f) (e:=za) (d:=(aa.mk [] [])) (i:=(c.toNat+((IntKind.i64.wrap (j-1)).toNat):Nat)) h []
    refine dn (plan:=pl [(0,none),(1,none),(2,none),(3,none),(4,none),(5,none),(6,none),(7,none),(8,none),(9,none),(10,none),(11,none)]) (by kernel_rfl) rfl (by kernel_rfl) fun aI a1=>?_
    simp only[go_sem,simprocAttr,p (by omega),t (by omega)]
    try refine⟨sL,?_⟩
    refine Dr.callF (av:=?av28) (g:=true) (o:=?o28) (fun hg=>Pn (aa.mk ((f.getD (c.toNat+j.toNat:Nat) (aa.mk [] [])).e) ((f.getD (c.toNat+j.toNat:Nat) (aa.mk [] [])).Value)) (aa.mk ((f.getD (c.toNat+((IntKind.i64.wrap (j-1)).toNat):Nat) (aa.mk [] [])).e) ((f.getD (c.toNat+((IntKind.i64.wrap (j-1)).toNat):Nat) (aa.mk [] [])).Value)) _ P) (by simp only[go_sem,simprocAttr,p (by omega),t (by omega)];exact Is.mk) (by simp only[go_sem,simprocAttr,p (by omega),t (by omega)];exact Is.mk) (by simp only[go_sem,simprocAttr,p (by omega),t (by omega)];exact Is.mk) (by simp only[go_sem,simprocAttr,p (by omega),t (by omega)];exact Is.mk) (by simp only[go_sem,simprocAttr,p (by omega),t (by omega)]) (by simp only[go_sem,simprocAttr,p (by omega),t (by omega)];exact Is.mk) ?cont28;simp only[go_sem,simprocAttr,p (by omega),t (by omega)];refine kA a1 ?_
    refine cN hm (fun hm=>?_) fun hm=>?_
    .obtain⟨aC,hm⟩:=zh hm
     obtain⟨aD,hm⟩:=zh hm;obtain⟨aE,hm⟩:=zh hm;obtain⟨aF,hm⟩:=zh hm
     have Q:=fun h=>qM (l:=f) (e:=za) (d:=(aa.mk [] [])) (i:=(c.toNat+j.toNat:Nat)) h []
     refine dh fun aJ a2=>?_
     simp only[go_sem,simprocAttr,Q (by omega)];refine kA a2 ?_;refine qR ?_;refine J _ _ (qR ?_);simp only[zy,zq,↓reduceIte];refine⟨(IntKind.i64.wrap (u+1),IntKind.i64.wrap (j+1),List.set f (u.toNat:Nat) (aa.mk ((f.getD (c.toNat+j.toNat:Nat) (aa.mk [] [])).e) ((f.getD (c.toNat+j.toNat:Nat) (aa.mk [] [])).Value))),hm,?_⟩;exact eS
    .refine Wp.skip (J _ _ (qR ?_))
     simp only[zy,zq,↓reduceIte];refine⟨(u,IntKind.i64.wrap (j+1),f),hm,?_⟩;exact eS
   .refine Wp.exit ?_
    simp only[zy,zq,↓reduceIte];have hm:=O _ hm
    try dsimp only at hm
    refine W _ _ _ _ ?_ (I (u,f) hm);exact eS
  .refine Wp.skip (S _ _ _ _ ?_ (F () hm))
   exact eS
 .refine Wp.exit ?_
  simp only[zy,zq,↓reduceIte];have hm:=M _ hm
  try dsimp only at hm
  refine a4 _ _ _ _ ?_ (L () hm);exact eS
theorem uv(b:Bool)(c:Int)(z:Int)(hm:pG b c=some z):Does prog 65 [pB b,pI c] [] (fun r X=>r=pI z/\X=[]):=by
 unfold pG at hm
 refine dW 0 7 [.tmp 4] func65 fun B=>nA fun hA=>?_
 refine qS ?_
 refine df fun _ f _=>qS ?_
 refine cR hm fun hm=>?_
 exact Wp.skip (f _ _ (wQ))
theorem KS(f:Int)(c:eA)(b:eA)(z:Int×eA)(hm:BE f c b=some z):Does prog 64 [pI f,pS c,.ptr 0 0] [.cells 9 [pS b]] (fun r X=>r=pI z.1/\X=[.cells 9 [pS z.2]]):=by
 unfold BE at hm
 refine dW 1 17 [.tmp 5] func64 fun B=>nA fun hA=>?_
 refine qS ?_;refine qS ?_;refine qS ?_;obtain⟨i,g,hm⟩:=zd hm;refine sX (fun hg=>uv ((decide (0<f))&&(lh c b||decide (c=b))) 7 _ g) ?_;exact wR
end Go.Proofs.YtkojogldchfkkaaGreatDoor
