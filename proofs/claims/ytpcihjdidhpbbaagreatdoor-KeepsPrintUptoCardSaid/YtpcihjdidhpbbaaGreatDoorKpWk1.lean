/- That the code does what the models say (part 1). -/
import Derived.Test.YtpcihjdidhpbbaaGreatDoorKpWk0
set_option linter.unusedSimpArgs false
set_option linter.unusedVariables false
open Go.Proofs Go.Shelf
open List
namespace Go.Proofs.YtpcihjdidhpbbaaGreatDoor
open Tryz
open Go.Vc Go.Md
set_option maxRecDepth 100000
set_option maxHeartbeats 4000000
theorem PW(b:Int)(z:Bool)(w:BU b=some z):Does prog 59 [.p (.i .u8 b)] [] (fun r X=>r=pB z/\X=[]):=by
 unfold BU at w;refine dW 0 9 [.tmp 2] func59 fun B=>nA fun A=>?_;refine qS ?_;exact wQ
theorem SJ(b:Int)(z:Bool)(w:Gu b=some z):Does prog 60 [.p (.i .u8 b)] [] (fun r X=>r=pB z/\X=[]):=by
 unfold Gu at w;refine dW 0 9 [.tmp 2] func60 fun B=>nA fun A=>?_;refine qS ?_;exact wQ
theorem T7(b:Int)(z:Bool)(w:Iy b=some z):Does prog 58 [.p (.i .u8 b)] [] (fun r X=>r=pB z/\X=[]):=by
 unfold Iy at w;refine dW 0 17 [.tmp 2] func58 fun B=>nA fun A=>?_;refine qS ?_;obtain⟨j,c,w⟩:=zd w;obtain⟨l,f,w⟩:=zx w;refine rS fun _ k=>?_;refine cX (fun a=>PW b _ c) ?_;refine cX (g:=!j) (fun a=>SJ b _ (f a)) (k _ _ ?_);exact wR
theorem TP(c:ev)(b:Int)(z:Bool)(w:Nz c b=some z):Does prog 57 [pS c,pI b,.fn 58 []] [] (fun r X=>r=pB z/\X=[]):=by
 unfold Nz at w;refine dW 0 28 [.tmp 6] func57 fun B=>nA fun A=>?_;refine qS ?_;refine da fun a o v=>?_;obtain⟨C,g,w⟩:=zo w;have k:∀s,C s=some z->a [(0,pS c),(1,pI b)] []:=by
  intro s hs;have w:=g _ hs;clear hs;try dsimp only at w|-
  exact o _ _ (wQ)
 clear o g;refine qS ?_;refine Wp.block ?_;obtain⟨L,p,w⟩:=zq w;refine fL 0 c.length fun t=>?_;refine Wp.forL (fun i s=>[(0,pS c),(1,pI b),(2,.fn 58 []),(7,pI (i:Int))]) (fun i s=>[]) wF w ?_;clear w;intro i s I w;try dsimp only at w|-
 refine da fun _ D _=>qS ?_;refine Wp.cond rfl ⟨⟩ (fun j=>?_) fun j=>Wp.exit (v _ _ _ _ wF (k () (p _ (jg w (tn j)))));have f:=j7 j;have E:=iL f t;obtain⟨F,J,l,m,n,w⟩:=jj w f;clear l;refine Wp.skip ?_;simp only[zz];refine D _ _ (da fun _ G _=>Wp.block ?_);obtain⟨M,u,w⟩:=zd w;have A:=And.intro E m;refine sX (fun d=>T7 (F.toNat:Int) _ u) ?_;refine cR w fun w=>?_;refine Wp.skip (G _ _ (r6 ?_));exact wN () f (n _ w)
theorem PN(b:ev)(z:Bool)(w:CT b=some z):Does prog 14 [pS b] [] (fun r X=>r=pB z/\X=[]):=by
 unfold CT at w;refine dW 0 10 [.tmp 2] func14 fun B=>nA fun A=>?_;refine qS ?_;obtain⟨i,c,w⟩:=zd w;obtain⟨k,w⟩:=zh w;obtain⟨l,f,w⟩:=zx w;refine rS fun _ j=>?_;refine cX (fun a=>TP b 40 _ c) ?_;refine cX (g:=i) (fun a=>PW ((b.getD 0 0).toNat:Int) _ (f a)) (j _ _ ?_);exact wR
theorem TI(z:Bool)(w:Na=some z):Does prog 4 [] [] (fun r X=>r=pB z/\X=[]):=by
 unfold Na at w;refine dW 0 2 [.tmp 0] func4 fun B=>nA fun A=>?_;refine qS ?_;obtain⟨c,b,w⟩:=zd w;refine sX (fun a=>PN ([97]:ev) _ b) ?_;exact wR
theorem yc(b:ev)(z:Bool)(w:qO b=some z):Does prog 20 [pS b] [] (fun r X=>r=pB z/\X=[]):=by
 unfold qO at w;refine dW 0 54 [.tmp 2] func20 fun B=>nA fun A=>?_;refine qS ?_;refine da fun a j n=>?_;obtain⟨o,c,w⟩:=zo w;have g:∀s,o s=some z->a [(0,pS b)] []:=by
  intro s hs;have w:=c _ hs;clear hs;try dsimp only at w|-
  exact j _ _ (wQ)
 clear j c;refine qS ?_;refine Wp.block ?_;obtain⟨C,k,w⟩:=zq w;refine fL 0 b.length fun l=>?_;refine Wp.forL (fun f s=>[(0,pS b),(7,pI (b.length:Int)),(8,pI (f:Int))]) (fun f s=>[]) wF w ?_;clear w;intro f s t w;try dsimp only at w|-
 refine qS ?_;refine lS w l (fun h=>n _ _ _ _ wF (g () (k _ h))) fun m D E v u i w A _ p=>?_;refine q6 ?_;refine q6 ?_;refine q6 ?_;refine q6 ?_;refine cR w fun w=>?_;refine Wp.skip (p _ _ (r6 ?_));exact wN () m (i _ w)
theorem PP(b:ev)(z:Bool)(w:CM b=some z):Does prog 21 [pS b] [] (fun r X=>r=pB z/\X=[]):=by
 unfold CM at w;refine dW 0 23 [.tmp 2] func21 fun B=>nA fun A=>?_;refine qS ?_;refine da fun a j n=>?_;obtain⟨o,c,w⟩:=zo w;have g:∀s,o s=some z->a [(0,pS b)] []:=by
  intro s hs;have w:=c _ hs;clear hs;try dsimp only at w|-
  exact j _ _ (wQ)
 clear j c;refine qS ?_;refine Wp.block ?_;obtain⟨C,k,w⟩:=zq w;refine fL 0 b.length fun l=>?_;refine Wp.forL (fun f s=>[(0,pS b),(5,pI (b.length:Int)),(6,pI (f:Int))]) (fun f s=>[]) wF w ?_;clear w;intro f s t w;try dsimp only at w|-
 refine qS ?_;refine lS w l (fun h=>n _ _ _ _ wF (g () (k _ h))) fun m D E v u i w A _ p=>?_;refine q6 ?_;refine q6 ?_;refine cR w fun w=>?_;refine Wp.skip (p _ _ (r6 ?_));exact wN () m (i _ w)
theorem U5(b:ev)(c:ev)(z:Int)(w:IV b c=some z):Does prog 94 [pS b,pS c] [] (fun r X=>r=pI z/\X=[]):=by
 unfold IV at w;refine dW 0 8 [.tmp 4] func94 fun B=>nA fun A=>?_;refine qS ?_;have i:=mf b c;refine db fun a f=>?_;simp only[go_sem,simprocAttr];try refine⟨sd,?_⟩
 refine dB (av:=?av3) (g:=true) (fun d=>Eh b c) si si si sg si ?cont3;intro j;simp only[go_sem,simprocAttr];refine kA f ?_;exact wR
theorem IU(b:ev)(c:ev)(z:Int)(w:uS b c=some z):Does prog 24 [pS b,pS c] [] (fun r X=>r=pI z/\X=[]):=by
 unfold uS at w;refine dW 0 8 [.tmp 4] func24 fun B=>nA fun A=>?_;refine qS ?_;obtain⟨g,f,w⟩:=zd w;refine sX (fun a=>U5 b c _ f) ?_;exact wR
theorem lq(b:ab)(c:ab)(z:Int)(w:M0 b c=some z):Does prog 23 [.agg [pS b.u,pS b.Value],.agg [pS c.u,pS c.Value]] [] (fun r X=>r=pI z/\X=[]):=by
 unfold M0 at w;refine dW 0 10 [.tmp 4] func23 fun B=>nA fun A=>?_;refine qS ?_;obtain⟨g,f,w⟩:=zd w;refine sX (fun a=>IU b.u c.u _ f) ?_;exact wR
theorem Tb(D:Int)(E:Int)(M:List ab)(z:List ab)(w:zt D E M=some z):Does prog 131 [.buf 0,pI D,pI E,.fn 23 []] [.fx 63 2 (List.map za M)] (fun r X=>r=.tup []/\X=[.fx 63 2 (List.map za z)]):=by
 unfold zt at w;refine dW 1 53 [] func131 fun B=>nA fun A=>?_;refine qS ?_;refine Wp.block ?_;obtain⟨ad,O,w⟩:=ii w;refine Wp.loopN (fun s=>[(0,.buf 0),(1,pI D),(2,pI E),(3,.fn 23 []),(8,pI s.1)]) (fun s=>[.fx 63 2 (List.map za s.2)]) ?_ w ?_
 .exact eS
 clear w;intro s a8 w;obtain⟨G,a9⟩:=s;try dsimp only at w|-
 refine da fun _ a _=>qS ?_;refine cN w (fun w=>?_) fun w=>?_
 .refine Wp.skip (a _ _ (da fun q V a0=>?_));obtain⟨W,N,w⟩:=zo w
  have P:∀s,W s=some z->q [(0,.buf 0),(1,pI D),(2,pI E),(3,.fn 23 []),(8,pI G)] [.fx 63 2 (List.map za s)]:=by
   intro Q hs;have w:=N _ hs;clear hs;try dsimp only at w|-
   refine V _ _ (qR ?_);simp only[zz,zw,↓reduceIte];refine⟨(IntKind.i64.wrap (G+1),Q),w,?_⟩;exact eS
  clear V N;refine Wp.block (qS ?_);refine Wp.block ?_;obtain⟨af,R,w⟩:=ii w;refine Wp.loopN (fun s=>[(0,.buf 0),(1,pI D),(2,pI E),(3,.fn 23 []),(8,pI G),(9,pI s.1)]) (fun s=>[.fx 63 2 (List.map za s.2)]) ?_ w ?_
  .exact eS
  clear w;intro s ac w;obtain⟨j,f⟩:=s;try dsimp only at w|-
  refine da fun _ x _=>?_;obtain⟨Y,w⟩:=zh w;obtain⟨Z,w⟩:=zh w;obtain⟨F,S,w⟩:=zx w;refine dN (plan:=pl [(0,none),(1,none),(2,none),(3,none),(4,none),(5,none),(6,none),(7,none),(8,none),(9,none),(10,none),(11,none),(12,none),(13,none),(14,none),(15,none),(16,none)]) (by kernel_rfl) rfl (by kernel_rfl) fun y a1 C=>?_;suffices k:y [(0,.buf 0),(1,pI D),(2,pI E),(3,.fn 23 []),(8,pI G),(9,pI j),(34,pB ((decide (D<j))&&(decide (F<0))))] [.fx 63 2 (List.map za f)]by
   rcases Bool.eq_false_or_eq_true (decide (D<j))with b|b
   ·
    have H:=Y b;try dsimp only at H
    have K:=Z b;try dsimp only at K
    have p:=fun h=>ik (l:=f) (e:=za) (d:=(ab.mk [] [])) (i:=j.toNat) h [];have t:=fun h=>ik (l:=f) (e:=za) (d:=(ab.mk [] [])) (i:=(IntKind.i64.wrap (j-1)).toNat) h [];simp only[go_sem,simprocAttr,false_implies,and_true,true_and,eC,b,p (by omega),t (by omega)];try refine⟨sL,?_⟩
    refine Dr.callF (av:=?av10) (g:=decide (D<j)) (o:=?o10) (fun hg=>lq (ab.mk ((f.getD j.toNat (ab.mk [] [])).u) ((f.getD j.toNat (ab.mk [] [])).Value)) (ab.mk ((f.getD ((IntKind.i64.wrap (j-1)).toNat) (ab.mk [] [])).u) ((f.getD ((IntKind.i64.wrap (j-1)).toNat) (ab.mk [] [])).Value)) _ (S hg)) (by simp only[go_sem,simprocAttr,false_implies,and_true,true_and,eC,b,p (by omega),t (by omega)];exact Is.mk) (by simp only[go_sem,simprocAttr,false_implies,and_true,true_and,eC,b,p (by omega),t (by omega)];exact Is.mk) (by simp only[go_sem,simprocAttr,false_implies,and_true,true_and,eC,b,p (by omega),t (by omega)];exact Is.mk) (by simp only[go_sem,simprocAttr,false_implies,and_true,true_and,eC,b,p (by omega),t (by omega)];exact Is.mk) (by simp only[go_sem,simprocAttr,false_implies,and_true,true_and,eC,b,p (by omega),t (by omega)]) (by simp only[go_sem,simprocAttr,false_implies,and_true,true_and,eC,b,p (by omega),t (by omega)];exact Is.mk) ?cont10;simp only[go_sem,simprocAttr,false_implies,and_true,true_and,eC,b,p (by omega),t (by omega)];first|refine C _ _ _ _ ?_ k|refine⟨sL,C _ _ _ _ ?_ k⟩
    simp only[go_sem,simprocAttr,false_implies,and_true,true_and,eC,b,p (by omega),t (by omega)];try exact un
   ·
    rcases Nat.lt_or_ge j.toNat f.length with I|I
    ·
     have c:=ik (l:=f) (e:=za) (d:=(ab.mk [] [])) (i:=j.toNat) I [];rcases Nat.lt_or_ge ((IntKind.i64.wrap (j-1)).toNat) f.length with J|J
     ·
      have m:=ik (l:=f) (e:=za) (d:=(ab.mk [] [])) (i:=(IntKind.i64.wrap (j-1)).toNat) J [];simp only[go_sem,simprocAttr,false_implies,and_true,true_and,eC,b,c,m];try refine⟨sL,?_⟩
      refine dC (o:=?o11) (v:=pI F) (gw:=?gw11) (by simp only[go_sem,simprocAttr,false_implies,and_true,true_and,eC,b,c,m];exact Is.mk) (by simp only[go_sem,simprocAttr,false_implies,and_true,true_and,eC,b,c,m];exact Is.mk) (by simp only[go_sem,simprocAttr,false_implies,and_true,true_and,eC,b,c,m];exact Is.mk) (by simp only[go_sem,simprocAttr,false_implies,and_true,true_and,eC,b,c,m]) ?cont11;simp only[go_sem,simprocAttr,false_implies,and_true,true_and,eC,b,c,m];first|refine C _ _ _ _ ?_ k|refine⟨sL,C _ _ _ _ ?_ k⟩
      simp only[go_sem,simprocAttr,false_implies,and_true,true_and,eC,b,c,m];try exact un
     ·
      have m:(List.map za f).getD ((IntKind.i64.wrap (j-1)).toNat) []=[]:=by rw[getD_eq_getElem?_getD,getElem?_eq_none (by simpa using J)];rfl
      simp only[go_sem,simprocAttr,false_implies,and_true,true_and,eC,b,c,m];try refine⟨sL,?_⟩
      refine dC (o:=?o12) (v:=pI F) (gw:=?gw12) (by simp only[go_sem,simprocAttr,false_implies,and_true,true_and,eC,b,c,m];exact Is.mk) (by simp only[go_sem,simprocAttr,false_implies,and_true,true_and,eC,b,c,m];exact Is.mk) (by simp only[go_sem,simprocAttr,false_implies,and_true,true_and,eC,b,c,m];exact Is.mk) (by simp only[go_sem,simprocAttr,false_implies,and_true,true_and,eC,b,c,m]) ?cont12;simp only[go_sem,simprocAttr,false_implies,and_true,true_and,eC,b,c,m];first|refine C _ _ _ _ ?_ k|refine⟨sL,C _ _ _ _ ?_ k⟩
      simp only[go_sem,simprocAttr,false_implies,and_true,true_and,eC,b,c,m];try exact un
    ·
     have c:(List.map za f).getD j.toNat []=[]:=by rw[getD_eq_getElem?_getD,getElem?_eq_none (by simpa using I)];rfl
     rcases Nat.lt_or_ge ((IntKind.i64.wrap (j-1)).toNat) f.length with L|L
     ·
      have n:=ik (l:=f) (e:=za) (d:=(ab.mk [] [])) (i:=(IntKind.i64.wrap (j-1)).toNat) L [];simp only[go_sem,simprocAttr,false_implies,and_true,true_and,eC,b,c,n];try refine⟨sL,?_⟩
      refine dC (o:=?o13) (v:=pI F) (gw:=?gw13) (by simp only[go_sem,simprocAttr,false_implies,and_true,true_and,eC,b,c,n];exact Is.mk) (by simp only[go_sem,simprocAttr,false_implies,and_true,true_and,eC,b,c,n];exact Is.mk) (by simp only[go_sem,simprocAttr,false_implies,and_true,true_and,eC,b,c,n];exact Is.mk) (by simp only[go_sem,simprocAttr,false_implies,and_true,true_and,eC,b,c,n]) ?cont13;simp only[go_sem,simprocAttr,false_implies,and_true,true_and,eC,b,c,n];first|refine C _ _ _ _ ?_ k|refine⟨sL,C _ _ _ _ ?_ k⟩
      simp only[go_sem,simprocAttr,false_implies,and_true,true_and,eC,b,c,n];try exact un
     ·
      have n:(List.map za f).getD ((IntKind.i64.wrap (j-1)).toNat) []=[]:=by rw[getD_eq_getElem?_getD,getElem?_eq_none (by simpa using L)];rfl
      simp only[go_sem,simprocAttr,false_implies,and_true,true_and,eC,b,c,n];try refine⟨sL,?_⟩
      refine dC (o:=?o14) (v:=pI F) (gw:=?gw14) (by simp only[go_sem,simprocAttr,false_implies,and_true,true_and,eC,b,c,n];exact Is.mk) (by simp only[go_sem,simprocAttr,false_implies,and_true,true_and,eC,b,c,n];exact Is.mk) (by simp only[go_sem,simprocAttr,false_implies,and_true,true_and,eC,b,c,n];exact Is.mk) (by simp only[go_sem,simprocAttr,false_implies,and_true,true_and,eC,b,c,n]) ?cont14;simp only[go_sem,simprocAttr,false_implies,and_true,true_and,eC,b,c,n];first|refine C _ _ _ _ ?_ k|refine⟨sL,C _ _ _ _ ?_ k⟩
      simp only[go_sem,simprocAttr,false_implies,and_true,true_and,eC,b,c,n];try exact un
  refine a1 _ _ (cN w (fun w=>?_) fun w=>?_)
  .refine Wp.skip (x _ _ (da fun _ a2 _=>Wp.block ?_));obtain⟨ag,w⟩:=zh w;obtain⟨an,w⟩:=zh w;obtain⟨aw,w⟩:=zh w;obtain⟨ay,w⟩:=zh w;have T:=fun h=>ik (l:=f) (e:=za) (d:=(ab.mk [] [])) (i:=(IntKind.i64.wrap (j-1)).toNat) h [];have U:=fun h=>ik (l:=f) (e:=za) (d:=(ab.mk [] [])) (i:=j.toNat) h [];refine dV (plan:=pl [(0,none),(1,none),(2,none),(3,none),(4,none),(5,none),(6,none),(7,none),(8,none),(9,none),(10,none),(11,none),(12,none),(13,none),(14,none),(15,some [2,3,4]),(16,none),(17,some [])]) (by kernel_rfl) rfl (by kernel_rfl) fun az a3=>?_;simp only[go_sem,simprocAttr,T (by omega),U (by omega)];refine kA a3 ?_;refine a2 _ _ (qR ?_);simp only[zz,zw,↓reduceIte];refine⟨(IntKind.i64.wrap (j-1),List.set (List.set f j.toNat (ab.mk ((f.getD ((IntKind.i64.wrap (j-1)).toNat) (ab.mk [] [])).u) ((f.getD ((IntKind.i64.wrap (j-1)).toNat) (ab.mk [] [])).Value))) ((IntKind.i64.wrap (j-1)).toNat) (ab.mk ((f.getD j.toNat (ab.mk [] [])).u) ((f.getD j.toNat (ab.mk [] [])).Value))),w,?_⟩;exact eS
  .refine Wp.exit ?_;simp only[zz,zw,↓reduceIte];have w:=R _ w;try dsimp only at w
   refine a0 _ _ _ _ ?_ (P f w);exact eS
 .refine Wp.exit ?_;simp only[zz,zw,↓reduceIte];have w:=O _ w;try dsimp only at w
  refine zJ ?_;cases w;exact eS
theorem Vi(c:Int)(g:List ab)(z:List ab)(w:NV c g=some z):Does prog 93 [.buf 0,pI c,.fn 23 []] [.fx 63 2 (List.map za g)] (fun r X=>r=.tup []/\X=[.fx 63 2 (List.map za z)]):=by
 unfold NV at w;refine dW 1 63 [] func93 fun B=>nA fun A=>?_;refine qS ?_;refine qS ?_;refine da fun a C N=>?_;obtain⟨O,i,w⟩:=zo w;have p:∀s,O s=some z->a [(0,.buf 0),(1,pI c),(2,.fn 23 []),(6,pI 20),(7,pI s.1)] [.fx 63 2 (List.map za s.2)]:=by
  intro s hs;have w:=i _ hs;clear hs;obtain⟨D,t⟩:=s;try dsimp only at w|-
  refine C _ _ ?_;obtain⟨j,E,w⟩:=zd w;refine sO [0] (Tb D c t _ E) ?_;refine Wp.block ?_;obtain⟨Z,F,w⟩:=ii w;refine Wp.loopN (fun s=>[(0,.buf 0),(1,pI c),(2,.fn 23 []),(6,pI s)]) (fun s=>[.fx 63 2 (List.map za j)]) ?_ w ?_
  .exact eS
  clear w;intro b T w;try dsimp only at w|-
  refine da fun _ P _=>qS ?_;refine cN w (fun w=>?_) fun w=>?_
  .refine Wp.skip (P _ _ (Wp.block (qS ?_)));refine da fun Q k G=>?_;obtain⟨R,l,w⟩:=zo w
   have m:∀s,R s=some z->Q [(0,.buf 0),(1,pI c),(2,.fn 23 []),(6,pI b),(7,pI 0)] [.fx 63 2 (List.map za j)]:=by
    intro s hs;have w:=l _ hs;clear hs;try dsimp only at w|-
    refine k _ _ (da fun _ I _=>qS ?_);refine qS ?_;refine cN w (fun w=>?_) fun w=>?_
    .cases w
    .refine Wp.skip (I _ _ (qR ?_));simp only[zz,zw,↓reduceIte];refine⟨IntKind.i64.wrap (b*2),w,?_⟩;exact eS
   clear k l;refine Wp.block ?_;obtain⟨W,u,w⟩:=ii w;refine Wp.loopN (fun s=>[(0,.buf 0),(1,pI c),(2,.fn 23 []),(6,pI b),(7,pI 0),(8,pI (IntKind.i64.wrap (2*b)))]) (fun s=>[.fx 63 2 (List.map za j)]) ?_ w ?_
   .exact eS
   clear w;intro s U w;try dsimp only at w|-
   refine da fun _ J _=>qS ?_;refine cN w (fun w=>?_) fun w=>?_
   .refine Wp.skip (J _ _ (Wp.block ?_));cases w
   .refine Wp.exit ?_;simp only[zz,zw,↓reduceIte];have w:=u _ w;try dsimp only at w
    refine G _ _ _ _ ?_ (m () w);exact eS
  .refine Wp.exit ?_;simp only[zz,zw,↓reduceIte];have w:=F _ w;try dsimp only at w
   refine zJ ?_;cases w;exact eS
 clear C i;refine Wp.block ?_;obtain⟨Y,v,w⟩:=ii w;refine Wp.loopN (fun s=>[(0,.buf 0),(1,pI c),(2,.fn 23 []),(6,pI 20),(7,pI s.1),(8,pI s.2.1)]) (fun s=>[.fx 63 2 (List.map za s.2.2)]) ?_ w ?_
 .exact eS
 clear w;intro s V w;obtain⟨n,o,f⟩:=s;try dsimp only at w|-
 refine da fun _ L _=>qS ?_;refine cN w (fun w=>?_) fun w=>?_
 .refine Wp.skip (L _ _ (Wp.block ?_));obtain⟨S,M,w⟩:=zd w;refine sO [0] (Tb n o f _ M) ?_;refine qS ?_;refine qR ?_;simp only[zz,zw,↓reduceIte];refine⟨(o,IntKind.i64.wrap (o+20),S),w,?_⟩;exact eS
 .refine Wp.exit ?_;simp only[zz,zw,↓reduceIte];have w:=v _ w;try dsimp only at w
  refine N _ _ _ _ ?_ (p (n,f) w);exact eS
theorem VC(b:List ab)(z:List ab)(w:zK b=some z):Does prog 22 [.buf 0,.fn 23 []] [.fx 63 2 (List.map za b)] (fun r X=>r=.tup []/\X=[.fx 63 2 (List.map za z)]):=by
 unfold zK at w;refine dW 1 9 [] func22 fun B=>nA fun A=>?_;obtain⟨f,c,w⟩:=zd w;refine eO [0] (Vi (b.length:Int) b _ c) ?_;refine zJ ?_;cases w;exact eS
theorem R8(b:ab)(c:ab)(z:Bool)(w:HE b c=some z):Does prog 26 [.agg [pS b.u,pS b.Value],.agg [pS c.u,pS c.Value]] [] (fun r X=>r=pB z/\X=[]):=by
 unfold HE at w;refine dW 0 10 [.tmp 4] func26 fun B=>nA fun A=>?_;refine qS ?_;exact wQ
theorem VD(b:List ab)(z:Nat×Nat×List ab)(w:zM b=some z):Does prog 25 [.buf 0,.fn 26 []] [.fx 63 2 (List.map za b)] (fun r X=>r=.vw 0 2 z.1 z.2.1/\X=[.fx 63 2 (List.map za z.2.2)]):=by
 unfold zM at w;refine dW 1 66 [.tmp 4] func25 fun B=>nA fun A=>?_;refine dJ 0 0 (by simp only[go_sem,simprocAttr];exact Is.mk) (by simp only[go_sem,simprocAttr];exact Is.mk) ?_;simp only[go_sem,simprocAttr];refine qS ?_;refine da fun _ q _=>qS ?_;refine cR w fun w=>?_;refine Wp.skip (q _ _ (da fun a4 S x=>?_));obtain⟨y,E,w⟩:=zo w;have M:∀s,y s=some z->a4 [(0,.vw 0 2 0 b.length)] [.fx 63 2 (List.map za b)]:=by
  intro s hs;have w:=E _ hs;clear hs;try dsimp only at w|-
  exact S _ _ (wQ)
 clear S E;refine qS ?_;refine Wp.block ?_;obtain⟨ag,N,w⟩:=ii w;refine Wp.loopN (fun s=>[(0,.vw 0 2 0 b.length),(1,.fn 26 []),(5,pI s)]) (fun s=>[.fx 63 2 (List.map za b)]) ?_ w ?_
 .exact eS
 clear w;intro c ac w;try dsimp only at w|-
 refine da fun _ a5 _=>qS ?_;refine cN w (fun w=>?_) fun w=>?_
 .refine Wp.skip (a5 _ _ (da fun H F U=>?_));obtain⟨V,C,w⟩:=zo w
  have G:∀s,V s=some z->H [(0,.vw 0 2 0 b.length),(1,.fn 26 []),(5,pI c)] [.fx 63 2 (List.map za b)]:=by
   intro s hs;have w:=C _ hs;clear hs;try dsimp only at w|-
   refine F _ _ (qR ?_);simp only[zz,zw,↓reduceIte];refine⟨IntKind.i64.wrap (c+1),w,?_⟩;exact eS
  clear F C;refine Wp.block ?_;obtain⟨an,w⟩:=zh w;obtain⟨aw,w⟩:=zh w;obtain⟨ay,O,w⟩:=zd w;have k:=fun h=>ik (l:=b) (e:=za) (d:=(ab.mk [] [])) (i:=(c.toNat:Nat)) h [];have n:=fun h=>ik (l:=b) (e:=za) (d:=(ab.mk [] [])) (i:=((IntKind.i64.wrap (c-1)).toNat:Nat)) h [];refine dl (plan:=pl [(0,none),(1,none),(2,none),(3,none),(4,none),(5,none),(6,none),(7,none),(8,none),(9,none),(10,none)]) (by kernel_rfl) rfl (by kernel_rfl) fun aN W=>?_;simp only[go_sem,simprocAttr,k (by omega),n (by omega)];try refine⟨sL,?_⟩
  refine Dr.callF (av:=?av15) (g:=true) (o:=?o15) (fun K=>R8 (ab.mk ((b.getD (c.toNat:Nat) (ab.mk [] [])).u) ((b.getD (c.toNat:Nat) (ab.mk [] [])).Value)) (ab.mk ((b.getD ((IntKind.i64.wrap (c-1)).toNat:Nat) (ab.mk [] [])).u) ((b.getD ((IntKind.i64.wrap (c-1)).toNat:Nat) (ab.mk [] [])).Value)) _ O) (by simp only[go_sem,simprocAttr,k (by omega),n (by omega)];exact Is.mk) (by simp only[go_sem,simprocAttr,k (by omega),n (by omega)];exact Is.mk) (by simp only[go_sem,simprocAttr,k (by omega),n (by omega)];exact Is.mk) (by simp only[go_sem,simprocAttr,k (by omega),n (by omega)];exact Is.mk) (by simp only[go_sem,simprocAttr,k (by omega),n (by omega)]) (by simp only[go_sem,simprocAttr,k (by omega),n (by omega)];exact Is.mk) ?cont15;simp only[go_sem,simprocAttr,k (by omega),n (by omega)];refine kA W ?_;refine cN w (fun w=>?_) fun w=>?_
  .obtain⟨az,w⟩:=zh w;refine q6 ?_;refine da fun a9 I Y=>?_;obtain⟨Z,D,w⟩:=zo w
   have J:∀s,Z s=some z->a9 [(0,.vw 0 2 0 b.length),(5,pI s.1)] [.fx 63 2 (List.map za s.2)]:=by
    intro s hs;have w:=D _ hs;clear hs;obtain⟨aA,ad⟩:=s;try dsimp only at w|-
    refine I _ _ ?_;obtain⟨aB,w⟩:=zh w;refine db fun aO a0=>?_;simp only[go_sem,simprocAttr];try refine⟨sL,?_⟩
    refine Rg.clear (i:=?i20) (sz:=?sz20) (a:=?a20) (m:=?m20) (T:=?T20) (rows:=?rows20) (e:=?e20) (eb:=?eb20) (ez:=?ez20) (z:=?z20) (fx:=?fx20) Is.mk Is.mk Is.mk Is.mk Is.mk sg sg si si si si sg sg sg ?cont20;simp only[go_sem,simprocAttr];refine kA a0 ?_;obtain⟨aC,w⟩:=zh w;exact wQ
   clear I D;refine qS ?_;refine Wp.block ?_;obtain⟨aD,P,w⟩:=ii w;refine Wp.loopN (fun s=>[(0,.vw 0 2 0 b.length),(1,.fn 26 []),(5,pI s.1),(6,.vw 0 2 c.toNat (b.length-c.toNat)),(7,pI s.2.1)]) (fun s=>[.fx 63 2 (List.map za s.2.2)]) ?_ w ?_
   .exact eS
   clear w;intro s af w;obtain⟨v,j,f⟩:=s;try dsimp only at w|-
   refine da fun _ a1 _=>qS ?_;refine cN w (fun w=>?_) fun w=>?_
   .refine Wp.skip (a1 _ _ (da fun _ L _=>Wp.block ?_));obtain⟨aE,w⟩:=zh w;obtain⟨aF,w⟩:=zh w;obtain⟨aG,w⟩:=zh w;obtain⟨aH,w⟩:=zh w;obtain⟨aI,Q,w⟩:=zd w;have p:=fun h=>ik (l:=f) (e:=za) (d:=(ab.mk [] [])) (i:=(c.toNat+j.toNat:Nat)) h [];have t:=fun h=>ik (l:=f) (e:=za) (d:=(ab.mk [] [])) (i:=(c.toNat+((IntKind.i64.wrap (j-1)).toNat):Nat)) h [];refine dl (plan:=pl [(0,none),(1,none),(2,none),(3,none),(4,none),(5,none),(6,none),(7,none),(8,none),(9,none),(10,none),(11,none)]) (by kernel_rfl) rfl (by kernel_rfl) fun aP a2=>?_;simp only[go_sem,simprocAttr,p (by omega),t (by omega)];try refine⟨sL,?_⟩
    refine Dr.callF (av:=?av28) (g:=true) (o:=?o28) (fun K=>R8 (ab.mk ((f.getD (c.toNat+j.toNat:Nat) (ab.mk [] [])).u) ((f.getD (c.toNat+j.toNat:Nat) (ab.mk [] [])).Value)) (ab.mk ((f.getD (c.toNat+((IntKind.i64.wrap (j-1)).toNat):Nat) (ab.mk [] [])).u) ((f.getD (c.toNat+((IntKind.i64.wrap (j-1)).toNat):Nat) (ab.mk [] [])).Value)) _ Q) (by simp only[go_sem,simprocAttr,p (by omega),t (by omega)];exact Is.mk) (by simp only[go_sem,simprocAttr,p (by omega),t (by omega)];exact Is.mk) (by simp only[go_sem,simprocAttr,p (by omega),t (by omega)];exact Is.mk) (by simp only[go_sem,simprocAttr,p (by omega),t (by omega)];exact Is.mk) (by simp only[go_sem,simprocAttr,p (by omega),t (by omega)]) (by simp only[go_sem,simprocAttr,p (by omega),t (by omega)];exact Is.mk) ?cont28;simp only[go_sem,simprocAttr,p (by omega),t (by omega)];refine kA a2 ?_;refine cN w (fun w=>?_) fun w=>?_
    .obtain⟨aJ,w⟩:=zh w;obtain⟨aK,w⟩:=zh w;obtain⟨aL,w⟩:=zh w;obtain⟨aM,w⟩:=zh w;have R:=fun h=>ik (l:=f) (e:=za) (d:=(ab.mk [] [])) (i:=(c.toNat+j.toNat:Nat)) h [];refine db fun aQ a3=>?_;simp only[go_sem,simprocAttr,R (by omega)];refine kA a3 ?_;refine qR ?_;refine L _ _ (qR ?_);simp only[zz,zw,↓reduceIte];refine⟨(IntKind.i64.wrap (v+1),IntKind.i64.wrap (j+1),List.set f (v.toNat:Nat) (ab.mk ((f.getD (c.toNat+j.toNat:Nat) (ab.mk [] [])).u) ((f.getD (c.toNat+j.toNat:Nat) (ab.mk [] [])).Value))),w,?_⟩;exact eS
    .refine Wp.skip (L _ _ (qR ?_));simp only[zz,zw,↓reduceIte];refine⟨(v,IntKind.i64.wrap (j+1),f),w,?_⟩;exact eS
   .refine Wp.exit ?_;simp only[zz,zw,↓reduceIte];have w:=P _ w;try dsimp only at w
    refine Y _ _ _ _ ?_ (J (v,f) w);exact eS
  .refine Wp.skip (U _ _ _ _ ?_ (G () w));exact eS
 .refine Wp.exit ?_;simp only[zz,zw,↓reduceIte];have w:=N _ w;try dsimp only at w
  refine x _ _ _ _ ?_ (M () w);exact eS
theorem jk(b:Bool)(c:Int)(z:Int)(w:ic b c=some z):Does prog 39 [pB b,pI c] [] (fun r X=>r=pI z/\X=[]):=by
 unfold ic at w;refine dW 0 7 [.tmp 4] func39 fun B=>nA fun A=>?_;refine qS ?_;refine da fun _ f _=>qS ?_;refine cR w fun w=>?_;exact Wp.skip (f _ _ (wQ))
theorem NF(f:Int)(c:ev)(b:ev)(z:Int×ev)(w:BP f c b=some z):Does prog 113 [pI f,pS c,.ptr 0 0] [.cells 9 [pS b]] (fun r X=>r=pI z.1/\X=[.cells 9 [pS z.2]]):=by
 unfold BP at w;refine dW 1 17 [.tmp 5] func113 fun B=>nA fun A=>?_;refine qS ?_;refine qS ?_;refine qS ?_;obtain⟨i,g,w⟩:=zd w;refine sX (fun a=>jk ((decide (0<f))&&(sy c b||decide (c=b))) 7 _ g) ?_;exact wR
theorem qP(b:List Int)(z:Int)(w:ig b=some z):Does prog 38 [lm zA b] [] (fun r X=>r=pI z/\X=[]):=by
 unfold ig at w;refine dW 0 15 [.tmp 2] func38 fun B=>nA fun A=>?_;refine qS ?_;refine da fun a j n=>?_;obtain⟨o,c,w⟩:=zo w;have g:∀s,o s=some z->a [] []:=by
  intro s hs;have w:=c _ hs;clear hs;try dsimp only at w|-
  exact j _ _ (wQ)
 clear j c;refine qS ?_;refine Wp.block ?_;obtain⟨D,k,w⟩:=zq w;refine fL 5 b.length fun l=>?_;refine Wp.forL (fun f s=>[(5,lm zA b),(6,pI (b.length:Int)),(7,pI (f:Int))]) (fun f s=>[]) wF w ?_;clear w;intro f s t w;try dsimp only at w|-
 refine qS ?_;refine lB zA w l (fun h=>n _ _ _ _ wF (g () (k _ h))) fun m E F C u v i w A _ p=>?_;refine q6 ?_;refine q6 ?_;refine cR w fun w=>?_;refine Wp.skip (p _ _ (r6 ?_));exact wN () m (i _ w)
theorem Ta(b:ev)(c:Int)(z:Int)(w:GQ b c=some z):Does prog 145 [pS b,.p (.i .u8 c)] [] (fun r X=>r=pI z/\X=[]):=by
 unfold GQ at w;refine dW 0 8 [.tmp 4] func145 fun B=>nA fun A=>?_;refine qS ?_;have j:=kf b c;refine db fun a f=>?_;simp only[go_sem,simprocAttr];try refine⟨sd,?_⟩
 refine dB (av:=?av3) (g:=true) (fun d=>Eg b c) si si si sg si ?cont3;intro k;simp only[go_sem,simprocAttr];refine kA f ?_;exact wR
theorem S9(f:ev)(b:ev)(z:Int)(w:GP f b=some z):Does prog 110 [pS f,pS b] [] (fun r X=>r=pI z/\X=[]):=by
 unfold GP at w;refine dW 0 143 [.tmp 4] func110 fun B=>nA fun A=>?_;refine qS ?_;refine qS ?_;refine da fun _ _ _=>Wp.block (qS ?_);refine cR w fun w=>?_;refine qS ?_;refine cN w (fun w=>?_) fun w=>?_
 .obtain⟨g,j,c,w⟩:=mK w;replace c:((b.getD 0 0).toNat:Int)=g:=c;obtain⟨k,i,w⟩:=zd w;have A:=c;refine sX (fun a=>Ta f g _ i) ?_;exact wR
 .refine qS ?_;refine cR w fun w=>?_;cases w
theorem NN(c:ev)(b:ev)(z:Int)(w:BZ c b=some z):Does prog 50 [pS c,pS b] [] (fun r X=>r=pI z/\X=[]):=by
 unfold BZ at w;refine dW 0 8 [.tmp 4] func50 fun B=>nA fun A=>?_;refine qS ?_;obtain⟨g,f,w⟩:=zd w;refine sX (fun a=>S9 c b _ f) ?_;exact wR
theorem Ui(f:ev)(b:ev)(z:Int)(w:Iu f b=some z):Does prog 48 [pS f,pS b] [] (fun r X=>r=pI z/\X=[]):=by
 unfold Iu at w;refine dW 0 34 [.tmp 4] func48 fun B=>nA fun A=>?_;refine qS ?_;refine da fun _ m _=>qS ?_;refine cN w (fun w=>?_) fun w=>?_
 .cases w
 .refine Wp.skip (m _ _ (da fun _ n _=>qS ?_));refine cN w (fun w=>?_) fun w=>?_
  .obtain⟨i,u,c,w⟩:=mK w;replace c:((b.getD 0 0).toNat:Int)=i:=c;have v:=Rn f i;have A:=c;refine db fun d o=>?_;simp only[go_sem,simprocAttr,A];try refine⟨sd,?_⟩
   refine dB (av:=?av9) (g:=true) (fun a=>Ei f i) (by simp only[go_sem,simprocAttr,A];exact Is.mk) (by simp only[go_sem,simprocAttr,A];exact Is.mk) (by simp only[go_sem,simprocAttr,A];exact Is.mk) (by simp only[go_sem,simprocAttr,A]) (by simp only[go_sem,simprocAttr,A];exact Is.mk) ?cont9;intro F;simp only[go_sem,simprocAttr,A];refine kA o ?_;exact wR
  .refine Wp.skip (n _ _ (qS ?_));refine Wp.block ?_;obtain⟨G,C,w⟩:=ii w;refine Wp.loopN (fun s=>[(0,pS s.1),(1,pS b),(4,pI 0),(5,pI s.2)]) (fun s=>[]) ?_ w ?_
   .exact eS
   clear w;intro s D w;obtain⟨j,p⟩:=s;try dsimp only at w|-
   refine Wp.block ?_;obtain⟨t,k,w⟩:=zd w;refine sX (fun a=>NN j b _ k) ?_;refine da fun _ l _=>qS ?_;refine cR w fun w=>?_;refine Wp.skip (l _ _ (qS ?_));obtain⟨E,w⟩:=zh w;refine r6 ?_;simp only[zz,zw,↓reduceIte];refine⟨(List.drop ((IntKind.i64.wrap (t+(b.length:Int))).toNat) j,IntKind.i64.wrap (p+1)),w,?_⟩;exact eS
theorem Qb(g:ev)(c:ev)(b:Int)(n:Int)(z:List ev)(w:uT g c b n=some z):Does prog 112 [pS g,pS c,pI b,pI n] [] (fun r X=>r=lm ex z/\X=[]):=by
 unfold uT at w;refine dW 0 66 [.tmp 8] func112 fun B=>nA fun A=>?_;refine qS ?_;refine da fun _ M _=>qS ?_;refine cN w (fun w=>?_) fun w=>?_
 .refine qS ?_;refine Wp.ret ?_;simp only[zz,zw];refine z2 ?_;cases w;exact eS
 .refine Wp.skip (M _ _ (da fun _ N _=>qS ?_));refine cN w (fun w=>?_) fun w=>?_
  .cases w
  .refine Wp.skip (N _ _ (da fun a C D=>?_));obtain⟨O,o,w⟩:=zo w
   have k:∀s,O s=some z->a [(0,pS g),(1,pS c),(2,pI b),(3,pI s)] []:=by
    intro F hs;have w:=o _ hs;clear hs;try dsimp only at w|-
    refine C _ _ (qS ?_);obtain⟨T,w⟩:=zh w;refine q6 ?_;refine qS ?_;refine qS ?_;refine da fun P p t=>?_;obtain⟨Q,u,w⟩:=zo w;have i:∀s,Q s=some z->P [(0,pS s.1),(9,.buf 0),(10,pI s.2.1)] [.buf 9 1 (List.map ex s.2.2)]:=by
     intro s hs;have w:=u _ hs;clear hs;obtain⟨U,V,R⟩:=s;try dsimp only at w|-
     refine p _ _ ?_;obtain⟨W,w⟩:=zh w;refine q6 ?_;refine Wp.freeze 0 (by simp only[go_sem,simprocAttr];exact Is.mk) (by first|(simp only[go_sem,simprocAttr];done)|(simp only[go_sem,simprocAttr];omega)) ?_;simp only[go_sem,simprocAttr];obtain⟨Y,w⟩:=zh w;exact wQ
    clear p u;refine Wp.block ?_;obtain⟨Z,l,w⟩:=ii w;refine Wp.loopN (fun s=>[(0,pS s.1),(1,pS c),(2,pI b),(3,pI (IntKind.i64.wrap ((min F (IntKind.i64.wrap ((g.length:Int)+1)))-1))),(9,.buf 0),(10,pI s.2.1)]) (fun s=>[.buf 9 1 (List.map ex s.2.2)]) ?_ w ?_
    .exact eS
    clear w;intro s S w;obtain⟨j,m,f⟩:=s;try dsimp only at w|-
    refine da fun _ G _=>qS ?_;refine cN w (fun w=>?_) fun w=>?_
    .refine Wp.skip (G _ _ (Wp.block ?_));obtain⟨E,I,w⟩:=zd w;refine sX (fun d=>NN j c _ I) ?_;refine da fun _ J _=>qS ?_;refine cN w (fun w=>?_) fun w=>?_
     .refine Wp.exit ?_;simp only[zz,zw,↓reduceIte];have w:=l _ w;try dsimp only at w
      refine t _ _ _ _ ?_ (i (j,m,f) w);exact eS
     .refine Wp.skip (J _ _ ?_);obtain⟨e,w⟩:=zh w;obtain⟨h,w⟩:=zh w;refine q6 ?_;obtain⟨q,w⟩:=zh w;refine q6 ?_;refine qR ?_;simp only[zz,zw,↓reduceIte];refine⟨(List.drop ((IntKind.i64.wrap (E+(c.length:Int))).toNat) j,IntKind.i64.wrap (m+1),List.set f m.toNat (List.take ((IntKind.i64.wrap (E+b)).toNat) j)),w,?_⟩;exact eS
    .refine Wp.exit ?_;simp only[zz,zw,↓reduceIte];have w:=l _ w;try dsimp only at w
     refine t _ _ _ _ ?_ (i (j,m,f) w);exact eS
   clear C o;refine qS ?_;refine cN w (fun w=>?_) fun w=>?_
   .obtain⟨L,v,w⟩:=zd w;refine eX (fun d=>Ui g c _ v) ?_;refine D _ _ _ _ ?_ (k (IntKind.i64.wrap (L+1)) w);exact eS
   .refine Wp.skip (D _ _ _ _ ?_ (k n w));exact eS
theorem PZ(c:ev)(b:ev)(z:List ev)(w:C5 c b=some z):Does prog 102 [pS c,pS b] [] (fun r X=>r=lm ex z/\X=[]):=by
 unfold C5 at w;refine dW 0 8 [.tmp 4] func102 fun B=>nA fun A=>?_;refine qS ?_;obtain⟨g,f,w⟩:=zd w;refine sF (Qb c b 0 (-1) _ f) ?_;exact wR
theorem nz(b:ev)(z:Bool)(w:Hm b=some z):Does prog 103 [pS b] [] (fun r X=>r=pB z/\X=[]):=by
 unfold Hm at w;refine dW 0 63 [.tmp 2] func103 fun B=>nA fun A=>?_;refine qS ?_;refine da fun a j n=>?_;obtain⟨o,c,w⟩:=zo w;have g:∀s,o s=some z->a [(0,pS b)] []:=by
  intro s hs;have w:=c _ hs;clear hs;try dsimp only at w|-
  exact j _ _ (wQ)
 clear j c;refine qS ?_;refine Wp.block ?_;obtain⟨C,k,w⟩:=zq w;refine fL 0 b.length fun l=>?_;refine Wp.forL (fun f s=>[(0,pS b),(6,pI (b.length:Int)),(7,pI (f:Int))]) (fun f s=>[]) wF w ?_;clear w;intro f s t w;try dsimp only at w|-
 refine qS ?_;refine lS w l (fun h=>n _ _ _ _ wF (g () (k _ h))) fun m D E v u i w A _ p=>?_;refine q6 ?_;refine q6 ?_;refine q6 ?_;refine cR w fun w=>?_;refine Wp.skip (p _ _ (r6 ?_));exact wN () m (i _ w)
theorem C3(b:ev)(z:Bool)(w:uJ b=some z):Does prog 37 [pS b] [] (fun r X=>r=pB z/\X=[]):=by
 unfold uJ at w;refine dW 0 19 [.tmp 2] func37 fun B=>nA fun A=>?_;refine qS ?_;refine da fun a k t=>?_;obtain⟨u,c,w⟩:=zo w;have i:∀s,u s=some z->a [(0,pS b)] []:=by
  intro s hs;have w:=c _ hs;clear hs;try dsimp only at w|-
  exact k _ _ (wQ)
 clear k c;obtain⟨f,l,w⟩:=zd w;refine sF (PZ b ([47]:ev) _ l) ?_;refine Wp.block ?_;obtain⟨I,m,w⟩:=zq w;refine fL 6 f.length fun n=>?_;refine Wp.forL (fun g s=>[(0,pS b),(6,lm ex f),(7,pI (f.length:Int)),(8,pI (g:Int))]) (fun g s=>[]) wF w ?_;clear w;intro g s D w;try dsimp only at w|-
 refine qS ?_;refine lB ex w n (fun h=>t _ _ _ _ wF (i () (m _ h))) fun o J v G E F j w A _ C=>?_;refine q6 ?_;obtain⟨L,p,w⟩:=zd w;refine sX (fun d=>nz v _ p) ?_;refine cR w fun w=>?_;refine Wp.skip (C _ _ (r6 ?_));exact wN () o (j _ w)
theorem SI(b:ae)(z:Int)(w:Gn b=some z):Does prog 114 [.agg [pS b.a,pS b.G,pB b.H]] [] (fun r X=>r=pI z/\X=[]):=by
 unfold Gn at w;refine dW 0 15 [.tmp 2] func114 fun B=>nA fun A=>?_;refine qS ?_;obtain⟨j,c,w⟩:=zd w;obtain⟨k,f,w⟩:=zd w;obtain⟨l,g,w⟩:=zd w;obtain⟨n,i,w⟩:=zd w;refine dS (pl [(0,none),(1,none),(2,none),(3,none),(4,none),(5,none),(6,none),(7,none),(8,none),(9,none),(10,some []),(11,none),(12,none)]) fun _ m=>?_;refine cD (fun d=>C3 b.a _ c) ?_;refine cD (fun d=>jk (!j) 5 _ f) ?_;refine cD (fun d=>jk (decide (65536<(b.G.length:Int))) 4 _ g) ?_;refine cD (fun d=>qP [k,l] _ i) (m _ _ ?_);exact wR
theorem SV(b:ab)(z:Int)(w:GD b=some z):Does prog 115 [.agg [pS b.u,pS b.Value]] [] (fun r X=>r=pI z/\X=[]):=by
 unfold GD at w;refine dW 0 15 [.tmp 2] func115 fun B=>nA fun A=>?_;refine qS ?_;obtain⟨k,c,w⟩:=zd w;obtain⟨l,f,w⟩:=zd w;obtain⟨m,g,w⟩:=zd w;obtain⟨n,i,w⟩:=zd w;obtain⟨p,j,w⟩:=zd w;refine dS (pl [(0,none),(1,none),(2,none),(3,none),(4,none),(5,none),(6,none),(7,none),(8,none),(9,none),(10,some []),(11,none),(12,none)]) fun _ o=>?_;refine cD (fun a=>C3 b.u _ c) ?_;refine cD (fun a=>jk (!k) 5 _ f) ?_;refine cD (fun a=>PP b.Value _ g) ?_;refine cD (fun a=>jk (!m) 2 _ i) ?_;refine cD (fun a=>qP [l,n] _ j) (o _ _ ?_);exact wR
theorem SU(b:ah)(z:Int)(w:GC b=some z):Does prog 116 [.agg [pS b.C,pS b.a,pB b.I,pB b.J]] [] (fun r X=>r=pI z/\X=[]):=by
 unfold GC at w;refine dW 0 14 [.tmp 2] func116 fun B=>nA fun A=>?_;refine qS ?_;obtain⟨c,f,w⟩:=zd w;obtain⟨k,i,w⟩:=zx w;obtain⟨m,j,w⟩:=zd w;refine rS fun _ l=>?_;refine cX (fun d=>yc b.C _ f) ?_;refine cX (g:=!(!c)) (fun d=>C3 b.a _ (i d)) ?_;refine cX (fun d=>jk ((!c)||(!k)) 5 _ j) (l _ _ ?_);exact wR
end Go.Proofs.YtpcihjdidhpbbaaGreatDoor
