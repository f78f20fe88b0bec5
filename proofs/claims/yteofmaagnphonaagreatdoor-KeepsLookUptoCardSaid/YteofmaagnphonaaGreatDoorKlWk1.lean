/- That the code does what the models say (part 1). -/
import Derived.Test.YteofmaagnphonaaGreatDoorKlWk0
set_option linter.unusedSimpArgs false
set_option linter.unusedVariables false
open Go.Proofs Go.Shelf
open List
namespace Go.Proofs.YteofmaagnphonaaGreatDoor
open Tryz
open Go.Vc Go.Md
set_option maxRecDepth 100000
set_option maxHeartbeats 4000000
theorem W7(b:Int)(z:Bool)(w:AY b=some z):Does prog 55 [.p (.i .u8 b)] [] (fun r X=>r=pB z/\X=[]):=by
 unfold AY at w;refine dW 0 9 [.tmp 2] func55 fun B=>nA fun A=>?_;refine qS ?_;exact wQ
theorem ZA(b:Int)(z:Bool)(w:LA b=some z):Does prog 56 [.p (.i .u8 b)] [] (fun r X=>r=pB z/\X=[]):=by
 unfold LA at w;refine dW 0 9 [.tmp 2] func56 fun B=>nA fun A=>?_;refine qS ?_;exact wQ
theorem zmx(b:Int)(z:Bool)(w:Nq b=some z):Does prog 54 [.p (.i .u8 b)] [] (fun r X=>r=pB z/\X=[]):=by
 unfold Nq at w;refine dW 0 17 [.tmp 2] func54 fun B=>nA fun A=>?_;refine qS ?_;obtain⟨j,c,w⟩:=ze w;obtain⟨l,f,w⟩:=zs w;refine rS fun _ k=>?_;refine cX (fun a=>W7 b _ c) ?_;refine cX (g:=!j) (fun a=>ZA b _ (f a)) (k _ _ ?_);exact wR
theorem znF(c:eo)(b:Int)(z:Bool)(w:UH c b=some z):Does prog 53 [pS c,pI b,.fn 54 []] [] (fun r X=>r=pB z/\X=[]):=by
 unfold UH at w;refine dW 0 28 [.tmp 6] func53 fun B=>nA fun A=>?_;refine qS ?_;refine dc fun a o v=>?_;obtain⟨C,g,w⟩:=zp w;have k:∀s,C s=some z->a [(0,pS c),(1,pI b)] []:=by
  intro s hs;have w:=g _ hs;clear hs;try dsimp only at w|-
  exact o _ _ (wQ)
 clear o g;refine qS ?_;refine Wp.block ?_;obtain⟨L,p,w⟩:=zq w;refine fL 0 c.length fun t=>?_;refine Wp.forL (fun i s=>[(0,pS c),(1,pI b),(2,.fn 54 []),(7,pI (i:Int))]) (fun i s=>[]) wF w ?_;clear w;intro i s I w;try dsimp only at w|-
 refine dc fun _ D _=>qS ?_;refine Wp.cond rfl ⟨⟩ (fun j=>?_) fun j=>Wp.exit (v _ _ _ _ wF (k () (p _ (jd w (ss j)))));have f:=jz j;have E:=iz f t;obtain⟨F,J,l,m,n,w⟩:=jh w f;clear l;refine Wp.skip ?_;simp only[zF];refine D _ _ (dc fun _ G _=>Wp.block ?_);obtain⟨M,u,w⟩:=ze w;have A:=And.intro E m;refine sX (fun d=>zmx (F.toNat:Int) _ u) ?_;refine cR w fun w=>?_;refine Wp.skip (G _ _ (r6 ?_));exact wN () f (n _ w)
theorem O2(b:eo)(z:Bool)(w:xI b=some z):Does prog 17 [pS b] [] (fun r X=>r=pB z/\X=[]):=by
 unfold xI at w;refine dW 0 10 [.tmp 2] func17 fun B=>nA fun A=>?_;refine qS ?_;obtain⟨i,c,w⟩:=ze w;obtain⟨k,w⟩:=zi w;obtain⟨l,f,w⟩:=zs w;refine rS fun _ j=>?_;refine cX (fun a=>znF b 40 _ c) ?_;refine cX (g:=i) (fun a=>W7 ((b.getD 0 0).toNat:Int) _ (f a)) (j _ _ ?_);exact wR
theorem zo1(z:Bool)(w:Uy=some z):Does prog 4 [] [] (fun r X=>r=pB z/\X=[]):=by
 unfold Uy at w;refine dW 0 2 [.tmp 0] func4 fun B=>nA fun A=>?_;refine qS ?_;obtain⟨c,b,w⟩:=ze w;refine sX (fun a=>O2 ([97]:eo) _ b) ?_;exact wR
theorem xh(b:eo)(z:Bool)(w:qh b=some z):Does prog 23 [pS b] [] (fun r X=>r=pB z/\X=[]):=by
 unfold qh at w;refine dW 0 54 [.tmp 2] func23 fun B=>nA fun A=>?_;refine qS ?_;refine dc fun a j n=>?_;obtain⟨o,c,w⟩:=zp w;have g:∀s,o s=some z->a [(0,pS b)] []:=by
  intro s hs;have w:=c _ hs;clear hs;try dsimp only at w|-
  exact j _ _ (wQ)
 clear j c;refine qS ?_;refine Wp.block ?_;obtain⟨C,k,w⟩:=zq w;refine fL 0 b.length fun l=>?_;refine Wp.forL (fun f s=>[(0,pS b),(7,pI (b.length:Int)),(8,pI (f:Int))]) (fun f s=>[]) wF w ?_;clear w;intro f s t w;try dsimp only at w|-
 refine qS ?_;refine lS w l (fun h=>n _ _ _ _ wF (g () (k _ h))) fun m D E v u i w A _ p=>?_;refine q6 ?_;refine q6 ?_;refine q6 ?_;refine q6 ?_;refine cR w fun w=>?_;refine Wp.skip (p _ _ (r6 ?_));exact wN () m (i _ w)
theorem WY(b:eo)(z:Bool)(w:B2 b=some z):Does prog 24 [pS b] [] (fun r X=>r=pB z/\X=[]):=by
 unfold B2 at w;refine dW 0 23 [.tmp 2] func24 fun B=>nA fun A=>?_;refine qS ?_;refine dc fun a j n=>?_;obtain⟨o,c,w⟩:=zp w;have g:∀s,o s=some z->a [(0,pS b)] []:=by
  intro s hs;have w:=c _ hs;clear hs;try dsimp only at w|-
  exact j _ _ (wQ)
 clear j c;refine qS ?_;refine Wp.block ?_;obtain⟨C,k,w⟩:=zq w;refine fL 0 b.length fun l=>?_;refine Wp.forL (fun f s=>[(0,pS b),(5,pI (b.length:Int)),(6,pI (f:Int))]) (fun f s=>[]) wF w ?_;clear w;intro f s t w;try dsimp only at w|-
 refine qS ?_;refine lS w l (fun h=>n _ _ _ _ wF (g () (k _ h))) fun m D E v u i w A _ p=>?_;refine q6 ?_;refine q6 ?_;refine cR w fun w=>?_;refine Wp.skip (p _ _ (r6 ?_));exact wN () m (i _ w)
theorem zeB(b:eo)(c:eo)(z:Int)(w:Pw b c=some z):Does prog 86 [pS b,pS c] [] (fun r X=>r=pI z/\X=[]):=by
 unfold Pw at w;refine dW 0 8 [.tmp 4] func86 fun B=>nA fun A=>?_;refine qS ?_;have i:=lU b c;refine dd fun a f=>?_;simp only[go_sem,simprocAttr];try refine⟨sd,?_⟩
 refine dB (av:=?av3) (g:=true) (fun d=>Hr b c) si si si sg si ?cont3;intro j;simp only[go_sem,simprocAttr];refine kA f ?_;exact wR
theorem Pq(b:eo)(c:eo)(z:Int)(w:tY b c=some z):Does prog 27 [pS b,pS c] [] (fun r X=>r=pI z/\X=[]):=by
 unfold tY at w;refine dW 0 8 [.tmp 4] func27 fun B=>nA fun A=>?_;refine qS ?_;obtain⟨g,f,w⟩:=ze w;refine sX (fun a=>zeB b c _ f) ?_;exact wR
theorem li(b:ab)(c:ab)(z:Int)(w:Ul b c=some z):Does prog 26 [.agg [pS b.r,pS b.Value],.agg [pS c.r,pS c.Value]] [] (fun r X=>r=pI z/\X=[]):=by
 unfold Ul at w;refine dW 0 10 [.tmp 4] func26 fun B=>nA fun A=>?_;refine qS ?_;obtain⟨g,f,w⟩:=ze w;refine sX (fun a=>Pq b.r c.r _ f) ?_;exact wR
theorem Z7(C:Int)(D:Int)(L:List ab)(z:List ab)(w:zx C D L=some z):Does prog 127 [.buf 0,pI C,pI D,.fn 26 []] [.fx 70 2 (List.map za L)] (fun r X=>r=.tup []/\X=[.fx 70 2 (List.map za z)]):=by
 unfold zx at w;refine dW 1 53 [] func127 fun B=>nA fun A=>?_;refine qS ?_;refine Wp.block ?_;obtain⟨ac,N,w⟩:=jj w;refine Wp.loopN (fun s=>[(0,.buf 0),(1,pI C),(2,pI D),(3,.fn 26 []),(8,pI s.1)]) (fun s=>[.fx 70 2 (List.map za s.2)]) ?_ w ?_
 .exact eP
 clear w;intro s a7 w;obtain⟨F,a8⟩:=s;try dsimp only at w|-
 refine dc fun _ a _=>qS ?_;refine cN w (fun w=>?_) fun w=>?_
 .refine Wp.skip (a _ _ (dc fun q U a0=>?_));obtain⟨V,M,w⟩:=zp w
  have O:∀s,V s=some z->q [(0,.buf 0),(1,pI C),(2,pI D),(3,.fn 26 []),(8,pI F)] [.fx 70 2 (List.map za s)]:=by
   intro P hs;have w:=M _ hs;clear hs;try dsimp only at w|-
   refine U _ _ (qR ?_);simp only[zF,zB,↓reduceIte];refine⟨(IntKind.i64.wrap (F+1),P),w,?_⟩;exact eP
  clear U M;refine Wp.block (qS ?_);refine Wp.block ?_;obtain⟨ad,Q,w⟩:=jj w;refine Wp.loopN (fun s=>[(0,.buf 0),(1,pI C),(2,pI D),(3,.fn 26 []),(8,pI F),(9,pI s.1)]) (fun s=>[.fx 70 2 (List.map za s.2)]) ?_ w ?_
  .exact eP
  clear w;intro s a9 w;obtain⟨j,f⟩:=s;try dsimp only at w|-
  refine dc fun _ x _=>?_;obtain⟨W,w⟩:=zi w;obtain⟨Y,w⟩:=zi w;obtain⟨E,R,w⟩:=zs w;refine dP (plan:=pl [(0,none),(1,none),(2,none),(3,none),(4,none),(5,none),(6,none),(7,none),(8,none),(9,none),(10,none),(11,none),(12,none),(13,none),(14,none),(15,none),(16,none)]) (by kernel_rfl) rfl (by kernel_rfl) fun y a3 u=>?_;suffices k:y [(0,.buf 0),(1,pI C),(2,pI D),(3,.fn 26 []),(8,pI F),(9,pI j),(34,pB ((decide (C<j))&&(decide (E<0))))] [.fx 70 2 (List.map za f)]by
   rcases Bool.eq_false_or_eq_true (decide (C<j))with b|b
   ·
    have Z:=W b;try dsimp only at Z
    have H:=Y b;try dsimp only at H
    have p:=fun h=>g9 (l:=f) (e:=za) (d:=(ab.mk [] [])) (i:=j.toNat) h [];have t:=fun h=>g9 (l:=f) (e:=za) (d:=(ab.mk [] [])) (i:=(IntKind.i64.wrap (j-1)).toNat) h [];simp only[go_sem,simprocAttr,false_implies,and_true,true_and,eA,b,p (by omega),t (by omega)];try refine⟨sL,?_⟩
    refine Dr.callF (av:=?av10) (g:=decide (C<j)) (o:=?o10) (fun K=>li (ab.mk ((f.getD j.toNat (ab.mk [] [])).r) ((f.getD j.toNat (ab.mk [] [])).Value)) (ab.mk ((f.getD ((IntKind.i64.wrap (j-1)).toNat) (ab.mk [] [])).r) ((f.getD ((IntKind.i64.wrap (j-1)).toNat) (ab.mk [] [])).Value)) _ (R K)) (by simp only[go_sem,simprocAttr,false_implies,and_true,true_and,eA,b,p (by omega),t (by omega)];exact Is.mk) (by simp only[go_sem,simprocAttr,false_implies,and_true,true_and,eA,b,p (by omega),t (by omega)];exact Is.mk) (by simp only[go_sem,simprocAttr,false_implies,and_true,true_and,eA,b,p (by omega),t (by omega)];exact Is.mk) (by simp only[go_sem,simprocAttr,false_implies,and_true,true_and,eA,b,p (by omega),t (by omega)];exact Is.mk) (by simp only[go_sem,simprocAttr,false_implies,and_true,true_and,eA,b,p (by omega),t (by omega)]) (by simp only[go_sem,simprocAttr,false_implies,and_true,true_and,eA,b,p (by omega),t (by omega)];exact Is.mk) ?cont10;simp only[go_sem,simprocAttr,false_implies,and_true,true_and,eA,b,p (by omega),t (by omega)];first|refine u _ _ _ _ ?_ k|refine⟨sL,u _ _ _ _ ?_ k⟩
    simp only[go_sem,simprocAttr,false_implies,and_true,true_and,eA,b,p (by omega),t (by omega)];try exact tw
   ·
    rcases Nat.lt_or_ge j.toNat f.length with G|G
    ·
     have c:=g9 (l:=f) (e:=za) (d:=(ab.mk [] [])) (i:=j.toNat) G [];rcases Nat.lt_or_ge ((IntKind.i64.wrap (j-1)).toNat) f.length with I|I
     ·
      have m:=g9 (l:=f) (e:=za) (d:=(ab.mk [] [])) (i:=(IntKind.i64.wrap (j-1)).toNat) I [];simp only[go_sem,simprocAttr,false_implies,and_true,true_and,eA,b,c,m];try refine⟨sL,?_⟩
      refine Dr.skipG (o:=?o11) (v:=pI E) (gw:=?gw11) (by simp only[go_sem,simprocAttr,false_implies,and_true,true_and,eA,b,c,m];exact Is.mk) (by simp only[go_sem,simprocAttr,false_implies,and_true,true_and,eA,b,c,m];exact Is.mk) (by simp only[go_sem,simprocAttr,false_implies,and_true,true_and,eA,b,c,m];exact Is.mk) (by simp only[go_sem,simprocAttr,false_implies,and_true,true_and,eA,b,c,m]) ?cont11;simp only[go_sem,simprocAttr,false_implies,and_true,true_and,eA,b,c,m];first|refine u _ _ _ _ ?_ k|refine⟨sL,u _ _ _ _ ?_ k⟩
      simp only[go_sem,simprocAttr,false_implies,and_true,true_and,eA,b,c,m];try exact tw
     ·
      have m:(List.map za f).getD ((IntKind.i64.wrap (j-1)).toNat) []=[]:=by rw[getD_eq_getElem?_getD,getElem?_eq_none (by simpa using I)];rfl
      simp only[go_sem,simprocAttr,false_implies,and_true,true_and,eA,b,c,m];try refine⟨sL,?_⟩
      refine Dr.skipG (o:=?o12) (v:=pI E) (gw:=?gw12) (by simp only[go_sem,simprocAttr,false_implies,and_true,true_and,eA,b,c,m];exact Is.mk) (by simp only[go_sem,simprocAttr,false_implies,and_true,true_and,eA,b,c,m];exact Is.mk) (by simp only[go_sem,simprocAttr,false_implies,and_true,true_and,eA,b,c,m];exact Is.mk) (by simp only[go_sem,simprocAttr,false_implies,and_true,true_and,eA,b,c,m]) ?cont12;simp only[go_sem,simprocAttr,false_implies,and_true,true_and,eA,b,c,m];first|refine u _ _ _ _ ?_ k|refine⟨sL,u _ _ _ _ ?_ k⟩
      simp only[go_sem,simprocAttr,false_implies,and_true,true_and,eA,b,c,m];try exact tw
    ·
     have c:(List.map za f).getD j.toNat []=[]:=by rw[getD_eq_getElem?_getD,getElem?_eq_none (by simpa using G)];rfl
     rcases Nat.lt_or_ge ((IntKind.i64.wrap (j-1)).toNat) f.length with J|J
     ·
      have n:=g9 (l:=f) (e:=za) (d:=(ab.mk [] [])) (i:=(IntKind.i64.wrap (j-1)).toNat) J [];simp only[go_sem,simprocAttr,false_implies,and_true,true_and,eA,b,c,n];try refine⟨sL,?_⟩
      refine Dr.skipG (o:=?o13) (v:=pI E) (gw:=?gw13) (by simp only[go_sem,simprocAttr,false_implies,and_true,true_and,eA,b,c,n];exact Is.mk) (by simp only[go_sem,simprocAttr,false_implies,and_true,true_and,eA,b,c,n];exact Is.mk) (by simp only[go_sem,simprocAttr,false_implies,and_true,true_and,eA,b,c,n];exact Is.mk) (by simp only[go_sem,simprocAttr,false_implies,and_true,true_and,eA,b,c,n]) ?cont13;simp only[go_sem,simprocAttr,false_implies,and_true,true_and,eA,b,c,n];first|refine u _ _ _ _ ?_ k|refine⟨sL,u _ _ _ _ ?_ k⟩
      simp only[go_sem,simprocAttr,false_implies,and_true,true_and,eA,b,c,n];try exact tw
     ·
      have n:(List.map za f).getD ((IntKind.i64.wrap (j-1)).toNat) []=[]:=by rw[getD_eq_getElem?_getD,getElem?_eq_none (by simpa using J)];rfl
      simp only[go_sem,simprocAttr,false_implies,and_true,true_and,eA,b,c,n];try refine⟨sL,?_⟩
      refine Dr.skipG (o:=?o14) (v:=pI E) (gw:=?gw14) (by simp only[go_sem,simprocAttr,false_implies,and_true,true_and,eA,b,c,n];exact Is.mk) (by simp only[go_sem,simprocAttr,false_implies,and_true,true_and,eA,b,c,n];exact Is.mk) (by simp only[go_sem,simprocAttr,false_implies,and_true,true_and,eA,b,c,n];exact Is.mk) (by simp only[go_sem,simprocAttr,false_implies,and_true,true_and,eA,b,c,n]) ?cont14;simp only[go_sem,simprocAttr,false_implies,and_true,true_and,eA,b,c,n];first|refine u _ _ _ _ ?_ k|refine⟨sL,u _ _ _ _ ?_ k⟩
      simp only[go_sem,simprocAttr,false_implies,and_true,true_and,eA,b,c,n];try exact tw
  refine a3 _ _ (cN w (fun w=>?_) fun w=>?_)
  .refine Wp.skip (x _ _ (dc fun _ a1 _=>Wp.block ?_));obtain⟨af,w⟩:=zi w;obtain⟨ag,w⟩:=zi w;obtain⟨an,w⟩:=zi w;obtain⟨aw,w⟩:=zi w;have S:=fun h=>g9 (l:=f) (e:=za) (d:=(ab.mk [] [])) (i:=(IntKind.i64.wrap (j-1)).toNat) h [];have T:=fun h=>g9 (l:=f) (e:=za) (d:=(ab.mk [] [])) (i:=j.toNat) h [];refine dX (plan:=pl [(0,none),(1,none),(2,none),(3,none),(4,none),(5,none),(6,none),(7,none),(8,none),(9,none),(10,none),(11,none),(12,none),(13,none),(14,none),(15,some [2,3,4]),(16,none),(17,some [])]) (by kernel_rfl) rfl (by kernel_rfl) fun az a2=>?_;simp only[go_sem,simprocAttr,S (by omega),T (by omega)];refine kA a2 ?_;refine a1 _ _ (qR ?_);simp only[zF,zB,↓reduceIte];refine⟨(IntKind.i64.wrap (j-1),List.set (List.set f j.toNat (ab.mk ((f.getD ((IntKind.i64.wrap (j-1)).toNat) (ab.mk [] [])).r) ((f.getD ((IntKind.i64.wrap (j-1)).toNat) (ab.mk [] [])).Value))) ((IntKind.i64.wrap (j-1)).toNat) (ab.mk ((f.getD j.toNat (ab.mk [] [])).r) ((f.getD j.toNat (ab.mk [] [])).Value))),w,?_⟩;exact eP
  .refine Wp.exit ?_;simp only[zF,zB,↓reduceIte];have w:=Q _ w;try dsimp only at w
   refine a0 _ _ _ _ ?_ (O f w);exact eP
 .refine Wp.exit ?_;simp only[zF,zB,↓reduceIte];have w:=N _ w;try dsimp only at w
  refine zG ?_;cases w;exact eP
theorem zdD(c:Int)(g:List ab)(z:List ab)(w:Vk c g=some z):Does prog 85 [.buf 0,pI c,.fn 26 []] [.fx 70 2 (List.map za g)] (fun r X=>r=.tup []/\X=[.fx 70 2 (List.map za z)]):=by
 unfold Vk at w;refine dW 1 63 [] func85 fun B=>nA fun A=>?_;refine qS ?_;refine qS ?_;refine dc fun a C N=>?_;obtain⟨O,i,w⟩:=zp w;have p:∀s,O s=some z->a [(0,.buf 0),(1,pI c),(2,.fn 26 []),(6,pI 20),(7,pI s.1)] [.fx 70 2 (List.map za s.2)]:=by
  intro s hs;have w:=i _ hs;clear hs;obtain⟨D,t⟩:=s;try dsimp only at w|-
  refine C _ _ ?_;obtain⟨j,E,w⟩:=ze w;refine sO [0] (Z7 D c t _ E) ?_;refine Wp.block ?_;obtain⟨Z,F,w⟩:=jj w;refine Wp.loopN (fun s=>[(0,.buf 0),(1,pI c),(2,.fn 26 []),(6,pI s)]) (fun s=>[.fx 70 2 (List.map za j)]) ?_ w ?_
  .exact eP
  clear w;intro b T w;try dsimp only at w|-
  refine dc fun _ P _=>qS ?_;refine cN w (fun w=>?_) fun w=>?_
  .refine Wp.skip (P _ _ (Wp.block (qS ?_)));refine dc fun Q k G=>?_;obtain⟨R,l,w⟩:=zp w
   have m:∀s,R s=some z->Q [(0,.buf 0),(1,pI c),(2,.fn 26 []),(6,pI b),(7,pI 0)] [.fx 70 2 (List.map za j)]:=by
    intro s hs;have w:=l _ hs;clear hs;try dsimp only at w|-
    refine k _ _ (dc fun _ I _=>qS ?_);refine qS ?_;refine cN w (fun w=>?_) fun w=>?_
    .cases w
    .refine Wp.skip (I _ _ (qR ?_));simp only[zF,zB,↓reduceIte];refine⟨IntKind.i64.wrap (b*2),w,?_⟩;exact eP
   clear k l;refine Wp.block ?_;obtain⟨W,u,w⟩:=jj w;refine Wp.loopN (fun s=>[(0,.buf 0),(1,pI c),(2,.fn 26 []),(6,pI b),(7,pI 0),(8,pI (IntKind.i64.wrap (2*b)))]) (fun s=>[.fx 70 2 (List.map za j)]) ?_ w ?_
   .exact eP
   clear w;intro s U w;try dsimp only at w|-
   refine dc fun _ J _=>qS ?_;refine cN w (fun w=>?_) fun w=>?_
   .refine Wp.skip (J _ _ (Wp.block ?_));cases w
   .refine Wp.exit ?_;simp only[zF,zB,↓reduceIte];have w:=u _ w;try dsimp only at w
    refine G _ _ _ _ ?_ (m () w);exact eP
  .refine Wp.exit ?_;simp only[zF,zB,↓reduceIte];have w:=F _ w;try dsimp only at w
   refine zG ?_;cases w;exact eP
 clear C i;refine Wp.block ?_;obtain⟨Y,v,w⟩:=jj w;refine Wp.loopN (fun s=>[(0,.buf 0),(1,pI c),(2,.fn 26 []),(6,pI 20),(7,pI s.1),(8,pI s.2.1)]) (fun s=>[.fx 70 2 (List.map za s.2.2)]) ?_ w ?_
 .exact eP
 clear w;intro s V w;obtain⟨n,o,f⟩:=s;try dsimp only at w|-
 refine dc fun _ L _=>qS ?_;refine cN w (fun w=>?_) fun w=>?_
 .refine Wp.skip (L _ _ (Wp.block ?_));obtain⟨S,M,w⟩:=ze w;refine sO [0] (Z7 n o f _ M) ?_;refine qS ?_;refine qR ?_;simp only[zF,zB,↓reduceIte];refine⟨(o,IntKind.i64.wrap (o+20),S),w,?_⟩;exact eP
 .refine Wp.exit ?_;simp only[zF,zB,↓reduceIte];have w:=v _ w;try dsimp only at w
  refine N _ _ _ _ ?_ (p (n,f) w);exact eP
theorem zbJ(b:List ab)(z:List ab)(w:zK b=some z):Does prog 25 [.buf 0,.fn 26 []] [.fx 70 2 (List.map za b)] (fun r X=>r=.tup []/\X=[.fx 70 2 (List.map za z)]):=by
 unfold zK at w;refine dW 1 9 [] func25 fun B=>nA fun A=>?_;obtain⟨f,c,w⟩:=ze w;refine eO [0] (zdD (b.length:Int) b _ c) ?_;refine zG ?_;cases w;exact eP
theorem Zc(b:ab)(c:ab)(z:Bool)(w:MM b c=some z):Does prog 29 [.agg [pS b.r,pS b.Value],.agg [pS c.r,pS c.Value]] [] (fun r X=>r=pB z/\X=[]):=by
 unfold MM at w;refine dW 0 10 [.tmp 4] func29 fun B=>nA fun A=>?_;refine qS ?_;exact wQ
theorem zb0(b:List ab)(z:Nat×Nat×List ab)(w:zN b=some z):Does prog 28 [.buf 0,.fn 29 []] [.fx 70 2 (List.map za b)] (fun r X=>r=.vw 0 2 z.1 z.2.1/\X=[.fx 70 2 (List.map za z.2.2)]):=by
 unfold zN at w;refine dW 1 66 [.tmp 4] func28 fun B=>nA fun A=>?_;refine dJ 0 0 (by simp only[go_sem,simprocAttr];exact Is.mk) (by simp only[go_sem,simprocAttr];exact Is.mk) ?_;simp only[go_sem,simprocAttr];refine qS ?_;refine dc fun _ q _=>qS ?_;refine cR w fun w=>?_;refine Wp.skip (q _ _ (dc fun a3 R x=>?_));obtain⟨y,D,w⟩:=zp w;have L:∀s,y s=some z->a3 [(0,.vw 0 2 0 b.length)] [.fx 70 2 (List.map za b)]:=by
  intro s hs;have w:=D _ hs;clear hs;try dsimp only at w|-
  exact R _ _ (wQ)
 clear R D;refine qS ?_;refine Wp.block ?_;obtain⟨af,M,w⟩:=jj w;refine Wp.loopN (fun s=>[(0,.vw 0 2 0 b.length),(1,.fn 29 []),(5,pI s)]) (fun s=>[.fx 70 2 (List.map za b)]) ?_ w ?_
 .exact eP
 clear w;intro c a9 w;try dsimp only at w|-
 refine dc fun _ a4 _=>qS ?_;refine cN w (fun w=>?_) fun w=>?_
 .refine Wp.skip (a4 _ _ (dc fun H E S=>?_));obtain⟨U,v,w⟩:=zp w
  have F:∀s,U s=some z->H [(0,.vw 0 2 0 b.length),(1,.fn 29 []),(5,pI c)] [.fx 70 2 (List.map za b)]:=by
   intro s hs;have w:=v _ hs;clear hs;try dsimp only at w|-
   refine E _ _ (qR ?_);simp only[zF,zB,↓reduceIte];refine⟨IntKind.i64.wrap (c+1),w,?_⟩;exact eP
  clear E v;refine Wp.block ?_;obtain⟨ag,w⟩:=zi w;obtain⟨an,w⟩:=zi w;obtain⟨aw,N,w⟩:=ze w;have k:=fun h=>g9 (l:=b) (e:=za) (d:=(ab.mk [] [])) (i:=(c.toNat:Nat)) h [];have n:=fun h=>g9 (l:=b) (e:=za) (d:=(ab.mk [] [])) (i:=((IntKind.i64.wrap (c-1)).toNat:Nat)) h [];refine dp (plan:=pl [(0,none),(1,none),(2,none),(3,none),(4,none),(5,none),(6,none),(7,none),(8,none),(9,none),(10,none)]) (by kernel_rfl) rfl (by kernel_rfl) fun aN V=>?_;simp only[go_sem,simprocAttr,k (by omega),n (by omega)];try refine⟨sL,?_⟩
  refine Dr.callF (av:=?av15) (g:=true) (o:=?o15) (fun K=>Zc (ab.mk ((b.getD (c.toNat:Nat) (ab.mk [] [])).r) ((b.getD (c.toNat:Nat) (ab.mk [] [])).Value)) (ab.mk ((b.getD ((IntKind.i64.wrap (c-1)).toNat:Nat) (ab.mk [] [])).r) ((b.getD ((IntKind.i64.wrap (c-1)).toNat:Nat) (ab.mk [] [])).Value)) _ N) (by simp only[go_sem,simprocAttr,k (by omega),n (by omega)];exact Is.mk) (by simp only[go_sem,simprocAttr,k (by omega),n (by omega)];exact Is.mk) (by simp only[go_sem,simprocAttr,k (by omega),n (by omega)];exact Is.mk) (by simp only[go_sem,simprocAttr,k (by omega),n (by omega)];exact Is.mk) (by simp only[go_sem,simprocAttr,k (by omega),n (by omega)]) (by simp only[go_sem,simprocAttr,k (by omega),n (by omega)];exact Is.mk) ?cont15;simp only[go_sem,simprocAttr,k (by omega),n (by omega)];refine kA V ?_;refine cN w (fun w=>?_) fun w=>?_
  .obtain⟨az,w⟩:=zi w;refine q6 ?_;refine dc fun a8 G W=>?_;obtain⟨Y,C,w⟩:=zp w
   have I:∀s,Y s=some z->a8 [(0,.vw 0 2 0 b.length),(5,pI s.1)] [.fx 70 2 (List.map za s.2)]:=by
    intro s hs;have w:=C _ hs;clear hs;obtain⟨aA,ac⟩:=s;try dsimp only at w|-
    refine G _ _ ?_;obtain⟨aB,w⟩:=zi w;refine dd fun aO Z=>?_;simp only[go_sem,simprocAttr];try refine⟨sL,?_⟩
    refine Rg.clear (i:=?i20) (sz:=?sz20) (a:=?a20) (m:=?m20) (T:=?T20) (rows:=?rows20) (e:=?e20) (eb:=?eb20) (ez:=?ez20) (z:=?z20) (fx:=?fx20) Is.mk Is.mk Is.mk Is.mk Is.mk sg sg si si si si sg sg sg ?cont20;simp only[go_sem,simprocAttr];refine kA Z ?_;obtain⟨aC,w⟩:=zi w;exact wQ
   clear G C;refine qS ?_;refine Wp.block ?_;obtain⟨aD,O,w⟩:=jj w;refine Wp.loopN (fun s=>[(0,.vw 0 2 0 b.length),(1,.fn 29 []),(5,pI s.1),(6,.vw 0 2 c.toNat (b.length-c.toNat)),(7,pI s.2.1)]) (fun s=>[.fx 70 2 (List.map za s.2.2)]) ?_ w ?_
   .exact eP
   clear w;intro s ad w;obtain⟨u,j,f⟩:=s;try dsimp only at w|-
   refine dc fun _ a0 _=>qS ?_;refine cN w (fun w=>?_) fun w=>?_
   .refine Wp.skip (a0 _ _ (dc fun _ J _=>Wp.block ?_));obtain⟨aE,w⟩:=zi w;obtain⟨aF,w⟩:=zi w;obtain⟨aG,w⟩:=zi w;obtain⟨aH,w⟩:=zi w;obtain⟨aI,P,w⟩:=ze w;have p:=fun h=>g9 (l:=f) (e:=za) (d:=(ab.mk [] [])) (i:=(c.toNat+j.toNat:Nat)) h [];have t:=fun h=>g9 (l:=f) (e:=za) (d:=(ab.mk [] [])) (i:=(c.toNat+((IntKind.i64.wrap (j-1)).toNat):Nat)) h [];refine dp (plan:=pl [(0,none),(1,none),(2,none),(3,none),(4,none),(5,none),(6,none),(7,none),(8,none),(9,none),(10,none),(11,none)]) (by kernel_rfl) rfl (by kernel_rfl) fun aP a1=>?_;simp only[go_sem,simprocAttr,p (by omega),t (by omega)];try refine⟨sL,?_⟩
    refine Dr.callF (av:=?av28) (g:=true) (o:=?o28) (fun K=>Zc (ab.mk ((f.getD (c.toNat+j.toNat:Nat) (ab.mk [] [])).r) ((f.getD (c.toNat+j.toNat:Nat) (ab.mk [] [])).Value)) (ab.mk ((f.getD (c.toNat+((IntKind.i64.wrap (j-1)).toNat):Nat) (ab.mk [] [])).r) ((f.getD (c.toNat+((IntKind.i64.wrap (j-1)).toNat):Nat) (ab.mk [] [])).Value)) _ P) (by simp only[go_sem,simprocAttr,p (by omega),t (by omega)];exact Is.mk) (by simp only[go_sem,simprocAttr,p (by omega),t (by omega)];exact Is.mk) (by simp only[go_sem,simprocAttr,p (by omega),t (by omega)];exact Is.mk) (by simp only[go_sem,simprocAttr,p (by omega),t (by omega)];exact Is.mk) (by simp only[go_sem,simprocAttr,p (by omega),t (by omega)]) (by simp only[go_sem,simprocAttr,p (by omega),t (by omega)];exact Is.mk) ?cont28;simp only[go_sem,simprocAttr,p (by omega),t (by omega)];refine kA a1 ?_;refine cN w (fun w=>?_) fun w=>?_
    .obtain⟨aJ,w⟩:=zi w;obtain⟨aK,w⟩:=zi w;obtain⟨aL,w⟩:=zi w;obtain⟨aM,w⟩:=zi w;have Q:=fun h=>g9 (l:=f) (e:=za) (d:=(ab.mk [] [])) (i:=(c.toNat+j.toNat:Nat)) h [];refine dd fun aQ a2=>?_;simp only[go_sem,simprocAttr,Q (by omega)];refine kA a2 ?_;refine qR ?_;refine J _ _ (qR ?_);simp only[zF,zB,↓reduceIte];refine⟨(IntKind.i64.wrap (u+1),IntKind.i64.wrap (j+1),List.set f (u.toNat:Nat) (ab.mk ((f.getD (c.toNat+j.toNat:Nat) (ab.mk [] [])).r) ((f.getD (c.toNat+j.toNat:Nat) (ab.mk [] [])).Value))),w,?_⟩;exact eP
    .refine Wp.skip (J _ _ (qR ?_));simp only[zF,zB,↓reduceIte];refine⟨(u,IntKind.i64.wrap (j+1),f),w,?_⟩;exact eP
   .refine Wp.exit ?_;simp only[zF,zB,↓reduceIte];have w:=O _ w;try dsimp only at w
    refine W _ _ _ _ ?_ (I (u,f) w);exact eP
  .refine Wp.skip (S _ _ _ _ ?_ (F () w));exact eP
 .refine Wp.exit ?_;simp only[zF,zB,↓reduceIte];have w:=M _ w;try dsimp only at w
  refine x _ _ _ _ ?_ (L () w);exact eP
theorem ji(b:Bool)(c:Int)(z:Int)(w:ii b c=some z):Does prog 57 [pB b,pI c] [] (fun r X=>r=pI z/\X=[]):=by
 unfold ii at w;refine dW 0 7 [.tmp 4] func57 fun B=>nA fun A=>?_;refine qS ?_;refine dc fun _ f _=>qS ?_;refine cR w fun w=>?_;exact Wp.skip (f _ _ (wQ))
theorem UZ(f:Int)(c:eo)(b:eo)(z:Int×eo)(w:A1 f c b=some z):Does prog 105 [pI f,pS c,.ptr 0 0] [.cells 9 [pS b]] (fun r X=>r=pI z.1/\X=[.cells 9 [pS z.2]]):=by
 unfold A1 at w;refine dW 1 17 [.tmp 5] func105 fun B=>nA fun A=>?_;refine qS ?_;refine qS ?_;refine qS ?_;obtain⟨i,g,w⟩:=ze w;refine sX (fun a=>ji ((decide (0<f))&&(kK c b||decide (c=b))) 7 _ g) ?_;exact wR
theorem oP(b:List Int)(z:Int)(w:g8 b=some z):Does prog 35 [lm zt b] [] (fun r X=>r=pI z/\X=[]):=by
 unfold g8 at w;refine dW 0 15 [.tmp 2] func35 fun B=>nA fun A=>?_;refine qS ?_;refine dc fun a j n=>?_;obtain⟨o,c,w⟩:=zp w;have g:∀s,o s=some z->a [] []:=by
  intro s hs;have w:=c _ hs;clear hs;try dsimp only at w|-
  exact j _ _ (wQ)
 clear j c;refine qS ?_;refine Wp.block ?_;obtain⟨D,k,w⟩:=zq w;refine fL 5 b.length fun l=>?_;refine Wp.forL (fun f s=>[(5,lm zt b),(6,pI (b.length:Int)),(7,pI (f:Int))]) (fun f s=>[]) wF w ?_;clear w;intro f s t w;try dsimp only at w|-
 refine qS ?_;refine lB zt w l (fun h=>n _ _ _ _ wF (g () (k _ h))) fun m E F C u v i w A _ p=>?_;refine q6 ?_;refine q6 ?_;refine cR w fun w=>?_;refine Wp.skip (p _ _ (r6 ?_));exact wN () m (i _ w)
theorem zey(b:eo)(c:Int)(z:Int)(w:Vn b c=some z):Does prog 195 [pS b,.p (.i .u8 c)] [] (fun r X=>r=pI z/\X=[]):=by
 unfold Vn at w;refine dW 0 8 [.tmp 4] func195 fun B=>nA fun A=>?_;refine qS ?_;have j:=j7 b c;refine dd fun a f=>?_;simp only[go_sem,simprocAttr];try refine⟨sd,?_⟩
 refine dB (av:=?av3) (g:=true) (fun d=>Hp b c) si si si sg si ?cont3;intro k;simp only[go_sem,simprocAttr];refine kA f ?_;exact wR
theorem zfI(f:eo)(b:eo)(z:Int)(w:PC f b=some z):Does prog 169 [pS f,pS b] [] (fun r X=>r=pI z/\X=[]):=by
 unfold PC at w;refine dW 0 143 [.tmp 4] func169 fun B=>nA fun A=>?_;refine qS ?_;refine qS ?_;refine dc fun _ _ _=>Wp.block (qS ?_);refine cR w fun w=>?_;refine qS ?_;refine cN w (fun w=>?_) fun w=>?_
 .obtain⟨g,j,c,w⟩:=xG w;replace c:((b.getD 0 0).toNat:Int)=g:=c;obtain⟨k,i,w⟩:=ze w;have A:=c;refine sX (fun a=>zey f g _ i) ?_;exact wR
 .refine qS ?_;refine cR w fun w=>?_;cases w
theorem ZP(c:eo)(b:eo)(z:Int)(w:LH c b=some z):Does prog 143 [pS c,pS b] [] (fun r X=>r=pI z/\X=[]):=by
 unfold LH at w;refine dW 0 8 [.tmp 4] func143 fun B=>nA fun A=>?_;refine qS ?_;obtain⟨g,f,w⟩:=ze w;refine sX (fun a=>zfI c b _ f) ?_;exact wR
theorem zlo(f:eo)(b:eo)(z:Int)(w:O4 f b=some z):Does prog 142 [pS f,pS b] [] (fun r X=>r=pI z/\X=[]):=by
 unfold O4 at w;refine dW 0 34 [.tmp 4] func142 fun B=>nA fun A=>?_;refine qS ?_;refine dc fun _ m _=>qS ?_;refine cN w (fun w=>?_) fun w=>?_
 .cases w
 .refine Wp.skip (m _ _ (dc fun _ n _=>qS ?_));refine cN w (fun w=>?_) fun w=>?_
  .obtain⟨i,u,c,w⟩:=xG w;replace c:((b.getD 0 0).toNat:Int)=i:=c;have v:=Yz f i;have A:=c;refine dd fun d o=>?_;simp only[go_sem,simprocAttr,A];try refine⟨sd,?_⟩
   refine dB (av:=?av9) (g:=true) (fun a=>Hq f i) (by simp only[go_sem,simprocAttr,A];exact Is.mk) (by simp only[go_sem,simprocAttr,A];exact Is.mk) (by simp only[go_sem,simprocAttr,A];exact Is.mk) (by simp only[go_sem,simprocAttr,A]) (by simp only[go_sem,simprocAttr,A];exact Is.mk) ?cont9;intro F;simp only[go_sem,simprocAttr,A];refine kA o ?_;exact wR
  .refine Wp.skip (n _ _ (qS ?_));refine Wp.block ?_;obtain⟨G,C,w⟩:=jj w;refine Wp.loopN (fun s=>[(0,pS s.1),(1,pS b),(4,pI 0),(5,pI s.2)]) (fun s=>[]) ?_ w ?_
   .exact eP
   clear w;intro s D w;obtain⟨j,p⟩:=s;try dsimp only at w|-
   refine Wp.block ?_;obtain⟨t,k,w⟩:=ze w;refine sX (fun a=>ZP j b _ k) ?_;refine dc fun _ l _=>qS ?_;refine cR w fun w=>?_;refine Wp.skip (l _ _ (qS ?_));obtain⟨E,w⟩:=zi w;refine r6 ?_;simp only[zF,zB,↓reduceIte];refine⟨(List.drop ((IntKind.i64.wrap (t+(b.length:Int))).toNat) j,IntKind.i64.wrap (p+1)),w,?_⟩;exact eP
theorem ZX(g:eo)(c:eo)(b:Int)(n:Int)(z:List eo)(w:Ba g c b n=some z):Does prog 113 [pS g,pS c,pI b,pI n] [] (fun r X=>r=lm eu z/\X=[]):=by
 unfold Ba at w;refine dW 0 66 [.tmp 8] func113 fun B=>nA fun A=>?_;refine qS ?_;refine dc fun _ M _=>qS ?_;refine cN w (fun w=>?_) fun w=>?_
 .refine qS ?_;refine Wp.ret ?_;simp only[zF,zB];refine gP ?_;cases w;exact eP
 .refine Wp.skip (M _ _ (dc fun _ N _=>qS ?_));refine cN w (fun w=>?_) fun w=>?_
  .cases w
  .refine Wp.skip (N _ _ (dc fun a C D=>?_));obtain⟨O,o,w⟩:=zp w
   have k:∀s,O s=some z->a [(0,pS g),(1,pS c),(2,pI b),(3,pI s)] []:=by
    intro F hs;have w:=o _ hs;clear hs;try dsimp only at w|-
    refine C _ _ (qS ?_);obtain⟨T,w⟩:=zi w;refine q6 ?_;refine qS ?_;refine qS ?_;refine dc fun P p t=>?_;obtain⟨Q,u,w⟩:=zp w;have i:∀s,Q s=some z->P [(0,pS s.1),(9,.buf 0),(10,pI s.2.1)] [.buf 9 1 (List.map eu s.2.2)]:=by
     intro s hs;have w:=u _ hs;clear hs;obtain⟨U,V,R⟩:=s;try dsimp only at w|-
     refine p _ _ ?_;obtain⟨W,w⟩:=zi w;refine q6 ?_;refine Wp.freeze 0 (by simp only[go_sem,simprocAttr];exact Is.mk) (by first|(simp only[go_sem,simprocAttr];done)|(simp only[go_sem,simprocAttr];omega)) ?_;simp only[go_sem,simprocAttr];obtain⟨Y,w⟩:=zi w;exact wQ
    clear p u;refine Wp.block ?_;obtain⟨Z,l,w⟩:=jj w;refine Wp.loopN (fun s=>[(0,pS s.1),(1,pS c),(2,pI b),(3,pI (IntKind.i64.wrap ((min F (IntKind.i64.wrap ((g.length:Int)+1)))-1))),(9,.buf 0),(10,pI s.2.1)]) (fun s=>[.buf 9 1 (List.map eu s.2.2)]) ?_ w ?_
    .exact eP
    clear w;intro s S w;obtain⟨j,m,f⟩:=s;try dsimp only at w|-
    refine dc fun _ G _=>qS ?_;refine cN w (fun w=>?_) fun w=>?_
    .refine Wp.skip (G _ _ (Wp.block ?_));obtain⟨E,I,w⟩:=ze w;refine sX (fun d=>ZP j c _ I) ?_;refine dc fun _ J _=>qS ?_;refine cN w (fun w=>?_) fun w=>?_
     .refine Wp.exit ?_;simp only[zF,zB,↓reduceIte];have w:=l _ w;try dsimp only at w
      refine t _ _ _ _ ?_ (i (j,m,f) w);exact eP
     .refine Wp.skip (J _ _ ?_);obtain⟨e,w⟩:=zi w;obtain⟨h,w⟩:=zi w;refine q6 ?_;obtain⟨q,w⟩:=zi w;refine q6 ?_;refine qR ?_;simp only[zF,zB,↓reduceIte];refine⟨(List.drop ((IntKind.i64.wrap (E+(c.length:Int))).toNat) j,IntKind.i64.wrap (m+1),List.set f m.toNat (List.take ((IntKind.i64.wrap (E+b)).toNat) j)),w,?_⟩;exact eP
    .refine Wp.exit ?_;simp only[zF,zB,↓reduceIte];have w:=l _ w;try dsimp only at w
     refine t _ _ _ _ ?_ (i (j,m,f) w);exact eP
   clear C o;refine qS ?_;refine cN w (fun w=>?_) fun w=>?_
   .obtain⟨L,v,w⟩:=ze w;refine eX (fun d=>zlo g c _ v) ?_;refine D _ _ _ _ ?_ (k (IntKind.i64.wrap (L+1)) w);exact eP
   .refine Wp.skip (D _ _ _ _ ?_ (k n w));exact eP
theorem ZQ(c:eo)(b:eo)(z:List eo)(w:LI c b=some z):Does prog 46 [pS c,pS b] [] (fun r X=>r=lm eu z/\X=[]):=by
 unfold LI at w;refine dW 0 8 [.tmp 4] func46 fun B=>nA fun A=>?_;refine qS ?_;obtain⟨g,f,w⟩:=ze w;refine sF (ZX c b 0 (-1) _ f) ?_;exact wR
theorem m0(b:eo)(z:Bool)(w:Mu b=some z):Does prog 47 [pS b] [] (fun r X=>r=pB z/\X=[]):=by
 unfold Mu at w;refine dW 0 63 [.tmp 2] func47 fun B=>nA fun A=>?_;refine qS ?_;refine dc fun a j n=>?_;obtain⟨o,c,w⟩:=zp w;have g:∀s,o s=some z->a [(0,pS b)] []:=by
  intro s hs;have w:=c _ hs;clear hs;try dsimp only at w|-
  exact j _ _ (wQ)
 clear j c;refine qS ?_;refine Wp.block ?_;obtain⟨C,k,w⟩:=zq w;refine fL 0 b.length fun l=>?_;refine Wp.forL (fun f s=>[(0,pS b),(6,pI (b.length:Int)),(7,pI (f:Int))]) (fun f s=>[]) wF w ?_;clear w;intro f s t w;try dsimp only at w|-
 refine qS ?_;refine lS w l (fun h=>n _ _ _ _ wF (g () (k _ h))) fun m D E v u i w A _ p=>?_;refine q6 ?_;refine q6 ?_;refine q6 ?_;refine cR w fun w=>?_;refine Wp.skip (p _ _ (r6 ?_));exact wN () m (i _ w)
theorem AX(b:eo)(z:Bool)(w:tn b=some z):Does prog 14 [pS b] [] (fun r X=>r=pB z/\X=[]):=by
 unfold tn at w;refine dW 0 19 [.tmp 2] func14 fun B=>nA fun A=>?_;refine qS ?_;refine dc fun a k t=>?_;obtain⟨u,c,w⟩:=zp w;have i:∀s,u s=some z->a [(0,pS b)] []:=by
  intro s hs;have w:=c _ hs;clear hs;try dsimp only at w|-
  exact k _ _ (wQ)
 clear k c;obtain⟨f,l,w⟩:=ze w;refine sF (ZQ b ([47]:eo) _ l) ?_;refine Wp.block ?_;obtain⟨I,m,w⟩:=zq w;refine fL 6 f.length fun n=>?_;refine Wp.forL (fun g s=>[(0,pS b),(6,lm eu f),(7,pI (f.length:Int)),(8,pI (g:Int))]) (fun g s=>[]) wF w ?_;clear w;intro g s D w;try dsimp only at w|-
 refine qS ?_;refine lB eu w n (fun h=>t _ _ _ _ wF (i () (m _ h))) fun o J v G E F j w A _ C=>?_;refine q6 ?_;obtain⟨L,p,w⟩:=ze w;refine sX (fun d=>m0 v _ p) ?_;refine cR w fun w=>?_;refine Wp.skip (C _ _ (r6 ?_));exact wN () o (j _ w)
theorem ZJ(b:ae)(z:Int)(w:Ll b=some z):Does prog 106 [.agg [pS b.a,pS b.F,pB b.G]] [] (fun r X=>r=pI z/\X=[]):=by
 unfold Ll at w;refine dW 0 15 [.tmp 2] func106 fun B=>nA fun A=>?_;refine qS ?_;obtain⟨j,c,w⟩:=ze w;obtain⟨k,f,w⟩:=ze w;obtain⟨l,g,w⟩:=ze w;obtain⟨n,i,w⟩:=ze w;refine dS (pl [(0,none),(1,none),(2,none),(3,none),(4,none),(5,none),(6,none),(7,none),(8,none),(9,none),(10,some []),(11,none),(12,none)]) fun _ m=>?_;refine cD (fun d=>AX b.a _ c) ?_;refine cD (fun d=>ji (!j) 5 _ f) ?_;refine cD (fun d=>ji (decide (65536<(b.F.length:Int))) 4 _ g) ?_;refine cD (fun d=>oP [k,l] _ i) (m _ _ ?_);exact wR
theorem Z0(b:ab)(z:Int)(w:LN b=some z):Does prog 107 [.agg [pS b.r,pS b.Value]] [] (fun r X=>r=pI z/\X=[]):=by
 unfold LN at w;refine dW 0 15 [.tmp 2] func107 fun B=>nA fun A=>?_;refine qS ?_;obtain⟨k,c,w⟩:=ze w;obtain⟨l,f,w⟩:=ze w;obtain⟨m,g,w⟩:=ze w;obtain⟨n,i,w⟩:=ze w;obtain⟨p,j,w⟩:=ze w;refine dS (pl [(0,none),(1,none),(2,none),(3,none),(4,none),(5,none),(6,none),(7,none),(8,none),(9,none),(10,some []),(11,none),(12,none)]) fun _ o=>?_;refine cD (fun a=>AX b.r _ c) ?_;refine cD (fun a=>ji (!k) 5 _ f) ?_;refine cD (fun a=>WY b.Value _ g) ?_;refine cD (fun a=>ji (!m) 2 _ i) ?_;refine cD (fun a=>oP [l,n] _ j) (o _ _ ?_);exact wR
theorem ZZ(b:ah)(z:Int)(w:LM b=some z):Does prog 108 [.agg [pS b.C,pS b.a,pB b.H,pB b.I]] [] (fun r X=>r=pI z/\X=[]):=by
 unfold LM at w;refine dW 0 14 [.tmp 2] func108 fun B=>nA fun A=>?_;refine qS ?_;obtain⟨c,f,w⟩:=ze w;obtain⟨k,i,w⟩:=zs w;obtain⟨m,j,w⟩:=ze w;refine rS fun _ l=>?_;refine cX (fun d=>xh b.C _ f) ?_;refine cX (g:=!(!c)) (fun d=>AX b.a _ (i d)) ?_;refine cX (fun d=>ji ((!c)||(!k)) 5 _ j) (l _ _ ?_);exact wR
theorem Lq(b:aj)(z:Int)(w:w9 b=some z):Does prog 36 [.agg [lm za b.D,lm zc b.u,lm za b.B,lm zb b.A]] [] (fun r X=>r=pI z/\X=[]):=by
 unfold w9 at w;refine dW 0 160 [.tmp 2] func36 fun B=>nA fun A=>?_;refine qS ?_;refine dc fun _ bC _=>qS ?_;refine cR w fun w=>?_;refine Wp.skip (bC _ _ (qS ?_));refine qS ?_;refine dc fun K8 q bD=>?_;obtain⟨b4,J,w⟩:=zp w;have aC:∀s,b4 s=some z->K8 [(1,.ptr 0 0),(4,.fn 105 [.ptr 1 0])] [.cells 26 [lm za b.D,lm zc b.u,lm za b.B,lm zb b.A],.cells 9 [pS s]]:=by
  intro bz hs;have w:=J _ hs;clear hs;try dsimp only at w|-
  refine q _ _ (qS ?_);refine dc fun bF Z b5=>?_;obtain⟨b6,L,w⟩:=zp w;have a0:∀s,b6 s=some z->bF [(1,.ptr 0 0),(4,.fn 105 [.ptr 1 0])] [.cells 26 [lm za b.D,lm zc b.u,lm za b.B,lm zb b.A],.cells 9 [pS s]]:=by
   intro bA hs;have w:=L _ hs;clear hs;try dsimp only at w|-
   refine Z _ _ (dc fun bG a1 b7=>?_);obtain⟨b8,M,w⟩:=zp w;have a2:∀s,b8 s=some z->bG [(1,.ptr 0 0),(4,.fn 105 [.ptr 1 0])] [.cells 26 [lm za b.D,lm zc b.u,lm za b.B,lm zb b.A],.cells 9 [pS s]]:=by
    intro bB hs;have w:=M _ hs;clear hs;try dsimp only at w|-
    refine a1 _ _ (dc fun bH x b9=>?_);obtain⟨ba,N,w⟩:=zp w;have a4:∀s,ba s=some z->bH [] []:=by
     intro s hs;have w:=N _ hs;clear hs;try dsimp only at w|-
     exact x _ _ (wQ)
    clear x N;refine qS ?_;refine Wp.block ?_;obtain⟨c3,aD,w⟩:=zq w;refine fL 140 b.A.length fun aE=>?_;refine Wp.forL (fun O s=>[(4,.fn 105 [.ptr 1 0]),(140,lm zb b.A),(141,pI (b.A.length:Int)),(142,pI (O:Int))]) (fun O s=>[.cells 26 [lm za b.D,lm zc b.u,lm za b.B,lm zb b.A],.cells 9 [pS s]]) wF w ?_;clear w;intro O W bT w;try dsimp only at w|-
    refine qS ?_;refine lB zb w aE (fun h=>b9 _ _ _ _ wF (a4 () (aD _ h))) fun aF c4 y bU bI bJ a6 w A _ bb=>?_;refine q6 ?_;obtain⟨bc,aG,w⟩:=ze w;obtain⟨H,aH,w⟩:=ze w;obtain⟨c5,aI,w⟩:=ze w;refine dS (pl [(0,none),(1,none),(2,none),(3,none),(4,none),(5,none),(6,some []),(7,some []),(8,none),(9,none)]) fun _ bd=>?_;refine cD (fun d=>ZZ y _ aG) ?_;refine cE [1] (UZ (O:Int) y.C W _ aH) ?_;refine cD (fun d=>oP [bc,H.1] _ aI) (bd _ _ ?_);refine q6 ?_;refine cR w fun w=>?_;refine Wp.skip (bb _ _ (r6 ?_));exact wN H.2 aF (a6 _ w)
   clear a1 M;refine qS ?_;refine Wp.block ?_;obtain⟨c6,aJ,w⟩:=zq w;refine fL 119 b.B.length fun aK=>?_;refine Wp.forL (fun P s=>[(1,.ptr 0 0),(4,.fn 105 [.ptr 1 0]),(119,lm za b.B),(120,pI (b.B.length:Int)),(121,pI (P:Int))]) (fun P s=>[.cells 26 [lm za b.D,lm zc b.u,lm za b.B,lm zb b.A],.cells 9 [pS s]]) wF w ?_;clear w;intro P k bV w;try dsimp only at w|-
   refine qS ?_;refine lB za w aK (fun h=>b7 _ _ _ _ wF (a2 k (aJ _ h))) fun aL c7 K bW bK bL a9 w A _ be=>?_;refine q6 ?_;obtain⟨bf,aM,w⟩:=ze w;obtain⟨ac,aN,w⟩:=ze w;obtain⟨c8,aO,w⟩:=ze w;refine dS (pl [(0,none),(1,none),(2,none),(3,none),(4,none),(5,none),(6,some []),(7,some []),(8,none),(9,none)]) fun _ bg=>?_;refine cD (fun d=>Z0 K _ aM) ?_;refine cE [1] (UZ (P:Int) K.r k _ aN) ?_;refine cD (fun d=>oP [bf,ac.1] _ aO) (bg _ _ ?_);refine q6 ?_;refine cR w fun w=>?_;refine Wp.skip (be _ _ (r6 ?_));exact wN ac.2 aL (a9 _ w)
  clear Z L;refine qS ?_;refine Wp.block ?_;obtain⟨c9,aP,w⟩:=zq w;refine fL 73 b.u.length fun aQ=>?_;refine Wp.forL (fun j s=>[(1,.ptr 0 0),(4,.fn 105 [.ptr 1 0]),(8,.mp 2),(73,lm zc b.u),(74,pI (b.u.length:Int)),(75,pI (j:Int))]) (fun j s=>[.cells 26 [lm za b.D,lm zc b.u,lm za b.B,lm zb b.A],.cells 9 [pS s.1],.mp false (zz Dt.s eR s.2)]) wF w ?_;clear w;intro j s bX w;obtain⟨l,i⟩:=s;try dsimp only at w|-
  refine qS ?_;refine dc fun _ bh _=>Wp.cond rfl ⟨⟩ (fun E=>?_) fun E=>Wp.exit (b5 _ _ _ _ wF (a0 l (aP _ (jd w (ss E)))));have n:=jz E;have o:=iz n aQ;obtain⟨c,bY,g,bZ,ad,w⟩:=jh w n;replace g:=g zc;refine Wp.skip ?_;simp only[zF];refine bh _ _ (dc fun bM af bi=>?_);obtain⟨bj,Q,w⟩:=zp w;have ag:∀s,bj s=some z->bM [(1,.ptr 0 0),(4,.fn 105 [.ptr 1 0]),(8,.mp 2),(73,lm zc b.u),(74,pI (b.u.length:Int)),(75,pI (j:Int))] [.cells 26 [lm za b.D,lm zc b.u,lm za b.B,lm zb b.A],.cells 9 [pS s],.mp false (zz Dt.s eR (eD i c.a true))]:=by
   intro Y hs;have w:=Q _ hs;clear hs;try dsimp only at w|-
   refine af _ _ ?_;have A:=And.intro o g;refine r6 ?_;exact wN (Y,eD i c.a true) n (ad _ w)
  clear af Q;refine Wp.block ?_;have A:=And.intro o g;refine q6 ?_;obtain⟨bk,aR,w⟩:=ze w;obtain⟨R,bl,w⟩:=ze w;obtain⟨bm,aS,w⟩:=ze w;refine dS (pl [(0,none),(1,none),(2,none),(3,none),(4,none),(5,none),(6,some []),(7,some []),(8,none),(9,none)]) fun _ bn=>?_;refine cD (fun d=>ZJ c _ aR) ?_;refine cE [1] (UZ (j:Int) c.a l _ bl) ?_;refine cD (fun d=>oP [bk,R.1] _ aS) (bn _ _ ?_);refine dc fun bN an av=>?_;obtain⟨bo,S,w⟩:=zp w;have v:∀s,bo s=some z->bN [(1,.ptr 0 0),(4,.fn 105 [.ptr 1 0]),(8,.mp 2),(10,.ptr 3 0),(11,pI s),(73,lm zc b.u),(74,pI (b.u.length:Int)),(75,pI (j:Int))] [.cells 26 [lm za b.D,lm zc b.u,lm za b.B,lm zb b.A],.cells 9 [pS R.2],.mp false (zz Dt.s eR i),.cells 68 [pS c.a,pS c.F,pB c.G]]:=by
   intro ca hs;have w:=S _ hs;clear hs;try dsimp only at w|-
   refine an _ _ (dc fun _ bp _=>q6 ?_);refine cR w fun w=>?_;refine Wp.skip (bp _ _ ?_);obtain⟨cb,w⟩:=zi w;have T:=oH (e:=eR) eZ i c.a true;simp only[eR,map_nil]at T;have A:=And.intro o (And.intro g T);refine r6 ?_;refine bi _ _ _ _ ?_ (ag R.2 w);simp only[go_sem,simprocAttr,A];try exact tw
  clear an S;refine q6 ?_;refine cN w (fun w=>?_) fun w=>?_
  .refine q6 ?_;refine Wp.block ?_;obtain⟨cc,aT,w⟩:=jj w;refine Wp.loopN (fun s=>[(1,.ptr 0 0),(4,.fn 105 [.ptr 1 0]),(8,.mp 2),(10,.ptr 3 0),(11,pI s.1),(73,lm zc b.u),(74,pI (b.u.length:Int)),(75,pI (j:Int)),(93,pI (c.a.length:Int)),(94,pI s.2)]) (fun s=>[.cells 26 [lm za b.D,lm zc b.u,lm za b.B,lm zb b.A],.cells 9 [pS R.2],.mp false (zz Dt.s eR i),.cells 68 [pS c.a,pS c.F,pB c.G]]) ?_ w ?_
   .simp only[go_sem,simprocAttr,A];try exact tw
   clear w;intro s c0 w;obtain⟨aw,f⟩:=s;try dsimp only at w|-
   refine q6 ?_;refine dc fun _ bq _=>cN w (fun w=>?_) fun w=>?_
   .refine Wp.skip (bq _ _ (dc fun _ az _=>Wp.block (q6 ?_)));obtain⟨bO,c1,p,w⟩:=xG w;replace p:((c.a.getD f.toNat 0).toNat:Int)=bO:=p;obtain⟨cd,w⟩:=zi w;obtain⟨ce,br,w⟩:=il w;have U:=ju (e:=eR) eZ i (List.take f.toNat c.a) false;have V:=jv (e:=eR) eZ i (List.take f.toNat c.a);simp only[br,eR,map_nil]at U V;have A:=And.intro o (And.intro g (And.intro p (And.intro U V)));refine q6 ?_;refine cN w (fun w=>?_) fun w=>?_
    .refine r6 ?_;refine az _ _ (r6 ?_);simp only[zF,zB,↓reduceIte];refine⟨(11,IntKind.i64.wrap (f+1)),w,?_⟩;simp only[go_sem,simprocAttr,A];try exact tw
    .refine Wp.skip (az _ _ (r6 ?_));simp only[zF,zB,↓reduceIte];refine⟨(aw,IntKind.i64.wrap (f+1)),w,?_⟩;simp only[go_sem,simprocAttr,A];try exact tw
   .refine Wp.exit ?_;simp only[zF,zB,↓reduceIte];have w:=aT _ w;try dsimp only at w
    refine av _ _ _ _ ?_ (v aw w);simp only[go_sem,simprocAttr,A];try exact tw
  .refine Wp.skip (av _ _ _ _ ?_ (v bm w));simp only[go_sem,simprocAttr,A];try exact tw
 clear q J;refine qS ?_;refine Wp.block ?_;obtain⟨cg,aU,w⟩:=zq w;refine fL 43 b.D.length fun aV=>?_;refine Wp.forL (fun t s=>[(1,.ptr 0 0),(4,.fn 105 [.ptr 1 0]),(43,lm za b.D),(44,pI (b.D.length:Int)),(45,pI (t:Int))]) (fun t s=>[.cells 26 [lm za b.D,lm zc b.u,lm za b.B,lm zb b.A],.cells 9 [pS s]]) wF w ?_;clear w;intro t m bP w;try dsimp only at w|-
 refine qS ?_;refine lB za w aV (fun h=>bD _ _ _ _ wF (aC m (aU _ h))) fun aW ch I c2 bQ bS aA w A _ bs=>?_;refine q6 ?_;obtain⟨bt,aX,w⟩:=ze w;obtain⟨bu,aY,w⟩:=ze w;obtain⟨bv,aZ,w⟩:=ze w;obtain⟨bw,b0,w⟩:=ze w;obtain⟨aB,b1,w⟩:=ze w;obtain⟨ci,b2,w⟩:=ze w;refine dS (pl [(0,none),(1,none),(2,none),(3,none),(4,none),(5,none),(6,none),(7,none),(8,none),(9,none),(10,none),(11,none),(12,none),(13,none),(14,some []),(15,some []),(16,none),(17,none)]) fun _ bx=>?_;refine cD (fun d=>xh I.r _ aX) ?_;refine cD (fun d=>ji (!bt) 5 _ aY) ?_;refine cD (fun d=>WY I.Value _ aZ) ?_;refine cD (fun d=>ji (!bv) 2 _ b0) ?_;refine cE [1] (UZ (t:Int) I.r m _ b1) ?_;refine cD (fun d=>oP [bu,bw,aB.1] _ b2) (bx _ _ ?_);refine q6 ?_;refine cR w fun w=>?_;refine Wp.skip (bs _ _ (r6 ?_));exact wN aB.2 aW (aA _ w)
end Go.Proofs.YteofmaagnphonaaGreatDoor
