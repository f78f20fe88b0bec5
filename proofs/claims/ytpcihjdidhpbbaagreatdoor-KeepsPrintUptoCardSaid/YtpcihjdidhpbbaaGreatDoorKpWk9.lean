/- That the code does what the models say (part 9). -/
import Derived.Test.YtpcihjdidhpbbaaGreatDoorKpWk0
import Derived.Test.YtpcihjdidhpbbaaGreatDoorKpWk1
import Derived.Test.YtpcihjdidhpbbaaGreatDoorKpWk3
import Derived.Test.YtpcihjdidhpbbaaGreatDoorKpWk4
import Derived.Test.YtpcihjdidhpbbaaGreatDoorKpWk7
import Derived.Test.YtpcihjdidhpbbaaGreatDoorKpWk8
set_option linter.unusedSimpArgs false
set_option linter.unusedVariables false
open Go.Proofs Go.Shelf
open List
namespace Go.Proofs.YtpcihjdidhpbbaaGreatDoor
open Tryz
open Go.Vc Go.Md
set_option maxRecDepth 100000
set_option maxHeartbeats 4000000
theorem Ug(m:ev)(z:aa×Bool)(w:Ir m=some z):Does prog 46 [pS m] [] (fun r X=>r=.tup [.agg [pS z.1.r,pI z.1.g,pS z.1.a,pS z.1.y,pS z.1.A],pB z.2]/\X=[]):=by
 unfold Ir at w;refine dW 0 63 [.cell 2 84,.tmp 3] func46 fun B=>nA fun A=>?_;refine qS ?_;obtain⟨j,L,w⟩:=zd w;refine sF (SX m ([32]:ev) 5 _ L) ?_;refine da fun _ P _=>?_;obtain⟨h,w⟩:=zh w;obtain⟨M,G,w⟩:=zx w;refine sX (g:=!(decide ((j.length:Int)<4))) (fun a=>S6 (List.take 4 j) [] _ (G a)) ?_;refine cR w fun w=>?_;refine Wp.skip (P _ _ ?_);obtain⟨n,R,b,S,w⟩:=gk w;replace b:∀d,(List.map ex j).getD 0 d=ex n:=b ex;obtain⟨p,T,c,U,w⟩:=gk w;replace c:∀d,(List.map ex j).getD 1 d=ex p:=c ex;obtain⟨t,V,f,W,w⟩:=gk w;replace f:∀d,(List.map ex j).getD 2 d=ex t:=f ex;obtain⟨u,Y,i,Z,w⟩:=gk w;replace i:∀d,(List.map ex j).getD 3 d=ex u:=i ex;obtain⟨C,D,w⟩:=zd w;obtain⟨E,F,w⟩:=zd w;refine dv (plan:=(.rd 0 (.rd 1 (.rd 2 (.rd 4 (.rd 5 (.rd 6 (.rd 8 (.rd 9 (.rd 10 (.rd 11 (.rd 12 (.rd 13 (.fk 3 [0,1,2,4,5,6,8,9,10,11,12,13] (.rd 7 (.rd 14 (.ef 15 [0,1,2,4,5,6,8,9,10,11,12,13,7,14] (.ef 16 [] .nil)))) 15 [0,1,2,4,5,6,8,9,10,11,12,13] (.ef 3 [0,1,2,4,5,6,8,9,10,11,12,13] (.rd 7 (.rd 14 (.ef 16 [] .nil)))))))))))))))))) (by kernel_rfl) rfl (by kernel_rfl) fun e Q v=>?_;suffices k:e [(0,pS m),(2,.ptr 0 0),(3,pB false),(4,lm ex j),(5,.ptr 1 0),(8,pS m),(9,lm ex j),(10,lm ex j),(11,pI (j.length:Int)),(12,pB (decide ((j.length:Int)<4))),(13,pB (decide ((j.length:Int)<4))),(17,pB ((decide ((j.length:Int)<4))||M)),(19,lm ex j),(20,.rp [.s n]),(21,pS n),(22,lm ex C),(23,lm ex j),(24,.rp [.s p]),(25,pS p),(26,pI E),(27,lm ex j),(28,.rp [.s t]),(29,pS t),(30,lm ex j),(31,.rp [.s u]),(32,pS u),(33,.agg [pS n,pI E,pS t,pS u,pS ([])])] [.cells 84 [pS ([]),pI 0,pS ([]),pS ([]),pS ([])],.cells 84 [pS n,pI E,pS t,pS u,pS ([])]]by
  simp only[go_sem,simprocAttr,b,c,f,i];try refine⟨sd,?_⟩
  refine Dr.fk ?_ ?_
  ·
   refine id (Br.callR (av:=?av10) (g:=true) (o:=?o10) [] (fun a=>P9  _ D) (by simp only[go_sem,simprocAttr,b,c,f,i];exact Is.mk) (by simp only[go_sem,simprocAttr,b,c,f,i];exact Is.mk) (by simp only[go_sem,simprocAttr,b,c,f,i];exact Is.mk) (by simp only[go_sem,simprocAttr,b,c,f,i];exact Is.mk) (by simp only[go_sem,simprocAttr,b,c,f,i];exact Is.mk) (by simp only[go_sem,simprocAttr,b,c,f,i]) (by simp only[go_sem,simprocAttr,b,c,f,i]) (by simp only[go_sem,simprocAttr,b,c,f,i]) ?hag10 ?cont10);case hag10=>first|(simp only[go_sem,simprocAttr,b,c,f,i];done)|(simp only[go_sem,simprocAttr,b,c,f,i];exact sd)
   simp only[go_sem,simprocAttr,b,c,f,i];try refine⟨sd,?_⟩
   refine Dr.callF (av:=?av11) (g:=true) (o:=?o11) (fun a=>I4 C p _ F) (by simp only[go_sem,simprocAttr,b,c,f,i];exact Is.mk) (by simp only[go_sem,simprocAttr,b,c,f,i];exact Is.mk) (by simp only[go_sem,simprocAttr,b,c,f,i];exact Is.mk) (by simp only[go_sem,simprocAttr,b,c,f,i];exact Is.mk) (by simp only[go_sem,simprocAttr,b,c,f,i]) (by simp only[go_sem,simprocAttr,b,c,f,i];exact Is.mk) ?cont11;simp only[go_sem,simprocAttr,b,c,f,i];first|refine v.weak _ _ _ _ ?_ k|refine⟨sd,v.weak _ _ _ _ ?_ k⟩
   simp only[go_sem,simprocAttr,b,c,f,i];try exact mA
  ·
   refine Br.run (o:=?o12) (by simp only[go_sem,simprocAttr,b,c,f,i];exact Is.mk) (by simp only[go_sem,simprocAttr,b,c,f,i];exact Is.mk) ?cont12;simp only[go_sem,simprocAttr,b,c,f,i];try refine⟨sd,?_⟩
   refine dc (Br.callR (av:=?av13) (g:=true) (o:=?o13) [] (fun a=>P9  _ D) (by simp only[go_sem,simprocAttr,b,c,f,i];exact Is.mk) (by simp only[go_sem,simprocAttr,b,c,f,i];exact Is.mk) (by simp only[go_sem,simprocAttr,b,c,f,i];exact Is.mk) (by simp only[go_sem,simprocAttr,b,c,f,i];exact Is.mk) (by simp only[go_sem,simprocAttr,b,c,f,i];exact Is.mk) (by simp only[go_sem,simprocAttr,b,c,f,i]) (by simp only[go_sem,simprocAttr,b,c,f,i]) (by simp only[go_sem,simprocAttr,b,c,f,i]) ?hag13 ?cont13);case hag13=>first|(simp only[go_sem,simprocAttr,b,c,f,i];done)|(simp only[go_sem,simprocAttr,b,c,f,i];exact sd)
   simp only[go_sem,simprocAttr,b,c,f,i];try refine⟨sd,?_⟩
   refine Dr.callF (av:=?av14) (g:=true) (o:=?o14) (fun a=>I4 C p _ F) (by simp only[go_sem,simprocAttr,b,c,f,i];exact Is.mk) (by simp only[go_sem,simprocAttr,b,c,f,i];exact Is.mk) (by simp only[go_sem,simprocAttr,b,c,f,i];exact Is.mk) (by simp only[go_sem,simprocAttr,b,c,f,i];exact Is.mk) (by simp only[go_sem,simprocAttr,b,c,f,i]) (by simp only[go_sem,simprocAttr,b,c,f,i];exact Is.mk) ?cont14;simp only[go_sem,simprocAttr,b,c,f,i];first|refine v.weak _ _ _ _ ?_ k|refine⟨sd,v.weak _ _ _ _ ?_ k⟩
   simp only[go_sem,simprocAttr,b,c,f,i];try exact mA
 refine Q _ _ (da fun _ N _=>?_);have A:=And.intro b (And.intro c (And.intro f i));refine q6 ?_;refine cR w fun w=>?_;refine Wp.skip (N _ _ (da fun _ O _=>q6 ?_));refine cR w fun w=>?_;refine Wp.skip (O _ _ ?_);obtain⟨J,q,l,y,w⟩:=gk w;replace l:∀d,(List.map ex j).getD 4 d=ex J:=l ex;obtain⟨x,I,w⟩:=zd w;have A:=And.intro b (And.intro c (And.intro f (And.intro i l)));refine sX (fun a=>T5 J _ I) ?_;refine q6 ?_;exact wQ
theorem Sv(b:ev)(z:aj×Int×Int)(w:yJ b=some z):Does prog 10 [pS b] [] (fun r X=>r=.tup [.agg [lm zc z.1.q],pI z.2.1,pI z.2.2]/\X=[]):=by
 unfold yJ at w;refine dW 0 55 [.cell 2 24,.tmp 3,.tmp 4] func10 fun B=>nA fun A=>?_;refine qS ?_;refine da fun _ D _=>qS ?_;refine cN w (fun w=>?_) fun w=>?_
 .refine qS ?_;refine Wp.ret ?_;simp only[zz,zw];refine z2 ?_;cases w;exact fV
 .refine Wp.skip (D _ _ (qS ?_));refine da fun d j E=>?_;obtain⟨F,c,w⟩:=zo w
  have i:∀s,F s=some z->d [(2,.ptr 0 0),(5,.ptr 1 0)] [.cells 24 [.nils],.cells 24 [.buf 2],.buf 84 5 (List.map zc s)]:=by
   intro l hs;have w:=c _ hs;clear hs;try dsimp only at w|-
   refine j _ _ (da fun _ G _=>?_);obtain⟨M,m,w⟩:=zd w;refine sX (fun a=>Su (aj.mk l) _ m) ?_;refine qS ?_;refine cN w (fun w=>?_) fun w=>?_
   .refine qS ?_;refine Wp.ret ?_;simp only[zz,zw];refine z2 ?_;cases w;exact fV
   .exact Wp.skip (G _ _ (wQ))
  clear j c;refine qS ?_;refine Wp.block (dd 1 0 84 5 rfl rfl ?_);simp only[go_sem,simprocAttr];obtain⟨N,n,w⟩:=ii w;refine Wp.loopN (fun s=>[(0,pS s.1),(2,.ptr 0 0),(5,.ptr 1 0),(6,pI s.2.1)]) (fun s=>[.cells 24 [.nils],.cells 24 [.buf 2],.buf 84 5 (List.map zc s.2.2)]) ?_ w ?_
  .exact fV
  clear w;intro s J w;obtain⟨f,o,g⟩:=s;try dsimp only at w|-
  refine da fun _ p _=>qS ?_;refine cN w (fun w=>?_) fun w=>?_
  .refine Wp.skip (p _ _ (da fun _ t _=>Wp.block ?_));obtain⟨k,u,w⟩:=zd w;refine sX (fun a=>TO f ([10]:ev) _ u) ?_;obtain⟨I,v,w⟩:=zd w;refine sX (fun a=>Ug k.1 _ v) ?_;refine da fun _ C _=>qS ?_;refine cN w (fun w=>?_) fun w=>?_
   .refine qS ?_;refine Wp.ret ?_;simp only[zz,zw];refine z2 ?_;cases w;exact fV
   .refine Wp.skip (C _ _ ?_);obtain⟨L,w⟩:=zh w;refine q6 ?_;refine qR ?_;refine t _ _ (qR ?_);simp only[zz,zw,↓reduceIte];refine⟨(k.2.1,IntKind.i64.wrap (o+1),g++[I.1]),w,?_⟩;exact fV
  .refine Wp.exit ?_;simp only[zz,zw,↓reduceIte];have w:=n _ w;try dsimp only at w
   refine E _ _ _ _ ?_ (i g w);exact fV
theorem U8(b:List aa)(c:List aa)(z:Bool)(w:IW b c=some z):Does prog 47 [lm zc b,lm zc c] [] (fun r X=>r=pB z/\X=[]):=by
 unfold IW at w;refine dW 0 26 [.tmp 4] func47 fun B=>nA fun A=>?_;refine qS ?_;refine da fun _ C _=>qS ?_;refine cR w fun w=>?_;refine Wp.skip (C _ _ (da fun a n D=>?_));obtain⟨E,i,w⟩:=zo w;have j:∀s,E s=some z->a [] []:=by
  intro s hs;have w:=i _ hs;clear hs;try dsimp only at w|-
  exact n _ _ (wQ)
 clear n i;refine qS ?_;refine Wp.block ?_;obtain⟨N,o,w⟩:=zq w;refine fL 0 b.length fun p=>?_;refine Wp.forL (fun g s=>[(0,lm zc b),(1,lm zc c),(12,pI (b.length:Int)),(13,pI (g:Int))]) (fun g s=>[]) wF w ?_;clear w;intro g s G w;try dsimp only at w|-
 refine qS ?_;refine lB zc w p (fun h=>D _ _ _ _ wF (j () (o _ h))) fun k t O M l I m w A _ u=>?_;refine q6 ?_;obtain⟨F,J,f,L,w⟩:=gk w;replace f:∀d,(List.map zc c).getD g d=zc F:=f zc;have A:=And.intro t (And.intro l f);refine dS (pl [(0,none),(1,none),(2,none),(3,none),(4,none),(5,none),(6,none),(7,none),(8,none)]) fun _ v=>v _ _ ?_;refine cR w fun w=>?_;refine Wp.skip (u _ _ (r6 ?_));exact wN () k (m _ w)
theorem SN(b:aj)(c:aj)(z:Bool)(w:Gx b c=some z):Does prog 11 [.agg [lm zc b.q],.agg [lm zc c.q]] [] (fun r X=>r=pB z/\X=[]):=by
 unfold Gx at w;refine dW 0 10 [.tmp 4] func11 fun B=>nA fun A=>?_;refine qS ?_;obtain⟨g,f,w⟩:=zd w;refine sX (fun a=>U8 b.q c.q _ f) ?_;exact wR
theorem UJ(s a b:ev)(n:Int)(z:ev)(w:strings_Replace s a b n=some z):Does prog 12 [pS s,pS a,pS b,pI n] [] (fun r X=>r=pS z/\X=[]):=by obtain⟨⟨c,d⟩,h⟩:=zh w;cases h;obtain rfl:b=[]:=length_eq_zero_iff.1 (by omega);exact Does.replace Tryz.replL Tryz.replE ⟨_,func12,by kernel_rfl,by kernel_rfl⟩ Kj s a n (by omega)
theorem TJ(b:ev)(z:List ev×Int)(w:HS b=some z):Does prog 52 [pS b] [] (fun r X=>r=.tup [lm ex z.1,pI z.2]/\X=[]):=by
 unfold HS at w;refine dW 0 23 [.tmp 2,.tmp 3] func52 fun B=>nA fun A=>?_;refine qS ?_;obtain⟨f,g,w⟩:=zd w;refine sF (PZ b ([10]:ev) _ g) ?_;refine da fun _ i _=>qS ?_;obtain⟨j,k,c,l,w⟩:=gk w;replace c:∀d,(List.map ex f).getD ((IntKind.i64.wrap ((f.length:Int)-1)).toNat) d=ex j:=c ex;have A:=c;refine q6 ?_;refine cN w (fun w=>?_) fun w=>?_
 .obtain⟨m,w⟩:=zh w;exact wQ
 .exact Wp.skip (i _ _ (wQ))
theorem lj(i:ev)(z:ev×Int)(w:Gi i=some z):Does prog 56 [pS i] [] (fun r X=>r=.tup [pS z.1,pI z.2]/\X=[]):=by
 unfold Gi at w;refine dW 0 107 [.tmp 2,.tmp 3] func56 fun B=>nA fun A=>?_;refine qS ?_;refine da fun _ F _=>?_;obtain⟨Q,w⟩:=zh w;obtain⟨R,w⟩:=zh w;refine q6 ?_;refine cR w fun w=>?_;refine Wp.skip (F _ _ (qS ?_));refine da fun d n G=>?_;obtain⟨I,j,w⟩:=zo w;have k:∀s,I s=some z->d [(0,pS i),(4,.buf 0)] [.buf 5 1 (List.map eU s)]:=by
  intro l hs;have w:=j _ hs;clear hs;try dsimp only at w|-
  refine n _ _ (da fun _ J _=>?_);obtain⟨e,t,w⟩:=zd w;refine sX (fun a=>Rz (Go.Vc.strOf l) _ t) ?_;refine cR w fun w=>?_;exact Wp.skip (J _ _ (wQ))
 clear n j;obtain⟨S,w⟩:=zh w;refine q6 ?_;refine Wp.block (dY 4 5 1 rfl ?_);simp only[go_sem,simprocAttr];obtain⟨T,m,w⟩:=ii w;refine Wp.loopN (fun s=>[(0,pS i),(4,.buf 0),(5,pS s.1)]) (fun s=>[.buf 5 1 (List.map eU s.2)]) ?_ w ?_
 .exact fV
 clear w;intro s N w;obtain⟨b,f⟩:=s;try dsimp only at w|-
 refine da fun _ u _=>qS ?_;refine cN w (fun w=>?_) fun w=>?_
 .refine Wp.skip (u _ _ (Wp.block (da fun _ v _=>?_)));obtain⟨o,O,c,w⟩:=mK w;replace c:((b.getD 0 0).toNat:Int)=o:=c;have A:=c;refine q6 ?_;refine cN w (fun w=>?_) fun w=>?_
  .obtain⟨U,w⟩:=zh w;refine q6 ?_;obtain⟨V,w⟩:=zh w;refine q6 ?_;refine Wp.exit ?_;simp only[zz,zw,↓reduceIte];refine⟨(List.drop 1 b,f++[o]),w,?_⟩;simp only[go_sem,simprocAttr,A];try exact mA
  .refine Wp.skip (v _ _ (Wp.block ?_));obtain⟨W,w⟩:=zh w;obtain⟨Y,w⟩:=zh w;refine q6 ?_;refine cN w (fun w=>?_) fun w=>?_
   .obtain⟨p,P,g,w⟩:=mK w;replace g:((b.getD 1 0).toNat:Int)=p:=g;obtain⟨Z,w⟩:=zh w;have A:=And.intro c g;refine q6 ?_;obtain⟨h,w⟩:=zh w;refine r6 ?_;simp only[zz,zw,↓reduceIte];refine⟨(List.drop 2 b,f++[p]),w,?_⟩;simp only[go_sem,simprocAttr,A];try exact mA
   .obtain⟨q,w⟩:=zh w;refine q6 ?_;refine cN w (fun w=>?_) fun w=>?_
    .obtain⟨a0,w⟩:=zh w;refine q6 ?_;obtain⟨x,w⟩:=zh w;refine r6 ?_;simp only[zz,zw,↓reduceIte];refine⟨(List.drop 2 b,f++[10]),w,?_⟩;simp only[go_sem,simprocAttr,A];try exact mA
    .obtain⟨y,w⟩:=zh w;refine q6 ?_;refine cT w fun w=>?_;obtain⟨a1,w⟩:=zh w;obtain⟨L,C,w⟩:=zd w;obtain⟨H,w⟩:=zh w;obtain⟨M,D,w⟩:=zd w;refine dS (pl [(0,none),(1,none),(2,none),(3,none),(4,none),(5,none),(6,none),(7,none),(8,none)]) fun _ E=>?_;refine cD (fun a=>NN ([48,49,50,51,52,53,54,55,56,57,97,98,99,100,101,102]:ev) (List.take (3-2) (List.drop 2 b)) _ C) ?_;refine cD (fun a=>NN ([48,49,50,51,52,53,54,55,56,57,97,98,99,100,101,102]:ev) (List.take (4-3) (List.drop 3 b)) _ D) (E _ _ ?_);obtain⟨K,w⟩:=zh w;refine q6 ?_;obtain⟨a8,w⟩:=zh w;refine r6 ?_;simp only[zz,zw,↓reduceIte];refine⟨(List.drop 4 b,f++[IntKind.u8.wrap (IntKind.i64.wrap ((IntKind.i64.wrap (L*16))+M))]),w,?_⟩;simp only[go_sem,simprocAttr,A];try exact mA
 .refine Wp.exit ?_;simp only[zz,zw,↓reduceIte];have w:=m _ w;try dsimp only at w
  refine G _ _ _ _ ?_ (k f w);exact fV
theorem TK(t:ev)(z:aj×Int×Int)(w:CZ t=some z):Does prog 13 [pS t] [] (fun r X=>r=.tup [.agg [lm zc z.1.q],pI z.2.1,pI z.2.2]/\X=[]):=by
 unfold CZ at w;refine dW 0 111 [.cell 2 24,.tmp 3,.tmp 4] func13 fun B=>nA fun A=>?_;refine qS ?_;refine da fun _ q _=>qS ?_;refine cN w (fun w=>?_) fun w=>?_
 .refine qS ?_;refine Wp.ret ?_;simp only[zz,zw];refine z2 ?_;cases w;exact fV
 .refine Wp.skip (q _ _ (qS ?_));obtain⟨l,a0,w⟩:=zd w;refine sF (TJ t _ a0) ?_;refine da fun x e y=>?_;obtain⟨a6,N,w⟩:=zo w
  have Y:∀s,a6 s=some z->x [(2,.ptr 0 0),(5,.ptr 1 0)] [.cells 24 [.nils],.cells 24 [.buf 2],.buf 84 5 (List.map zc s)]:=by
   intro Z hs;have w:=N _ hs;clear hs;try dsimp only at w|-
   refine e _ _ (da fun _ H _=>?_);obtain⟨aT,K,w⟩:=zd w;refine sX (fun a=>yM (aj.mk Z) _ K) ?_;refine qS ?_;refine cN w (fun w=>?_) fun w=>?_
   .refine qS ?_;refine Wp.ret ?_;simp only[zz,zw];refine z2 ?_;cases w;exact fV
   .exact Wp.skip (H _ _ (wQ))
  clear e N;refine qS ?_;refine Wp.block (dd 1 0 84 5 rfl rfl ?_);simp only[go_sem,simprocAttr];obtain⟨aU,a1,w⟩:=zq w;refine fL 25 l.1.length fun a2=>?_;refine Wp.forL (fun n s=>[(2,.ptr 0 0),(5,.ptr 1 0),(7,pI l.2),(25,lm ex l.1),(26,pI (l.1.length:Int)),(27,pI (n:Int))]) (fun n s=>[.cells 24 [.nils],.cells 24 [.buf 2],.buf 84 5 (List.map zc s)]) wF w ?_;clear w;intro n u aF w;try dsimp only at w|-
  refine qS ?_;refine lB ex w a2 (fun h=>y _ _ _ _ wF (Y u (a1 _ h))) fun a3 k I aG j aH R w A _ ac=>?_;refine q6 ?_;obtain⟨m,ad,w⟩:=zd w;refine sF (SX I ([32]:ev) 5 _ ad) ?_;refine da fun _ af _=>?_;obtain⟨aV,w⟩:=zh w;obtain⟨ag,a4,w⟩:=zx w;refine sX (g:=!((decide ((n:Int)=l.2))||(decide ((m.length:Int)<4)))) (fun a=>S6 (List.take 4 m) [] _ (a4 a)) ?_;refine cN w (fun w=>?_) fun w=>?_
  .refine q6 ?_;refine Wp.ret ?_;simp only[zz,zw];refine z2 ?_;cases w;simp only[go_sem,simprocAttr,A];try exact mA
  .refine Wp.skip (af _ _ ?_);obtain⟨v,aI,b,aJ,w⟩:=gk w;replace b:∀d,(List.map ex m).getD 0 d=ex v:=b ex;obtain⟨J,aK,c,aL,w⟩:=gk w;replace c:∀d,(List.map ex m).getD 1 d=ex J:=c ex;obtain⟨C,aM,f,aN,w⟩:=gk w;replace f:∀d,(List.map ex m).getD 2 d=ex C:=f ex;obtain⟨D,aO,i,aP,w⟩:=gk w;replace i:∀d,(List.map ex m).getD 3 d=ex D:=i ex;obtain⟨M,O,w⟩:=zd w;obtain⟨E,S,w⟩:=zd w;refine dv (plan:=(.rd 0 (.rd 1 (.rd 2 (.rd 4 (.rd 5 (.rd 6 (.rd 8 (.rd 9 (.rd 10 (.rd 11 (.rd 12 (.rd 13 (.fk 3 [0,1,2,4,5,6,8,9,10,11,12,13] (.rd 7 (.rd 14 (.ef 15 [0,1,2,4,5,6,8,9,10,11,12,13,7,14] (.ef 16 [] .nil)))) 15 [0,1,2,4,5,6,8,9,10,11,12,13] (.ef 3 [0,1,2,4,5,6,8,9,10,11,12,13] (.rd 7 (.rd 14 (.ef 16 [] .nil)))))))))))))))))) (by kernel_rfl) rfl (by kernel_rfl) fun aB an G=>?_
   suffices p:aB [(2,.ptr 0 0),(5,.ptr 1 0),(7,pI l.2),(8,pI (n:Int)),(9,pS I),(10,lm ex m),(11,.ptr 3 0),(25,lm ex l.1),(26,pI (l.1.length:Int)),(27,pI (n:Int)),(28,pB (decide ((n:Int)<(l.1.length:Int)))),(29,pI (n:Int)),(30,.rp [.s I]),(31,pS I),(32,pS I),(33,lm ex m),(34,pI (n:Int)),(35,pI l.2),(36,pB (decide ((n:Int)=l.2))),(37,pB (decide ((n:Int)=l.2))),(41,pB ((decide ((n:Int)=l.2))||(decide ((m.length:Int)<4)))),(42,pB ((decide ((n:Int)=l.2))||(decide ((m.length:Int)<4)))),(46,pB (((decide ((n:Int)=l.2))||(decide ((m.length:Int)<4)))||ag)),(49,lm ex m),(50,.rp [.s v]),(51,pS v),(52,lm ex M),(53,lm ex m),(54,.rp [.s J]),(55,pS J),(56,pI E),(57,lm ex m),(58,.rp [.s C]),(59,pS C),(60,lm ex m),(61,.rp [.s D]),(62,pS D),(63,.agg [pS v,pI E,pS C,pS D,pS ([])])] [.cells 24 [.nils],.cells 24 [.buf 2],.buf 84 5 (List.map zc u),.cells 84 [pS v,pI E,pS C,pS D,pS ([])]]by
    simp only[go_sem,simprocAttr,k,j,b,c,f,i];try refine⟨sd,?_⟩
    refine Dr.fk ?_ ?_
    ·
     refine id (Br.callR (av:=?av30) (g:=true) (o:=?o30) [] (fun a=>PV  _ O) (by simp only[go_sem,simprocAttr,k,j,b,c,f,i];exact Is.mk) (by simp only[go_sem,simprocAttr,k,j,b,c,f,i];exact Is.mk) (by simp only[go_sem,simprocAttr,k,j,b,c,f,i];exact Is.mk) (by simp only[go_sem,simprocAttr,k,j,b,c,f,i];exact Is.mk) (by simp only[go_sem,simprocAttr,k,j,b,c,f,i];exact Is.mk) (by simp only[go_sem,simprocAttr,k,j,b,c,f,i]) (by simp only[go_sem,simprocAttr,k,j,b,c,f,i]) (by simp only[go_sem,simprocAttr,k,j,b,c,f,i]) ?hag30 ?cont30);case hag30=>first|(simp only[go_sem,simprocAttr,k,j,b,c,f,i];done)|(simp only[go_sem,simprocAttr,k,j,b,c,f,i];exact sd)
     simp only[go_sem,simprocAttr,k,j,b,c,f,i];try refine⟨sd,?_⟩
     refine Dr.callF (av:=?av31) (g:=true) (o:=?o31) (fun a=>I4 M J _ S) (by simp only[go_sem,simprocAttr,k,j,b,c,f,i];exact Is.mk) (by simp only[go_sem,simprocAttr,k,j,b,c,f,i];exact Is.mk) (by simp only[go_sem,simprocAttr,k,j,b,c,f,i];exact Is.mk) (by simp only[go_sem,simprocAttr,k,j,b,c,f,i];exact Is.mk) (by simp only[go_sem,simprocAttr,k,j,b,c,f,i]) (by simp only[go_sem,simprocAttr,k,j,b,c,f,i];exact Is.mk) ?cont31;simp only[go_sem,simprocAttr,k,j,b,c,f,i];first|refine G.weak _ _ _ _ ?_ p|refine⟨sd,G.weak _ _ _ _ ?_ p⟩
     simp only[go_sem,simprocAttr,k,j,b,c,f,i];try exact mA
    ·
     refine Br.run (o:=?o32) (by simp only[go_sem,simprocAttr,k,j,b,c,f,i];exact Is.mk) (by simp only[go_sem,simprocAttr,k,j,b,c,f,i];exact Is.mk) ?cont32;simp only[go_sem,simprocAttr,k,j,b,c,f,i];try refine⟨sd,?_⟩
     refine dc (Br.callR (av:=?av33) (g:=true) (o:=?o33) [] (fun a=>PV  _ O) (by simp only[go_sem,simprocAttr,k,j,b,c,f,i];exact Is.mk) (by simp only[go_sem,simprocAttr,k,j,b,c,f,i];exact Is.mk) (by simp only[go_sem,simprocAttr,k,j,b,c,f,i];exact Is.mk) (by simp only[go_sem,simprocAttr,k,j,b,c,f,i];exact Is.mk) (by simp only[go_sem,simprocAttr,k,j,b,c,f,i];exact Is.mk) (by simp only[go_sem,simprocAttr,k,j,b,c,f,i]) (by simp only[go_sem,simprocAttr,k,j,b,c,f,i]) (by simp only[go_sem,simprocAttr,k,j,b,c,f,i]) ?hag33 ?cont33);case hag33=>first|(simp only[go_sem,simprocAttr,k,j,b,c,f,i];done)|(simp only[go_sem,simprocAttr,k,j,b,c,f,i];exact sd)
     simp only[go_sem,simprocAttr,k,j,b,c,f,i];try refine⟨sd,?_⟩
     refine Dr.callF (av:=?av34) (g:=true) (o:=?o34) (fun a=>I4 M J _ S) (by simp only[go_sem,simprocAttr,k,j,b,c,f,i];exact Is.mk) (by simp only[go_sem,simprocAttr,k,j,b,c,f,i];exact Is.mk) (by simp only[go_sem,simprocAttr,k,j,b,c,f,i];exact Is.mk) (by simp only[go_sem,simprocAttr,k,j,b,c,f,i];exact Is.mk) (by simp only[go_sem,simprocAttr,k,j,b,c,f,i]) (by simp only[go_sem,simprocAttr,k,j,b,c,f,i];exact Is.mk) ?cont34;simp only[go_sem,simprocAttr,k,j,b,c,f,i];first|refine G.weak _ _ _ _ ?_ p|refine⟨sd,G.weak _ _ _ _ ?_ p⟩
     simp only[go_sem,simprocAttr,k,j,b,c,f,i];try exact mA
   refine an _ _ ?_;have A:=And.intro k (And.intro j (And.intro b (And.intro c (And.intro f i))));refine q6 ?_;refine da fun aC T U=>?_;obtain⟨aw,P,w⟩:=zo w;have L:∀s,aw s=some z->aC [(2,.ptr 0 0),(5,.ptr 1 0),(7,pI l.2),(8,pI (n:Int)),(11,.ptr 3 0),(12,pB s.1),(25,lm ex l.1),(26,pI (l.1.length:Int)),(27,pI (n:Int))] [.cells 24 [.nils],.cells 24 [.buf 2],.buf 84 5 (List.map zc u),.cells 84 [pS v,pI E,pS C,pS D,pS s.2]]:=by
    intro s hs;have w:=P _ hs;clear hs;obtain⟨aS,Q⟩:=s;try dsimp only at w|-
    refine T _ _ (da fun _ ay _=>q6 ?_);refine cN w (fun w=>?_) fun w=>?_
    .refine q6 ?_;refine Wp.ret ?_;simp only[zz,zw];refine z2 ?_;cases w;simp only[go_sem,simprocAttr,A];try exact mA
    .refine Wp.skip (ay _ _ ?_);obtain⟨aW,w⟩:=zh w;refine r6 ?_;refine ac _ _ (r6 ?_);exact wN (u++[(aa.mk v E C D Q)]) a3 (R _ w)
   clear T P;refine q6 ?_;refine cN w (fun w=>?_) fun w=>?_
   .obtain⟨V,aD,F,aE,w⟩:=gk w;replace F:∀d,(List.map ex m).getD 4 d=ex V:=F ex;obtain⟨W,a5,w⟩:=zd w;have A:=And.intro k (And.intro j (And.intro b (And.intro c (And.intro f (And.intro i F)))));refine sX (fun a=>lj V _ a5) ?_;refine r6 ?_;refine U _ _ _ _ ?_ (L (decide (W.2=0),W.1) w);simp only[go_sem,simprocAttr,A];try exact mA
   .refine Wp.skip (U _ _ _ _ ?_ (L (((decide (0<E))&&(decide ((decide ((m.length:Int)=5))=(decide (E=3))))),[]) w));simp only[go_sem,simprocAttr,A];try exact mA
theorem Uw(m:aj)(f:ak)(p:List ax)(b:ev)(z:Bool)(w:ID m f p b=some z):Does prog 3 [.agg [lm zc m.q],.agg [lm za f.F,lm ze f.B,lm za f.E,lm zb f.D],lm zk p,pS b] [] (fun r X=>r=pB z/\X=[]):=by
 unfold ID at w;refine dW 0 135 [.tmp 8] func3 fun B=>nA fun A=>?_;refine qS ?_;refine da fun _ e _=>?_;obtain⟨aZ,Y,w⟩:=zd w;refine sX (fun a=>TI  _ Y) ?_;refine cR w fun w=>?_;refine Wp.skip (e _ _ ?_);obtain⟨h,Z,w⟩:=zd w;obtain⟨c,b7,w⟩:=zd w;refine rS fun _ x=>?_;refine cF (qd f _ Z) ?_;refine cF (lp h p _ b7) (x _ _ ?_);refine da fun y N b8=>?_;obtain⟨H,I,w⟩:=zo w;have O:∀s,H s=some z->y [(3,pS b),(10,.ptr 3 0)] [.cells 24 [.top],.cells 29 [.top,.top,.top,.top],.cells 29 [.top,.top,.top,.top],.cells 24 [lm zc c.2.q]]:=by
  intro s hs;have w:=I _ hs;clear hs;try dsimp only at w|-
  refine N _ _ ?_;obtain⟨K,a0,w⟩:=zd w;obtain⟨P,ay,w⟩:=zd w;refine rS fun _ az=>?_;refine cX (fun a=>PU c.2 _ a0) ?_;refine cX (fun a=>UJ K b [] 1 _ ay) (az _ _ ?_);refine da fun aS Q aA=>?_;obtain⟨aB,J,w⟩:=zo w;have R:∀s,aB s=some z->aS [] []:=by
   intro s hs;have w:=J _ hs;clear hs;try dsimp only at w|-
   exact Q _ _ (wQ)
  clear Q J;refine qS ?_;refine Wp.block ?_;obtain⟨b0,a1,w⟩:=zq w;refine dA 102 fun L=>?_;replace L:[b,P].length<=274877906944:=Nat.le_of_ble_eq_true rfl;refine Wp.forL (fun t s=>[(102,.full (List.map ex [b,P])),(103,pI ([b,P].length:Int)),(104,pI (t:Int))]) (fun t s=>[.cells 24 [.top],.cells 29 [.top,.top,.top,.top],.cells 29 [.top,.top,.top,.top],.cells 24 [lm zc c.2.q]]) wF w ?_;clear w;intro t s aT w;try dsimp only at w|-
  refine qS ?_;refine da fun _ aC _=>Wp.cond rfl ⟨⟩ (fun u=>?_) fun u=>Wp.exit (aA _ _ _ _ wF (R () (a1 _ (jg w (tn u)))));have n:=j7 u;have aD:=iL n L;obtain⟨d,aV,k,aW,S,w⟩:=jj w n;replace k:=k ex;simp only[map_cons,map_nil,ex]at k;refine Wp.skip ?_;simp only[zz];refine aC _ _ (da fun _ aE _=>Wp.block ?_);have A:=And.intro aD k;refine q6 ?_;obtain⟨T,aF,w⟩:=zd w;refine sF (Sv d _ aF) ?_;obtain⟨U,aG,w⟩:=zd w;refine sF (TK d _ aG) ?_;obtain⟨b1,a2,w⟩:=zx w;refine sX (g:=!((!decide (T.2.2=U.2.2))||(!decide (T.2.1=U.2.1)))) (fun a=>SN T.1 U.1 _ (a2 a)) ?_;refine cR w fun w=>?_;refine Wp.skip (aE _ _ (r6 ?_));exact wN () n (S _ w)
 clear N I;refine qS ?_;refine Wp.block ?_;obtain⟨b2,a3,w⟩:=zq w;refine dA 39 fun M=>?_;replace M:[m,c.2].length<=274877906944:=Nat.le_of_ble_eq_true rfl;refine Wp.forL (fun v s=>[(3,pS b),(10,.ptr 3 0),(39,.full (List.map zC [m,c.2])),(40,pI ([m,c.2].length:Int)),(41,pI (v:Int))]) (fun v s=>[.cells 24 [lm zc m.q],.cells 29 [lm za f.F,lm ze f.B,lm za f.E,lm zb f.D],.cells 29 [lm za c.1.F,lm ze c.1.B,lm za c.1.E,lm zb c.1.D],.cells 24 [lm zc c.2.q]]) wF w ?_;clear w;intro v s aU w;try dsimp only at w|-
 refine qS ?_;refine da fun _ aH _=>Wp.cond rfl ⟨⟩ (fun C=>?_) fun C=>Wp.exit (b8 _ _ _ _ wF (O () (a3 _ (jg w (tn C)))));have i:=j7 C;have V:=iL i M;obtain⟨o,aX,j,aY,l,w⟩:=jj w i;replace j:=j zC;simp only[map_cons,map_nil,zC]at j;refine Wp.skip ?_;simp only[zz];refine aH _ _ (da fun _ G _=>Wp.block ?_);have A:=And.intro V j;refine q6 ?_;obtain⟨W,a4,w⟩:=zd w;refine sX (fun a=>Tz o _ a4) ?_;refine da fun _ aI _=>?_;obtain⟨b3,a5,w⟩:=zd w;refine sX (fun a=>yM o _ a5) ?_;refine q6 ?_;refine cN w (fun w=>?_) fun w=>?_
 .refine da fun _ aJ _=>q6 ?_;refine cR w fun w=>?_;refine Wp.skip (aJ _ _ (Wp.exit (G _ _ (r6 ?_))));exact wN () i (l _ w)
 .refine Wp.skip (aI _ _ (da fun _ aK _=>?_));obtain⟨b4,a6,w⟩:=zd w;refine sX (fun a=>PU o _ a6) ?_;refine cN w (fun w=>?_) fun w=>?_
  .refine da fun _ aL _=>q6 ?_;refine cR w fun w=>?_;refine Wp.skip (aL _ _ (Wp.exit (G _ _ (r6 ?_))));exact wN () i (l _ w)
  .refine Wp.skip (aK _ _ ?_);obtain⟨aM,a7,w⟩:=zd w;refine sF (Sv W.1 _ a7) ?_;obtain⟨b5,a8,w⟩:=zx w;obtain⟨aN,a9,w⟩:=jK w;obtain⟨b6,ac,w⟩:=zx w;have A:=And.intro V (And.intro j a9);refine rS fun _ aO=>?_;refine cX (g:=!(!decide (W.2=0))) (fun a=>PU o _ (a8 a)) ?_;refine cX (g:=!aN) (fun a=>SN o aM.1 _ (ac a)) (aO _ _ ?_);refine cR w fun w=>?_;refine Wp.skip (G _ _ (r6 ?_));exact wN () i (l _ w)
end Go.Proofs.YtpcihjdidhpbbaaGreatDoor
