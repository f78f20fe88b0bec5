/- That the code does what the models say (part 3). -/
import Derived.Test.YtbcjkdopkcbblaaGreatDoorEiWk0
import Derived.Test.YtbcjkdopkcbblaaGreatDoorEiWk1
import Derived.Test.YtbcjkdopkcbblaaGreatDoorEiWk2
set_option linter.unusedSimpArgs false
set_option linter.unusedVariables false
open Go.Proofs Go.Shelf
open List
namespace Go.Proofs.YtbcjkdopkcbblaaGreatDoor
open Tryz
open Go.Vc Go.Md
set_option maxRecDepth 100000
set_option maxHeartbeats 4000000
theorem SE(l:ah)(m:List ae)(v:Bool)(z:List ae)(hm:Ib l m v=some z):Does prog 7 [.agg [lm za l.y,lm zc l.h,lm za l.r,lm zb l.o],lm zf m,pB v] [] (fun r X=>r=lm zf z/\X=[]):=by
 unfold Ib at hm
 refine dW 0 36 [.tmp 6] func7 fun B=>nA fun hA=>?_
 refine qS ?_
 refine ca fun _ V _=>qS ?_
 refine cR hm fun hm=>?_
 refine Wp.skip (V _ _ (qS ?_))
 refine ca fun K7 S W=>?_
 obtain⟨Y,J,hm⟩:=zj hm
 have P:∀s,Y s=some z->K7 [(7,.buf 1)] [.cells 26 [.top,.top,.top,.top],.buf 61 10 (List.map zf s)]:=by
  intro a0 hs;have hm:=J _ hs;clear hs
  try dsimp only at hm|-
  exact S _ _ (wQ)
 clear S J;obtain⟨a3,hm⟩:=zh hm;refine q6 ?_;refine Wp.block (cd 7 61 10 rfl ?_);simp only[go_sem,simprocAttr];obtain⟨a4,Q,hm⟩:=zm hm
 refine fL 16 ((List.take ((min (m.length:Int) 12).toNat) m).length) fun R=>?_
 refine Wp.forL (fun F s=>[(3,.ptr 0 0),(7,.buf 1),(16,lm zf (List.take ((min (m.length:Int) 12).toNat) m)),(17,pI ((List.take ((min (m.length:Int) 12).toNat) m).length:Int)),(18,pI (F:Int))]) (fun F s=>[.cells 26 [lm za l.y,lm zc l.h,lm za l.r,lm zb l.o],.buf 61 10 (List.map zf s)]) wF hm ?_;clear hm;intro F p a1 hm
 try dsimp only at hm|-
 refine qS ?_
 refine lB zf hm R (fun h=>W _ _ _ _ wF (P p (Q _ h))) fun G f j a5 c a2 I hm hA _ L=>?_
 refine q6 ?_;obtain⟨M,N,hm⟩:=zd hm;obtain⟨a6,hm⟩:=zh hm;obtain⟨T,O,hm⟩:=zd hm
 refine dp (plan:=(.rd 0 (.rd 1 (.rd 3 (.fk 2 [0,3] (.ef 4 [0,1] (.ef 5 [0] (.rd 6 (.rd 7 .nil)))) 4 [0,1] (.ef 2 [0,3] (.ef 5 [0] (.rd 6 (.rd 7 .nil))))))))) (by kernel_rfl) rfl (by kernel_rfl) fun Z U t=>?_
 suffices n:Z [(3,.ptr 0 0),(7,.buf 1),(9,.ptr 2 0),(16,lm zf (List.take ((min (m.length:Int) 12).toNat) m)),(17,pI ((List.take ((min (m.length:Int) 12).toNat) m).length:Int)),(18,pI (F:Int)),(19,pB (decide ((F:Int)<((List.take ((min (m.length:Int) 12).toNat) m).length:Int)))),(20,.rp [.i .i64 j.u,.s j.i.a,.s j.i.B,.b j.i.C,.s j.z.k,.s j.z.Value,.s j.q.w,.s j.q.a,.b j.q.D,.b j.q.E]),(21,.agg [pI j.u,pS j.i.a,pS j.i.B,pB j.i.C,pS j.z.k,pS j.z.Value,pS j.q.w,pS j.q.a,pB j.q.D,pB j.q.E]),(22,.agg [lm za l.y,lm zc l.h,lm za l.r,lm zb l.o]),(23,.buf 1),(24,.top),(25,.agg [pI j.u,pS j.i.a,pS j.i.B,pB j.i.C,pS j.z.k,pS j.z.Value,pS j.q.w,pS j.q.a,pB j.q.D,pB j.q.E]),(26,.full (List.map zf [j])),(27,.buf 3),(28,pI T),(29,pB (decide (T=0)))] [.cells 26 [lm za l.y,lm zc l.h,lm za l.r,lm zb l.o],.buf 61 10 (List.map zf p),.cells 61 [pI j.u,pS j.i.a,pS j.i.B,pB j.i.C,pS j.z.k,pS j.z.Value,pS j.q.w,pS j.q.a,pB j.q.D,pB j.q.E],.buf 61 10 (List.map zf (M++[j]))]by
  simp only[go_sem,simprocAttr,f,c]
  try refine⟨sL,?_⟩
  refine Dr.fk ?_ ?_
  ·
   refine id (da (av:=?av15) (o:=?o15) (Sj p _ N) (Qj (fun _=>rfl) _) (by simp only[go_sem,simprocAttr,f,c];exact Is.mk) (by simp only[go_sem,simprocAttr,f,c];exact Is.mk) (by simp only[go_sem,simprocAttr,f,c];exact Is.mk) (by simp only[go_sem,simprocAttr,f,c];exact Is.mk) (by simp only[go_sem,simprocAttr,f,c]) (by simp only[go_sem,simprocAttr,f,c]) ?cont15);simp only[go_sem,simprocAttr,f,c]
   try refine⟨sL,?_⟩
   refine Dr.callF (av:=?av16) (g:=true) (o:=?o16) (fun hg=>RV l (M++[j]) _ O) (by simp only[go_sem,simprocAttr,f,c];exact Is.mk) (by simp only[go_sem,simprocAttr,f,c];exact Is.mk) (by simp only[go_sem,simprocAttr,f,c];exact Is.mk) (by simp only[go_sem,simprocAttr,f,c,lm,map_append,map_cons,map_nil];exact Is.mk) (by simp only[go_sem,simprocAttr,f,c]) (by simp only[go_sem,simprocAttr,f,c];exact Is.mk) ?cont16;simp only[go_sem,simprocAttr,f,c]
   first|refine t.weak _ _ _ _ ?_ n|refine⟨sL,t.weak _ _ _ _ ?_ n⟩
   simp only[go_sem,simprocAttr,f,c]
   try exact qz
  ·
   refine Br.run (o:=?o17) (by simp only[go_sem,simprocAttr,f,c];exact Is.mk) (by simp only[go_sem,simprocAttr,f,c];exact Is.mk) ?cont17;simp only[go_sem,simprocAttr,f,c]
   try refine⟨sL,?_⟩
   refine ce (da (av:=?av18) (o:=?o18) (Sj p _ N) (Qj (fun _=>rfl) _) (by simp only[go_sem,simprocAttr,f,c];exact Is.mk) (by simp only[go_sem,simprocAttr,f,c];exact Is.mk) (by simp only[go_sem,simprocAttr,f,c];exact Is.mk) (by simp only[go_sem,simprocAttr,f,c];exact Is.mk) (by simp only[go_sem,simprocAttr,f,c]) (by simp only[go_sem,simprocAttr,f,c]) ?cont18);simp only[go_sem,simprocAttr,f,c]
   try refine⟨sL,?_⟩
   refine Dr.callF (av:=?av19) (g:=true) (o:=?o19) (fun hg=>RV l (M++[j]) _ O) (by simp only[go_sem,simprocAttr,f,c];exact Is.mk) (by simp only[go_sem,simprocAttr,f,c];exact Is.mk) (by simp only[go_sem,simprocAttr,f,c];exact Is.mk) (by simp only[go_sem,simprocAttr,f,c,lm,map_append,map_cons,map_nil];exact Is.mk) (by simp only[go_sem,simprocAttr,f,c]) (by simp only[go_sem,simprocAttr,f,c];exact Is.mk) ?cont19;simp only[go_sem,simprocAttr,f,c]
   first|refine t.weak _ _ _ _ ?_ n|refine⟨sL,t.weak _ _ _ _ ?_ n⟩
   simp only[go_sem,simprocAttr,f,c]
   try exact qz
 refine U _ _ (cN hm (fun hm=>?_) fun hm=>?_)
 .obtain⟨a7,hm⟩:=zh hm
  refine r6 ?_;refine L _ _ (r6 ?_);exact wN (p++[j]) G (I _ hm)
 .refine Wp.skip (L _ _ (r6 ?_))
  exact wN p G (I _ hm)
theorem Tn(b:Int)(z:Bool)(hm:Ma b=some z):Does prog 154 [.p (.i .u8 b)] [] (fun r X=>r=pB z/\X=[]):=by
 unfold Ma at hm
 refine dW 0 9 [.tmp 2] func154 fun B=>nA fun hA=>?_
 refine qS ?_;exact wQ
theorem SQ(c:dy)(b:Int)(z:Bool)(hm:LY c b=some z):Does prog 41 [pS c,pI b,.fn 154 []] [] (fun r X=>r=pB z/\X=[]):=by
 unfold LY at hm
 refine dW 0 28 [.tmp 6] func41 fun B=>nA fun hA=>?_
 refine qS ?_
 refine ca fun K2 o v=>?_
 obtain⟨w,g,hm⟩:=zj hm
 have k:∀s,w s=some z->K2 [(0,pS c),(1,pI b)] []:=by
  intro s hs;have hm:=g _ hs;clear hs
  try dsimp only at hm|-
  exact o _ _ (wQ)
 clear o g;refine qS ?_;refine Wp.block ?_;obtain⟨J,p,hm⟩:=zm hm
 refine fL 0 c.length fun t=>?_
 refine Wp.forL (fun i s=>[(0,pS c),(1,pI b),(2,.fn 154 []),(7,pI (i:Int))]) (fun i s=>[]) wF hm ?_;clear hm;intro i s G hm
 try dsimp only at hm|-
 refine ca fun _ C _=>qS ?_
 refine Wp.cond rfl ⟨⟩ (fun j=>?_) fun j=>Wp.exit (v _ _ _ _ wF (k () (p _ (p8 hm (u2 j)))))
 have f:=tO j;have D:=qc f t;obtain⟨E,I,l,m,n,hm⟩:=p9 hm f;clear l;refine Wp.skip ?_;simp only[zx];refine C _ _ (ca fun _ F _=>Wp.block ?_);obtain⟨L,u,hm⟩:=zd hm;have hA:=And.intro D m;refine sX (fun hg=>Tn (E.toNat:Int) _ u) ?_
 refine cR hm fun hm=>?_
 refine Wp.skip (F _ _ (r6 ?_));exact wN () f (n _ hm)
theorem RA(b:dy)(z:Bool)(hm:Gu b=some z):Does prog 116 [pS b] [] (fun r X=>r=pB z/\X=[]):=by
 unfold Gu at hm
 refine dW 0 9 [.tmp 2] func116 fun B=>nA fun hA=>?_
 refine qS ?_;obtain⟨f,c,hm⟩:=zX hm;refine sX (g:=!(decide (b=[]))) (fun hg=>SQ b 1000 _ (c hg)) ?_;exact wR
theorem Ub(b:aa)(z:Int)(hm:Mr b=some z):Does prog 72 [.agg [pS b.k,pS b.Value],.fn 13 []] [] (fun r X=>r=pI z/\X=[]):=by
 unfold Mr at hm
 refine dW 0 14 [.tmp 4] func72 fun B=>nA fun hA=>?_
 refine qS ?_
 refine ca fun _ g _=>?_
 obtain⟨j,c,hm⟩:=zd hm;refine sX (fun hg=>DW b.k _ c) ?_
 refine cR hm fun hm=>?_
 refine Wp.skip (g _ _ (ca fun _ i _=>?_));obtain⟨l,f,hm⟩:=zd hm;refine sX (fun hg=>RA b.Value _ f) ?_
 refine cR hm fun hm=>?_
 exact Wp.skip (i _ _ (wQ))
theorem Te(b:aa)(z:Int)(hm:Iz b=some z):Does prog 71 [.agg [pS b.k,pS b.Value]] [] (fun r X=>r=pI z/\X=[]):=by
 unfold Iz at hm
 refine dW 0 5 [.tmp 2] func71 fun B=>nA fun hA=>?_
 refine qS ?_;obtain⟨f,c,hm⟩:=zd hm;refine sX (fun hg=>Ub b _ c) ?_;exact wR
theorem GC(b:aa)(z:dy)(hm:s9 b=some z):Does prog 73 [.agg [pS b.k,pS b.Value]] [] (fun r X=>r=pS z/\X=[]):=by
 unfold s9 at hm
 refine dW 0 5 [.tmp 2] func73 fun B=>nA fun hA=>?_
 refine qS ?_;exact wQ
theorem Uz(b:List aa)(z:Int)(hm:Je b=some z):Does prog 70 [lm za b,.fn 71 [],.fn 73 []] [] (fun r X=>r=pI z/\X=[]):=by
 unfold Je at hm
 refine dW 0 39 [.tmp 6] func70 fun B=>nA fun hA=>?_
 refine qS ?_
 refine ca fun K2 t G=>?_
 obtain⟨I,j,hm⟩:=zj hm
 have m:∀s,I s=some z->K2 [] []:=by
  intro s hs;have hm:=j _ hs;clear hs
  try dsimp only at hm|-
  exact t _ _ (wQ)
 clear t j;refine qS ?_;refine Wp.block ?_;obtain⟨R,v,hm⟩:=zm hm
 refine fL 0 b.length fun n=>?_
 refine Wp.forL (fun c s=>[(0,lm za b),(1,.fn 71 []),(2,.fn 73 []),(10,lm za b),(11,pI (b.length:Int)),(12,pI (c:Int))]) (fun c s=>[]) wF hm ?_;clear hm;intro c s N hm
 try dsimp only at hm|-
 refine qS ?_
 refine lB za hm n (fun h=>G _ _ _ _ wF (m () (v _ h))) fun w J u P o O p hm hA _ L=>?_
 refine q6 ?_
 refine ca fun _ M _=>?_
 obtain⟨S,C,hm⟩:=zd hm;refine sX (fun hg=>Te u _ C) ?_;refine q6 ?_
 refine cR hm fun hm=>?_
 refine Wp.skip (M _ _ ?_);obtain⟨T,D,hm⟩:=zX hm;obtain⟨Q,hm⟩:=zh hm;obtain⟨U,E,hm⟩:=zX hm;have f:=Dz (l:=b) (e:=za) (d:=(aa.mk [] [])) (i:=(IntKind.i64.wrap ((c:Int)-1)).toNat);simp only[za,map_nil]at f;have hA:=And.intro J (And.intro o f)
 refine dS (pl [(0,none),(1,none),(2,none),(3,none),(4,none),(5,none),(6,none),(7,none),(8,none),(9,none),(10,none),(11,none),(12,none),(13,none),(14,none)]) fun _ F=>?_
 refine cD (g:=decide (0<(c:Int))) (fun hg=>GC u _ (D hg)) ?_;refine cD (g:=decide (0<(c:Int))) (fun hg=>GC (aa.mk ((b.getD ((IntKind.i64.wrap ((c:Int)-1)).toNat) (aa.mk [] [])).k) ((b.getD ((IntKind.i64.wrap ((c:Int)-1)).toNat) (aa.mk [] [])).Value)) _ (E hg)) (F _ _ ?_)
 refine cR hm fun hm=>?_
 refine Wp.skip (L _ _ (r6 ?_));exact wN () w (p _ hm)
theorem Td(b:Int)(z:Bool)(hm:L2 b=some z):Does prog 156 [.p (.i .u8 b)] [] (fun r X=>r=pB z/\X=[]):=by
 unfold L2 at hm
 refine dW 0 29 [.tmp 2] func156 fun B=>nA fun hA=>?_
 refine qS ?_;obtain⟨j,c,hm⟩:=zd hm;obtain⟨l,f,hm⟩:=zX hm
 refine rS fun _ k=>?_
 refine cX (fun hg=>OZ b _ c) ?_;refine cX (g:=!(j||((decide (65<=b))&&(decide (b<=90))))) (fun hg=>RB b _ (f hg)) (k _ _ ?_);exact wR
theorem SW(c:dy)(b:Int)(z:Bool)(hm:LZ c b=some z):Does prog 41 [pS c,pI b,.fn 156 []] [] (fun r X=>r=pB z/\X=[]):=by
 unfold LZ at hm
 refine dW 0 28 [.tmp 6] func41 fun B=>nA fun hA=>?_
 refine qS ?_
 refine ca fun K2 o v=>?_
 obtain⟨w,g,hm⟩:=zj hm
 have k:∀s,w s=some z->K2 [(0,pS c),(1,pI b)] []:=by
  intro s hs;have hm:=g _ hs;clear hs
  try dsimp only at hm|-
  exact o _ _ (wQ)
 clear o g;refine qS ?_;refine Wp.block ?_;obtain⟨J,p,hm⟩:=zm hm
 refine fL 0 c.length fun t=>?_
 refine Wp.forL (fun i s=>[(0,pS c),(1,pI b),(2,.fn 156 []),(7,pI (i:Int))]) (fun i s=>[]) wF hm ?_;clear hm;intro i s G hm
 try dsimp only at hm|-
 refine ca fun _ C _=>qS ?_
 refine Wp.cond rfl ⟨⟩ (fun j=>?_) fun j=>Wp.exit (v _ _ _ _ wF (k () (p _ (p8 hm (u2 j)))))
 have f:=tO j;have D:=qc f t;obtain⟨E,I,l,m,n,hm⟩:=p9 hm f;clear l;refine Wp.skip ?_;simp only[zx];refine C _ _ (ca fun _ F _=>Wp.block ?_);obtain⟨L,u,hm⟩:=zd hm;have hA:=And.intro D m;refine sX (fun hg=>Td (E.toNat:Int) _ u) ?_
 refine cR hm fun hm=>?_
 refine Wp.skip (F _ _ (r6 ?_));exact wN () f (n _ hm)
theorem SI(b:dy)(z:Bool)(hm:H9 b=some z):Does prog 118 [pS b] [] (fun r X=>r=pB z/\X=[]):=by
 unfold H9 at hm
 refine dW 0 15 [.tmp 2] func118 fun B=>nA fun hA=>?_
 refine qS ?_;refine qS ?_;obtain⟨f,c,hm⟩:=zd hm;refine sX (fun hg=>SW b 40 _ c) ?_;exact wR
theorem OT(b:dy)(z:Bool)(hm:DI b=some z):Does prog 78 [pS b] [] (fun r X=>r=pB z/\X=[]):=by
 unfold DI at hm
 refine dW 0 19 [.tmp 2] func78 fun B=>nA fun hA=>?_
 refine qS ?_
 refine ca fun K2 k t=>?_
 obtain⟨u,c,hm⟩:=zj hm
 have i:∀s,u s=some z->K2 [(0,pS b)] []:=by
  intro s hs;have hm:=c _ hs;clear hs
  try dsimp only at hm|-
  exact k _ _ (wQ)
 clear k c;obtain⟨f,l,hm⟩:=zd hm;refine sF (O4 b ([47]:dy) _ l) ?_;refine Wp.block ?_;obtain⟨G,m,hm⟩:=zm hm
 refine fL 6 f.length fun n=>?_
 refine Wp.forL (fun g s=>[(0,pS b),(6,lm dB f),(7,pI (f.length:Int)),(8,pI (g:Int))]) (fun g s=>[]) wF hm ?_;clear hm;intro g s C hm
 try dsimp only at hm|-
 refine qS ?_
 refine lB dB hm n (fun h=>t _ _ _ _ wF (i () (m _ h))) fun o I v F D E j hm hA _ w=>?_
 refine q6 ?_;obtain⟨J,p,hm⟩:=zd hm;refine sX (fun hg=>SI v _ p) ?_
 refine cR hm fun hm=>?_
 refine Wp.skip (w _ _ (r6 ?_));exact wN () o (j _ hm)
theorem Pa(b:ab)(z:Int)(hm:CD b=some z):Does prog 74 [.agg [pS b.a,pS b.B,pB b.C]] [] (fun r X=>r=pI z/\X=[]):=by
 unfold CD at hm
 refine dW 0 11 [.tmp 2] func74 fun B=>nA fun hA=>?_
 refine qS ?_
 refine ca fun _ f _=>?_
 obtain⟨i,c,hm⟩:=zd hm;refine sX (fun hg=>OT b.a _ c) ?_
 refine cR hm fun hm=>?_
 refine Wp.skip (f _ _ (ca fun _ g _=>qS ?_))
 refine cR hm fun hm=>?_
 exact Wp.skip (g _ _ (wQ))
theorem TQ(b:dy)(c:List (dy×Bool))(z:Bool)(hm:IU b c=some z):Does prog 76 [pS b,.ptr 0 0] [.cells 95 [.mp 1],.mp false (zl Dt.s eL c)] (fun r X=>r=pB z/\X=[.cells 95 [.mp 1],.mp false (zl Dt.s eL c)]):=by
 unfold IU at hm
 refine dW 2 8 [.tmp 3] func76 fun B=>nA fun hA=>?_
 refine qS ?_;obtain⟨j,i,hm⟩:=il hm;have f:=iC (e:=eL) dQ c b false;have g:=iD (e:=eL) dQ c b;simp only[i,eL,map_nil]at f g;have hA:=And.intro f g;exact wQ
theorem Tt(b:dy)(c:List (dy×Bool))(z:Bool)(hm:GA b c=some z):Does prog 75 [pS b,.fn 76 [.ptr 0 0]] [.cells 95 [.mp 1],.mp false (zl Dt.s eL c)] (fun r X=>r=pB z/\X=[.cells 95 [.mp 1],.mp false (zl Dt.s eL c)]):=by
 unfold GA at hm
 refine dW 2 24 [.tmp 4] func75 fun B=>nA fun hA=>?_
 refine qS ?_
 refine ca fun K2 p w=>?_
 obtain⟨C,j,hm⟩:=zj hm
 have l:∀s,C s=some z->K2 [] [.cells 95 [.mp 1],.mp false (zl Dt.s eL c)]:=by
  intro s hs;have hm:=j _ hs;clear hs
  try dsimp only at hm|-
  exact p _ _ (wQ)
 clear p j;refine qS ?_;refine Wp.block ?_;obtain⟨M,t,hm⟩:=zm hm
 refine fL 0 b.length fun u=>?_
 refine Wp.forL (fun i s=>[(0,pS b),(1,.fn 76 [.ptr 0 0]),(5,pI (i:Int))]) (fun i s=>[.cells 95 [.mp 1],.mp false (zl Dt.s eL c)]) wF hm ?_;clear hm;intro i s I hm
 try dsimp only at hm|-
 refine ca fun _ D _=>qS ?_
 refine Wp.cond rfl ⟨⟩ (fun k=>?_) fun k=>Wp.exit (w _ _ _ _ wF (l () (t _ (p8 hm (u2 k)))))
 have f:=tO k;have E:=qc f u;obtain⟨F,J,m,n,o,hm⟩:=p9 hm f;clear m;refine Wp.skip ?_;simp only[zx];refine D _ _ (ca fun _ G _=>Wp.block ?_);obtain⟨L,hm⟩:=zh hm;obtain⟨N,v,hm⟩:=zX hm;have hA:=And.intro E n;refine sQ (g:=decide ((F.toNat:Int)=47)) [0,1] (fun hg=>TQ (List.take i b) c _ (v hg)) ?_
 refine cR hm fun hm=>?_
 refine Wp.skip (G _ _ (r6 ?_));exact wN () f (o _ hm)
theorem Ph(b:aa)(z:Int)(hm:CI b=some z):Does prog 72 [.agg [pS b.k,pS b.Value],.fn 78 []] [] (fun r X=>r=pI z/\X=[]):=by
 unfold CI at hm
 refine dW 0 14 [.tmp 4] func72 fun B=>nA fun hA=>?_
 refine qS ?_
 refine ca fun _ g _=>?_
 obtain⟨j,c,hm⟩:=zd hm;refine sX (fun hg=>OT b.k _ c) ?_
 refine cR hm fun hm=>?_
 refine Wp.skip (g _ _ (ca fun _ i _=>?_));obtain⟨l,f,hm⟩:=zd hm;refine sX (fun hg=>RA b.Value _ f) ?_
 refine cR hm fun hm=>?_
 exact Wp.skip (i _ _ (wQ))
theorem Tf(b:aa)(z:Int)(hm:Iq b=some z):Does prog 77 [.agg [pS b.k,pS b.Value]] [] (fun r X=>r=pI z/\X=[]):=by
 unfold Iq at hm
 refine dW 0 5 [.tmp 2] func77 fun B=>nA fun hA=>?_
 refine qS ?_;obtain⟨f,c,hm⟩:=zd hm;refine sX (fun hg=>Ph b _ c) ?_;exact wR
theorem UA(b:List aa)(z:Int)(hm:G8 b=some z):Does prog 70 [lm za b,.fn 77 [],.fn 73 []] [] (fun r X=>r=pI z/\X=[]):=by
 unfold G8 at hm
 refine dW 0 39 [.tmp 6] func70 fun B=>nA fun hA=>?_
 refine qS ?_
 refine ca fun K2 t G=>?_
 obtain⟨I,j,hm⟩:=zj hm
 have m:∀s,I s=some z->K2 [] []:=by
  intro s hs;have hm:=j _ hs;clear hs
  try dsimp only at hm|-
  exact t _ _ (wQ)
 clear t j;refine qS ?_;refine Wp.block ?_;obtain⟨R,v,hm⟩:=zm hm
 refine fL 0 b.length fun n=>?_
 refine Wp.forL (fun c s=>[(0,lm za b),(1,.fn 77 []),(2,.fn 73 []),(10,lm za b),(11,pI (b.length:Int)),(12,pI (c:Int))]) (fun c s=>[]) wF hm ?_;clear hm;intro c s N hm
 try dsimp only at hm|-
 refine qS ?_
 refine lB za hm n (fun h=>G _ _ _ _ wF (m () (v _ h))) fun w J u P o O p hm hA _ L=>?_
 refine q6 ?_
 refine ca fun _ M _=>?_
 obtain⟨S,C,hm⟩:=zd hm;refine sX (fun hg=>Tf u _ C) ?_;refine q6 ?_
 refine cR hm fun hm=>?_
 refine Wp.skip (M _ _ ?_);obtain⟨T,D,hm⟩:=zX hm;obtain⟨Q,hm⟩:=zh hm;obtain⟨U,E,hm⟩:=zX hm;have f:=Dz (l:=b) (e:=za) (d:=(aa.mk [] [])) (i:=(IntKind.i64.wrap ((c:Int)-1)).toNat);simp only[za,map_nil]at f;have hA:=And.intro J (And.intro o f)
 refine dS (pl [(0,none),(1,none),(2,none),(3,none),(4,none),(5,none),(6,none),(7,none),(8,none),(9,none),(10,none),(11,none),(12,none),(13,none),(14,none)]) fun _ F=>?_
 refine cD (g:=decide (0<(c:Int))) (fun hg=>GC u _ (D hg)) ?_;refine cD (g:=decide (0<(c:Int))) (fun hg=>GC (aa.mk ((b.getD ((IntKind.i64.wrap ((c:Int)-1)).toNat) (aa.mk [] [])).k) ((b.getD ((IntKind.i64.wrap ((c:Int)-1)).toNat) (aa.mk [] [])).Value)) _ (E hg)) (F _ _ ?_)
 refine cR hm fun hm=>?_
 refine Wp.skip (L _ _ (r6 ?_));exact wN () w (p _ hm)
theorem RZ(b:ai)(z:Int)(hm:GW b=some z):Does prog 80 [.agg [pS b.w,pS b.a,pB b.D,pB b.E]] [] (fun r X=>r=pI z/\X=[]):=by
 unfold GW at hm
 refine dW 0 13 [.tmp 2] func80 fun B=>nA fun hA=>?_
 refine qS ?_
 refine ca fun _ i _=>?_
 obtain⟨j,c,hm⟩:=zd hm;obtain⟨l,f,hm⟩:=zX hm
 refine rS fun _ k=>?_
 refine cX (fun hg=>DW b.w _ c) ?_;refine cX (g:=!(!j)) (fun hg=>OT b.a _ (f hg)) (k _ _ ?_)
 refine cR hm fun hm=>?_
 exact Wp.skip (i _ _ (wQ))
theorem L4(b:ai)(z:dy)(hm:yV b=some z):Does prog 81 [.agg [pS b.w,pS b.a,pB b.D,pB b.E]] [] (fun r X=>r=pS z/\X=[]):=by
 unfold yV at hm
 refine dW 0 5 [.tmp 2] func81 fun B=>nA fun hA=>?_
 refine qS ?_;exact wQ
theorem Uy(b:List ai)(z:Int)(hm:G7 b=some z):Does prog 79 [lm zb b,.fn 80 [],.fn 81 []] [] (fun r X=>r=pI z/\X=[]):=by
 unfold G7 at hm
 refine dW 0 39 [.tmp 6] func79 fun B=>nA fun hA=>?_
 refine qS ?_
 refine ca fun K2 p J=>?_
 obtain⟨L,j,hm⟩:=zj hm
 have k:∀s,L s=some z->K2 [] []:=by
  intro s hs;have hm:=j _ hs;clear hs
  try dsimp only at hm|-
  exact p _ _ (wQ)
 clear p j;refine qS ?_;refine Wp.block ?_;obtain⟨T,u,hm⟩:=zm hm
 refine fL 0 b.length fun m=>?_
 refine Wp.forL (fun c s=>[(0,lm zb b),(1,.fn 80 []),(2,.fn 81 []),(10,lm zb b),(11,pI (b.length:Int)),(12,pI (c:Int))]) (fun c s=>[]) wF hm ?_;clear hm;intro c s P hm
 try dsimp only at hm|-
 refine qS ?_
 refine lB zb hm m (fun h=>J _ _ _ _ wF (k () (u _ h))) fun v M t R n Q o hm hA _ N=>?_
 refine q6 ?_
 refine ca fun _ O _=>?_
 obtain⟨U,C,hm⟩:=zd hm;refine sX (fun hg=>RZ t _ C) ?_;refine q6 ?_
 refine cR hm fun hm=>?_
 refine Wp.skip (O _ _ ?_);obtain⟨V,F,hm⟩:=zX hm;obtain⟨S,hm⟩:=zh hm;obtain⟨W,G,hm⟩:=zX hm;have f:=Dz (l:=b) (e:=zb) (d:=(ai.mk [] [] false false)) (i:=(IntKind.i64.wrap ((c:Int)-1)).toNat);simp only[zb,map_nil]at f;have hA:=And.intro M (And.intro n f)
 refine dS (pl [(0,none),(1,none),(2,none),(3,none),(4,none),(5,none),(6,none),(7,none),(8,none),(9,none),(10,none),(11,none),(12,none),(13,none),(14,none)]) fun _ I=>?_
 refine cD (g:=decide (0<(c:Int))) (fun hg=>L4 t _ (F hg)) ?_;refine cD (g:=decide (0<(c:Int))) (fun hg=>L4 (ai.mk ((b.getD ((IntKind.i64.wrap ((c:Int)-1)).toNat) (ai.mk [] [] false false)).w) ((b.getD ((IntKind.i64.wrap ((c:Int)-1)).toNat) (ai.mk [] [] false false)).a) ((b.getD ((IntKind.i64.wrap ((c:Int)-1)).toNat) (ai.mk [] [] false false)).D) ((b.getD ((IntKind.i64.wrap ((c:Int)-1)).toNat) (ai.mk [] [] false false)).E)) _ (G hg)) (I _ _ ?_)
 refine cR hm fun hm=>?_
 refine Wp.skip (N _ _ (r6 ?_));exact wN () v (o _ hm)
theorem OS(b:ah)(z:Int)(hm:DJ b=some z):Does prog 35 [.agg [lm za b.y,lm zc b.h,lm za b.r,lm zb b.o]] [] (fun r X=>r=pI z/\X=[]):=by
 unfold DJ at hm
 refine dW 0 80 [.tmp 2] func35 fun B=>nA fun hA=>?_
 refine qS ?_
 refine ca fun _ Q _=>qS ?_
 refine cR hm fun hm=>?_
 refine Wp.skip (Q _ _ (ca fun _ R _=>?_));obtain⟨a1,C,hm⟩:=zd hm;refine sX (fun hg=>Uz b.y _ C) ?_;refine qS ?_
 refine cR hm fun hm=>?_
 refine Wp.skip (R _ _ (qS ?_));refine qS ?_
 refine ca fun S i D=>?_
 obtain⟨T,j,hm⟩:=zj hm
 have k:∀s,T s=some z->S [(1,.ptr 0 0)] [.cells 26 [lm za b.y,lm zc b.h,lm za b.r,lm zb b.o]]:=by
  intro s hs;have hm:=j _ hs;clear hs
  try dsimp only at hm|-
  refine i _ _ (ca fun _ E _=>?_);obtain⟨a2,F,hm⟩:=zd hm;refine sX (fun hg=>UA b.r _ F) ?_;refine qS ?_
  refine cR hm fun hm=>?_
  refine Wp.skip (E _ _ ?_);obtain⟨a3,G,hm⟩:=zd hm;refine sX (fun hg=>Uy b.o _ G) ?_;exact wR
 clear i j;refine qS ?_;refine Wp.block ?_;obtain⟨a4,I,hm⟩:=zm hm
 refine fL 40 b.h.length fun n=>?_
 refine Wp.forL (fun l s=>[(1,.ptr 0 0),(4,pS s.1),(5,.ptr 2 0),(40,lm zc b.h),(41,pI (b.h.length:Int)),(42,pI (l:Int))]) (fun l s=>[.cells 26 [lm za b.y,lm zc b.h,lm za b.r,lm zb b.o],.mp false (zl Dt.s eL s.2),.cells 95 [.mp 1]]) wF hm ?_;clear hm;intro l s U hm;obtain⟨w,f⟩:=s
 try dsimp only at hm|-
 refine qS ?_
 refine lB zc hm n (fun h=>D _ _ _ _ wF (k () (I _ h))) fun p J c V t W m hm hA _ L=>?_
 refine q6 ?_
 refine ca fun _ M _=>?_
 obtain⟨Y,u,hm⟩:=zd hm;refine sX (fun hg=>Pa c _ u) ?_;refine q6 ?_
 refine cR hm fun hm=>?_
 refine Wp.skip (M _ _ (ca fun _ N _=>q6 ?_))
 refine cR hm fun hm=>?_
 refine Wp.skip (N _ _ (ca fun _ O _=>?_));obtain⟨Z,v,hm⟩:=zd hm;refine sQ [2,1] (fun hg=>Tt c.a f _ v) ?_
 refine cR hm fun hm=>?_
 refine Wp.skip (O _ _ ?_);obtain⟨a0,hm⟩:=zh hm;have g:=mR (e:=eL) dQ f c.a true;simp only[eL,map_nil]at g;have hA:=And.intro J (And.intro t g)
 refine dE (pl [(0,none),(1,none),(2,none),(3,none),(4,none),(5,none),(6,some [])]) fun _ P=>P _ _ ?_
 refine L _ _ (r6 ?_);exact wN (c.a,dF f c.a true) p (m _ hm)
theorem Uc(b:ab)(z:Bool)(hm:Ms b=some z):Does prog 96 [.agg [pS b.a,pS b.B,pB b.C]] [] (fun r X=>r=pB z/\X=[]):=by
 unfold Ms at hm
 refine dW 0 6 [.tmp 2] func96 fun B=>nA fun hA=>?_
 refine qS ?_;exact wQ
theorem UN(b:List ab)(z:Int)(hm:MD b=some z):Does prog 127 [lm zc b,.fn 96 []] [] (fun r X=>r=pI z/\X=[]):=by
 unfold MD at hm
 refine dW 0 19 [.tmp 4] func127 fun B=>nA fun hA=>?_
 refine qS ?_
 refine ca fun K2 j o=>?_
 obtain⟨p,c,hm⟩:=zj hm
 have g:∀s,p s=some z->K2 [] []:=by
  intro s hs;have hm:=c _ hs;clear hs
  try dsimp only at hm|-
  exact j _ _ (wQ)
 clear j c;refine qS ?_;refine Wp.block ?_;obtain⟨E,k,hm⟩:=zm hm
 refine fL 0 b.length fun l=>?_
 refine Wp.forL (fun f s=>[(0,lm zc b),(1,.fn 96 []),(7,pI (b.length:Int)),(8,pI (f:Int))]) (fun f s=>[]) wF hm ?_;clear hm;intro f s v hm
 try dsimp only at hm|-
 refine qS ?_
 refine lB zc hm l (fun h=>o _ _ _ _ wF (g () (k _ h))) fun m F t D w C i hm hA _ u=>?_
 refine q6 ?_;obtain⟨G,n,hm⟩:=zd hm;refine sX (fun hg=>Uc t _ n) ?_
 refine cR hm fun hm=>?_
 refine Wp.skip (u _ _ (r6 ?_));exact wN () m (i _ hm)
theorem UW(b:List ab)(z:Bool)(hm:zQ b=some z):Does prog 95 [lm zc b,.fn 96 []] [] (fun r X=>r=pB z/\X=[]):=by
 unfold zQ at hm
 refine dW 0 9 [.tmp 4] func95 fun B=>nA fun hA=>?_
 refine qS ?_;obtain⟨f,c,hm⟩:=zd hm;refine sX (fun hg=>UN b _ c) ?_;exact wR
theorem O3(b:ae)(z:am)(hm:AF b=some z):Does prog 97 [.agg [pI b.u,pS b.i.a,pS b.i.B,pB b.i.C,pS b.z.k,pS b.z.Value,pS b.q.w,pS b.q.a,pB b.q.D,pB b.q.E]] [] (fun r X=>r=.agg [pI z.kind,pS z.name]/\X=[]):=by
 unfold AF at hm
 refine dW 0 23 [.cell 2 135] func97 fun B=>nA fun hA=>?_
 refine qS ?_
 refine ca fun _ p _=>qS ?_
 refine Wp.block (ca fun K4 l m=>?_);obtain⟨t,g,hm⟩:=zj hm
 have c:∀s,t s=some z->K4 [(1,.ptr 0 0),(2,.ptr 1 0),(4,pI b.u),(5,pB s)] [.cells 61 [pI b.u,pS b.i.a,pS b.i.B,pB b.i.C,pS b.z.k,pS b.z.Value,pS b.q.w,pS b.q.a,pB b.q.D,pB b.q.E],.cells 135 [pI 0,pS ([])]]:=by
  intro G hs;have hm:=g _ hs;clear hs
  try dsimp only at hm|-
  refine l _ _ (cR hm fun hm=>?_)
  refine ca fun K7 n o=>?_
  obtain⟨v,j,hm⟩:=zj hm
  have f:∀s,v s=some z->K7 [(1,.ptr 0 0),(2,.ptr 1 0),(12,pB s)] [.cells 61 [pI b.u,pS b.i.a,pS b.i.B,pB b.i.C,pS b.z.k,pS b.z.Value,pS b.q.w,pS b.q.a,pB b.q.D,pB b.q.E],.cells 135 [pI 0,pS ([])]]:=by
   intro F hs;have hm:=j _ hs;clear hs
   try dsimp only at hm|-
   refine n _ _ (cR hm fun hm=>?_);exact Wp.skip (p _ _ (wQ))
  clear n j;refine qS ?_
  refine cN hm (fun hm=>?_) fun hm=>?_
  .refine Wp.skip (o _ _ _ _ ?_ (f (decide (b.u=3)) hm))
   exact fB
  .refine qR ?_
   refine o _ _ _ _ ?_ (f (decide (b.u=4)) hm);exact fB
 clear l g;refine qS ?_
 refine cN hm (fun hm=>?_) fun hm=>?_
 .refine Wp.skip (m _ _ _ _ ?_ (c (decide (b.u=1)) hm))
  exact fB
 .refine qR ?_
  refine m _ _ _ _ ?_ (c (decide (b.u=2)) hm);exact fB
theorem S5(b:dy)(c:dy)(z:Bool)(hm:OR b c=some z):Does prog 128 [pS b,pS c] [] (fun r X=>r=pB z/\X=[]):=by
 unfold OR at hm
 refine dW 0 9 [.tmp 4] func128 fun B=>nA fun hA=>?_
 refine qS ?_;obtain⟨g,hm⟩:=zh hm;obtain⟨i,f,hm⟩:=zd hm;refine sX (fun hg=>R0 b (c++([47]:dy)) _ f) ?_;exact wR
theorem IL(b:dy)(z:Bool)(hm:AE b=some z):Does prog 98 [pS b] [] (fun r X=>r=pB z/\X=[]):=by
 unfold AE at hm
 refine dW 0 5 [.tmp 2] func98 fun B=>nA fun hA=>?_
 refine qS ?_;obtain⟨f,c,hm⟩:=zd hm;refine sX (fun hg=>S5 b ([115,116,97,103,101]:dy) _ c) ?_;exact wR
theorem Sn(b:List aa)(z:List aa)(hm:zp b=some z):Does prog 46 [lm za b] [] (fun r X=>r=.buf 0/\X=[.buf 50 2 (List.map za z)]):=by
 unfold zp at hm
 refine dW 1 8 [.tmp 2] func46 fun B=>nA fun hA=>?_
 refine qS ?_
 refine ca fun _ f _=>cb fun K3 g=>?_
 simp only[go_sem,simprocAttr]
 try refine⟨sd,?_⟩
 refine cC (rows:=?rows4) (e:=?e4) (esz:=?esz4) (eb:=?eb4) (ez:=?ez4) Is.mk Is.mk sg sg si si ?cont4;intro i c;replace hm:=Gj hm i (fun h=>map_eq_nil_iff.1 (c h))
 try dsimp only at hm
 simp only[go_sem,simprocAttr];refine kA g ?_
 refine cN hm (fun hm=>?_) fun hm=>?_
 .refine qS ?_
  refine cd 2 50 2 rfl ?_;simp only[go_sem,simprocAttr];exact wR
 .refine Wp.skip (f _ _ ?_)
  obtain⟨j,hm⟩:=zh hm;exact wQ
theorem UE(b:List ab)(z:List ab)(hm:Ja b=some z):Does prog 138 [lm zc b] [] (fun r X=>r=.buf 0/\X=[.buf 57 3 (List.map zc z)]):=by
 unfold Ja at hm
 refine dW 1 8 [.tmp 2] func138 fun B=>nA fun hA=>?_
 refine qS ?_
 refine ca fun _ f _=>cb fun K3 g=>?_
 simp only[go_sem,simprocAttr]
 try refine⟨sd,?_⟩
 refine cC (rows:=?rows4) (e:=?e4) (esz:=?esz4) (eb:=?eb4) (ez:=?ez4) Is.mk Is.mk sg sg si si ?cont4;intro i c;replace hm:=Gj hm i (fun h=>map_eq_nil_iff.1 (c h))
 try dsimp only at hm
 simp only[go_sem,simprocAttr];refine kA g ?_
 refine cN hm (fun hm=>?_) fun hm=>?_
 .refine qS ?_
  refine cd 2 57 3 rfl ?_;simp only[go_sem,simprocAttr];exact wR
 .refine Wp.skip (f _ _ ?_)
  obtain⟨j,hm⟩:=zh hm;exact wQ
theorem Sk(b:List ai)(z:List ai)(hm:zu b=some z):Does prog 40 [lm zb b] [] (fun r X=>r=.buf 0/\X=[.buf 59 4 (List.map zb z)]):=by
 unfold zu at hm
 refine dW 1 8 [.tmp 2] func40 fun B=>nA fun hA=>?_
 refine qS ?_
 refine ca fun _ f _=>cb fun K3 g=>?_
 simp only[go_sem,simprocAttr]
 try refine⟨sd,?_⟩
 refine cC (rows:=?rows4) (e:=?e4) (esz:=?esz4) (eb:=?eb4) (ez:=?ez4) Is.mk Is.mk sg sg si si ?cont4;intro i c;replace hm:=Gj hm i (fun h=>map_eq_nil_iff.1 (c h))
 try dsimp only at hm
 simp only[go_sem,simprocAttr];refine kA g ?_
 refine cN hm (fun hm=>?_) fun hm=>?_
 .refine qS ?_
  refine cd 2 59 4 rfl ?_;simp only[go_sem,simprocAttr];exact wR
 .refine Wp.skip (f _ _ ?_)
  obtain⟨j,hm⟩:=zh hm;exact wQ
theorem RP(b:ah)(z:List aa×List ab×List aa×List ai×List aa×List ab×List aa×List ai)(hm:CC b=some z):Does prog 102 [.agg [lm za b.y,lm zc b.h,lm za b.r,lm zb b.o]] [] (fun r X=>r=.agg [.buf 2,.buf 3,.buf 4,.buf 5]/\X=[.cells 26 [lm za z.1,lm zc z.2.1,lm za z.2.2.1,lm zb z.2.2.2.1],.cells 26 [.buf 2,.buf 3,.buf 4,.buf 5],.buf 50 2 (List.map za z.2.2.2.2.1),.buf 57 3 (List.map zc z.2.2.2.2.2.1),.buf 50 2 (List.map za z.2.2.2.2.2.2.1),.buf 59 4 (List.map zb z.2.2.2.2.2.2.2)]):=by
 unfold CC at hm
 refine dW 6 16 [.cell 2 26] func102 fun B=>nA fun hA=>?_
 refine qS ?_;obtain⟨k,c,hm⟩:=zd hm;obtain⟨l,f,hm⟩:=zd hm;obtain⟨m,g,hm⟩:=zd hm;obtain⟨n,i,hm⟩:=zd hm
 refine dS (pl [(0,none),(1,none),(3,none),(4,none),(6,none),(7,none),(9,none),(10,none),(2,some [3,4,6,7,9,10]),(5,some [6,7,9,10]),(8,some [9,10]),(11,some []),(12,none),(13,some [])]) fun _ j=>?_
 refine cE [] (Sn b.y _ c) ?_;refine cE [] (UE b.h _ f) ?_;refine cE [] (Sn b.r _ g) ?_;refine cE [] (Sk b.o _ i) (j _ _ ?_);exact wR
theorem RI(b:ab)(z:Bool)(hm:Cu b=some z):Does prog 104 [.agg [pS b.a,pS b.B,pB b.C]] [] (fun r X=>r=pB z/\X=[]):=by
 unfold Cu at hm
 refine dW 0 6 [.tmp 2] func104 fun B=>nA fun hA=>?_
 refine qS ?_;obtain⟨f,c,hm⟩:=zd hm;refine sX (fun hg=>IL b.a _ c) ?_;exact wR
theorem UO(b:List ab)(z:Int)(hm:z7 b=some z):Does prog 127 [.vw 0 3 0 b.length,.fn 104 []] [.fx 57 3 (List.map zc b)] (fun r X=>r=pI z/\X=[.fx 57 3 (List.map zc b)]):=by
 unfold z7 at hm
 refine dW 1 19 [.tmp 4] func127 fun B=>nA fun hA=>?_
 refine qS ?_
 refine ca fun K2 m t=>?_
 obtain⟨u,j,hm⟩:=zj hm
 have k:∀s,u s=some z->K2 [] [.fx 57 3 (List.map zc b)]:=by
  intro s hs;have hm:=j _ hs;clear hs
  try dsimp only at hm|-
  exact m _ _ (wQ)
 clear m j;refine qS ?_;refine Wp.block ?_;obtain⟨F,n,hm⟩:=jF hm;refine Wp.loopN (fun s=>[(0,.vw 0 3 0 b.length),(1,.fn 104 []),(7,pI ((List.take b.length b).length:Int)),(8,pI s)]) (fun s=>[.fx 57 3 (List.map zc b)]) ?_ hm ?_
 .exact fB
 clear hm;intro f D hm
 try dsimp only at hm|-
 refine qS ?_
 refine ca fun _ v _=>cN hm (fun hm=>?_) fun hm=>?_
 .refine Wp.skip (v _ _ (ca fun _ w _=>Wp.block (qS ?_)))
  obtain⟨G,hm⟩:=zh hm;obtain⟨I,o,hm⟩:=zd hm
  have c:=fun h=>mS (l:=b) (e:=zc) (d:=(ab.mk [] [] false)) (i:=(f.toNat:Nat)) h []
  refine cb fun J p=>?_
  simp only[go_sem,simprocAttr,c (by omega)]
  try refine⟨sL,?_⟩
  refine cG (av:=?av11) (g:=true) (fun hg=>RI (ab.mk ((b.getD (f.toNat:Nat) (ab.mk [] [] false)).a) ((b.getD (f.toNat:Nat) (ab.mk [] [] false)).B) ((b.getD (f.toNat:Nat) (ab.mk [] [] false)).C)) _ o) (by simp only[go_sem,simprocAttr,c (by omega)];exact Is.mk) (by simp only[go_sem,simprocAttr,c (by omega)];exact Is.mk) (by simp only[go_sem,simprocAttr,c (by omega)];exact Is.mk) (by simp only[go_sem,simprocAttr,c (by omega)]) (by simp only[go_sem,simprocAttr,c (by omega)];exact Is.mk) ?cont11;intro E;simp only[go_sem,simprocAttr,c (by omega)];refine kA p ?_
  refine cR hm fun hm=>?_
  refine Wp.skip (w _ _ (qR ?_));simp only[zx,zq,↓reduceIte];refine⟨IntKind.i64.wrap (f+1),hm,?_⟩;exact fB
 .refine Wp.exit ?_
  simp only[zx,zq,↓reduceIte];have hm:=n _ hm
  try dsimp only at hm
  refine t _ _ _ _ ?_ (k () hm);exact fB
theorem UH(f:List ab)(z:Nat×Nat×List ab)(hm:zV f=some z):Does prog 103 [.buf 0,.fn 104 []] [.fx 57 3 (List.map zc f)] (fun r X=>r=.vw 0 3 z.1 z.2.1/\X=[.fx 57 3 (List.map zc z.2.2)]):=by
 unfold zV at hm
 refine dW 1 42 [.tmp 4] func103 fun B=>nA fun hA=>?_
 refine cU 0 0 (by simp only[go_sem,simprocAttr];exact Is.mk) (by simp only[go_sem,simprocAttr];exact Is.mk) ?_;simp only[go_sem,simprocAttr];refine qS ?_;obtain⟨U,p,hm⟩:=zd hm;refine sQ [0] (fun hg=>UO f _ p) ?_
 refine ca fun _ E _=>qS ?_
 refine cR hm fun hm=>?_
 refine Wp.skip (E _ _ (ca fun K8 o F=>?_));obtain⟨G,j,hm⟩:=zj hm
 have n:∀s,G s=some z->K8 [(0,.vw 0 3 0 f.length),(5,pI s.1)] [.fx 57 3 (List.map zc s.2)]:=by
  intro s hs;have hm:=j _ hs;clear hs;obtain⟨M,J⟩:=s
  try dsimp only at hm|-
  refine o _ _ ?_;obtain⟨N,hm⟩:=zh hm
  refine cb fun K9 I=>?_
  simp only[go_sem,simprocAttr]
  try refine⟨sL,?_⟩
  refine Rg.clear (i:=?i10) (sz:=?sz10) (a:=?a10) (m:=?m10) (T:=?T10) (rows:=?rows10) (e:=?e10) (eb:=?eb10) (ez:=?ez10) (z:=?z10) (fx:=?fx10) Is.mk Is.mk Is.mk Is.mk Is.mk sg sg si si si si sg sg sg ?cont10;simp only[go_sem,simprocAttr];refine kA I ?_;obtain⟨O,hm⟩:=zh hm;exact wQ
 clear o j;refine qS ?_;refine Wp.block ?_;obtain⟨V,t,hm⟩:=jF hm;refine Wp.loopN (fun s=>[(0,.vw 0 3 0 f.length),(1,.fn 104 []),(5,pI s.1),(6,pI s.2.1)]) (fun s=>[.fx 57 3 (List.map zc s.2.2)]) ?_ hm ?_
 .exact fB
 clear hm;intro s L hm;obtain⟨g,c,b⟩:=s
 try dsimp only at hm|-
 refine ca fun _ u _=>qS ?_
 refine cN hm (fun hm=>?_) fun hm=>?_
 .refine Wp.skip (u _ _ (ca fun _ k _=>Wp.block ?_))
  obtain⟨P,hm⟩:=zh hm;obtain⟨Q,hm⟩:=zh hm
  have v:=fun h=>mS (l:=b) (e:=zc) (d:=(ab.mk [] [] false)) (i:=(c.toNat:Nat)) h []
  refine cb fun W w=>?_
  simp only[go_sem,simprocAttr,v (by omega)];refine kA w ?_;obtain⟨Y,D,hm⟩:=zd hm;refine sX (fun hg=>RI (ab.mk ((b.getD (c.toNat:Nat) (ab.mk [] [] false)).a) ((b.getD (c.toNat:Nat) (ab.mk [] [] false)).B) ((b.getD (c.toNat:Nat) (ab.mk [] [] false)).C)) _ D) ?_
  refine cN hm (fun hm=>?_) fun hm=>?_
  .obtain⟨R,hm⟩:=zh hm
   obtain⟨S,hm⟩:=zh hm;refine q6 ?_;refine qR ?_;refine k _ _ (qR ?_);simp only[zx,zq,↓reduceIte];refine⟨(IntKind.i64.wrap (g+1),IntKind.i64.wrap (c+1),List.set b (g.toNat:Nat) (ab.mk ((b.getD (c.toNat:Nat) (ab.mk [] [] false)).a) ((b.getD (c.toNat:Nat) (ab.mk [] [] false)).B) ((b.getD (c.toNat:Nat) (ab.mk [] [] false)).C))),hm,?_⟩;exact fB
  .refine Wp.skip (k _ _ (qR ?_))
   simp only[zx,zq,↓reduceIte];refine⟨(g,IntKind.i64.wrap (c+1),b),hm,?_⟩;exact fB
 .refine Wp.exit ?_
  simp only[zx,zq,↓reduceIte];have hm:=t _ hm
  try dsimp only at hm
  refine F _ _ _ _ ?_ (n (g,b) hm);exact fB
theorem Rz(b:ah)(z:ah)(hm:Gr b=some z):Does prog 59 [.agg [lm za b.y,lm zc b.h,lm za b.r,lm zb b.o]] [] (fun r X=>r=.agg [lm za z.y,lm zc z.h,lm za z.r,lm zb z.o]/\X=[]):=by
 unfold Gr at hm
 refine dW 0 10 [.cell 2 26] func59 fun B=>nA fun hA=>?_
 refine qS ?_;obtain⟨g,c,hm⟩:=zd hm;refine sO [] (RP b _ c) ?_;refine ct 5 (by simp only[go_sem,simprocAttr];exact Is.mk) (by simp only[go_sem,simprocAttr]) ?_;simp only[go_sem,simprocAttr];obtain⟨i,f,hm⟩:=zd hm;refine sO [5] (UH g.2.2.2.2.2.1 _ f) ?_;refine cu 5 (by simp only[go_sem,simprocAttr];exact Is.mk) (by simp only[go_sem,simprocAttr]) ?_;simp only[go_sem,simprocAttr];refine qS ?_;refine Wp.freeze 5 (by simp only[go_sem,simprocAttr];exact Is.mk) (by first|(simp only[go_sem,simprocAttr];done)|(simp only[go_sem,simprocAttr];omega)) ?_;simp only[go_sem,simprocAttr];exact wR
theorem T9(b:dy)(f:List aa)(i:List (dy×ab))(g:List (dy×Int))(j:List (dy×aa))(k:List (dy×ai))(c:Int)(z:Bool×(List (dy×Int)))(hm:I3 b f i g j k c=some z):Does prog 183 [pS b,.ptr 0 0,.ptr 6 0] [.cells 108 [.ptr 1 0],.cells 151 [lm za f,.mp 2,.mp 3,.mp 4,.mp 5],.mp true (zl Dt.s zc i),.mp false (zl Dt.s zk g),.mp true (zl Dt.s za j),.mp true (zl Dt.s zb k),.cells 3 [pI c]] (fun r X=>r=pB z.1/\X=[.cells 108 [.ptr 1 0],.cells 151 [lm za f,.mp 2,.mp 3,.mp 4,.mp 5],.mp true (zl Dt.s zc i),.mp false (zl Dt.s zk z.2),.mp true (zl Dt.s za j),.mp true (zl Dt.s zb k),.cells 3 [pI c]]):=by
 unfold I3 at hm
 refine dW 7 13 [.tmp 4] func183 fun B=>nA fun hA=>?_
 refine qS ?_;obtain⟨o,p,hm⟩:=il hm;have l:=iC (e:=zk) dQ g b 0;have m:=iD (e:=zk) dQ g b;simp only[p,zk,map_nil]at l m;obtain⟨u,hm⟩:=zh hm;have n:=mR (e:=zk) dQ g b (IntKind.i64.wrap ((o.getD 0)+c));simp only[zk,map_nil]at n;have hA:=And.intro l (And.intro m n)
 refine dS (pl [(0,none),(1,none),(2,none),(3,none),(4,none),(5,none),(6,none),(7,none),(8,some [])]) fun _ t=>t _ _ ?_
 exact wQ
theorem Tu(f:dy)(b:List aa)(i:List (dy×ab))(m:List (dy×Int))(j:List (dy×aa))(k:List (dy×ai))(c:Int)(z:Bool×(List (dy×Int)))(hm:Mb f b i m j k c=some z):Does prog 75 [pS f,.fn 183 [.ptr 0 0,.ptr 6 0]] [.cells 108 [.ptr 1 0],.cells 151 [lm za b,.mp 2,.mp 3,.mp 4,.mp 5],.mp true (zl Dt.s zc i),.mp false (zl Dt.s zk m),.mp true (zl Dt.s za j),.mp true (zl Dt.s zb k),.cells 3 [pI c]] (fun r X=>r=pB z.1/\X=[.cells 108 [.ptr 1 0],.cells 151 [lm za b,.mp 2,.mp 3,.mp 4,.mp 5],.mp true (zl Dt.s zc i),.mp false (zl Dt.s zk z.2),.mp true (zl Dt.s za j),.mp true (zl Dt.s zb k),.cells 3 [pI c]]):=by
 unfold Mb at hm
 refine dW 7 24 [.tmp 4] func75 fun B=>nA fun hA=>?_
 refine qS ?_
 refine ca fun K2 G L=>?_
 obtain⟨I,n,hm⟩:=zj hm
 have v:∀s,I s=some z->K2 [] [.cells 108 [.ptr 1 0],.cells 151 [lm za b,.mp 2,.mp 3,.mp 4,.mp 5],.mp true (zl Dt.s zc i),.mp false (zl Dt.s zk s),.mp true (zl Dt.s za j),.mp true (zl Dt.s zb k),.cells 3 [pI c]]:=by
  intro S hs;have hm:=n _ hs;clear hs
  try dsimp only at hm|-
  exact G _ _ (wQ)
 clear G n;refine qS ?_;refine Wp.block ?_;obtain⟨V,w,hm⟩:=zm hm
 refine fL 0 f.length fun C=>?_
 refine Wp.forL (fun o s=>[(0,pS f),(1,.fn 183 [.ptr 0 0,.ptr 6 0]),(5,pI (o:Int))]) (fun o s=>[.cells 108 [.ptr 1 0],.cells 151 [lm za b,.mp 2,.mp 3,.mp 4,.mp 5],.mp true (zl Dt.s zc i),.mp false (zl Dt.s zk s),.mp true (zl Dt.s za j),.mp true (zl Dt.s zb k),.cells 3 [pI c]]) wF hm ?_;clear hm;intro o p T hm
 try dsimp only at hm|-
 refine ca fun _ M _=>qS ?_
 refine Wp.cond rfl ⟨⟩ (fun t=>?_) fun t=>Wp.exit (L _ _ _ _ wF (v p (w _ (p8 hm (u2 t)))))
 have l:=tO t;have N:=qc l C;obtain⟨O,U,D,E,u,hm⟩:=p9 hm l;clear D;refine Wp.skip ?_;simp only[zx];refine M _ _ (ca fun _ P _=>Wp.block ?_);obtain⟨W,hm⟩:=zh hm;obtain⟨Q,J,F,hm⟩:=QQ hm;have hA:=And.intro N E
 refine cb fun K8 R=>?_
 simp only[go_sem,simprocAttr,hA]
 try refine⟨sL,?_⟩
 refine cZ (av:=?av9) (g:=decide ((O.toNat:Int)=47)) [0,1,2,3,4,5,6] (fun hg=>T9 (List.take o f) b i p j k c _ (J hg)) (fun hg=>by obtain rfl:=F hg;rfl) (by simp only[go_sem,simprocAttr,hA];exact Is.mk) (by simp only[go_sem,simprocAttr,hA];exact Is.mk) (by simp only[go_sem,simprocAttr,hA];exact Is.mk) (by simp only[go_sem,simprocAttr,hA];exact Is.mk) (by simp only[go_sem,simprocAttr,hA]) (by simp only[go_sem,simprocAttr,hA]) ?cont9;simp only[go_sem,simprocAttr,hA];refine kA R ?_
 refine cR hm fun hm=>?_
 refine Wp.skip (P _ _ (r6 ?_));exact wN Q.2 l (u _ hm)
theorem R2(c:dy)(k:Int)(b:List aa)(f:List (dy×ab))(j:List (dy×Int))(g:List (dy×aa))(i:List (dy×ai))(z:(List (dy×Int)))(hm:GV c k b f j g i=some z):Does prog 147 [.ptr 0 0,pS c,pI k] [.cells 151 [lm za b,.mp 1,.mp 2,.mp 3,.mp 4],.mp true (zl Dt.s zc f),.mp false (zl Dt.s zk j),.mp true (zl Dt.s za g),.mp true (zl Dt.s zb i)] (fun r X=>r=.tup []/\X=[.cells 151 [lm za b,.mp 1,.mp 2,.mp 3,.mp 4],.mp true (zl Dt.s zc f),.mp false (zl Dt.s zk z),.mp true (zl Dt.s za g),.mp true (zl Dt.s zb i)]):=by
 unfold GV at hm
 refine dW 5 9 [] func147 fun B=>nA fun hA=>?_
 refine qS ?_;obtain⟨m,l,hm⟩:=zd hm;refine eO [5,0,1,2,3,4,6] (Tu c b f j g i k _ l) ?_;refine vB ?_;cases hm;exact fB
theorem Pb(b:ab)(f:List aa)(c:List (dy×ab))(j:List (dy×Int))(g:List (dy×aa))(i:List (dy×ai))(z:(List (dy×ab))×(List (dy×Int)))(hm:AG b f c j g i=some z):Does prog 108 [.ptr 0 0,.agg [pS b.a,pS b.B,pB b.C]] [.cells 151 [lm za f,.mp 1,.mp 2,.mp 3,.mp 4],.mp true (zl Dt.s zc c),.mp false (zl Dt.s zk j),.mp true (zl Dt.s za g),.mp true (zl Dt.s zb i)] (fun r X=>r=.tup []/\X=[.cells 151 [lm za f,.mp 1,.mp 2,.mp 3,.mp 4],.mp true (zl Dt.s zc z.1),.mp false (zl Dt.s zk z.2),.mp true (zl Dt.s za g),.mp true (zl Dt.s zb i)]):=by
 unfold AG at hm
 refine dW 5 29 [] func108 fun B=>nA fun hA=>?_
 refine qS ?_
 refine ca fun _ o _=>?_
 obtain⟨D,p,hm⟩:=il hm;have k:=iC (e:=zc) dQ c b.a (ab.mk [] [] false);have l:=iD (e:=zc) dQ c b.a;simp only[p,zc,map_nil]at k l;have hA:=And.intro k l
 refine dS (pl [(0,none),(1,none),(2,none),(3,none),(4,none),(5,none),(6,none),(7,none),(8,none),(9,none),(10,some [0,1,2,3,4,5,6,7,8,9]),(11,some [9]),(12,none)]) fun _ u=>u _ _ ?_
 refine qS ?_
 refine cN hm (fun hm=>?_) fun hm=>?_
 .obtain⟨G,t,hm⟩:=zd hm
  refine eO [0,1,2,3,4] (R2 b.a 1 f c j g i _ t) ?_;refine o _ _ ?_;obtain⟨E,hm⟩:=zh hm;have n:=mR (e:=zc) dQ c b.a b;simp only[zc,map_nil]at n;have hA:=n
  refine dE (pl [(0,none),(1,none),(2,none),(3,none),(4,none),(5,none),(6,none),(7,some [])]) fun _ v=>v _ _ ?_
  refine vB ?_;cases hm;exact fB
 .refine Wp.skip (o _ _ ?_)
  obtain⟨F,hm⟩:=zh hm;have m:=mR (e:=zc) dQ c b.a b;simp only[zc,map_nil]at m;have hA:=m
  refine dE (pl [(0,none),(1,none),(2,none),(3,none),(4,none),(5,none),(6,none),(7,some [])]) fun _ w=>w _ _ ?_
  refine vB ?_;cases hm;exact fB
end Go.Proofs.YtbcjkdopkcbblaaGreatDoor
