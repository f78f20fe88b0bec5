/- That the code does what the models say (part 6). -/
import Derived.Test.YteofmaagnphonaaGreatDoorKlWk0
import Derived.Test.YteofmaagnphonaaGreatDoorKlWk1
import Derived.Test.YteofmaagnphonaaGreatDoorKlWk2
import Derived.Test.YteofmaagnphonaaGreatDoorKlWk3
import Derived.Test.YteofmaagnphonaaGreatDoorKlWk4
import Derived.Test.YteofmaagnphonaaGreatDoorKlWk5
set_option linter.unusedSimpArgs false
set_option linter.unusedVariables false
open Go.Proofs Go.Shelf
open List
namespace Go.Proofs.YteofmaagnphonaaGreatDoor
open Tryz
open Go.Vc Go.Md
set_option maxRecDepth 100000
set_option maxHeartbeats 4000000
theorem m6(J:aj)(t:al)(p:eo)(U:List ak)(z:ap×Int)(w:Ms J t p U=some z):Does prog 21 [.agg [lm za J.D,lm zc J.u,lm za J.B,lm zb J.A],.agg [lm zd t.k],pS p,lm zh U] [] (fun r X=>r=.tup [.agg [lm zg z.1.L,lm zd z.1.Q.k,lm zm z.1.R],pI z.2]/\X=[]):=by
 unfold Ms at w;refine dW 0 144 [.cell 8 63,.tmp 9] func21 fun B=>nA fun A=>?_;refine qS ?_;obtain⟨aN,an,w⟩:=ze w;obtain⟨aO,aw,w⟩:=ze w;obtain⟨aP,az,w⟩:=ze w;obtain⟨aQ,aA,w⟩:=ze w;obtain⟨R,aB,w⟩:=ze w;refine dS (pl [(0,none),(1,none),(2,none),(3,none),(4,none),(5,none),(6,none),(7,none),(8,some []),(9,none),(10,none)]) fun _ b6=>?_;refine cD (fun e=>Lq J _ an) ?_;refine cD (fun e=>Bc t _ aw) ?_;refine cD (fun e=>xh p _ az) ?_;refine cD (fun e=>ji (!aP) 5 _ aA) ?_;refine cD (fun e=>oP [aN,aO,aQ] _ aB) (b6 _ _ ?_);refine dc fun K8 aL aM=>?_;obtain⟨aR,a5,w⟩:=zp w;have a6:∀s,aR s=some z->K8 [(3,lm zh U),(4,.ptr 0 0),(5,.ptr 1 0),(6,.ptr 2 0),(8,.ptr 3 0),(10,pI s)] [.cells 26 [lm za J.D,lm zc J.u,lm za J.B,lm zb J.A],.cells 33 [lm zd t.k],.cells 9 [pS p],.cells 63 [.nils,.nils,.nils]]:=by
  intro bj hs;have w:=a5 _ hs;clear hs;try dsimp only at w|-
  refine aL _ _ (dc fun _ b7 _=>qS ?_);refine cN w (fun w=>?_) fun w=>?_
  .refine qS ?_;refine Wp.ret ?_;simp only[zF,zB];refine gP ?_;cases w;exact eV
  .refine Wp.skip (b7 _ _ ?_);obtain⟨W,aC,w⟩:=ze w;refine dS (pl [(0,none),(2,none),(3,none),(1,some [2,3]),(4,none),(5,some []),(6,none)]) fun _ aS=>?_;refine cE [] (EK J _ aC) (aS _ _ ?_);refine dc fun b8 ac aT=>?_;obtain⟨aU,a7,w⟩:=zp w
   have ad:∀s,aU s=some z->b8 [(5,.ptr 1 0),(8,.ptr 3 0),(11,.ptr 9 0)] [.cells 26 [.top,.top,.top,.top],.cells 33 [lm zd t.k],.cells 9 [.top],.cells 63 [.nils,.nils,.nils],.cells 26 [.top,.top,.top,.top],.mp true (zz Dt.s zc s.1),.mp false (zz Dt.s eu s.2.1),.mp true (zz Dt.s zb s.2.2.1),.cells 163 [lm za W.2.2.2,.mp 5,.mp 6,.mp 7],.cells 108 [.ptr 8 0,lm zd t.k,.buf 10,.nils,.nils,pI s.2.2.2.1],.buf 74 10 (List.map zg s.2.2.2.2)]:=by
    intro s hs;have w:=a7 _ hs;clear hs;obtain⟨bc,bd,be,b5,b9⟩:=s;try dsimp only at w|-
    refine ac _ _ (dc fun _ aV _=>qS ?_);refine cN w (fun w=>?_) fun w=>?_
    .refine dS (pl [(0,none),(1,none),(2,none),(3,none),(4,none),(5,some [1,2,3,4]),(6,none)]) fun _ aW=>aW _ _ ?_;refine Wp.ret ?_;simp only[zF,zB];refine gP ?_;cases w;exact eV
    .refine Wp.skip (aV _ _ (qS ?_));refine qS ?_;refine Wp.ret ?_;refine gP ?_;cases w;exact eV
   clear ac a7;refine qS ?_;refine Wp.block (di 9 2 74 10 rfl rfl ?_);simp only[go_sem,simprocAttr];obtain⟨bk,aD,w⟩:=zq w;refine fL 49 U.length fun aE=>?_;refine Wp.forL (fun Z s=>[(5,.ptr 1 0),(6,.ptr 2 0),(8,.ptr 3 0),(11,.ptr 9 0),(49,lm zh U),(50,pI (U.length:Int)),(51,pI (Z:Int))]) (fun Z s=>[.cells 26 [lm za J.D,lm zc J.u,lm za J.B,lm zb J.A],.cells 33 [lm zd t.k],.cells 9 [pS p],.cells 63 [.nils,.nils,.nils],.cells 26 [.top,.top,.top,.top],.mp true (zz Dt.s zc s.1),.mp false (zz Dt.s eu s.2.1),.mp true (zz Dt.s zb s.2.2.1),.cells 163 [lm za W.2.2.2,.mp 5,.mp 6,.mp 7],.cells 108 [.ptr 8 0,lm zd t.k,.buf 10,.nils,.nils,pI s.2.2.2.1],.buf 74 10 (List.map zg s.2.2.2.2)]) wF w ?_;clear w;intro Z s ba w;obtain⟨N,O,P,S,V⟩:=s;try dsimp only at w|-
   refine qS ?_;refine lB zh w aE (fun h=>aT _ _ _ _ wF (ad (N,O,P,S,V) (aD _ h))) fun a8 n c bf m bg a4 w A _ af=>?_;refine q6 ?_;refine dc fun _ aX _=>?_;obtain⟨L,aF,w⟩:=ze w;refine sX (fun e=>W6 c _ aF) ?_;refine q6 ?_;refine cN w (fun w=>?_) fun w=>?_
   .refine q6 ?_;refine Wp.ret ?_;simp only[zF,zB];refine gP ?_;cases w;simp only[go_sem,simprocAttr,A];try exact eS
   .refine Wp.skip (aX _ _ ?_);obtain⟨v,aY,w⟩:=ze w;refine sX (fun e=>EN p c _ aY) ?_;obtain⟨a0,aZ,w⟩:=ze w;refine sX (fun e=>zdb t.k p v _ aZ) ?_;refine dc fun _ b0 _=>Wp.block (q6 ?_);refine cN w (fun w=>?_) fun w=>?_
    .refine q6 ?_;refine Wp.ret ?_;simp only[zF,zB];refine gP ?_;cases w;simp only[go_sem,simprocAttr,A];try exact eS
    .obtain⟨M,bh,f,bi,w⟩:=kM w;replace f:∀d,(List.map zd t.k).getD a0.toNat d=zd M:=f zd;have A:=And.intro n (And.intro m f);refine dS (pl [(0,none),(1,none),(2,none),(3,none),(4,none),(5,none),(6,none),(7,none),(8,none),(9,none)]) fun _ b1=>b1 _ _ ?_;refine cN w (fun w=>?_) fun w=>?_
     .refine q6 ?_;refine Wp.ret ?_;simp only[zF,zB];refine gP ?_;cases w;simp only[go_sem,simprocAttr,A];try exact eS
     .refine Wp.skip (b0 _ _ ?_);obtain⟨l,ag,w⟩:=ze w;refine dA (plan:=(.rd 0 (.rd 1 (.rd 2 (.rd 3 (.rd 4 (.fk 5 [] (.rd 6 (.rd 7 (.rd 8 (.ef 9 [0,1,2,3,4,6,7,8] (.ef 10 [8] (.rd 11 .nil)))))) 9 [0,1,2,3,4] (.ef 5 [] (.rd 6 (.rd 7 (.rd 8 (.ef 10 [8] (.rd 11 .nil))))))))))))) (by kernel_rfl) rfl (by kernel_rfl) fun bb b2 Q=>?_
      suffices T:bb [(5,.ptr 1 0),(6,.ptr 2 0),(8,.ptr 3 0),(11,.ptr 9 0),(13,.ptr 11 0),(14,pI L),(15,.ptr 12 0),(16,pI a0),(17,.ptr 13 0),(18,pB l.2),(49,lm zh U),(50,pI (U.length:Int)),(51,pI (Z:Int)),(52,pB (decide ((Z:Int)<(U.length:Int)))),(53,.rp [.i .i64 c.g,.s c.j.a,.s c.j.F,.b c.j.G,.s c.x.r,.s c.x.Value,.s c.h.C,.s c.h.a,.b c.h.H,.b c.h.I]),(54,.agg [pI c.g,pS c.j.a,pS c.j.F,pB c.j.G,pS c.x.r,pS c.x.Value,pS c.h.C,pS c.h.a,pB c.h.H,pB c.h.I]),(55,.agg [pI c.g,pS c.j.a,pS c.j.F,pB c.j.G,pS c.x.r,pS c.x.Value,pS c.h.C,pS c.h.a,pB c.h.H,pB c.h.I]),(56,pI L),(57,pI L),(58,pB (!decide (L=0))),(61,pS p),(62,.agg [pI c.g,pS c.j.a,pS c.j.F,pB c.j.G,pS c.x.r,pS c.x.Value,pS c.h.C,pS c.h.a,pB c.h.H,pB c.h.I]),(63,.agg [pS v.q,pI v.g,pS v.a,pS v.y,pS v.E]),(64,.ptr 1 0),(65,lm zd t.k),(66,.fn 76 [.ptr 2 0,.ptr 12 0]),(67,pI a0),(68,pB (decide (a0<0))),(69,pI a0),(70,pB (decide (a0<0))),(72,pB (!decide (M.y=v.y))),(73,.ptr 1 0),(74,lm zd t.k),(75,pI a0),(76,.rp [.s M.q,.i .i64 M.g,.s M.a,.s M.y,.s M.E]),(77,.rp [.s M.y,.s M.E]),(78,pS M.y),(79,.ptr 12 3),(80,pS v.y),(81,pB (!decide (M.y=v.y))),(83,.tup [.agg [pI l.1.g,pS l.1.j.a,pS l.1.j.F,pB l.1.j.G,pS l.1.x.r,pS l.1.x.Value,pS l.1.h.C,pS l.1.h.a,pB l.1.h.H,pB l.1.h.I],pB l.2]),(84,.ptr 9 0),(85,.ptr 9 0),(86,.ptr 9 0),(87,.ptr 8 0),(88,.agg [pS v.q,pI v.g,pS v.a,pS v.y,pS v.E]),(89,.tup [.agg [pI l.1.g,pS l.1.j.a,pS l.1.j.F,pB l.1.j.G,pS l.1.x.r,pS l.1.x.Value,pS l.1.h.C,pS l.1.h.a,pB l.1.h.H,pB l.1.h.I],pB l.2]),(90,.agg [pI l.1.g,pS l.1.j.a,pS l.1.j.F,pB l.1.j.G,pS l.1.x.r,pS l.1.x.Value,pS l.1.h.C,pS l.1.h.a,pB l.1.h.H,pB l.1.h.I]),(91,pB l.2)] [.cells 26 [lm za J.D,lm zc J.u,lm za J.B,lm zb J.A],.cells 33 [lm zd t.k],.cells 9 [pS p],.cells 63 [.nils,.nils,.nils],.cells 26 [.top,.top,.top,.top],.mp true (zz Dt.s zc N),.mp false (zz Dt.s eu O),.mp true (zz Dt.s zb P),.cells 163 [lm za W.2.2.2,.mp 5,.mp 6,.mp 7],.cells 108 [.ptr 8 0,lm zd t.k,.buf 10,.nils,.nils,pI S],.buf 74 10 (List.map zg V),.cells 109 [pI c.g,pS c.j.a,pS c.j.F,pB c.j.G,pS c.x.r,pS c.x.Value,pS c.h.C,pS c.h.a,pB c.h.H,pB c.h.I],.cells 29 [pS v.q,pI v.g,pS v.a,pS v.y,pS v.E],.cells 109 [pI l.1.g,pS l.1.j.a,pS l.1.j.F,pB l.1.j.G,pS l.1.x.r,pS l.1.x.Value,pS l.1.h.C,pS l.1.h.a,pB l.1.h.H,pB l.1.h.I]]by
       simp only[go_sem,simprocAttr,n,m,f];try refine⟨sd,?_⟩
       refine Dr.fk ?_ ?_
       ·
        refine id (Br.callR (av:=?av45) (g:=true) (o:=?o45) [8,5,6,7] (fun e=>LU v W.2.2.2 N O P _ ag) (by simp only[go_sem,simprocAttr,n,m,f];exact Is.mk) (by simp only[go_sem,simprocAttr,n,m,f];exact Is.mk) (by simp only[go_sem,simprocAttr,n,m,f];exact Is.mk) (by simp only[go_sem,simprocAttr,n,m,f];exact Is.mk) (by simp only[go_sem,simprocAttr,n,m,f];exact Is.mk) (by simp only[go_sem,simprocAttr,n,m,f]) (by simp only[go_sem,simprocAttr,n,m,f]) (by simp only[go_sem,simprocAttr,n,m,f]) (by simp only[go_sem,simprocAttr,n,m,f]) ?cont45);simp only[go_sem,simprocAttr,n,m,f];first|refine Q.weak _ _ _ _ ?_ T|refine⟨sd,Q.weak _ _ _ _ ?_ T⟩
        simp only[go_sem,simprocAttr,n,m,f];try exact eS
       ·
        refine Br.run (o:=?o46) (by simp only[go_sem,simprocAttr,n,m,f];exact Is.mk) (by simp only[go_sem,simprocAttr,n,m,f];exact Is.mk) ?cont46;simp only[go_sem,simprocAttr,n,m,f];try refine⟨sd,?_⟩
        refine de (Br.callR (av:=?av47) (g:=true) (o:=?o47) [8,5,6,7] (fun e=>LU v W.2.2.2 N O P _ ag) (by simp only[go_sem,simprocAttr,n,m,f];exact Is.mk) (by simp only[go_sem,simprocAttr,n,m,f];exact Is.mk) (by simp only[go_sem,simprocAttr,n,m,f];exact Is.mk) (by simp only[go_sem,simprocAttr,n,m,f];exact Is.mk) (by simp only[go_sem,simprocAttr,n,m,f];exact Is.mk) (by simp only[go_sem,simprocAttr,n,m,f]) (by simp only[go_sem,simprocAttr,n,m,f]) (by simp only[go_sem,simprocAttr,n,m,f]) (by simp only[go_sem,simprocAttr,n,m,f]) ?cont47);simp only[go_sem,simprocAttr,n,m,f];first|refine Q.weak _ _ _ _ ?_ T|refine⟨sd,Q.weak _ _ _ _ ?_ T⟩
        simp only[go_sem,simprocAttr,n,m,f];try exact eS
      refine b2 _ _ ?_;obtain⟨b3,aG,w⟩:=zs w;obtain⟨bl,aH,w⟩:=zs w;refine dS (pl [(0,none),(1,none),(2,none),(3,none),(4,none),(5,none),(6,none),(7,none),(8,none),(9,none),(10,none),(11,none),(12,none),(13,none)]) fun _ b4=>?_;refine cD (g:=!(!l.2)) (fun e=>WL c.g _ (aG e)) ?_;refine cD (g:=((!(!l.2))&&b3)) (fun e=>AN l.1 _ (aH e)) (b4 _ _ ?_);refine cN w (fun w=>?_) fun w=>?_
      .obtain⟨Y,aI,w⟩:=ze w;refine sX (fun e=>M8 c _ aI) ?_;refine q6 ?_;obtain⟨K,aJ,w⟩:=ze w;refine eO [9,8,5,6,7,10] (zmC (ai.mk Y.g Y.j Y.x (ah.mk Y.h.C Y.h.a Y.h.H (((decide (c.g=6))&&l.2)&&l.1.h.I))) t.k S W.2.2.2 N O P V _ aJ) ?_;refine af _ _ (r6 ?_);exact wN (K.2.1,K.2.2.1,K.2.2.2.1,K.1,K.2.2.2.2) a8 (a4 _ w)
      .refine Wp.skip (af _ _ (r6 ?_));exact wN (N,O,P,S,V) a8 (a4 _ w)
 clear aL a5;obtain⟨bm,aK,w⟩:=zs w;refine sX (g:=decide (R=0)) (fun e=>zcC t.k p _ (aK e)) ?_;refine cN w (fun w=>?_) fun w=>?_
 .refine qR ?_;refine aM _ _ _ _ ?_ (a6 10 w);exact eV
 .refine Wp.skip (aM _ _ _ _ ?_ (a6 R w));exact eV
theorem Xv(b:List aa)(z:List aa)(w:zI b=some z):Does prog 7 [lm zd b] [] (fun r X=>r=.buf 0/\X=[.buf 29 5 (List.map zd z)]):=by
 unfold zI at w;refine dW 1 8 [.tmp 2] func7 fun B=>nA fun A=>?_;refine qS ?_;refine dc fun _ f _=>dd fun a g=>?_;simp only[go_sem,simprocAttr];try refine⟨sd,?_⟩
 refine dI (rows:=?rows4) (e:=?e4) (esz:=?esz4) (eb:=?eb4) (ez:=?ez4) Is.mk Is.mk sg sg si si ?cont4;intro i c;replace w:=MU w i (fun h=>map_eq_nil_iff.1 (c h));try dsimp only at w
 simp only[go_sem,simprocAttr];refine kA g ?_;refine cN w (fun w=>?_) fun w=>?_
 .refine qS ?_;refine df 2 29 5 rfl ?_;simp only[go_sem,simprocAttr];exact wR
 .refine Wp.skip (f _ _ ?_);obtain⟨j,w⟩:=zi w;exact wQ
theorem ZS(l:aa)(b:eo)(c:eo)(f:Int)(i:eo)(j:eo)(k:eo)(z:Bool)(w:A0 l b c f i j k=some z):Does prog 82 [.agg [pS l.q,pI l.g,pS l.a,pS l.y,pS l.E],.ptr 0 0,.ptr 1 0] [.cells 9 [pS b],.cells 29 [pS c,pI f,pS i,pS j,pS k]] (fun r X=>r=pB z/\X=[.cells 9 [pS b],.cells 29 [pS c,pI f,pS i,pS j,pS k]]):=by
 unfold A0 at w;refine dW 2 14 [.tmp 4] func82 fun B=>nA fun A=>?_;refine qS ?_;obtain⟨n,m,w⟩:=zs w;refine sX (g:=decide (l.q=b)) (fun d=>EU l (aa.mk c f i j k) _ (m d)) ?_;exact wR
theorem zda(b:List aa)(c:eo)(f:eo)(j:Int)(k:eo)(m:eo)(n:eo)(z:Int)(w:zP b c f j k m n=some z):Does prog 63 [.vw 0 5 0 b.length,.fn 82 [.ptr 1 0,.ptr 2 0]] [.fx 29 5 (List.map zd b),.cells 9 [pS c],.cells 29 [pS f,pI j,pS k,pS m,pS n]] (fun r X=>r=pI z/\X=[.fx 29 5 (List.map zd b),.cells 9 [pS c],.cells 29 [pS f,pI j,pS k,pS m,pS n]]):=by
 unfold zP at w;refine dW 3 19 [.tmp 4] func63 fun B=>nA fun A=>?_;refine qS ?_;refine dc fun a D F=>?_;obtain⟨G,t,w⟩:=zp w;have u:∀s,G s=some z->a [] [.fx 29 5 (List.map zd b),.cells 9 [pS c],.cells 29 [pS f,pI j,pS k,pS m,pS n]]:=by
  intro s hs;have w:=t _ hs;clear hs;try dsimp only at w|-
  exact D _ _ (wQ)
 clear D t;refine qS ?_;refine Wp.block ?_;obtain⟨M,v,w⟩:=jj w;refine Wp.loopN (fun s=>[(0,.vw 0 5 0 b.length),(1,.fn 82 [.ptr 1 0,.ptr 2 0]),(7,pI ((List.take b.length b).length:Int)),(8,pI s)]) (fun s=>[.fx 29 5 (List.map zd b),.cells 9 [pS c],.cells 29 [pS f,pI j,pS k,pS m,pS n]]) ?_ w ?_
 .exact eV
 clear w;intro p L w;try dsimp only at w|-
 refine qS ?_;refine dc fun _ I _=>cN w (fun w=>?_) fun w=>?_
 .refine Wp.skip (I _ _ (dc fun _ J _=>Wp.block (qS ?_)));obtain⟨N,w⟩:=zi w;obtain⟨O,C,w⟩:=ze w;have o:=fun h=>g9 (l:=b) (e:=zd) (d:=(aa.mk [] 0 [] [] [])) (i:=(p.toNat:Nat)) h [];refine dd fun P E=>?_;simp only[go_sem,simprocAttr,o (by omega)];try refine⟨sL,?_⟩
  refine Rg.callR (av:=?av11) (g:=true) [1,2] (fun q=>ZS (b.getD (p.toNat:Nat) (aa.mk [] 0 [] [] [])) c f j k m n _ C) (by simp only[go_sem,simprocAttr,o (by omega)];exact Is.mk) (by simp only[go_sem,simprocAttr,o (by omega)];exact Is.mk) (by simp only[go_sem,simprocAttr,o (by omega)];exact Is.mk) (by simp only[go_sem,simprocAttr,o (by omega)];exact Is.mk) (by simp only[go_sem,simprocAttr,o (by omega)]) (by simp only[go_sem,simprocAttr,o (by omega)]) (by simp only[go_sem,simprocAttr,o (by omega)]) ?cont11;simp only[go_sem,simprocAttr,o (by omega)];refine kA E ?_;refine cR w fun w=>?_;refine Wp.skip (J _ _ (qR ?_));simp only[zF,zB,↓reduceIte];refine⟨IntKind.i64.wrap (p+1),w,?_⟩;exact eV
 .refine Wp.exit ?_;simp only[zF,zB,↓reduceIte];have w:=v _ w;try dsimp only at w
  refine F _ _ _ _ ?_ (u () w);exact eV
theorem zcY(o:List aa)(b:eo)(c:eo)(f:Int)(g:eo)(j:eo)(k:eo)(z:Nat×List aa)(w:z7 o b c f g j k=some z):Does prog 81 [.buf 0,.fn 82 [.ptr 1 0,.ptr 2 0]] [.fx 29 5 (List.map zd o),.cells 9 [pS b],.cells 29 [pS c,pI f,pS g,pS j,pS k]] (fun r X=>r=.vw 0 5 0 z.1/\X=[.fx 29 5 (List.map zd z.2),.cells 9 [pS b],.cells 29 [pS c,pI f,pS g,pS j,pS k]]):=by
 unfold z7 at w;refine dW 3 42 [.tmp 4] func81 fun B=>nA fun A=>?_;refine dJ 0 0 (by simp only[go_sem,simprocAttr];exact Is.mk) (by simp only[go_sem,simprocAttr];exact Is.mk) ?_;simp only[go_sem,simprocAttr];refine qS ?_;obtain⟨S,C,w⟩:=ze w;refine sQ [0,1,2] (fun q=>zda o b c f g j k _ C) ?_;refine dc fun _ N _=>qS ?_;refine cR w fun w=>?_;refine Wp.skip (N _ _ (dc fun a0 I O=>?_));obtain⟨J,u,w⟩:=zp w;have D:∀s,J s=some z->a0 [(0,.vw 0 5 0 o.length),(5,pI s.1)] [.fx 29 5 (List.map zd s.2),.cells 9 [pS b],.cells 29 [pS c,pI f,pS g,pS j,pS k]]:=by
  intro s hs;have w:=u _ hs;clear hs;obtain⟨U,Q⟩:=s;try dsimp only at w|-
  refine I _ _ ?_;obtain⟨V,w⟩:=zi w;refine dd fun x P=>?_;simp only[go_sem,simprocAttr];try refine⟨sL,?_⟩
  refine Rg.clear (i:=?i10) (sz:=?sz10) (a:=?a10) (m:=?m10) (T:=?T10) (rows:=?rows10) (e:=?e10) (eb:=?eb10) (ez:=?ez10) (z:=?z10) (fx:=?fx10) Is.mk Is.mk Is.mk Is.mk Is.mk sg sg si si si si sg sg sg ?cont10;simp only[go_sem,simprocAttr];refine kA P ?_;obtain⟨W,w⟩:=zi w;exact wQ
 clear I u;refine qS ?_;refine Wp.block ?_;obtain⟨Y,E,w⟩:=jj w;refine Wp.loopN (fun s=>[(0,.vw 0 5 0 o.length),(1,.fn 82 [.ptr 1 0,.ptr 2 0]),(5,pI s.1),(6,pI s.2.1)]) (fun s=>[.fx 29 5 (List.map zd s.2.2),.cells 9 [pS b],.cells 29 [pS c,pI f,pS g,pS j,pS k]]) ?_ w ?_
 .exact eV
 clear w;intro s R w;obtain⟨p,t,n⟩:=s;try dsimp only at w|-
 refine dc fun _ L _=>qS ?_;refine cN w (fun w=>?_) fun w=>?_
 .refine Wp.skip (L _ _ (dc fun _ v _=>Wp.block ?_));obtain⟨Z,w⟩:=zi w;obtain⟨y,w⟩:=zi w;have F:=fun h=>g9 (l:=n) (e:=zd) (d:=(aa.mk [] 0 [] [] [])) (i:=(t.toNat:Nat)) h [];refine dd fun a1 M=>?_;simp only[go_sem,simprocAttr,F (by omega)];refine kA M ?_;obtain⟨H,G,w⟩:=ze w;refine sQ [1,2] (fun q=>ZS (n.getD (t.toNat:Nat) (aa.mk [] 0 [] [] [])) b c f g j k _ G) ?_;refine cN w (fun w=>?_) fun w=>?_
  .obtain⟨K,w⟩:=zi w;obtain⟨a3,w⟩:=zi w;refine q6 ?_;refine qR ?_;refine v _ _ (qR ?_);simp only[zF,zB,↓reduceIte];refine⟨(IntKind.i64.wrap (p+1),IntKind.i64.wrap (t+1),List.set n (p.toNat:Nat) (n.getD (t.toNat:Nat) (aa.mk [] 0 [] [] []))),w,?_⟩;exact eV
  .refine Wp.skip (v _ _ (qR ?_));simp only[zF,zB,↓reduceIte];refine⟨(p,IntKind.i64.wrap (t+1),n),w,?_⟩;exact eV
 .refine Wp.exit ?_;simp only[zF,zB,↓reduceIte];have w:=E _ w;try dsimp only at w
  refine O _ _ _ _ ?_ (D (p,n) w);exact eV
theorem pC(t:aj)(m:al)(c:eo)(l:List ak)(z:al×Int)(w:L4 t m c l=some z):Does prog 22 [.agg [lm za t.D,lm zc t.u,lm za t.B,lm zb t.A],.agg [lm zd m.k],pS c,lm zh l] [] (fun r X=>r=.tup [.agg [lm zd z.1.k],pI z.2]/\X=[]):=by
 unfold L4 at w;refine dW 0 150 [.cell 8 33,.tmp 9] func22 fun B=>nA fun A=>?_;refine qS ?_;obtain⟨aS,ad,w⟩:=ze w;obtain⟨aT,af,w⟩:=ze w;obtain⟨aU,ag,w⟩:=ze w;obtain⟨aV,an,w⟩:=ze w;obtain⟨bD,av,w⟩:=ze w;refine dS (pl [(0,none),(1,none),(2,none),(3,none),(4,none),(5,none),(6,none),(7,none),(8,some []),(9,none),(10,none)]) fun _ bn=>?_;refine cD (fun d=>Lq t _ ad) ?_;refine cD (fun d=>Bc m _ af) ?_;refine cD (fun d=>xh c _ ag) ?_;refine cD (fun d=>ji (!aU) 5 _ an) ?_;refine cD (fun d=>oP [aS,aT,aV] _ av) (bn _ _ ?_);refine dc fun _ bo _=>qS ?_;refine cN w (fun w=>?_) fun w=>?_
 .refine qS ?_;refine Wp.ret ?_;simp only[zF,zB];refine gP ?_;cases w;exact eV
 .refine Wp.skip (bo _ _ ?_);obtain⟨f,aW,w⟩:=ze w;refine sO [] (EK t _ aW) ?_;obtain⟨bF,aw,w⟩:=ze w;refine sO [] (Xv m.k _ aw) ?_;refine dc fun bp Z aX=>?_;obtain⟨aY,U,w⟩:=zp w
  have a0:∀s,aY s=some z->bp [(8,.ptr 3 0),(12,.buf 9)] [.cells 26 [.top,.top,.top,.top],.cells 33 [.top],.cells 9 [.top],.cells 33 [.nils],.cells 26 [.top,.top,.top,.top],.mp true (zz Dt.s zc f.1),.mp false (zz Dt.s eu f.2.1),.mp true (zz Dt.s zb f.2.2.1),.cells 163 [.top,.top,.top,.top],.buf 29 5 (List.map zd s)]:=by
   intro az hs;have w:=U _ hs;clear hs;try dsimp only at w|-
   refine Z _ _ (dm 9 (by simp only[go_sem,simprocAttr];exact Is.mk) (by simp only[go_sem,simprocAttr]) ?_);simp only[go_sem,simprocAttr];obtain⟨aZ,aA,w⟩:=ze w;refine sO [9] (Xq az _ aA) ?_;refine dn 9 (by simp only[go_sem,simprocAttr];exact Is.mk) (by simp only[go_sem,simprocAttr]) ?_;simp only[go_sem,simprocAttr];refine dc fun _ b0 _=>?_;obtain⟨bG,aB,w⟩:=ze w;refine sX (fun d=>Bc (al.mk aZ) _ aB) ?_;refine qS ?_;refine cN w (fun w=>?_) fun w=>?_
   .refine qS ?_;refine Wp.ret ?_;simp only[zF,zB];refine gP ?_;cases w;exact eV
   .exact Wp.skip (b0 _ _ (wQ))
  clear Z U;refine qS ?_;refine Wp.block ?_;obtain⟨bH,aC,w⟩:=zq w;refine fL 3 l.length fun aD=>?_;refine Wp.forL (fun n s=>[(3,lm zh l),(5,.ptr 1 0),(6,.ptr 2 0),(8,.ptr 3 0),(11,.ptr 8 0),(12,.buf 9),(43,lm zh l),(44,pI (l.length:Int)),(45,pI (n:Int))]) (fun n s=>[.cells 26 [.top,.top,.top,.top],.cells 33 [lm zd m.k],.cells 9 [pS c],.cells 33 [.nils],.cells 26 [.top,.top,.top,.top],.mp true (zz Dt.s zc f.1),.mp false (zz Dt.s eu f.2.1),.mp true (zz Dt.s zb f.2.2.1),.cells 163 [lm za f.2.2.2,.mp 5,.mp 6,.mp 7],.buf 29 5 (List.map zd s)]) wF w ?_;clear w;intro n o bw w;try dsimp only at w|-
  refine qS ?_;refine dc fun _ b1 _=>Wp.cond rfl ⟨⟩ (fun R=>?_) fun R=>Wp.exit (aX _ _ _ _ wF (a0 o (aC _ (jd w (ss R)))));have J:=jz R;have L:=iz J aD;obtain⟨b,bx,p,bz,a1,w⟩:=jh w J;replace p:=p zh;refine Wp.skip ?_;simp only[zF];refine b1 _ _ (dc fun bq e b2=>?_);obtain⟨b3,V,w⟩:=zp w;have a3:∀s,b3 s=some z->bq [(3,lm zh l),(5,.ptr 1 0),(6,.ptr 2 0),(8,.ptr 3 0),(11,.ptr 8 0),(12,.buf 9),(43,lm zh l),(44,pI (l.length:Int)),(45,pI (n:Int))] [.cells 26 [.top,.top,.top,.top],.cells 33 [lm zd m.k],.cells 9 [pS c],.cells 33 [.nils],.cells 26 [.top,.top,.top,.top],.mp true (zz Dt.s zc f.1),.mp false (zz Dt.s eu f.2.1),.mp true (zz Dt.s zb f.2.2.1),.cells 163 [lm za f.2.2.2,.mp 5,.mp 6,.mp 7],.buf 29 5 (List.map zd s)]:=by
   intro aE hs;have w:=V _ hs;clear hs;try dsimp only at w|-
   refine e _ _ ?_;have A:=And.intro L p;refine r6 ?_;exact wN aE J (a1 _ w)
  clear e V;refine Wp.block ?_;have A:=And.intro L p;refine q6 ?_;refine dc fun _ b4 _=>?_;obtain⟨bI,aF,w⟩:=ze w;refine sX (fun d=>W6 b _ aF) ?_;refine q6 ?_;refine cN w (fun w=>?_) fun w=>?_
  .refine q6 ?_;refine Wp.ret ?_;simp only[zF,zB];refine gP ?_;cases w;simp only[go_sem,simprocAttr,A];try exact eS
  .refine Wp.skip (b4 _ _ ?_);obtain⟨i,b5,w⟩:=ze w;refine sX (fun d=>EN c b _ b5) ?_;refine dc fun br a2 b6=>?_;obtain⟨b7,W,w⟩:=zp w
   have a5:∀s,b7 s=some z->br [(3,lm zh l),(5,.ptr 1 0),(6,.ptr 2 0),(8,.ptr 3 0),(11,.ptr 8 0),(12,.buf 9),(14,.ptr 10 0),(16,.ptr 11 0),(43,lm zh l),(44,pI (l.length:Int)),(45,pI (n:Int))] [.cells 26 [.top,.top,.top,.top],.cells 33 [lm zd m.k],.cells 9 [pS c],.cells 33 [.nils],.cells 26 [.top,.top,.top,.top],.mp true (zz Dt.s zc f.1),.mp false (zz Dt.s eu f.2.1),.mp true (zz Dt.s zb f.2.2.1),.cells 163 [lm za f.2.2.2,.mp 5,.mp 6,.mp 7],.buf 29 5 (List.map zd o),.cells 109 [pI b.g,pS b.j.a,pS b.j.F,pB b.j.G,pS b.x.r,pS b.x.Value,pS b.h.C,pS b.h.a,pB b.h.H,pB b.h.I],.cells 29 [pS i.q,pI i.g,pS i.a,pS i.y,pS i.E]]:=by
    intro s hs;have w:=W _ hs;clear hs;try dsimp only at w|-
    refine a2 _ _ (dc fun bs K b8=>?_);obtain⟨b9,Y,w⟩:=zp w;have a7:∀s,b9 s=some z->bs [(3,lm zh l),(5,.ptr 1 0),(6,.ptr 2 0),(8,.ptr 3 0),(11,.ptr 8 0),(12,.buf 9),(14,.ptr 10 0),(16,.ptr 11 0),(43,lm zh l),(44,pI (l.length:Int)),(45,pI (n:Int))] [.cells 26 [.top,.top,.top,.top],.cells 33 [lm zd m.k],.cells 9 [pS c],.cells 33 [.nils],.cells 26 [.top,.top,.top,.top],.mp true (zz Dt.s zc f.1),.mp false (zz Dt.s eu f.2.1),.mp true (zz Dt.s zb f.2.2.1),.cells 163 [lm za f.2.2.2,.mp 5,.mp 6,.mp 7],.buf 29 5 (List.map zd o),.cells 109 [pI b.g,pS b.j.a,pS b.j.F,pB b.j.G,pS b.x.r,pS b.x.Value,pS b.h.C,pS b.h.a,pB b.h.H,pB b.h.I],.cells 29 [pS i.q,pI i.g,pS i.a,pS i.y,pS i.E]]:=by
     intro s hs;have w:=Y _ hs;clear hs;try dsimp only at w|-
     refine K _ _ ?_;obtain⟨ba,aG,w⟩:=ze w;refine sQ [8,5,6,7] (fun d=>LU i f.2.2.2 f.1 f.2.1 f.2.2.1 _ aG) ?_;refine dc fun _ bb _=>Wp.block (q6 ?_);refine cN w (fun w=>?_) fun w=>?_
     .refine q6 ?_;refine Wp.ret ?_;simp only[zF,zB];refine gP ?_;cases w;simp only[go_sem,simprocAttr,A];try exact eS
     .obtain⟨bc,aH,w⟩:=ze w;obtain⟨bJ,aI,w⟩:=zs w;refine dS (pl [(0,none),(1,none),(2,none),(3,none),(4,none),(5,none),(6,none),(7,none),(8,none),(9,none),(10,none)]) fun _ bd=>?_;refine cD (fun d=>WL b.g _ aH) ?_;refine cD (g:=bc) (fun d=>AN ba.1 _ (aI d)) (bd _ _ ?_);refine cN w (fun w=>?_) fun w=>?_
      .refine q6 ?_;refine Wp.ret ?_;simp only[zF,zB];refine gP ?_;cases w;simp only[go_sem,simprocAttr,A];try exact eS
      .refine Wp.skip (bb _ _ (dm 9 (by simp only[go_sem,simprocAttr];exact Is.mk) (by simp only[go_sem,simprocAttr]) ?_));simp only[go_sem,simprocAttr];obtain⟨a8,aJ,w⟩:=ze w;refine sO [9,2,11] (zcY o c i.q i.g i.a i.y i.E _ aJ) ?_;refine dn 9 (by simp only[go_sem,simprocAttr];exact Is.mk) (by simp only[go_sem,simprocAttr]) ?_;simp only[go_sem,simprocAttr];refine ea 12 9 (by simp only[go_sem,simprocAttr];exact Is.mk) (by simp only[go_sem,simprocAttr];exact Is.mk) (by simp only[go_sem,simprocAttr]) ?_;simp only[go_sem,simprocAttr];obtain⟨bK,w⟩:=zi w;refine r6 ?_;refine b2 _ _ _ _ ?_ (a3 ((List.take a8.1 a8.2)++[i]) w);simp only[go_sem,simprocAttr,A];try exact eS
    clear K Y;refine q6 ?_;refine Wp.block ?_;obtain⟨bL,aK,w⟩:=zq w;refine fL 75 m.k.length fun aL=>?_;refine Wp.forL (fun S s=>[(3,lm zh l),(5,.ptr 1 0),(6,.ptr 2 0),(8,.ptr 3 0),(11,.ptr 8 0),(12,.buf 9),(14,.ptr 10 0),(16,.ptr 11 0),(43,lm zh l),(44,pI (l.length:Int)),(45,pI (n:Int)),(75,lm zd m.k),(76,pI (m.k.length:Int)),(77,pI (S:Int))]) (fun S s=>[.cells 26 [.top,.top,.top,.top],.cells 33 [lm zd m.k],.cells 9 [pS c],.cells 33 [.nils],.cells 26 [.top,.top,.top,.top],.mp true (zz Dt.s zc f.1),.mp false (zz Dt.s eu f.2.1),.mp true (zz Dt.s zb f.2.2.1),.cells 163 [lm za f.2.2.2,.mp 5,.mp 6,.mp 7],.buf 29 5 (List.map zd o),.cells 109 [pI b.g,pS b.j.a,pS b.j.F,pB b.j.G,pS b.x.r,pS b.x.Value,pS b.h.C,pS b.h.a,pB b.h.H,pB b.h.I],.cells 29 [pS i.q,pI i.g,pS i.a,pS i.y,pS i.E]]) ?_ w ?_
    .simp only[go_sem,simprocAttr,A];try exact eS
    clear w;intro S s bt w;try dsimp only at w|-
    refine q6 ?_;refine dc fun _ be _=>Wp.cond rfl ⟨⟩ (fun M=>?_) (fun M=>?_);rotate_left
    .refine Wp.exit ?_;have w:=aK _ (jd w (tf (by first|exact M|simpa using M)));try dsimp only at w
     refine b8 _ _ _ _ ?_ (a7 () w);simp only[go_sem,simprocAttr,A];try exact eS
    have N:=jz M;have bf:=iz N aL;obtain⟨aR,bA,O,bB,a9,w⟩:=jh w N;replace O:=O zd;refine Wp.skip ?_;simp only[zF];refine be _ _ (dc fun _ bg _=>Wp.block ?_);have A:=And.intro L (And.intro p (And.intro bf O));refine q6 ?_;obtain⟨bM,aM,w⟩:=zs w;refine sX (g:=!decide (aR.q=c)) (fun d=>EU aR i _ (aM d)) ?_;refine cN w (fun w=>?_) fun w=>?_
    .refine q6 ?_;refine Wp.ret ?_;simp only[zF,zB];refine gP ?_;cases w;simp only[go_sem,simprocAttr,A];try exact eS
    .refine Wp.skip (bg _ _ (r6 ?_));exact wN () N (a9 _ w)
   clear a2 W;obtain⟨bN,w⟩:=zi w;refine q6 ?_;refine Wp.block ?_;obtain⟨bO,aN,w⟩:=zq w;refine fL 61 ((List.take n l).length) fun aO=>?_;refine Wp.forL (fun T s=>[(3,lm zh l),(5,.ptr 1 0),(6,.ptr 2 0),(8,.ptr 3 0),(11,.ptr 8 0),(12,.buf 9),(14,.ptr 10 0),(16,.ptr 11 0),(43,lm zh l),(44,pI (l.length:Int)),(45,pI (n:Int)),(61,lm zh (List.take n l)),(62,pI ((List.take n l).length:Int)),(63,pI (T:Int))]) (fun T s=>[.cells 26 [.top,.top,.top,.top],.cells 33 [lm zd m.k],.cells 9 [pS c],.cells 33 [.nils],.cells 26 [.top,.top,.top,.top],.mp true (zz Dt.s zc f.1),.mp false (zz Dt.s eu f.2.1),.mp true (zz Dt.s zb f.2.2.1),.cells 163 [lm za f.2.2.2,.mp 5,.mp 6,.mp 7],.buf 29 5 (List.map zd o),.cells 109 [pI b.g,pS b.j.a,pS b.j.F,pB b.j.G,pS b.x.r,pS b.x.Value,pS b.h.C,pS b.h.a,pB b.h.H,pB b.h.I],.cells 29 [pS i.q,pI i.g,pS i.a,pS i.y,pS i.E]]) ?_ w ?_
   .simp only[go_sem,simprocAttr,A];try exact eS
   clear w;intro T s bu w;try dsimp only at w|-
   refine q6 ?_;refine dc fun _ bh _=>Wp.cond rfl ⟨⟩ (fun P=>?_) (fun P=>?_);rotate_left
   .refine Wp.exit ?_;have w:=aN _ (jd w (tf (by first|exact P|simpa using P)));try dsimp only at w
    refine b6 _ _ _ _ ?_ (a5 () w);simp only[go_sem,simprocAttr,A];try exact eS
   have Q:=jz P;have bi:=iz Q aO;obtain⟨bj,bC,v,bv,ac,w⟩:=jh w Q;replace v:=v zh;refine Wp.skip ?_;simp only[zF];refine bh _ _ (dc fun _ bk _=>Wp.block ?_);have A:=And.intro L (And.intro p (And.intro bi v));refine q6 ?_;obtain⟨bl,aP,w⟩:=ze w;obtain⟨bP,aQ,w⟩:=ze w;refine dS (pl [(0,none),(1,none),(2,none),(3,none),(4,none)]) fun _ bm=>?_;refine cD (fun d=>EN c bj _ aP) ?_;refine cD (fun d=>EU bl i _ aQ) (bm _ _ ?_);refine cN w (fun w=>?_) fun w=>?_
   .refine q6 ?_;refine Wp.ret ?_;simp only[zF,zB];refine gP ?_;cases w;simp only[go_sem,simprocAttr,A];try exact eS
   .refine Wp.skip (bk _ _ (r6 ?_));exact wN () Q (ac _ w)
theorem lh(N:aj)(l:List ay)(z:aj×al)(w:MN N l=some z):Does prog 5 [.agg [lm za N.D,lm zc N.u,lm za N.B,lm zb N.A],lm zk l] [] (fun r X=>r=.tup [.agg [lm za z.1.D,lm zc z.1.u,lm za z.1.B,lm zb z.1.A],.agg [lm zd z.2.k]]/\X=[]):=by
 unfold MN at w;refine dW 0 121 [.cell 4 26,.cell 5 33] func5 fun B=>nA fun A=>?_;refine qS ?_;refine qS ?_;refine dc fun K3 Q b7=>?_;obtain⟨aS,R,w⟩:=zp w;have aG:∀s,aS s=some z->K3 [(2,.ptr 0 0),(4,.ptr 1 0),(5,.ptr 2 0),(6,.ptr 3 0)] [.cells 26 [lm za s.1,lm zc s.2.1,lm za s.2.2.1,lm zb s.2.2.2.1],.cells 26 [.nils,.nils,.nils,.nils],.cells 33 [.nils],.cells 33 [lm zd s.2.2.2.2]]:=by
  intro s hs;have w:=R _ hs;clear hs;obtain⟨b1,b2,b3,b4,b5⟩:=s;try dsimp only at w|-
  refine Q _ _ (dS (pl [(0,none),(1,none),(2,some [1]),(3,some [])]) fun _ b8=>b8 _ _ ?_);exact wR
 clear Q R;obtain⟨bh,w⟩:=zi w;refine q6 ?_;refine Wp.block ?_;obtain⟨bi,aH,w⟩:=zq w;refine fL 23 ((List.take ((min (l.length:Int) 12).toNat) l).length) fun aI=>?_;refine Wp.forL (fun V s=>[(2,.ptr 0 0),(4,.ptr 1 0),(5,.ptr 2 0),(6,.ptr 3 0),(23,lm zk (List.take ((min (l.length:Int) 12).toNat) l)),(24,pI ((List.take ((min (l.length:Int) 12).toNat) l).length:Int)),(25,pI (V:Int))]) (fun V s=>[.cells 26 [lm za s.1,lm zc s.2.1,lm za s.2.2.1,lm zb s.2.2.2.1],.cells 26 [.nils,.nils,.nils,.nils],.cells 33 [.nils],.cells 33 [lm zd s.2.2.2.2]]) wF w ?_;clear w;intro V s bd w;obtain⟨c,f,i,j,b⟩:=s;try dsimp only at w|-
 refine qS ?_;refine dc fun _ b9 _=>Wp.cond rfl ⟨⟩ (fun a0=>?_) fun a0=>Wp.exit (b7 _ _ _ _ wF (aG (c,f,i,j,b) (aH _ (jd w (ss a0)))));have x:=jz a0;have y:=iz x aI;obtain⟨m,be,p,bf,aC,w⟩:=jh w x;replace p:=p zk;refine Wp.skip ?_;simp only[zF];refine b9 _ _ (dc fun K8 aR H=>?_);obtain⟨aT,a8,w⟩:=zp w;have Y:∀s,aT s=some z->K8 [(2,.ptr 0 0),(4,.ptr 1 0),(5,.ptr 2 0),(6,.ptr 3 0),(23,lm zk (List.take ((min (l.length:Int) 12).toNat) l)),(24,pI ((List.take ((min (l.length:Int) 12).toNat) l).length:Int)),(25,pI (V:Int))] [.cells 26 [lm za s.1,lm zc s.2.1,lm za s.2.2.1,lm zb s.2.2.2.1],.cells 26 [.nils,.nils,.nils,.nils],.cells 33 [.nils],.cells 33 [lm zd s.2.2.2.2]]:=by
  intro s hs;have w:=a8 _ hs;clear hs;obtain⟨ad,af,ag,an,av⟩:=s;try dsimp only at w|-
  refine aR _ _ ?_;have A:=And.intro y p;refine r6 ?_;exact wN (ad,af,ag,an,av) x (aC _ w)
 clear aR a8;refine Wp.block ?_;have A:=And.intro y p;refine q6 ?_;refine q6 ?_;refine q6 ?_;refine dc fun ba aE o=>?_;obtain⟨aU,a9,w⟩:=zp w;have n:∀s,aU s=some z->ba [(2,.ptr 0 0),(4,.ptr 1 0),(5,.ptr 2 0),(6,.ptr 3 0),(9,.ptr 5 0),(10,pI s.1),(23,lm zk (List.take ((min (l.length:Int) 12).toNat) l)),(24,pI ((List.take ((min (l.length:Int) 12).toNat) l).length:Int)),(25,pI (V:Int))] [.cells 26 [lm za s.2.1,lm zc s.2.2.1,lm za s.2.2.2.1,lm zb s.2.2.2.2.1],.cells 26 [.nils,.nils,.nils,.nils],.cells 33 [.nils],.cells 33 [lm zd s.2.2.2.2.2.1],.cells 60 [.top,.top,.top,.top,.top,.top],.cells 63 [lm zg s.2.2.2.2.2.2.1,lm zd s.2.2.2.2.2.2.2.1,lm zm s.2.2.2.2.2.2.2.2]]:=by
  intro s hs;have w:=a9 _ hs;clear hs;obtain⟨bj,t,v,C,E,W,aw,az,b6⟩:=s;try dsimp only at w|-
  refine aE _ _ (q6 ?_);refine cN w (fun w=>?_) fun w=>?_
  .obtain⟨a,aV,w⟩:=ze w;refine sF (Ww (aj.mk t v C E) aw _ aV) ?_;refine q6 ?_;refine cN w (fun w=>?_) fun w=>?_
   .refine dE (pl [(0,none),(1,none),(2,none),(3,some [1,2]),(4,some [])]) fun _ aW=>aW _ _ ?_;refine H _ _ _ _ ?_ (Y (a.1.D,a.1.u,a.1.B,a.1.A,az) w);simp only[go_sem,simprocAttr,A];try exact eS
   .refine Wp.skip (H _ _ _ _ ?_ (Y (t,v,C,E,W) w));simp only[go_sem,simprocAttr,A];try exact eS
  .refine Wp.skip (H _ _ _ _ ?_ (Y (t,v,C,E,W) w));simp only[go_sem,simprocAttr,A];try exact eS
 clear aE a9;refine q6 ?_;refine Wp.block (q6 ?_);refine cN w (fun w=>?_) fun w=>?_
 .obtain⟨Z,aJ,w⟩:=ze w;refine eF (py (aj.mk c f i j) (al.mk b) m.q m.S m.T _ aJ) ?_;refine o _ _ _ _ ?_ (n (Z.2,c,f,i,j,b,Z.1.L,Z.1.Q.k,Z.1.R) w);simp only[go_sem,simprocAttr,A];try exact eS
 .refine q6 ?_;refine cN w (fun w=>?_) fun w=>?_
  .obtain⟨d,aK,w⟩:=ze w;refine eF (lg (aj.mk c f i j) (al.mk b) m.q m.T _ aK) ?_;refine o _ _ _ _ ?_ (n (d.2,c,f,i,j,b,d.1.L,d.1.Q.k,d.1.R) w);simp only[go_sem,simprocAttr,A];try exact eS
  .refine q6 ?_;refine cN w (fun w=>?_) fun w=>?_
   .refine q6 ?_;refine Wp.block ?_;obtain⟨bk,aL,w⟩:=zq w;refine fL 60 m.L.length fun aM=>?_;refine Wp.forL (fun K s=>[(2,.ptr 0 0),(4,.ptr 1 0),(5,.ptr 2 0),(6,.ptr 3 0),(9,.ptr 5 0),(10,pI 10),(23,lm zk (List.take ((min (l.length:Int) 12).toNat) l)),(24,pI ((List.take ((min (l.length:Int) 12).toNat) l).length:Int)),(25,pI (V:Int)),(60,lm zg m.L),(61,pI (m.L.length:Int)),(62,pI (K:Int))]) (fun K s=>[.cells 26 [lm za s.1,lm zc s.2.1,lm za s.2.2.1,lm zb s.2.2.2],.cells 26 [.nils,.nils,.nils,.nils],.cells 33 [.nils],.cells 33 [lm zd b],.cells 60 [pI m.g,pS m.q,lm zh m.S,pB m.T.O,pB m.T.P,lm zg m.L],.cells 63 [.nils,.nils,.nils]]) ?_ w ?_
    .simp only[go_sem,simprocAttr,A];try exact eS
    clear w;intro K s bb w;obtain⟨F,G,I,J⟩:=s;try dsimp only at w|-
    refine q6 ?_;refine dc fun _ aX _=>Wp.cond rfl ⟨⟩ (fun e=>?_) (fun e=>?_);rotate_left
    .refine Wp.exit ?_;have w:=aL _ (jd w (tf (by first|exact e|simpa using e)));try dsimp only at w
     refine o _ _ _ _ ?_ (n (10,F,G,I,J,b,[],[],[]) w);simp only[go_sem,simprocAttr,A];try exact eS
    have M:=jz e;have aY:=iz M aM;obtain⟨aZ,bg,U,bc,a4,w⟩:=jh w M;replace U:=U zg;refine Wp.skip ?_;simp only[zF];refine aX _ _ (dc fun _ aF _=>Wp.block ?_);have A:=And.intro y (And.intro p (And.intro aY U));refine q6 ?_;obtain⟨h,aN,w⟩:=ze w;refine sF (Ww (aj.mk F G I J) [aZ] _ aN) ?_;refine q6 ?_;refine cN w (fun w=>?_) fun w=>?_
    .refine r6 ?_;refine aF _ _ (r6 ?_);exact wN (h.1.D,h.1.u,h.1.B,h.1.A) M (a4 _ w)
    .refine Wp.skip (aF _ _ (r6 ?_));exact wN (F,G,I,J) M (a4 _ w)
   .refine q6 ?_;refine cN w (fun w=>?_) fun w=>?_
    .obtain⟨k,aO,w⟩:=ze w;refine eF (m6 (aj.mk c f i j) (al.mk b) m.q m.S _ aO) ?_;refine o _ _ _ _ ?_ (n (k.2,c,f,i,j,b,k.1.L,k.1.Q.k,k.1.R) w);simp only[go_sem,simprocAttr,A];try exact eS
    .refine q6 ?_;refine cN w (fun w=>?_) fun w=>?_
     .obtain⟨b0,aP,w⟩:=ze w;refine sF (pC (aj.mk c f i j) (al.mk b) m.q m.S _ aP) ?_;refine q6 ?_;refine cN w (fun w=>?_) fun w=>?_
      .refine r6 ?_;refine o _ _ _ _ ?_ (n (10,c,f,i,j,b0.1.k,[],[],[]) w);simp only[go_sem,simprocAttr,A];try exact eS
      .refine Wp.skip (o _ _ _ _ ?_ (n (10,c,f,i,j,b,[],[],[]) w));simp only[go_sem,simprocAttr,A];try exact eS
     .refine Wp.skip (o _ _ _ _ ?_ (n (10,c,f,i,j,b,[],[],[]) w));simp only[go_sem,simprocAttr,A];try exact eS
theorem zln(b:Int)(z:Bool)(w:UW b=some z):Does prog 159 [.p (.i .u8 b)] [] (fun r X=>r=pB z/\X=[]):=by
 unfold UW at w;refine dW 0 9 [.tmp 2] func159 fun B=>nA fun A=>?_;refine qS ?_;exact wQ
theorem znE(c:eo)(b:Int)(z:Bool)(w:UI c b=some z):Does prog 53 [pS c,pI b,.fn 159 []] [] (fun r X=>r=pB z/\X=[]):=by
 unfold UI at w;refine dW 0 28 [.tmp 6] func53 fun B=>nA fun A=>?_;refine qS ?_;refine dc fun a o v=>?_;obtain⟨C,g,w⟩:=zp w;have k:∀s,C s=some z->a [(0,pS c),(1,pI b)] []:=by
  intro s hs;have w:=g _ hs;clear hs;try dsimp only at w|-
  exact o _ _ (wQ)
 clear o g;refine qS ?_;refine Wp.block ?_;obtain⟨L,p,w⟩:=zq w;refine fL 0 c.length fun t=>?_;refine Wp.forL (fun i s=>[(0,pS c),(1,pI b),(2,.fn 159 []),(7,pI (i:Int))]) (fun i s=>[]) wF w ?_;clear w;intro i s I w;try dsimp only at w|-
 refine dc fun _ D _=>qS ?_;refine Wp.cond rfl ⟨⟩ (fun j=>?_) fun j=>Wp.exit (v _ _ _ _ wF (k () (p _ (jd w (ss j)))));have f:=jz j;have E:=iz f t;obtain⟨F,J,l,m,n,w⟩:=jh w f;clear l;refine Wp.skip ?_;simp only[zF];refine D _ _ (dc fun _ G _=>Wp.block ?_);obtain⟨M,u,w⟩:=ze w;have A:=And.intro E m;refine sX (fun d=>zln (F.toNat:Int) _ u) ?_;refine cR w fun w=>?_;refine Wp.skip (G _ _ (r6 ?_));exact wN () f (n _ w)
theorem Zz(b:eo)(z:Bool)(w:Lz b=some z):Does prog 130 [pS b] [] (fun r X=>r=pB z/\X=[]):=by
 unfold Lz at w;refine dW 0 9 [.tmp 2] func130 fun B=>nA fun A=>?_;refine qS ?_;obtain⟨f,c,w⟩:=zs w;refine sX (g:=!(decide (b=[]))) (fun a=>znE b 1000 _ (c a)) ?_;exact wR
theorem zho(b:ab)(z:Int)(w:U2 b=some z):Does prog 89 [.agg [pS b.r,pS b.Value],.fn 17 []] [] (fun r X=>r=pI z/\X=[]):=by
 unfold U2 at w;refine dW 0 14 [.tmp 4] func89 fun B=>nA fun A=>?_;refine qS ?_;refine dc fun _ g _=>?_;obtain⟨j,c,w⟩:=ze w;refine sX (fun a=>O2 b.r _ c) ?_;refine cR w fun w=>?_;refine Wp.skip (g _ _ (dc fun _ i _=>?_));obtain⟨k,f,w⟩:=ze w;refine sX (fun a=>Zz b.Value _ f) ?_;refine cR w fun w=>?_;exact Wp.skip (i _ _ (wQ))
theorem zmB(b:ab)(z:Int)(w:Nm b=some z):Does prog 88 [.agg [pS b.r,pS b.Value]] [] (fun r X=>r=pI z/\X=[]):=by
 unfold Nm at w;refine dW 0 5 [.tmp 2] func88 fun B=>nA fun A=>?_;refine qS ?_;obtain⟨f,c,w⟩:=ze w;refine sX (fun a=>zho b _ c) ?_;exact wR
theorem US(b:ab)(z:eo)(w:AU b=some z):Does prog 90 [.agg [pS b.r,pS b.Value]] [] (fun r X=>r=pS z/\X=[]):=by
 unfold AU at w;refine dW 0 5 [.tmp 2] func90 fun B=>nA fun A=>?_;refine qS ?_;exact wQ
theorem zeR(b:List ab)(z:Int)(w:PF b=some z):Does prog 87 [lm za b,.fn 88 [],.fn 90 []] [] (fun r X=>r=pI z/\X=[]):=by
 unfold PF at w;refine dW 0 39 [.tmp 6] func87 fun B=>nA fun A=>?_;refine qS ?_;refine dc fun q p G=>?_;obtain⟨I,j,w⟩:=zp w;have k:∀s,I s=some z->q [] []:=by
  intro s hs;have w:=j _ hs;clear hs;try dsimp only at w|-
  exact p _ _ (wQ)
 clear p j;refine qS ?_;refine Wp.block ?_;obtain⟨R,u,w⟩:=zq w;refine fL 0 b.length fun m=>?_;refine Wp.forL (fun c s=>[(0,lm za b),(1,.fn 88 []),(2,.fn 90 []),(10,lm za b),(11,pI (b.length:Int)),(12,pI (c:Int))]) (fun c s=>[]) wF w ?_;clear w;intro c s N w;try dsimp only at w|-
 refine qS ?_;refine lB za w m (fun h=>G _ _ _ _ wF (k () (u _ h))) fun v J t P n O o w A _ L=>?_;refine q6 ?_;refine dc fun _ M _=>?_;obtain⟨S,C,w⟩:=ze w;refine sX (fun a=>zmB t _ C) ?_;refine q6 ?_;refine cR w fun w=>?_;refine Wp.skip (M _ _ ?_);obtain⟨T,D,w⟩:=zs w;obtain⟨Q,w⟩:=zi w;obtain⟨U,E,w⟩:=zs w;have f:=BV (l:=b) (e:=za) (d:=(ab.mk [] [])) (i:=(IntKind.i64.wrap ((c:Int)-1)).toNat);simp only[za,map_nil]at f;have A:=And.intro J (And.intro n f);refine dS (pl [(0,none),(1,none),(2,none),(3,none),(4,none),(5,none),(6,none),(7,none),(8,none),(9,none),(10,none),(11,none),(12,none),(13,none),(14,none)]) fun _ F=>?_;refine cD (g:=decide (0<(c:Int))) (fun a=>US t _ (D a)) ?_;refine cD (g:=decide (0<(c:Int))) (fun a=>US (ab.mk ((b.getD ((IntKind.i64.wrap ((c:Int)-1)).toNat) (ab.mk [] [])).r) ((b.getD ((IntKind.i64.wrap ((c:Int)-1)).toNat) (ab.mk [] [])).Value)) _ (E a)) (F _ _ ?_);refine cR w fun w=>?_;refine Wp.skip (L _ _ (r6 ?_));exact wN () v (o _ w)
theorem zmw(b:Int)(z:Bool)(w:UM b=some z):Does prog 139 [.p (.i .u8 b)] [] (fun r X=>r=pB z/\X=[]):=by
 unfold UM at w;refine dW 0 29 [.tmp 2] func139 fun B=>nA fun A=>?_;refine qS ?_;obtain⟨j,c,w⟩:=ze w;obtain⟨l,f,w⟩:=zs w;refine rS fun _ k=>?_;refine cX (fun a=>W7 b _ c) ?_;refine cX (g:=!(j||((decide (65<=b))&&(decide (b<=90))))) (fun a=>ZA b _ (f a)) (k _ _ ?_);exact wR
theorem znD(c:eo)(b:Int)(z:Bool)(w:UJ c b=some z):Does prog 53 [pS c,pI b,.fn 139 []] [] (fun r X=>r=pB z/\X=[]):=by
 unfold UJ at w;refine dW 0 28 [.tmp 6] func53 fun B=>nA fun A=>?_;refine qS ?_;refine dc fun a o v=>?_;obtain⟨C,g,w⟩:=zp w;have k:∀s,C s=some z->a [(0,pS c),(1,pI b)] []:=by
  intro s hs;have w:=g _ hs;clear hs;try dsimp only at w|-
  exact o _ _ (wQ)
 clear o g;refine qS ?_;refine Wp.block ?_;obtain⟨L,p,w⟩:=zq w;refine fL 0 c.length fun t=>?_;refine Wp.forL (fun i s=>[(0,pS c),(1,pI b),(2,.fn 139 []),(7,pI (i:Int))]) (fun i s=>[]) wF w ?_;clear w;intro i s I w;try dsimp only at w|-
 refine dc fun _ D _=>qS ?_;refine Wp.cond rfl ⟨⟩ (fun j=>?_) fun j=>Wp.exit (v _ _ _ _ wF (k () (p _ (jd w (ss j)))));have f:=jz j;have E:=iz f t;obtain⟨F,J,l,m,n,w⟩:=jh w f;clear l;refine Wp.skip ?_;simp only[zF];refine D _ _ (dc fun _ G _=>Wp.block ?_);obtain⟨M,u,w⟩:=ze w;have A:=And.intro E m;refine sX (fun d=>zmw (F.toNat:Int) _ u) ?_;refine cR w fun w=>?_;refine Wp.skip (G _ _ (r6 ?_));exact wN () f (n _ w)
theorem zoU(b:eo)(z:Bool)(w:Nb b=some z):Does prog 111 [pS b] [] (fun r X=>r=pB z/\X=[]):=by
 unfold Nb at w;refine dW 0 15 [.tmp 2] func111 fun B=>nA fun A=>?_;refine qS ?_;refine qS ?_;obtain⟨f,c,w⟩:=ze w;refine sX (fun a=>znD b 40 _ c) ?_;exact wR
theorem O3(b:eo)(z:Bool)(w:xJ b=some z):Does prog 43 [pS b] [] (fun r X=>r=pB z/\X=[]):=by
 unfold xJ at w;refine dW 0 19 [.tmp 2] func43 fun B=>nA fun A=>?_;refine qS ?_;refine dc fun a k t=>?_;obtain⟨u,c,w⟩:=zp w;have i:∀s,u s=some z->a [(0,pS b)] []:=by
  intro s hs;have w:=c _ hs;clear hs;try dsimp only at w|-
  exact k _ _ (wQ)
 clear k c;obtain⟨f,l,w⟩:=ze w;refine sF (ZQ b ([47]:eo) _ l) ?_;refine Wp.block ?_;obtain⟨I,m,w⟩:=zq w;refine fL 6 f.length fun n=>?_;refine Wp.forL (fun g s=>[(0,pS b),(6,lm eu f),(7,pI (f.length:Int)),(8,pI (g:Int))]) (fun g s=>[]) wF w ?_;clear w;intro g s D w;try dsimp only at w|-
 refine qS ?_;refine lB eu w n (fun h=>t _ _ _ _ wF (i () (m _ h))) fun o J v G E F j w A _ C=>?_;refine q6 ?_;obtain⟨L,p,w⟩:=ze w;refine sX (fun d=>zoU v _ p) ?_;refine cR w fun w=>?_;refine Wp.skip (C _ _ (r6 ?_));exact wN () o (j _ w)
theorem zkM(b:ae)(z:Int)(w:LP b=some z):Does prog 91 [.agg [pS b.a,pS b.F,pB b.G]] [] (fun r X=>r=pI z/\X=[]):=by
 unfold LP at w;refine dW 0 11 [.tmp 2] func91 fun B=>nA fun A=>?_;refine qS ?_;refine dc fun _ f _=>?_;obtain⟨i,c,w⟩:=ze w;refine sX (fun d=>O3 b.a _ c) ?_;refine cR w fun w=>?_;refine Wp.skip (f _ _ (dc fun _ g _=>qS ?_));refine cR w fun w=>?_;exact Wp.skip (g _ _ (wQ))
theorem zj3(b:eo)(c:List (eo×Bool))(z:Bool)(w:Pa b c=some z):Does prog 93 [pS b,.ptr 0 0] [.cells 96 [.mp 1],.mp false (zz Dt.s eR c)] (fun r X=>r=pB z/\X=[.cells 96 [.mp 1],.mp false (zz Dt.s eR c)]):=by
 unfold Pa at w;refine dW 2 8 [.tmp 3] func93 fun B=>nA fun A=>?_;refine qS ?_;obtain⟨j,i,w⟩:=il w;have f:=ju (e:=eR) eZ c b false;have g:=jv (e:=eR) eZ c b;simp only[i,eR,map_nil]at f g;have A:=And.intro f g;exact wQ
theorem zlq(b:eo)(c:List (eo×Bool))(z:Bool)(w:LG b c=some z):Does prog 92 [pS b,.fn 93 [.ptr 0 0]] [.cells 96 [.mp 1],.mp false (zz Dt.s eR c)] (fun r X=>r=pB z/\X=[.cells 96 [.mp 1],.mp false (zz Dt.s eR c)]):=by
 unfold LG at w;refine dW 2 24 [.tmp 4] func92 fun B=>nA fun A=>?_;refine qS ?_;refine dc fun a p C=>?_;obtain⟨D,j,w⟩:=zp w;have l:∀s,D s=some z->a [] [.cells 96 [.mp 1],.mp false (zz Dt.s eR c)]:=by
  intro s hs;have w:=j _ hs;clear hs;try dsimp only at w|-
  exact p _ _ (wQ)
 clear p j;refine qS ?_;refine Wp.block ?_;obtain⟨N,t,w⟩:=zq w;refine fL 0 b.length fun u=>?_;refine Wp.forL (fun i s=>[(0,pS b),(1,.fn 93 [.ptr 0 0]),(5,pI (i:Int))]) (fun i s=>[.cells 96 [.mp 1],.mp false (zz Dt.s eR c)]) wF w ?_;clear w;intro i s J w;try dsimp only at w|-
 refine dc fun _ E _=>qS ?_;refine Wp.cond rfl ⟨⟩ (fun k=>?_) fun k=>Wp.exit (C _ _ _ _ wF (l () (t _ (jd w (ss k)))));have f:=jz k;have F:=iz f u;obtain⟨G,L,m,n,o,w⟩:=jh w f;clear m;refine Wp.skip ?_;simp only[zF];refine E _ _ (dc fun _ I _=>Wp.block ?_);obtain⟨M,w⟩:=zi w;obtain⟨O,v,w⟩:=zs w;have A:=And.intro F n;refine sQ (g:=decide ((G.toNat:Int)=47)) [0,1] (fun d=>zj3 (List.take i b) c _ (v d)) ?_;refine cR w fun w=>?_;refine Wp.skip (I _ _ (r6 ?_));exact wN () f (o _ w)
theorem zhn(b:ab)(z:Int)(w:U3 b=some z):Does prog 89 [.agg [pS b.r,pS b.Value],.fn 43 []] [] (fun r X=>r=pI z/\X=[]):=by
 unfold U3 at w;refine dW 0 14 [.tmp 4] func89 fun B=>nA fun A=>?_;refine qS ?_;refine dc fun _ g _=>?_;obtain⟨j,c,w⟩:=ze w;refine sX (fun a=>O3 b.r _ c) ?_;refine cR w fun w=>?_;refine Wp.skip (g _ _ (dc fun _ i _=>?_));obtain⟨k,f,w⟩:=ze w;refine sX (fun a=>Zz b.Value _ f) ?_;refine cR w fun w=>?_;exact Wp.skip (i _ _ (wQ))
theorem zmA(b:ab)(z:Int)(w:Nn b=some z):Does prog 94 [.agg [pS b.r,pS b.Value]] [] (fun r X=>r=pI z/\X=[]):=by
 unfold Nn at w;refine dW 0 5 [.tmp 2] func94 fun B=>nA fun A=>?_;refine qS ?_;obtain⟨f,c,w⟩:=ze w;refine sX (fun a=>zhn b _ c) ?_;exact wR
end Go.Proofs.YteofmaagnphonaaGreatDoor
