/- That the code does what the models say (part 7). -/
import Derived.Test.YtpcihjdidhpbbaaGreatDoorKpWk0
import Derived.Test.YtpcihjdidhpbbaaGreatDoorKpWk1
import Derived.Test.YtpcihjdidhpbbaaGreatDoorKpWk2
import Derived.Test.YtpcihjdidhpbbaaGreatDoorKpWk3
import Derived.Test.YtpcihjdidhpbbaaGreatDoorKpWk4
import Derived.Test.YtpcihjdidhpbbaaGreatDoorKpWk6
set_option linter.unusedSimpArgs false
set_option linter.unusedVariables false
open Go.Proofs Go.Shelf
open List
namespace Go.Proofs.YtpcihjdidhpbbaaGreatDoor
open Tryz
open Go.Vc Go.Md
set_option maxRecDepth 100000
set_option maxHeartbeats 4000000
theorem Vu(b:List aa)(c:ev)(z:Int)(w:N0 b c=some z):Does prog 70 [lm zc b,.fn 81 [.rp [.s c]]] [] (fun r X=>r=pI z/\X=[]):=by
 unfold N0 at w;refine dW 0 19 [.tmp 4] func70 fun B=>nA fun A=>?_;refine qS ?_;refine da fun a k p=>?_;obtain⟨t,f,w⟩:=zo w;have i:∀s,t s=some z->a [] []:=by
  intro s hs;have w:=f _ hs;clear hs;try dsimp only at w|-
  exact k _ _ (wQ)
 clear k f;refine qS ?_;refine Wp.block ?_;obtain⟨G,l,w⟩:=zq w;refine fL 0 b.length fun m=>?_;refine Wp.forL (fun g s=>[(0,lm zc b),(1,.fn 81 [.rp [.s c]]),(7,pI (b.length:Int)),(8,pI (g:Int))]) (fun g s=>[]) wF w ?_;clear w;intro g s C w;try dsimp only at w|-
 refine qS ?_;refine lB zc w m (fun h=>p _ _ _ _ wF (i () (l _ h))) fun n I u F D E j w A _ v=>?_;refine q6 ?_;obtain⟨J,o,w⟩:=zd w;refine sX (fun d=>Ue u c _ o) ?_;refine cR w fun w=>?_;refine Wp.skip (v _ _ (r6 ?_));exact wN () n (j _ w)
theorem Vo(b:List aa)(c:ev)(z:Bool)(w:zU b c=some z):Does prog 66 [lm zc b,.fn 81 [.rp [.s c]]] [] (fun r X=>r=pB z/\X=[]):=by
 unfold zU at w;refine dW 0 9 [.tmp 4] func66 fun B=>nA fun A=>?_;refine qS ?_;obtain⟨g,f,w⟩:=zd w;refine sX (fun a=>Vu b c _ f) ?_;exact wR
theorem Uf(c:aa)(f:ev)(b:aa)(z:Bool)(w:Iq c f b=some z):Does prog 83 [.agg [pS c.r,pI c.g,pS c.a,pS c.y,pS c.A],.rp [.s f],.rp [.s b.r,.i .i64 b.g,.s b.a,.s b.y,.s b.A]] [] (fun r X=>r=pB z/\X=[]):=by
 unfold Iq at w;refine dW 0 23 [.tmp 4] func83 fun B=>nA fun A=>?_;refine qS ?_;exact wQ
theorem Vv(c:List aa)(f:ev)(b:aa)(z:Int)(w:IZ c f b=some z):Does prog 70 [lm zc c,.fn 83 [.rp [.s f],.rp [.s b.r,.i .i64 b.g,.s b.a,.s b.y,.s b.A]]] [] (fun r X=>r=pI z/\X=[]):=by
 unfold IZ at w;refine dW 0 19 [.tmp 4] func70 fun B=>nA fun A=>?_;refine qS ?_;refine da fun d o v=>?_;obtain⟨C,j,w⟩:=zo w;have l:∀s,C s=some z->d [] []:=by
  intro s hs;have w:=j _ hs;clear hs;try dsimp only at w|-
  exact o _ _ (wQ)
 clear o j;refine qS ?_;refine Wp.block ?_;obtain⟨L,p,w⟩:=zq w;refine fL 0 c.length fun m=>?_;refine Wp.forL (fun k s=>[(0,lm zc c),(1,.fn 83 [.rp [.s f],.rp [.s b.r,.i .i64 b.g,.s b.a,.s b.y,.s b.A]]),(7,pI (c.length:Int)),(8,pI (k:Int))]) (fun k s=>[]) wF w ?_;clear w;intro k s F w;try dsimp only at w|-
 refine qS ?_;refine lB zc w m (fun h=>v _ _ _ _ wF (l () (p _ h))) fun t M D J G I n w A _ E=>?_;refine q6 ?_;obtain⟨N,u,w⟩:=zd w;refine sX (fun e=>Uf D f b _ u) ?_;refine cR w fun w=>?_;refine Wp.skip (E _ _ (r6 ?_));exact wN () t (n _ w)
theorem RT(b:Int)(z:Bool)(w:F1 b=some z):Does prog 85 [pI b] [] (fun r X=>r=pB z/\X=[]):=by
 unfold F1 at w;refine dW 0 13 [.tmp 2] func85 fun B=>nA fun A=>?_;refine qS ?_;exact wQ
theorem nB(v:ak)(p:aj)(n:ev)(T:List al)(z:ap×Int)(w:Hl v p n T=some z):Does prog 18 [.agg [lm za v.F,lm ze v.B,lm za v.E,lm zb v.D],.agg [lm zc p.q],pS n,lm zj T] [] (fun r X=>r=.tup [.agg [lm zi z.1.K,lm zc z.1.R.q,lm zm z.1.S],pI z.2]/\X=[]):=by
 unfold Hl at w;refine dW 0 144 [.cell 8 56,.tmp 9] func18 fun B=>nA fun A=>?_;refine qS ?_;obtain⟨aL,ag,w⟩:=zd w;obtain⟨aM,an,w⟩:=zd w;obtain⟨aN,aw,w⟩:=zd w;obtain⟨aO,ay,w⟩:=zd w;obtain⟨S,az,w⟩:=zd w;refine dS (pl [(0,none),(1,none),(2,none),(3,none),(4,none),(5,none),(6,none),(7,none),(8,some []),(9,none),(10,none)]) fun _ b4=>?_;refine cD (fun e=>H0 v _ ag) ?_;refine cD (fun e=>yM p _ an) ?_;refine cD (fun e=>yc n _ aw) ?_;refine cD (fun e=>jk (!aN) 5 _ ay) ?_;refine cD (fun e=>qP [aL,aM,aO] _ az) (b4 _ _ ?_);refine da fun K8 aJ aK=>?_;obtain⟨aP,a4,w⟩:=zo w;have a5:∀s,aP s=some z->K8 [(3,lm zj T),(4,.ptr 0 0),(5,.ptr 1 0),(6,.ptr 2 0),(8,.ptr 3 0),(10,pI s)] [.cells 29 [lm za v.F,lm ze v.B,lm za v.E,lm zb v.D],.cells 24 [lm zc p.q],.cells 9 [pS n],.cells 56 [.nils,.nils,.nils]]:=by
  intro bh hs;have w:=a4 _ hs;clear hs;try dsimp only at w|-
  refine aJ _ _ (da fun _ b5 _=>qS ?_);refine cN w (fun w=>?_) fun w=>?_
  .refine qS ?_;refine Wp.ret ?_;simp only[zz,zw];refine z2 ?_;cases w;exact fc
  .refine Wp.skip (b5 _ _ ?_);obtain⟨V,aA,w⟩:=zd w;refine dS (pl [(0,none),(2,none),(3,none),(1,some [2,3]),(4,none),(5,some []),(6,none)]) fun _ aQ=>?_;refine cE [] (Iw v _ aA) (aQ _ _ ?_);refine da fun b6 a9 aR=>?_;obtain⟨aS,a6,w⟩:=zo w
   have ac:∀s,aS s=some z->b6 [(5,.ptr 1 0),(8,.ptr 3 0),(11,.ptr 9 0)] [.cells 29 [.top,.top,.top,.top],.cells 24 [lm zc p.q],.cells 9 [.top],.cells 56 [.nils,.nils,.nils],.cells 29 [.top,.top,.top,.top],.mp true (zH Dt.s ze s.1),.mp false (zH Dt.s ex s.2.1),.mp true (zH Dt.s zb s.2.2.1),.cells 175 [lm za V.2.2.2,.mp 5,.mp 6,.mp 7],.cells 124 [.ptr 8 0,lm zc p.q,.buf 10,.nils,.nils,pI s.2.2.2.1],.buf 67 10 (List.map zi s.2.2.2.2)]:=by
    intro s hs;have w:=a6 _ hs;clear hs;obtain⟨ba,bb,bc,b3,b7⟩:=s;try dsimp only at w|-
    refine a9 _ _ (da fun _ aT _=>qS ?_);refine cN w (fun w=>?_) fun w=>?_
    .refine dS (pl [(0,none),(1,none),(2,none),(3,none),(4,none),(5,some [1,2,3,4]),(6,none)]) fun _ aU=>aU _ _ ?_;refine Wp.ret ?_;simp only[zz,zw];refine z2 ?_;cases w;exact fc
    .refine Wp.skip (aT _ _ (qS ?_));refine qS ?_;refine Wp.ret ?_;refine z2 ?_;cases w;exact fc
   clear a9 a6;refine qS ?_;refine Wp.block (dd 9 2 67 10 rfl rfl ?_);simp only[go_sem,simprocAttr];obtain⟨bi,aB,w⟩:=zq w;refine fL 49 T.length fun aC=>?_;refine Wp.forL (fun Y s=>[(5,.ptr 1 0),(6,.ptr 2 0),(8,.ptr 3 0),(11,.ptr 9 0),(49,lm zj T),(50,pI (T.length:Int)),(51,pI (Y:Int))]) (fun Y s=>[.cells 29 [lm za v.F,lm ze v.B,lm za v.E,lm zb v.D],.cells 24 [lm zc p.q],.cells 9 [pS n],.cells 56 [.nils,.nils,.nils],.cells 29 [.top,.top,.top,.top],.mp true (zH Dt.s ze s.1),.mp false (zH Dt.s ex s.2.1),.mp true (zH Dt.s zb s.2.2.1),.cells 175 [lm za V.2.2.2,.mp 5,.mp 6,.mp 7],.cells 124 [.ptr 8 0,lm zc p.q,.buf 10,.nils,.nils,pI s.2.2.2.1],.buf 67 10 (List.map zi s.2.2.2.2)]) wF w ?_;clear w;intro Y s b8 w;obtain⟨M,N,O,P,U⟩:=s;try dsimp only at w|-
   refine qS ?_;refine lB zj w aC (fun h=>aR _ _ _ _ wF (ac (M,N,O,P,U) (aB _ h))) fun a7 m c bd l be a3 w A _ ad=>?_;refine q6 ?_;refine da fun _ aV _=>?_;obtain⟨K,aD,w⟩:=zd w;refine sX (fun e=>PT c _ aD) ?_;refine q6 ?_;refine cN w (fun w=>?_) fun w=>?_
   .refine q6 ?_;refine Wp.ret ?_;simp only[zz,zw];refine z2 ?_;cases w;simp only[go_sem,simprocAttr,A];try exact eY
   .refine Wp.skip (aV _ _ ?_);obtain⟨t,aW,w⟩:=zd w;refine sX (fun e=>C4 n c _ aW) ?_;obtain⟨Z,aX,w⟩:=zd w;refine sX (fun e=>Vv p.q n t _ aX) ?_;refine da fun _ aY _=>Wp.block (q6 ?_);refine cN w (fun w=>?_) fun w=>?_
    .refine q6 ?_;refine Wp.ret ?_;simp only[zz,zw];refine z2 ?_;cases w;simp only[go_sem,simprocAttr,A];try exact eY
    .obtain⟨L,bf,f,bg,w⟩:=gk w;replace f:∀d,(List.map zc p.q).getD Z.toNat d=zc L:=f zc;have A:=And.intro m (And.intro l f);refine dS (pl [(0,none),(1,none),(2,none),(3,none),(4,none),(5,none),(6,none),(7,none),(8,none),(9,none)]) fun _ aZ=>aZ _ _ ?_;refine cN w (fun w=>?_) fun w=>?_
     .refine q6 ?_;refine Wp.ret ?_;simp only[zz,zw];refine z2 ?_;cases w;simp only[go_sem,simprocAttr,A];try exact eY
     .refine Wp.skip (aY _ _ ?_);obtain⟨k,af,w⟩:=zd w;refine dv (plan:=(.rd 0 (.rd 1 (.rd 2 (.rd 3 (.rd 4 (.fk 5 [] (.rd 6 (.rd 7 (.rd 8 (.ef 9 [0,1,2,3,4,6,7,8] (.ef 10 [8] (.rd 11 .nil)))))) 9 [0,1,2,3,4] (.ef 5 [] (.rd 6 (.rd 7 (.rd 8 (.ef 10 [8] (.rd 11 .nil))))))))))))) (by kernel_rfl) rfl (by kernel_rfl) fun b9 b0 R=>?_
      suffices Q:b9 [(5,.ptr 1 0),(6,.ptr 2 0),(8,.ptr 3 0),(11,.ptr 9 0),(13,.ptr 11 0),(14,pI K),(15,.ptr 12 0),(16,pI Z),(17,.ptr 13 0),(18,pB k.2),(49,lm zj T),(50,pI (T.length:Int)),(51,pI (Y:Int)),(52,pB (decide ((Y:Int)<(T.length:Int)))),(53,.rp [.i .i64 c.g,.s c.j.a,.s c.j.G,.b c.j.H,.s c.x.u,.s c.x.Value,.s c.h.C,.s c.h.a,.b c.h.I,.b c.h.J]),(54,.agg [pI c.g,pS c.j.a,pS c.j.G,pB c.j.H,pS c.x.u,pS c.x.Value,pS c.h.C,pS c.h.a,pB c.h.I,pB c.h.J]),(55,.agg [pI c.g,pS c.j.a,pS c.j.G,pB c.j.H,pS c.x.u,pS c.x.Value,pS c.h.C,pS c.h.a,pB c.h.I,pB c.h.J]),(56,pI K),(57,pI K),(58,pB (!decide (K=0))),(61,pS n),(62,.agg [pI c.g,pS c.j.a,pS c.j.G,pB c.j.H,pS c.x.u,pS c.x.Value,pS c.h.C,pS c.h.a,pB c.h.I,pB c.h.J]),(63,.agg [pS t.r,pI t.g,pS t.a,pS t.y,pS t.A]),(64,.ptr 1 0),(65,lm zc p.q),(66,.fn 83 [.ptr 2 0,.ptr 12 0]),(67,pI Z),(68,pB (decide (Z<0))),(69,pI Z),(70,pB (decide (Z<0))),(72,pB (!decide (L.y=t.y))),(73,.ptr 1 0),(74,lm zc p.q),(75,pI Z),(76,.rp [.s L.r,.i .i64 L.g,.s L.a,.s L.y,.s L.A]),(77,.rp [.s L.y,.s L.A]),(78,pS L.y),(79,.ptr 12 3),(80,pS t.y),(81,pB (!decide (L.y=t.y))),(83,.tup [.agg [pI k.1.g,pS k.1.j.a,pS k.1.j.G,pB k.1.j.H,pS k.1.x.u,pS k.1.x.Value,pS k.1.h.C,pS k.1.h.a,pB k.1.h.I,pB k.1.h.J],pB k.2]),(84,.ptr 9 0),(85,.ptr 9 0),(86,.ptr 9 0),(87,.ptr 8 0),(88,.agg [pS t.r,pI t.g,pS t.a,pS t.y,pS t.A]),(89,.tup [.agg [pI k.1.g,pS k.1.j.a,pS k.1.j.G,pB k.1.j.H,pS k.1.x.u,pS k.1.x.Value,pS k.1.h.C,pS k.1.h.a,pB k.1.h.I,pB k.1.h.J],pB k.2]),(90,.agg [pI k.1.g,pS k.1.j.a,pS k.1.j.G,pB k.1.j.H,pS k.1.x.u,pS k.1.x.Value,pS k.1.h.C,pS k.1.h.a,pB k.1.h.I,pB k.1.h.J]),(91,pB k.2)] [.cells 29 [lm za v.F,lm ze v.B,lm za v.E,lm zb v.D],.cells 24 [lm zc p.q],.cells 9 [pS n],.cells 56 [.nils,.nils,.nils],.cells 29 [.top,.top,.top,.top],.mp true (zH Dt.s ze M),.mp false (zH Dt.s ex N),.mp true (zH Dt.s zb O),.cells 175 [lm za V.2.2.2,.mp 5,.mp 6,.mp 7],.cells 124 [.ptr 8 0,lm zc p.q,.buf 10,.nils,.nils,pI P],.buf 67 10 (List.map zi U),.cells 125 [pI c.g,pS c.j.a,pS c.j.G,pB c.j.H,pS c.x.u,pS c.x.Value,pS c.h.C,pS c.h.a,pB c.h.I,pB c.h.J],.cells 84 [pS t.r,pI t.g,pS t.a,pS t.y,pS t.A],.cells 125 [pI k.1.g,pS k.1.j.a,pS k.1.j.G,pB k.1.j.H,pS k.1.x.u,pS k.1.x.Value,pS k.1.h.C,pS k.1.h.a,pB k.1.h.I,pB k.1.h.J]]by
       simp only[go_sem,simprocAttr,m,l,f];try refine⟨sd,?_⟩
       refine Dr.fk ?_ ?_
       ·
        refine id (Br.callR (av:=?av45) (g:=true) (o:=?o45) [8,5,6,7] (fun e=>GJ t V.2.2.2 M N O _ af) (by simp only[go_sem,simprocAttr,m,l,f];exact Is.mk) (by simp only[go_sem,simprocAttr,m,l,f];exact Is.mk) (by simp only[go_sem,simprocAttr,m,l,f];exact Is.mk) (by simp only[go_sem,simprocAttr,m,l,f];exact Is.mk) (by simp only[go_sem,simprocAttr,m,l,f];exact Is.mk) (by simp only[go_sem,simprocAttr,m,l,f]) (by simp only[go_sem,simprocAttr,m,l,f]) (by simp only[go_sem,simprocAttr,m,l,f]) (by simp only[go_sem,simprocAttr,m,l,f]) ?cont45);simp only[go_sem,simprocAttr,m,l,f];first|refine R.weak _ _ _ _ ?_ Q|refine⟨sd,R.weak _ _ _ _ ?_ Q⟩
        simp only[go_sem,simprocAttr,m,l,f];try exact eY
       ·
        refine Br.run (o:=?o46) (by simp only[go_sem,simprocAttr,m,l,f];exact Is.mk) (by simp only[go_sem,simprocAttr,m,l,f];exact Is.mk) ?cont46;simp only[go_sem,simprocAttr,m,l,f];try refine⟨sd,?_⟩
        refine dc (Br.callR (av:=?av47) (g:=true) (o:=?o47) [8,5,6,7] (fun e=>GJ t V.2.2.2 M N O _ af) (by simp only[go_sem,simprocAttr,m,l,f];exact Is.mk) (by simp only[go_sem,simprocAttr,m,l,f];exact Is.mk) (by simp only[go_sem,simprocAttr,m,l,f];exact Is.mk) (by simp only[go_sem,simprocAttr,m,l,f];exact Is.mk) (by simp only[go_sem,simprocAttr,m,l,f];exact Is.mk) (by simp only[go_sem,simprocAttr,m,l,f]) (by simp only[go_sem,simprocAttr,m,l,f]) (by simp only[go_sem,simprocAttr,m,l,f]) (by simp only[go_sem,simprocAttr,m,l,f]) ?cont47);simp only[go_sem,simprocAttr,m,l,f];first|refine R.weak _ _ _ _ ?_ Q|refine⟨sd,R.weak _ _ _ _ ?_ Q⟩
        simp only[go_sem,simprocAttr,m,l,f];try exact eY
      refine b0 _ _ ?_;obtain⟨b1,aE,w⟩:=zx w;obtain⟨bj,aF,w⟩:=zx w;refine dS (pl [(0,none),(1,none),(2,none),(3,none),(4,none),(5,none),(6,none),(7,none),(8,none),(9,none),(10,none),(11,none),(12,none),(13,none)]) fun _ b2=>?_;refine cD (g:=!(!k.2)) (fun e=>RT c.g _ (aE e)) ?_;refine cD (g:=((!(!k.2))&&b1)) (fun e=>BH k.1 _ (aF e)) (b2 _ _ ?_);refine cN w (fun w=>?_) fun w=>?_
      .obtain⟨W,aG,w⟩:=zd w;refine sX (fun e=>Ii c _ aG) ?_;refine q6 ?_;obtain⟨a0,aH,w⟩:=zd w;refine eO [9,8,5,6,7,10] (T4 (ai.mk W.g W.j W.x (ah.mk W.h.C W.h.a W.h.I (((decide (c.g=6))&&k.2)&&k.1.h.J))) p.q P V.2.2.2 M N O U _ aH) ?_;refine ad _ _ (r6 ?_);exact wN (a0.2.1,a0.2.2.1,a0.2.2.2.1,a0.1,a0.2.2.2.2) a7 (a3 _ w)
      .refine Wp.skip (ad _ _ (r6 ?_));exact wN (M,N,O,P,U) a7 (a3 _ w)
 clear aJ a4;obtain⟨bk,aI,w⟩:=zx w;refine sX (g:=decide (S=0)) (fun e=>Vo p.q n _ (aI e)) ?_;refine cN w (fun w=>?_) fun w=>?_
 .refine qR ?_;refine aK _ _ _ _ ?_ (a5 10 w);exact fc
 .refine Wp.skip (aK _ _ _ _ ?_ (a5 S w));exact fc
theorem Vh(b:List aa)(z:List aa)(w:IX b=some z):Does prog 89 [lm zc b] [] (fun r X=>r=.buf 0/\X=[.buf 84 5 (List.map zc z)]):=by
 unfold IX at w;refine dW 1 8 [.tmp 2] func89 fun B=>nA fun A=>?_;refine qS ?_;refine da fun _ f _=>db fun a g=>?_;simp only[go_sem,simprocAttr];try refine⟨sd,?_⟩
 refine dI (rows:=?rows4) (e:=?e4) (esz:=?esz4) (eb:=?eb4) (ez:=?ez4) Is.mk Is.mk sg sg si si ?cont4;intro i c;replace w:=HU w i (fun h=>map_eq_nil_iff.1 (c h));try dsimp only at w
 simp only[go_sem,simprocAttr];refine kA g ?_;refine cN w (fun w=>?_) fun w=>?_
 .refine qS ?_;refine dm 2 84 5 rfl ?_;simp only[go_sem,simprocAttr];exact wR
 .refine Wp.skip (f _ _ ?_);obtain⟨j,w⟩:=zh w;exact wQ
theorem SO(l:aa)(b:ev)(c:ev)(f:Int)(i:ev)(j:ev)(k:ev)(z:Bool)(w:BO l b c f i j k=some z):Does prog 91 [.agg [pS l.r,pI l.g,pS l.a,pS l.y,pS l.A],.ptr 0 0,.ptr 1 0] [.cells 9 [pS b],.cells 84 [pS c,pI f,pS i,pS j,pS k]] (fun r X=>r=pB z/\X=[.cells 9 [pS b],.cells 84 [pS c,pI f,pS i,pS j,pS k]]):=by
 unfold BO at w;refine dW 2 14 [.tmp 4] func91 fun B=>nA fun A=>?_;refine qS ?_;obtain⟨n,m,w⟩:=zx w;refine sX (g:=decide (l.r=b)) (fun d=>Db l (aa.mk c f i j k) _ (m d)) ?_;exact wR
theorem Vw(b:List aa)(c:ev)(f:ev)(j:Int)(k:ev)(m:ev)(n:ev)(z:Int)(w:zO b c f j k m n=some z):Does prog 70 [.vw 0 5 0 b.length,.fn 91 [.ptr 1 0,.ptr 2 0]] [.fx 84 5 (List.map zc b),.cells 9 [pS c],.cells 84 [pS f,pI j,pS k,pS m,pS n]] (fun r X=>r=pI z/\X=[.fx 84 5 (List.map zc b),.cells 9 [pS c],.cells 84 [pS f,pI j,pS k,pS m,pS n]]):=by
 unfold zO at w;refine dW 3 19 [.tmp 4] func70 fun B=>nA fun A=>?_;refine qS ?_;refine da fun a D F=>?_;obtain⟨G,t,w⟩:=zo w;have u:∀s,G s=some z->a [] [.fx 84 5 (List.map zc b),.cells 9 [pS c],.cells 84 [pS f,pI j,pS k,pS m,pS n]]:=by
  intro s hs;have w:=t _ hs;clear hs;try dsimp only at w|-
  exact D _ _ (wQ)
 clear D t;refine qS ?_;refine Wp.block ?_;obtain⟨M,v,w⟩:=ii w;refine Wp.loopN (fun s=>[(0,.vw 0 5 0 b.length),(1,.fn 91 [.ptr 1 0,.ptr 2 0]),(7,pI ((List.take b.length b).length:Int)),(8,pI s)]) (fun s=>[.fx 84 5 (List.map zc b),.cells 9 [pS c],.cells 84 [pS f,pI j,pS k,pS m,pS n]]) ?_ w ?_
 .exact fc
 clear w;intro p L w;try dsimp only at w|-
 refine qS ?_;refine da fun _ I _=>cN w (fun w=>?_) fun w=>?_
 .refine Wp.skip (I _ _ (da fun _ J _=>Wp.block (qS ?_)));obtain⟨N,w⟩:=zh w;obtain⟨O,C,w⟩:=zd w;have o:=fun h=>ik (l:=b) (e:=zc) (d:=(aa.mk [] 0 [] [] [])) (i:=(p.toNat:Nat)) h [];refine db fun P E=>?_;simp only[go_sem,simprocAttr,o (by omega)];try refine⟨sL,?_⟩
  refine Rg.callR (av:=?av11) (g:=true) [1,2] (fun q=>SO (b.getD (p.toNat:Nat) (aa.mk [] 0 [] [] [])) c f j k m n _ C) (by simp only[go_sem,simprocAttr,o (by omega)];exact Is.mk) (by simp only[go_sem,simprocAttr,o (by omega)];exact Is.mk) (by simp only[go_sem,simprocAttr,o (by omega)];exact Is.mk) (by simp only[go_sem,simprocAttr,o (by omega)];exact Is.mk) (by simp only[go_sem,simprocAttr,o (by omega)]) (by simp only[go_sem,simprocAttr,o (by omega)]) (by simp only[go_sem,simprocAttr,o (by omega)]) ?cont11;simp only[go_sem,simprocAttr,o (by omega)];refine kA E ?_;refine cR w fun w=>?_;refine Wp.skip (J _ _ (qR ?_));simp only[zz,zw,↓reduceIte];refine⟨IntKind.i64.wrap (p+1),w,?_⟩;exact fc
 .refine Wp.exit ?_;simp only[zz,zw,↓reduceIte];have w:=v _ w;try dsimp only at w
  refine F _ _ _ _ ?_ (u () w);exact fc
theorem Vz(o:List aa)(b:ev)(c:ev)(f:Int)(g:ev)(j:ev)(k:ev)(z:Nat×List aa)(w:zZ o b c f g j k=some z):Does prog 90 [.buf 0,.fn 91 [.ptr 1 0,.ptr 2 0]] [.fx 84 5 (List.map zc o),.cells 9 [pS b],.cells 84 [pS c,pI f,pS g,pS j,pS k]] (fun r X=>r=.vw 0 5 0 z.1/\X=[.fx 84 5 (List.map zc z.2),.cells 9 [pS b],.cells 84 [pS c,pI f,pS g,pS j,pS k]]):=by
 unfold zZ at w;refine dW 3 42 [.tmp 4] func90 fun B=>nA fun A=>?_;refine dJ 0 0 (by simp only[go_sem,simprocAttr];exact Is.mk) (by simp only[go_sem,simprocAttr];exact Is.mk) ?_;simp only[go_sem,simprocAttr];refine qS ?_;obtain⟨S,C,w⟩:=zd w;refine sQ [0,1,2] (fun q=>Vw o b c f g j k _ C) ?_;refine da fun _ N _=>qS ?_;refine cR w fun w=>?_;refine Wp.skip (N _ _ (da fun a0 I O=>?_));obtain⟨J,u,w⟩:=zo w;have D:∀s,J s=some z->a0 [(0,.vw 0 5 0 o.length),(5,pI s.1)] [.fx 84 5 (List.map zc s.2),.cells 9 [pS b],.cells 84 [pS c,pI f,pS g,pS j,pS k]]:=by
  intro s hs;have w:=u _ hs;clear hs;obtain⟨U,Q⟩:=s;try dsimp only at w|-
  refine I _ _ ?_;obtain⟨V,w⟩:=zh w;refine db fun x P=>?_;simp only[go_sem,simprocAttr];try refine⟨sL,?_⟩
  refine Rg.clear (i:=?i10) (sz:=?sz10) (a:=?a10) (m:=?m10) (T:=?T10) (rows:=?rows10) (e:=?e10) (eb:=?eb10) (ez:=?ez10) (z:=?z10) (fx:=?fx10) Is.mk Is.mk Is.mk Is.mk Is.mk sg sg si si si si sg sg sg ?cont10;simp only[go_sem,simprocAttr];refine kA P ?_;obtain⟨W,w⟩:=zh w;exact wQ
 clear I u;refine qS ?_;refine Wp.block ?_;obtain⟨Y,E,w⟩:=ii w;refine Wp.loopN (fun s=>[(0,.vw 0 5 0 o.length),(1,.fn 91 [.ptr 1 0,.ptr 2 0]),(5,pI s.1),(6,pI s.2.1)]) (fun s=>[.fx 84 5 (List.map zc s.2.2),.cells 9 [pS b],.cells 84 [pS c,pI f,pS g,pS j,pS k]]) ?_ w ?_
 .exact fc
 clear w;intro s R w;obtain⟨p,t,n⟩:=s;try dsimp only at w|-
 refine da fun _ L _=>qS ?_;refine cN w (fun w=>?_) fun w=>?_
 .refine Wp.skip (L _ _ (da fun _ v _=>Wp.block ?_));obtain⟨Z,w⟩:=zh w;obtain⟨y,w⟩:=zh w;have F:=fun h=>ik (l:=n) (e:=zc) (d:=(aa.mk [] 0 [] [] [])) (i:=(t.toNat:Nat)) h [];refine db fun a1 M=>?_;simp only[go_sem,simprocAttr,F (by omega)];refine kA M ?_;obtain⟨H,G,w⟩:=zd w;refine sQ [1,2] (fun q=>SO (n.getD (t.toNat:Nat) (aa.mk [] 0 [] [] [])) b c f g j k _ G) ?_;refine cN w (fun w=>?_) fun w=>?_
  .obtain⟨K,w⟩:=zh w;obtain⟨a3,w⟩:=zh w;refine q6 ?_;refine qR ?_;refine v _ _ (qR ?_);simp only[zz,zw,↓reduceIte];refine⟨(IntKind.i64.wrap (p+1),IntKind.i64.wrap (t+1),List.set n (p.toNat:Nat) (n.getD (t.toNat:Nat) (aa.mk [] 0 [] [] []))),w,?_⟩;exact fc
  .refine Wp.skip (v _ _ (qR ?_));simp only[zz,zw,↓reduceIte];refine⟨(p,IntKind.i64.wrap (t+1),n),w,?_⟩;exact fc
 .refine Wp.exit ?_;simp only[zz,zw,↓reduceIte];have w:=E _ w;try dsimp only at w
  refine O _ _ _ _ ?_ (D (p,n) w);exact fc
theorem qc(p:ak)(l:aj)(c:ev)(k:List al)(z:aj×Int)(w:GY p l c k=some z):Does prog 19 [.agg [lm za p.F,lm ze p.B,lm za p.E,lm zb p.D],.agg [lm zc l.q],pS c,lm zj k] [] (fun r X=>r=.tup [.agg [lm zc z.1.q],pI z.2]/\X=[]):=by
 unfold GY at w;refine dW 0 150 [.cell 8 24,.tmp 9] func19 fun B=>nA fun A=>?_;refine qS ?_;obtain⟨aR,ad,w⟩:=zd w;obtain⟨aS,af,w⟩:=zd w;obtain⟨aT,ag,w⟩:=zd w;obtain⟨aU,an,w⟩:=zd w;obtain⟨bC,av,w⟩:=zd w;refine dS (pl [(0,none),(1,none),(2,none),(3,none),(4,none),(5,none),(6,none),(7,none),(8,some []),(9,none),(10,none)]) fun _ bm=>?_;refine cD (fun d=>H0 p _ ad) ?_;refine cD (fun d=>yM l _ af) ?_;refine cD (fun d=>yc c _ ag) ?_;refine cD (fun d=>jk (!aT) 5 _ an) ?_;refine cD (fun d=>qP [aR,aS,aU] _ av) (bm _ _ ?_);refine da fun _ bn _=>qS ?_;refine cN w (fun w=>?_) fun w=>?_
 .refine qS ?_;refine Wp.ret ?_;simp only[zz,zw];refine z2 ?_;cases w;exact fc
 .refine Wp.skip (bn _ _ ?_);obtain⟨f,aV,w⟩:=zd w;refine sO [] (Iw p _ aV) ?_;obtain⟨bD,aw,w⟩:=zd w;refine sO [] (Vh l.q _ aw) ?_;refine da fun bo Z aW=>?_;obtain⟨aX,U,w⟩:=zo w
  have a0:∀s,aX s=some z->bo [(8,.ptr 3 0),(12,.buf 9)] [.cells 29 [.top,.top,.top,.top],.cells 24 [.top],.cells 9 [.top],.cells 24 [.nils],.cells 29 [.top,.top,.top,.top],.mp true (zH Dt.s ze f.1),.mp false (zH Dt.s ex f.2.1),.mp true (zH Dt.s zb f.2.2.1),.cells 175 [.top,.top,.top,.top],.buf 84 5 (List.map zc s)]:=by
   intro ay hs;have w:=U _ hs;clear hs;try dsimp only at w|-
   refine Z _ _ (di 9 (by simp only[go_sem,simprocAttr];exact Is.mk) (by simp only[go_sem,simprocAttr]) ?_);simp only[go_sem,simprocAttr];obtain⟨aY,az,w⟩:=zd w;refine sO [9] (Qd ay _ az) ?_;refine dj 9 (by simp only[go_sem,simprocAttr];exact Is.mk) (by simp only[go_sem,simprocAttr]) ?_;simp only[go_sem,simprocAttr];refine da fun _ aZ _=>?_;obtain⟨bE,aA,w⟩:=zd w;refine sX (fun d=>yM (aj.mk aY) _ aA) ?_;refine qS ?_;refine cN w (fun w=>?_) fun w=>?_
   .refine qS ?_;refine Wp.ret ?_;simp only[zz,zw];refine z2 ?_;cases w;exact fc
   .exact Wp.skip (aZ _ _ (wQ))
  clear Z U;refine qS ?_;refine Wp.block ?_;obtain⟨bF,aB,w⟩:=zq w;refine fL 3 k.length fun aC=>?_;refine Wp.forL (fun m s=>[(3,lm zj k),(5,.ptr 1 0),(6,.ptr 2 0),(8,.ptr 3 0),(11,.ptr 8 0),(12,.buf 9),(43,lm zj k),(44,pI (k.length:Int)),(45,pI (m:Int))]) (fun m s=>[.cells 29 [.top,.top,.top,.top],.cells 24 [lm zc l.q],.cells 9 [pS c],.cells 24 [.nils],.cells 29 [.top,.top,.top,.top],.mp true (zH Dt.s ze f.1),.mp false (zH Dt.s ex f.2.1),.mp true (zH Dt.s zb f.2.2.1),.cells 175 [lm za f.2.2.2,.mp 5,.mp 6,.mp 7],.buf 84 5 (List.map zc s)]) wF w ?_;clear w;intro m n bv w;try dsimp only at w|-
  refine qS ?_;refine da fun _ b0 _=>Wp.cond rfl ⟨⟩ (fun R=>?_) fun R=>Wp.exit (aW _ _ _ _ wF (a0 n (aB _ (jg w (tn R)))));have v:=j7 R;have L:=iL v aC;obtain⟨b,bw,o,bx,a1,w⟩:=jj w v;replace o:=o zj;refine Wp.skip ?_;simp only[zz];refine b0 _ _ (da fun bp e b1=>?_);obtain⟨b2,V,w⟩:=zo w;have a3:∀s,b2 s=some z->bp [(3,lm zj k),(5,.ptr 1 0),(6,.ptr 2 0),(8,.ptr 3 0),(11,.ptr 8 0),(12,.buf 9),(43,lm zj k),(44,pI (k.length:Int)),(45,pI (m:Int))] [.cells 29 [.top,.top,.top,.top],.cells 24 [lm zc l.q],.cells 9 [pS c],.cells 24 [.nils],.cells 29 [.top,.top,.top,.top],.mp true (zH Dt.s ze f.1),.mp false (zH Dt.s ex f.2.1),.mp true (zH Dt.s zb f.2.2.1),.cells 175 [lm za f.2.2.2,.mp 5,.mp 6,.mp 7],.buf 84 5 (List.map zc s)]:=by
   intro aD hs;have w:=V _ hs;clear hs;try dsimp only at w|-
   refine e _ _ ?_;have A:=And.intro L o;refine r6 ?_;exact wN aD v (a1 _ w)
  clear e V;refine Wp.block ?_;have A:=And.intro L o;refine q6 ?_;refine da fun _ b3 _=>?_;obtain⟨bG,aE,w⟩:=zd w;refine sX (fun d=>PT b _ aE) ?_;refine q6 ?_;refine cN w (fun w=>?_) fun w=>?_
  .refine q6 ?_;refine Wp.ret ?_;simp only[zz,zw];refine z2 ?_;cases w;simp only[go_sem,simprocAttr,A];try exact eY
  .refine Wp.skip (b3 _ _ ?_);obtain⟨i,b4,w⟩:=zd w;refine sX (fun d=>C4 c b _ b4) ?_;refine da fun bq a2 b5=>?_;obtain⟨b6,W,w⟩:=zo w
   have a5:∀s,b6 s=some z->bq [(3,lm zj k),(5,.ptr 1 0),(6,.ptr 2 0),(8,.ptr 3 0),(11,.ptr 8 0),(12,.buf 9),(14,.ptr 10 0),(16,.ptr 11 0),(43,lm zj k),(44,pI (k.length:Int)),(45,pI (m:Int))] [.cells 29 [.top,.top,.top,.top],.cells 24 [lm zc l.q],.cells 9 [pS c],.cells 24 [.nils],.cells 29 [.top,.top,.top,.top],.mp true (zH Dt.s ze f.1),.mp false (zH Dt.s ex f.2.1),.mp true (zH Dt.s zb f.2.2.1),.cells 175 [lm za f.2.2.2,.mp 5,.mp 6,.mp 7],.buf 84 5 (List.map zc n),.cells 125 [pI b.g,pS b.j.a,pS b.j.G,pB b.j.H,pS b.x.u,pS b.x.Value,pS b.h.C,pS b.h.a,pB b.h.I,pB b.h.J],.cells 84 [pS i.r,pI i.g,pS i.a,pS i.y,pS i.A]]:=by
    intro s hs;have w:=W _ hs;clear hs;try dsimp only at w|-
    refine a2 _ _ (da fun br K b7=>?_);obtain⟨b8,Y,w⟩:=zo w;have a7:∀s,b8 s=some z->br [(3,lm zj k),(5,.ptr 1 0),(6,.ptr 2 0),(8,.ptr 3 0),(11,.ptr 8 0),(12,.buf 9),(14,.ptr 10 0),(16,.ptr 11 0),(43,lm zj k),(44,pI (k.length:Int)),(45,pI (m:Int))] [.cells 29 [.top,.top,.top,.top],.cells 24 [lm zc l.q],.cells 9 [pS c],.cells 24 [.nils],.cells 29 [.top,.top,.top,.top],.mp true (zH Dt.s ze f.1),.mp false (zH Dt.s ex f.2.1),.mp true (zH Dt.s zb f.2.2.1),.cells 175 [lm za f.2.2.2,.mp 5,.mp 6,.mp 7],.buf 84 5 (List.map zc n),.cells 125 [pI b.g,pS b.j.a,pS b.j.G,pB b.j.H,pS b.x.u,pS b.x.Value,pS b.h.C,pS b.h.a,pB b.h.I,pB b.h.J],.cells 84 [pS i.r,pI i.g,pS i.a,pS i.y,pS i.A]]:=by
     intro s hs;have w:=Y _ hs;clear hs;try dsimp only at w|-
     refine K _ _ ?_;obtain⟨b9,aF,w⟩:=zd w;refine sQ [8,5,6,7] (fun d=>GJ i f.2.2.2 f.1 f.2.1 f.2.2.1 _ aF) ?_;refine da fun _ ba _=>Wp.block (q6 ?_);refine cN w (fun w=>?_) fun w=>?_
     .refine q6 ?_;refine Wp.ret ?_;simp only[zz,zw];refine z2 ?_;cases w;simp only[go_sem,simprocAttr,A];try exact eY
     .obtain⟨bb,aG,w⟩:=zd w;obtain⟨bH,aH,w⟩:=zx w;refine dS (pl [(0,none),(1,none),(2,none),(3,none),(4,none),(5,none),(6,none),(7,none),(8,none),(9,none),(10,none)]) fun _ bc=>?_;refine cD (fun d=>RT b.g _ aG) ?_;refine cD (g:=bb) (fun d=>BH b9.1 _ (aH d)) (bc _ _ ?_);refine cN w (fun w=>?_) fun w=>?_
      .refine q6 ?_;refine Wp.ret ?_;simp only[zz,zw];refine z2 ?_;cases w;simp only[go_sem,simprocAttr,A];try exact eY
      .refine Wp.skip (ba _ _ (di 9 (by simp only[go_sem,simprocAttr];exact Is.mk) (by simp only[go_sem,simprocAttr]) ?_));simp only[go_sem,simprocAttr];obtain⟨a8,aI,w⟩:=zd w;refine sO [9,2,11] (Vz n c i.r i.g i.a i.y i.A _ aI) ?_;refine dj 9 (by simp only[go_sem,simprocAttr];exact Is.mk) (by simp only[go_sem,simprocAttr]) ?_;simp only[go_sem,simprocAttr];refine ed 12 9 (by simp only[go_sem,simprocAttr];exact Is.mk) (by simp only[go_sem,simprocAttr];exact Is.mk) (by simp only[go_sem,simprocAttr]) ?_;simp only[go_sem,simprocAttr];obtain⟨bI,w⟩:=zh w;refine r6 ?_;refine b1 _ _ _ _ ?_ (a3 ((List.take a8.1 a8.2)++[i]) w);simp only[go_sem,simprocAttr,A];try exact eY
    clear K Y;refine q6 ?_;refine Wp.block ?_;obtain⟨bJ,aJ,w⟩:=zq w;refine fL 75 l.q.length fun aK=>?_;refine Wp.forL (fun S s=>[(3,lm zj k),(5,.ptr 1 0),(6,.ptr 2 0),(8,.ptr 3 0),(11,.ptr 8 0),(12,.buf 9),(14,.ptr 10 0),(16,.ptr 11 0),(43,lm zj k),(44,pI (k.length:Int)),(45,pI (m:Int)),(75,lm zc l.q),(76,pI (l.q.length:Int)),(77,pI (S:Int))]) (fun S s=>[.cells 29 [.top,.top,.top,.top],.cells 24 [lm zc l.q],.cells 9 [pS c],.cells 24 [.nils],.cells 29 [.top,.top,.top,.top],.mp true (zH Dt.s ze f.1),.mp false (zH Dt.s ex f.2.1),.mp true (zH Dt.s zb f.2.2.1),.cells 175 [lm za f.2.2.2,.mp 5,.mp 6,.mp 7],.buf 84 5 (List.map zc n),.cells 125 [pI b.g,pS b.j.a,pS b.j.G,pB b.j.H,pS b.x.u,pS b.x.Value,pS b.h.C,pS b.h.a,pB b.h.I,pB b.h.J],.cells 84 [pS i.r,pI i.g,pS i.a,pS i.y,pS i.A]]) ?_ w ?_
    .simp only[go_sem,simprocAttr,A];try exact eY
    clear w;intro S s bs w;try dsimp only at w|-
    refine q6 ?_;refine da fun _ bd _=>Wp.cond rfl ⟨⟩ (fun M=>?_) (fun M=>?_);rotate_left
    .refine Wp.exit ?_;have w:=aJ _ (jg w (ux (by first|exact M|simpa using M)));try dsimp only at w
     refine b7 _ _ _ _ ?_ (a7 () w);simp only[go_sem,simprocAttr,A];try exact eY
    have N:=j7 M;have be:=iL N aK;obtain⟨aQ,bz,O,bA,a9,w⟩:=jj w N;replace O:=O zc;refine Wp.skip ?_;simp only[zz];refine bd _ _ (da fun _ bf _=>Wp.block ?_);have A:=And.intro L (And.intro o (And.intro be O));refine q6 ?_;obtain⟨bK,aL,w⟩:=zx w;refine sX (g:=!decide (aQ.r=c)) (fun d=>Db aQ i _ (aL d)) ?_;refine cN w (fun w=>?_) fun w=>?_
    .refine q6 ?_;refine Wp.ret ?_;simp only[zz,zw];refine z2 ?_;cases w;simp only[go_sem,simprocAttr,A];try exact eY
    .refine Wp.skip (bf _ _ (r6 ?_));exact wN () N (a9 _ w)
   clear a2 W;obtain⟨bL,w⟩:=zh w;refine q6 ?_;refine Wp.block ?_;obtain⟨bM,aM,w⟩:=zq w;refine fL 61 ((List.take m k).length) fun aN=>?_;refine Wp.forL (fun T s=>[(3,lm zj k),(5,.ptr 1 0),(6,.ptr 2 0),(8,.ptr 3 0),(11,.ptr 8 0),(12,.buf 9),(14,.ptr 10 0),(16,.ptr 11 0),(43,lm zj k),(44,pI (k.length:Int)),(45,pI (m:Int)),(61,lm zj (List.take m k)),(62,pI ((List.take m k).length:Int)),(63,pI (T:Int))]) (fun T s=>[.cells 29 [.top,.top,.top,.top],.cells 24 [lm zc l.q],.cells 9 [pS c],.cells 24 [.nils],.cells 29 [.top,.top,.top,.top],.mp true (zH Dt.s ze f.1),.mp false (zH Dt.s ex f.2.1),.mp true (zH Dt.s zb f.2.2.1),.cells 175 [lm za f.2.2.2,.mp 5,.mp 6,.mp 7],.buf 84 5 (List.map zc n),.cells 125 [pI b.g,pS b.j.a,pS b.j.G,pB b.j.H,pS b.x.u,pS b.x.Value,pS b.h.C,pS b.h.a,pB b.h.I,pB b.h.J],.cells 84 [pS i.r,pI i.g,pS i.a,pS i.y,pS i.A]]) ?_ w ?_
   .simp only[go_sem,simprocAttr,A];try exact eY
   clear w;intro T s bt w;try dsimp only at w|-
   refine q6 ?_;refine da fun _ bg _=>Wp.cond rfl ⟨⟩ (fun P=>?_) (fun P=>?_);rotate_left
   .refine Wp.exit ?_;have w:=aM _ (jg w (ux (by first|exact P|simpa using P)));try dsimp only at w
    refine b5 _ _ _ _ ?_ (a5 () w);simp only[go_sem,simprocAttr,A];try exact eY
   have Q:=j7 P;have bh:=iL Q aN;obtain⟨bi,bB,t,bu,ac,w⟩:=jj w Q;replace t:=t zj;refine Wp.skip ?_;simp only[zz];refine bg _ _ (da fun _ bj _=>Wp.block ?_);have A:=And.intro L (And.intro o (And.intro bh t));refine q6 ?_;obtain⟨bk,aO,w⟩:=zd w;obtain⟨bN,aP,w⟩:=zd w;refine dS (pl [(0,none),(1,none),(2,none),(3,none),(4,none)]) fun _ bl=>?_;refine cD (fun d=>C4 c bi _ aO) ?_;refine cD (fun d=>Db bk i _ aP) (bl _ _ ?_);refine cN w (fun w=>?_) fun w=>?_
   .refine q6 ?_;refine Wp.ret ?_;simp only[zz,zw];refine z2 ?_;cases w;simp only[go_sem,simprocAttr,A];try exact eY
   .refine Wp.skip (bj _ _ (r6 ?_));exact wN () Q (ac _ w)
theorem lp(M:ak)(k:List ax)(z:ak×aj)(w:HL M k=some z):Does prog 5 [.agg [lm za M.F,lm ze M.B,lm za M.E,lm zb M.D],lm zk k] [] (fun r X=>r=.tup [.agg [lm za z.1.F,lm ze z.1.B,lm za z.1.E,lm zb z.1.D],.agg [lm zc z.2.q]]/\X=[]):=by
 unfold HL at w;refine dW 0 121 [.cell 4 29,.cell 5 24] func5 fun B=>nA fun A=>?_;refine qS ?_;refine qS ?_;refine da fun K3 H b5=>?_;obtain⟨aQ,R,w⟩:=zo w;have aE:∀s,aQ s=some z->K3 [(2,.ptr 0 0),(4,.ptr 1 0),(5,.ptr 2 0),(6,.ptr 3 0)] [.cells 29 [lm za s.1,lm ze s.2.1,lm za s.2.2.1,lm zb s.2.2.2.1],.cells 29 [.nils,.nils,.nils,.nils],.cells 24 [.nils],.cells 24 [lm zc s.2.2.2.2]]:=by
  intro s hs;have w:=R _ hs;clear hs;obtain⟨aZ,b0,b1,b2,b3⟩:=s;try dsimp only at w|-
  refine H _ _ (dS (pl [(0,none),(1,none),(2,some [1]),(3,some [])]) fun _ b6=>b6 _ _ ?_);exact wR
 clear H R;obtain⟨bf,w⟩:=zh w;refine q6 ?_;refine Wp.block ?_;obtain⟨bg,aF,w⟩:=zq w;refine fL 23 ((List.take ((min (k.length:Int) 12).toNat) k).length) fun aG=>?_;refine Wp.forL (fun Q s=>[(2,.ptr 0 0),(4,.ptr 1 0),(5,.ptr 2 0),(6,.ptr 3 0),(23,lm zk (List.take ((min (k.length:Int) 12).toNat) k)),(24,pI ((List.take ((min (k.length:Int) 12).toNat) k).length:Int)),(25,pI (Q:Int))]) (fun Q s=>[.cells 29 [lm za s.1,lm ze s.2.1,lm za s.2.2.1,lm zb s.2.2.2.1],.cells 29 [.nils,.nils,.nils,.nils],.cells 24 [.nils],.cells 24 [lm zc s.2.2.2.2]]) wF w ?_;clear w;intro Q s bb w;obtain⟨c,f,i,j,b⟩:=s;try dsimp only at w|-
 refine qS ?_;refine da fun _ b7 _=>Wp.cond rfl ⟨⟩ (fun q=>?_) fun q=>Wp.exit (b5 _ _ _ _ wF (aE (c,f,i,j,b) (aF _ (jg w (tn q)))));have a0:=j7 q;have x:=iL a0 aG;obtain⟨l,bc,o,bd,aA,w⟩:=jj w a0;replace o:=o zk;refine Wp.skip ?_;simp only[zz];refine b7 _ _ (da fun K8 S y=>?_);obtain⟨aR,a7,w⟩:=zo w;have W:∀s,aR s=some z->K8 [(2,.ptr 0 0),(4,.ptr 1 0),(5,.ptr 2 0),(6,.ptr 3 0),(23,lm zk (List.take ((min (k.length:Int) 12).toNat) k)),(24,pI ((List.take ((min (k.length:Int) 12).toNat) k).length:Int)),(25,pI (Q:Int))] [.cells 29 [lm za s.1,lm ze s.2.1,lm za s.2.2.1,lm zb s.2.2.2.1],.cells 29 [.nils,.nils,.nils,.nils],.cells 24 [.nils],.cells 24 [lm zc s.2.2.2.2]]:=by
  intro s hs;have w:=a7 _ hs;clear hs;obtain⟨ac,ad,af,ag,an⟩:=s;try dsimp only at w|-
  refine S _ _ ?_;have A:=And.intro x o;refine r6 ?_;exact wN (ac,ad,af,ag,an) a0 (aA _ w)
 clear S a7;refine Wp.block ?_;have A:=And.intro x o;refine q6 ?_;refine q6 ?_;refine q6 ?_;refine da fun b8 aC n=>?_;obtain⟨aS,a8,w⟩:=zo w;have m:∀s,aS s=some z->b8 [(2,.ptr 0 0),(4,.ptr 1 0),(5,.ptr 2 0),(6,.ptr 3 0),(9,.ptr 5 0),(10,pI s.1),(23,lm zk (List.take ((min (k.length:Int) 12).toNat) k)),(24,pI ((List.take ((min (k.length:Int) 12).toNat) k).length:Int)),(25,pI (Q:Int))] [.cells 29 [lm za s.2.1,lm ze s.2.2.1,lm za s.2.2.2.1,lm zb s.2.2.2.2.1],.cells 29 [.nils,.nils,.nils,.nils],.cells 24 [.nils],.cells 24 [lm zc s.2.2.2.2.2.1],.cells 53 [.top,.top,.top,.top,.top,.top],.cells 56 [lm zi s.2.2.2.2.2.2.1,lm zc s.2.2.2.2.2.2.2.1,lm zm s.2.2.2.2.2.2.2.2]]:=by
  intro s hs;have w:=a8 _ hs;clear hs;obtain⟨bh,p,t,u,v,V,av,aw,b4⟩:=s;try dsimp only at w|-
  refine aC _ _ (q6 ?_);refine cN w (fun w=>?_) fun w=>?_
  .obtain⟨a,aT,w⟩:=zd w;refine sF (Px (ak.mk p t u v) av _ aT) ?_;refine q6 ?_;refine cN w (fun w=>?_) fun w=>?_
   .refine dE (pl [(0,none),(1,none),(2,none),(3,some [1,2]),(4,some [])]) fun _ aU=>aU _ _ ?_;refine y _ _ _ _ ?_ (W (a.1.F,a.1.B,a.1.E,a.1.D,aw) w);simp only[go_sem,simprocAttr,A];try exact eY
   .refine Wp.skip (y _ _ _ _ ?_ (W (p,t,u,v,V) w));simp only[go_sem,simprocAttr,A];try exact eY
  .refine Wp.skip (y _ _ _ _ ?_ (W (p,t,u,v,V) w));simp only[go_sem,simprocAttr,A];try exact eY
 clear aC a8;refine q6 ?_;refine Wp.block (q6 ?_);refine cN w (fun w=>?_) fun w=>?_
 .obtain⟨Y,aH,w⟩:=zd w;refine eF (qb (ak.mk c f i j) (aj.mk b) l.r l.T l.U _ aH) ?_;refine n _ _ _ _ ?_ (m (Y.2,c,f,i,j,b,Y.1.K,Y.1.R.q,Y.1.S) w);simp only[go_sem,simprocAttr,A];try exact eY
 .refine q6 ?_;refine cN w (fun w=>?_) fun w=>?_
  .obtain⟨Z,aI,w⟩:=zd w;refine eF (ln (ak.mk c f i j) (aj.mk b) l.r l.U _ aI) ?_;refine n _ _ _ _ ?_ (m (Z.2,c,f,i,j,b,Z.1.K,Z.1.R.q,Z.1.S) w);simp only[go_sem,simprocAttr,A];try exact eY
  .refine q6 ?_;refine cN w (fun w=>?_) fun w=>?_
   .refine q6 ?_;refine Wp.block ?_;obtain⟨bi,aJ,w⟩:=zq w;refine fL 60 l.K.length fun aK=>?_;refine Wp.forL (fun a1 s=>[(2,.ptr 0 0),(4,.ptr 1 0),(5,.ptr 2 0),(6,.ptr 3 0),(9,.ptr 5 0),(10,pI 10),(23,lm zk (List.take ((min (k.length:Int) 12).toNat) k)),(24,pI ((List.take ((min (k.length:Int) 12).toNat) k).length:Int)),(25,pI (Q:Int)),(60,lm zi l.K),(61,pI (l.K.length:Int)),(62,pI (a1:Int))]) (fun a1 s=>[.cells 29 [lm za s.1,lm ze s.2.1,lm za s.2.2.1,lm zb s.2.2.2],.cells 29 [.nils,.nils,.nils,.nils],.cells 24 [.nils],.cells 24 [lm zc b],.cells 53 [pI l.g,pS l.r,lm zj l.T,pB l.U.N,pB l.U.O,lm zi l.K],.cells 56 [.nils,.nils,.nils]]) ?_ w ?_
    .simp only[go_sem,simprocAttr,A];try exact eY
    clear w;intro a1 s b9 w;obtain⟨C,G,I,J⟩:=s;try dsimp only at w|-
    refine q6 ?_;refine da fun _ aV _=>Wp.cond rfl ⟨⟩ (fun d=>?_) (fun d=>?_);rotate_left
    .refine Wp.exit ?_;have w:=aJ _ (jg w (ux (by first|exact d|simpa using d)));try dsimp only at w
     refine n _ _ _ _ ?_ (m (10,C,G,I,J,b,[],[],[]) w);simp only[go_sem,simprocAttr,A];try exact eY
    have L:=j7 d;have aW:=iL L aK;obtain⟨aX,be,P,ba,a3,w⟩:=jj w L;replace P:=P zi;refine Wp.skip ?_;simp only[zz];refine aV _ _ (da fun _ aD _=>Wp.block ?_);have A:=And.intro x (And.intro o (And.intro aW P));refine q6 ?_;obtain⟨e,aL,w⟩:=zd w;refine sF (Px (ak.mk C G I J) [aX] _ aL) ?_;refine q6 ?_;refine cN w (fun w=>?_) fun w=>?_
    .refine r6 ?_;refine aD _ _ (r6 ?_);exact wN (e.1.F,e.1.B,e.1.E,e.1.D) L (a3 _ w)
    .refine Wp.skip (aD _ _ (r6 ?_));exact wN (C,G,I,J) L (a3 _ w)
   .refine q6 ?_;refine cN w (fun w=>?_) fun w=>?_
    .obtain⟨h,aM,w⟩:=zd w;refine eF (nB (ak.mk c f i j) (aj.mk b) l.r l.T _ aM) ?_;refine n _ _ _ _ ?_ (m (h.2,c,f,i,j,b,h.1.K,h.1.R.q,h.1.S) w);simp only[go_sem,simprocAttr,A];try exact eY
    .refine q6 ?_;refine cN w (fun w=>?_) fun w=>?_
     .obtain⟨aY,aN,w⟩:=zd w;refine sF (qc (ak.mk c f i j) (aj.mk b) l.r l.T _ aN) ?_;refine q6 ?_;refine cN w (fun w=>?_) fun w=>?_
      .refine r6 ?_;refine n _ _ _ _ ?_ (m (10,c,f,i,j,aY.1.q,[],[],[]) w);simp only[go_sem,simprocAttr,A];try exact eY
      .refine Wp.skip (n _ _ _ _ ?_ (m (10,c,f,i,j,b,[],[],[]) w));simp only[go_sem,simprocAttr,A];try exact eY
     .refine Wp.skip (n _ _ _ _ ?_ (m (10,c,f,i,j,b,[],[],[]) w));simp only[go_sem,simprocAttr,A];try exact eY
theorem TN(b:Int)(z:Bool)(w:Nr b=some z):Does prog 134 [pI b] [] (fun r X=>r=pB z/\X=[]):=by
 unfold Nr at w;refine dW 0 9 [.tmp 2] func134 fun B=>nA fun A=>?_;refine qS ?_;exact wQ
theorem T8(b:Int)(z:Bool)(w:Nu b=some z):Does prog 191 [.p (.i .u8 b)] [] (fun r X=>r=pB z/\X=[]):=by
 unfold Nu at w;refine dW 0 29 [.tmp 2] func191 fun B=>nA fun A=>?_;refine qS ?_;obtain⟨j,c,w⟩:=zd w;obtain⟨l,f,w⟩:=zx w;refine rS fun _ k=>?_;refine cX (fun a=>PW b _ c) ?_;refine cX (g:=!(j||((decide (65<=b))&&(decide (b<=90))))) (fun a=>SJ b _ (f a)) (k _ _ ?_);exact wR
theorem TQ(c:ev)(b:Int)(z:Bool)(w:NA c b=some z):Does prog 57 [pS c,pI b,.fn 191 []] [] (fun r X=>r=pB z/\X=[]):=by
 unfold NA at w;refine dW 0 28 [.tmp 6] func57 fun B=>nA fun A=>?_;refine qS ?_;refine da fun a o v=>?_;obtain⟨C,g,w⟩:=zo w;have k:∀s,C s=some z->a [(0,pS c),(1,pI b)] []:=by
  intro s hs;have w:=g _ hs;clear hs;try dsimp only at w|-
  exact o _ _ (wQ)
 clear o g;refine qS ?_;refine Wp.block ?_;obtain⟨L,p,w⟩:=zq w;refine fL 0 c.length fun t=>?_;refine Wp.forL (fun i s=>[(0,pS c),(1,pI b),(2,.fn 191 []),(7,pI (i:Int))]) (fun i s=>[]) wF w ?_;clear w;intro i s I w;try dsimp only at w|-
 refine da fun _ D _=>qS ?_;refine Wp.cond rfl ⟨⟩ (fun j=>?_) fun j=>Wp.exit (v _ _ _ _ wF (k () (p _ (jg w (tn j)))));have f:=j7 j;have E:=iL f t;obtain⟨F,J,l,m,n,w⟩:=jj w f;clear l;refine Wp.skip ?_;simp only[zz];refine D _ _ (da fun _ G _=>Wp.block ?_);obtain⟨M,u,w⟩:=zd w;have A:=And.intro E m;refine sX (fun d=>T8 (F.toNat:Int) _ u) ?_;refine cR w fun w=>?_;refine Wp.skip (G _ _ (r6 ?_));exact wN () f (n _ w)
end Go.Proofs.YtpcihjdidhpbbaaGreatDoor
