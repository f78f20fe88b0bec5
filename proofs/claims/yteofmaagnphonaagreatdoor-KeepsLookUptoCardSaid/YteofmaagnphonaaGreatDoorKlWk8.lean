/- That the code does what the models say (part 8). -/
import Derived.Test.YteofmaagnphonaaGreatDoorKlWk0
import Derived.Test.YteofmaagnphonaaGreatDoorKlWk1
import Derived.Test.YteofmaagnphonaaGreatDoorKlWk2
import Derived.Test.YteofmaagnphonaaGreatDoorKlWk3
import Derived.Test.YteofmaagnphonaaGreatDoorKlWk6
import Derived.Test.YteofmaagnphonaaGreatDoorKlWk7
set_option linter.unusedSimpArgs false
set_option linter.unusedVariables false
open Go.Proofs Go.Shelf
open List
namespace Go.Proofs.YteofmaagnphonaaGreatDoor
open Tryz
open Go.Vc Go.Md
set_option maxRecDepth 100000
set_option maxHeartbeats 4000000
theorem znH(b:aj)(i:al)(c:eo)(z:List eo×Int)(w:M7 b i c=some z):Does prog 13 [.agg [lm za b.D,lm zc b.u,lm za b.B,lm zb b.A],.agg [lm zd i.k],pS c] [] (fun r X=>r=.tup [lm eu z.1,pI z.2]/\X=[]):=by
 unfold M7 at w;refine dW 0 79 [.tmp 6,.tmp 7] func13 fun B=>nA fun A=>?_;refine qS ?_;refine dc fun _ q _=>?_;obtain⟨aH,S,w⟩:=ze w;refine sX (fun d=>Ze b i _ S) ?_;refine qS ?_;refine cN w (fun w=>?_) fun w=>?_
 .refine qS ?_;refine Wp.ret ?_;simp only[zF,zB];refine gP ?_;cases w;exact su
 .refine Wp.skip (q _ _ (dc fun _ a4 _=>?_));obtain⟨aI,T,w⟩:=zs w;refine sX (g:=!decide (c=[])) (fun d=>O3 c _ (T d)) ?_;refine cN w (fun w=>?_) fun w=>?_
  .refine qS ?_;refine Wp.ret ?_;simp only[zF,zB];refine gP ?_;cases w;exact su
  .refine Wp.skip (a4 _ _ (qS ?_));refine dc fun x I y=>?_;obtain⟨H,J,w⟩:=zp w
   have L:∀s,H s=some z->x [(2,pS c),(3,.ptr 0 0),(9,.mp 2)] [.cells 26 [lm za b.D,lm zc b.u,lm za b.B,lm zb b.A],.cells 33 [.top],.mp false (zz Dt.s eR s)]:=by
    intro j hs;have w:=J _ hs;clear hs;try dsimp only at w|-
    refine I _ _ (qS ?_);refine dc fun K M a5=>?_;obtain⟨az,N,w⟩:=zp w;have O:∀s,az s=some z->K [(12,.buf 3)] [.cells 26 [.top,.top,.top,.top],.cells 33 [.top],.mp false (zz Dt.s eR j),.buf 9 1 (List.map eu s)]:=by
     intro aC hs;have w:=N _ hs;clear hs;try dsimp only at w|-
     exact M _ _ (wQ)
    clear M N;refine qS ?_;refine Wp.block (df 12 9 1 rfl ?_);simp only[go_sem,simprocAttr];obtain⟨aJ,U,w⟩:=zq w;refine fL 45 b.u.length fun V=>?_;refine Wp.forL (fun p s=>[(2,pS c),(9,.mp 2),(12,.buf 3),(45,lm zc b.u),(46,pI (b.u.length:Int)),(47,pI (p:Int))]) (fun p s=>[.cells 26 [lm za b.D,lm zc b.u,lm za b.B,lm zb b.A],.cells 33 [.top],.mp false (zz Dt.s eR j),.buf 9 1 (List.map eu s)]) wF w ?_;clear w;intro p l aA w;try dsimp only at w|-
    refine qS ?_;refine lB zc w V (fun h=>a5 _ _ _ _ wF (O l (U _ h))) fun v a6 m aD W aE n w A _ P=>?_;refine q6 ?_;obtain⟨a7,Y,w⟩:=zs w;obtain⟨a8,a9,w⟩:=il w;have C:=ju (e:=eR) eZ j m.a false;have E:=jv (e:=eR) eZ j m.a;simp only[a9,eR,map_nil]at C E;obtain⟨aK,Z,w⟩:=zs w;have A:=And.intro a6 (And.intro W (And.intro C E));refine rS fun _ ac=>?_;refine cX (g:=!(decide (c=[]))) (fun d=>ZU m.a c _ (Y d)) ?_;refine cX (g:=(((decide (c=[]))||a7)&&(!(a8.getD false)))) (fun d=>ZU m.a ([115,116,97,103,101]:eo) _ (Z d)) (ac _ _ ?_);refine cN w (fun w=>?_) fun w=>?_
    .obtain⟨aL,w⟩:=zi w;refine r6 ?_;refine P _ _ (r6 ?_);exact wN (l++[m.a]) v (n _ w)
    .refine Wp.skip (P _ _ (r6 ?_));exact wN l v (n _ w)
   clear I J;refine qS ?_;refine Wp.block ?_;obtain⟨aM,a0,w⟩:=zq w;refine fL 30 i.k.length fun a1=>?_;refine Wp.forL (fun t s=>[(2,pS c),(3,.ptr 0 0),(9,.mp 2),(30,lm zd i.k),(31,pI (i.k.length:Int)),(32,pI (t:Int))]) (fun t s=>[.cells 26 [lm za b.D,lm zc b.u,lm za b.B,lm zb b.A],.cells 33 [lm zd i.k],.mp false (zz Dt.s eR s)]) wF w ?_;clear w;intro t f aB w;try dsimp only at w|-
   refine qS ?_;refine lB zd w a1 (fun h=>y _ _ _ _ wF (L f (a0 _ h))) fun F ad Q aF a2 aG o w A _ R=>?_;refine q6 ?_;obtain⟨aN,a3,w⟩:=ze w;refine sX (fun d=>ZN Q.g _ a3) ?_;refine cN w (fun w=>?_) fun w=>?_
   .obtain⟨aO,w⟩:=zi w;have G:=oH (e:=eR) eZ f Q.a true;simp only[eR,map_nil]at G;have A:=And.intro ad (And.intro a2 G);refine r6 ?_;refine R _ _ (r6 ?_);exact wN (eD f Q.a true) F (o _ w)
   .refine Wp.skip (R _ _ (r6 ?_));exact wN f F (o _ w)
theorem zlr(c:aa)(f:ae)(z:Bool)(w:O8 c f=some z):Does prog 49 [.agg [pS c.q,pI c.g,pS c.a,pS c.y,pS c.E],.rp [.s f.a,.s f.F,.b f.G]] [] (fun r X=>r=pB z/\X=[]):=by
 unfold O8 at w;refine dW 0 15 [.tmp 3] func49 fun B=>nA fun A=>?_;refine qS ?_;obtain⟨j,i,w⟩:=ze w;refine sX (fun d=>qk c.g _ i) ?_;exact wR
theorem zc9(f:List aa)(c:ae)(z:Int)(w:Vh f c=some z):Does prog 63 [lm zd f,.fn 49 [.rp [.s c.a,.s c.F,.b c.G]]] [] (fun r X=>r=pI z/\X=[]):=by
 unfold Vh at w;refine dW 0 19 [.tmp 4] func63 fun B=>nA fun A=>?_;refine qS ?_;refine dc fun d l t=>?_;obtain⟨u,g,w⟩:=zp w;have j:∀s,u s=some z->d [] []:=by
  intro s hs;have w:=g _ hs;clear hs;try dsimp only at w|-
  exact l _ _ (wQ)
 clear l g;refine qS ?_;refine Wp.block ?_;obtain⟨L,m,w⟩:=zq w;refine fL 0 f.length fun n=>?_;refine Wp.forL (fun i s=>[(0,lm zd f),(1,.fn 49 [.rp [.s c.a,.s c.F,.b c.G]]),(7,pI (f.length:Int)),(8,pI (i:Int))]) (fun i s=>[]) wF w ?_;clear w;intro i s D w;try dsimp only at w|-
 refine qS ?_;refine lB zd w n (fun h=>t _ _ _ _ wF (j () (m _ h))) fun o M v J E I k w A _ C=>?_;refine q6 ?_;obtain⟨N,p,w⟩:=ze w;refine sX (fun e=>zlr v c _ p) ?_;refine cR w fun w=>?_;refine Wp.skip (C _ _ (r6 ?_));exact wN () o (k _ w)
theorem zcB(f:List aa)(c:ae)(z:Bool)(w:zV f c=some z):Does prog 48 [lm zd f,.fn 49 [.rp [.s c.a,.s c.F,.b c.G]]] [] (fun r X=>r=pB z/\X=[]):=by
 unfold zV at w;refine dW 0 9 [.tmp 4] func48 fun B=>nA fun A=>?_;refine qS ?_;obtain⟨i,g,w⟩:=ze w;refine sX (fun d=>zc9 f c _ g) ?_;exact wR
theorem m5(b:aj)(i:al)(c:eo)(z:List eo)(w:Mt b i c=some z):Does prog 16 [.agg [lm za b.D,lm zc b.u,lm za b.B,lm zb b.A],.agg [lm zd i.k],pS c] [] (fun r X=>r=lm eu z/\X=[]):=by
 unfold Mt at w;refine dW 0 47 [.tmp 6] func16 fun B=>nA fun A=>?_;refine qS ?_;refine qS ?_;refine dc fun e F N=>?_;obtain⟨O,m,w⟩:=zp w;have p:∀s,O s=some z->e [(7,.buf 2)] [.cells 26 [.top,.top,.top,.top],.cells 33 [.top],.buf 9 1 (List.map eu s)]:=by
  intro P hs;have w:=m _ hs;clear hs;try dsimp only at w|-
  exact F _ _ (wQ)
 clear F m;refine qS ?_;refine Wp.block (df 7 9 1 rfl ?_);simp only[go_sem,simprocAttr];obtain⟨T,t,w⟩:=zq w;refine fL 12 b.u.length fun v=>?_;refine Wp.forL (fun n s=>[(2,pS c),(4,.ptr 1 0),(7,.buf 2),(12,lm zc b.u),(13,pI (b.u.length:Int)),(14,pI (n:Int))]) (fun n s=>[.cells 26 [lm za b.D,lm zc b.u,lm za b.B,lm zb b.A],.cells 33 [lm zd i.k],.buf 9 1 (List.map eu s)]) wF w ?_;clear w;intro n f Q w;try dsimp only at w|-
 refine qS ?_;refine lB zc w v (fun h=>N _ _ _ _ wF (p f (t _ h))) fun o Y j U R S l w A _ G=>?_;refine q6 ?_;obtain⟨I,J,w⟩:=ze w;refine sX (fun d=>zcB i.k j _ J) ?_;obtain⟨L,C,w⟩:=zs w;obtain⟨V,E,w⟩:=zs w;refine rS fun _ M=>?_;refine cX (g:=!I) (fun d=>Zd j.a _ (C d)) ?_;refine cX (g:=(((!I)&&(!L))&&(!(decide (c=[]))))) (fun d=>Na j.a c _ (E d)) (M _ _ ?_);refine cN w (fun w=>?_) fun w=>?_
 .obtain⟨W,w⟩:=zi w;refine r6 ?_;refine G _ _ (r6 ?_);exact wN (f++[j.a]) o (l _ w)
 .refine Wp.skip (G _ _ (r6 ?_));exact wN f o (l _ w)
theorem zfH(b:List eo)(c:List eo)(z:Bool)(w:PD b c=some z):Does prog 15 [lm eu b,lm eu c] [] (fun r X=>r=pB z/\X=[]):=by
 unfold PD at w;refine dW 0 26 [.tmp 4] func15 fun B=>nA fun A=>?_;refine qS ?_;refine dc fun _ C _=>qS ?_;refine cR w fun w=>?_;refine Wp.skip (C _ _ (dc fun a n D=>?_));obtain⟨E,i,w⟩:=zp w;have j:∀s,E s=some z->a [] []:=by
  intro s hs;have w:=i _ hs;clear hs;try dsimp only at w|-
  exact n _ _ (wQ)
 clear n i;refine qS ?_;refine Wp.block ?_;obtain⟨N,o,w⟩:=zq w;refine fL 0 b.length fun p=>?_;refine Wp.forL (fun g s=>[(0,lm eu b),(1,lm eu c),(12,pI (b.length:Int)),(13,pI (g:Int))]) (fun g s=>[]) wF w ?_;clear w;intro g s G w;try dsimp only at w|-
 refine qS ?_;refine lB eu w p (fun h=>D _ _ _ _ wF (j () (o _ h))) fun k t O M l I m w A _ u=>?_;refine q6 ?_;obtain⟨F,J,f,L,w⟩:=kM w;replace f:∀d,(List.map eu c).getD g d=eu F:=f eu;have A:=And.intro t (And.intro l f);refine dS (pl [(0,none),(1,none),(2,none),(3,none),(4,none),(5,none),(6,none),(7,none),(8,none)]) fun _ v=>v _ _ ?_;refine cR w fun w=>?_;refine Wp.skip (u _ _ (r6 ?_));exact wN () k (m _ w)
theorem zlu(j:aj)(F:List ay)(c:aa)(f:eo)(z:Bool)(w:LD j F c f=some z):Does prog 3 [.agg [lm za j.D,lm zc j.u,lm za j.B,lm zb j.A],lm zk F,.agg [pS c.q,pI c.g,pS c.a,pS c.y,pS c.E],pS f] [] (fun r X=>r=pB z/\X=[]):=by
 unfold LD at w;refine dW 0 107 [.tmp 8] func3 fun B=>nA fun A=>?_;refine qS ?_;refine dc fun _ a7 _=>?_;obtain⟨M,V,w⟩:=ze w;refine sX (fun k=>zo1  _ V) ?_;refine cR w fun w=>?_;refine Wp.skip (a7 _ _ ?_);obtain⟨G,x,w⟩:=ze w;obtain⟨b,H,w⟩:=ze w;refine rS fun _ K=>?_;refine cF (pD j _ x) ?_;refine cF (lh G F _ H) (K _ _ ?_);refine dc fun aH N a9=>?_;obtain⟨ac,L,w⟩:=zp w;have O:∀s,ac s=some z->aH [(3,pS f),(4,.ptr 0 0),(9,.ptr 2 0)] [.cells 26 [lm za b.1.D,lm zc b.1.u,lm za b.1.B,lm zb b.1.A],.cells 29 [.top,.top,.top,.top,.top],.cells 33 [lm zd b.2.k]]:=by
  intro s hs;have w:=L _ hs;clear hs;try dsimp only at w|-
  refine N _ _ ?_;obtain⟨P,ad,w⟩:=ze w;refine sF (zoZ b.1 b.2 _ ad) ?_;refine dc fun _ af _=>?_;obtain⟨ag,W,Q,w⟩:=WF w;obtain⟨aL,Y,w⟩:=zs w;refine dd fun aS an=>?_;simp only[go_sem,simprocAttr];try refine⟨sd,?_⟩
  refine dD (av:=?av15) (g:=!(!decide (P.2=0))) [] (fun k=>pA b.1 b.2 _ (W k)) (fun k=>by obtain rfl:=Q k;rfl) si si si si sg sg ?cont15;simp only[go_sem,simprocAttr];try refine⟨sd,?_⟩
  refine cX (g:=!(!decide (P.2=0))) (fun k=>zd4 P.1 ag _ (Y k)) (an _ _ ?_);refine cR w fun w=>?_;refine Wp.skip (af _ _ ?_);obtain⟨I,Z,w⟩:=ze w;refine sF (znH b.1 b.2 f _ Z) ?_;refine dc fun _ aw _=>?_;obtain⟨aM,a0,w⟩:=zs w;refine sX (g:=!decide (f=[])) (fun k=>AX f _ (a0 k)) ?_;refine cR w fun w=>?_;refine Wp.skip (aw _ _ ?_);obtain⟨az,a1,R,w⟩:=WF w;obtain⟨aN,a2,w⟩:=zs w;refine dd fun aT aA=>?_;simp only[go_sem,simprocAttr];try refine⟨sd,?_⟩
  refine dD (av:=?av27) (g:=decide (I.2=0)) [] (fun k=>m5 b.1 b.2 f _ (a1 k)) (fun k=>by obtain rfl:=R k;rfl) si si si si sg sg ?cont27;simp only[go_sem,simprocAttr];try refine⟨sd,?_⟩
  refine cX (g:=decide (I.2=0)) (fun k=>zfH I.1 az _ (a2 k)) (aA _ _ ?_);exact wR
 clear N L;obtain⟨n,S,w⟩:=ze w;obtain⟨aO,w⟩:=zi w;refine dA (plan:=(.rd 0 (.rd 1 (.rd 3 (.rd 7 (.fk 2 [3,7] (.ef 4 [0,1,7] (.ef 5 [7] (.rd 6 .nil))) 4 [0,1,7] (.ef 2 [3,7] (.ef 5 [7] (.rd 6 .nil))))))))) (by kernel_rfl) rfl (by kernel_rfl) fun aI aB t=>?_;suffices m:aI [(0,.agg [lm za j.D,lm zc j.u,lm za j.B,lm zb j.A]),(1,lm zk F),(2,.agg [pS c.q,pI c.g,pS c.a,pS c.y,pS c.E]),(3,pS f),(4,.ptr 0 0),(6,.ptr 1 0),(8,pB false),(9,.ptr 2 0),(19,pB M),(20,pB (!M)),(21,.tup [.agg [lm za b.1.D,lm zc b.1.u,lm za b.1.B,lm zb b.1.A],.agg [lm zd b.2.k]]),(22,.agg [lm za j.D,lm zc j.u,lm za j.B,lm zb j.A]),(23,.agg [lm za G.D,lm zc G.u,lm za G.B,lm zb G.A]),(24,lm zk F),(25,.tup [.agg [lm za b.1.D,lm zc b.1.u,lm za b.1.B,lm zb b.1.A],.agg [lm zd b.2.k]]),(26,.agg [lm za b.1.D,lm zc b.1.u,lm za b.1.B,lm zb b.1.A]),(27,.agg [lm zd b.2.k]),(28,.ptr 2 0),(29,lm zd b.2.k),(30,.top),(31,.agg [pS c.q,pI c.g,pS c.a,pS c.y,pS c.E]),(32,.full (List.map zd [c])),(33,.buf 3),(34,pI ((n++[c]).length:Int)),(35,pI 0)] [.cells 26 [lm za b.1.D,lm zc b.1.u,lm za b.1.B,lm zb b.1.A],.cells 29 [pS c.q,pI c.g,pS c.a,pS c.y,pS c.E],.cells 33 [lm zd b.2.k],.buf 29 5 (List.map zd (n++[c]))]by
  simp only[go_sem,simprocAttr];try refine⟨sL,?_⟩
  refine Dr.fk ?_ ?_
  ·
   refine id (du (F:=?av30) (o:=?o30) [] (Xv b.2.k _ S) si si si si si sg sg sg sg ?cont30);simp only[go_sem,simprocAttr];first|refine t.weak _ _ _ _ ?_ m|refine⟨sL,t.weak _ _ _ _ ?_ m⟩
   exact su
  ·
   refine Br.run (o:=?o31) si si ?cont31;simp only[go_sem,simprocAttr];try refine⟨sL,?_⟩
   refine de (du (F:=?av32) (o:=?o32) [] (Xv b.2.k _ S) si si si si si sg sg sg sg ?cont32);simp only[go_sem,simprocAttr];first|refine t.weak _ _ _ _ ?_ m|refine⟨sL,t.weak _ _ _ _ ?_ m⟩
   exact su
 refine aB _ _ (Wp.block ?_);obtain⟨aP,a3,w⟩:=kf w;refine dQ 3 fun v=>?_;replace v:(n++[c]).length<=274877906944:=by simp only[go_sem,simprocAttr,length_map]at v;omega
 refine Wp.forC (fun p s=>[(3,pS f),(4,.ptr 0 0),(9,.ptr 2 0),(33,.buf 3),(34,pI ((n++[c]).length:Int)),(35,pI (p:Int))]) (fun p s=>[.cells 26 [lm za b.1.D,lm zc b.1.u,lm za b.1.B,lm zb b.1.A],.cells 29 [pS c.q,pI c.g,pS c.a,pS c.y,pS c.E],.cells 33 [lm zd b.2.k],.buf 29 5 (List.map zd (n++[c]))]) wF w ?_;clear w;intro p s aJ w;try dsimp only at w|-
 refine qS ?_;refine dc fun _ aC _=>Wp.cond rfl ⟨⟩ (fun J=>?_) fun J=>Wp.exit (a9 _ _ _ _ wF (O () (a3 _ (nG w (ss J)))));have C:=jz J;have T:=iz C v;obtain⟨aK,U,w⟩:=ke w C;refine Wp.skip ?_;simp only[zF];refine aC _ _ (dc fun _ aD _=>Wp.block ?_);have a4:=fun h=>g9 (l:=n++[c]) (e:=zd) (d:=(aa.mk [] 0 [] [] [])) (i:=p) h [];refine dd fun aU aE=>?_;simp only[go_sem,simprocAttr,T,a4 (by first|omega|(simp only[length_set,length_append,length_cons,length_nil,length_replicate]at *;omega))];refine kA aE ?_;obtain⟨aQ,a5,w⟩:=ze w;have A:=T;refine sX (fun k=>zoY b.1 ((n++[c]).getD p (aa.mk [] 0 [] [] [])) _ a5) ?_;obtain⟨aR,a6,w⟩:=ze w;refine sX (fun k=>znJ b.1 ((n++[c]).getD p (aa.mk [] 0 [] [] [])) _ a6) ?_;refine q6 ?_;refine cR w fun w=>?_;refine Wp.skip (aD _ _ (r6 ?_));exact wN () C (U _ w)
end Go.Proofs.YteofmaagnphonaaGreatDoor
