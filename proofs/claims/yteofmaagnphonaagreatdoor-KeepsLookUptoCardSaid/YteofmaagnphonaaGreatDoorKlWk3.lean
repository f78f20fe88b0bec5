/- That the code does what the models say (part 3). -/
import Derived.Test.YteofmaagnphonaaGreatDoorKlWk0
import Derived.Test.YteofmaagnphonaaGreatDoorKlWk1
import Derived.Test.YteofmaagnphonaaGreatDoorKlWk2
set_option linter.unusedSimpArgs false
set_option linter.unusedVariables false
open Go.Proofs Go.Shelf
open List
namespace Go.Proofs.YteofmaagnphonaaGreatDoor
open Tryz
open Go.Vc Go.Md
set_option maxRecDepth 100000
set_option maxHeartbeats 4000000
theorem zjZ(b:Int)(c:Int)(z:Int×Int)(w:WZ b c=some z):Does prog 191 [.p (.i .u64 b),.p (.i .u64 c)] [] (fun r X=>r=.tup [.p (.i .u64 z.1),.p (.i .u64 z.2)]/\X=[]):=by
 unfold WZ at w;refine dW 0 51 [.tmp 4,.tmp 5] func191 fun B=>nA fun A=>?_;refine qS ?_;refine qS ?_;refine qS ?_;refine qS ?_;refine qS ?_;refine qS ?_;refine qS ?_;refine qS ?_;refine qS ?_;refine qS ?_;refine qS ?_;exact wQ
theorem zlp(b:Int)(c:Int)(z:Int×Int)(w:UR b c=some z):Does prog 161 [.p (.i .u64 b),.p (.i .u64 c)] [] (fun r X=>r=.tup [.p (.i .u64 z.1),.p (.i .u64 z.2)]/\X=[]):=by
 unfold UR at w;refine dW 0 30 [.tmp 4,.tmp 5] func161 fun B=>nA fun A=>?_;refine qS ?_;refine dc fun _ j _=>Wp.cond rfl ⟨⟩ (fun f=>?_) (fun f=>?_)
 .cases f
 refine Wp.skip (j _ _ ?_);obtain⟨k,g,w⟩:=ze w;refine sX (fun a=>zjZ b c _ g) ?_;exact wQ
theorem Z3(n:Int)(a:eo)(z:Unit)(w:Po n a=some z):Does prog 162 [.ptr 0 0,pI n] [.cells 209 [.np 0,.buf 1],.sb 5 a] (fun r X=>r=.tup []/\X=[.cells 209 [.np 0,.buf 1],.sb 5 a]):=by obtain⟨h,-⟩:=zi w;obtain⟨k,rfl⟩:=Int.eq_ofNat_of_zero_le h.1;exact Does.grow yT yU k a (by omega)
theorem ze8(b:eo)(z:Unit)(w:Z5 b=some z):Does prog 192 [.ptr 0 0] [.cells 209 [.nil,.buf 1],.sb 5 b] (fun r X=>r=.tup []/\X=[.cells 209 [.ptr 0 0,.buf 1],.sb 5 b]):=by
 unfold Z5 at w;refine dW 2 20 [] func192 fun B=>nA fun A=>?_;refine qS ?_;refine Wp.cond rfl ⟨⟩ (fun c=>?_) (fun c=>?_);rotate_left
 .cases c
 refine Wp.region fun a f=>?_;simp only[go_sem,simprocAttr];try refine⟨sd,?_⟩
 refine ek (v:=?av4) (g:=true) yo si si sg ?cont4;simp only[go_sem,simprocAttr];refine kA f ?_;refine zG ?_;cases w;exact jF
theorem ze7(b:eo)(z:Unit)(w:Z6 b=some z):Does prog 192 [.ptr 0 0] [.cells 209 [.ptr 0 0,.buf 1],.sb 5 b] (fun r X=>r=.tup []/\X=[.cells 209 [.ptr 0 0,.buf 1],.sb 5 b]):=by
 unfold Z6 at w;refine dW 2 20 [] func192 fun B=>nA fun A=>?_;refine qS ?_;refine Wp.cond rfl ⟨⟩ (fun c=>?_) (fun c=>?_)
 .cases c
 refine qS ?_;refine Wp.cond rfl ⟨⟩ (fun f=>?_) (fun f=>?_)
 .cases f
 refine Wp.skip (zG ?_);cases w;exact jF
theorem ze6(a:eo)(z:Unit)(w:Xs a=some z):Does prog 192 [.ptr 0 0] [.cells 209 [.np 0,.buf 1],.sb 5 a] (fun r X=>r=.tup []/\X=[.cells 209 [.np 0,.buf 1],.sb 5 a]) :=
 Does.np (ze8 a () rfl) (ze7 a () rfl)
theorem Pz(c:eo)(b:eo)(z:Int×eo)(w:zw c b=some z):Does prog 163 [.ptr 0 0,pS c] [.cells 209 [.np 0,.buf 1],.sb 5 b] (fun r X=>r=.tup [pI z.1,.raw .nilIface]/\X=[.cells 209 [.np 0,.buf 1],.sb 5 z.2]):=by
 unfold zw at w;refine dW 2 19 [.tmp 4,.tmp 5] func163 fun B=>nA fun A=>?_;refine qS ?_;obtain⟨g,f,w⟩:=ze w;refine sO [0,1] (ze6 b _ f) ?_;obtain⟨i,w⟩:=zi w;refine q6 ?_;exact wQ
theorem Xu(b:eo)(z:Int)(w:Pp b=some z):Does prog 164 [.ptr 0 0] [.cells 209 [.np 0,.buf 1],.sb 5 b] (fun r X=>r=pI z/\X=[.cells 209 [.np 0,.buf 1],.sb 5 b]):=by
 unfold Pp at w;refine dW 2 8 [.tmp 2] func164 fun B=>nA fun A=>?_;refine qS ?_;exact wQ
theorem Xr(b:eo)(z:eo)(w:Be b=some z):Does prog 165 [.ptr 0 0] [.cells 209 [.np 0,.buf 1],.sb 5 b] (fun r X=>r=pS z/\X=[.cells 209 [.np 0,.buf 1],.sb 5 b]):=by
 unfold Be at w;refine dW 2 14 [.tmp 2] func165 fun B=>nA fun A=>?_;refine qS ?_;refine dS (pl [(0,none),(1,none),(2,none),(3,none),(5,none),(6,none),(7,none),(8,none),(9,none),(4,some [5,6,7,8,9]),(10,some []),(11,none)]) fun _ c=>c _ _ ?_;exact wR
theorem zkK(b:eo)(j:Int)(z:eo)(w:Pg b j=some z):Does prog 138 [pS b,pI j] [] (fun r X=>r=pS z/\X=[]):=by
 unfold Pg at w;refine dW 0 125 [.tmp 4] func138 fun B=>nA fun A=>?_;refine qS ?_;refine dc fun _ d _=>qS ?_;refine Wp.block (qS ?_);refine cR w fun w=>?_;refine qS ?_;refine cR w fun w=>?_;refine Wp.skip (d _ _ (dc fun e E h=>?_));obtain⟨q,F,w⟩:=zp w;have G:∀s,q s=some z->e [(0,pS b),(1,pI j)] []:=by
  intro s hs;have w:=F _ hs;clear hs;try dsimp only at w|-
  refine E _ _ ?_;obtain⟨c,c0,w⟩:=ze w;refine sX (fun a=>zlp (IntKind.u64.wrap (b.length:Int)) (IntKind.u64.wrap j) _ c0) ?_;refine dc fun x I y=>?_;obtain⟨c1,J,w⟩:=zp w;have L:∀s,c1 s=some z->x [(0,pS b),(6,.p (.i .u64 c.2))] []:=by
   intro s hs;have w:=J _ hs;clear hs;try dsimp only at w|-
   refine I _ _ (qS ?_);refine dc fun _ H _=>qS ?_;refine cR w fun w=>?_;refine Wp.skip (H _ _ (dc fun K M N=>?_));obtain⟨aM,O,w⟩:=zp w;have u:∀s,aM s=some z->K [(0,pS b),(7,pI (IntKind.i64.wrap c.2))] []:=by
    intro s hs;have w:=O _ hs;clear hs;try dsimp only at w|-
    refine M _ _ (qS ?_);refine dc fun aN P v=>?_;obtain⟨aO,Q,w⟩:=zp w;have m:∀s,aO s=some z->aN [(0,pS b),(7,pI (IntKind.i64.wrap c.2)),(8,pI s)] []:=by
     intro k hs;have w:=Q _ hs;clear hs;try dsimp only at w|-
     refine P _ _ (qS ?_);refine dL 0 5 rfl ?_;simp only[go_sem,simprocAttr];obtain⟨aU,U,w⟩:=ze w;refine sO [0,1] (Z3 (IntKind.i64.wrap c.2) [] _ U) ?_;obtain⟨aV,V,w⟩:=ze w;refine sO [0,1] (Pz b [] _ V) ?_;refine dc fun aP R an=>?_;obtain⟨av,C,w⟩:=zp w;have S:∀s,av s=some z->aP [(9,.ptr 0 0)] [.cells 209 [.np 0,.buf 1],.sb 5 s]:=by
      intro W hs;have w:=C _ hs;clear hs;try dsimp only at w|-
      refine R _ _ ?_;obtain⟨aW,Y,w⟩:=ze w;refine sO [0,1] (Xr W _ Y) ?_;exact wR
     clear R C;refine Wp.block ?_;obtain⟨aX,Z,w⟩:=jj w;refine Wp.loopN (fun s=>[(7,pI (IntKind.i64.wrap c.2)),(8,pI k),(9,.ptr 0 0)]) (fun s=>[.cells 209 [.np 0,.buf 1],.sb 5 s]) ?_ w ?_
     .exact jF
     clear w;intro l aS w;try dsimp only at w|-
     refine dc fun _ aw _=>?_;obtain⟨aY,a0,w⟩:=ze w;refine sO [0,1] (Xu l _ a0) ?_;refine cN w (fun w=>?_) fun w=>?_
     .refine Wp.skip (aw _ _ (Wp.block ?_));obtain⟨az,a1,w⟩:=ze w;obtain⟨aA,a2,w⟩:=ze w;refine rS fun _ aB=>?_;refine cO [0,1] (Xu l _ a1) ?_;refine cO [0,1] (Xu l _ a2) (aB _ _ ?_);obtain⟨aC,a3,w⟩:=ze w;obtain⟨aZ,w⟩:=zi w;obtain⟨aD,a4,w⟩:=ze w;refine rE fun _ aE=>?_;refine cO [0,1] (Xr l _ a3) ?_;refine cO [0,1] (Pz (List.take ((min (min (IntKind.i64.wrap ((IntKind.i64.wrap c.2)-az)) aA) k).toNat) aC) l _ a4) (aE _ _ ?_);simp only[zF,zB,↓reduceIte];refine⟨aD.2,w,?_⟩;exact jF
     .refine Wp.exit ?_;simp only[zF,zB,↓reduceIte];have w:=Z _ w;try dsimp only at w
      refine an _ _ _ _ ?_ (S l w);exact jF
    clear P Q;refine qS ?_;refine cN w (fun w=>?_) fun w=>?_
    .obtain⟨b0,w⟩:=zi w;refine q6 ?_;refine qS ?_;refine cN w (fun w=>?_) fun w=>?_
     .refine qR ?_;refine v _ _ _ _ ?_ (m (b.length:Int) w);exact jF
     .refine Wp.skip (v _ _ _ _ ?_ (m (IntKind.i64.wrap ((IntKind.i64.wrap (Int.tdiv 8192 (b.length:Int)))*(b.length:Int))) w));exact jF
    .refine Wp.skip (v _ _ _ _ ?_ (m (IntKind.i64.wrap c.2) w));exact jF
   clear M O;obtain⟨o,aT,t,w⟩:=xG w;replace t:((b.getD 0 0).toNat:Int)=o:=t;have A:=t;refine q6 ?_;refine Wp.block (dc fun aQ T n=>?_);obtain⟨aF,D,w⟩:=zp w;have f:∀s,aF s=some z->aQ [(0,pS b),(7,pI (IntKind.i64.wrap c.2)),(43,pB s)] []:=by
    intro aR hs;have w:=D _ hs;clear hs;try dsimp only at w|-
    refine T _ _ (cN w (fun w=>?_) fun w=>?_)
    .refine Wp.block ?_;obtain⟨b1,a5,w⟩:=zs w;refine sX (g:=decide ((IntKind.i64.wrap c.2)<=128)) (fun a=>EX ((List.append [32,32,32,32,32,32,32,32,32,32,32,32,32,32,32,32,32,32,32,32,32,32,32,32,32,32,32,32,32,32,32,32,32,32,32,32,32,32,32,32,32,32,32,32,32,32,32,32,32,32,32,32,32,32,32,32,32,32,32,32,32,32,32,32] [32,32,32,32,32,32,32,32,32,32,32,32,32,32,32,32,32,32,32,32,32,32,32,32,32,32,32,32,32,32,32,32,32,32,32,32,32,32,32,32,32,32,32,32,32,32,32,32,32,32,32,32,32,32,32,32,32,32,32,32,32,32,32,32]):eo) b _ (a5 a)) ?_;refine cN w (fun w=>?_) fun w=>?_
     .obtain⟨b2,w⟩:=zi w;exact wQ
     .obtain⟨b3,a6,w⟩:=zs w;refine sX (g:=decide ((IntKind.i64.wrap c.2)<=128)) (fun a=>EX ((List.append [45,45,45,45,45,45,45,45,45,45,45,45,45,45,45,45,45,45,45,45,45,45,45,45,45,45,45,45,45,45,45,45,45,45,45,45,45,45,45,45,45,45,45,45,45,45,45,45,45,45,45,45,45,45,45,45,45,45,45,45,45,45,45,45] [45,45,45,45,45,45,45,45,45,45,45,45,45,45,45,45,45,45,45,45,45,45,45,45,45,45,45,45,45,45,45,45,45,45,45,45,45,45,45,45,45,45,45,45,45,45,45,45,45,45,45,45,45,45,45,45,45,45,45,45,45,45,45,45]):eo) b _ (a6 a)) ?_;refine cN w (fun w=>?_) fun w=>?_
      .obtain⟨b4,w⟩:=zi w;exact wQ
      .obtain⟨b5,a7,w⟩:=zs w;refine sX (g:=decide ((IntKind.i64.wrap c.2)<=64)) (fun a=>EX ([48,48,48,48,48,48,48,48,48,48,48,48,48,48,48,48,48,48,48,48,48,48,48,48,48,48,48,48,48,48,48,48,48,48,48,48,48,48,48,48,48,48,48,48,48,48,48,48,48,48,48,48,48,48,48,48,48,48,48,48,48,48,48,48]:eo) b _ (a7 a)) ?_;refine cN w (fun w=>?_) fun w=>?_
       .obtain⟨b6,w⟩:=zi w;exact wQ
       .obtain⟨b7,a8,w⟩:=zs w;refine sX (g:=decide ((IntKind.i64.wrap c.2)<=128)) (fun a=>EX ((List.append [61,61,61,61,61,61,61,61,61,61,61,61,61,61,61,61,61,61,61,61,61,61,61,61,61,61,61,61,61,61,61,61,61,61,61,61,61,61,61,61,61,61,61,61,61,61,61,61,61,61,61,61,61,61,61,61,61,61,61,61,61,61,61,61] [61,61,61,61,61,61,61,61,61,61,61,61,61,61,61,61,61,61,61,61,61,61,61,61,61,61,61,61,61,61,61,61,61,61,61,61,61,61,61,61,61,61,61,61,61,61,61,61,61,61,61,61,61,61,61,61,61,61,61,61,61,61,61,61]):eo) b _ (a8 a)) ?_;refine cN w (fun w=>?_) fun w=>?_
        .obtain⟨b8,w⟩:=zi w;exact wQ
        .obtain⟨b9,a9,w⟩:=zs w;refine sX (g:=decide ((IntKind.i64.wrap c.2)<=64)) (fun a=>EX ([9,9,9,9,9,9,9,9,9,9,9,9,9,9,9,9,9,9,9,9,9,9,9,9,9,9,9,9,9,9,9,9,9,9,9,9,9,9,9,9,9,9,9,9,9,9,9,9,9,9,9,9,9,9,9,9,9,9,9,9,9,9,9,9]:eo) b _ (a9 a)) ?_;refine cN w (fun w=>?_) fun w=>?_
         .obtain⟨ba,w⟩:=zi w;exact wQ
         .refine Wp.skip (N _ _ _ _ ?_ (u () w));simp only[go_sem,simprocAttr,A];try exact uF
    .refine Wp.skip (N _ _ _ _ ?_ (u () w));simp only[go_sem,simprocAttr,A];try exact uF
   clear T D;refine q6 ?_;refine cN w (fun w=>?_) fun w=>?_
   .refine Wp.skip (n _ _ _ _ ?_ (f (decide (o=32)) w));simp only[go_sem,simprocAttr,A];try exact uF
   .refine q6 ?_;refine cN w (fun w=>?_) fun w=>?_
    .refine Wp.skip (n _ _ _ _ ?_ (f (decide (o=45)) w));simp only[go_sem,simprocAttr,A];try exact uF
    .refine q6 ?_;refine cN w (fun w=>?_) fun w=>?_
     .refine Wp.skip (n _ _ _ _ ?_ (f (decide (o=48)) w));simp only[go_sem,simprocAttr,A];try exact uF
     .refine q6 ?_;refine cN w (fun w=>?_) fun w=>?_
      .refine Wp.skip (n _ _ _ _ ?_ (f (decide (o=61)) w));simp only[go_sem,simprocAttr,A];try exact uF
      .refine r6 ?_;refine n _ _ _ _ ?_ (f (decide (o=9)) w);simp only[go_sem,simprocAttr,A];try exact uF
  clear I J;refine qS ?_;refine cN w (fun w=>?_) fun w=>?_
  .cases w
  .refine Wp.skip (y _ _ _ _ ?_ (L () w));exact jF
 clear E F;refine qS ?_;refine cN w (fun w=>?_) fun w=>?_
 .cases w
 .refine Wp.skip (h _ _ _ _ ?_ (G () w));exact jF
theorem Wx(b:eo)(z:eo)(w:BP b=some z):Does prog 110 [pS b] [] (fun r X=>r=pS z/\X=[]):=by
 unfold BP at w;refine dW 0 27 [.tmp 2] func110 fun B=>nA fun A=>?_;refine qS ?_;refine qS ?_;refine dc fun a m D=>?_;obtain⟨E,c,w⟩:=zp w;have g:∀s,E s=some z->a [(3,.p (.i .u64 s))] []:=by
  intro o hs;have w:=c _ hs;clear hs;try dsimp only at w|-
  refine m _ _ ?_;obtain⟨F,t,w⟩:=ze w;refine sX (fun d=>zhX o 16 _ t) ?_;obtain⟨O,u,w⟩:=ze w;obtain⟨L,w⟩:=zi w;refine sX (fun d=>zkK ([48]:eo) (IntKind.i64.wrap (16-(F.length:Int))) _ u) ?_;exact wR
 clear m c;refine qS ?_;refine Wp.block ?_;obtain⟨P,v,w⟩:=zq w;refine fL 0 b.length fun j=>?_;refine Wp.forL (fun f s=>[(0,pS b),(3,.p (.i .u64 s)),(7,pI (b.length:Int)),(8,pI (f:Int))]) (fun f s=>[]) wF w ?_;clear w;intro f n I w;try dsimp only at w|-
 refine qS ?_;refine lS w j (fun h=>D _ _ _ _ wF (g n (v _ h))) fun k M G N J l w A _ C=>?_;refine q6 ?_;refine r6 ?_;refine C _ _ (r6 ?_);exact wN (IntKind.u64.wrap ((gv .xor .u64 n (IntKind.u64.wrap (G.toNat:Int)))*1099511628211)) k (l _ w)
theorem qk(b:Int)(z:Int)(w:jg b=some z):Does prog 50 [pI b] [] (fun r X=>r=pI z/\X=[]):=by
 unfold jg at w;refine dW 0 8 [.tmp 2] func50 fun B=>nA fun A=>?_;refine qS ?_;refine dc fun _ c _=>qS ?_;refine Wp.block (qS ?_);refine cR w fun w=>?_;refine qS ?_;refine cR w fun w=>?_;exact Wp.skip (c _ _ (wQ))
theorem zo0(b:List Int)(z:Int)(w:xL b=some z):Does prog 126 [lm zt b] [] (fun r X=>r=pI z/\X=[]):=by
 unfold xL at w;refine dW 0 18 [.tmp 2] func126 fun B=>nA fun A=>?_;refine qS ?_;refine qS ?_;refine dc fun a j n=>?_;obtain⟨o,c,w⟩:=zp w;have g:∀s,o s=some z->a [(3,pI 0)] []:=by
  intro s hs;have w:=c _ hs;clear hs;try dsimp only at w|-
  exact j _ _ (wQ)
 clear j c;refine qS ?_;refine Wp.block ?_;obtain⟨D,k,w⟩:=zq w;refine fL 6 b.length fun l=>?_;refine Wp.forL (fun f s=>[(3,pI 0),(6,lm zt b),(7,pI (b.length:Int)),(8,pI (f:Int))]) (fun f s=>[]) wF w ?_;clear w;intro f s t w;try dsimp only at w|-
 refine qS ?_;refine lB zt w l (fun h=>n _ _ _ _ wF (g () (k _ h))) fun m E F C u v i w A _ p=>?_;refine q6 ?_;refine q6 ?_;refine cR w fun w=>?_;refine Wp.skip (p _ _ (r6 ?_));exact wN () m (i _ w)
theorem znI(b:aa)(c:aa)(z:Int)(w:tt b c=some z):Does prog 84 [.agg [pS b.q,pI b.g,pS b.a,pS b.y,pS b.E],.agg [pS c.q,pI c.g,pS c.a,pS c.y,pS c.E]] [] (fun r X=>r=pI z/\X=[]):=by
 unfold tt at w;refine dW 0 24 [.tmp 4] func84 fun B=>nA fun A=>?_;refine qS ?_;obtain⟨m,f,w⟩:=ze w;obtain⟨n,i,w⟩:=ze w;obtain⟨o,j,w⟩:=ze w;obtain⟨p,k,w⟩:=ze w;obtain⟨u,l,w⟩:=ze w;refine dS (pl [(0,none),(1,none),(2,none),(3,none),(4,none),(5,none),(6,none),(7,none),(8,none),(9,none),(10,none),(11,none),(12,none),(13,none),(14,none),(15,none),(16,none),(17,some []),(18,none),(19,none)]) fun _ t=>?_;refine cD (fun d=>Pq b.q c.q _ f) ?_;refine cD (fun d=>qk b.g _ i) ?_;refine cD (fun d=>qk c.g _ j) ?_;refine cD (fun d=>Pq b.a c.a _ k) ?_;refine cD (fun d=>zo0 [m,IntKind.i64.wrap (n-o),p] _ l) (t _ _ ?_);exact wR
theorem Bc(c:al)(z:Int)(w:rF c=some z):Does prog 37 [.agg [lm zd c.k]] [] (fun r X=>r=pI z/\X=[]):=by
 unfold rF at w;refine dW 0 153 [.tmp 2] func37 fun B=>nA fun A=>?_;refine qS ?_;refine dc fun _ H _=>qS ?_;refine cR w fun w=>?_;refine Wp.skip (H _ _ (dc fun K x aV=>?_));obtain⟨aW,L,w⟩:=zp w;have T:∀s,aW s=some z->K [(1,.ptr 0 0)] [.cells 33 [lm zd c.k]]:=by
  intro s hs;have w:=L _ hs;clear hs;try dsimp only at w|-
  refine x _ _ (qS ?_);refine dc fun K8 c1 aX=>?_;obtain⟨aw,t,w⟩:=zp w;have U:∀s,aw s=some z->K8 [] []:=by
   intro s hs;have w:=t _ hs;clear hs;try dsimp only at w|-
   exact c1 _ _ (wQ)
  clear c1 t;refine qS ?_;refine Wp.block ?_;obtain⟨b5,V,w⟩:=zq w;refine fL 113 c.k.length fun W=>?_;refine Wp.forL (fun o s=>[(8,.mp 1),(113,lm zd c.k),(114,pI (c.k.length:Int)),(115,pI (o:Int))]) (fun o s=>[.cells 33 [lm zd c.k],.mp true (zz ER zd s)]) wF w ?_;clear w;intro o j aY w;try dsimp only at w|-
  refine qS ?_;refine lB zd w W (fun h=>aX _ _ _ _ wF (U () (V _ h))) fun Y M m b0 u b1 N w A _ az=>?_;refine q6 ?_;obtain⟨v,aA,w⟩:=ze w;refine dS (pl [(0,none),(1,none),(2,none),(3,none),(4,none),(5,none),(6,some [0,1,2,3,4,5]),(7,some [])]) fun _ aB=>?_;refine cD (fun c0=>qk m.g _ aA) (aB _ _ ?_);refine dc fun _ aC _=>?_;obtain⟨b6,aD,w⟩:=il w;have C:=ju (e:=zd) Xn j (au.mk v m.a) (aa.mk [] 0 [] [] []);have D:=jv (e:=zd) Xn j (au.mk v m.a);simp only[ER,zO,aD,zd,map_nil]at C D;have A:=And.intro M (And.intro u (And.intro C D));refine q6 ?_;refine q6 ?_;refine cR w fun w=>?_;refine Wp.skip (aC _ _ ?_);obtain⟨b7,w⟩:=zi w;have F:=oH (e:=zd) Xn j (au.mk v m.a) m;simp only[ER,zO,zd,map_nil]at F;have A:=And.intro M (And.intro u F);refine r6 ?_;refine az _ _ (r6 ?_);exact wN (eD j (au.mk v m.a) m) Y (N _ w)
 clear x L;refine qS ?_;refine Wp.block ?_;obtain⟨b8,Z,w⟩:=zq w;refine fL 19 c.k.length fun a0=>?_;refine Wp.forL (fun f s=>[(1,.ptr 0 0),(19,lm zd c.k),(20,pI (c.k.length:Int)),(21,pI (f:Int))]) (fun f s=>[.cells 33 [lm zd c.k]]) wF w ?_;clear w;intro f s b2 w;try dsimp only at w|-
 refine qS ?_;refine lB zd w a0 (fun h=>aV _ _ _ _ wF (T () (Z _ h))) fun a1 aE b b3 a2 b4 O w A _ aF=>?_;refine q6 ?_;obtain⟨G,aG,w⟩:=ze w;obtain⟨b9,w⟩:=zi w;obtain⟨P,aH,w⟩:=zs w;obtain⟨ba,w⟩:=zi w;obtain⟨Q,a3,w⟩:=zs w;refine dS (pl [(0,none),(1,none),(2,none),(3,none),(4,none),(5,none),(6,none),(7,none),(8,none),(9,none),(10,none),(11,none),(12,none),(13,none),(14,none),(15,none),(16,none),(17,none),(18,none),(19,none),(20,none),(21,none),(22,none),(23,none),(24,none),(25,none),(26,none),(27,none),(28,none),(29,none),(30,none),(31,none),(32,none),(33,none),(34,none),(35,none),(36,none),(37,none)]) fun _ aI=>?_;refine cD (fun c0=>px b.y _ aG) ?_;refine cD (g:=((!((!G)||((!decide (b.E=[]))&&(!decide (b.g=3)))))&&(decide (b.g=3)))) (fun c0=>Wx (([114]:eo)++b.E) _ (aH c0)) ?_;refine cD (g:=((!((!G)||((!decide (b.E=[]))&&(!decide (b.g=3)))))&&((decide (b.g=3))&&(!decide (b.y=P))))) (fun c0=>Wx (([45]:eo)++b.E) _ (a3 c0)) (aI _ _ ?_);obtain⟨aJ,a4,w⟩:=ze w;refine sX (fun c0=>AX b.a _ a4) ?_;refine dc fun aZ R S=>?_;obtain⟨aK,I,w⟩:=zp w;have n:∀s,aK s=some z->aZ [(1,.ptr 0 0),(3,pI (f:Int)),(4,.ptr 1 0),(5,pB (((!G)||((!decide (b.E=[]))&&(!decide (b.g=3))))||(((decide (b.g=3))&&(!decide (b.y=P)))&&(!decide (b.y=Q))))),(6,pB s),(19,lm zd c.k),(20,pI (c.k.length:Int)),(21,pI (f:Int))] [.cells 33 [lm zd c.k],.cells 29 [pS b.q,pI b.g,pS b.a,pS b.y,pS b.E]]:=by
  intro p hs;have w:=I _ hs;clear hs;try dsimp only at w|-
  refine R _ _ ?_;obtain⟨aL,a5,w⟩:=ze w;obtain⟨aM,a6,w⟩:=ze w;obtain⟨aN,a7,w⟩:=ze w;obtain⟨aO,a8,w⟩:=ze w;obtain⟨aP,a9,w⟩:=ze w;obtain⟨bb,w⟩:=zi w;obtain⟨aQ,ac,w⟩:=zs w;obtain⟨aR,ad,w⟩:=ze w;obtain⟨bc,af,w⟩:=ze w;have J:=BV (l:=c.k) (e:=zd) (d:=(aa.mk [] 0 [] [] [])) (i:=(IntKind.i64.wrap ((f:Int)-1)).toNat);simp only[zd,map_nil]at J;have A:=And.intro aE (And.intro a2 J);refine dS (pl [(0,none),(1,none),(2,none),(3,none),(4,none),(5,none),(6,none),(7,none),(8,none),(9,none),(10,none),(11,none),(12,none),(13,none),(14,none),(15,none),(16,none),(17,none),(18,none),(19,none),(20,none),(21,none),(22,none),(23,none),(24,none),(25,none),(26,none),(27,none),(28,none),(29,none),(30,none),(31,none),(32,none),(33,some []),(34,none),(35,none)]) fun _ aS=>?_;refine cD (fun c0=>xh b.q _ a5) ?_;refine cD (fun c0=>ji (!aL) 5 _ a6) ?_;refine cD (fun c0=>ji ((decide (b.g<1))||(decide (6<b.g))) 1 _ a7) ?_;refine cD (fun c0=>ji (!p) 5 _ a8) ?_;refine cD (fun c0=>ji (((!G)||((!decide (b.E=[]))&&(!decide (b.g=3))))||(((decide (b.g=3))&&(!decide (b.y=P)))&&(!decide (b.y=Q)))) 2 _ a9) ?_;refine cD (g:=decide (0<(f:Int))) (fun c0=>znI (aa.mk ((c.k.getD ((IntKind.i64.wrap ((f:Int)-1)).toNat) (aa.mk [] 0 [] [] [])).q) ((c.k.getD ((IntKind.i64.wrap ((f:Int)-1)).toNat) (aa.mk [] 0 [] [] [])).g) ((c.k.getD ((IntKind.i64.wrap ((f:Int)-1)).toNat) (aa.mk [] 0 [] [] [])).a) ((c.k.getD ((IntKind.i64.wrap ((f:Int)-1)).toNat) (aa.mk [] 0 [] [] [])).y) ((c.k.getD ((IntKind.i64.wrap ((f:Int)-1)).toNat) (aa.mk [] 0 [] [] [])).E)) b _ (ac c0)) ?_;refine cD (fun c0=>ji ((decide (0<(f:Int)))&&(decide (0<=aQ))) 7 _ ad) ?_;refine cD (fun c0=>oP [aM,aN,aO,aP,aR] _ af) (aS _ _ ?_);refine q6 ?_;refine cR w fun w=>?_;refine Wp.skip (aF _ _ (r6 ?_));exact wN () a1 (O _ w)
 clear R I;refine q6 ?_;refine cN w (fun w=>?_) fun w=>?_
 .obtain⟨aT,ag,w⟩:=ze w;refine eX (fun c0=>xh b.a _ ag) ?_;refine S _ _ _ _ ?_ (n aT w);simp only[go_sem,simprocAttr,A];try exact uE
 .refine Wp.skip (S _ _ _ _ ?_ (n aJ w));simp only[go_sem,simprocAttr,A];try exact uE
theorem M8(b:ak)(z:ai)(w:xD b=some z):Does prog 79 [.agg [pI b.g,pS b.j.a,pS b.j.F,pB b.j.G,pS b.x.r,pS b.x.Value,pS b.h.C,pS b.h.a,pB b.h.H,pB b.h.I]] [] (fun r X=>r=.agg [pI z.g,pS z.j.a,pS z.j.F,pB z.j.G,pS z.x.r,pS z.x.Value,pS z.h.C,pS z.h.a,pB z.h.H,pB z.h.I]/\X=[]):=by
 unfold xD at w;refine dW 0 16 [.cell 2 74] func79 fun B=>nA fun A=>?_;refine qS ?_;obtain⟨i,f,w⟩:=ze w;obtain⟨k,m,c,n,w⟩:=kM w;replace c:∀d,(List.map zt [1,3,5]).getD i.toNat d=zt k:=c zt;simp only[map_cons,map_nil,zt]at c;have A:=c;refine dS (pl [(1,none),(2,none),(3,none),(6,none),(7,none),(8,none),(9,none),(10,none),(11,none),(0,some [1,2,3,6,7,8,9,10,11]),(4,none),(5,none),(12,none),(13,some [])]) fun _ l=>?_;refine cD (fun e=>qk b.g _ f) (l _ _ ?_);exact wR
theorem W6(b:ak)(z:Int)(w:EL b=some z):Does prog 75 [.agg [pI b.g,pS b.j.a,pS b.j.F,pB b.j.G,pS b.x.r,pS b.x.Value,pS b.h.C,pS b.h.a,pB b.h.H,pB b.h.I]] [] (fun r X=>r=pI z/\X=[]):=by
 unfold EL at w;refine dW 0 20 [.tmp 2] func75 fun B=>nA fun A=>?_;refine qS ?_;refine dc fun _ l _=>qS ?_;refine cR w fun w=>?_;refine Wp.skip (l _ _ ?_);obtain⟨m,c,w⟩:=ze w;obtain⟨n,f,w⟩:=ze w;obtain⟨o,i,w⟩:=ze w;obtain⟨t,k,w⟩:=ze w;refine dS (pl [(0,none),(1,none),(2,none),(3,none),(4,none),(5,none),(6,none),(7,some []),(8,none),(9,none)]) fun _ p=>?_;refine cD (fun d=>M8 b _ c) ?_;refine cD (fun d=>ZO m _ f) ?_;refine cD (fun d=>ji b.h.I 2 _ i) ?_;refine cD (fun d=>oP [n,o] _ k) (p _ _ ?_);exact wR
theorem Wj(b:ak)(z:eo)(w:BB b=some z):Does prog 67 [.agg [pI b.g,pS b.j.a,pS b.j.F,pB b.j.G,pS b.x.r,pS b.x.Value,pS b.h.C,pS b.h.a,pB b.h.H,pB b.h.I]] [] (fun r X=>r=pS z/\X=[]):=by
 unfold BB at w;refine dW 0 18 [.tmp 2] func67 fun B=>nA fun A=>?_;refine qS ?_;obtain⟨i,f,w⟩:=ze w;obtain⟨k,m,c,n,w⟩:=kM w;replace c:∀d,(List.map eu [b.j.a,b.x.r,b.h.C]).getD i.toNat d=eu k:=c eu;simp only[map_cons,map_nil,eu]at c;have A:=c;refine dS (pl [(0,none),(1,none),(2,none),(3,none),(4,none),(5,none),(6,none),(7,none),(8,none),(10,none),(11,none),(12,none),(9,some [10,11,12]),(13,none),(14,none),(15,none)]) fun _ l=>?_;refine cD (fun e=>qk b.g _ f) (l _ _ ?_);exact wR
theorem AN(b:ak)(z:eo)(w:td b=some z):Does prog 78 [.agg [pI b.g,pS b.j.a,pS b.j.F,pB b.j.G,pS b.x.r,pS b.x.Value,pS b.h.C,pS b.h.a,pB b.h.H,pB b.h.I]] [] (fun r X=>r=pS z/\X=[]):=by
 unfold td at w;refine dW 0 31 [.tmp 2] func78 fun B=>nA fun A=>?_;refine qS ?_;refine qS ?_;refine dc fun d m f=>?_;obtain⟨p,i,w⟩:=zp w;have c:∀s,p s=some z->d [(3,pS s.1),(4,pS s.2)] []:=by
  intro s hs;have w:=i _ hs;clear hs;obtain⟨k,l⟩:=s;try dsimp only at w|-
  refine m _ _ ?_;obtain⟨t,w⟩:=zi w;obtain⟨u,n,w⟩:=ze w;refine sX (fun e=>Wx (k++l) _ n) ?_;exact wR
 clear m i;obtain⟨v,o,w⟩:=ze w;refine sX (fun e=>qk b.g _ o) ?_;refine Wp.block (qS ?_);refine cN w (fun w=>?_) fun w=>?_
 .refine qS ?_;refine qS ?_;refine cN w (fun w=>?_) fun w=>?_
  .refine qR ?_;refine f _ _ _ _ ?_ (c (([114]:eo),b.j.F) w);exact fN
  .refine Wp.skip (f _ _ _ _ ?_ (c (([45]:eo),b.j.F) w));exact fN
 .refine qS ?_;refine cN w (fun w=>?_) fun w=>?_
  .refine qR ?_;refine f _ _ _ _ ?_ (c (([45]:eo),b.x.Value) w);exact fN
  .refine qS ?_;refine qS ?_;refine cN w (fun w=>?_) fun w=>?_
   .refine qR ?_;refine f _ _ _ _ ?_ (c (([97]:eo),b.h.a) w);exact fN
   .refine Wp.skip (f _ _ _ _ ?_ (c (([45]:eo),b.h.a) w));exact fN
theorem EN(c:eo)(b:ak)(z:aa)(w:tP c b=some z):Does prog 59 [pS c,.agg [pI b.g,pS b.j.a,pS b.j.F,pB b.j.G,pS b.x.r,pS b.x.Value,pS b.h.C,pS b.h.a,pB b.h.H,pB b.h.I]] [] (fun r X=>r=.agg [pS z.q,pI z.g,pS z.a,pS z.y,pS z.E]/\X=[]):=by
 unfold tP at w;refine dW 0 22 [.cell 4 29] func59 fun B=>nA fun A=>?_;refine qS ?_;obtain⟨m,i,w⟩:=ze w;obtain⟨n,k,w⟩:=ze w;refine dS (pl [(0,none),(1,none),(2,none),(3,none),(4,none),(5,none),(6,none),(7,none),(8,some [0,1,2,3,4,5,6,7]),(9,some [])]) fun _ l=>?_;refine cD (fun d=>Wj b _ i) ?_;refine cD (fun d=>AN b _ k) (l _ _ ?_);refine dc fun _ f _=>qS ?_;refine cN w (fun w=>?_) fun w=>?_
 .refine qR ?_;exact f _ _ (wQ)
 .exact Wp.skip (f _ _ (wQ))
theorem EU(b:aa)(c:aa)(z:Bool)(w:tW b c=some z):Does prog 61 [.agg [pS b.q,pI b.g,pS b.a,pS b.y,pS b.E],.agg [pS c.q,pI c.g,pS c.a,pS c.y,pS c.E]] [] (fun r X=>r=pB z/\X=[]):=by
 unfold tW at w;refine dW 0 19 [.tmp 4] func61 fun B=>nA fun A=>?_;refine qS ?_;obtain⟨k,f,w⟩:=ze w;obtain⟨l,i,w⟩:=ze w;refine dS (pl [(0,none),(1,none),(2,none),(3,none),(4,none),(5,none),(6,none),(7,none),(8,none),(9,none),(10,none),(11,none),(12,none),(13,none),(14,none)]) fun _ j=>?_;refine cD (fun d=>qk b.g _ f) ?_;refine cD (fun d=>qk c.g _ i) (j _ _ ?_);exact wR
theorem Zd(b:eo)(z:Bool)(w:B1 b=some z):Does prog 51 [pS b] [] (fun r X=>r=pB z/\X=[]):=by
 unfold B1 at w;refine dW 0 5 [.tmp 2] func51 fun B=>nA fun A=>?_;refine qS ?_;obtain⟨f,c,w⟩:=ze w;refine sX (fun a=>Na b ([115,116,97,103,101]:eo) _ c) ?_;exact wR
theorem zmE(l:al)(c:eo)(f:List ak)(z:Int)(w:Nj l c f=some z):Does prog 58 [.agg [lm zd l.k],pS c,lm zh f] [] (fun r X=>r=pI z/\X=[]):=by
 unfold Nj at w;refine dW 0 98 [.tmp 6] func58 fun B=>nA fun A=>?_;refine qS ?_;refine dc fun _ c1 _=>qS ?_;refine cR w fun w=>?_;refine Wp.skip (c1 _ _ (dc fun K e aU=>?_));obtain⟨aV,S,w⟩:=zp w;have a3:∀s,aV s=some z->K [] []:=by
  intro s hs;have w:=S _ hs;clear hs;try dsimp only at w|-
  exact e _ _ (wQ)
 clear e S;refine qS ?_;refine Wp.block ?_;obtain⟨b9,a4,w⟩:=zq w;refine fL 2 f.length fun a5=>?_;refine Wp.forL (fun m s=>[(1,pS c),(2,lm zh f),(3,.ptr 0 0),(18,lm zh f),(19,pI (f.length:Int)),(20,pI (m:Int))]) (fun m s=>[.cells 33 [lm zd l.k]]) wF w ?_;clear w;intro m s b2 w;try dsimp only at w|-
 refine qS ?_;refine dc fun _ aA _=>Wp.cond rfl ⟨⟩ (fun M=>?_) fun M=>Wp.exit (aU _ _ _ _ wF (a3 () (a4 _ (jd w (ss M)))));have o:=jz M;have p:=iz o a5;obtain⟨b,b3,n,b4,T,w⟩:=jh w o;replace n:=n zh;refine Wp.skip ?_;simp only[zF];refine aA _ _ (dc fun aW U aB=>?_);obtain⟨aC,P,w⟩:=zp w;have V:∀s,aC s=some z->aW [(1,pS c),(2,lm zh f),(3,.ptr 0 0),(18,lm zh f),(19,pI (f.length:Int)),(20,pI (m:Int))] [.cells 33 [lm zd l.k]]:=by
  intro s hs;have w:=P _ hs;clear hs;try dsimp only at w|-
  refine U _ _ ?_;have A:=And.intro p n;refine r6 ?_;exact wN () o (T _ w)
 clear U P;refine Wp.block ?_;have A:=And.intro p n;refine q6 ?_;refine dc fun _ aD _=>?_;obtain⟨ba,a6,w⟩:=ze w;refine sX (fun d=>W6 b _ a6) ?_;refine q6 ?_;refine cR w fun w=>?_;refine Wp.skip (aD _ _ ?_);obtain⟨i,aE,w⟩:=ze w;refine sX (fun d=>EN c b _ aE) ?_;refine dc fun aX W aF=>?_;obtain⟨aG,Q,w⟩:=zp w;have Y:∀s,aG s=some z->aX [(1,pS c),(2,lm zh f),(3,.ptr 0 0),(8,.ptr 1 0),(10,.ptr 2 0),(18,lm zh f),(19,pI (f.length:Int)),(20,pI (m:Int))] [.cells 33 [lm zd l.k],.cells 109 [pI b.g,pS b.j.a,pS b.j.F,pB b.j.G,pS b.x.r,pS b.x.Value,pS b.h.C,pS b.h.a,pB b.h.H,pB b.h.I],.cells 29 [pS i.q,pI i.g,pS i.a,pS i.y,pS i.E]]:=by
  intro s hs;have w:=Q _ hs;clear hs;try dsimp only at w|-
  refine W _ _ (dc fun aY Z aH=>?_);obtain⟨aI,R,w⟩:=zp w;have a0:∀s,aI s=some z->aY [(1,pS c),(2,lm zh f),(3,.ptr 0 0),(8,.ptr 1 0),(18,lm zh f),(19,pI (f.length:Int)),(20,pI (m:Int))] [.cells 33 [lm zd l.k],.cells 109 [pI b.g,pS b.j.a,pS b.j.F,pB b.j.G,pS b.x.r,pS b.x.Value,pS b.h.C,pS b.h.a,pB b.h.H,pB b.h.I]]:=by
   intro s hs;have w:=R _ hs;clear hs;try dsimp only at w|-
   refine Z _ _ ?_;obtain⟨aJ,a7,w⟩:=ze w;obtain⟨bb,a8,w⟩:=zs w;refine rS fun _ aK=>?_;refine cX (fun d=>qk b.g _ a7) ?_;refine cX (g:=((decide (aJ=0))&&(!(decide (b.j.a=([115,116,97,103,101]:eo)))))) (fun d=>Zd b.j.a _ (a8 d)) (aK _ _ ?_);refine cR w fun w=>?_;refine Wp.skip (aB _ _ _ _ ?_ (V () w));simp only[go_sem,simprocAttr,A];try exact uE
  clear Z R;refine q6 ?_;refine Wp.block ?_;obtain⟨bc,a9,w⟩:=zq w;refine fL 48 l.k.length fun ac=>?_;refine Wp.forL (fun N s=>[(1,pS c),(2,lm zh f),(3,.ptr 0 0),(8,.ptr 1 0),(10,.ptr 2 0),(18,lm zh f),(19,pI (f.length:Int)),(20,pI (m:Int)),(48,lm zd l.k),(49,pI (l.k.length:Int)),(50,pI (N:Int))]) (fun N s=>[.cells 33 [lm zd l.k],.cells 109 [pI b.g,pS b.j.a,pS b.j.F,pB b.j.G,pS b.x.r,pS b.x.Value,pS b.h.C,pS b.h.a,pB b.h.H,pB b.h.I],.cells 29 [pS i.q,pI i.g,pS i.a,pS i.y,pS i.E]]) ?_ w ?_
  .simp only[go_sem,simprocAttr,A];try exact uE
  clear w;intro N s aZ w;try dsimp only at w|-
  refine q6 ?_;refine dc fun _ aL _=>Wp.cond rfl ⟨⟩ (fun t=>?_) (fun t=>?_);rotate_left
  .refine Wp.exit ?_;have w:=a9 _ (jd w (tf (by first|exact t|simpa using t)));try dsimp only at w
   refine aH _ _ _ _ ?_ (a0 () w);simp only[go_sem,simprocAttr,A];try exact uE
  have u:=jz t;have aM:=iz u ac;obtain⟨c0,b5,v,b6,a1,w⟩:=jh w u;replace v:=v zd;refine Wp.skip ?_;simp only[zF];refine aL _ _ (dc fun _ aN _=>Wp.block ?_);have A:=And.intro p (And.intro n (And.intro aM v));refine q6 ?_;obtain⟨bd,ad,w⟩:=zs w;refine sX (g:=!decide (c0.q=c)) (fun d=>EU c0 i _ (ad d)) ?_;refine cR w fun w=>?_;refine Wp.skip (aN _ _ (r6 ?_));exact wN () u (a1 _ w)
 clear W Q;obtain⟨be,w⟩:=zi w;refine q6 ?_;refine Wp.block ?_;obtain⟨bf,af,w⟩:=zq w;refine fL 35 ((List.take m f).length) fun ag=>?_;refine Wp.forL (fun O s=>[(1,pS c),(2,lm zh f),(3,.ptr 0 0),(8,.ptr 1 0),(10,.ptr 2 0),(18,lm zh f),(19,pI (f.length:Int)),(20,pI (m:Int)),(35,lm zh (List.take m f)),(36,pI ((List.take m f).length:Int)),(37,pI (O:Int))]) (fun O s=>[.cells 33 [lm zd l.k],.cells 109 [pI b.g,pS b.j.a,pS b.j.F,pB b.j.G,pS b.x.r,pS b.x.Value,pS b.h.C,pS b.h.a,pB b.h.H,pB b.h.I],.cells 29 [pS i.q,pI i.g,pS i.a,pS i.y,pS i.E]]) ?_ w ?_
 .simp only[go_sem,simprocAttr,A];try exact uE
 clear w;intro O s b0 w;try dsimp only at w|-
 refine q6 ?_;refine dc fun _ aO _=>Wp.cond rfl ⟨⟩ (fun D=>?_) (fun D=>?_);rotate_left
 .refine Wp.exit ?_;have w:=af _ (jd w (tf (by first|exact D|simpa using D)));try dsimp only at w
  refine aF _ _ _ _ ?_ (Y () w);simp only[go_sem,simprocAttr,A];try exact uE
 have J:=jz D;have aP:=iz J ag;obtain⟨b1,b7,L,b8,a2,w⟩:=jh w J;replace L:=L zh;refine Wp.skip ?_;simp only[zF];refine aO _ _ (dc fun _ aQ _=>Wp.block ?_);have A:=And.intro p (And.intro n (And.intro aP L));refine q6 ?_;obtain⟨aR,an,w⟩:=ze w;obtain⟨bg,av,w⟩:=ze w;refine dS (pl [(0,none),(1,none),(2,none),(3,none),(4,none)]) fun _ aS=>?_;refine cD (fun d=>EN c b1 _ an) ?_;refine cD (fun d=>EU aR i _ av) (aS _ _ ?_);refine cR w fun w=>?_;refine Wp.skip (aQ _ _ (r6 ?_));exact wN () J (a2 _ w)
theorem LU(b:aa)(c:List ab)(f:List (eo×ae))(i:List (eo×eo))(k:List (eo×ah))(z:ak×Bool)(w:A9 b c f i k=some z):Does prog 77 [.ptr 0 0,.agg [pS b.q,pI b.g,pS b.a,pS b.y,pS b.E]] [.cells 163 [lm za c,.mp 1,.mp 2,.mp 3],.mp true (zz Dt.s zc f),.mp false (zz Dt.s eu i),.mp true (zz Dt.s zb k)] (fun r X=>r=.tup [.agg [pI z.1.g,pS z.1.j.a,pS z.1.j.F,pB z.1.j.G,pS z.1.x.r,pS z.1.x.Value,pS z.1.h.C,pS z.1.h.a,pB z.1.h.H,pB z.1.h.I],pB z.2]/\X=[.cells 163 [lm za c,.mp 1,.mp 2,.mp 3],.mp true (zz Dt.s zc f),.mp false (zz Dt.s eu i),.mp true (zz Dt.s zb k)]):=by
 unfold A9 at w;refine dW 4 58 [.cell 4 109,.tmp 5] func77 fun B=>nA fun A=>?_;refine qS ?_;refine qS ?_;refine qS ?_;refine dc fun _ u _=>?_;obtain⟨S,v,w⟩:=ze w;refine sX (fun d=>qk b.g _ v) ?_;refine Wp.block (qS ?_);refine cN w (fun w=>?_) fun w=>?_
 .obtain⟨P,D,w⟩:=il w;have l:=ju (e:=zc) eZ f b.a (ae.mk [] [] false);have m:=jv (e:=zc) eZ f b.a;simp only[D,zc,map_nil]at l m;have A:=And.intro l m;refine dE (pl [(0,none),(1,none),(2,none),(3,none),(4,none),(5,none),(6,none),(7,none),(8,none),(9,none),(10,none),(11,some [9]),(12,none)]) fun _ O=>O _ _ ?_;exact u _ _ (wQ)
 .refine qS ?_;refine cN w (fun w=>?_) fun w=>?_
  .refine qS ?_;obtain⟨Q,J,w⟩:=il w;have n:=ju (e:=eu) eZ i b.a [];have o:=jv (e:=eu) eZ i b.a;simp only[J,eu,map_nil]at n o;have A:=And.intro n o;refine dE (pl [(0,none),(1,none),(2,none),(3,none),(4,none),(5,none),(6,none),(7,none),(8,none),(9,none),(10,none),(11,none),(12,some [9]),(13,none)]) fun _ L=>L _ _ ?_;exact u _ _ (wQ)
  .obtain⟨R,M,w⟩:=il w;have p:=ju (e:=zb) eZ k b.a (ah.mk [] [] false false);have t:=jv (e:=zb) eZ k b.a;simp only[M,zb,map_nil]at p t;have A:=And.intro p t;refine dE (pl [(0,none),(1,none),(2,none),(3,none),(4,none),(5,none),(6,none),(7,none),(8,none),(9,none),(10,none),(11,some [9]),(12,none)]) fun _ N=>N _ _ ?_;exact u _ _ (wQ)
theorem U4(c:aa)(b:List ab)(f:List (eo×ae))(i:List (eo×eo))(j:List (eo×ah))(z:Int)(w:A8 c b f i j=some z):Does prog 39 [.ptr 0 0,.agg [pS c.q,pI c.g,pS c.a,pS c.y,pS c.E]] [.cells 163 [lm za b,.mp 1,.mp 2,.mp 3],.mp true (zz Dt.s zc f),.mp false (zz Dt.s eu i),.mp true (zz Dt.s zb j)] (fun r X=>r=pI z/\X=[.cells 163 [lm za b,.mp 1,.mp 2,.mp 3],.mp true (zz Dt.s zc f),.mp false (zz Dt.s eu i),.mp true (zz Dt.s zb j)]):=by
 unfold A8 at w;refine dW 4 22 [.tmp 4] func39 fun B=>nA fun A=>?_;refine qS ?_;obtain⟨m,k,w⟩:=ze w;refine sQ [0,1,2,3] (fun d=>LU c b f i j _ k) ?_;refine dc fun _ n _=>Wp.block (qS ?_);refine cR w fun w=>?_;obtain⟨p,l,w⟩:=ze w;refine dS (pl [(0,none),(1,none),(2,none),(3,none),(4,none),(5,none)]) fun _ o=>?_;refine cD (fun d=>AN m.1 _ l) (o _ _ ?_);refine cR w fun w=>?_;exact Wp.skip (n _ _ (wQ))
theorem zmI(c:aa)(b:aa)(z:Bool)(w:O0 c b=some z):Does prog 60 [.agg [pS c.q,pI c.g,pS c.a,pS c.y,pS c.E],.rp [.s b.q,.i .i64 b.g,.s b.a,.s b.y,.s b.E]] [] (fun r X=>r=pB z/\X=[]):=by
 unfold O0 at w;refine dW 0 7 [.tmp 3] func60 fun B=>nA fun A=>?_;refine qS ?_;obtain⟨j,f,w⟩:=ze w;refine sX (fun d=>EU c b _ f) ?_;exact wR
theorem zdg(c:List aa)(b:aa)(z:Int)(w:Vb c b=some z):Does prog 63 [lm zd c,.fn 60 [.rp [.s b.q,.i .i64 b.g,.s b.a,.s b.y,.s b.E]]] [] (fun r X=>r=pI z/\X=[]):=by
 unfold Vb at w;refine dW 0 19 [.tmp 4] func63 fun B=>nA fun A=>?_;refine qS ?_;refine dc fun d m u=>?_;obtain⟨v,f,w⟩:=zp w;have k:∀s,v s=some z->d [] []:=by
  intro s hs;have w:=f _ hs;clear hs;try dsimp only at w|-
  exact m _ _ (wQ)
 clear m f;refine qS ?_;refine Wp.block ?_;obtain⟨L,n,w⟩:=zq w;refine fL 0 c.length fun o=>?_;refine Wp.forL (fun j s=>[(0,lm zd c),(1,.fn 60 [.rp [.s b.q,.i .i64 b.g,.s b.a,.s b.y,.s b.E]]),(7,pI (c.length:Int)),(8,pI (j:Int))]) (fun j s=>[]) wF w ?_;clear w;intro j s F w;try dsimp only at w|-
 refine qS ?_;refine lB zd w o (fun h=>u _ _ _ _ wF (k () (n _ h))) fun p M C J G I l w A _ D=>?_;refine q6 ?_;obtain⟨N,t,w⟩:=ze w;refine sX (fun e=>zmI C b _ t) ?_;refine cR w fun w=>?_;refine Wp.skip (D _ _ (r6 ?_));exact wN () p (l _ w)
theorem zcF(c:List aa)(b:aa)(z:Bool)(w:zZ c b=some z):Does prog 48 [lm zd c,.fn 60 [.rp [.s b.q,.i .i64 b.g,.s b.a,.s b.y,.s b.E]]] [] (fun r X=>r=pB z/\X=[]):=by
 unfold zZ at w;refine dW 0 9 [.tmp 4] func48 fun B=>nA fun A=>?_;refine qS ?_;obtain⟨j,f,w⟩:=ze w;refine sX (fun d=>zdg c b _ f) ?_;exact wR
theorem zmG(b:ak)(c:aa)(z:Bool)(w:Ni b c=some z):Does prog 66 [.agg [pI b.g,pS b.j.a,pS b.j.F,pB b.j.G,pS b.x.r,pS b.x.Value,pS b.h.C,pS b.h.a,pB b.h.H,pB b.h.I],.rp [.s c.q,.i .i64 c.g,.s c.a,.s c.y,.s c.E]] [] (fun r X=>r=pB z/\X=[]):=by
 unfold Ni at w;refine dW 0 16 [.tmp 3] func66 fun B=>nA fun A=>?_;refine qS ?_;obtain⟨l,f,w⟩:=zs w;refine dS (pl [(0,none),(1,none),(2,none),(3,none),(4,none),(5,none),(6,none),(7,none),(8,none),(9,none),(10,none),(11,none),(12,none)]) fun _ k=>?_;refine cD (g:=decide (b.g=c.g)) (fun d=>Wj b _ (f d)) (k _ _ ?_);exact wR
theorem zc8(c:List ak)(b:aa)(z:Int)(w:Vi c b=some z):Does prog 114 [lm zh c,.fn 66 [.rp [.s b.q,.i .i64 b.g,.s b.a,.s b.y,.s b.E]]] [] (fun r X=>r=pI z/\X=[]):=by
 unfold Vi at w;refine dW 0 19 [.tmp 4] func114 fun B=>nA fun A=>?_;refine qS ?_;refine dc fun d m u=>?_;obtain⟨v,f,w⟩:=zp w;have k:∀s,v s=some z->d [] []:=by
  intro s hs;have w:=f _ hs;clear hs;try dsimp only at w|-
  exact m _ _ (wQ)
 clear m f;refine qS ?_;refine Wp.block ?_;obtain⟨L,n,w⟩:=zq w;refine fL 0 c.length fun o=>?_;refine Wp.forL (fun j s=>[(0,lm zh c),(1,.fn 66 [.rp [.s b.q,.i .i64 b.g,.s b.a,.s b.y,.s b.E]]),(7,pI (c.length:Int)),(8,pI (j:Int))]) (fun j s=>[]) wF w ?_;clear w;intro j s F w;try dsimp only at w|-
 refine qS ?_;refine lB zh w o (fun h=>u _ _ _ _ wF (k () (n _ h))) fun p M C J G I l w A _ D=>?_;refine q6 ?_;obtain⟨N,t,w⟩:=ze w;refine sX (fun e=>zmG C b _ t) ?_;refine cR w fun w=>?_;refine Wp.skip (D _ _ (r6 ?_));exact wN () p (l _ w)
theorem zcA(c:List ak)(b:aa)(z:Bool)(w:zU c b=some z):Does prog 65 [lm zh c,.fn 66 [.rp [.s b.q,.i .i64 b.g,.s b.a,.s b.y,.s b.E]]] [] (fun r X=>r=pB z/\X=[]):=by
 unfold zU at w;refine dW 0 9 [.tmp 4] func65 fun B=>nA fun A=>?_;refine qS ?_;obtain⟨j,f,w⟩:=ze w;refine sX (fun d=>zc8 c b _ f) ?_;exact wR
theorem zjl(c:aa)(b:aa)(z:Bool)(w:Pl c b=some z):Does prog 115 [.agg [pS c.q,pI c.g,pS c.a,pS c.y,pS c.E],.rp [.s b.q,.i .i64 b.g,.s b.a,.s b.y,.s b.E]] [] (fun r X=>r=pB z/\X=[]):=by
 unfold Pl at w;refine dW 0 14 [.tmp 3] func115 fun B=>nA fun A=>?_;refine qS ?_;obtain⟨j,f,w⟩:=zs w;refine sX (g:=!decide (c.q=b.q)) (fun d=>EU c b _ (f d)) ?_;exact wR
theorem zdf(c:List aa)(b:aa)(z:Int)(w:Vd c b=some z):Does prog 63 [lm zd c,.fn 115 [.rp [.s b.q,.i .i64 b.g,.s b.a,.s b.y,.s b.E]]] [] (fun r X=>r=pI z/\X=[]):=by
 unfold Vd at w;refine dW 0 19 [.tmp 4] func63 fun B=>nA fun A=>?_;refine qS ?_;refine dc fun d m u=>?_;obtain⟨v,f,w⟩:=zp w;have k:∀s,v s=some z->d [] []:=by
  intro s hs;have w:=f _ hs;clear hs;try dsimp only at w|-
  exact m _ _ (wQ)
 clear m f;refine qS ?_;refine Wp.block ?_;obtain⟨L,n,w⟩:=zq w;refine fL 0 c.length fun o=>?_;refine Wp.forL (fun j s=>[(0,lm zd c),(1,.fn 115 [.rp [.s b.q,.i .i64 b.g,.s b.a,.s b.y,.s b.E]]),(7,pI (c.length:Int)),(8,pI (j:Int))]) (fun j s=>[]) wF w ?_;clear w;intro j s F w;try dsimp only at w|-
 refine qS ?_;refine lB zd w o (fun h=>u _ _ _ _ wF (k () (n _ h))) fun p M C J G I l w A _ D=>?_;refine q6 ?_;obtain⟨N,t,w⟩:=ze w;refine sX (fun e=>zjl C b _ t) ?_;refine cR w fun w=>?_;refine Wp.skip (D _ _ (r6 ?_));exact wN () p (l _ w)
theorem zcE(c:List aa)(b:aa)(z:Bool)(w:zY c b=some z):Does prog 48 [lm zd c,.fn 115 [.rp [.s b.q,.i .i64 b.g,.s b.a,.s b.y,.s b.E]]] [] (fun r X=>r=pB z/\X=[]):=by
 unfold zY at w;refine dW 0 9 [.tmp 4] func48 fun B=>nA fun A=>?_;refine qS ?_;obtain⟨j,f,w⟩:=ze w;refine sX (fun d=>zdf c b _ f) ?_;exact wR
end Go.Proofs.YteofmaagnphonaaGreatDoor
