/- That the code does what the models say (part 8). -/
import Derived.Test.YtpcihjdidhpbbaaGreatDoorKpWk0
import Derived.Test.YtpcihjdidhpbbaaGreatDoorKpWk1
import Derived.Test.YtpcihjdidhpbbaaGreatDoorKpWk3
import Derived.Test.YtpcihjdidhpbbaaGreatDoorKpWk5
import Derived.Test.YtpcihjdidhpbbaaGreatDoorKpWk7
set_option linter.unusedSimpArgs false
set_option linter.unusedVariables false
open Go.Proofs Go.Shelf
open List
namespace Go.Proofs.YtpcihjdidhpbbaaGreatDoor
open Tryz
open Go.Vc Go.Md
set_option maxRecDepth 100000
set_option maxHeartbeats 4000000
theorem TD(b:ev)(z:Bool)(w:HQ b=some z):Does prog 165 [pS b] [] (fun r X=>r=pB z/\X=[]):=by
 unfold HQ at w;refine dW 0 15 [.tmp 2] func165 fun B=>nA fun A=>?_;refine qS ?_;refine qS ?_;obtain⟨f,c,w⟩:=zd w;refine sX (fun a=>TQ b 40 _ c) ?_;exact wR
theorem TC(b:ev)(z:Bool)(w:HP b=some z):Does prog 135 [pS b] [] (fun r X=>r=pB z/\X=[]):=by
 unfold HP at w;refine dW 0 19 [.tmp 2] func135 fun B=>nA fun A=>?_;refine qS ?_;refine da fun a k t=>?_;obtain⟨u,c,w⟩:=zo w;have i:∀s,u s=some z->a [(0,pS b)] []:=by
  intro s hs;have w:=c _ hs;clear hs;try dsimp only at w|-
  exact k _ _ (wQ)
 clear k c;obtain⟨f,l,w⟩:=zd w;refine sF (PZ b ([47]:ev) _ l) ?_;refine Wp.block ?_;obtain⟨I,m,w⟩:=zq w;refine fL 6 f.length fun n=>?_;refine Wp.forL (fun g s=>[(0,pS b),(6,lm ex f),(7,pI (f.length:Int)),(8,pI (g:Int))]) (fun g s=>[]) wF w ?_;clear w;intro g s D w;try dsimp only at w|-
 refine qS ?_;refine lB ex w n (fun h=>t _ _ _ _ wF (i () (m _ h))) fun o J v G E F j w A _ C=>?_;refine q6 ?_;obtain⟨L,p,w⟩:=zd w;refine sX (fun d=>TD v _ p) ?_;refine cR w fun w=>?_;refine Wp.skip (C _ _ (r6 ?_));exact wN () o (j _ w)
theorem TA(b:ev)(z:Bool)(w:HZ b=some z):Does prog 136 [pS b] [] (fun r X=>r=pB z/\X=[]):=by
 unfold HZ at w;refine dW 0 36 [.tmp 2] func136 fun B=>nA fun A=>?_;refine qS ?_;refine da fun a n t=>?_;obtain⟨u,f,w⟩:=zo w;have j:∀s,u s=some z->a [(0,pS b)] []:=by
  intro s hs;have w:=f _ hs;clear hs;try dsimp only at w|-
  exact n _ _ (wQ)
 clear n f;refine qS ?_;refine Wp.block ?_;obtain⟨G,o,w⟩:=zq w;refine fL 0 b.length fun p=>?_;refine Wp.forL (fun g s=>[(0,pS b),(3,pI (g:Int))]) (fun g s=>[]) wF w ?_;clear w;intro g s E w;try dsimp only at w|-
 refine da fun _ v _=>qS ?_;refine Wp.cond rfl ⟨⟩ (fun i=>?_) fun i=>Wp.exit (t _ _ _ _ wF (j () (o _ (jg w (tn i)))));have c:=j7 i;have C:=iL c p;obtain⟨I,F,k,l,m,w⟩:=jj w c;clear k;refine Wp.skip ?_;simp only[zz];refine v _ _ (da fun _ D _=>Wp.block ?_);have A:=And.intro C l;refine q6 ?_;refine cR w fun w=>?_;refine Wp.skip (D _ _ (r6 ?_));exact wN () c (m _ w)
theorem Ss(b:ev)(z:ev)(w:Gj b=some z):Does prog 137 [pS b] [] (fun r X=>r=pS z/\X=[]):=by
 unfold Gj at w;refine dW 0 39 [.tmp 2] func137 fun B=>nA fun A=>?_;refine qS ?_;refine qS ?_;refine da fun a G R=>?_;obtain⟨S,l,w⟩:=zo w;have u:∀s,S s=some z->a [(3,.p (.i .u64 s))] []:=by
  intro I hs;have w:=l _ hs;clear hs;try dsimp only at w|-
  refine G _ _ (qS ?_);refine da fun d J T=>?_;obtain⟨U,m,w⟩:=zo w;have v:∀s,U s=some z->d [(5,.buf 0)] [.buf 5 1 (List.map eU s)]:=by
   intro Y hs;have w:=m _ hs;clear hs;try dsimp only at w|-
   exact J _ _ (wQ)
  clear J m;refine qS ?_;refine Wp.block ?_;obtain⟨e,M,w⟩:=ii w;refine Wp.loopN (fun s=>[(3,.p (.i .u64 I)),(5,.buf 0),(22,pI ((List.replicate 16 0).length:Int)),(23,pI s.1)]) (fun s=>[.buf 5 1 (List.map eU s.2)]) ?_ w ?_
  .exact fc
  clear w;intro s Z w;obtain⟨c,k⟩:=s;try dsimp only at w|-
  refine qS ?_;refine da fun _ V _=>cN w (fun w=>?_) fun w=>?_
  .refine Wp.skip (V _ _ (da fun _ N _=>Wp.block (qS ?_)));obtain⟨h,w⟩:=zh w;obtain⟨L,q,f,w⟩:=mK w;replace f:((([48,49,50,51,52,53,54,55,56,57,97,98,99,100,101,102]:ev).getD ((fl .and .u64 (Int.fdiv I (2^(fA .u64 (IntKind.i64.wrap (60-(IntKind.i64.wrap (4*c))))))) 15).toNat) 0).toNat:Int)=L:=f;obtain⟨H,w⟩:=zh w;have A:=f;refine r6 ?_;refine N _ _ (r6 ?_);simp only[zz,zw,↓reduceIte];refine⟨(IntKind.i64.wrap (c+1),List.set k c.toNat L),w,?_⟩;simp only[go_sem,simprocAttr,A];try exact eY
  .refine Wp.exit ?_;simp only[zz,zw,↓reduceIte];have w:=M _ w;try dsimp only at w
   refine T _ _ _ _ ?_ (v k w);exact fc
 clear G l;refine qS ?_;refine Wp.block ?_;obtain⟨x,C,w⟩:=zq w;refine fL 0 b.length fun D=>?_;refine Wp.forL (fun n s=>[(0,pS b),(3,.p (.i .u64 s)),(4,pI (n:Int))]) (fun n s=>[]) wF w ?_;clear w;intro n o y w;try dsimp only at w|-
 refine da fun _ O _=>qS ?_;refine Wp.cond rfl ⟨⟩ (fun j=>?_) fun j=>Wp.exit (R _ _ _ _ wF (u o (C _ (jg w (tn j)))));have g:=j7 j;have P:=iL g D;obtain⟨W,K,E,F,t,w⟩:=jj w g;clear E;refine Wp.skip ?_;simp only[zz];refine O _ _ (da fun _ Q _=>Wp.block ?_);have A:=And.intro P F;refine r6 ?_;refine Q _ _ (r6 ?_);exact wN (IntKind.u64.wrap ((fl .xor .u64 o (IntKind.u64.wrap (W.toNat:Int)))*1099511628211)) g (t _ w)
theorem UA(b:aa)(z:Int)(w:Iz b=some z):Does prog 95 [.agg [pS b.r,pI b.g,pS b.a,pS b.y,pS b.A]] [] (fun r X=>r=pI z/\X=[]):=by
 unfold Iz at w;refine dW 0 71 [.tmp 2] func95 fun B=>nA fun A=>?_;refine qS ?_;refine da fun _ p _=>Wp.block ?_;obtain⟨C,c,w⟩:=zd w;refine sX (fun d=>PN b.r _ c) ?_;refine cR w fun w=>?_;obtain⟨D,f,w⟩:=zd w;refine sX (fun d=>TN b.g _ f) ?_;refine cR w fun w=>?_;obtain⟨t,i,w⟩:=zx w;obtain⟨E,j,w⟩:=zx w;refine rS fun _ k=>?_;refine cX (g:=decide (b.g=6)) (fun d=>PN b.a _ (i d)) ?_;refine cX (g:=((!((decide (b.g=6))&&(!t)))&&(!decide (b.g=6)))) (fun d=>TC b.a _ (j d)) (k _ _ ?_);refine cR w fun w=>?_;obtain⟨F,l,w⟩:=zd w;refine sX (fun d=>TA b.y _ l) ?_;refine cR w fun w=>?_;obtain⟨G,w⟩:=zh w;obtain⟨u,m,w⟩:=zx w;obtain⟨v,w⟩:=zh w;obtain⟨I,n,w⟩:=zx w;refine dS (pl [(0,none),(1,none),(2,none),(3,none),(4,none),(5,none),(6,none),(7,none),(8,none),(9,none),(10,none),(11,none),(12,none),(13,none),(14,none),(15,none),(16,none),(17,none),(18,none),(19,none),(20,none),(21,none)]) fun _ o=>?_;refine cD (g:=decide (b.g=3)) (fun d=>Ss (([114]:ev)++b.A) _ (m d)) ?_;refine cD (g:=((decide (b.g=3))&&(!decide (b.y=u)))) (fun d=>Ss (([45]:ev)++b.A) _ (n d)) (o _ _ ?_);refine cR w fun w=>?_;exact Wp.skip (p _ _ (wQ))
theorem T6(b:Int)(z:Int)(w:Ib b=some z):Does prog 138 [pI b] [] (fun r X=>r=pI z/\X=[]):=by
 unfold Ib at w;refine dW 0 8 [.tmp 2] func138 fun B=>nA fun A=>?_;refine qS ?_;refine da fun _ c _=>qS ?_;refine Wp.block (qS ?_);refine cR w fun w=>?_;refine qS ?_;refine cR w fun w=>?_;exact Wp.skip (c _ _ (wQ))
theorem NL(b:aa)(z:aq)(w:B0 b=some z):Does prog 97 [.agg [pS b.r,pI b.g,pS b.a,pS b.y,pS b.A]] [] (fun r X=>r=.agg [pI z.Q,pS z.P]/\X=[]):=by
 unfold B0 at w;refine dW 0 9 [.cell 2 153] func97 fun B=>nA fun A=>?_;refine qS ?_;obtain⟨i,c,w⟩:=zd w;refine dS (pl [(0,none),(1,none),(2,none),(3,none),(4,none),(5,none),(6,some [])]) fun _ f=>?_;refine cD (fun d=>T6 b.g _ c) (f _ _ ?_);exact wR
theorem UM(b:aa)(c:aa)(z:Int)(w:GM b c=some z):Does prog 96 [.agg [pS b.r,pI b.g,pS b.a,pS b.y,pS b.A],.agg [pS c.r,pI c.g,pS c.a,pS c.y,pS c.A]] [] (fun r X=>r=pI z/\X=[]):=by
 unfold GM at w;refine dW 0 35 [.tmp 4] func96 fun B=>nA fun A=>?_;refine qS ?_;refine da fun _ v _=>?_;obtain⟨l,m,w⟩:=zd w;refine sX (fun d=>IU b.r c.r _ m) ?_;refine qS ?_;refine cR w fun w=>?_;refine Wp.skip (v _ _ ?_);obtain⟨i,n,w⟩:=zd w;obtain⟨j,p,w⟩:=zd w;refine dv (plan:=(.rd 0 (.rd 1 (.rd 2 (.rd 3 (.fk 4 [0,1,2,3] (.ef 5 [0,1,2,3] (.ef 6 [] (.ef 7 [] .nil))) 5 [0,1,2,3] (.ef 4 [0,1,2,3] (.ef 6 [] (.ef 7 [] .nil))))))))) (by kernel_rfl) rfl (by kernel_rfl) fun e C k=>?_;suffices f:e [(0,.agg [pS b.r,pI b.g,pS b.a,pS b.y,pS b.A]),(1,.agg [pS c.r,pI c.g,pS c.a,pS c.y,pS c.A]),(2,.ptr 0 0),(3,.ptr 1 0),(4,pI 0),(5,pI l),(6,.ptr 2 0),(7,.ptr 3 0),(8,.ptr 0 0),(9,pS b.r),(10,.ptr 1 0),(11,pS c.r),(12,pI l),(13,pI l),(14,pB (!decide (l=0))),(16,.agg [pS b.r,pI b.g,pS b.a,pS b.y,pS b.A]),(17,.agg [pI i.Q,pS i.P]),(18,.agg [pS c.r,pI c.g,pS c.a,pS c.y,pS c.A]),(19,.agg [pI j.Q,pS j.P])] [.cells 84 [pS b.r,pI b.g,pS b.a,pS b.y,pS b.A],.cells 84 [pS c.r,pI c.g,pS c.a,pS c.y,pS c.A],.cells 153 [pI i.Q,pS i.P],.cells 153 [pI j.Q,pS j.P]]by
  simp only[go_sem,simprocAttr];try refine⟨sd,?_⟩
  refine Dr.callF (av:=?av9) (g:=true) (o:=?o9) (fun d=>NL b _ n) si si si si sg si ?cont9;simp only[go_sem,simprocAttr];try refine⟨sd,?_⟩
  refine Dr.callF (av:=?av10) (g:=true) (o:=?o10) (fun d=>NL c _ p) si si si si sg si ?cont10;simp only[go_sem,simprocAttr];try refine⟨sd,?_⟩
  refine Dr.fk ?_ ?_
  ·
   refine Br.run (o:=?o11) si si ?cont11;simp only[go_sem,simprocAttr];first|refine k.weak _ _ _ _ ?_ f|refine⟨sd,k.weak _ _ _ _ ?_ f⟩
   exact fV
  ·
   refine Br.run (o:=?o12) si si ?cont12;simp only[go_sem,simprocAttr];first|refine k.swap 2 3 _ _ (by exact Nat.le_of_ble_eq_true rfl) (by exact Nat.le_of_ble_eq_true rfl) (by exact Nat.le_of_ble_eq_true rfl) (by exact Nat.le_of_ble_eq_true rfl) ?_|refine⟨sd,k.swap 2 3 _ _ (by exact Nat.le_of_ble_eq_true rfl) (by exact Nat.le_of_ble_eq_true rfl) (by exact Nat.le_of_ble_eq_true rfl) (by exact Nat.le_of_ble_eq_true rfl) ?_⟩
   simp only[go_sem,simprocAttr];refine k.weak _ _ _ _ ?_ f;exact fV
 refine C _ _ (da fun _ t _=>qS ?_);refine cR w fun w=>?_;refine Wp.skip (t _ _ ?_);obtain⟨D,u,w⟩:=zd w;refine sX (fun d=>IU i.P j.P _ u) ?_;exact wR
theorem TB(b:aa)(c:aa)(z:Bool)(w:Nh b c=some z):Does prog 98 [.agg [pS b.r,pI b.g,pS b.a,pS b.y,pS b.A],.agg [pS c.r,pI c.g,pS c.a,pS c.y,pS c.A]] [] (fun r X=>r=pB z/\X=[]):=by
 unfold Nh at w;refine dW 0 20 [.tmp 4] func98 fun B=>nA fun A=>?_;refine qS ?_;exact wQ
theorem Su(b:aj)(z:Int)(w:Gl b=some z):Does prog 28 [.agg [lm zc b.q]] [] (fun r X=>r=pI z/\X=[]):=by
 unfold Gl at w;refine dW 0 69 [.tmp 2] func28 fun B=>nA fun A=>?_;refine qS ?_;refine da fun _ K _=>qS ?_;refine cR w fun w=>?_;refine Wp.skip (K _ _ (da fun K6 Z ad=>?_));obtain⟨af,t,w⟩:=zo w;have J:∀s,af s=some z->K6 [(1,.ptr 0 0)] [.cells 24 [lm zc b.q]]:=by
  intro s hs;have w:=t _ hs;clear hs;try dsimp only at w|-
  refine Z _ _ (qS ?_);refine da fun K8 x ag=>?_;obtain⟨an,u,w⟩:=zo w;have L:∀s,an s=some z->K8 [] []:=by
   intro s hs;have w:=u _ hs;clear hs;try dsimp only at w|-
   exact x _ _ (wQ)
  clear x u;refine qS ?_;refine Wp.block ?_;obtain⟨aC,M,w⟩:=zq w;refine fL 44 b.q.length fun N=>?_;refine Wp.forL (fun v s=>[(6,.mp 1),(44,lm zc b.q),(45,pI (b.q.length:Int)),(46,pI (v:Int))]) (fun v s=>[.cells 24 [lm zc b.q],.mp true (zH Da zc s)]) wF w ?_;clear w;intro v f av w;try dsimp only at w|-
  refine qS ?_;refine lB zc w N (fun h=>ag _ _ _ _ wF (L () (M _ h))) fun O C j aw k ay D w A _ a2=>?_;refine q6 ?_;refine da fun _ a3 _=>?_;obtain⟨E,P,w⟩:=zd w;obtain⟨F,a4,w⟩:=jK w;have m:=pC (e:=zc) PS f E (aa.mk [] 0 [] [] []);have n:=pD (e:=zc) PS f E;simp only[Da,uR,a4,zc,map_nil]at m n;have A:=And.intro C (And.intro k (And.intro m n));refine sX (fun a0=>NL j _ P) ?_;obtain⟨aD,Q,w⟩:=zx w;refine sX (g:=F.isSome) (fun a0=>TB (F.getD (aa.mk [] 0 [] [] [])) j _ (Q a0)) ?_;refine cR w fun w=>?_;refine Wp.skip (a3 _ _ ?_);obtain⟨G,R,w⟩:=zd w;obtain⟨aE,w⟩:=zh w;have o:=x8 (e:=zc) PS f G j;simp only[Da,uR,zc,map_nil]at o;have A:=And.intro C (And.intro k o);refine dE (pl [(0,none),(1,none),(2,none),(3,none),(4,some [])]) fun _ a5=>?_;refine cD (fun a0=>NL j _ R) (a5 _ _ ?_);refine a2 _ _ (r6 ?_);exact wN (eM f G j) O (D _ w)
 clear Z t;refine qS ?_;refine Wp.block ?_;obtain⟨aF,S,w⟩:=zq w;refine fL 16 b.q.length fun T=>?_;refine Wp.forL (fun c s=>[(1,.ptr 0 0),(16,lm zc b.q),(17,pI (b.q.length:Int)),(18,pI (c:Int))]) (fun c s=>[.cells 24 [lm zc b.q]]) wF w ?_;clear w;intro c s az w;try dsimp only at w|-
 refine qS ?_;refine lB zc w T (fun h=>ad _ _ _ _ wF (J () (S _ h))) fun U a6 H aA V aB I w A _ a7=>?_;refine q6 ?_;refine da fun _ a8 _=>?_;obtain⟨aG,W,w⟩:=zd w;refine sX (fun a0=>UA H _ W) ?_;refine q6 ?_;refine cR w fun w=>?_;refine Wp.skip (a8 _ _ ?_);obtain⟨aH,w⟩:=zh w;obtain⟨aI,Y,w⟩:=zx w;have p:=MH (l:=b.q) (e:=zc) (d:=(aa.mk [] 0 [] [] [])) (i:=(IntKind.i64.wrap ((c:Int)-1)).toNat);simp only[zc,map_nil]at p;have A:=And.intro a6 (And.intro V p);refine dS (pl [(0,none),(1,none),(2,none),(3,none),(4,none),(5,none),(6,none),(7,none),(8,none),(9,none),(10,none),(11,none),(12,none)]) fun _ a9=>?_;refine cD (g:=decide (0<(c:Int))) (fun a0=>UM (aa.mk ((b.q.getD ((IntKind.i64.wrap ((c:Int)-1)).toNat) (aa.mk [] 0 [] [] [])).r) ((b.q.getD ((IntKind.i64.wrap ((c:Int)-1)).toNat) (aa.mk [] 0 [] [] [])).g) ((b.q.getD ((IntKind.i64.wrap ((c:Int)-1)).toNat) (aa.mk [] 0 [] [] [])).a) ((b.q.getD ((IntKind.i64.wrap ((c:Int)-1)).toNat) (aa.mk [] 0 [] [] [])).y) ((b.q.getD ((IntKind.i64.wrap ((c:Int)-1)).toNat) (aa.mk [] 0 [] [] [])).A)) H _ (Y a0)) (a9 _ _ ?_);refine cR w fun w=>?_;refine Wp.skip (a7 _ _ (r6 ?_));exact wN () U (I _ w)
theorem P9(z:List ev)(w:IA=some z):Does prog 29 [] [] (fun r X=>r=lm ex z/\X=[]):=by
 unfold IA at w;refine dW 0 2 [.tmp 0] func29 fun B=>nA fun A=>?_;refine qS ?_;refine qS ?_;refine Wp.ret ?_;refine z2 ?_;cases w;exact fV
theorem Ty(j:ev)(z:ev)(w:HW j=some z):Does prog 30 [pS j] [] (fun r X=>r=pS z/\X=[]):=by
 unfold HW at w;refine dW 0 63 [.tmp 2] func30 fun B=>nA fun A=>?_;refine qS ?_;obtain⟨R,w⟩:=zh w;refine q6 ?_;obtain⟨S,w⟩:=zh w;refine q6 ?_;refine da fun a C J=>?_;obtain⟨L,n,w⟩:=zo w;have t:∀s,L s=some z->a [(3,.buf 0)] [.buf 5 1 (List.map eU s)]:=by
  intro N hs;have w:=n _ hs;clear hs;try dsimp only at w|-
  refine C _ _ ?_;obtain⟨T,w⟩:=zh w;exact wQ
 clear C n;refine qS ?_;refine Wp.block ?_;obtain⟨d,G,w⟩:=zq w;refine fL 0 j.length fun u=>?_;refine Wp.forL (fun o s=>[(0,pS j),(3,.buf 0),(4,pI (o:Int))]) (fun o s=>[.buf 5 1 (List.map eU s)]) wF w ?_;clear w;intro o f O w;try dsimp only at w|-
 refine da fun _ M _=>qS ?_;refine Wp.cond rfl ⟨⟩ (fun p=>?_) fun p=>Wp.exit (J _ _ _ _ wF (t f (G _ (jg w (tn p)))));have b:=j7 p;have D:=iL b u;obtain⟨k,U,v,l,c,w⟩:=jj w b;clear v;refine Wp.skip ?_;simp only[zz];refine M _ _ (da fun _ m _=>Wp.block ?_);have A:=And.intro D l;refine q6 ?_;refine Wp.block (q6 ?_);refine cN w (fun w=>?_) fun w=>?_
 .obtain⟨V,w⟩:=zh w;refine r6 ?_;refine m _ _ (r6 ?_);exact wN (f++[92,(k.toNat:Int)]) b (c _ w)
 .refine q6 ?_;refine cN w (fun w=>?_) fun w=>?_
  .obtain⟨W,w⟩:=zh w;refine r6 ?_;refine m _ _ (r6 ?_);exact wN (f++[92,110]) b (c _ w)
  .refine q6 ?_;refine cN w (fun w=>?_) fun w=>?_
   .obtain⟨E,P,g,w⟩:=mK w;replace g:((([48,49,50,51,52,53,54,55,56,57,97,98,99,100,101,102]:ev).getD ((Int.fdiv (k.toNat:Int) (2^(fA .u8 4))).toNat) 0).toNat:Int)=E:=g;obtain⟨F,Q,i,w⟩:=mK w;replace i:((([48,49,50,51,52,53,54,55,56,57,97,98,99,100,101,102]:ev).getD ((fl .and .u8 (k.toNat:Int) 15).toNat) 0).toNat:Int)=F:=i;obtain⟨Y,w⟩:=zh w;have A:=And.intro D (And.intro l (And.intro g i));refine dE (pl [(0,none),(1,none),(2,none),(3,none),(4,none),(5,none),(6,none),(7,some [0]),(8,some []),(9,none)]) fun _ I=>I _ _ ?_;refine m _ _ (r6 ?_);exact wN (f++[92,120,E,F]) b (c _ w)
   .obtain⟨Z,w⟩:=zh w;refine r6 ?_;refine m _ _ (r6 ?_);exact wN (f++[(k.toNat:Int)]) b (c _ w)
theorem Tz(c:aj)(z:ev×Int)(w:CQ c=some z):Does prog 7 [.agg [lm zc c.q]] [] (fun r X=>r=.tup [pS z.1,pI z.2]/\X=[]):=by
 unfold CQ at w;refine dW 0 50 [.tmp 2,.tmp 3] func7 fun B=>nA fun A=>?_;refine qS ?_;refine da fun _ a1 _=>?_;obtain⟨ad,v,w⟩:=zd w;refine sX (fun e=>Su c _ v) ?_;refine qS ?_;refine cR w fun w=>?_;refine Wp.skip (a1 _ _ (qS ?_));refine dz 1 5 rfl ?_;simp only[go_sem,simprocAttr];refine da fun x O H=>?_;obtain⟨K,m,w⟩:=zo w;have C:∀s,K s=some z->x [(5,.ptr 1 0)] [.cells 24 [.top],.cells 82 [.np 1,.buf 2],.sb 5 s]:=by
  intro j hs;have w:=m _ hs;clear hs;try dsimp only at w|-
  refine O _ _ (da fun _ P _=>?_);obtain⟨af,D,w⟩:=zd w;refine sO [1,2] (NS j _ D) ?_;refine cR w fun w=>?_;refine Wp.skip (P _ _ ?_);obtain⟨ag,E,w⟩:=zd w;refine sO [1,2] (I1 j _ E) ?_;exact wR
 clear O m;refine qS ?_;refine Wp.block ?_;obtain⟨an,F,w⟩:=zq w;refine fL 15 c.q.length fun G=>?_;refine Wp.forL (fun n s=>[(5,.ptr 1 0),(15,lm zc c.q),(16,pI (c.q.length:Int)),(17,pI (n:Int))]) (fun n s=>[.cells 24 [lm zc c.q],.cells 82 [.np 1,.buf 2],.sb 5 s]) wF w ?_;clear w;intro n i a6 w;try dsimp only at w|-
 refine qS ?_;refine lB zc w G (fun h=>H _ _ _ _ wF (C i (F _ h))) fun k Q b aw I a7 l w A _ p=>?_;refine q6 ?_;obtain⟨a4,R,w⟩:=zd w;obtain⟨t,a8,f,a9,w⟩:=gk w;replace f:∀d,(List.map ex a4).getD b.g.toNat d=ex t:=f ex;have A:=And.intro Q (And.intro I f);refine dl (plan:=pl [(0,none),(1,none),(3,none),(4,none),(7,none),(8,none),(9,none),(10,none),(2,some [0,1,3,4,7,8,9,10]),(5,none),(6,none),(11,some []),(12,none)]) (by kernel_rfl) rfl (by kernel_rfl) fun aB S=>?_;simp only[go_sem,simprocAttr,A];try refine⟨sd,?_⟩
 refine dc (Br.callR (av:=?av23) (g:=true) (o:=?o23) [] (fun e=>P9  _ R) (by simp only[go_sem,simprocAttr,A];exact Is.mk) (by simp only[go_sem,simprocAttr,A];exact Is.mk) (by simp only[go_sem,simprocAttr,A];exact Is.mk) (by simp only[go_sem,simprocAttr,A];exact Is.mk) (by simp only[go_sem,simprocAttr,A];exact Is.mk) (by simp only[go_sem,simprocAttr,A]) (by simp only[go_sem,simprocAttr,A]) (by simp only[go_sem,simprocAttr,A]) ?hag23 ?cont23);case hag23=>first|(simp only[go_sem,simprocAttr,A];done)|(simp only[go_sem,simprocAttr,A];exact sd)
 simp only[go_sem,simprocAttr,A];refine kA S ?_;refine da fun _ u _=>q6 ?_;refine cN w (fun w=>?_) fun w=>?_
 .obtain⟨a5,T,w⟩:=zd w;obtain⟨ay,w⟩:=zh w;refine eX (fun e=>Ty b.A _ T) ?_;refine u _ _ ?_;obtain⟨U,J,w⟩:=zd w;obtain⟨az,w⟩:=zh w;obtain⟨V,L,w⟩:=zd w;refine rE fun _ W=>?_;refine cX (fun e=>IM ([b.r,t,b.a,b.y]++[a5]) ([32]:ev) _ J) ?_;refine cO [1,2] (zF (U++([10]:ev)) i _ L) (W _ _ ?_);refine p _ _ (r6 ?_);exact wN V.2 k (l _ w)
 .refine Wp.skip (u _ _ ?_);obtain⟨Y,M,w⟩:=zd w;obtain⟨aA,w⟩:=zh w;obtain⟨Z,N,w⟩:=zd w;refine rE fun _ a0=>?_;refine cX (fun e=>IM [b.r,t,b.a,b.y] ([32]:ev) _ M) ?_;refine cO [1,2] (zF (Y++([10]:ev)) i _ N) (a0 _ _ ?_);refine p _ _ (r6 ?_);exact wN Z.2 k (l _ w)
theorem PV(z:List ev)(w:Gp=some z):Does prog 42 [] [] (fun r X=>r=lm ex z/\X=[]):=by
 unfold Gp at w;refine dW 0 2 [.tmp 0] func42 fun B=>nA fun A=>?_;refine qS ?_;refine qS ?_;refine Wp.ret ?_;refine z2 ?_;cases w;exact fV
theorem Rz(g:ev)(z:ev)(w:FV g=some z):Does prog 43 [pS g] [] (fun r X=>r=pS z/\X=[]):=by
 unfold FV at w;refine dW 0 67 [.tmp 2] func43 fun B=>nA fun A=>?_;refine qS ?_;refine qS ?_;refine da fun a n u=>?_;obtain⟨v,l,w⟩:=zo w;have m:∀s,v s=some z->a [(3,pS s)] []:=by
  intro C hs;have w:=l _ hs;clear hs;try dsimp only at w|-
  refine n _ _ ?_;obtain⟨F,w⟩:=zh w;exact wQ
 clear n l;refine qS ?_;refine Wp.block ?_;obtain⟨U,o,w⟩:=zq w;refine fL 0 g.length fun p=>?_;refine Wp.forL (fun b s=>[(0,pS g),(3,pS s),(7,pI (g.length:Int)),(8,pI (b:Int))]) (fun b s=>[]) wF w ?_;clear w;intro b c D w;try dsimp only at w|-
 refine qS ?_;refine lS w p (fun h=>u _ _ _ _ wF (m c (o _ h))) fun j V i G E f w A _ k=>?_;refine q6 ?_;refine q6 ?_;refine Wp.block (q6 ?_);refine cN w (fun w=>?_) fun w=>?_
 .obtain⟨I,w⟩:=zh w;obtain⟨J,w⟩:=zh w;obtain⟨L,w⟩:=zh w;refine r6 ?_;refine k _ _ (r6 ?_);exact wN (c++(([92]:ev)++(List.take ((IntKind.i64.wrap ((b:Int)+1)).toNat-b) (List.drop b g)))) j (f _ w)
 .refine q6 ?_;refine cN w (fun w=>?_) fun w=>?_
  .obtain⟨M,w⟩:=zh w;refine r6 ?_;refine k _ _ (r6 ?_);exact wN (c++([92,110]:ev)) j (f _ w)
  .refine q6 ?_;refine cN w (fun w=>?_) fun w=>?_
   .obtain⟨N,w⟩:=zh w;obtain⟨O,w⟩:=zh w;obtain⟨P,w⟩:=zh w;obtain⟨Q,w⟩:=zh w;obtain⟨R,w⟩:=zh w;refine dE (pl [(0,none),(1,none),(2,none),(3,none),(4,none),(5,none),(6,none),(7,none),(8,none),(9,none),(10,none),(11,none),(12,none),(13,none),(14,none),(15,none),(16,none)]) fun _ t=>t _ _ ?_;refine k _ _ (r6 ?_);exact wN (c++((([92,120]:ev)++(List.take ((IntKind.u8.wrap ((Int.fdiv (i.toNat:Int) (2^(fA .u8 4)))+1)).toNat-(Int.fdiv (i.toNat:Int) (2^(fA .u8 4))).toNat) (List.drop ((Int.fdiv (i.toNat:Int) (2^(fA .u8 4))).toNat) ([48,49,50,51,52,53,54,55,56,57,97,98,99,100,101,102]:ev))))++(List.take ((IntKind.u8.wrap ((fl .and .u8 (i.toNat:Int) 15)+1)).toNat-(fl .and .u8 (i.toNat:Int) 15).toNat) (List.drop ((fl .and .u8 (i.toNat:Int) 15).toNat) ([48,49,50,51,52,53,54,55,56,57,97,98,99,100,101,102]:ev))))) j (f _ w)
   .obtain⟨S,w⟩:=zh w;obtain⟨T,w⟩:=zh w;refine r6 ?_;refine k _ _ (r6 ?_);exact wN (c++(List.take ((IntKind.i64.wrap ((b:Int)+1)).toNat-b) (List.drop b g))) j (f _ w)
theorem U9(c:Int)(b:ev)(z:ev)(w:I2 c b=some z):Does prog 44 [.ptr 0 0,.p (.i .u8 c)] [.cells 82 [.np 0,.buf 1],.sb 5 b] (fun r X=>r=.raw .nilIface/\X=[.cells 82 [.np 0,.buf 1],.sb 5 z]):=by
 unfold I2 at w;refine dW 2 17 [.tmp 4] func44 fun B=>nA fun A=>?_;refine qS ?_;obtain⟨g,f,w⟩:=zd w;refine sO [0,1] (S5 b _ f) ?_;obtain⟨j,w⟩:=zh w;refine q6 ?_;exact wQ
theorem PU(b:aj)(z:ev)(w:C0 b=some z):Does prog 9 [.agg [lm zc b.q]] [] (fun r X=>r=pS z/\X=[]):=by
 unfold C0 at w;refine dW 0 42 [.tmp 2] func9 fun B=>nA fun A=>?_;refine qS ?_;refine qS ?_;refine dz 1 5 rfl ?_;simp only[go_sem,simprocAttr];refine da fun e L W=>?_;obtain⟨Y,l,w⟩:=zo w;have u:∀s,Y s=some z->e [(3,.ptr 1 0)] [.cells 24 [.top],.cells 82 [.np 1,.buf 2],.sb 5 s]:=by
  intro v hs;have w:=l _ hs;clear hs;try dsimp only at w|-
  refine L _ _ ?_;obtain⟨af,C,w⟩:=zd w;refine sO [1,2] (I1 v _ C) ?_;exact wR
 clear L l;refine qS ?_;refine Wp.block ?_;obtain⟨ag,D,w⟩:=zq w;refine fL 7 b.q.length fun E=>?_;refine Wp.forL (fun j s=>[(3,.ptr 1 0),(7,lm zc b.q),(8,pI (b.q.length:Int)),(9,pI (j:Int))]) (fun j s=>[.cells 24 [.top],.cells 82 [.np 1,.buf 2],.sb 5 s]) wF w ?_;clear w;intro j k a5 w;try dsimp only at w|-
 refine qS ?_;refine lB zc w E (fun h=>W _ _ _ _ wF (u k (D _ h))) fun O Z f a6 F a7 m w A _ a0=>?_;refine q6 ?_;obtain⟨an,w⟩:=zh w;obtain⟨x,P,w⟩:=zd w;obtain⟨M,a8,c,a9,w⟩:=gk w;replace c:∀d,(List.map ex x).getD f.g.toNat d=ex M:=c ex;obtain⟨aw,w⟩:=zh w;obtain⟨ay,w⟩:=zh w;obtain⟨az,w⟩:=zh w;obtain⟨aA,w⟩:=zh w;obtain⟨aB,w⟩:=zh w;obtain⟨N,Q,w⟩:=zd w;have A:=And.intro Z (And.intro F c);refine dl (plan:=pl [(0,none),(1,none),(2,none),(4,none),(5,none),(10,none),(11,none),(14,none),(15,none),(3,some [0,1,2,4,5,10,11,14,15]),(6,none),(7,none),(8,none),(9,none),(12,none),(13,none),(16,none),(17,some [])]) (by kernel_rfl) rfl (by kernel_rfl) fun aD R=>?_;simp only[go_sem,simprocAttr,A];try refine⟨sL,?_⟩
 refine dc (Br.callR (av:=?av12) (g:=true) (o:=?o12) [] (fun H=>PV  _ P) (by simp only[go_sem,simprocAttr,A];exact Is.mk) (by simp only[go_sem,simprocAttr,A];exact Is.mk) (by simp only[go_sem,simprocAttr,A];exact Is.mk) (by simp only[go_sem,simprocAttr,A];exact Is.mk) (by simp only[go_sem,simprocAttr,A];exact Is.mk) (by simp only[go_sem,simprocAttr,A]) (by simp only[go_sem,simprocAttr,A]) (by simp only[go_sem,simprocAttr,A]) ?hag12 ?cont12);case hag12=>first|(simp only[go_sem,simprocAttr,A];done)|(simp only[go_sem,simprocAttr,A];exact sd)
 simp only[go_sem,simprocAttr,A];try refine⟨sL,?_⟩
 refine dc (eu (av:=?av13) (o:=?o13) 2 [1,2] (zF ((((((f.r++([32]:ev))++M)++([32]:ev))++f.a)++([32]:ev))++f.y) k _ Q) (by simp only[go_sem,simprocAttr,A];exact Is.mk) (by simp only[go_sem,simprocAttr,A];exact Is.mk) (by simp only[go_sem,simprocAttr,A];exact Is.mk) (by simp only[go_sem,simprocAttr,A];exact Is.mk) (by simp only[go_sem,simprocAttr,A];first|exact Is.mk|(simp only[map_append,map_cons,map_nil,zl,fP,zA,eU,ex,zi,ze,zc,zj,zC,zs,zy,zb,za,zk,zn];exact Is.mk)) (by simp only[go_sem,simprocAttr,A]) (by simp only[go_sem,simprocAttr,A]) (by simp only[go_sem,simprocAttr,A]) ?hag13 ?cont13);case hag13=>first|(simp only[go_sem,simprocAttr,A];done)|(simp only[go_sem,simprocAttr,A];exact sd)
 simp only[go_sem,simprocAttr,A];refine kA R ?_;refine da fun K n p=>?_;obtain⟨a3,t,w⟩:=zo w;have i:∀s,a3 s=some z->K [(3,.ptr 1 0),(7,lm zc b.q),(8,pI (b.q.length:Int)),(9,pI (j:Int))] [.cells 24 [.top],.cells 82 [.np 1,.buf 2],.sb 5 s]:=by
  intro G hs;have w:=t _ hs;clear hs;try dsimp only at w|-
  refine n _ _ ?_;obtain⟨a4,S,w⟩:=zd w;refine eO [1,2] (U9 10 G _ S) ?_;refine a0 _ _ (r6 ?_);exact wN a4 O (m _ w)
 clear n t;refine q6 ?_;refine cN w (fun w=>?_) fun w=>?_
 .obtain⟨T,I,w⟩:=zd w;obtain⟨aC,w⟩:=zh w;obtain⟨U,J,w⟩:=zd w;refine rE fun _ V=>?_;refine cX (fun H=>Rz f.A _ I) ?_;refine cO [1,2] (zF (([32]:ev)++T) N.2 _ J) (V _ _ ?_);refine p _ _ _ _ ?_ (i U.2 w);simp only[go_sem,simprocAttr,A];try exact mA
 .refine Wp.skip (p _ _ _ _ ?_ (i N.2 w));simp only[go_sem,simprocAttr,A];try exact mA
theorem U1(c:ev)(b:ev)(z:ev×ev×Bool)(w:NR c b=some z):Does prog 105 [pS c,pS b] [] (fun r X=>r=.tup [pS z.1,pS z.2.1,pB z.2.2]/\X=[]):=by
 unfold NR at w;refine dW 0 23 [.tmp 4,.tmp 5,.tmp 6] func105 fun B=>nA fun A=>?_;refine qS ?_;refine da fun _ g _=>?_;obtain⟨j,f,w⟩:=zd w;refine sX (fun a=>S9 c b _ f) ?_;refine qS ?_;refine cN w (fun w=>?_) fun w=>?_
 .obtain⟨k,w⟩:=zh w;obtain⟨l,w⟩:=zh w;refine dS (pl [(0,none),(1,none),(2,none),(3,none),(4,none),(5,none),(6,none),(7,none),(8,none),(9,none),(10,none),(11,none)]) fun _ i=>i _ _ ?_;exact wR
 .exact Wp.skip (g _ _ (wQ))
theorem TO(c:ev)(b:ev)(z:ev×ev×Bool)(w:Ik c b=some z):Does prog 45 [pS c,pS b] [] (fun r X=>r=.tup [pS z.1,pS z.2.1,pB z.2.2]/\X=[]):=by
 unfold Ik at w;refine dW 0 13 [.tmp 4,.tmp 5,.tmp 6] func45 fun B=>nA fun A=>?_;refine qS ?_;obtain⟨g,f,w⟩:=zd w;refine sX (fun a=>U1 c b _ f) ?_;exact wR
theorem SX(c:ev)(b:ev)(f:Int)(z:List ev)(w:Dc c b f=some z):Does prog 53 [pS c,pS b,pI f] [] (fun r X=>r=lm ex z/\X=[]):=by
 unfold Dc at w;refine dW 0 11 [.tmp 6] func53 fun B=>nA fun A=>?_;refine qS ?_;obtain⟨i,g,w⟩:=zd w;refine sF (Qb c b 0 f _ g) ?_;exact wR
theorem I4(b:List ev)(c:ev)(z:Int)(w:z7 b c=some z):Does prog 55 [lm ex b,pS c] [] (fun r X=>r=pI z/\X=[]):=by
 unfold z7 at w;refine dW 0 19 [.tmp 4] func55 fun B=>nA fun A=>?_;refine qS ?_;refine da fun a k o=>?_;obtain⟨p,f,w⟩:=zo w;have i:∀s,p s=some z->a [] []:=by
  intro s hs;have w:=f _ hs;clear hs;try dsimp only at w|-
  exact k _ _ (wQ)
 clear k f;refine qS ?_;refine Wp.block ?_;obtain⟨E,l,w⟩:=zq w;refine fL 0 b.length fun m=>?_;refine Wp.forL (fun g s=>[(0,lm ex b),(1,pS c),(7,pI (b.length:Int)),(8,pI (g:Int))]) (fun g s=>[]) wF w ?_;clear w;intro g s u w;try dsimp only at w|-
 refine qS ?_;refine lB ex w m (fun h=>o _ _ _ _ wF (i () (l _ h))) fun n F G D v C j w A _ t=>?_;refine q6 ?_;refine q6 ?_;refine cR w fun w=>?_;refine Wp.skip (t _ _ (r6 ?_));exact wN () n (j _ w)
theorem S6(b:List ev)(c:ev)(z:Bool)(w:z6 b c=some z):Does prog 54 [lm ex b,pS c] [] (fun r X=>r=pB z/\X=[]):=by
 unfold z6 at w;refine dW 0 9 [.tmp 4] func54 fun B=>nA fun A=>?_;refine qS ?_;obtain⟨g,f,w⟩:=zd w;refine sX (fun a=>I4 b c _ f) ?_;exact wR
theorem SZ(b:ev)(c:Int)(z:Int)(w:GO b c=some z):Does prog 173 [pS b,.p (.i .u8 c)] [] (fun r X=>r=pI z/\X=[]):=by
 unfold GO at w;refine dW 0 8 [.tmp 4] func173 fun B=>nA fun A=>?_;refine qS ?_;obtain⟨g,f,w⟩:=zd w;refine sX (fun a=>Ta b c _ f) ?_;exact wR
theorem TM(g:ev)(z:Int×Int)(w:Im g=some z):Does prog 143 [pS g] [] (fun r X=>r=.tup [.p (.i .u8 z.1),pI z.2]/\X=[]):=by
 unfold Im at w;refine dW 0 61 [.tmp 2,.tmp 3] func143 fun B=>nA fun A=>?_;refine qS ?_;refine da fun _ u _=>Wp.block (qS ?_);refine cR w fun w=>?_;obtain⟨v,C,b,w⟩:=mK w;replace b:((g.getD 0 0).toNat:Int)=v:=b;have A:=b;refine q6 ?_;refine cR w fun w=>?_;refine q6 ?_;refine cR w fun w=>?_;refine q6 ?_;refine cR w fun w=>?_;refine Wp.skip (u _ _ ?_);obtain⟨j,D,c,w⟩:=mK w;replace c:((g.getD 1 0).toNat:Int)=j:=c;obtain⟨F,l,w⟩:=zd w;obtain⟨k,E,f,w⟩:=mK w;replace f:((g.getD 2 0).toNat:Int)=k:=f;obtain⟨G,m,w⟩:=zd w;have A:=And.intro b (And.intro c f);refine dS (pl [(0,none),(1,none),(2,none),(3,none),(4,none),(5,none),(6,none),(7,none)]) fun _ n=>?_;refine cD (fun a=>SZ ([48,49,50,51,52,53,54,55,56,57,97,98,99,100,101,102]:ev) j _ l) ?_;refine cD (fun a=>SZ ([48,49,50,51,52,53,54,55,56,57,97,98,99,100,101,102]:ev) k _ m) (n _ _ ?_);refine da fun _ o _=>q6 ?_;refine cR w fun w=>?_;refine Wp.skip (o _ _ (q6 ?_));refine da fun _ t _=>q6 ?_;refine cR w fun w=>?_;exact Wp.skip (t _ _ (wQ))
theorem T5(b:ev)(z:ev×Int)(w:Ia b=some z):Does prog 106 [pS b] [] (fun r X=>r=.tup [pS z.1,pI z.2]/\X=[]):=by
 unfold Ia at w;refine dW 0 74 [.tmp 2,.tmp 3] func106 fun B=>nA fun A=>?_;refine qS ?_;refine da fun _ D _=>?_;obtain⟨Q,w⟩:=zh w;obtain⟨R,w⟩:=zh w;refine q6 ?_;refine cR w fun w=>?_;refine Wp.skip (D _ _ ?_);obtain⟨L,w⟩:=zh w;refine q6 ?_;obtain⟨M,w⟩:=zh w;refine q6 ?_;refine da fun a m E=>?_;obtain⟨F,i,w⟩:=zo w;have l:∀s,F s=some z->a [(4,.buf 0)] [.buf 5 1 (List.map eU s)]:=by
  intro G hs;have w:=i _ hs;clear hs;try dsimp only at w|-
  exact m _ _ (wQ)
 clear m i;refine qS ?_;refine Wp.block ?_;obtain⟨S,p,w⟩:=ii w;refine Wp.loopN (fun s=>[(0,pS (List.take ((IntKind.i64.wrap ((b.length:Int)-1)).toNat-1) (List.drop 1 b))),(4,.buf 0),(5,pI s.1)]) (fun s=>[.buf 5 1 (List.map eU s.2)]) ?_ w ?_
 .exact fV
 clear w;intro s I w;obtain⟨g,f⟩:=s;try dsimp only at w|-
 refine da fun _ t _=>qS ?_;refine cN w (fun w=>?_) fun w=>?_
 .refine Wp.skip (t _ _ (da fun _ j _=>Wp.block ?_));obtain⟨n,J,c,w⟩:=mK w;replace c:(((List.take ((IntKind.i64.wrap ((b.length:Int)-1)).toNat-1) (List.drop 1 b)).getD g.toNat 0).toNat:Int)=n:=c;have A:=c;refine q6 ?_;refine da fun _ u _=>q6 ?_;refine cR w fun w=>?_;refine Wp.skip (u _ _ (da fun _ k _=>q6 ?_));refine cN w (fun w=>?_) fun w=>?_
  .obtain⟨N,w⟩:=zh w;obtain⟨o,v,w⟩:=zd w;refine sX (fun d=>TM (List.drop ((IntKind.i64.wrap (g+1)).toNat) (List.take ((IntKind.i64.wrap ((b.length:Int)-1)).toNat-1) (List.drop 1 b))) _ v) ?_;refine da fun _ C _=>q6 ?_;refine cR w fun w=>?_;refine Wp.skip (C _ _ (r6 ?_));refine k _ _ ?_;obtain⟨O,w⟩:=zh w;refine r6 ?_;refine j _ _ (r6 ?_);simp only[zz,zw,↓reduceIte];refine⟨(IntKind.i64.wrap ((IntKind.i64.wrap (g+o.2))+1),f++[o.1]),w,?_⟩;simp only[go_sem,simprocAttr,A];try exact mA
  .refine Wp.skip (k _ _ ?_);obtain⟨P,w⟩:=zh w;refine r6 ?_;refine j _ _ (r6 ?_);simp only[zz,zw,↓reduceIte];refine⟨(IntKind.i64.wrap (g+1),f++[n]),w,?_⟩;simp only[go_sem,simprocAttr,A];try exact mA
 .refine Wp.exit ?_;simp only[zz,zw,↓reduceIte];have w:=p _ w;try dsimp only at w
  refine E _ _ _ _ ?_ (l f w);exact fV
end Go.Proofs.YtpcihjdidhpbbaaGreatDoor
