/- That the code does what the models say (part 5). -/
import Derived.Test.YtpcihjdidhpbbaaGreatDoorKpWk0
import Derived.Test.YtpcihjdidhpbbaaGreatDoorKpWk1
import Derived.Test.YtpcihjdidhpbbaaGreatDoorKpWk3
import Derived.Test.YtpcihjdidhpbbaaGreatDoorKpWk4
set_option linter.unusedSimpArgs false
set_option linter.unusedVariables false
open Go.Proofs Go.Shelf
open List
namespace Go.Proofs.YtpcihjdidhpbbaaGreatDoor
open Tryz
open Go.Vc Go.Md
set_option maxRecDepth 100000
set_option maxHeartbeats 4000000
theorem Ux(c:aa)(f:ev)(b:aa)(z:Bool)(w:IE c f b=some z):Does prog 71 [.agg [pS c.r,pI c.g,pS c.a,pS c.y,pS c.A],.rp [.s f],.rp [.s b.r,.i .i64 b.g,.s b.a,.s b.y,.s b.A]] [] (fun r X=>r=pB z/\X=[]):=by
 unfold IE at w;refine dW 0 23 [.tmp 4] func71 fun B=>nA fun A=>?_;refine qS ?_;exact wQ
theorem Vs(c:List aa)(f:ev)(b:aa)(z:Int)(w:NY c f b=some z):Does prog 70 [lm zc c,.fn 71 [.rp [.s f],.rp [.s b.r,.i .i64 b.g,.s b.a,.s b.y,.s b.A]]] [] (fun r X=>r=pI z/\X=[]):=by
 unfold NY at w;refine dW 0 19 [.tmp 4] func70 fun B=>nA fun A=>?_;refine qS ?_;refine da fun d o v=>?_;obtain⟨C,j,w⟩:=zo w;have l:∀s,C s=some z->d [] []:=by
  intro s hs;have w:=j _ hs;clear hs;try dsimp only at w|-
  exact o _ _ (wQ)
 clear o j;refine qS ?_;refine Wp.block ?_;obtain⟨L,p,w⟩:=zq w;refine fL 0 c.length fun m=>?_;refine Wp.forL (fun k s=>[(0,lm zc c),(1,.fn 71 [.rp [.s f],.rp [.s b.r,.i .i64 b.g,.s b.a,.s b.y,.s b.A]]),(7,pI (c.length:Int)),(8,pI (k:Int))]) (fun k s=>[]) wF w ?_;clear w;intro k s F w;try dsimp only at w|-
 refine qS ?_;refine lB zc w m (fun h=>v _ _ _ _ wF (l () (p _ h))) fun t M D J G I n w A _ E=>?_;refine q6 ?_;obtain⟨N,u,w⟩:=zd w;refine sX (fun e=>Ux D f b _ u) ?_;refine cR w fun w=>?_;refine Wp.skip (E _ _ (r6 ?_));exact wN () t (n _ w)
theorem TY(f:aa)(b:List aa)(c:ev)(z:aa×Bool)(w:H5 f b c=some z):Does prog 69 [.agg [pS f.r,pI f.g,pS f.a,pS f.y,pS f.A],.ptr 0 0,.ptr 1 0] [.cells 24 [lm zc b],.cells 9 [pS c]] (fun r X=>r=.tup [.agg [pS z.1.r,pI z.1.g,pS z.1.a,pS z.1.y,pS z.1.A],pB z.2]/\X=[.cells 24 [lm zc b],.cells 9 [pS c]]):=by
 unfold H5 at w;refine dW 2 19 [.cell 4 84,.tmp 5] func69 fun B=>nA fun A=>?_;refine qS ?_;obtain⟨k,j,w⟩:=zd w;refine sX (fun e=>Vs b c f _ j) ?_;refine da fun _ l _=>qS ?_;refine cR w fun w=>?_;refine Wp.skip (l _ _ ?_);obtain⟨m,n,i,o,w⟩:=gk w;replace i:∀d,(List.map zc b).getD k.toNat d=zc m:=i zc;have A:=i;exact wQ
theorem UZ(c:ev)(b:ev)(z:List ev)(w:GI c b=some z):Does prog 196 [pS c,pS b] [] (fun r X=>r=lm ex z/\X=[]):=by
 unfold GI at w;refine dW 0 10 [.tmp 4] func196 fun B=>nA fun A=>?_;refine qS ?_;obtain⟨g,f,w⟩:=zd w;refine sF (Qb c b (b.length:Int) (-1) _ f) ?_;exact wR
theorem Nt(c:ev)(z:List ev)(w:yD c=some z):Does prog 177 [pS c] [] (fun r X=>r=lm ex z/\X=[]):=by
 unfold yD at w;refine dW 0 19 [.tmp 2] func177 fun B=>nA fun A=>?_;refine qS ?_;obtain⟨f,i,w⟩:=zd w;refine sF (UZ c ([10]:ev) _ i) ?_;refine da fun _ g _=>qS ?_;obtain⟨j,k,b,l,w⟩:=gk w;replace b:∀d,(List.map ex f).getD ((IntKind.i64.wrap ((f.length:Int)-1)).toNat) d=ex j:=b ex;have A:=b;refine q6 ?_;refine cN w (fun w=>?_) fun w=>?_
 .obtain⟨m,w⟩:=zh w;refine r6 ?_;exact g _ _ (wQ)
 .exact Wp.skip (g _ _ (wQ))
theorem SP(c:ev)(f:ev)(z:Int)(w:BQ c f=some z):Does prog 176 [pS c,pS f] [] (fun r X=>r=pI z/\X=[]):=by
 unfold BQ at w;refine dW 0 25 [.tmp 4] func176 fun B=>nA fun A=>?_;refine qS ?_;refine da fun d t D=>?_;obtain⟨E,j,w⟩:=zo w;have n:∀s,E s=some z->d [] []:=by
  intro s hs;have w:=j _ hs;clear hs;try dsimp only at w|-
  exact t _ _ (wQ)
 clear t j;refine qS ?_;refine Wp.block ?_;obtain⟨O,v,w⟩:=zq w;refine dA 9 fun k=>?_;replace k:[c,f].length<=274877906944:=Nat.le_of_ble_eq_true rfl;refine Wp.forL (fun l s=>[(9,.full (List.map ex [c,f])),(10,pI ([c,f].length:Int)),(11,pI (l:Int))]) (fun l s=>[]) wF w ?_;clear w;intro l s L w;try dsimp only at w|-
 refine qS ?_;refine da fun _ F _=>Wp.cond rfl ⟨⟩ (fun m=>?_) fun m=>Wp.exit (D _ _ _ _ wF (n () (v _ (jg w (tn m)))));have i:=j7 m;have G:=iL i k;obtain⟨u,N,b,M,o,w⟩:=jj w i;replace b:=b ex;simp only[map_cons,map_nil,ex]at b;refine Wp.skip ?_;simp only[zz];refine F _ _ (da fun _ I _=>Wp.block ?_);have A:=And.intro G b;refine q6 ?_;obtain⟨P,C,p,w⟩:=oH w;refine db fun e J=>?_;simp only[go_sem,simprocAttr,A];try refine⟨sd,?_⟩
 refine ec (av:=?av10) (g:=!(decide (65536<(u.length:Int)))) [] (fun a=>Nt u _ (C a)) (fun a=>by obtain rfl:=p a;rfl) (by simp only[go_sem,simprocAttr,A];exact Is.mk) (by simp only[go_sem,simprocAttr,A];exact Is.mk) (by simp only[go_sem,simprocAttr,A];exact Is.mk) (by simp only[go_sem,simprocAttr,A];exact Is.mk) (by simp only[go_sem,simprocAttr,A]) (by simp only[go_sem,simprocAttr,A]) ?cont10;simp only[go_sem,simprocAttr,A];refine kA J ?_;refine cR w fun w=>?_;refine Wp.skip (I _ _ (r6 ?_));exact wN () i (o _ w)
theorem U2(b:List Int)(z:List Int)(w:Dd b=some z):Does prog 198 [lm zA b] [] (fun r X=>r=.buf 0/\X=[.buf 3 1 (List.map zA z)]):=by
 unfold Dd at w;refine dW 1 8 [.tmp 2] func198 fun B=>nA fun A=>?_;refine qS ?_;refine da fun _ f _=>db fun a g=>?_;simp only[go_sem,simprocAttr];try refine⟨sd,?_⟩
 refine dI (rows:=?rows4) (e:=?e4) (esz:=?esz4) (eb:=?eb4) (ez:=?ez4) Is.mk Is.mk sg sg si si ?cont4;intro i c;replace w:=HU w i (fun h=>map_eq_nil_iff.1 (c h));try dsimp only at w
 simp only[go_sem,simprocAttr];refine kA g ?_;refine cN w (fun w=>?_) fun w=>?_
 .refine qS ?_;refine dm 2 3 1 rfl ?_;simp only[go_sem,simprocAttr];exact wR
 .refine Wp.skip (f _ _ ?_);obtain⟨j,w⟩:=zh w;exact wQ
theorem s7(k:List ev)(m:List ev)(b:List Int)(f:Int)(c:List (List Int))(z:Bool)(w:Cm k m b f c=some z):Does prog 197 [lm ex k,lm ex m,lm zA b,pI f,lm zD c] [] (fun r X=>r=pB z/\X=[]):=by
 unfold Cm at w;refine dW 0 59 [.tmp 10] func197 fun B=>nA fun A=>?_;refine qS ?_;refine qS ?_;refine da fun a S h=>?_;obtain⟨Y,v,w⟩:=zo w;have N:∀s,Y s=some z->a [(2,lm zA b),(3,pI f),(4,lm zD c),(11,pI s)] []:=by
  intro Z hs;have w:=v _ hs;clear hs;try dsimp only at w|-
  refine S _ _ ?_;obtain⟨T,av,n,aw,w⟩:=gk w;replace n:∀d,(List.map zA b).getD ((IntKind.i64.wrap ((b.length:Int)-1)).toNat) d=zA T:=n zA;obtain⟨U,ay,o,az,w⟩:=gk w;replace o:∀d,(List.map zD c).getD ((IntKind.i64.wrap (T+1)).toNat) d=zD U:=o zD;obtain⟨ac,aA,p,aB,w⟩:=gk w;replace p:∀d,(List.map zA U).getD Z.toNat d=zA ac:=p zA;have A:=And.intro n (And.intro o p);exact wQ
 clear S v;refine qS ?_;refine Wp.block ?_;obtain⟨aF,O,w⟩:=zq w;refine fL 2 b.length fun P=>?_;refine Wp.forL (fun j s=>[(0,lm ex k),(1,lm ex m),(2,lm zA b),(3,pI f),(4,lm zD c),(11,pI s),(14,lm zA b),(15,pI (b.length:Int)),(16,pI (j:Int))]) (fun j s=>[]) wF w ?_;clear w;intro j q ad w;try dsimp only at w|-
 refine qS ?_;refine da fun _ a0 _=>Wp.cond rfl ⟨⟩ (fun G=>?_) fun G=>Wp.exit (h _ _ _ _ wF (N q (O _ (jg w (tn G)))));have t:=j7 G;have I:=iL t P;obtain⟨V,aC,g,aD,J,w⟩:=jj w t;replace g:=g zA;refine Wp.skip ?_;simp only[zz];refine a0 _ _ (da fun x W y=>?_);obtain⟨a1,C,w⟩:=zo w;have Q:∀s,a1 s=some z->x [(0,lm ex k),(1,lm ex m),(2,lm zA b),(3,pI f),(4,lm zD c),(11,pI s),(14,lm zA b),(15,pI (b.length:Int)),(16,pI (j:Int))] []:=by
  intro H hs;have w:=C _ hs;clear hs;try dsimp only at w|-
  refine W _ _ ?_;have A:=And.intro I g;refine r6 ?_;exact wN H t (J _ w)
 clear W C;refine Wp.block ?_;have A:=And.intro I g;refine q6 ?_;refine da fun K L a3=>?_;obtain⟨a4,D,w⟩:=zo w;have M:∀s,a4 s=some z->K [(0,lm ex k),(1,lm ex m),(2,lm zA b),(3,pI f),(4,lm zD c),(11,pI s),(14,lm zA b),(15,pI (b.length:Int)),(16,pI (j:Int))] []:=by
  intro a5 hs;have w:=D _ hs;clear hs;try dsimp only at w|-
  refine L _ _ (da fun _ a6 _=>q6 ?_);refine cR w fun w=>?_;refine Wp.skip (a6 _ _ (r6 ?_));refine y _ _ _ _ ?_ (Q (IntKind.i64.wrap (a5+1)) w);simp only[go_sem,simprocAttr,A];try exact eY
 clear L D;refine Wp.block ?_;obtain⟨aG,R,w⟩:=ii w;refine Wp.loopN (fun s=>[(0,lm ex k),(1,lm ex m),(2,lm zA b),(3,pI f),(4,lm zD c),(11,pI s),(13,pI V),(14,lm zA b),(15,pI (b.length:Int)),(16,pI (j:Int))]) (fun s=>[]) ?_ w ?_
 .simp only[go_sem,simprocAttr,A];try exact eY
 clear w;intro u aE w;try dsimp only at w|-
 refine da fun _ a7 _=>?_;obtain⟨aH,w⟩:=zh w;obtain⟨aI,w⟩:=zh w;have E:=MH (l:=m) (e:=ex) (d:=[]) (i:=u.toNat);simp only[ex,map_nil]at E;have F:=MH (l:=k) (e:=ex) (d:=[]) (i:=V.toNat);simp only[ex,map_nil]at F;have A:=And.intro I (And.intro g (And.intro E F));refine dS (pl [(0,none),(1,none),(2,none),(3,none),(4,none),(5,none),(6,none),(7,none),(8,none),(9,none),(10,none),(11,none),(12,none),(13,none),(14,none)]) fun _ a8=>a8 _ _ ?_;refine cN w (fun w=>?_) fun w=>?_
 .refine Wp.skip (a7 _ _ (Wp.block (r6 ?_)));simp only[zz,zw,↓reduceIte];refine⟨IntKind.i64.wrap (u+1),w,?_⟩;simp only[go_sem,simprocAttr,A];try exact eY
 .refine Wp.exit ?_;simp only[zz,zw,↓reduceIte];have w:=R _ w;try dsimp only at w
  refine a3 _ _ _ _ ?_ (M u w);simp only[go_sem,simprocAttr,A];try exact eY
theorem Ry(c:List ev)(b:List ev)(z:List ao)(w:G4 c b=some z):Does prog 178 [lm ex c,lm ex b] [] (fun r X=>r=lm z8 z/\X=[]):=by
 unfold G4 at w;refine dW 0 158 [.tmp 4] func178 fun B=>nA fun A=>?_;refine qS ?_;refine qS ?_;obtain⟨cj,w⟩:=zh w;obtain⟨J,j,w⟩:=jK w;refine ee fun K3 bP y=>?_;suffices Z:K3 [(0,lm ex c),(1,lm ex b),(4,.nils),(5,pI (c.length:Int)),(6,pI (b.length:Int)),(7,.buf 0),(18,lm ex c),(19,pI (c.length:Int)),(20,lm ex b),(21,pI (b.length:Int))] [.nst false 188 1 0 1 (List.map zl J) none,.inn 3 1 (List.map zn J)]by
  subst j;simp only[go_sem,simprocAttr,false_implies,and_true,true_and,eC];first|refine y _ _ _ _ ?_ Z|refine⟨sL,y _ _ _ _ ?_ Z⟩
  simp only[go_sem,simprocAttr,false_implies,and_true,true_and,eC];try exact eY
 refine bP _ _ (da fun K4 a1 bQ=>?_);obtain⟨bk,H,w⟩:=zo w;have aY:∀s,bk s=some z->K4 [(0,lm ex c),(1,lm ex b),(5,pI (c.length:Int)),(6,pI (b.length:Int)),(7,.buf 0)] [.nst false 188 1 0 1 (List.map zl s) none,.inn 3 1 (List.map zn s)]:=by
  intro c6 hs;have w:=H _ hs;clear hs;try dsimp only at w|-
  refine a1 _ _ (da fun K5 K bS=>?_);obtain⟨bl,a4,w⟩:=zo w;have aZ:∀s,bl s=some z->K5 [(0,lm ex c),(1,lm ex b),(7,.buf 0)] [.nst false 188 1 0 1 (List.map zl s) none,.inn 3 1 (List.map zn s)]:=by
   intro u hs;have w:=a4 _ hs;clear hs;try dsimp only at w|-
   refine K _ _ ?_;have A:=j;refine q6 ?_;refine da fun K7 bj bT=>?_;obtain⟨bm,a5,w⟩:=zo w;have b0:∀s,bm s=some z->K7 [(0,lm ex c),(1,lm ex b),(11,.buf 2)] [.gone,.gone,.buf 3 1 (List.map zA s)]:=by
    intro m hs;have w:=a5 _ hs;clear hs;try dsimp only at w|-
    refine bj _ _ (q6 ?_);refine q6 ?_;refine da fun bU aJ bn=>?_;obtain⟨bo,a6,w⟩:=zo w;have aK:∀s,bo s=some z->bU [(14,.buf 3)] [.gone,.gone,.gone,.buf 236 2 (List.map z8 s)]:=by
     intro c7 hs;have w:=a6 _ hs;clear hs;try dsimp only at w|-
     exact aJ _ _ (wQ)
    clear aJ a6;refine q6 ?_;refine Wp.block (dm 14 236 2 rfl ?_);simp only[go_sem,simprocAttr,A];obtain⟨ck,b1,w⟩:=tt w;refine ej 2 fun R=>?_;replace R:m.length<=274877906944:=by simp only[go_sem,simprocAttr,length_map]at R;omega
    refine Wp.forC (fun o s=>[(0,lm ex c),(1,lm ex b),(14,.buf 3),(15,pI s.1),(131,.buf 2),(132,pI (m.length:Int)),(133,pI (o:Int))]) (fun o s=>[.gone,.gone,.buf 3 1 (List.map zA m),.buf 236 2 (List.map z8 s.2)]) ?_ w ?_
    .simp only[go_sem,simprocAttr,A];try exact eY
    clear w;intro o s bV w;obtain⟨cl,G⟩:=s;try dsimp only at w|-
    refine q6 ?_;refine da fun _ bp _=>Wp.cond rfl ⟨⟩ (fun S=>?_) (fun S=>?_);rotate_left
    .refine Wp.exit ?_;have w:=b1 _ (wK w (ux (by first|exact S|simpa using S)));try dsimp only at w
     refine bn _ _ _ _ ?_ (aK G w);simp only[go_sem,simprocAttr,A];try exact eY
    have T:=j7 S;have L:=iL T R;obtain⟨c8,aL,w⟩:=tr w T;refine Wp.skip ?_;simp only[zz];refine bp _ _ (da fun bW aM bq=>?_);obtain⟨br,a7,w⟩:=zo w;have aN:∀s,br s=some z->bW [(0,lm ex c),(1,lm ex b),(14,.buf 3),(15,pI s.1),(131,.buf 2),(132,pI (m.length:Int)),(133,pI (o:Int))] [.gone,.gone,.buf 3 1 (List.map zA m),.buf 236 2 (List.map z8 s.2)]:=by
     intro s hs;have w:=a7 _ hs;clear hs;obtain⟨bs,b2⟩:=s;try dsimp only at w|-
     refine aM _ _ ?_;have A:=And.intro j L;refine r6 ?_;exact wN (bs,b2) T (aL _ w)
    clear aM a7;refine Wp.block ?_;have b3:=fun h=>ik (l:=m) (e:=zA) (d:=0) (i:=o) h [];refine db fun cW bt=>?_;simp only[go_sem,simprocAttr,j,L,b3 (by omega)];refine kA bt ?_;refine da fun bX aO bu=>?_;obtain⟨bv,a8,w⟩:=zo w;have aP:∀s,bv s=some z->bX [(0,lm ex c),(1,lm ex b),(14,.buf 3),(15,pI s),(17,pI (m.getD o 0)),(131,.buf 2),(132,pI (m.length:Int)),(133,pI (o:Int))] [.gone,.gone,.buf 3 1 (List.map zA m),.buf 236 2 (List.map z8 G)]:=by
     intro aQ hs;have w:=a8 _ hs;clear hs;try dsimp only at w|-
     refine aO _ _ ?_;obtain⟨cm,w⟩:=zh w;have A:=And.intro j L;refine q6 ?_;refine r6 ?_;refine bq _ _ _ _ ?_ (aN (IntKind.i64.wrap (aQ+1),G++[(ao.mk (m.getD o 0) aQ)]) w);simp only[go_sem,simprocAttr,A];try exact eY
    clear aO a8;refine Wp.block ?_;obtain⟨cn,b4,w⟩:=ii w;refine Wp.loopN (fun s=>[(0,lm ex c),(1,lm ex b),(14,.buf 3),(15,pI s),(17,pI (m.getD o 0)),(131,.buf 2),(132,pI (m.length:Int)),(133,pI (o:Int))]) (fun s=>[.gone,.gone,.buf 3 1 (List.map zA m),.buf 236 2 (List.map z8 G)]) ?_ w ?_
    .have A:=And.intro j L;simp only[go_sem,simprocAttr,A];try exact eY
    clear w;intro a c9 w;try dsimp only at w|-
    refine da fun _ bw _=>?_;obtain⟨bx,bY,M,bZ,w⟩:=gk w;replace M:∀d,(List.map ex b).getD a.toNat d=ex bx:=M ex;obtain⟨bz,c0,N,c1,w⟩:=gk w;replace N:∀d,(List.map ex c).getD ((m.getD o 0).toNat) d=ex bz:=N ex;have A:=And.intro j (And.intro L (And.intro M N));refine dS (pl [(0,none),(1,none),(2,none),(3,none),(4,none),(5,none),(6,none),(7,none),(8,none)]) fun _ bA=>bA _ _ ?_;refine cN w (fun w=>?_) fun w=>?_
    .refine Wp.skip (bw _ _ (Wp.block (r6 ?_)));simp only[zz,zw,↓reduceIte];refine⟨IntKind.i64.wrap (a+1),w,?_⟩;simp only[go_sem,simprocAttr,A];try exact eY
    .refine Wp.exit ?_;simp only[zz,zw,↓reduceIte];have w:=b4 _ w;try dsimp only at w
     refine bu _ _ _ _ ?_ (aP a w);simp only[go_sem,simprocAttr,A];try exact eY
   clear bj a5;obtain⟨co,w⟩:=zh w;obtain⟨cp,w⟩:=zh w;have b5:=fun h=>ik (l:=u) (e:=zl) (d:=[]) (i:=0) h [];have b6:=fun h=>Gc (l:=u) (f:=zn) (d:=[]) (i:=0) h [];have b7:=fun h=>ik (l:=(u.getD 0 [])) (e:=zA) (d:=0) (i:=0) h [];refine dl (plan:=pl [(0,none),(1,none),(2,none),(3,none),(4,none),(5,none),(6,none)]) (by kernel_rfl) rfl (by kernel_rfl) fun cY bB=>?_;simp only[go_sem,simprocAttr,j,b5 (by omega),b6 (by omega),b7 (by omega)];refine kA bB ?_;refine Wp.block (dm 11 3 1 rfl ?_);simp only[go_sem,simprocAttr,A];obtain⟨cq,b8,w⟩:=ii w;refine Wp.loopN (fun s=>[(0,lm ex c),(1,lm ex b),(7,.buf 0),(11,.buf 2),(12,pI s.1),(13,pI s.2.1)]) (fun s=>[.nst false 188 1 0 1 (List.map zl u) none,.inn 3 1 (List.map zn u),.buf 3 1 (List.map zA s.2.2)]) ?_ w ?_
   .simp only[go_sem,simprocAttr,A];try exact eY
   clear w;intro s ca w;obtain⟨U,F,I⟩:=s;try dsimp only at w|-
   refine da fun _ bC _=>q6 ?_;refine cN w (fun w=>?_) fun w=>?_
   .refine Wp.skip (bC _ _ (da fun _ aR _=>Wp.block ?_));obtain⟨bD,b9,w⟩:=zd w;obtain⟨cr,w⟩:=zh w;obtain⟨cs,ba,w⟩:=zd w;refine db fun cZ bE=>?_;simp only[go_sem,simprocAttr,A];try refine⟨sL,?_⟩
    refine ea (av:=?av31) (U2 I _ b9) (qv (fun _=>rfl) _) (by simp only[go_sem,simprocAttr,A];exact Is.mk) (by simp only[go_sem,simprocAttr,A];exact Is.mk) (by simp only[go_sem,simprocAttr,A]) ?cont31;simp only[go_sem,simprocAttr,A];try refine⟨sL,?_⟩
    refine cX (fun hg=>s7 c b (bD++[U]) (IntKind.i64.wrap (F-1)) u _ ba) (bE _ _ ?_);refine cN w (fun w=>?_) fun w=>?_
    .obtain⟨ct,w⟩:=zh w;refine q6 ?_;refine r6 ?_;refine aR _ _ (r6 ?_);simp only[zz,zw,↓reduceIte];refine⟨(IntKind.i64.wrap (U+1),IntKind.i64.wrap (F-1),I++[U]),w,?_⟩;simp only[go_sem,simprocAttr,A];try exact eY
    .refine Wp.skip (aR _ _ (r6 ?_));simp only[zz,zw,↓reduceIte];refine⟨(IntKind.i64.wrap (U+1),F,I),w,?_⟩;simp only[go_sem,simprocAttr,A];try exact eY
   .refine Wp.exit ?_;simp only[zz,zw,↓reduceIte];have w:=b8 _ w;try dsimp only at w
    refine bT _ _ _ _ ?_ (b0 I w);simp only[go_sem,simprocAttr,A];try exact eY
  clear K a4;have A:=j;refine q6 ?_;refine Wp.block ?_;obtain⟨cu,bb,w⟩:=ii w;refine Wp.loopN (fun s=>[(0,lm ex c),(1,lm ex b),(6,pI (b.length:Int)),(7,.buf 0),(9,pI s.1)]) (fun s=>[.nst false 188 1 0 1 (List.map zl s.2) none,.inn 3 1 (List.map zn s.2)]) ?_ w ?_
  .simp only[go_sem,simprocAttr,A];try exact eY
  clear w;intro s cb w;obtain⟨g,bc⟩:=s;try dsimp only at w|-
  refine da fun _ bF _=>q6 ?_;refine cN w (fun w=>?_) fun w=>?_
  .refine Wp.skip (bF _ _ (da fun c2 aS bG=>?_));obtain⟨bH,a9,w⟩:=zo w
   have aT:∀s,bH s=some z->c2 [(0,lm ex c),(1,lm ex b),(6,pI (b.length:Int)),(7,.buf 0),(9,pI g)] [.nst false 188 1 0 1 (List.map zl s) none,.inn 3 1 (List.map zn s)]:=by
    intro bd hs;have w:=a9 _ hs;clear hs;try dsimp only at w|-
    refine aS _ _ (r6 ?_);simp only[zz,zw,↓reduceIte];refine⟨(IntKind.i64.wrap (g-1),bd),w,?_⟩;simp only[go_sem,simprocAttr,A];try exact eY
   clear aS a9;refine Wp.block (q6 ?_);refine Wp.block ?_;obtain⟨cw,be,w⟩:=ii w;refine Wp.loopN (fun s=>[(0,lm ex c),(1,lm ex b),(6,pI (b.length:Int)),(7,.buf 0),(9,pI g),(10,pI s.1)]) (fun s=>[.nst false 188 1 0 1 (List.map zl s.2) none,.inn 3 1 (List.map zn s.2)]) ?_ w ?_
   .simp only[go_sem,simprocAttr,A];try exact eY
   clear w;intro s cc w;obtain⟨k,n⟩:=s;try dsimp only at w|-
   refine da fun _ bI _=>q6 ?_;refine cN w (fun w=>?_) fun w=>?_
   .refine Wp.skip (bI _ _ (da fun _ aU _=>Wp.block ?_));obtain⟨cy,w⟩:=zh w;obtain⟨cz,w⟩:=zh w;obtain⟨cA,w⟩:=zh w;obtain⟨cB,w⟩:=zh w;obtain⟨cC,w⟩:=zh w;obtain⟨cG,w⟩:=zh w;have v:=PO (f:=zl) (l:=n) (d:=[]) (i:=g.toNat) (x:=List.set (n.getD g.toNat []) k.toNat (max ((n.getD ((IntKind.i64.wrap (g+1)).toNat) []).getD k.toNat 0) ((n.getD g.toNat []).getD ((IntKind.i64.wrap (k+1)).toNat) 0))) (by first|omega|(simp only[length_set,length_append,length_cons,length_nil]at *;omega)) rfl;obtain⟨t,E,w⟩:=jK w;refine dN (plan:=pl [(0,none),(1,none),(2,none),(3,none),(4,none),(5,none),(6,none),(7,none),(8,none),(9,none),(10,none),(11,none),(12,none),(13,none),(14,none),(15,none),(16,none),(17,none),(18,none),(19,none),(20,none),(21,none),(22,none),(23,some [])]) (by kernel_rfl) rfl (by kernel_rfl) fun c3 bJ aV=>?_
    suffices O:c3 [(0,lm ex c),(1,lm ex b),(6,pI (b.length:Int)),(7,.buf 0),(9,pI g),(10,pI k),(45,pI k),(46,pB (decide (0<=k)))] [.nst false 188 1 0 1 (List.map zl t) none,.inn 3 1 (List.map zn t)]by
     have ac:=fun h=>ik (l:=n) (e:=zl) (d:=[]) (i:=g.toNat) h [];have ad:=fun h=>ik (l:=n) (e:=zl) (d:=[]) (i:=(IntKind.i64.wrap (g+1)).toNat) h [];have af:=fun h=>Gc (l:=n) (f:=zn) (d:=[]) (i:=(IntKind.i64.wrap (g+1)).toNat) h [];have ag:=fun h=>ik (l:=(n.getD ((IntKind.i64.wrap (g+1)).toNat) [])) (e:=zA) (d:=0) (i:=k.toNat) h [];have an:=fun h=>Gc (l:=n) (f:=zn) (d:=[]) (i:=g.toNat) h [];have aw:=fun h=>ik (l:=(n.getD g.toNat [])) (e:=zA) (d:=0) (i:=(IntKind.i64.wrap (k+1)).toNat) h [];subst E;simp only[go_sem,simprocAttr,false_implies,and_true,true_and,eC,j,v,ac (by omega),ad (by omega),af (by omega),ag (by omega),an (by omega),aw (by omega)];first|refine aV _ _ _ _ ?_ O|refine⟨sL,aV _ _ _ _ ?_ O⟩
     simp only[go_sem,simprocAttr,false_implies,and_true,true_and,eC,j,v,ac (by omega),ad (by omega),af (by omega),ag (by omega),an (by omega),aw (by omega)];try exact eY
    refine bJ _ _ ?_;obtain⟨ay,cd,C,ce,w⟩:=gk w;replace C:∀d,(List.map ex c).getD g.toNat d=ex ay:=C ex;obtain⟨az,cg,D,ch,w⟩:=gk w;replace D:∀d,(List.map ex b).getD k.toNat d=ex az:=D ex;have A:=And.intro j (And.intro v (And.intro E (And.intro C D)));refine dS (pl [(0,none),(1,none),(2,none),(3,none),(4,none),(5,none),(6,none),(7,none),(8,none)]) fun _ bK=>bK _ _ ?_;refine cN w (fun w=>?_) fun w=>?_
    .obtain⟨cH,w⟩:=zh w;obtain⟨cI,w⟩:=zh w;obtain⟨cJ,w⟩:=zh w;obtain⟨cK,w⟩:=zh w;obtain⟨cL,w⟩:=zh w;obtain⟨cP,w⟩:=zh w;have V:=PO (f:=zl) (l:=t) (d:=[]) (i:=g.toNat) (x:=List.set (t.getD g.toNat []) k.toNat (max ((t.getD g.toNat []).getD k.toNat 0) (IntKind.i64.wrap (1+((t.getD ((IntKind.i64.wrap (g+1)).toNat) []).getD ((IntKind.i64.wrap (k+1)).toNat) 0))))) (by first|omega|(simp only[length_set,length_append,length_cons,length_nil]at *;omega)) rfl;obtain⟨q,aA,w⟩:=jK w;refine ei (plan:=pl [(0,none),(1,none),(2,none),(3,none),(4,none),(5,none),(6,none),(7,none),(8,none),(9,none),(10,none),(11,none),(12,none),(13,none),(14,none),(15,none),(16,none),(17,none),(18,none),(19,none),(20,none),(21,none),(22,none),(23,none),(24,some [])]) (by kernel_rfl) rfl (by kernel_rfl) fun c4 bL aW=>?_
     suffices P:c4 [(0,lm ex c),(1,lm ex b),(6,pI (b.length:Int)),(7,.buf 0),(9,pI g),(10,pI k),(45,pI k),(46,pB (decide (0<=k))),(72,lm ex c),(73,pI g),(74,.rp [.s ay]),(75,pS ay),(76,lm ex b),(77,pI k),(78,.rp [.s az]),(79,pS az),(80,pB (decide (ay=az)))] [.nst false 188 1 0 1 (List.map zl q) none,.inn 3 1 (List.map zn q)]by
      have aB:=fun h=>ik (l:=t) (e:=zl) (d:=[]) (i:=g.toNat) h [];have aC:=fun h=>Gc (l:=t) (f:=zn) (d:=[]) (i:=g.toNat) h [];have aD:=fun h=>ik (l:=(t.getD g.toNat [])) (e:=zA) (d:=0) (i:=k.toNat) h [];have aE:=fun h=>ik (l:=t) (e:=zl) (d:=[]) (i:=(IntKind.i64.wrap (g+1)).toNat) h [];have aF:=fun h=>Gc (l:=t) (f:=zn) (d:=[]) (i:=(IntKind.i64.wrap (g+1)).toNat) h [];have aG:=fun h=>ik (l:=(t.getD ((IntKind.i64.wrap (g+1)).toNat) [])) (e:=zA) (d:=0) (i:=(IntKind.i64.wrap (k+1)).toNat) h [];subst aA;simp only[go_sem,simprocAttr,false_implies,and_true,true_and,eC,j,v,E,C,D,V,aB (by omega),aC (by omega),aD (by omega),aE (by omega),aF (by omega),aG (by omega)];first|refine aW _ _ _ _ ?_ P|refine⟨sL,aW _ _ _ _ ?_ P⟩
      simp only[go_sem,simprocAttr,false_implies,and_true,true_and,eC,j,v,E,C,D,V,aB (by omega),aC (by omega),aD (by omega),aE (by omega),aF (by omega),aG (by omega)];try exact eY
     refine bL _ _ (aU _ _ ?_);have A:=And.intro j (And.intro v (And.intro E (And.intro C (And.intro D (And.intro V aA)))));refine r6 ?_;simp only[zz,zw,↓reduceIte];refine⟨(IntKind.i64.wrap (k-1),q),w,?_⟩;simp only[go_sem,simprocAttr,A];try exact eY
    .refine Wp.skip (aU _ _ (r6 ?_));simp only[zz,zw,↓reduceIte];refine⟨(IntKind.i64.wrap (k-1),t),w,?_⟩;simp only[go_sem,simprocAttr,A];try exact eY
   .refine Wp.exit ?_;simp only[zz,zw,↓reduceIte];have w:=be _ w;try dsimp only at w
    refine bG _ _ _ _ ?_ (aT n w);simp only[go_sem,simprocAttr,A];try exact eY
  .refine Wp.exit ?_;simp only[zz,zw,↓reduceIte];have w:=bb _ w;try dsimp only at w
   refine bS _ _ _ _ ?_ (aZ bc w);simp only[go_sem,simprocAttr,A];try exact eY
 clear a1 H;have A:=j;refine q6 ?_;refine Wp.block ?_;obtain⟨cS,bf,w⟩:=ii w;refine Wp.loopN (fun s=>[(0,lm ex c),(1,lm ex b),(5,pI (c.length:Int)),(6,pI (b.length:Int)),(7,.buf 0),(26,pI (J.length:Int)),(27,pI s.1)]) (fun s=>[.nst false 188 1 0 1 (List.map zl s.2) none,.inn 3 1 (List.map zn s.2)]) ?_ w ?_
 .simp only[go_sem,simprocAttr,A];try exact eY
 clear w;intro s ci w;obtain⟨p,W⟩:=s;try dsimp only at w|-
 refine q6 ?_;refine da fun _ bM _=>cN w (fun w=>?_) fun w=>?_
 .refine Wp.skip (bM _ _ (da fun _ bN _=>Wp.block (q6 ?_)));obtain⟨cU,w⟩:=zh w;obtain⟨cV,w⟩:=zh w;have Y:=PO (f:=zl) (l:=W) (d:=[]) (i:=p.toNat) (x:=List.replicate ((IntKind.i64.wrap ((b.length:Int)+1)).toNat) 0) (by first|omega|(simp only[length_set,length_append,length_cons,length_nil]at *;omega)) rfl;obtain⟨a0,aH,w⟩:=jK w;refine eh fun c5 bO aX=>?_
  suffices Q:c5 [(0,lm ex c),(1,lm ex b),(5,pI (c.length:Int)),(6,pI (b.length:Int)),(7,.buf 0),(8,pI p),(26,pI (J.length:Int)),(27,pI p),(28,pB (decide (p<(J.length:Int)))),(29,pI p)] [.nst false 188 1 0 1 (List.map zl a0) none,.inn 3 1 (List.map zn a0),.gone]by
   have aI:=fun h=>Gc (l:=W) (f:=zn) (d:=[]) (i:=p.toNat) h [];subst aH;simp only[go_sem,simprocAttr,false_implies,and_true,true_and,eC,j,Y,aI (by omega)];first|refine aX _ _ _ _ ?_ Q|refine⟨sL,aX _ _ _ _ ?_ Q⟩
   simp only[go_sem,simprocAttr,false_implies,and_true,true_and,eC,j,Y,aI (by omega)];try exact eY
  refine bO _ _ (bN _ _ ?_);have A:=And.intro j (And.intro Y aH);refine r6 ?_;simp only[zz,zw,↓reduceIte];refine⟨(IntKind.i64.wrap (p+1),a0),w,?_⟩;simp only[go_sem,simprocAttr,A];try exact eY
 .refine Wp.exit ?_;simp only[zz,zw,↓reduceIte];have w:=bf _ w;try dsimp only at w
  refine bQ _ _ _ _ ?_ (aY W w);simp only[go_sem,simprocAttr,A];try exact eY
theorem UN(c:ao)(b:ao)(z:Bool)(w:IH c b=some z):Does prog 183 [.agg [pI c.M,pI c.L],.rp [.i .i64 b.M,.i .i64 b.L]] [] (fun r X=>r=pB z/\X=[]):=by
 unfold IH at w;refine dW 0 9 [.tmp 3] func183 fun B=>nA fun A=>?_;refine qS ?_;exact wQ
theorem Vj(c:List ao)(b:ao)(z:Int)(w:GR c b=some z):Does prog 182 [lm z8 c,.fn 183 [.rp [.i .i64 b.M,.i .i64 b.L]]] [] (fun r X=>r=pI z/\X=[]):=by
 unfold GR at w;refine dW 0 19 [.tmp 4] func182 fun B=>nA fun A=>?_;refine qS ?_;refine da fun a l t=>?_;obtain⟨u,f,w⟩:=zo w;have j:∀s,u s=some z->a [] []:=by
  intro s hs;have w:=f _ hs;clear hs;try dsimp only at w|-
  exact l _ _ (wQ)
 clear l f;refine qS ?_;refine Wp.block ?_;obtain⟨I,m,w⟩:=zq w;refine fL 0 c.length fun n=>?_;refine Wp.forL (fun g s=>[(0,lm z8 c),(1,.fn 183 [.rp [.i .i64 b.M,.i .i64 b.L]]),(7,pI (c.length:Int)),(8,pI (g:Int))]) (fun g s=>[]) wF w ?_;clear w;intro g s D w;try dsimp only at w|-
 refine qS ?_;refine lB z8 w n (fun h=>t _ _ _ _ wF (j () (m _ h))) fun o J v G E F k w A _ C=>?_;refine q6 ?_;obtain⟨N,p,w⟩:=zd w;refine sX (fun d=>UN v b _ p) ?_;refine cR w fun w=>?_;refine Wp.skip (C _ _ (r6 ?_));exact wN () o (k _ w)
theorem IM(b:List ev)(c:ev)(z:ev)(w:uO b c=some z):Does prog 32 [lm ex b,pS c] [] (fun r X=>r=pS z/\X=[]):=by
 unfold uO at w;refine dW 0 75 [.tmp 4] func32 fun B=>nA fun A=>?_;refine qS ?_;refine da fun _ a _=>qS ?_;refine Wp.block (qS ?_);refine cR w fun w=>?_;refine qS ?_;refine cN w (fun w=>?_) fun w=>?_
 .obtain⟨af,aE,g,aF,w⟩:=gk w;replace g:∀d,(List.map ex b).getD 0 d=ex af:=g ex;have A:=g;exact wQ
 .refine Wp.skip (a _ _ (qS ?_));refine da fun e o p=>?_;obtain⟨q,t,w⟩:=zo w
  have l:∀s,q s=some z->e [(0,lm ex b),(1,pS c),(5,pI s)] []:=by
   intro aM hs;have w:=t _ hs;clear hs;try dsimp only at w|-
   refine o _ _ (da fun a0 u Z=>?_);obtain⟨x,v,w⟩:=zo w;have C:∀s,x s=some z->a0 [(0,lm ex b),(1,pS c),(5,pI s)] []:=by
    intro y hs;have w:=v _ hs;clear hs;try dsimp only at w|-
    refine u _ _ (qS ?_);refine dz 0 5 rfl ?_;simp only[go_sem,simprocAttr];obtain⟨aN,M,w⟩:=zd w;refine sO [0,1] (S4 y [] _ M) ?_;obtain⟨Y,aG,f,aH,w⟩:=gk w;replace f:∀d,(List.map ex b).getD 0 d=ex Y:=f ex;obtain⟨aO,N,w⟩:=zd w;have A:=f;refine sO [0,1] (zF Y [] _ N) ?_;refine da fun a1 D H=>?_;obtain⟨K,E,w⟩:=zo w;have F:∀s,K s=some z->a1 [(8,.ptr 0 0)] [.cells 82 [.np 0,.buf 1],.sb 5 s]:=by
     intro O hs;have w:=E _ hs;clear hs;try dsimp only at w|-
     refine D _ _ ?_;obtain⟨aP,P,w⟩:=zd w;refine sO [0,1] (I1 O _ P) ?_;exact wR
    clear D E;obtain⟨aQ,w⟩:=zh w;refine q6 ?_;refine Wp.block ?_;obtain⟨aR,Q,w⟩:=zq w;refine fL 63 ((List.drop 1 b).length) fun R=>?_;refine Wp.forL (fun G s=>[(1,pS c),(8,.ptr 0 0),(63,lm ex (List.drop 1 b)),(64,pI ((List.drop 1 b).length:Int)),(65,pI (G:Int))]) (fun G s=>[.cells 82 [.np 0,.buf 1],.sb 5 s]) ?_ w ?_
    .simp only[go_sem,simprocAttr,A];try exact eY
    clear w;intro G n aI w;try dsimp only at w|-
    refine q6 ?_;refine da fun _ a2 _=>Wp.cond rfl ⟨⟩ (fun i=>?_) (fun i=>?_);rotate_left
    .refine Wp.exit ?_;have w:=Q _ (jg w (ux (by first|exact i|simpa using i)));try dsimp only at w
     refine H _ _ _ _ ?_ (F n w);simp only[go_sem,simprocAttr,A];try exact eY
    have j:=j7 i;have a3:=iL j R;obtain⟨aA,aJ,k,aK,I,w⟩:=jj w j;replace k:=k ex;refine Wp.skip ?_;simp only[zz];refine a2 _ _ (da fun _ a4 _=>Wp.block ?_);have A:=And.intro f (And.intro a3 k);refine q6 ?_;obtain⟨a5,S,w⟩:=zd w;refine sO [0,1] (zF c n _ S) ?_;obtain⟨a6,T,w⟩:=zd w;refine eO [0,1] (zF aA a5.2 _ T) ?_;refine a4 _ _ (r6 ?_);exact wN a6.2 j (I _ w)
   clear u v;refine qS ?_;refine Wp.block ?_;obtain⟨aS,U,w⟩:=zq w;refine fL 0 b.length fun V=>?_;refine Wp.forL (fun m s=>[(0,lm ex b),(1,pS c),(5,pI s),(39,lm ex b),(40,pI (b.length:Int)),(41,pI (m:Int))]) (fun m s=>[]) wF w ?_;clear w;intro m J aB w;try dsimp only at w|-
   refine qS ?_;refine lB ex w V (fun h=>Z _ _ _ _ wF (C J (U _ h))) fun W aT a7 aL aC aD L w A _ a8=>?_;refine q6 ?_;refine da fun _ a9 _=>q6 ?_;refine cN w (fun w=>?_) fun w=>?_
   .cases w
   .refine Wp.skip (a9 _ _ (r6 ?_));refine a8 _ _ (r6 ?_);exact wN (IntKind.i64.wrap (J+(a7.length:Int))) W (L _ w)
  clear o t;refine qS ?_;refine cN w (fun w=>?_) fun w=>?_
  .refine da fun _ ac _=>?_;obtain⟨aU,w⟩:=zh w;refine q6 ?_;refine cN w (fun w=>?_) fun w=>?_
   .cases w
   .refine Wp.skip (ac _ _ (qR ?_));refine p _ _ _ _ ?_ (l (IntKind.i64.wrap (0+(IntKind.i64.wrap ((c.length:Int)*(IntKind.i64.wrap ((b.length:Int)-1)))))) w);exact fc
  .refine Wp.skip (p _ _ _ _ ?_ (l 0 w));exact fc
theorem U7(c:ev)(b:ev)(z:Bool)(w:N4 c b=some z):Does prog 199 [pS c,pS b] [] (fun r X=>r=pB z/\X=[]):=by
 unfold N4 at w;refine dW 0 21 [.tmp 4] func199 fun B=>nA fun A=>?_;refine qS ?_;obtain⟨f,w⟩:=zh w;exact wQ
theorem UK(c:ev)(b:ev)(z:Bool)(w:GN c b=some z):Does prog 181 [pS c,pS b] [] (fun r X=>r=pB z/\X=[]):=by
 unfold GN at w;refine dW 0 8 [.tmp 4] func181 fun B=>nA fun A=>?_;refine qS ?_;obtain⟨g,f,w⟩:=zd w;refine sX (fun a=>U7 c b _ f) ?_;exact wR
theorem S0(b:ev)(z:ev)(w:II b=some z):Does prog 180 [pS b] [] (fun r X=>r=pS z/\X=[]):=by
 unfold II at w;refine dW 0 13 [.tmp 2] func180 fun B=>nA fun A=>?_;refine qS ?_;refine da fun _ c _=>?_;obtain⟨i,f,w⟩:=zx w;refine sX (g:=!decide (b=[])) (fun a=>UK b ([10]:ev) _ (f a)) ?_;refine cN w (fun w=>?_) fun w=>?_
 .obtain⟨j,w⟩:=zh w;refine r6 ?_;exact c _ _ (wQ)
 .exact Wp.skip (c _ _ (wQ))
theorem SY(m:Int)(n:Int)(o:Int)(g:List ev)(b:Int)(i:List ev)(c:Int)(j:List ev)(f:Int)(k:ev)(l:Int)(z:ev×Int)(w:yO m n o g b i c j f k l=some z):Does prog 179 [pI m,pI n,pI o,.ptr 0 0,.ptr 1 0,.ptr 2 0,.ptr 3 0,.ptr 4 0,.ptr 5 0,.ptr 6 0,.ptr 7 0] [.cells 45 [lm ex g],.cells 3 [pI b],.cells 45 [lm ex i],.cells 3 [pI c],.cells 45 [lm ex j],.cells 3 [pI f],.cells 9 [pS k],.cells 3 [pI l]] (fun r X=>r=.tup []/\X=[.cells 45 [lm ex g],.cells 3 [pI b],.cells 45 [lm ex i],.cells 3 [pI c],.cells 45 [lm ex j],.cells 3 [pI f],.cells 9 [pS z.1],.cells 3 [pI z.2]]):=by
 unfold yO at w;refine dW 8 66 [] func179 fun B=>nA fun A=>?_;obtain⟨I,w⟩:=zh w;obtain⟨J,p,w⟩:=zd w;obtain⟨L,w⟩:=zh w;obtain⟨D,t,w⟩:=zd w;obtain⟨M,w⟩:=zh w;obtain⟨E,u,w⟩:=zd w;refine dS (pl [(0,none),(1,none),(2,none),(3,none),(4,none),(5,none),(6,none),(7,none),(8,none),(9,none),(10,none),(11,none),(12,none),(13,none),(14,none),(15,none),(16,none),(17,none)]) fun _ G=>?_;refine cD (fun a=>IM (List.take (m.toNat-b.toNat) (List.drop b.toNat g)) [] _ p) ?_;refine cD (fun a=>IM (List.take (n.toNat-c.toNat) (List.drop c.toNat i)) [] _ t) ?_;refine cD (fun a=>IM (List.take (o.toNat-f.toNat) (List.drop f.toNat j)) [] _ u) (G _ _ ?_);refine Wp.block (qS ?_);refine cN w (fun w=>?_) fun w=>?_
 .obtain⟨N,w⟩:=zh w;refine r6 ?_;simp only[zz,zw,↓reduceIte];refine zJ ?_;cases w;exact fc
 .refine qS ?_;refine cN w (fun w=>?_) fun w=>?_
  .obtain⟨O,w⟩:=zh w;refine r6 ?_;simp only[zz,zw,↓reduceIte];refine zJ ?_;cases w;exact fc
  .refine qS ?_;refine qS ?_;obtain⟨P,v,w⟩:=zd w;obtain⟨Q,w⟩:=zh w;obtain⟨R,w⟩:=zh w;obtain⟨S,C,w⟩:=zd w;obtain⟨T,w⟩:=zh w;obtain⟨U,w⟩:=zh w;obtain⟨V,w⟩:=zh w;refine dE (pl [(0,none),(1,none),(2,none),(3,none),(4,none),(5,none),(6,none),(7,none),(8,none),(9,none),(10,none),(11,none),(12,some [])]) fun _ F=>?_;refine cD (fun a=>S0 D _ v) ?_;refine cD (fun a=>S0 E _ C) (F _ _ ?_);simp only[zz,zw,↓reduceIte];refine zJ ?_;cases w;exact fc
theorem T1(b:ev)(u:ev)(v:ev)(z:ev×Int×Int)(w:CU b u v=some z):Does prog 152 [pS b,pS u,pS v] [] (fun r X=>r=.tup [pS z.1,pI z.2.1,pI z.2.2]/\X=[]):=by
 unfold CU at w;refine dW 0 103 [.tmp 6,.tmp 7,.tmp 8] func152 fun B=>nA fun A=>?_;refine qS ?_;refine da fun _ e _=>?_;obtain⟨q,a0,w⟩:=zd w;obtain⟨x,y,w⟩:=zd w;obtain⟨aU,a1,w⟩:=zd w;refine rS fun _ H=>?_;refine cX (fun a=>SP b u _ a0) ?_;refine cX (fun a=>SP b v _ y) ?_;refine cX (fun a=>qP [q,x] _ a1) (H _ _ ?_);refine qS ?_;refine cR w fun w=>?_;refine Wp.skip (e _ _ ?_);obtain⟨l,K,w⟩:=zd w;obtain⟨n,af,w⟩:=zd w;obtain⟨p,ag,w⟩:=zd w;refine rS fun _ an=>?_;refine cF (Nt b _ K) ?_;refine cF (Nt u _ af) ?_;refine cF (Nt v _ ag) (an _ _ ?_);obtain⟨R,aw,w⟩:=zd w;obtain⟨S,ay,w⟩:=zd w;refine dl (plan:=pl [(0,none),(1,none),(3,none),(4,none),(2,some [3,4]),(5,some []),(6,none),(7,none)]) (by kernel_rfl) rfl (by kernel_rfl) fun aY az=>?_;simp only[go_sem,simprocAttr];try refine⟨sd,?_⟩
 refine dc (Br.callR (av:=?av15) (g:=true) (o:=?o15) [] (fun a=>Ry l n _ aw) si si si si si sg sg sg sg ?cont15);simp only[go_sem,simprocAttr];try refine⟨sd,?_⟩
 refine dc (Br.callR (av:=?av16) (g:=true) (o:=?o16) [] (fun a=>Ry l p _ ay) si si si si si sg sg sg sg ?cont16);simp only[go_sem,simprocAttr];refine kA az ?_;refine qS ?_;refine qS ?_;refine qS ?_;refine qS ?_;refine da fun aL T aA=>?_;obtain⟨aB,F,w⟩:=zo w;have U:∀s,aB s=some z->aL [(10,.ptr 0 0),(11,.ptr 1 0),(12,.ptr 2 0),(15,.ptr 3 0),(16,.ptr 4 0),(20,.fn 179 [.ptr 0 0,.ptr 5 0,.ptr 1 0,.ptr 6 0,.ptr 2 0,.ptr 7 0,.ptr 3 0,.ptr 4 0])] [.cells 45 [lm ex l],.cells 45 [lm ex n],.cells 45 [lm ex p],.cells 9 [pS s.1],.cells 3 [pI s.2.1],.cells 3 [pI s.2.2.1],.cells 3 [pI s.2.2.2.1],.cells 3 [pI s.2.2.2.2]]:=by
  intro s hs;have w:=F _ hs;clear hs;obtain⟨J,N,O,P,Q⟩:=s;try dsimp only at w|-
  refine T _ _ ?_;obtain⟨aV,a3,w⟩:=zd w;refine sO [0,5,1,6,2,7,3,4] (SY (l.length:Int) (n.length:Int) (p.length:Int) l O n P p Q J N _ a3) ?_;refine da fun _ aC _=>qS ?_;refine cR w fun w=>?_;refine Wp.skip (aC _ _ (dS (pl [(0,none),(1,none),(2,none),(3,none),(4,none)]) fun _ aD=>aD _ _ ?_));exact wR
 clear T F;refine qS ?_;refine Wp.block ?_;obtain⟨aW,a4,w⟩:=zq w;refine fL 48 R.length fun a5=>?_;refine Wp.forL (fun E s=>[(10,.ptr 0 0),(11,.ptr 1 0),(12,.ptr 2 0),(14,lm z8 S),(15,.ptr 3 0),(16,.ptr 4 0),(17,.ptr 5 0),(18,.ptr 6 0),(19,.ptr 7 0),(20,.fn 179 [.ptr 0 0,.ptr 5 0,.ptr 1 0,.ptr 6 0,.ptr 2 0,.ptr 7 0,.ptr 3 0,.ptr 4 0]),(48,lm z8 R),(49,pI (R.length:Int)),(50,pI (E:Int))]) (fun E s=>[.cells 45 [lm ex l],.cells 45 [lm ex n],.cells 45 [lm ex p],.cells 9 [pS s.1],.cells 3 [pI s.2.1],.cells 3 [pI s.2.2.1],.cells 3 [pI s.2.2.2.1],.cells 3 [pI s.2.2.2.2]]) wF w ?_;clear w;intro E s aM w;obtain⟨c,f,i,j,k⟩:=s;try dsimp only at w|-
 refine qS ?_;refine lB z8 w a5 (fun h=>aA _ _ _ _ wF (U (c,f,i,j,k) (a4 _ h))) fun G V t aN I aO D w A _ W=>?_;refine q6 ?_;obtain⟨aE,a6,w⟩:=zd w;refine sX (fun a=>Vj S t _ a6) ?_;refine da fun _ aF _=>q6 ?_;refine cN w (fun w=>?_) fun w=>?_
 .refine Wp.exit (W _ _ (r6 ?_));exact wN (c,f,i,j,k) G (D _ w)
 .refine Wp.skip (aF _ _ ?_);obtain⟨Y,aP,m,aQ,w⟩:=gk w;replace m:∀d,(List.map z8 S).getD aE.toNat d=z8 Y:=m z8;obtain⟨Z,a7,w⟩:=zd w;have A:=And.intro V (And.intro I m);refine dl (plan:=pl [(0,none),(1,none),(2,none),(3,none),(4,none),(5,none),(6,none),(7,none),(8,none),(9,none),(10,some [])]) (by kernel_rfl) rfl (by kernel_rfl) fun aZ aG=>?_;simp only[go_sem,simprocAttr,A];try refine⟨sd,?_⟩
  refine dc (dQ (av:=?av41) (o:=?o41) [0,5,1,6,2,7,3,4] (SY t.M t.L Y.L l i n j p k c f _ a7) (by simp only[go_sem,simprocAttr,A];exact Is.mk) (by simp only[go_sem,simprocAttr,A];exact Is.mk) (by simp only[go_sem,simprocAttr,A];exact Is.mk) (by simp only[go_sem,simprocAttr,A];exact Is.mk) (by simp only[go_sem,simprocAttr,A];exact Is.mk) (by simp only[go_sem,simprocAttr,A]) (by simp only[go_sem,simprocAttr,A]) (by simp only[go_sem,simprocAttr,A]) ?hag41 ?cont41);case hag41=>first|(simp only[go_sem,simprocAttr,A];done)|(simp only[go_sem,simprocAttr,A];exact sd)
  simp only[go_sem,simprocAttr,A];refine kA aG ?_;obtain⟨a8,aS,C,aT,w⟩:=gk w;replace C:∀d,(List.map ex l).getD t.M.toNat d=ex a8:=C ex;obtain⟨aX,w⟩:=zh w;have A:=And.intro V (And.intro I (And.intro m C));refine dS (pl [(0,none),(1,none),(2,none),(3,none),(4,none),(5,none),(6,none),(7,some [])]) fun _ aH=>aH _ _ ?_;refine dE (pl [(0,none),(1,none),(2,none),(3,none),(4,none),(5,none),(6,none),(7,none),(8,none),(9,none),(10,none),(11,none),(12,some [3,4,5,6,7,8,9,10,11]),(13,some [6,7,8,9,10,11]),(14,some [])]) fun _ aI=>aI _ _ ?_;refine W _ _ (r6 ?_);exact wN (Z.1++a8,Z.2,IntKind.i64.wrap (t.M+1),IntKind.i64.wrap (t.L+1),IntKind.i64.wrap (Y.L+1)) G (D _ w)
theorem UW(c:al)(f:ae)(z:Bool)(w:IR c f=some z):Does prog 151 [.agg [pI c.g,pS c.j.a,pS c.j.G,pB c.j.H,pS c.x.u,pS c.x.Value,pS c.h.C,pS c.h.a,pB c.h.I,pB c.h.J],.rp [.s f.a,.s f.G,.b f.H]] [] (fun r X=>r=pB z/\X=[]):=by
 unfold IR at w;refine dW 0 15 [.tmp 3] func151 fun B=>nA fun A=>?_;refine qS ?_;obtain⟨l,i,w⟩:=zd w;obtain⟨n,k,w⟩:=zx w;refine dS (pl [(0,none),(1,none),(2,none),(3,none),(4,none),(5,none),(6,none),(7,none),(8,none),(9,none),(10,none),(11,none)]) fun _ m=>?_;refine cD (fun d=>sI c.g _ i) ?_;refine cD (g:=decide (l=0)) (fun d=>OY c _ (k d)) (m _ _ ?_);exact wR
theorem Vy(f:List al)(c:ae)(z:Int)(w:N2 f c=some z):Does prog 118 [lm zj f,.fn 151 [.rp [.s c.a,.s c.G,.b c.H]]] [] (fun r X=>r=pI z/\X=[]):=by
 unfold N2 at w;refine dW 0 19 [.tmp 4] func118 fun B=>nA fun A=>?_;refine qS ?_;refine da fun d l t=>?_;obtain⟨u,g,w⟩:=zo w;have j:∀s,u s=some z->d [] []:=by
  intro s hs;have w:=g _ hs;clear hs;try dsimp only at w|-
  exact l _ _ (wQ)
 clear l g;refine qS ?_;refine Wp.block ?_;obtain⟨J,m,w⟩:=zq w;refine fL 0 f.length fun n=>?_;refine Wp.forL (fun i s=>[(0,lm zj f),(1,.fn 151 [.rp [.s c.a,.s c.G,.b c.H]]),(7,pI (f.length:Int)),(8,pI (i:Int))]) (fun i s=>[]) wF w ?_;clear w;intro i s D w;try dsimp only at w|-
 refine qS ?_;refine lB zj w n (fun h=>t _ _ _ _ wF (j () (m _ h))) fun o L v I E F k w A _ C=>?_;refine q6 ?_;obtain⟨M,p,w⟩:=zd w;refine sX (fun e=>UW v c _ p) ?_;refine cR w fun w=>?_;refine Wp.skip (C _ _ (r6 ?_));exact wN () o (k _ w)
theorem Vq(f:List al)(c:ae)(z:Bool)(w:zS f c=some z):Does prog 72 [lm zj f,.fn 151 [.rp [.s c.a,.s c.G,.b c.H]]] [] (fun r X=>r=pB z/\X=[]):=by
 unfold zS at w;refine dW 0 9 [.tmp 4] func72 fun B=>nA fun A=>?_;refine qS ?_;obtain⟨i,g,w⟩:=zd w;refine sX (fun d=>Vy f c _ g) ?_;exact wR
end Go.Proofs.YtpcihjdidhpbbaaGreatDoor
