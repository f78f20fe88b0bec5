/- That the code does what the models say (part 9). -/
import Derived.Test.YtkojogldchfkkaaGreatDoorScWk0
import Derived.Test.YtkojogldchfkkaaGreatDoorScWk4
import Derived.Test.YtkojogldchfkkaaGreatDoorScWk7
import Derived.Test.YtkojogldchfkkaaGreatDoorScWk8
set_option linter.unusedSimpArgs false
set_option linter.unusedVariables false
open Go.Proofs Go.Shelf
open List
namespace Go.Proofs.YtkojogldchfkkaaGreatDoor
open Tryz
open Go.Vc Go.Md
set_option maxRecDepth 100000
set_option maxHeartbeats 4000000
theorem Qn(b:eA)(c:List (eA×ab))(z:Bool)(hm:Ic b c=some z):Does prog 189 [.mp 0,pS b] [.mp true (zm Dt.s zc c)] (fun r X=>r=pB z/\X=[.mp true (zm Dt.s zc c)]):=by
 unfold Ic at hm
 refine dW 1 15 [.tmp 4] func189 fun B=>nA fun hA=>?_
 refine qS ?_;obtain⟨j,i,hm⟩:=zI hm;have f:=zw (e:=zc) zZ c b (ab.mk [] [] false);have g:=zu (e:=zc) zZ c b;simp only[i,zc,map_nil]at f g;have hA:=And.intro f g;refine q6 ?_;exact wQ
theorem Qs(b:eA)(c:List (eA×aa))(z:Bool)(hm:Ii b c=some z):Does prog 190 [.mp 0,pS b] [.mp true (zm Dt.s za c)] (fun r X=>r=pB z/\X=[.mp true (zm Dt.s za c)]):=by
 unfold Ii at hm
 refine dW 1 15 [.tmp 4] func190 fun B=>nA fun hA=>?_
 refine qS ?_;obtain⟨j,i,hm⟩:=zI hm;have f:=zw (e:=za) zZ c b (aa.mk [] []);have g:=zu (e:=za) zZ c b;simp only[i,za,map_nil]at f g;have hA:=And.intro f g;refine q6 ?_;exact wQ
theorem Qr(b:eA)(c:List (eA×ah))(z:Bool)(hm:Ih b c=some z):Does prog 191 [.mp 0,pS b] [.mp true (zm Dt.s zb c)] (fun r X=>r=pB z/\X=[.mp true (zm Dt.s zb c)]):=by
 unfold Ih at hm
 refine dW 1 15 [.tmp 4] func191 fun B=>nA fun hA=>?_
 refine qS ?_;obtain⟨j,i,hm⟩:=zI hm;have f:=zw (e:=zb) zZ c b (ah.mk [] [] false false);have g:=zu (e:=zb) zZ c b;simp only[i,zb,map_nil]at f g;have hA:=And.intro f g;refine q6 ?_;exact wQ
theorem Sf(b:ae)(i:List aa)(l:List (eA×ab))(v:List (eA×Int))(m:List (eA×aa))(n:List (eA×ah))(z:Int)(hm:KZ b i l v m n=some z):Does prog 157 [.ptr 0 0,.agg [pI b.k,pS b.g.a,pS b.g.q,pB b.g.r,pS b.o.e,pS b.o.Value,pS b.f.j,pS b.f.a,pB b.f.u,pB b.f.t]] [.cells 181 [lm za i,.mp 1,.mp 2,.mp 3,.mp 4],.mp true (zm Dt.s zc l),.mp false (zm Dt.s zE v),.mp true (zm Dt.s za m),.mp true (zm Dt.s zb n)] (fun r X=>r=pI z/\X=[.cells 181 [lm za i,.mp 1,.mp 2,.mp 3,.mp 4],.mp true (zm Dt.s zc l),.mp false (zm Dt.s zE v),.mp true (zm Dt.s za m),.mp true (zm Dt.s zb n)]):=by
 unfold KZ at hm
 refine dW 5 97 [.tmp 4] func157 fun B=>nA fun hA=>?_
 refine qS ?_;refine qS ?_
 refine df fun K3 J p=>?_
 obtain⟨Z,C,hm⟩:=zj hm
 have c:∀s,Z s=some z->K3 [(5,pB s.1),(6,pI s.2.1),(7,pI s.2.2)] [.cells 181 [lm za i,.mp 1,.mp 2,.mp 3,.mp 4],.mp true (zm Dt.s zc l),.mp false (zm Dt.s zE v),.mp true (zm Dt.s za m),.mp true (zm Dt.s zb n)]:=by
  intro s hs;have hm:=C _ hs;clear hs;obtain⟨V,W,Y⟩:=s
  try dsimp only at hm|-
  refine J _ _ (df fun _ a0 _=>qS ?_)
  refine cR hm fun hm=>?_
  refine Wp.skip (a0 _ _ (df fun _ a1 _=>qS ?_))
  refine cR hm fun hm=>?_
  exact Wp.skip (a1 _ _ (wQ))
 clear J C;refine qS ?_;refine Wp.block (qS ?_)
 refine cN hm (fun hm=>?_) fun hm=>?_
 .refine df fun _ L _=>?_
  obtain⟨a4,D,hm⟩:=zd hm;refine sQ [0,1,2,3,4] (fun hg=>Sj b.g.a i l v m n _ D) ?_
  refine cR hm fun hm=>?_
  refine Wp.skip (L _ _ ?_);obtain⟨a5,E,hm⟩:=zd hm
  refine dn (plan:=pl [(0,none),(1,none),(2,none),(3,none),(4,none),(5,none),(6,none),(7,some [])]) (by kernel_rfl) rfl (by kernel_rfl) fun a8 M=>?_
  simp only[go_sem,simprocAttr]
  try refine⟨sd,?_⟩
  refine dj (Br.callR (av:=?av22) (g:=true) (o:=?o22) [1] (fun hg=>Qn b.g.a l _ E) si si si si si sg sg sg sg ?cont22);simp only[go_sem,simprocAttr];refine kA M ?_
  refine cN hm (fun hm=>?_) fun hm=>?_
  .refine qR ?_
   refine p _ _ _ _ ?_ (c (false,IntKind.i64.wrap ((l.length:Int)+1),2000) hm);exact gf
  .refine Wp.skip (p _ _ _ _ ?_ (c (false,0,1) hm))
   exact gf
 .refine qS ?_
  refine cN hm (fun hm=>?_) fun hm=>?_
  .obtain⟨a2,N,hm⟩:=zd hm
   refine dD (plan:=pl [(0,none),(1,none),(2,none),(3,none),(4,none),(5,none),(6,none),(7,some []),(8,none)]) (by kernel_rfl) rfl (by kernel_rfl) fun a9 O=>?_
   simp only[go_sem,simprocAttr]
   try refine⟨sd,?_⟩
   refine dj (Br.callR (av:=?av28) (g:=true) (o:=?o28) [1] (fun hg=>Qn b.g.a l _ N) si si si si si sg sg sg sg ?cont28);simp only[go_sem,simprocAttr];refine kA O ?_;refine p _ _ _ _ ?_ (c (a2,0,1) hm);exact gf
  .refine qS ?_
   refine cN hm (fun hm=>?_) fun hm=>?_
   .obtain⟨a6,F,hm⟩:=zd hm
    refine dn (plan:=pl [(0,none),(1,none),(2,none),(3,none),(4,none),(5,none),(6,none),(7,some [])]) (by kernel_rfl) rfl (by kernel_rfl) fun ac P=>?_
    simp only[go_sem,simprocAttr]
    try refine⟨sd,?_⟩
    refine dj (Br.callR (av:=?av32) (g:=true) (o:=?o32) [3] (fun hg=>Qs b.o.e m _ F) si si si si si sg sg sg sg ?cont32);simp only[go_sem,simprocAttr];refine kA P ?_
    refine cN hm (fun hm=>?_) fun hm=>?_
    .refine qR ?_
     refine p _ _ _ _ ?_ (c (false,IntKind.i64.wrap ((m.length:Int)+1),2000) hm);exact gf
    .refine Wp.skip (p _ _ _ _ ?_ (c (false,0,1) hm))
     exact gf
   .refine qS ?_
    refine cN hm (fun hm=>?_) fun hm=>?_
    .obtain⟨a3,Q,hm⟩:=zd hm
     refine dD (plan:=pl [(0,none),(1,none),(2,none),(3,none),(4,none),(5,none),(6,none),(7,some []),(8,none)]) (by kernel_rfl) rfl (by kernel_rfl) fun ad R=>?_
     simp only[go_sem,simprocAttr]
     try refine⟨sd,?_⟩
     refine dj (Br.callR (av:=?av38) (g:=true) (o:=?o38) [3] (fun hg=>Qs b.o.e m _ Q) si si si si si sg sg sg sg ?cont38);simp only[go_sem,simprocAttr];refine kA R ?_;refine p _ _ _ _ ?_ (c (a3,0,1) hm);exact gf
    .refine qS ?_
     refine cN hm (fun hm=>?_) fun hm=>?_
     .obtain⟨a7,G,hm⟩:=zd hm
      refine dn (plan:=pl [(0,none),(1,none),(2,none),(3,none),(4,none),(5,none),(6,none),(7,some [])]) (by kernel_rfl) rfl (by kernel_rfl) fun af S=>?_
      simp only[go_sem,simprocAttr]
      try refine⟨sd,?_⟩
      refine dj (Br.callR (av:=?av42) (g:=true) (o:=?o42) [4] (fun hg=>Qr b.f.j n _ G) si si si si si sg sg sg sg ?cont42);simp only[go_sem,simprocAttr];refine kA S ?_
      refine cN hm (fun hm=>?_) fun hm=>?_
      .refine qR ?_
       refine p _ _ _ _ ?_ (c (false,IntKind.i64.wrap ((n.length:Int)+1),100) hm);exact gf
      .refine Wp.skip (p _ _ _ _ ?_ (c (false,0,1) hm))
       exact gf
     .refine qS ?_
      refine cN hm (fun hm=>?_) fun hm=>?_
      .obtain⟨T,I,hm⟩:=zd hm
       refine dD (plan:=pl [(0,none),(1,none),(2,none),(3,none),(4,none),(5,none),(6,none),(7,some []),(8,none)]) (by kernel_rfl) rfl (by kernel_rfl) fun ag U=>?_
       simp only[go_sem,simprocAttr]
       try refine⟨sd,?_⟩
       refine dj (Br.callR (av:=?av48) (g:=true) (o:=?o48) [4] (fun hg=>Qr b.f.j n _ I) si si si si si sg sg sg sg ?cont48);simp only[go_sem,simprocAttr];refine kA U ?_;refine p _ _ _ _ ?_ (c (T,0,1) hm);exact gf
      .refine Wp.skip (p _ _ _ _ ?_ (c (false,0,1) hm))
       exact gf
theorem Sc(b:eA)(c:List aa)(f:List (eA×ab))(j:List (eA×Int))(g:List (eA×aa))(i:List (eA×ah))(z:(List (eA×ab))×(List (eA×Int)))(hm:H6 b c f j g i=some z):Does prog 158 [.ptr 0 0,pS b] [.cells 181 [lm za c,.mp 1,.mp 2,.mp 3,.mp 4],.mp true (zm Dt.s zc f),.mp false (zm Dt.s zE j),.mp true (zm Dt.s za g),.mp true (zm Dt.s zb i)] (fun r X=>r=.tup []/\X=[.cells 181 [lm za c,.mp 1,.mp 2,.mp 3,.mp 4],.mp true (zm Dt.s zc z.1),.mp false (zm Dt.s zE z.2),.mp true (zm Dt.s za g),.mp true (zm Dt.s zb i)]):=by
 unfold H6 at hm
 refine dW 5 12 [] func158 fun B=>nA fun hA=>?_
 have k:=Bg (e:=zc) zZ f b;have hA:=k;refine q6 ?_;obtain⟨m,l,hm⟩:=zd hm;refine eO [0,1,2,3,4] (Qg b (-1) c (gg f b) j g i _ l) ?_;refine uy ?_;cases hm;exact gf
theorem RY(b:ae)(c:List aa)(n:List (eA×ab))(p:List (eA×Int))(i:List (eA×aa))(l:List (eA×ah))(z:Int×(List (eA×ab))×(List (eA×Int))×(List (eA×aa))×(List (eA×ah)))(hm:FM b c n p i l=some z):Does prog 114 [.ptr 0 0,.agg [pI b.k,pS b.g.a,pS b.g.q,pB b.g.r,pS b.o.e,pS b.o.Value,pS b.f.j,pS b.f.a,pB b.f.u,pB b.f.t]] [.cells 181 [lm za c,.mp 1,.mp 2,.mp 3,.mp 4],.mp true (zm Dt.s zc n),.mp false (zm Dt.s zE p),.mp true (zm Dt.s za i),.mp true (zm Dt.s zb l)] (fun r X=>r=pI z.1/\X=[.cells 181 [lm za c,.mp 1,.mp 2,.mp 3,.mp 4],.mp true (zm Dt.s zc z.2.1),.mp false (zm Dt.s zE z.2.2.1),.mp true (zm Dt.s za z.2.2.2.1),.mp true (zm Dt.s zb z.2.2.2.2)]):=by
 unfold FM at hm
 refine dW 5 73 [.tmp 4] func114 fun B=>nA fun hA=>?_
 refine qS ?_
 refine df fun _ P _=>?_
 obtain⟨U,G,hm⟩:=zd hm;refine sX (fun hg=>Qd b _ G) ?_;refine qS ?_
 refine cR hm fun hm=>?_
 refine Wp.skip (P _ _ (df fun _ Q _=>?_));obtain⟨V,I,hm⟩:=zd hm;refine sQ [0,1,2,3,4] (fun hg=>Sf b c n p i l _ I) ?_;refine qS ?_
 refine cR hm fun hm=>?_
 refine Wp.skip (Q _ _ (df fun _ m _=>qS ?_));refine Wp.block (qS ?_)
 refine cN hm (fun hm=>?_) fun hm=>?_
 .obtain⟨W,J,hm⟩:=zd hm
  refine eO [0,1,2,3,4] (Qb b.g c n p i l _ J) ?_;exact m _ _ (wQ)
 .refine qS ?_
  refine cN hm (fun hm=>?_) fun hm=>?_
  .obtain⟨R,D,hm⟩:=zd hm
   refine eO [0,1,2,3,4] (Sc b.g.a c n p i l _ D) ?_;exact m _ _ (wQ)
  .refine qS ?_
   refine cN hm (fun hm=>?_) fun hm=>?_
   .obtain⟨S,hm⟩:=zh hm
    have v:=mD (e:=za) zZ i b.o.e b.o;simp only[za,map_nil]at v;have hA:=v
    refine dE (pl [(0,none),(1,none),(2,none),(3,none),(4,none),(5,none),(6,none),(7,none),(8,none),(9,some [])]) fun _ L=>L _ _ ?_
    exact m _ _ (wQ)
   .refine qS ?_
    refine cN hm (fun hm=>?_) fun hm=>?_
    .have E:=Bg (e:=za) zZ i b.o.e
     have hA:=E
     refine dE (pl [(0,none),(1,none),(2,none),(3,none),(4,none),(5,none),(6,none),(7,some [])]) fun _ M=>M _ _ ?_
     exact m _ _ (wQ)
    .refine qS ?_
     refine cN hm (fun hm=>?_) fun hm=>?_
     .obtain⟨T,hm⟩:=zh hm
      have C:=mD (e:=zb) zZ l b.f.j b.f;simp only[zb,map_nil]at C;have hA:=C
      refine dE (pl [(0,none),(1,none),(2,none),(3,none),(4,none),(5,none),(6,none),(7,none),(8,none),(9,some [])]) fun _ N=>N _ _ ?_
      exact m _ _ (wQ)
     .refine qS ?_
      refine cN hm (fun hm=>?_) fun hm=>?_
      .have F:=Bg (e:=zb) zZ l b.f.j
       have hA:=F
       refine dE (pl [(0,none),(1,none),(2,none),(3,none),(4,none),(5,none),(6,none),(7,some [])]) fun _ O=>O _ _ ?_
       exact m _ _ (wQ)
      .exact Wp.skip (m _ _ (wQ))
theorem S4(b:List (eA×ab))(z:Unit)(hm:zQ b=some z):Does prog 193 [.mp 0] [.mp true (zm Dt.s zc b)] (fun r X=>r=.fn 233 [.ptr 1 0]/\X=[.mp true (zm Dt.s zc b),.cells 63 [.mp 0]]):=by
 unfold zQ at hm
 refine dW 2 4 [.tmp 2] func193 fun B=>nA fun hA=>?_
 refine qS ?_;exact wQ
theorem Sl(m1:List (eA×ab))(z:List eA)(hm:Qh m1=some z):Does prog 192 [.fn 233 [.ptr 0 0]] [.cells 63 [.mp 1],.mp true (zm Dt.s zc m1)] (fun r X=>r=lm eD z/\X=[.cells 63 [.mp 1],.mp true (zm Dt.s zc m1)]):=by
 cases hm;exact dm Tryz.sortedL Tryz.keys233L ⟨_,func192,by kernel_rfl,by kernel_rfl⟩ (fun m=>⟨fun blk off cap ss W hH hblk hsz=>callsIn_wide.2 (AnyM.slices_Sort_string Tryz.sortL blk off cap ss W hH hblk hsz),fun p cap W=>callsIn_wide.2 (AnyM.slices_Sort_string_none Tryz.sortL p cap W)⟩) (enters_of func118 (by kernel_rfl) rfl) (enters_of func233 (by kernel_rfl) rfl) rfl 63 true zc m1
theorem SA(b:List (eA×ab))(z:List ab)(hm:Lb b=some z):Does prog 159 [.mp 0] [.mp true (zm Dt.s zc b)] (fun r X=>r=lm zc z/\X=[.mp true (zm Dt.s zc b)]):=by
 unfold Lb at hm
 refine dW 1 22 [.tmp 2] func159 fun B=>nA fun hA=>?_
 refine qS ?_;refine qS ?_
 refine df fun K3 p I=>?_
 obtain⟨J,g,hm⟩:=zj hm
 have m:∀s,J s=some z->K3 [(3,.buf 2)] [.mp true (zm Dt.s zc b),.cells 63 [.top],.buf 44 3 (List.map zc s)]:=by
  intro N hs;have hm:=g _ hs;clear hs
  try dsimp only at hm|-
  exact p _ _ (wQ)
 clear p g;obtain⟨S,u,hm⟩:=zd hm;obtain⟨i,v,hm⟩:=zd hm
 refine rS fun _ L=>?_
 refine cO [0] (S4 b _ u) ?_;refine cQ [1,0] (fun hg=>Sl b _ v) (L _ _ ?_);refine Wp.block (di 3 44 3 rfl ?_);simp only[go_sem,simprocAttr];obtain⟨T,C,hm⟩:=zl hm
 refine fL 8 i.length fun n=>?_
 refine Wp.forL (fun j s=>[(0,.mp 0),(3,.buf 2),(8,lm eD i),(9,pI (i.length:Int)),(10,pI (j:Int))]) (fun j s=>[.mp true (zm Dt.s zc b),.cells 63 [.mp 0],.buf 44 3 (List.map zc s)]) wF hm ?_;clear hm;intro j k O hm
 try dsimp only at hm|-
 refine qS ?_
 refine lB eD hm n (fun h=>I _ _ _ _ wF (m k (C _ h))) fun D M t P o Q l hm hA _ E=>?_
 refine q6 ?_;obtain⟨F,G,hm⟩:=zI hm;have c:=zw (e:=zc) zZ b t (ab.mk [] [] false);have f:=zu (e:=zc) zZ b t;simp only[G,zc,map_nil]at c f;obtain⟨R,hm⟩:=zh hm;have hA:=And.intro M (And.intro o (And.intro c f));refine r6 ?_;refine E _ _ (r6 ?_);exact wN (k++[(F.getD (ab.mk [] [] false))]) D (l _ hm)
theorem S3(b:List (eA×aa))(z:Unit)(hm:zF b=some z):Does prog 194 [.mp 0] [.mp true (zm Dt.s za b)] (fun r X=>r=.fn 234 [.ptr 1 0]/\X=[.mp true (zm Dt.s za b),.cells 179 [.mp 0]]):=by
 unfold zF at hm
 refine dW 2 4 [.tmp 2] func194 fun B=>nA fun hA=>?_
 refine qS ?_;exact wQ
theorem Sn(m1:List (eA×aa))(z:List eA)(hm:Qi m1=some z):Does prog 192 [.fn 234 [.ptr 0 0]] [.cells 179 [.mp 1],.mp true (zm Dt.s za m1)] (fun r X=>r=lm eD z/\X=[.cells 179 [.mp 1],.mp true (zm Dt.s za m1)]):=by
 cases hm;exact dm Tryz.sortedL Tryz.keys234L ⟨_,func192,by kernel_rfl,by kernel_rfl⟩ (fun m=>⟨fun blk off cap ss W hH hblk hsz=>callsIn_wide.2 (AnyM.slices_Sort_string Tryz.sortL blk off cap ss W hH hblk hsz),fun p cap W=>callsIn_wide.2 (AnyM.slices_Sort_string_none Tryz.sortL p cap W)⟩) (enters_of func118 (by kernel_rfl) rfl) (enters_of func234 (by kernel_rfl) rfl) rfl 179 true za m1
theorem Ss(b:List (eA×aa))(z:List aa)(hm:Lo b=some z):Does prog 160 [.mp 0] [.mp true (zm Dt.s za b)] (fun r X=>r=lm za z/\X=[.mp true (zm Dt.s za b)]):=by
 unfold Lo at hm
 refine dW 1 22 [.tmp 2] func160 fun B=>nA fun hA=>?_
 refine qS ?_;refine qS ?_
 refine df fun K3 p I=>?_
 obtain⟨J,g,hm⟩:=zj hm
 have m:∀s,J s=some z->K3 [(3,.buf 2)] [.mp true (zm Dt.s za b),.cells 179 [.top],.buf 46 2 (List.map za s)]:=by
  intro N hs;have hm:=g _ hs;clear hs
  try dsimp only at hm|-
  exact p _ _ (wQ)
 clear p g;obtain⟨S,u,hm⟩:=zd hm;obtain⟨i,v,hm⟩:=zd hm
 refine rS fun _ L=>?_
 refine cO [0] (S3 b _ u) ?_;refine cQ [1,0] (fun hg=>Sn b _ v) (L _ _ ?_);refine Wp.block (di 3 46 2 rfl ?_);simp only[go_sem,simprocAttr];obtain⟨T,C,hm⟩:=zl hm
 refine fL 8 i.length fun n=>?_
 refine Wp.forL (fun j s=>[(0,.mp 0),(3,.buf 2),(8,lm eD i),(9,pI (i.length:Int)),(10,pI (j:Int))]) (fun j s=>[.mp true (zm Dt.s za b),.cells 179 [.mp 0],.buf 46 2 (List.map za s)]) wF hm ?_;clear hm;intro j k O hm
 try dsimp only at hm|-
 refine qS ?_
 refine lB eD hm n (fun h=>I _ _ _ _ wF (m k (C _ h))) fun D M t P o Q l hm hA _ E=>?_
 refine q6 ?_;obtain⟨F,G,hm⟩:=zI hm;have c:=zw (e:=za) zZ b t (aa.mk [] []);have f:=zu (e:=za) zZ b t;simp only[G,za,map_nil]at c f;obtain⟨R,hm⟩:=zh hm;have hA:=And.intro M (And.intro o (And.intro c f));refine r6 ?_;refine E _ _ (r6 ?_);exact wN (k++[(F.getD (aa.mk [] []))]) D (l _ hm)
theorem S2(b:List (eA×ah))(z:Unit)(hm:zG b=some z):Does prog 195 [.mp 0] [.mp true (zm Dt.s zb b)] (fun r X=>r=.fn 235 [.ptr 1 0]/\X=[.mp true (zm Dt.s zb b),.cells 65 [.mp 0]]):=by
 unfold zG at hm
 refine dW 2 4 [.tmp 2] func195 fun B=>nA fun hA=>?_
 refine qS ?_;exact wQ
theorem So(m1:List (eA×ah))(z:List eA)(hm:Qj m1=some z):Does prog 192 [.fn 235 [.ptr 0 0]] [.cells 65 [.mp 1],.mp true (zm Dt.s zb m1)] (fun r X=>r=lm eD z/\X=[.cells 65 [.mp 1],.mp true (zm Dt.s zb m1)]):=by
 cases hm;exact dm Tryz.sortedL Tryz.keys235L ⟨_,func192,by kernel_rfl,by kernel_rfl⟩ (fun m=>⟨fun blk off cap ss W hH hblk hsz=>callsIn_wide.2 (AnyM.slices_Sort_string Tryz.sortL blk off cap ss W hH hblk hsz),fun p cap W=>callsIn_wide.2 (AnyM.slices_Sort_string_none Tryz.sortL p cap W)⟩) (enters_of func118 (by kernel_rfl) rfl) (enters_of func235 (by kernel_rfl) rfl) rfl 65 true zb m1
theorem Sr(b:List (eA×ah))(z:List ah)(hm:Ln b=some z):Does prog 161 [.mp 0] [.mp true (zm Dt.s zb b)] (fun r X=>r=lm zb z/\X=[.mp true (zm Dt.s zb b)]):=by
 unfold Ln at hm
 refine dW 1 22 [.tmp 2] func161 fun B=>nA fun hA=>?_
 refine qS ?_;refine qS ?_
 refine df fun K3 p I=>?_
 obtain⟨J,g,hm⟩:=zj hm
 have m:∀s,J s=some z->K3 [(3,.buf 2)] [.mp true (zm Dt.s zb b),.cells 65 [.top],.buf 48 4 (List.map zb s)]:=by
  intro N hs;have hm:=g _ hs;clear hs
  try dsimp only at hm|-
  exact p _ _ (wQ)
 clear p g;obtain⟨S,u,hm⟩:=zd hm;obtain⟨i,v,hm⟩:=zd hm
 refine rS fun _ L=>?_
 refine cO [0] (S2 b _ u) ?_;refine cQ [1,0] (fun hg=>So b _ v) (L _ _ ?_);refine Wp.block (di 3 48 4 rfl ?_);simp only[go_sem,simprocAttr];obtain⟨T,C,hm⟩:=zl hm
 refine fL 8 i.length fun n=>?_
 refine Wp.forL (fun j s=>[(0,.mp 0),(3,.buf 2),(8,lm eD i),(9,pI (i.length:Int)),(10,pI (j:Int))]) (fun j s=>[.mp true (zm Dt.s zb b),.cells 65 [.mp 0],.buf 48 4 (List.map zb s)]) wF hm ?_;clear hm;intro j k O hm
 try dsimp only at hm|-
 refine qS ?_
 refine lB eD hm n (fun h=>I _ _ _ _ wF (m k (C _ h))) fun D M t P o Q l hm hA _ E=>?_
 refine q6 ?_;obtain⟨F,G,hm⟩:=zI hm;have c:=zw (e:=zb) zZ b t (ah.mk [] [] false false);have f:=zu (e:=zb) zZ b t;simp only[G,zb,map_nil]at c f;obtain⟨R,hm⟩:=zh hm;have hA:=And.intro M (And.intro o (And.intro c f));refine r6 ?_;refine E _ _ (r6 ?_);exact wN (k++[(F.getD (ah.mk [] [] false false))]) D (l _ hm)
theorem Sq(c:List aa)(f:List (eA×ab))(l:List (eA×Int))(j:List (eA×aa))(k:List (eA×ah))(z:ai)(hm:F3 c f l j k=some z):Does prog 115 [.ptr 0 0] [.cells 181 [lm za c,.mp 1,.mp 2,.mp 3,.mp 4],.mp true (zm Dt.s zc f),.mp false (zm Dt.s zE l),.mp true (zm Dt.s za j),.mp true (zm Dt.s zb k)] (fun r X=>r=.agg [lm za z.m,lm zc z.b,lm za z.i,lm zb z.h]/\X=[.cells 181 [lm za c,.mp 1,.mp 2,.mp 3,.mp 4],.mp true (zm Dt.s zc f),.mp false (zm Dt.s zE l),.mp true (zm Dt.s za j),.mp true (zm Dt.s zb k)]):=by
 unfold F3 at hm
 refine dW 5 24 [.cell 2 26] func115 fun B=>nA fun hA=>?_
 refine qS ?_;obtain⟨C,n,hm⟩:=zd hm;obtain⟨D,p,hm⟩:=zd hm;obtain⟨E,t,hm⟩:=zd hm;obtain⟨F,u,hm⟩:=zd hm
 refine dn (plan:=pl [(0,none),(1,none),(2,none),(3,none),(5,none),(6,none),(7,none),(8,none),(10,none),(11,none),(12,none),(13,none),(15,none),(16,none),(17,none),(18,none),(4,some [5,6,7,8,10,11,12,13,15,16,17,18]),(9,some [10,11,12,13,15,16,17,18]),(14,some [15,16,17,18]),(19,some []),(20,none),(21,some [])]) (by kernel_rfl) rfl (by kernel_rfl) fun K2 v=>?_
 simp only[go_sem,simprocAttr]
 try refine⟨sd,?_⟩
 refine dj (Br.callR (av:=?av3) (g:=true) (o:=?o3) [] (fun hg=>NE c _ n) si si si si si sg sg sg sg ?cont3);simp only[go_sem,simprocAttr]
 try refine⟨sd,?_⟩
 refine dj (Br.callR (av:=?av4) (g:=true) (o:=?o4) [1] (fun hg=>SA f _ p) si si si si si sg sg sg sg ?cont4);simp only[go_sem,simprocAttr]
 try refine⟨sd,?_⟩
 refine dj (Br.callR (av:=?av5) (g:=true) (o:=?o5) [3] (fun hg=>Ss j _ t) si si si si si sg sg sg sg ?cont5);simp only[go_sem,simprocAttr]
 try refine⟨sd,?_⟩
 refine dj (Br.callR (av:=?av6) (g:=true) (o:=?o6) [4] (fun hg=>Sr k _ u) si si si si si sg sg sg sg ?cont6);simp only[go_sem,simprocAttr];refine kA v ?_;exact wR
theorem QQ(c:ai)(f:List ae)(z:ai×Int)(hm:Ha c f=some z):Does prog 85 [.agg [lm za c.m,lm zc c.b,lm za c.i,lm zb c.h],lm zf f] [] (fun r X=>r=.tup [.agg [lm za z.1.m,lm zc z.1.b,lm za z.1.i,lm zb z.1.h],pI z.2]/\X=[]):=by
 unfold Ha at hm
 refine dW 0 28 [.cell 4 26,.tmp 5] func85 fun B=>nA fun hA=>?_
 refine qS ?_;obtain⟨g,J,hm⟩:=zd hm;refine sO [] (Re c _ J) ?_
 refine df fun K4 I Q=>?_
 obtain⟨R,p,hm⟩:=zj hm
 have v:∀s,R s=some z->K4 [(4,.ptr 1 0),(6,.ptr 7 0)] [.cells 26 [.top,.top,.top,.top],.cells 26 [.nils,.nils,.nils,.nils],.cells 26 [.top,.top,.top,.top],.mp true (zm Dt.s zc s.1),.mp false (zm Dt.s zE s.2.1),.mp true (zm Dt.s za s.2.2.1),.mp true (zm Dt.s zb s.2.2.2),.cells 181 [lm za g.2.2.2.2,.mp 3,.mp 4,.mp 5,.mp 6]]:=by
  intro s hs;have hm:=p _ hs;clear hs;obtain⟨C,D,E,F⟩:=s
  try dsimp only at hm|-
  refine I _ _ ?_;obtain⟨Y,L,hm⟩:=zd hm;refine sQ [7,3,4,5,6] (fun hg=>Sq g.2.2.2.2 C D E F _ L) ?_;exact wR
 clear I p;refine qS ?_;refine Wp.block ?_;obtain⟨Z,M,hm⟩:=zl hm
 refine fL 12 f.length fun G=>?_
 refine Wp.forL (fun t s=>[(4,.ptr 1 0),(6,.ptr 7 0),(12,lm zf f),(13,pI (f.length:Int)),(14,pI (t:Int))]) (fun t s=>[.cells 26 [lm za c.m,lm zc c.b,lm za c.i,lm zb c.h],.cells 26 [.nils,.nils,.nils,.nils],.cells 26 [.top,.top,.top,.top],.mp true (zm Dt.s zc s.1),.mp false (zm Dt.s zE s.2.1),.mp true (zm Dt.s za s.2.2.1),.mp true (zm Dt.s zb s.2.2.2),.cells 181 [lm za g.2.2.2.2,.mp 3,.mp 4,.mp 5,.mp 6]]) wF hm ?_;clear hm;intro t s T hm;obtain⟨j,k,l,n⟩:=s
 try dsimp only at hm|-
 refine qS ?_
 refine lB zf hm G (fun h=>Q _ _ _ _ wF (v (j,k,l,n) (M _ h))) fun N a0 S U V W u hm hA _ O=>?_
 refine q6 ?_;obtain⟨o,P,hm⟩:=zd hm;refine sO [7,3,4,5,6] (RY S g.2.2.2.2 j k l n _ P) ?_;refine q6 ?_
 refine cN hm (fun hm=>?_) fun hm=>?_
 .refine q6 ?_
  refine Wp.ret ?_;simp only[zy,zq];refine zL ?_;cases hm;simp only[go_sem,simprocAttr,hA]
  try exact S7
 .refine Wp.skip (O _ _ (r6 ?_))
  exact wN (o.2.1,o.2.2.1,o.2.2.2.1,o.2.2.2.2) N (u _ hm)
theorem Nb(c:ai)(f:List ae)(z:ai×Int)(hm:Bo c f=some z):Does prog 37 [.agg [lm za c.m,lm zc c.b,lm za c.i,lm zb c.h],lm zf f] [] (fun r X=>r=.tup [.agg [lm za z.1.m,lm zc z.1.b,lm za z.1.i,lm zb z.1.h],pI z.2]/\X=[]):=by
 unfold Bo at hm
 refine dW 0 18 [.cell 4 26,.tmp 5] func37 fun B=>nA fun hA=>?_
 refine qS ?_
 refine df fun _ k _=>?_
 obtain⟨l,g,hm⟩:=zd hm;refine sX (fun hg=>KC c _ g) ?_;refine qS ?_
 refine cN hm (fun hm=>?_) fun hm=>?_
 .refine qS ?_
  refine Wp.ret ?_;simp only[zy,zq];refine zL ?_;cases hm;exact gf
 .refine Wp.skip (k _ _ ?_)
  obtain⟨n,j,hm⟩:=zd hm;refine sF (QQ c f _ j) ?_;exact wR
end Go.Proofs.YtkojogldchfkkaaGreatDoor
