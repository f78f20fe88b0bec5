/- That the code does what the models say (part 2). -/
import Derived.Test.YtggigadnagoglafGreatDoorTrWk0
import Derived.Test.YtggigadnagoglafGreatDoorTrWk1
set_option linter.unusedSimpArgs false
set_option linter.unusedVariables false
open Go.Proofs Go.Shelf
open List
namespace Go.Proofs.YtggigadnagoglafGreatDoor
open Tryz
open Go.Vc Go.Md
set_option maxRecDepth 100000
set_option maxHeartbeats 4000000
theorem Ni(b:ai)(f:List ab)(i:List (dX×aa))(p:List (dX×Int))(l:List (dX×ab))(m:List (dX×ah))(z:Int)(hm:GG b f i p l m=some z):Does prog 105 [.ptr 0 0,.agg [pI b.e,pS b.g.a,pS b.g.u,pB b.g.w,pS b.j.k,pS b.j.Value,pS b.h.o,pS b.h.a,pB b.h.B,pB b.h.A]] [.cells 161 [lm za f,.mp 1,.mp 2,.mp 3,.mp 4],.mp true (zj Dt.s zc i),.mp false (zj Dt.s zh p),.mp true (zj Dt.s za l),.mp true (zj Dt.s zb m)] (fun r X=>r=pI z/\X=[.cells 161 [lm za f,.mp 1,.mp 2,.mp 3,.mp 4],.mp true (zj Dt.s zc i),.mp false (zj Dt.s zh p),.mp true (zj Dt.s za l),.mp true (zj Dt.s zb m)]):=by
 unfold GG at hm
 refine dW 5 97 [.tmp 4] func105 fun B=>nA fun hA=>?_
 refine qS ?_;refine qS ?_
 refine ca fun K3 G n=>?_
 obtain⟨W,t,hm⟩:=zN hm
 have c:∀s,W s=some z->K3 [(5,pB s.1),(6,pI s.2.1),(7,pI s.2.2)] [.cells 161 [lm za f,.mp 1,.mp 2,.mp 3,.mp 4],.mp true (zj Dt.s zc i),.mp false (zj Dt.s zh p),.mp true (zj Dt.s za l),.mp true (zj Dt.s zb m)]:=by
  intro s hs;have hm:=t _ hs;clear hs;obtain⟨T,U,V⟩:=s
  try dsimp only at hm|-
  refine G _ _ (ca fun _ Y _=>qS ?_)
  refine cR hm fun hm=>?_
  refine Wp.skip (Y _ _ (ca fun _ Z _=>qS ?_))
  refine cR hm fun hm=>?_
  exact Wp.skip (Z _ _ (wQ))
 clear G t;refine qS ?_;refine Wp.block (qS ?_)
 refine cN hm (fun hm=>?_) fun hm=>?_
 .refine ca fun _ I _=>?_
  obtain⟨a2,v,hm⟩:=ze hm;refine sQ [0,1,2,3,4] (fun hg=>Nx b.g.a f i p l m _ v) ?_
  refine cR hm fun hm=>?_
  refine Wp.skip (I _ _ ?_);obtain⟨a3,C,hm⟩:=ze hm
  refine cB (plan:=pl [(0,none),(1,none),(2,none),(3,none),(4,none),(5,none),(6,none),(7,some [])]) (by kernel_rfl) rfl (by kernel_rfl) fun a6 J=>?_
  simp only[go_sem,simprocAttr]
  try refine⟨sd,?_⟩
  refine cn (Br.callR (av:=?av22) (g:=true) (o:=?o22) [1] (fun hg=>Lm b.g.a i _ C) si si si si si sg sg sg sg ?cont22);simp only[go_sem,simprocAttr];refine kA J ?_
  refine cN hm (fun hm=>?_) fun hm=>?_
  .refine qR ?_
   refine n _ _ _ _ ?_ (c (false,IntKind.i64.wrap ((i.length:Int)+1),2000) hm);exact fa
  .refine Wp.skip (n _ _ _ _ ?_ (c (false,0,1) hm))
   exact fa
 .refine qS ?_
  refine cN hm (fun hm=>?_) fun hm=>?_
  .obtain⟨a0,L,hm⟩:=ze hm
   refine da (plan:=pl [(0,none),(1,none),(2,none),(3,none),(4,none),(5,none),(6,none),(7,some []),(8,none)]) (by kernel_rfl) rfl (by kernel_rfl) fun a7 M=>?_
   simp only[go_sem,simprocAttr]
   try refine⟨sd,?_⟩
   refine cn (Br.callR (av:=?av28) (g:=true) (o:=?o28) [1] (fun hg=>Lm b.g.a i _ L) si si si si si sg sg sg sg ?cont28);simp only[go_sem,simprocAttr];refine kA M ?_;refine n _ _ _ _ ?_ (c (a0,0,1) hm);exact fa
  .refine qS ?_
   refine cN hm (fun hm=>?_) fun hm=>?_
   .obtain⟨a4,D,hm⟩:=ze hm
    refine cB (plan:=pl [(0,none),(1,none),(2,none),(3,none),(4,none),(5,none),(6,none),(7,some [])]) (by kernel_rfl) rfl (by kernel_rfl) fun a8 N=>?_
    simp only[go_sem,simprocAttr]
    try refine⟨sd,?_⟩
    refine cn (Br.callR (av:=?av32) (g:=true) (o:=?o32) [3] (fun hg=>Lk b.j.k l _ D) si si si si si sg sg sg sg ?cont32);simp only[go_sem,simprocAttr];refine kA N ?_
    refine cN hm (fun hm=>?_) fun hm=>?_
    .refine qR ?_
     refine n _ _ _ _ ?_ (c (false,IntKind.i64.wrap ((l.length:Int)+1),2000) hm);exact fa
    .refine Wp.skip (n _ _ _ _ ?_ (c (false,0,1) hm))
     exact fa
   .refine qS ?_
    refine cN hm (fun hm=>?_) fun hm=>?_
    .obtain⟨a1,O,hm⟩:=ze hm
     refine da (plan:=pl [(0,none),(1,none),(2,none),(3,none),(4,none),(5,none),(6,none),(7,some []),(8,none)]) (by kernel_rfl) rfl (by kernel_rfl) fun a9 P=>?_
     simp only[go_sem,simprocAttr]
     try refine⟨sd,?_⟩
     refine cn (Br.callR (av:=?av38) (g:=true) (o:=?o38) [3] (fun hg=>Lk b.j.k l _ O) si si si si si sg sg sg sg ?cont38);simp only[go_sem,simprocAttr];refine kA P ?_;refine n _ _ _ _ ?_ (c (a1,0,1) hm);exact fa
    .refine qS ?_
     refine cN hm (fun hm=>?_) fun hm=>?_
     .obtain⟨a5,E,hm⟩:=ze hm
      refine cB (plan:=pl [(0,none),(1,none),(2,none),(3,none),(4,none),(5,none),(6,none),(7,some [])]) (by kernel_rfl) rfl (by kernel_rfl) fun ac Q=>?_
      simp only[go_sem,simprocAttr]
      try refine⟨sd,?_⟩
      refine cn (Br.callR (av:=?av42) (g:=true) (o:=?o42) [4] (fun hg=>Lj b.h.o m _ E) si si si si si sg sg sg sg ?cont42);simp only[go_sem,simprocAttr];refine kA Q ?_
      refine cN hm (fun hm=>?_) fun hm=>?_
      .refine qR ?_
       refine n _ _ _ _ ?_ (c (false,IntKind.i64.wrap ((m.length:Int)+1),100) hm);exact fa
      .refine Wp.skip (n _ _ _ _ ?_ (c (false,0,1) hm))
       exact fa
     .refine qS ?_
      refine cN hm (fun hm=>?_) fun hm=>?_
      .obtain⟨R,F,hm⟩:=ze hm
       refine da (plan:=pl [(0,none),(1,none),(2,none),(3,none),(4,none),(5,none),(6,none),(7,some []),(8,none)]) (by kernel_rfl) rfl (by kernel_rfl) fun ad S=>?_
       simp only[go_sem,simprocAttr]
       try refine⟨sd,?_⟩
       refine cn (Br.callR (av:=?av48) (g:=true) (o:=?o48) [4] (fun hg=>Lj b.h.o m _ F) si si si si si sg sg sg sg ?cont48);simp only[go_sem,simprocAttr];refine kA S ?_;refine n _ _ _ _ ?_ (c (R,0,1) hm);exact fa
      .refine Wp.skip (n _ _ _ _ ?_ (c (false,0,1) hm))
       exact fa
theorem Nb(b:dX)(c:List ab)(f:List (dX×aa))(j:List (dX×Int))(g:List (dX×ab))(i:List (dX×ah))(z:(List (dX×aa))×(List (dX×Int)))(hm:DK b c f j g i=some z):Does prog 106 [.ptr 0 0,pS b] [.cells 161 [lm za c,.mp 1,.mp 2,.mp 3,.mp 4],.mp true (zj Dt.s zc f),.mp false (zj Dt.s zh j),.mp true (zj Dt.s za g),.mp true (zj Dt.s zb i)] (fun r X=>r=.tup []/\X=[.cells 161 [lm za c,.mp 1,.mp 2,.mp 3,.mp 4],.mp true (zj Dt.s zc z.1),.mp false (zj Dt.s zh z.2),.mp true (zj Dt.s za g),.mp true (zj Dt.s zb i)]):=by
 unfold DK at hm
 refine dW 5 12 [] func106 fun B=>nA fun hA=>?_
 have k:=ve (e:=zc) zZ f b;have hA:=k;refine q6 ?_;obtain⟨m,l,hm⟩:=ze hm;refine eO [0,1,2,3,4] (Lb b (-1) c (fe f b) j g i _ l) ?_;refine zq ?_;cases hm;exact fa
theorem M0(b:ai)(c:List ab)(m:List (dX×aa))(n:List (dX×Int))(f:List (dX×ab))(i:List (dX×ah))(z:Int×(List (dX×aa))×(List (dX×Int))×(List (dX×ab))×(List (dX×ah)))(hm:Cd b c m n f i=some z):Does prog 74 [.ptr 0 0,.agg [pI b.e,pS b.g.a,pS b.g.u,pB b.g.w,pS b.j.k,pS b.j.Value,pS b.h.o,pS b.h.a,pB b.h.B,pB b.h.A]] [.cells 161 [lm za c,.mp 1,.mp 2,.mp 3,.mp 4],.mp true (zj Dt.s zc m),.mp false (zj Dt.s zh n),.mp true (zj Dt.s za f),.mp true (zj Dt.s zb i)] (fun r X=>r=pI z.1/\X=[.cells 161 [lm za c,.mp 1,.mp 2,.mp 3,.mp 4],.mp true (zj Dt.s zc z.2.1),.mp false (zj Dt.s zh z.2.2.1),.mp true (zj Dt.s za z.2.2.2.1),.mp true (zj Dt.s zb z.2.2.2.2)]):=by
 unfold Cd at hm
 refine dW 5 73 [.tmp 4] func74 fun B=>nA fun hA=>?_
 refine qS ?_
 refine ca fun _ N _=>?_
 obtain⟨S,E,hm⟩:=ze hm;refine sX (fun hg=>KV b _ E) ?_;refine qS ?_
 refine cR hm fun hm=>?_
 refine Wp.skip (N _ _ (ca fun _ O _=>?_));obtain⟨T,F,hm⟩:=ze hm;refine sQ [0,1,2,3,4] (fun hg=>Ni b c m n f i _ F) ?_;refine qS ?_
 refine cR hm fun hm=>?_
 refine Wp.skip (O _ _ (ca fun _ l _=>qS ?_));refine Wp.block (qS ?_)
 refine cN hm (fun hm=>?_) fun hm=>?_
 .obtain⟨U,G,hm⟩:=ze hm
  refine eO [0,1,2,3,4] (Lg b.g c m n f i _ G) ?_;exact l _ _ (wQ)
 .refine qS ?_
  refine cN hm (fun hm=>?_) fun hm=>?_
  .obtain⟨P,v,hm⟩:=ze hm
   refine eO [0,1,2,3,4] (Nb b.g.a c m n f i _ v) ?_;exact l _ _ (wQ)
  .refine qS ?_
   refine cN hm (fun hm=>?_) fun hm=>?_
   .obtain⟨Q,hm⟩:=zl hm
    have p:=fN (e:=za) zZ f b.j.k b.j;simp only[za,map_nil]at p;have hA:=p
    refine dE (pl [(0,none),(1,none),(2,none),(3,none),(4,none),(5,none),(6,none),(7,none),(8,none),(9,some [])]) fun _ I=>I _ _ ?_
    exact l _ _ (wQ)
   .refine qS ?_
    refine cN hm (fun hm=>?_) fun hm=>?_
    .have C:=ve (e:=za) zZ f b.j.k
     have hA:=C
     refine dE (pl [(0,none),(1,none),(2,none),(3,none),(4,none),(5,none),(6,none),(7,some [])]) fun _ J=>J _ _ ?_
     exact l _ _ (wQ)
    .refine qS ?_
     refine cN hm (fun hm=>?_) fun hm=>?_
     .obtain⟨R,hm⟩:=zl hm
      have t:=fN (e:=zb) zZ i b.h.o b.h;simp only[zb,map_nil]at t;have hA:=t
      refine dE (pl [(0,none),(1,none),(2,none),(3,none),(4,none),(5,none),(6,none),(7,none),(8,none),(9,some [])]) fun _ L=>L _ _ ?_
      exact l _ _ (wQ)
     .refine qS ?_
      refine cN hm (fun hm=>?_) fun hm=>?_
      .have D:=ve (e:=zb) zZ i b.h.o
       have hA:=D
       refine dE (pl [(0,none),(1,none),(2,none),(3,none),(4,none),(5,none),(6,none),(7,some [])]) fun _ M=>M _ _ ?_
       exact l _ _ (wQ)
      .exact Wp.skip (l _ _ (wQ))
theorem N3(b:List (dX×aa))(z:Unit)(hm:zR b=some z):Does prog 150 [.mp 0] [.mp true (zj Dt.s zc b)] (fun r X=>r=.fn 173 [.ptr 1 0]/\X=[.mp true (zj Dt.s zc b),.cells 103 [.mp 0]]):=by
 unfold zR at hm
 refine dW 2 4 [.tmp 2] func150 fun B=>nA fun hA=>?_
 refine qS ?_;exact wQ
theorem Nz(m1:List (dX×aa))(z:List dX)(hm:Lc m1=some z):Does prog 149 [.fn 173 [.ptr 0 0]] [.cells 103 [.mp 1],.mp true (zj Dt.s zc m1)] (fun r X=>r=lm fl z/\X=[.cells 103 [.mp 1],.mp true (zj Dt.s zc m1)]):=by
 cases hm;exact cA Tryz.sortedL Tryz.keys173L ⟨_,func149,by kernel_rfl,by kernel_rfl⟩ (fun m=>⟨fun blk off cap ss W hH hblk hsz=>callsIn_wide.2 (AnyM.slices_Sort_string Tryz.sortL blk off cap ss W hH hblk hsz),fun p cap W=>callsIn_wide.2 (AnyM.slices_Sort_string_none Tryz.sortL p cap W)⟩) (enters_of func172 (by kernel_rfl) rfl) (enters_of func173 (by kernel_rfl) rfl) rfl 103 true zc m1
theorem Nw(b:List (dX×aa))(z:List aa)(hm:GM b=some z):Does prog 107 [.mp 0] [.mp true (zj Dt.s zc b)] (fun r X=>r=lm zc z/\X=[.mp true (zj Dt.s zc b)]):=by
 unfold GM at hm
 refine dW 1 22 [.tmp 2] func107 fun B=>nA fun hA=>?_
 refine qS ?_;refine qS ?_
 refine ca fun K3 p G=>?_
 obtain⟨I,g,hm⟩:=zN hm
 have m:∀s,I s=some z->K3 [(3,.buf 2)] [.mp true (zj Dt.s zc b),.cells 103 [.top],.buf 45 3 (List.map zc s)]:=by
  intro M hs;have hm:=g _ hs;clear hs
  try dsimp only at hm|-
  exact p _ _ (wQ)
 clear p g;obtain⟨R,u,hm⟩:=ze hm;obtain⟨i,v,hm⟩:=ze hm
 refine rS fun _ J=>?_
 refine cO [0] (N3 b _ u) ?_;refine cQ [1,0] (fun hg=>Nz b _ v) (J _ _ ?_);refine Wp.block (cu 3 45 3 rfl ?_);simp only[go_sem,simprocAttr];obtain⟨S,w,hm⟩:=zF hm
 refine fL 8 i.length fun n=>?_
 refine Wp.forL (fun j s=>[(0,.mp 0),(3,.buf 2),(8,lm fl i),(9,pI (i.length:Int)),(10,pI (j:Int))]) (fun j s=>[.mp true (zj Dt.s zc b),.cells 103 [.mp 0],.buf 45 3 (List.map zc s)]) wF hm ?_;clear hm;intro j k N hm
 try dsimp only at hm|-
 refine qS ?_
 refine lB fl hm n (fun h=>G _ _ _ _ wF (m k (w _ h))) fun C L t O o P l hm hA _ D=>?_
 refine q6 ?_;obtain⟨E,F,hm⟩:=zC hm;have c:=zy (e:=zc) zZ b t (aa.mk [] [] false);have f:=zx (e:=zc) zZ b t;simp only[F,zc,map_nil]at c f;obtain⟨Q,hm⟩:=zl hm;have hA:=And.intro L (And.intro o (And.intro c f));refine r6 ?_;refine D _ _ (r6 ?_);exact wN (k++[(E.getD (aa.mk [] [] false))]) C (l _ hm)
theorem N6(b:List (dX×ab))(z:Unit)(hm:zJ b=some z):Does prog 151 [.mp 0] [.mp true (zj Dt.s za b)] (fun r X=>r=.fn 174 [.ptr 1 0]/\X=[.mp true (zj Dt.s za b),.cells 105 [.mp 0]]):=by
 unfold zJ at hm
 refine dW 2 4 [.tmp 2] func151 fun B=>nA fun hA=>?_
 refine qS ?_;exact wQ
theorem NA(m1:List (dX×ab))(z:List dX)(hm:Ld m1=some z):Does prog 149 [.fn 174 [.ptr 0 0]] [.cells 105 [.mp 1],.mp true (zj Dt.s za m1)] (fun r X=>r=lm fl z/\X=[.cells 105 [.mp 1],.mp true (zj Dt.s za m1)]):=by
 cases hm;exact cA Tryz.sortedL Tryz.keys174L ⟨_,func149,by kernel_rfl,by kernel_rfl⟩ (fun m=>⟨fun blk off cap ss W hH hblk hsz=>callsIn_wide.2 (AnyM.slices_Sort_string Tryz.sortL blk off cap ss W hH hblk hsz),fun p cap W=>callsIn_wide.2 (AnyM.slices_Sort_string_none Tryz.sortL p cap W)⟩) (enters_of func172 (by kernel_rfl) rfl) (enters_of func174 (by kernel_rfl) rfl) rfl 105 true za m1
theorem NG(b:List (dX×ab))(z:List ab)(hm:GZ b=some z):Does prog 108 [.mp 0] [.mp true (zj Dt.s za b)] (fun r X=>r=lm za z/\X=[.mp true (zj Dt.s za b)]):=by
 unfold GZ at hm
 refine dW 1 22 [.tmp 2] func108 fun B=>nA fun hA=>?_
 refine qS ?_;refine qS ?_
 refine ca fun K3 p G=>?_
 obtain⟨I,g,hm⟩:=zN hm
 have m:∀s,I s=some z->K3 [(3,.buf 2)] [.mp true (zj Dt.s za b),.cells 105 [.top],.buf 47 2 (List.map za s)]:=by
  intro M hs;have hm:=g _ hs;clear hs
  try dsimp only at hm|-
  exact p _ _ (wQ)
 clear p g;obtain⟨R,u,hm⟩:=ze hm;obtain⟨i,v,hm⟩:=ze hm
 refine rS fun _ J=>?_
 refine cO [0] (N6 b _ u) ?_;refine cQ [1,0] (fun hg=>NA b _ v) (J _ _ ?_);refine Wp.block (cu 3 47 2 rfl ?_);simp only[go_sem,simprocAttr];obtain⟨S,w,hm⟩:=zF hm
 refine fL 8 i.length fun n=>?_
 refine Wp.forL (fun j s=>[(0,.mp 0),(3,.buf 2),(8,lm fl i),(9,pI (i.length:Int)),(10,pI (j:Int))]) (fun j s=>[.mp true (zj Dt.s za b),.cells 105 [.mp 0],.buf 47 2 (List.map za s)]) wF hm ?_;clear hm;intro j k N hm
 try dsimp only at hm|-
 refine qS ?_
 refine lB fl hm n (fun h=>G _ _ _ _ wF (m k (w _ h))) fun C L t O o P l hm hA _ D=>?_
 refine q6 ?_;obtain⟨E,F,hm⟩:=zC hm;have c:=zy (e:=za) zZ b t (ab.mk [] []);have f:=zx (e:=za) zZ b t;simp only[F,za,map_nil]at c f;obtain⟨Q,hm⟩:=zl hm;have hA:=And.intro L (And.intro o (And.intro c f));refine r6 ?_;refine D _ _ (r6 ?_);exact wN (k++[(E.getD (ab.mk [] []))]) C (l _ hm)
theorem N5(b:List (dX×ah))(z:Unit)(hm:zK b=some z):Does prog 152 [.mp 0] [.mp true (zj Dt.s zb b)] (fun r X=>r=.fn 175 [.ptr 1 0]/\X=[.mp true (zj Dt.s zb b),.cells 106 [.mp 0]]):=by
 unfold zK at hm
 refine dW 2 4 [.tmp 2] func152 fun B=>nA fun hA=>?_
 refine qS ?_;exact wQ
theorem NB(m1:List (dX×ah))(z:List dX)(hm:Le m1=some z):Does prog 149 [.fn 175 [.ptr 0 0]] [.cells 106 [.mp 1],.mp true (zj Dt.s zb m1)] (fun r X=>r=lm fl z/\X=[.cells 106 [.mp 1],.mp true (zj Dt.s zb m1)]):=by
 cases hm;exact cA Tryz.sortedL Tryz.keys175L ⟨_,func149,by kernel_rfl,by kernel_rfl⟩ (fun m=>⟨fun blk off cap ss W hH hblk hsz=>callsIn_wide.2 (AnyM.slices_Sort_string Tryz.sortL blk off cap ss W hH hblk hsz),fun p cap W=>callsIn_wide.2 (AnyM.slices_Sort_string_none Tryz.sortL p cap W)⟩) (enters_of func172 (by kernel_rfl) rfl) (enters_of func175 (by kernel_rfl) rfl) rfl 106 true zb m1
theorem NF(b:List (dX×ah))(z:List ah)(hm:GY b=some z):Does prog 109 [.mp 0] [.mp true (zj Dt.s zb b)] (fun r X=>r=lm zb z/\X=[.mp true (zj Dt.s zb b)]):=by
 unfold GY at hm
 refine dW 1 22 [.tmp 2] func109 fun B=>nA fun hA=>?_
 refine qS ?_;refine qS ?_
 refine ca fun K3 p G=>?_
 obtain⟨I,g,hm⟩:=zN hm
 have m:∀s,I s=some z->K3 [(3,.buf 2)] [.mp true (zj Dt.s zb b),.cells 106 [.top],.buf 49 4 (List.map zb s)]:=by
  intro M hs;have hm:=g _ hs;clear hs
  try dsimp only at hm|-
  exact p _ _ (wQ)
 clear p g;obtain⟨R,u,hm⟩:=ze hm;obtain⟨i,v,hm⟩:=ze hm
 refine rS fun _ J=>?_
 refine cO [0] (N5 b _ u) ?_;refine cQ [1,0] (fun hg=>NB b _ v) (J _ _ ?_);refine Wp.block (cu 3 49 4 rfl ?_);simp only[go_sem,simprocAttr];obtain⟨S,w,hm⟩:=zF hm
 refine fL 8 i.length fun n=>?_
 refine Wp.forL (fun j s=>[(0,.mp 0),(3,.buf 2),(8,lm fl i),(9,pI (i.length:Int)),(10,pI (j:Int))]) (fun j s=>[.mp true (zj Dt.s zb b),.cells 106 [.mp 0],.buf 49 4 (List.map zb s)]) wF hm ?_;clear hm;intro j k N hm
 try dsimp only at hm|-
 refine qS ?_
 refine lB fl hm n (fun h=>G _ _ _ _ wF (m k (w _ h))) fun C L t O o P l hm hA _ D=>?_
 refine q6 ?_;obtain⟨E,F,hm⟩:=zC hm;have c:=zy (e:=zb) zZ b t (ah.mk [] [] false false);have f:=zx (e:=zb) zZ b t;simp only[F,zb,map_nil]at c f;obtain⟨Q,hm⟩:=zl hm;have hA:=And.intro L (And.intro o (And.intro c f));refine r6 ?_;refine D _ _ (r6 ?_);exact wN (k++[(E.getD (ah.mk [] [] false false))]) C (l _ hm)
theorem ND(b:List ab)(c:List (dX×aa))(k:List (dX×Int))(f:List (dX×ab))(j:List (dX×ah))(z:aj)(hm:Ci b c k f j=some z):Does prog 75 [.ptr 0 0] [.cells 161 [lm za b,.mp 1,.mp 2,.mp 3,.mp 4],.mp true (zj Dt.s zc c),.mp false (zj Dt.s zh k),.mp true (zj Dt.s za f),.mp true (zj Dt.s zb j)] (fun r X=>r=.agg [lm za z.q,lm zc z.i,lm za z.n,lm zb z.m]/\X=[.cells 161 [lm za b,.mp 1,.mp 2,.mp 3,.mp 4],.mp true (zj Dt.s zc c),.mp false (zj Dt.s zh k),.mp true (zj Dt.s za f),.mp true (zj Dt.s zb j)]):=by
 unfold Ci at hm
 refine dW 5 24 [.cell 2 26] func75 fun B=>nA fun hA=>?_
 refine qS ?_;obtain⟨w,l,hm⟩:=ze hm;obtain⟨C,p,hm⟩:=ze hm;obtain⟨D,t,hm⟩:=ze hm;obtain⟨E,u,hm⟩:=ze hm
 refine cB (plan:=pl [(0,none),(1,none),(2,none),(3,none),(5,none),(6,none),(7,none),(8,none),(10,none),(11,none),(12,none),(13,none),(15,none),(16,none),(17,none),(18,none),(4,some [5,6,7,8,10,11,12,13,15,16,17,18]),(9,some [10,11,12,13,15,16,17,18]),(14,some [15,16,17,18]),(19,some []),(20,none),(21,some [])]) (by kernel_rfl) rfl (by kernel_rfl) fun K2 v=>?_
 simp only[go_sem,simprocAttr]
 try refine⟨sd,?_⟩
 refine cn (Br.callR (av:=?av3) (g:=true) (o:=?o3) [] (fun hg=>Lp b _ l) si si si si si sg sg sg sg ?cont3);simp only[go_sem,simprocAttr]
 try refine⟨sd,?_⟩
 refine cn (Br.callR (av:=?av4) (g:=true) (o:=?o4) [1] (fun hg=>Nw c _ p) si si si si si sg sg sg sg ?cont4);simp only[go_sem,simprocAttr]
 try refine⟨sd,?_⟩
 refine cn (Br.callR (av:=?av5) (g:=true) (o:=?o5) [3] (fun hg=>NG f _ t) si si si si si sg sg sg sg ?cont5);simp only[go_sem,simprocAttr]
 try refine⟨sd,?_⟩
 refine cn (Br.callR (av:=?av6) (g:=true) (o:=?o6) [4] (fun hg=>NF j _ u) si si si si si sg sg sg sg ?cont6);simp only[go_sem,simprocAttr];refine kA v ?_;exact wR
theorem LD(b:aj)(c:List ai)(z:aj×Int)(hm:C2 b c=some z):Does prog 27 [.agg [lm za b.q,lm zc b.i,lm za b.n,lm zb b.m],lm zf c] [] (fun r X=>r=.tup [.agg [lm za z.1.q,lm zc z.1.i,lm za z.1.n,lm zb z.1.m],pI z.2]/\X=[]):=by
 unfold C2 at hm
 refine dW 0 28 [.cell 4 26,.tmp 5] func27 fun B=>nA fun hA=>?_
 refine qS ?_;obtain⟨f,I,hm⟩:=ze hm;refine sO [] (Me b _ I) ?_
 refine ca fun K4 G P=>?_
 obtain⟨Q,p,hm⟩:=zN hm
 have v:∀s,Q s=some z->K4 [(4,.ptr 1 0),(6,.ptr 7 0)] [.cells 26 [.top,.top,.top,.top],.cells 26 [.nils,.nils,.nils,.nils],.cells 26 [.top,.top,.top,.top],.mp true (zj Dt.s zc s.1),.mp false (zj Dt.s zh s.2.1),.mp true (zj Dt.s za s.2.2.1),.mp true (zj Dt.s zb s.2.2.2),.cells 161 [lm za f.2.2.2.2,.mp 3,.mp 4,.mp 5,.mp 6]]:=by
  intro s hs;have hm:=p _ hs;clear hs;obtain⟨w,C,D,E⟩:=s
  try dsimp only at hm|-
  refine G _ _ ?_;obtain⟨W,J,hm⟩:=ze hm;refine sQ [7,3,4,5,6] (fun hg=>ND f.2.2.2.2 w C D E _ J) ?_;exact wR
 clear G p;refine qS ?_;refine Wp.block ?_;obtain⟨Y,L,hm⟩:=zF hm
 refine fL 12 c.length fun F=>?_
 refine Wp.forL (fun t s=>[(4,.ptr 1 0),(6,.ptr 7 0),(12,lm zf c),(13,pI (c.length:Int)),(14,pI (t:Int))]) (fun t s=>[.cells 26 [lm za b.q,lm zc b.i,lm za b.n,lm zb b.m],.cells 26 [.nils,.nils,.nils,.nils],.cells 26 [.top,.top,.top,.top],.mp true (zj Dt.s zc s.1),.mp false (zj Dt.s zh s.2.1),.mp true (zj Dt.s za s.2.2.1),.mp true (zj Dt.s zb s.2.2.2),.cells 161 [lm za f.2.2.2.2,.mp 3,.mp 4,.mp 5,.mp 6]]) wF hm ?_;clear hm;intro t s S hm;obtain⟨g,j,k,l⟩:=s
 try dsimp only at hm|-
 refine qS ?_
 refine lB zf hm F (fun h=>P _ _ _ _ wF (v (g,j,k,l) (L _ h))) fun M Z R T U V u hm hA _ N=>?_
 refine q6 ?_;obtain⟨o,O,hm⟩:=ze hm;refine sO [7,3,4,5,6] (M0 R f.2.2.2.2 g j k l _ O) ?_;refine q6 ?_
 refine cN hm (fun hm=>?_) fun hm=>?_
 .refine q6 ?_
  refine Wp.ret ?_;simp only[zS,zL];refine ls ?_;cases hm;simp only[go_sem,simprocAttr,hA]
  try exact N8
 .refine Wp.skip (N _ _ (r6 ?_))
  exact wN (o.2.1,o.2.2.1,o.2.2.2.1,o.2.2.2.2) M (u _ hm)
theorem xR(b:aj)(c:List ai)(z:aj×Int)(hm:vk b c=some z):Does prog 7 [.agg [lm za b.q,lm zc b.i,lm za b.n,lm zb b.m],lm zf c] [] (fun r X=>r=.tup [.agg [lm za z.1.q,lm zc z.1.i,lm za z.1.n,lm zb z.1.m],pI z.2]/\X=[]):=by
 unfold vk at hm
 refine dW 0 18 [.cell 4 26,.tmp 5] func7 fun B=>nA fun hA=>?_
 refine qS ?_
 refine ca fun _ j _=>?_
 obtain⟨k,f,hm⟩:=ze hm;refine sX (fun hg=>GA b _ f) ?_;refine qS ?_
 refine cN hm (fun hm=>?_) fun hm=>?_
 .refine qS ?_
  refine Wp.ret ?_;simp only[zS,zL];refine ls ?_;cases hm;exact fa
 .refine Wp.skip (j _ _ ?_)
  obtain⟨l,g,hm⟩:=ze hm;refine sF (LD b c _ g) ?_;exact wR
theorem I2(b:ai)(c:List ab)(f:List aa)(i:List ab)(l:List ah)(z:List ab×List aa×List ab×List ah)(hm:yP b c f i l=some z):Does prog 12 [.agg [pI b.e,pS b.g.a,pS b.g.u,pB b.g.w,pS b.j.k,pS b.j.Value,pS b.h.o,pS b.h.a,pB b.h.B,pB b.h.A],.ptr 0 0] [.cells 26 [lm za c,lm zc f,lm za i,lm zb l]] (fun r X=>r=.tup []/\X=[.cells 26 [lm za z.1,lm zc z.2.1,lm za z.2.2.1,lm zb z.2.2.2]]):=by
 unfold yP at hm
 refine dW 1 15 [] func12 fun B=>nA fun hA=>?_
 refine qS ?_;obtain⟨n,m,hm⟩:=ze hm;refine sF (xR (aj.mk c f i l) [b] _ m) ?_;refine qS ?_
 refine cN hm (fun hm=>?_) fun hm=>?_
 .refine qR ?_
  refine zq ?_;cases hm;exact fa
 .refine Wp.skip (zq ?_)
  cases hm;exact fa
theorem Lo(b:List ab)(z:List ab)(hm:zB b=some z):Does prog 102 [lm za b] [] (fun r X=>r=.buf 0/\X=[.buf 47 2 (List.map za z)]):=by
 unfold zB at hm
 refine dW 1 8 [.tmp 2] func102 fun B=>nA fun hA=>?_
 refine qS ?_
 refine ca fun _ f _=>cb fun K3 g=>?_
 simp only[go_sem,simprocAttr]
 try refine⟨sd,?_⟩
 refine cJ (rows:=?rows4) (e:=?e4) (esz:=?esz4) (eb:=?eb4) (ez:=?ez4) Is.mk Is.mk sg sg si si ?cont4;intro i c;replace hm:=xJ hm i (fun h=>map_eq_nil_iff.1 (c h))
 try dsimp only at hm
 simp only[go_sem,simprocAttr];refine kA g ?_
 refine cN hm (fun hm=>?_) fun hm=>?_
 .refine qS ?_
  refine cu 2 47 2 rfl ?_;simp only[go_sem,simprocAttr];exact wR
 .refine Wp.skip (f _ _ ?_)
  obtain⟨j,hm⟩:=zl hm;exact wQ
theorem NJ(b:List aa)(z:List aa)(hm:GR b=some z):Does prog 117 [lm zc b] [] (fun r X=>r=.buf 0/\X=[.buf 45 3 (List.map zc z)]):=by
 unfold GR at hm
 refine dW 1 8 [.tmp 2] func117 fun B=>nA fun hA=>?_
 refine qS ?_
 refine ca fun _ f _=>cb fun K3 g=>?_
 simp only[go_sem,simprocAttr]
 try refine⟨sd,?_⟩
 refine cJ (rows:=?rows4) (e:=?e4) (esz:=?esz4) (eb:=?eb4) (ez:=?ez4) Is.mk Is.mk sg sg si si ?cont4;intro i c;replace hm:=xJ hm i (fun h=>map_eq_nil_iff.1 (c h))
 try dsimp only at hm
 simp only[go_sem,simprocAttr];refine kA g ?_
 refine cN hm (fun hm=>?_) fun hm=>?_
 .refine qS ?_
  refine cu 2 45 3 rfl ?_;simp only[go_sem,simprocAttr];exact wR
 .refine Wp.skip (f _ _ ?_)
  obtain⟨j,hm⟩:=zl hm;exact wQ
theorem NS(b:List ah)(z:List ah)(hm:GW b=some z):Does prog 118 [lm zb b] [] (fun r X=>r=.buf 0/\X=[.buf 49 4 (List.map zb z)]):=by
 unfold GW at hm
 refine dW 1 8 [.tmp 2] func118 fun B=>nA fun hA=>?_
 refine qS ?_
 refine ca fun _ f _=>cb fun K3 g=>?_
 simp only[go_sem,simprocAttr]
 try refine⟨sd,?_⟩
 refine cJ (rows:=?rows4) (e:=?e4) (esz:=?esz4) (eb:=?eb4) (ez:=?ez4) Is.mk Is.mk sg sg si si ?cont4;intro i c;replace hm:=xJ hm i (fun h=>map_eq_nil_iff.1 (c h))
 try dsimp only at hm
 simp only[go_sem,simprocAttr];refine kA g ?_
 refine cN hm (fun hm=>?_) fun hm=>?_
 .refine qS ?_
  refine cu 2 49 4 rfl ?_;simp only[go_sem,simprocAttr];exact wR
 .refine Wp.skip (f _ _ ?_)
  obtain⟨j,hm⟩:=zl hm;exact wQ
theorem Ms(b:aj)(z:List ab×List aa×List ab×List ah×List ab×List aa×List ab×List ah)(hm:Dw b=some z):Does prog 85 [.agg [lm za b.q,lm zc b.i,lm za b.n,lm zb b.m]] [] (fun r X=>r=.agg [.buf 2,.buf 3,.buf 4,.buf 5]/\X=[.cells 26 [lm za z.1,lm zc z.2.1,lm za z.2.2.1,lm zb z.2.2.2.1],.cells 26 [.buf 2,.buf 3,.buf 4,.buf 5],.buf 47 2 (List.map za z.2.2.2.2.1),.buf 45 3 (List.map zc z.2.2.2.2.2.1),.buf 47 2 (List.map za z.2.2.2.2.2.2.1),.buf 49 4 (List.map zb z.2.2.2.2.2.2.2)]):=by
 unfold Dw at hm
 refine dW 6 16 [.cell 2 26] func85 fun B=>nA fun hA=>?_
 refine qS ?_;obtain⟨l,c,hm⟩:=ze hm;obtain⟨o,f,hm⟩:=ze hm;obtain⟨p,g,hm⟩:=ze hm;obtain⟨t,j,hm⟩:=ze hm
 refine dS (pl [(0,none),(1,none),(3,none),(4,none),(6,none),(7,none),(9,none),(10,none),(2,some [3,4,6,7,9,10]),(5,some [6,7,9,10]),(8,some [9,10]),(11,some []),(12,none),(13,some [])]) fun _ k=>?_
 refine cE [] (Lo b.q _ c) ?_;refine cE [] (NJ b.i _ f) ?_;refine cE [] (Lo b.n _ g) ?_;refine cE [] (NS b.m _ j) (k _ _ ?_);exact wR
theorem NL(c:dX)(b:dX)(z:Bool)(hm:G3 c b=some z):Does prog 156 [pS c,pS b] [] (fun r X=>r=pB z/\X=[]):=by
 unfold G3 at hm
 refine dW 0 18 [.tmp 4] func156 fun B=>nA fun hA=>?_
 refine qS ?_;obtain⟨f,hm⟩:=zl hm;exact wQ
theorem MY(c:dX)(b:dX)(z:Bool)(hm:GL c b=some z):Does prog 120 [pS c,pS b] [] (fun r X=>r=pB z/\X=[]):=by
 unfold GL at hm
 refine dW 0 8 [.tmp 4] func120 fun B=>nA fun hA=>?_
 refine qS ?_;obtain⟨g,f,hm⟩:=ze hm;refine sX (fun hg=>NL c b _ f) ?_;exact wR
theorem KJ(b:dX)(c:dX)(z:Bool)(hm:B5 b c=some z):Does prog 90 [pS b,pS c] [] (fun r X=>r=pB z/\X=[]):=by
 unfold B5 at hm
 refine dW 0 9 [.tmp 4] func90 fun B=>nA fun hA=>?_
 refine qS ?_;obtain⟨g,hm⟩:=zl hm;obtain⟨i,f,hm⟩:=ze hm;refine sX (fun hg=>MY b (c++([47]:dX)) _ f) ?_;exact wR
theorem MB(b:dX)(z:Bool)(hm:DB b=some z):Does prog 88 [pS b] [] (fun r X=>r=pB z/\X=[]):=by
 unfold DB at hm
 refine dW 0 5 [.tmp 2] func88 fun B=>nA fun hA=>?_
 refine qS ?_;obtain⟨f,c,hm⟩:=ze hm;refine sX (fun hg=>KJ b ([115,116,97,103,101]:dX) _ c) ?_;exact wR
theorem KT(b:aa)(z:Bool)(hm:xV b=some z):Does prog 87 [.agg [pS b.a,pS b.u,pB b.w]] [] (fun r X=>r=pB z/\X=[]):=by
 unfold xV at hm
 refine dW 0 6 [.tmp 2] func87 fun B=>nA fun hA=>?_
 refine qS ?_;obtain⟨f,c,hm⟩:=ze hm;refine sX (fun hg=>MB b.a _ c) ?_;exact wR
theorem NV(b:List aa)(z:Int)(hm:zX b=some z):Does prog 119 [.vw 0 3 0 b.length,.fn 87 []] [.fx 45 3 (List.map zc b)] (fun r X=>r=pI z/\X=[.fx 45 3 (List.map zc b)]):=by
 unfold zX at hm
 refine dW 1 19 [.tmp 4] func119 fun B=>nA fun hA=>?_
 refine qS ?_
 refine ca fun K2 m t=>?_
 obtain⟨v,j,hm⟩:=zN hm
 have k:∀s,v s=some z->K2 [] [.fx 45 3 (List.map zc b)]:=by
  intro s hs;have hm:=j _ hs;clear hs
  try dsimp only at hm|-
  exact m _ _ (wQ)
 clear m j;refine qS ?_;refine Wp.block ?_;obtain⟨G,n,hm⟩:=rY hm;refine Wp.loopN (fun s=>[(0,.vw 0 3 0 b.length),(1,.fn 87 []),(7,pI ((List.take b.length b).length:Int)),(8,pI s)]) (fun s=>[.fx 45 3 (List.map zc b)]) ?_ hm ?_
 .exact fa
 clear hm;intro f E hm
 try dsimp only at hm|-
 refine qS ?_
 refine ca fun _ C _=>cN hm (fun hm=>?_) fun hm=>?_
 .refine Wp.skip (C _ _ (ca fun _ D _=>Wp.block (qS ?_)))
  obtain⟨I,hm⟩:=zl hm;obtain⟨J,o,hm⟩:=ze hm
  have c:=fun h=>yF (l:=b) (e:=zc) (d:=(aa.mk [] [] false)) (i:=(f.toNat:Nat)) h []
  refine cb fun L p=>?_
  simp only[go_sem,simprocAttr,c (by omega)]
  try refine⟨sL,?_⟩
  refine cP (av:=?av11) (g:=true) (fun hg=>KT (aa.mk ((b.getD (f.toNat:Nat) (aa.mk [] [] false)).a) ((b.getD (f.toNat:Nat) (aa.mk [] [] false)).u) ((b.getD (f.toNat:Nat) (aa.mk [] [] false)).w)) _ o) (by simp only[go_sem,simprocAttr,c (by omega)];exact Is.mk) (by simp only[go_sem,simprocAttr,c (by omega)];exact Is.mk) (by simp only[go_sem,simprocAttr,c (by omega)];exact Is.mk) (by simp only[go_sem,simprocAttr,c (by omega)]) (by simp only[go_sem,simprocAttr,c (by omega)];exact Is.mk) ?cont11;intro F;simp only[go_sem,simprocAttr,c (by omega)];refine kA p ?_
  refine cR hm fun hm=>?_
  refine Wp.skip (D _ _ (qR ?_));simp only[zS,zL,↓reduceIte];refine⟨IntKind.i64.wrap (f+1),hm,?_⟩;exact fa
 .refine Wp.exit ?_
  simp only[zS,zL,↓reduceIte];have hm:=n _ hm
  try dsimp only at hm
  refine t _ _ _ _ ?_ (k () hm);exact fa
theorem N0(f:List aa)(z:Nat×Nat×List aa)(hm:zU f=some z):Does prog 86 [.buf 0,.fn 87 []] [.fx 45 3 (List.map zc f)] (fun r X=>r=.vw 0 3 z.1 z.2.1/\X=[.fx 45 3 (List.map zc z.2.2)]):=by
 unfold zU at hm
 refine dW 1 42 [.tmp 4] func86 fun B=>nA fun hA=>?_
 refine cY 0 0 (by simp only[go_sem,simprocAttr];exact Is.mk) (by simp only[go_sem,simprocAttr];exact Is.mk) ?_;simp only[go_sem,simprocAttr];refine qS ?_;obtain⟨V,p,hm⟩:=ze hm;refine sQ [0] (fun hg=>NV f _ p) ?_
 refine ca fun _ F _=>qS ?_
 refine cR hm fun hm=>?_
 refine Wp.skip (F _ _ (ca fun K8 o G=>?_));obtain⟨I,j,hm⟩:=zN hm
 have n:∀s,I s=some z->K8 [(0,.vw 0 3 0 f.length),(5,pI s.1)] [.fx 45 3 (List.map zc s.2)]:=by
  intro s hs;have hm:=j _ hs;clear hs;obtain⟨N,L⟩:=s
  try dsimp only at hm|-
  refine o _ _ ?_;obtain⟨O,hm⟩:=zl hm
  refine cb fun K9 J=>?_
  simp only[go_sem,simprocAttr]
  try refine⟨sL,?_⟩
  refine Rg.clear (i:=?i10) (sz:=?sz10) (a:=?a10) (m:=?m10) (T:=?T10) (rows:=?rows10) (e:=?e10) (eb:=?eb10) (ez:=?ez10) (z:=?z10) (fx:=?fx10) Is.mk Is.mk Is.mk Is.mk Is.mk sg sg si si si si sg sg sg ?cont10;simp only[go_sem,simprocAttr];refine kA J ?_;obtain⟨P,hm⟩:=zl hm;exact wQ
 clear o j;refine qS ?_;refine Wp.block ?_;obtain⟨W,t,hm⟩:=rY hm;refine Wp.loopN (fun s=>[(0,.vw 0 3 0 f.length),(1,.fn 87 []),(5,pI s.1),(6,pI s.2.1)]) (fun s=>[.fx 45 3 (List.map zc s.2.2)]) ?_ hm ?_
 .exact fa
 clear hm;intro s M hm;obtain⟨g,c,b⟩:=s
 try dsimp only at hm|-
 refine ca fun _ v _=>qS ?_
 refine cN hm (fun hm=>?_) fun hm=>?_
 .refine Wp.skip (v _ _ (ca fun _ k _=>Wp.block ?_))
  obtain⟨Q,hm⟩:=zl hm;obtain⟨R,hm⟩:=zl hm
  have C:=fun h=>yF (l:=b) (e:=zc) (d:=(aa.mk [] [] false)) (i:=(c.toNat:Nat)) h []
  refine cb fun Y D=>?_
  simp only[go_sem,simprocAttr,C (by omega)];refine kA D ?_;obtain⟨Z,E,hm⟩:=ze hm;refine sX (fun hg=>KT (aa.mk ((b.getD (c.toNat:Nat) (aa.mk [] [] false)).a) ((b.getD (c.toNat:Nat) (aa.mk [] [] false)).u) ((b.getD (c.toNat:Nat) (aa.mk [] [] false)).w)) _ E) ?_
  refine cN hm (fun hm=>?_) fun hm=>?_
  .obtain⟨S,hm⟩:=zl hm
   obtain⟨U,hm⟩:=zl hm;refine q6 ?_;refine qR ?_;refine k _ _ (qR ?_);simp only[zS,zL,↓reduceIte];refine⟨(IntKind.i64.wrap (g+1),IntKind.i64.wrap (c+1),List.set b (g.toNat:Nat) (aa.mk ((b.getD (c.toNat:Nat) (aa.mk [] [] false)).a) ((b.getD (c.toNat:Nat) (aa.mk [] [] false)).u) ((b.getD (c.toNat:Nat) (aa.mk [] [] false)).w))),hm,?_⟩;exact fa
  .refine Wp.skip (k _ _ (qR ?_))
   simp only[zS,zL,↓reduceIte];refine⟨(g,IntKind.i64.wrap (c+1),b),hm,?_⟩;exact fa
 .refine Wp.exit ?_
  simp only[zS,zL,↓reduceIte];have hm:=t _ hm
  try dsimp only at hm
  refine G _ _ _ _ ?_ (n (g,b) hm);exact fa
theorem LZ(b:aj)(z:aj)(hm:Dd b=some z):Does prog 43 [.agg [lm za b.q,lm zc b.i,lm za b.n,lm zb b.m]] [] (fun r X=>r=.agg [lm za z.q,lm zc z.i,lm za z.n,lm zb z.m]/\X=[]):=by
 unfold Dd at hm
 refine dW 0 10 [.cell 2 26] func43 fun B=>nA fun hA=>?_
 refine qS ?_;obtain⟨g,c,hm⟩:=ze hm;refine sO [] (Ms b _ c) ?_;refine cS 5 (by simp only[go_sem,simprocAttr];exact Is.mk) (by simp only[go_sem,simprocAttr]) ?_;simp only[go_sem,simprocAttr];obtain⟨j,f,hm⟩:=ze hm;refine sO [5] (N0 g.2.2.2.2.2.1 _ f) ?_;refine cI 5 (by simp only[go_sem,simprocAttr];exact Is.mk) (by simp only[go_sem,simprocAttr]) ?_;simp only[go_sem,simprocAttr];refine qS ?_;refine Wp.freeze 5 (by simp only[go_sem,simprocAttr];exact Is.mk) (by first|(simp only[go_sem,simprocAttr];done)|(simp only[go_sem,simprocAttr];omega)) ?_;simp only[go_sem,simprocAttr];exact wR
theorem LY(b:aj)(z:aj×Int)(hm:Dc b=some z):Does prog 13 [.agg [lm za b.q,lm zc b.i,lm za b.n,lm zb b.m]] [] (fun r X=>r=.tup [.agg [lm za z.1.q,lm zc z.1.i,lm za z.1.n,lm zb z.1.m],pI z.2]/\X=[]):=by
 unfold Dc at hm
 refine dW 0 13 [.cell 2 26,.tmp 3] func13 fun B=>nA fun hA=>?_
 refine qS ?_
 refine ca fun _ g _=>?_
 obtain⟨j,c,hm⟩:=ze hm;refine sX (fun hg=>GA b _ c) ?_;refine qS ?_
 refine cN hm (fun hm=>?_) fun hm=>?_
 .refine qS ?_
  refine Wp.ret ?_;simp only[zS,zL];refine ls ?_;cases hm;exact fa
 .refine Wp.skip (g _ _ ?_)
  obtain⟨k,f,hm⟩:=ze hm;refine sF (LZ b _ f) ?_;exact wR
theorem LS(b:aj)(z:aj)(hm:C6 b=some z):Does prog 5 [.agg [lm za b.q,lm zc b.i,lm za b.n,lm zb b.m]] [] (fun r X=>r=.agg [lm za z.q,lm zc z.i,lm za z.n,lm zb z.m]/\X=[]):=by
 unfold C6 at hm
 refine dW 0 80 [.cell 2 26] func5 fun B=>nA fun hA=>?_
 refine qS ?_;refine qS ?_;refine qS ?_
 refine ca fun K4 ad aJ=>?_
 obtain⟨aK,Q,hm⟩:=zN hm
 have Y:∀s,aK s=some z->K4 [(1,.ptr 0 0),(2,.ptr 1 0),(3,.ptr 2 0),(4,.fn 12 [.ptr 2 0])] [.cells 26 [lm za b.q,lm zc b.i,lm za b.n,lm zb b.m],.cells 26 [.nils,.nils,.nils,.nils],.cells 26 [lm za s.1,lm zc s.2.1,lm za s.2.2.1,lm zb s.2.2.2]]:=by
  intro s hs;have hm:=Q _ hs;clear hs;obtain⟨aB,aC,aD,aE⟩:=s
  try dsimp only at hm|-
  refine ad _ _ (ca fun K5 af aL=>?_);obtain⟨aM,R,hm⟩:=zN hm
  have Z:∀s,aM s=some z->K5 [(1,.ptr 0 0),(2,.ptr 1 0),(3,.ptr 2 0),(4,.fn 12 [.ptr 2 0])] [.cells 26 [lm za b.q,lm zc b.i,lm za b.n,lm zb b.m],.cells 26 [.nils,.nils,.nils,.nils],.cells 26 [lm za s.1,lm zc s.2.1,lm za s.2.2.1,lm zb s.2.2.2]]:=by
   intro s hs;have hm:=R _ hs;clear hs;obtain⟨aF,aG,aH,aI⟩:=s
   try dsimp only at hm|-
   refine af _ _ (ca fun K6 ag aN=>?_);obtain⟨aO,S,hm⟩:=zN hm
   have a0:∀s,aO s=some z->K6 [(2,.ptr 1 0),(3,.ptr 2 0)] [.cells 26 [.top,.top,.top,.top],.cells 26 [.nils,.nils,.nils,.nils],.cells 26 [lm za s.1,lm zc s.2.1,lm za s.2.2.1,lm zb s.2.2.2]]:=by
    intro s hs;have hm:=S _ hs;clear hs;obtain⟨M,N,O,P⟩:=s
    try dsimp only at hm|-
    refine ag _ _ ?_;obtain⟨b1,a1,hm⟩:=ze hm;refine sF (LY (aj.mk M N O P) _ a1) ?_;exact wQ
   clear ag S;obtain⟨b2,hm⟩:=zl hm;refine q6 ?_;refine Wp.block ?_;obtain⟨b3,a2,hm⟩:=zF hm
   refine fL 63 ((List.take ((min (b.m.length:Int) 30).toNat) b.m).length) fun a3=>?_
   refine Wp.forL (fun T s=>[(2,.ptr 1 0),(3,.ptr 2 0),(4,.fn 12 [.ptr 2 0]),(63,lm zb (List.take ((min (b.m.length:Int) 30).toNat) b.m)),(64,pI ((List.take ((min (b.m.length:Int) 30).toNat) b.m).length:Int)),(65,pI (T:Int))]) (fun T s=>[.cells 26 [lm za b.q,lm zc b.i,lm za b.n,lm zb b.m],.cells 26 [.nils,.nils,.nils,.nils],.cells 26 [lm za s.1,lm zc s.2.1,lm za s.2.2.1,lm zb s.2.2.2]]) wF hm ?_;clear hm;intro T s aV hm;obtain⟨c,f,g,j⟩:=s
   try dsimp only at hm|-
   refine qS ?_
   refine lB zb hm a3 (fun h=>aN _ _ _ _ wF (a0 (c,f,g,j) (a2 _ h))) fun a4 b4 an aW aP aQ U hm hA _ ap=>?_
   refine q6 ?_;obtain⟨G,av,hm⟩:=ze hm;refine eO [2] (I2 (ai.mk 5 (aa.mk [] [] false) (ab.mk [] []) an) c f g j _ av) ?_;refine ap _ _ (r6 ?_);exact wN (G.1,G.2.1,G.2.2.1,G.2.2.2) a4 (U _ hm)
  clear af R;obtain⟨b5,hm⟩:=zl hm;refine q6 ?_;refine Wp.block ?_;obtain⟨b6,a5,hm⟩:=zF hm
  refine fL 46 ((List.take ((min (b.n.length:Int) 30).toNat) b.n).length) fun a6=>?_
  refine Wp.forL (fun E s=>[(1,.ptr 0 0),(2,.ptr 1 0),(3,.ptr 2 0),(4,.fn 12 [.ptr 2 0]),(46,lm za (List.take ((min (b.n.length:Int) 30).toNat) b.n)),(47,pI ((List.take ((min (b.n.length:Int) 30).toNat) b.n).length:Int)),(48,pI (E:Int))]) (fun E s=>[.cells 26 [lm za b.q,lm zc b.i,lm za b.n,lm zb b.m],.cells 26 [.nils,.nils,.nils,.nils],.cells 26 [lm za s.1,lm zc s.2.1,lm za s.2.2.1,lm zb s.2.2.2]]) wF hm ?_;clear hm;intro E s aR hm;obtain⟨k,l,o,p⟩:=s
  try dsimp only at hm|-
  refine qS ?_
  refine lB za hm a6 (fun h=>aL _ _ _ _ wF (Z (k,l,o,p) (a5 _ h))) fun a7 b7 aw aX aS aT V hm hA _ ax=>?_
  refine q6 ?_;obtain⟨I,ay,hm⟩:=ze hm;refine eO [2] (I2 (ai.mk 3 (aa.mk [] [] false) aw (ah.mk [] [] false false)) k l o p _ ay) ?_;refine ax _ _ (r6 ?_);exact wN (I.1,I.2.1,I.2.2.1,I.2.2.2) a7 (V _ hm)
 clear ad Q;obtain⟨b8,hm⟩:=zl hm;refine q6 ?_;refine Wp.block ?_;obtain⟨b9,a8,hm⟩:=zF hm
 refine fL 21 ((List.take ((min (b.i.length:Int) 30).toNat) b.i).length) fun a9=>?_
 refine Wp.forL (fun F s=>[(1,.ptr 0 0),(2,.ptr 1 0),(3,.ptr 2 0),(4,.fn 12 [.ptr 2 0]),(21,lm zc (List.take ((min (b.i.length:Int) 30).toNat) b.i)),(22,pI ((List.take ((min (b.i.length:Int) 30).toNat) b.i).length:Int)),(23,pI (F:Int))]) (fun F s=>[.cells 26 [lm za b.q,lm zc b.i,lm za b.n,lm zb b.m],.cells 26 [.nils,.nils,.nils,.nils],.cells 26 [lm za s.1,lm zc s.2.1,lm za s.2.2.1,lm zb s.2.2.2]]) wF hm ?_;clear hm;intro F s aU hm;obtain⟨t,v,C,D⟩:=s
 try dsimp only at hm|-
 refine qS ?_
 refine lB zc hm a9 (fun h=>aJ _ _ _ _ wF (Y (t,v,C,D) (a8 _ h))) fun ac ba J aY aZ b0 W hm hA _ az=>?_
 refine q6 ?_;obtain⟨bb,hm⟩:=zl hm;refine q6 ?_;obtain⟨L,aA,hm⟩:=ze hm;refine eO [2] (I2 (ai.mk 1 (aa.mk J.a (List.take ((min (J.u.length:Int) 2000).toNat) J.u) J.w) (ab.mk [] []) (ah.mk [] [] false false)) t v C D _ aA) ?_;refine az _ _ (r6 ?_);exact wN (L.1,L.2.1,L.2.2.1,L.2.2.2) ac (W _ hm)
theorem LX(b:Int)(z:Bool)(hm:Gt b=some z):Does prog 130 [pI b] [] (fun r X=>r=pB z/\X=[]):=by
 unfold Gt at hm
 refine dW 0 9 [.tmp 2] func130 fun B=>nA fun hA=>?_
 refine qS ?_;exact wQ
theorem LH(b:dX)(z:Bool)(hm:Dl b=some z):Does prog 131 [pS b] [] (fun r X=>r=pB z/\X=[]):=by
 unfold Dl at hm
 refine dW 0 36 [.tmp 2] func131 fun B=>nA fun hA=>?_
 refine qS ?_
 refine ca fun K2 n t=>?_
 obtain⟨u,f,hm⟩:=zN hm
 have j:∀s,u s=some z->K2 [(0,pS b)] []:=by
  intro s hs;have hm:=f _ hs;clear hs
  try dsimp only at hm|-
  exact n _ _ (wQ)
 clear n f;refine qS ?_;refine Wp.block ?_;obtain⟨F,o,hm⟩:=zF hm
 refine fL 0 b.length fun p=>?_
 refine Wp.forL (fun g s=>[(0,pS b),(3,pI (g:Int))]) (fun g s=>[]) wF hm ?_;clear hm;intro g s D hm
 try dsimp only at hm|-
 refine ca fun _ v _=>qS ?_
 refine Wp.cond rfl ⟨⟩ (fun i=>?_) fun i=>Wp.exit (t _ _ _ _ wF (j () (o _ (nE hm (wY i)))))
 have c:=oe i;have w:=lu c p;obtain⟨G,E,k,l,m,hm⟩:=nD hm c;clear k;refine Wp.skip ?_;simp only[zS];refine v _ _ (ca fun _ C _=>Wp.block ?_);have hA:=And.intro w l;refine q6 ?_
 refine cR hm fun hm=>?_
 refine Wp.skip (C _ _ (r6 ?_));exact wN () c (m _ hm)
theorem yN(b:dX)(z:dX)(hm:rW b=some z):Does prog 110 [pS b] [] (fun r X=>r=pS z/\X=[]):=by
 unfold rW at hm
 refine dW 0 39 [.tmp 2] func110 fun B=>nA fun hA=>?_
 refine qS ?_;refine qS ?_
 refine ca fun K3 F Q=>?_
 obtain⟨R,l,hm⟩:=zN hm
 have u:∀s,R s=some z->K3 [(3,.p (.i .u64 s))] []:=by
  intro G hs;have hm:=l _ hs;clear hs
  try dsimp only at hm|-
  refine F _ _ (qS ?_)
  refine ca fun K5 I S=>?_
  obtain⟨T,m,hm⟩:=zN hm
  have v:∀s,T s=some z->K5 [(5,.buf 0)] [.buf 5 1 (List.map fK s)]:=by
   intro W hs;have hm:=m _ hs;clear hs
   try dsimp only at hm|-
   exact I _ _ (wQ)
  clear I m;refine qS ?_;refine Wp.block ?_;obtain⟨a5,L,hm⟩:=rY hm;refine Wp.loopN (fun s=>[(3,.p (.i .u64 G)),(5,.buf 0),(22,pI ((List.replicate 16 0).length:Int)),(23,pI s.1)]) (fun s=>[.buf 5 1 (List.map fK s.2)]) ?_ hm ?_
  .exact Fb
  clear hm;intro s Y hm;obtain⟨c,k⟩:=s
  try dsimp only at hm|-
  refine qS ?_
  refine ca fun _ U _=>cN hm (fun hm=>?_) fun hm=>?_
  .refine Wp.skip (U _ _ (ca fun _ M _=>Wp.block (qS ?_)))
   obtain⟨a2,hm⟩:=zl hm;obtain⟨J,Z,f,hm⟩:=H5 hm;replace f:((([48,49,50,51,52,53,54,55,56,57,97,98,99,100,101,102]:dX).getD ((qb .and .u64 (Int.fdiv G (2^(nY .u64 (IntKind.i64.wrap (60-(IntKind.i64.wrap (4*c))))))) 15).toNat) 0).toNat:Int)=J:=f;obtain⟨a3,hm⟩:=zl hm;have hA:=f;refine r6 ?_;refine M _ _ (r6 ?_);simp only[zS,zL,↓reduceIte];refine⟨(IntKind.i64.wrap (c+1),List.set k c.toNat J),hm,?_⟩;simp only[go_sem,simprocAttr,hA]
   try exact N7
  .refine Wp.exit ?_
   simp only[zS,zL,↓reduceIte];have hm:=L _ hm
   try dsimp only at hm
   refine S _ _ _ _ ?_ (v k hm);exact Fb
 clear F l;refine qS ?_;refine Wp.block ?_;obtain⟨a4,w,hm⟩:=zF hm
 refine fL 0 b.length fun C=>?_
 refine Wp.forL (fun n s=>[(0,pS b),(3,.p (.i .u64 s)),(4,pI (n:Int))]) (fun n s=>[]) wF hm ?_;clear hm;intro n o a0 hm
 try dsimp only at hm|-
 refine ca fun _ N _=>qS ?_
 refine Wp.cond rfl ⟨⟩ (fun j=>?_) fun j=>Wp.exit (Q _ _ _ _ wF (u o (w _ (nE hm (wY j)))))
 have g:=oe j;have O:=lu g C;obtain⟨V,a1,D,E,t,hm⟩:=nD hm g;clear D;refine Wp.skip ?_;simp only[zS];refine N _ _ (ca fun _ P _=>Wp.block ?_);have hA:=And.intro O E;refine r6 ?_;refine P _ _ (r6 ?_);exact wN (IntKind.u64.wrap ((qb .xor .u64 o (IntKind.u64.wrap (V.toNat:Int)))*1099511628211)) g (t _ hm)
theorem Mu(b:ae)(z:Int)(hm:Dx b=some z):Does prog 97 [.agg [pS b.t,pI b.e,pS b.a,pS b.x,pS b.z]] [] (fun r X=>r=pI z/\X=[]):=by
 unfold Dx at hm
 refine dW 0 71 [.tmp 2] func97 fun B=>nA fun hA=>?_
 refine qS ?_
 refine ca fun _ p _=>Wp.block ?_
 obtain⟨C,c,hm⟩:=ze hm;refine sX (fun hg=>xS b.t _ c) ?_
 refine cR hm fun hm=>?_
 obtain⟨D,f,hm⟩:=ze hm;refine sX (fun hg=>LX b.e _ f) ?_
 refine cR hm fun hm=>?_
 obtain⟨u,i,hm⟩:=zY hm;obtain⟨E,j,hm⟩:=zY hm
 refine rS fun _ k=>?_
 refine cX (g:=decide (b.e=6)) (fun hg=>xS b.a _ (i hg)) ?_;refine cX (g:=((!((decide (b.e=6))&&(!u)))&&(!decide (b.e=6)))) (fun hg=>B9 b.a _ (j hg)) (k _ _ ?_)
 refine cR hm fun hm=>?_
 obtain⟨F,l,hm⟩:=ze hm;refine sX (fun hg=>LH b.x _ l) ?_
 refine cR hm fun hm=>?_
 obtain⟨G,hm⟩:=zl hm;obtain⟨v,m,hm⟩:=zY hm;obtain⟨w,hm⟩:=zl hm;obtain⟨I,n,hm⟩:=zY hm
 refine dS (pl [(0,none),(1,none),(2,none),(3,none),(4,none),(5,none),(6,none),(7,none),(8,none),(9,none),(10,none),(11,none),(12,none),(13,none),(14,none),(15,none),(16,none),(17,none),(18,none),(19,none),(20,none),(21,none)]) fun _ o=>?_
 refine cD (g:=decide (b.e=3)) (fun hg=>yN (([114]:dX)++b.z) _ (m hg)) ?_;refine cD (g:=((decide (b.e=3))&&(!decide (b.x=v)))) (fun hg=>yN (([45]:dX)++b.z) _ (n hg)) (o _ _ ?_)
 refine cR hm fun hm=>?_
 exact Wp.skip (p _ _ (wQ))
theorem NK(b:dX)(c:dX)(z:Int)(hm:D1 b c=some z):Does prog 142 [pS b,pS c] [] (fun r X=>r=pI z/\X=[]):=by
 unfold D1 at hm
 refine dW 0 8 [.tmp 4] func142 fun B=>nA fun hA=>?_
 refine qS ?_;have i:=kW b c
 refine cb fun K2 f=>?_
 simp only[go_sem,simprocAttr]
 try refine⟨sd,?_⟩
 refine cW (av:=?av3) (g:=true) (fun hg=>At b c) si si si sg si ?cont3;intro j;simp only[go_sem,simprocAttr];refine kA f ?_;exact wR
theorem Jb(b:dX)(c:dX)(z:Int)(hm:vo b c=some z):Does prog 100 [pS b,pS c] [] (fun r X=>r=pI z/\X=[]):=by
 unfold vo at hm
 refine dW 0 8 [.tmp 4] func100 fun B=>nA fun hA=>?_
 refine qS ?_;obtain⟨g,f,hm⟩:=ze hm;refine sX (fun hg=>NK b c _ f) ?_;exact wR
theorem Ml(b:Int)(z:Int)(hm:xL b=some z):Does prog 53 [pI b] [] (fun r X=>r=pI z/\X=[]):=by
 unfold xL at hm
 refine dW 0 8 [.tmp 2] func53 fun B=>nA fun hA=>?_
 refine qS ?_
 refine ca fun _ c _=>qS ?_
 refine Wp.block (qS ?_)
 refine cR hm fun hm=>?_
 refine qS ?_
 refine cR hm fun hm=>?_
 exact Wp.skip (c _ _ (wQ))
theorem z6(b:ae)(z:al)(hm:zG b=some z):Does prog 20 [.agg [pS b.t,pI b.e,pS b.a,pS b.x,pS b.z]] [] (fun r X=>r=.agg [pI z.C,pS z.y]/\X=[]):=by
 unfold zG at hm
 refine dW 0 9 [.cell 2 73] func20 fun B=>nA fun hA=>?_
 refine qS ?_;obtain⟨g,c,hm⟩:=ze hm
 refine dS (pl [(0,none),(1,none),(2,none),(3,none),(4,none),(5,none),(6,some [])]) fun _ f=>?_
 refine cD (fun hg=>Ml b.e _ c) (f _ _ ?_);exact wR
theorem M6(b:ae)(c:ae)(z:Int)(hm:vm b c=some z):Does prog 61 [.agg [pS b.t,pI b.e,pS b.a,pS b.x,pS b.z],.agg [pS c.t,pI c.e,pS c.a,pS c.x,pS c.z]] [] (fun r X=>r=pI z/\X=[]):=by
 unfold vm at hm
 refine dW 0 35 [.tmp 4] func61 fun B=>nA fun hA=>?_
 refine qS ?_
 refine ca fun _ w _=>?_
 obtain⟨l,m,hm⟩:=ze hm;refine sX (fun hg=>Jb b.t c.t _ m) ?_;refine qS ?_
 refine cR hm fun hm=>?_
 refine Wp.skip (w _ _ ?_);obtain⟨i,n,hm⟩:=ze hm;obtain⟨j,p,hm⟩:=ze hm
 refine cV (plan:=(.rd 0 (.rd 1 (.rd 2 (.rd 3 (.fk 4 [0,1,2,3] (.ef 5 [0,1,2,3] (.ef 6 [] (.ef 7 [] .nil))) 5 [0,1,2,3] (.ef 4 [0,1,2,3] (.ef 6 [] (.ef 7 [] .nil))))))))) (by kernel_rfl) rfl (by kernel_rfl) fun K8 D k=>?_
 suffices f:K8 [(0,.agg [pS b.t,pI b.e,pS b.a,pS b.x,pS b.z]),(1,.agg [pS c.t,pI c.e,pS c.a,pS c.x,pS c.z]),(2,.ptr 0 0),(3,.ptr 1 0),(4,pI 0),(5,pI l),(6,.ptr 2 0),(7,.ptr 3 0),(8,.ptr 0 0),(9,pS b.t),(10,.ptr 1 0),(11,pS c.t),(12,pI l),(13,pI l),(14,pB (!decide (l=0))),(16,.agg [pS b.t,pI b.e,pS b.a,pS b.x,pS b.z]),(17,.agg [pI i.C,pS i.y]),(18,.agg [pS c.t,pI c.e,pS c.a,pS c.x,pS c.z]),(19,.agg [pI j.C,pS j.y])] [.cells 76 [pS b.t,pI b.e,pS b.a,pS b.x,pS b.z],.cells 76 [pS c.t,pI c.e,pS c.a,pS c.x,pS c.z],.cells 73 [pI i.C,pS i.y],.cells 73 [pI j.C,pS j.y]]by
  simp only[go_sem,simprocAttr]
  try refine⟨sd,?_⟩
  refine Dr.callF (av:=?av9) (g:=true) (o:=?o9) (fun hg=>z6 b _ n) si si si si sg si ?cont9;simp only[go_sem,simprocAttr]
  try refine⟨sd,?_⟩
  refine Dr.callF (av:=?av10) (g:=true) (o:=?o10) (fun hg=>z6 c _ p) si si si si sg si ?cont10;simp only[go_sem,simprocAttr]
  try refine⟨sd,?_⟩
  refine Dr.fk ?_ ?_
  ·
   refine Br.run (o:=?o11) si si ?cont11;simp only[go_sem,simprocAttr]
   first|refine k.weak _ _ _ _ ?_ f|refine⟨sd,k.weak _ _ _ _ ?_ f⟩
   exact eo
  ·
   refine Br.run (o:=?o12) si si ?cont12;simp only[go_sem,simprocAttr]
   first|refine k.swap 2 3 _ _ (by exact Nat.le_of_ble_eq_true rfl) (by exact Nat.le_of_ble_eq_true rfl) (by exact Nat.le_of_ble_eq_true rfl) (by exact Nat.le_of_ble_eq_true rfl) ?_|refine⟨sd,k.swap 2 3 _ _ (by exact Nat.le_of_ble_eq_true rfl) (by exact Nat.le_of_ble_eq_true rfl) (by exact Nat.le_of_ble_eq_true rfl) (by exact Nat.le_of_ble_eq_true rfl) ?_⟩
   simp only[go_sem,simprocAttr];refine k.weak _ _ _ _ ?_ f;exact eo
 refine D _ _ (ca fun _ u _=>qS ?_)
 refine cR hm fun hm=>?_
 refine Wp.skip (u _ _ ?_);obtain⟨E,v,hm⟩:=ze hm;refine sX (fun hg=>Jb i.y j.y _ v) ?_;exact wR
theorem KG(b:ae)(c:ae)(z:Bool)(hm:BQ b c=some z):Does prog 89 [.agg [pS b.t,pI b.e,pS b.a,pS b.x,pS b.z],.agg [pS c.t,pI c.e,pS c.a,pS c.x,pS c.z]] [] (fun r X=>r=pB z/\X=[]):=by
 unfold BQ at hm
 refine dW 0 20 [.tmp 4] func89 fun B=>nA fun hA=>?_
 refine qS ?_;exact wQ
theorem IC(b:am)(z:Int)(hm:rX b=some z):Does prog 58 [.agg [lm zd b.r]] [] (fun r X=>r=pI z/\X=[]):=by
 unfold rX at hm
 refine dW 0 69 [.tmp 2] func58 fun B=>nA fun hA=>?_
 refine qS ?_
 refine ca fun _ ac _=>qS ?_
 refine cR hm fun hm=>?_
 refine Wp.skip (ac _ _ (ca fun K6 Z ad=>?_));obtain⟨af,u,hm⟩:=zN hm
 have J:∀s,af s=some z->K6 [(1,.ptr 0 0)] [.cells 33 [lm zd b.r]]:=by
  intro s hs;have hm:=u _ hs;clear hs
  try dsimp only at hm|-
  refine Z _ _ (qS ?_)
  refine ca fun K8 a0 ag=>?_
  obtain⟨an,v,hm⟩:=zN hm
  have L:∀s,an s=some z->K8 [] []:=by
   intro s hs;have hm:=v _ hs;clear hs
   try dsimp only at hm|-
   exact a0 _ _ (wQ)
  clear a0 v;refine qS ?_;refine Wp.block ?_;obtain⟨aA,M,hm⟩:=zF hm
  refine fL 44 b.r.length fun N=>?_
  refine Wp.forL (fun w s=>[(6,.mp 1),(44,lm zd b.r),(45,pI (b.r.length:Int)),(46,pI (w:Int))]) (fun w s=>[.cells 33 [lm zd b.r],.mp true (zj zi zd s)]) wF hm ?_;clear hm;intro w f ap hm
  try dsimp only at hm|-
  refine qS ?_
  refine lB zd hm N (fun h=>ag _ _ _ _ wF (L () (M _ h))) fun O C j av k aw D hm hA _ a2=>?_
  refine q6 ?_
  refine ca fun _ a3 _=>?_
  obtain⟨E,P,hm⟩:=ze hm;obtain⟨F,a4,hm⟩:=zC hm;have m:=zy (e:=zd) zA f E (ae.mk [] 0 [] [] []);have n:=zx (e:=zd) zA f E;simp only[zi,zp,a4,zd,map_nil]at m n;have hA:=And.intro C (And.intro k (And.intro m n));refine sX (fun hg=>z6 j _ P) ?_;obtain⟨aB,Q,hm⟩:=zY hm;refine sX (g:=F.isSome) (fun hg=>KG (F.getD (ae.mk [] 0 [] [] [])) j _ (Q hg)) ?_
  refine cR hm fun hm=>?_
  refine Wp.skip (a3 _ _ ?_);obtain⟨G,R,hm⟩:=ze hm;obtain⟨aC,hm⟩:=zl hm;have o:=fN (e:=zd) zA f G j;simp only[zi,zp,zd,map_nil]at o;have hA:=And.intro C (And.intro k o)
  refine dE (pl [(0,none),(1,none),(2,none),(3,none),(4,some [])]) fun _ a5=>?_
  refine cD (fun hg=>z6 j _ R) (a5 _ _ ?_);refine a2 _ _ (r6 ?_);exact wN (ec f G j) O (D _ hm)
 clear Z u;refine qS ?_;refine Wp.block ?_;obtain⟨aD,S,hm⟩:=zF hm
 refine fL 16 b.r.length fun T=>?_
 refine Wp.forL (fun c s=>[(1,.ptr 0 0),(16,lm zd b.r),(17,pI (b.r.length:Int)),(18,pI (c:Int))]) (fun c s=>[.cells 33 [lm zd b.r]]) wF hm ?_;clear hm;intro c s ax hm
 try dsimp only at hm|-
 refine qS ?_
 refine lB zd hm T (fun h=>ad _ _ _ _ wF (J () (S _ h))) fun U a6 a1 ay V az I hm hA _ a7=>?_
 refine q6 ?_
 refine ca fun _ a8 _=>?_
 obtain⟨aE,W,hm⟩:=ze hm;refine sX (fun hg=>Mu a1 _ W) ?_;refine q6 ?_
 refine cR hm fun hm=>?_
 refine Wp.skip (a8 _ _ ?_);obtain⟨aF,hm⟩:=zl hm;obtain⟨aG,Y,hm⟩:=zY hm;have p:=CT (l:=b.r) (e:=zd) (d:=(ae.mk [] 0 [] [] [])) (i:=(IntKind.i64.wrap ((c:Int)-1)).toNat);simp only[zd,map_nil]at p;have hA:=And.intro a6 (And.intro V p)
 refine dS (pl [(0,none),(1,none),(2,none),(3,none),(4,none),(5,none),(6,none),(7,none),(8,none),(9,none),(10,none),(11,none),(12,none)]) fun _ a9=>?_
 refine cD (g:=decide (0<(c:Int))) (fun hg=>M6 (ae.mk ((b.r.getD ((IntKind.i64.wrap ((c:Int)-1)).toNat) (ae.mk [] 0 [] [] [])).t) ((b.r.getD ((IntKind.i64.wrap ((c:Int)-1)).toNat) (ae.mk [] 0 [] [] [])).e) ((b.r.getD ((IntKind.i64.wrap ((c:Int)-1)).toNat) (ae.mk [] 0 [] [] [])).a) ((b.r.getD ((IntKind.i64.wrap ((c:Int)-1)).toNat) (ae.mk [] 0 [] [] [])).x) ((b.r.getD ((IntKind.i64.wrap ((c:Int)-1)).toNat) (ae.mk [] 0 [] [] [])).z)) a1 _ (Y hg)) (a9 _ _ ?_)
 refine cR hm fun hm=>?_
 refine Wp.skip (a7 _ _ (r6 ?_));exact wN () U (I _ hm)
theorem Ix(b:aj)(c:am)(z:Int)(hm:vh b c=some z):Does prog 35 [.agg [lm za b.q,lm zc b.i,lm za b.n,lm zb b.m],.agg [lm zd c.r]] [] (fun r X=>r=pI z/\X=[]):=by
 unfold vh at hm
 refine dW 0 13 [.tmp 4] func35 fun B=>nA fun hA=>?_
 refine qS ?_
 refine ca fun _ j _=>?_
 obtain⟨k,f,hm⟩:=ze hm;refine sX (fun hg=>GA b _ f) ?_;refine qS ?_
 refine cR hm fun hm=>?_
 refine Wp.skip (j _ _ ?_);obtain⟨l,g,hm⟩:=ze hm;refine sX (fun hg=>IC c _ g) ?_;exact wR
theorem Ln(b:List ae)(z:List ae)(hm:zT b=some z):Does prog 34 [lm zd b] [] (fun r X=>r=.buf 0/\X=[.buf 76 5 (List.map zd z)]):=by
 unfold zT at hm
 refine dW 1 8 [.tmp 2] func34 fun B=>nA fun hA=>?_
 refine qS ?_
 refine ca fun _ f _=>cb fun K3 g=>?_
 simp only[go_sem,simprocAttr]
 try refine⟨sd,?_⟩
 refine cJ (rows:=?rows4) (e:=?e4) (esz:=?esz4) (eb:=?eb4) (ez:=?ez4) Is.mk Is.mk sg sg si si ?cont4;intro i c;replace hm:=xJ hm i (fun h=>map_eq_nil_iff.1 (c h))
 try dsimp only at hm
 simp only[go_sem,simprocAttr];refine kA g ?_
 refine cN hm (fun hm=>?_) fun hm=>?_
 .refine qS ?_
  refine cu 2 76 5 rfl ?_;simp only[go_sem,simprocAttr];exact wR
 .refine Wp.skip (f _ _ ?_)
  obtain⟨j,hm⟩:=zl hm;exact wQ
theorem KW(c:ae)(b:dX)(z:Bool)(hm:xY c b=some z):Does prog 52 [.agg [pS c.t,pI c.e,pS c.a,pS c.x,pS c.z],.ptr 0 0] [.cells 9 [pS b]] (fun r X=>r=pB z/\X=[.cells 9 [pS b]]):=by
 unfold xY at hm
 refine dW 1 8 [.tmp 3] func52 fun B=>nA fun hA=>?_
 refine qS ?_;exact wQ
end Go.Proofs.YtggigadnagoglafGreatDoor
