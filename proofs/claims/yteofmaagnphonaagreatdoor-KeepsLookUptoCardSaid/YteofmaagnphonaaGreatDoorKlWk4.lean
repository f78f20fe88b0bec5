/- That the code does what the models say (part 4). -/
import Derived.Test.YteofmaagnphonaaGreatDoorKlWk0
import Derived.Test.YteofmaagnphonaaGreatDoorKlWk1
import Derived.Test.YteofmaagnphonaaGreatDoorKlWk2
import Derived.Test.YteofmaagnphonaaGreatDoorKlWk3
set_option linter.unusedSimpArgs false
set_option linter.unusedVariables false
open Go.Proofs Go.Shelf
open List
namespace Go.Proofs.YteofmaagnphonaaGreatDoor
open Tryz
open Go.Vc Go.Md
set_option maxRecDepth 100000
set_option maxHeartbeats 4000000
theorem zmC(b:ai)(f:List aa)(i:Int)(c:List ab)(k:List (eo×ae))(l:List (eo×eo))(m:List (eo×ah))(n:List ai)(z:Int×(List (eo×ae))×(List (eo×eo))×(List (eo×ah))×List ai)(w:Nl b f i c k l m n=some z):Does prog 80 [.ptr 0 0,.agg [pI b.g,pS b.j.a,pS b.j.F,pB b.j.G,pS b.x.r,pS b.x.Value,pS b.h.C,pS b.h.a,pB b.h.H,pB b.h.I]] [.cells 108 [.ptr 1 0,lm zd f,.buf 5,.nils,.nils,pI i],.cells 163 [lm za c,.mp 2,.mp 3,.mp 4],.mp true (zz Dt.s zc k),.mp false (zz Dt.s eu l),.mp true (zz Dt.s zb m),.buf 74 10 (List.map zg n)] (fun r X=>r=.tup []/\X=[.cells 108 [.ptr 1 0,lm zd f,.buf 5,.nils,.nils,pI z.1],.cells 163 [lm za c,.mp 2,.mp 3,.mp 4],.mp true (zz Dt.s zc z.2.1),.mp false (zz Dt.s eu z.2.2.1),.mp true (zz Dt.s zb z.2.2.2.1),.buf 74 10 (List.map zg z.2.2.2.2)]):=by
 unfold Nl at w;refine dW 6 32 [] func80 fun B=>nA fun A=>?_;refine qS ?_;obtain⟨u,w⟩:=zi w;refine dS (pl [(0,none),(1,none),(2,none),(3,none),(4,none),(5,none),(6,none),(7,some [0,1,2,3,4,5]),(8,some [0]),(9,none),(10,none),(11,none),(12,some [])]) fun _ p=>p _ _ ?_;obtain⟨v,o,w⟩:=ze w;refine dS (pl [(0,none),(1,none),(2,none),(3,none),(4,none),(5,some []),(6,none)]) fun _ t=>?_;refine cE [1,2,3,4] (Xl b c k l m _ o) (t _ _ ?_);refine qS ?_;refine cN w (fun w=>?_) fun w=>?_
 .refine qR ?_;refine zG ?_;cases w;exact fN
 .refine Wp.skip (zG ?_);cases w;exact fN
theorem ES(g:Int)(i:eo)(b:List aa)(c:Int)(f:List ab)(j:List (eo×ae))(k:List (eo×eo))(l:List (eo×ah))(m:List ai)(n:List am)(z:List am)(w:tu g i b c f j k l m n=some z):Does prog 116 [.ptr 0 0,pI g,pS i] [.cells 108 [.ptr 1 0,lm zd b,.buf 5,.nils,.buf 6,pI c],.cells 163 [lm za f,.mp 2,.mp 3,.mp 4],.mp true (zz Dt.s zc j),.mp false (zz Dt.s eu k),.mp true (zz Dt.s zb l),.buf 74 10 (List.map zg m),.buf 189 2 (List.map zm n)] (fun r X=>r=.tup []/\X=[.cells 108 [.ptr 1 0,lm zd b,.buf 5,.nils,.buf 6,pI c],.cells 163 [lm za f,.mp 2,.mp 3,.mp 4],.mp true (zz Dt.s zc j),.mp false (zz Dt.s eu k),.mp true (zz Dt.s zb l),.buf 74 10 (List.map zg m),.buf 189 2 (List.map zm z)]):=by
 unfold tu at w;refine dW 7 20 [] func116 fun B=>nA fun A=>?_;obtain⟨o,w⟩:=zi w;refine r6 ?_;refine zG ?_;cases w;exact fN
theorem A7(b:ai)(f:List aa)(i:Int)(c:List ab)(k:List (eo×ae))(l:List (eo×eo))(m:List (eo×ah))(o:List ai)(n:List am)(z:Int×(List (eo×ae))×(List (eo×eo))×(List (eo×ah))×List ai)(w:mq b f i c k l m o n=some z):Does prog 80 [.ptr 0 0,.agg [pI b.g,pS b.j.a,pS b.j.F,pB b.j.G,pS b.x.r,pS b.x.Value,pS b.h.C,pS b.h.a,pB b.h.H,pB b.h.I]] [.cells 108 [.ptr 1 0,lm zd f,.buf 5,.nils,.buf 6,pI i],.cells 163 [lm za c,.mp 2,.mp 3,.mp 4],.mp true (zz Dt.s zc k),.mp false (zz Dt.s eu l),.mp true (zz Dt.s zb m),.buf 74 10 (List.map zg o),.buf 189 2 (List.map zm n)] (fun r X=>r=.tup []/\X=[.cells 108 [.ptr 1 0,lm zd f,.buf 5,.nils,.buf 6,pI z.1],.cells 163 [lm za c,.mp 2,.mp 3,.mp 4],.mp true (zz Dt.s zc z.2.1),.mp false (zz Dt.s eu z.2.2.1),.mp true (zz Dt.s zb z.2.2.2.1),.buf 74 10 (List.map zg z.2.2.2.2),.buf 189 2 (List.map zm n)]):=by
 unfold mq at w;refine dW 7 32 [] func80 fun B=>nA fun A=>?_;refine qS ?_;obtain⟨v,w⟩:=zi w;refine dS (pl [(0,none),(1,none),(2,none),(3,none),(4,none),(5,none),(6,none),(7,some [0,1,2,3,4,5]),(8,some [0]),(9,none),(10,none),(11,none),(12,some [])]) fun _ t=>t _ _ ?_;obtain⟨D,p,w⟩:=ze w;refine dS (pl [(0,none),(1,none),(2,none),(3,none),(4,none),(5,some []),(6,none)]) fun _ u=>?_;refine cE [1,2,3,4] (Xl b c k l m _ p) (u _ _ ?_);refine qS ?_;refine cN w (fun w=>?_) fun w=>?_
 .refine qR ?_;refine zG ?_;cases w;exact fN
 .refine Wp.skip (zG ?_);cases w;exact fN
theorem zh3(b:aa)(c:List aa)(i:Int)(f:List ab)(m:List (eo×ae))(n:List (eo×eo))(o:List (eo×ah))(j:List ai)(l:List am)(z:Int×(List (eo×ae))×(List (eo×eo))×(List (eo×ah))×List ai)(w:LQ b c i f m n o j l=some z):Does prog 117 [.ptr 0 0,.agg [pS b.q,pI b.g,pS b.a,pS b.y,pS b.E]] [.cells 108 [.ptr 1 0,lm zd c,.buf 5,.nils,.buf 6,pI i],.cells 163 [lm za f,.mp 2,.mp 3,.mp 4],.mp true (zz Dt.s zc m),.mp false (zz Dt.s eu n),.mp true (zz Dt.s zb o),.buf 74 10 (List.map zg j),.buf 189 2 (List.map zm l)] (fun r X=>r=.tup []/\X=[.cells 108 [.ptr 1 0,lm zd c,.buf 5,.nils,.buf 6,pI z.1],.cells 163 [lm za f,.mp 2,.mp 3,.mp 4],.mp true (zz Dt.s zc z.2.1),.mp false (zz Dt.s eu z.2.2.1),.mp true (zz Dt.s zb z.2.2.2.1),.buf 74 10 (List.map zg z.2.2.2.2),.buf 189 2 (List.map zm l)]):=by
 unfold LQ at w;refine dW 7 34 [] func117 fun B=>nA fun A=>?_;refine qS ?_;obtain⟨M,G,w⟩:=ze w;obtain⟨D,O,k,P,w⟩:=kM w;replace k:∀d,(List.map zt [2,4,6]).getD M.toNat d=zt D:=k zt;simp only[map_cons,map_nil,zt]at k;have A:=k;refine sX (fun e=>qk b.g _ G) ?_;refine dc fun h L F=>?_;obtain⟨N,t,w⟩:=zp w;have p:∀s,N s=some z->h [(0,.ptr 0 0),(4,.ptr 8 0)] [.cells 108 [.ptr 1 0,lm zd c,.buf 5,.nils,.buf 6,pI i],.cells 163 [lm za f,.mp 2,.mp 3,.mp 4],.mp true (zz Dt.s zc m),.mp false (zz Dt.s eu n),.mp true (zz Dt.s zb o),.buf 74 10 (List.map zg j),.buf 189 2 (List.map zm l),.cells 29 [.top,.top,.top,.top,.top],.cells 74 [pI D,pS s.1,pS ([]),pB false,pS s.2.1,pS ([]),pS s.2.2,pS ([]),pB false,pB false]]:=by
  intro s hs;have w:=t _ hs;clear hs;obtain⟨u,v,C⟩:=s;try dsimp only at w|-
  refine L _ _ ?_;obtain⟨Q,I,w⟩:=ze w;refine eO [0,1,2,3,4,5,6] (A7 (ai.mk D (ae.mk u [] false) (ab.mk v []) (ah.mk C [] false false)) c i f m n o j l _ I) ?_;refine zG ?_;cases w;simp only[go_sem,simprocAttr,A];try exact uE
 clear L t;obtain⟨R,J,w⟩:=ze w;refine sX (fun e=>qk b.g _ J) ?_;refine Wp.block (q6 ?_);refine cN w (fun w=>?_) fun w=>?_
 .refine r6 ?_;refine F _ _ _ _ ?_ (p (b.a,[],[]) w);simp only[go_sem,simprocAttr,A];try exact uE
 .refine q6 ?_;refine cN w (fun w=>?_) fun w=>?_
  .refine r6 ?_;refine F _ _ _ _ ?_ (p ([],b.a,[]) w);simp only[go_sem,simprocAttr,A];try exact uE
  .refine r6 ?_;refine F _ _ _ _ ?_ (p ([],[],b.a) w);simp only[go_sem,simprocAttr,A];try exact uE
theorem Z1(b:aa)(j:ax)(c:List aa)(i:Int)(f:List ab)(k:List (eo×ae))(l:List (eo×eo))(m:List (eo×ah))(n:List ai)(p:List am)(z:Int×(List (eo×ae))×(List (eo×eo))×(List (eo×ah))×List ai×List am)(w:LO b j c i f k l m n p=some z):Does prog 68 [.ptr 0 0,.agg [pS b.q,pI b.g,pS b.a,pS b.y,pS b.E],.agg [pB j.O,pB j.P]] [.cells 108 [.ptr 1 0,lm zd c,.buf 5,.nils,.buf 6,pI i],.cells 163 [lm za f,.mp 2,.mp 3,.mp 4],.mp true (zz Dt.s zc k),.mp false (zz Dt.s eu l),.mp true (zz Dt.s zb m),.buf 74 10 (List.map zg n),.buf 189 2 (List.map zm p)] (fun r X=>r=.tup []/\X=[.cells 108 [.ptr 1 0,lm zd c,.buf 5,.nils,.buf 6,pI z.1],.cells 163 [lm za f,.mp 2,.mp 3,.mp 4],.mp true (zz Dt.s zc z.2.1),.mp false (zz Dt.s eu z.2.2.1),.mp true (zz Dt.s zb z.2.2.2.1),.buf 74 10 (List.map zg z.2.2.2.2.1),.buf 189 2 (List.map zm z.2.2.2.2.2)]):=by
 unfold LO at w;refine dW 7 54 [] func68 fun B=>nA fun A=>?_;refine qS ?_;obtain⟨R,I,w⟩:=ze w;refine dp (plan:=pl [(0,none),(1,none),(2,none),(3,none),(4,none),(5,some []),(6,none)]) (by kernel_rfl) rfl (by kernel_rfl) fun h V=>?_;simp only[go_sem,simprocAttr];try refine⟨sd,?_⟩
 refine de (Br.callR (av:=?av3) (g:=true) (o:=?o3) [1,2,3,4] (fun d=>U4 b f k l m _ I) si si si si si sg sg sg sg ?cont3);simp only[go_sem,simprocAttr];refine kA V ?_;refine dc fun _ W _=>qS ?_;refine cR w fun w=>?_;refine Wp.skip (W _ _ (dc fun e Q F=>?_));obtain⟨S,C,w⟩:=zp w;have u:∀s,S s=some z->e [(0,.ptr 0 0),(4,.ptr 7 0)] [.cells 108 [.ptr 1 0,lm zd c,.buf 5,.nils,.buf 6,pI i],.cells 163 [lm za f,.mp 2,.mp 3,.mp 4],.mp true (zz Dt.s zc k),.mp false (zz Dt.s eu l),.mp true (zz Dt.s zb m),.buf 74 10 (List.map zg n),.buf 189 2 (List.map zm p),.cells 29 [pS b.q,pI b.g,pS b.a,pS b.y,pS b.E]]:=by
  intro s hs;have w:=C _ hs;clear hs;try dsimp only at w|-
  refine Q _ _ ?_;obtain⟨K,J,w⟩:=ze w;refine eO [0,1,2,3,4,5,6] (zh3 b c i f k l m n p _ J) ?_;refine zG ?_;cases w;exact fN
 clear Q C;refine qS ?_;refine Wp.block (qS ?_);refine cN w (fun w=>?_) fun w=>?_
 .refine dc fun _ T _=>?_;obtain⟨x,L,w⟩:=ze w;refine sX (fun d=>zcE c b _ L) ?_;refine cR w fun w=>?_;refine Wp.skip (T _ _ (qS ?_));refine cN w (fun w=>?_) fun w=>?_
  .obtain⟨a0,M,w⟩:=ze w;refine sO [0,1,2,3,4,5,6] (ES 6 b.a c i f k l m n p _ M) ?_;exact wR
  .refine Wp.skip (F _ _ _ _ ?_ (u () w));exact fN
 .refine dc fun Y G v=>?_;obtain⟨U,D,w⟩:=zp w
  have t:∀s,U s=some z->Y [(0,.ptr 0 0),(4,.ptr 7 0),(5,.ptr 8 0),(6,pI R),(36,pB s)] [.cells 108 [.ptr 1 0,lm zd c,.buf 5,.nils,.buf 6,pI i],.cells 163 [lm za f,.mp 2,.mp 3,.mp 4],.mp true (zz Dt.s zc k),.mp false (zz Dt.s eu l),.mp true (zz Dt.s zb m),.buf 74 10 (List.map zg n),.buf 189 2 (List.map zm p),.cells 29 [pS b.q,pI b.g,pS b.a,pS b.y,pS b.E],.cells 57 [pB j.O,pB j.P]]:=by
   intro Z hs;have w:=D _ hs;clear hs;try dsimp only at w|-
   refine G _ _ (cN w (fun w=>?_) fun w=>?_)
   .refine qS ?_;refine cN w (fun w=>?_) fun w=>?_
    .obtain⟨H,N,w⟩:=ze w;refine sO [0,1,2,3,4,5,6] (ES 6 b.a c i f k l m n p _ N) ?_;exact wR
    .refine Wp.skip (F _ _ _ _ ?_ (u () w));exact fN
   .refine Wp.skip (F _ _ _ _ ?_ (u () w));exact fN
  clear G D;refine qS ?_;refine cN w (fun w=>?_) fun w=>?_
  .refine Wp.skip (v _ _ _ _ ?_ (t (decide (b.g=3)) w));exact fN
  .refine qS ?_;refine cN w (fun w=>?_) fun w=>?_
   .refine Wp.skip (v _ _ _ _ ?_ (t (decide (b.g=4)) w));exact fN
   .refine qR ?_;refine v _ _ _ _ ?_ (t (decide (b.g=5)) w);exact fN
theorem zkQ(c:aa)(f:eo)(b:aa)(z:Bool)(w:Pb c f b=some z):Does prog 64 [.agg [pS c.q,pI c.g,pS c.a,pS c.y,pS c.E],.rp [.s f],.rp [.s b.q,.i .i64 b.g,.s b.a,.s b.y,.s b.E]] [] (fun r X=>r=pB z/\X=[]):=by
 unfold Pb at w;refine dW 0 23 [.tmp 4] func64 fun B=>nA fun A=>?_;refine qS ?_;exact wQ
theorem zde(c:List aa)(f:eo)(b:aa)(z:Int)(w:Ve c f b=some z):Does prog 63 [lm zd c,.fn 64 [.rp [.s f],.rp [.s b.q,.i .i64 b.g,.s b.a,.s b.y,.s b.E]]] [] (fun r X=>r=pI z/\X=[]):=by
 unfold Ve at w;refine dW 0 19 [.tmp 4] func63 fun B=>nA fun A=>?_;refine qS ?_;refine dc fun d o v=>?_;obtain⟨C,j,w⟩:=zp w;have l:∀s,C s=some z->d [] []:=by
  intro s hs;have w:=j _ hs;clear hs;try dsimp only at w|-
  exact o _ _ (wQ)
 clear o j;refine qS ?_;refine Wp.block ?_;obtain⟨M,p,w⟩:=zq w;refine fL 0 c.length fun m=>?_;refine Wp.forL (fun k s=>[(0,lm zd c),(1,.fn 64 [.rp [.s f],.rp [.s b.q,.i .i64 b.g,.s b.a,.s b.y,.s b.E]]),(7,pI (c.length:Int)),(8,pI (k:Int))]) (fun k s=>[]) wF w ?_;clear w;intro k s G w;try dsimp only at w|-
 refine qS ?_;refine lB zd w m (fun h=>v _ _ _ _ wF (l () (p _ h))) fun t N D L I J n w A _ F=>?_;refine q6 ?_;obtain⟨O,u,w⟩:=ze w;refine sX (fun e=>zkQ D f b _ u) ?_;refine cR w fun w=>?_;refine Wp.skip (F _ _ (r6 ?_));exact wN () t (n _ w)
theorem zmH(f:aa)(b:List aa)(c:eo)(z:aa×Bool)(w:O1 f b c=some z):Does prog 62 [.agg [pS f.q,pI f.g,pS f.a,pS f.y,pS f.E],.ptr 0 0,.ptr 1 0] [.cells 33 [lm zd b],.cells 9 [pS c]] (fun r X=>r=.tup [.agg [pS z.1.q,pI z.1.g,pS z.1.a,pS z.1.y,pS z.1.E],pB z.2]/\X=[.cells 33 [lm zd b],.cells 9 [pS c]]):=by
 unfold O1 at w;refine dW 2 19 [.cell 4 29,.tmp 5] func62 fun B=>nA fun A=>?_;refine qS ?_;obtain⟨k,j,w⟩:=ze w;refine sX (fun e=>zde b c f _ j) ?_;refine dc fun _ l _=>qS ?_;refine cR w fun w=>?_;refine Wp.skip (l _ _ ?_);obtain⟨m,n,i,o,w⟩:=kM w;replace i:∀d,(List.map zd b).getD k.toNat d=zd m:=i zd;have A:=i;exact wQ
theorem zhW(c:eo)(b:eo)(z:List eo)(w:LS c b=some z):Does prog 199 [pS c,pS b] [] (fun r X=>r=lm eu z/\X=[]):=by
 unfold LS at w;refine dW 0 10 [.tmp 4] func199 fun B=>nA fun A=>?_;refine qS ?_;obtain⟨g,f,w⟩:=ze w;refine sF (ZX c b (b.length:Int) (-1) _ f) ?_;exact wR
theorem UO(c:eo)(z:List eo)(w:xF c=some z):Does prog 171 [pS c] [] (fun r X=>r=lm eu z/\X=[]):=by
 unfold xF at w;refine dW 0 19 [.tmp 2] func171 fun B=>nA fun A=>?_;refine qS ?_;obtain⟨f,i,w⟩:=ze w;refine sF (zhW c ([10]:eo) _ i) ?_;refine dc fun _ g _=>qS ?_;obtain⟨j,k,b,l,w⟩:=kM w;replace b:∀d,(List.map eu f).getD ((IntKind.i64.wrap ((f.length:Int)-1)).toNat) d=eu j:=b eu;have A:=b;refine q6 ?_;refine cN w (fun w=>?_) fun w=>?_
 .obtain⟨m,w⟩:=zi w;refine r6 ?_;exact g _ _ (wQ)
 .exact Wp.skip (g _ _ (wQ))
theorem ZT(c:eo)(f:eo)(z:Int)(w:A2 c f=some z):Does prog 170 [pS c,pS f] [] (fun r X=>r=pI z/\X=[]):=by
 unfold A2 at w;refine dW 0 25 [.tmp 4] func170 fun B=>nA fun A=>?_;refine qS ?_;refine dc fun d t D=>?_;obtain⟨E,j,w⟩:=zp w;have n:∀s,E s=some z->d [] []:=by
  intro s hs;have w:=j _ hs;clear hs;try dsimp only at w|-
  exact t _ _ (wQ)
 clear t j;refine qS ?_;refine Wp.block ?_;obtain⟨O,v,w⟩:=zq w;refine dO 9 fun k=>?_;replace k:[c,f].length<=274877906944:=Nat.le_of_ble_eq_true rfl;refine Wp.forL (fun l s=>[(9,.full (List.map eu [c,f])),(10,pI ([c,f].length:Int)),(11,pI (l:Int))]) (fun l s=>[]) wF w ?_;clear w;intro l s L w;try dsimp only at w|-
 refine qS ?_;refine dc fun _ F _=>Wp.cond rfl ⟨⟩ (fun m=>?_) fun m=>Wp.exit (D _ _ _ _ wF (n () (v _ (jd w (ss m)))));have i:=jz m;have G:=iz i k;obtain⟨u,N,b,M,o,w⟩:=jh w i;replace b:=b eu;simp only[map_cons,map_nil,eu]at b;refine Wp.skip ?_;simp only[zF];refine F _ _ (dc fun _ I _=>Wp.block ?_);have A:=And.intro G b;refine q6 ?_;obtain⟨P,C,p,w⟩:=WF w;refine dd fun e J=>?_;simp only[go_sem,simprocAttr,A];try refine⟨sd,?_⟩
 refine dD (av:=?av10) (g:=!(decide (65536<(u.length:Int)))) [] (fun a=>UO u _ (C a)) (fun a=>by obtain rfl:=p a;rfl) (by simp only[go_sem,simprocAttr,A];exact Is.mk) (by simp only[go_sem,simprocAttr,A];exact Is.mk) (by simp only[go_sem,simprocAttr,A];exact Is.mk) (by simp only[go_sem,simprocAttr,A];exact Is.mk) (by simp only[go_sem,simprocAttr,A]) (by simp only[go_sem,simprocAttr,A]) ?cont10;simp only[go_sem,simprocAttr,A];refine kA J ?_;refine cR w fun w=>?_;refine Wp.skip (I _ _ (r6 ?_));exact wN () i (o _ w)
theorem zge(b:List Int)(z:List Int)(w:EV b=some z):Does prog 201 [lm zt b] [] (fun r X=>r=.buf 0/\X=[.buf 3 1 (List.map zt z)]):=by
 unfold EV at w;refine dW 1 8 [.tmp 2] func201 fun B=>nA fun A=>?_;refine qS ?_;refine dc fun _ f _=>dd fun a g=>?_;simp only[go_sem,simprocAttr];try refine⟨sd,?_⟩
 refine dI (rows:=?rows4) (e:=?e4) (esz:=?esz4) (eb:=?eb4) (ez:=?ez4) Is.mk Is.mk sg sg si si ?cont4;intro i c;replace w:=MU w i (fun h=>map_eq_nil_iff.1 (c h));try dsimp only at w
 simp only[go_sem,simprocAttr];refine kA g ?_;refine cN w (fun w=>?_) fun w=>?_
 .refine qS ?_;refine df 2 3 1 rfl ?_;simp only[go_sem,simprocAttr];exact wR
 .refine Wp.skip (f _ _ ?_);obtain⟨j,w⟩:=zi w;exact wQ
theorem r8(k:List eo)(m:List eo)(b:List Int)(f:Int)(c:List (List Int))(z:Bool)(w:BA k m b f c=some z):Does prog 200 [lm eu k,lm eu m,lm zt b,pI f,lm zC c] [] (fun r X=>r=pB z/\X=[]):=by
 unfold BA at w;refine dW 0 59 [.tmp 10] func200 fun B=>nA fun A=>?_;refine qS ?_;refine qS ?_;refine dc fun a S h=>?_;obtain⟨Y,v,w⟩:=zp w;have N:∀s,Y s=some z->a [(2,lm zt b),(3,pI f),(4,lm zC c),(11,pI s)] []:=by
  intro Z hs;have w:=v _ hs;clear hs;try dsimp only at w|-
  refine S _ _ ?_;obtain⟨T,av,n,aw,w⟩:=kM w;replace n:∀d,(List.map zt b).getD ((IntKind.i64.wrap ((b.length:Int)-1)).toNat) d=zt T:=n zt;obtain⟨U,az,o,aA,w⟩:=kM w;replace o:∀d,(List.map zC c).getD ((IntKind.i64.wrap (T+1)).toNat) d=zC U:=o zC;obtain⟨ac,aB,p,aC,w⟩:=kM w;replace p:∀d,(List.map zt U).getD Z.toNat d=zt ac:=p zt;have A:=And.intro n (And.intro o p);exact wQ
 clear S v;refine qS ?_;refine Wp.block ?_;obtain⟨aG,O,w⟩:=zq w;refine fL 2 b.length fun P=>?_;refine Wp.forL (fun j s=>[(0,lm eu k),(1,lm eu m),(2,lm zt b),(3,pI f),(4,lm zC c),(11,pI s),(14,lm zt b),(15,pI (b.length:Int)),(16,pI (j:Int))]) (fun j s=>[]) wF w ?_;clear w;intro j q ad w;try dsimp only at w|-
 refine qS ?_;refine dc fun _ a0 _=>Wp.cond rfl ⟨⟩ (fun G=>?_) fun G=>Wp.exit (h _ _ _ _ wF (N q (O _ (jd w (ss G)))));have t:=jz G;have I:=iz t P;obtain⟨V,aD,g,aE,J,w⟩:=jh w t;replace g:=g zt;refine Wp.skip ?_;simp only[zF];refine a0 _ _ (dc fun x W y=>?_);obtain⟨a1,C,w⟩:=zp w;have Q:∀s,a1 s=some z->x [(0,lm eu k),(1,lm eu m),(2,lm zt b),(3,pI f),(4,lm zC c),(11,pI s),(14,lm zt b),(15,pI (b.length:Int)),(16,pI (j:Int))] []:=by
  intro H hs;have w:=C _ hs;clear hs;try dsimp only at w|-
  refine W _ _ ?_;have A:=And.intro I g;refine r6 ?_;exact wN H t (J _ w)
 clear W C;refine Wp.block ?_;have A:=And.intro I g;refine q6 ?_;refine dc fun K L a3=>?_;obtain⟨a4,D,w⟩:=zp w;have M:∀s,a4 s=some z->K [(0,lm eu k),(1,lm eu m),(2,lm zt b),(3,pI f),(4,lm zC c),(11,pI s),(14,lm zt b),(15,pI (b.length:Int)),(16,pI (j:Int))] []:=by
  intro a5 hs;have w:=D _ hs;clear hs;try dsimp only at w|-
  refine L _ _ (dc fun _ a6 _=>q6 ?_);refine cR w fun w=>?_;refine Wp.skip (a6 _ _ (r6 ?_));refine y _ _ _ _ ?_ (Q (IntKind.i64.wrap (a5+1)) w);simp only[go_sem,simprocAttr,A];try exact eS
 clear L D;refine Wp.block ?_;obtain⟨aH,R,w⟩:=jj w;refine Wp.loopN (fun s=>[(0,lm eu k),(1,lm eu m),(2,lm zt b),(3,pI f),(4,lm zC c),(11,pI s),(13,pI V),(14,lm zt b),(15,pI (b.length:Int)),(16,pI (j:Int))]) (fun s=>[]) ?_ w ?_
 .simp only[go_sem,simprocAttr,A];try exact eS
 clear w;intro u aF w;try dsimp only at w|-
 refine dc fun _ a7 _=>?_;obtain⟨aI,w⟩:=zi w;obtain⟨aJ,w⟩:=zi w;have E:=BV (l:=m) (e:=eu) (d:=[]) (i:=u.toNat);simp only[eu,map_nil]at E;have F:=BV (l:=k) (e:=eu) (d:=[]) (i:=V.toNat);simp only[eu,map_nil]at F;have A:=And.intro I (And.intro g (And.intro E F));refine dS (pl [(0,none),(1,none),(2,none),(3,none),(4,none),(5,none),(6,none),(7,none),(8,none),(9,none),(10,none),(11,none),(12,none),(13,none),(14,none)]) fun _ a8=>a8 _ _ ?_;refine cN w (fun w=>?_) fun w=>?_
 .refine Wp.skip (a7 _ _ (Wp.block (r6 ?_)));simp only[zF,zB,↓reduceIte];refine⟨IntKind.i64.wrap (u+1),w,?_⟩;simp only[go_sem,simprocAttr,A];try exact eS
 .refine Wp.exit ?_;simp only[zF,zB,↓reduceIte];have w:=R _ w;try dsimp only at w
  refine a3 _ _ _ _ ?_ (M u w);simp only[go_sem,simprocAttr,A];try exact eS
theorem YX(c:List eo)(b:List eo)(z:List ao)(w:L8 c b=some z):Does prog 172 [lm eu c,lm eu b] [] (fun r X=>r=lm zR z/\X=[]):=by
 unfold L8 at w;refine dW 0 158 [.tmp 4] func172 fun B=>nA fun A=>?_;refine qS ?_;refine qS ?_;obtain⟨cl,w⟩:=zi w;obtain⟨J,j,w⟩:=il w;refine ec fun K3 bS y=>?_;suffices Z:K3 [(0,lm eu c),(1,lm eu b),(4,.nils),(5,pI (c.length:Int)),(6,pI (b.length:Int)),(7,.buf 0),(18,lm eu c),(19,pI (c.length:Int)),(20,lm eu b),(21,pI (b.length:Int))] [.nst false 175 1 0 1 (List.map zl J) none,.inn 3 1 (List.map zn J)]by
  subst j;simp only[go_sem,simprocAttr,false_implies,and_true,true_and,eA];first|refine y _ _ _ _ ?_ Z|refine⟨sL,y _ _ _ _ ?_ Z⟩
  simp only[go_sem,simprocAttr,false_implies,and_true,true_and,eA];try exact eS
 refine bS _ _ (dc fun K4 a1 bT=>?_);obtain⟨bl,H,w⟩:=zp w;have aZ:∀s,bl s=some z->K4 [(0,lm eu c),(1,lm eu b),(5,pI (c.length:Int)),(6,pI (b.length:Int)),(7,.buf 0)] [.nst false 175 1 0 1 (List.map zl s) none,.inn 3 1 (List.map zn s)]:=by
  intro c8 hs;have w:=H _ hs;clear hs;try dsimp only at w|-
  refine a1 _ _ (dc fun K5 K bU=>?_);obtain⟨bm,a4,w⟩:=zp w;have b0:∀s,bm s=some z->K5 [(0,lm eu c),(1,lm eu b),(7,.buf 0)] [.nst false 175 1 0 1 (List.map zl s) none,.inn 3 1 (List.map zn s)]:=by
   intro u hs;have w:=a4 _ hs;clear hs;try dsimp only at w|-
   refine K _ _ ?_;have A:=j;refine q6 ?_;refine dc fun K7 bk bV=>?_;obtain⟨bn,a5,w⟩:=zp w;have b1:∀s,bn s=some z->K7 [(0,lm eu c),(1,lm eu b),(11,.buf 2)] [.gone,.gone,.buf 3 1 (List.map zt s)]:=by
    intro m hs;have w:=a5 _ hs;clear hs;try dsimp only at w|-
    refine bk _ _ (q6 ?_);refine q6 ?_;refine dc fun bW aK bo=>?_;obtain⟨bp,a6,w⟩:=zp w;have aL:∀s,bp s=some z->bW [(14,.buf 3)] [.gone,.gone,.gone,.buf 227 2 (List.map zR s)]:=by
     intro c9 hs;have w:=a6 _ hs;clear hs;try dsimp only at w|-
     exact aK _ _ (wQ)
    clear aK a6;refine q6 ?_;refine Wp.block (df 14 227 2 rfl ?_);simp only[go_sem,simprocAttr,A];obtain⟨cm,b2,w⟩:=kf w;refine dQ 2 fun R=>?_;replace R:m.length<=274877906944:=by simp only[go_sem,simprocAttr,length_map]at R;omega
    refine Wp.forC (fun o s=>[(0,lm eu c),(1,lm eu b),(14,.buf 3),(15,pI s.1),(131,.buf 2),(132,pI (m.length:Int)),(133,pI (o:Int))]) (fun o s=>[.gone,.gone,.buf 3 1 (List.map zt m),.buf 227 2 (List.map zR s.2)]) ?_ w ?_
    .simp only[go_sem,simprocAttr,A];try exact eS
    clear w;intro o s bX w;obtain⟨cn,G⟩:=s;try dsimp only at w|-
    refine q6 ?_;refine dc fun _ bq _=>Wp.cond rfl ⟨⟩ (fun S=>?_) (fun S=>?_);rotate_left
    .refine Wp.exit ?_;have w:=b2 _ (nG w (tf (by first|exact S|simpa using S)));try dsimp only at w
     refine bo _ _ _ _ ?_ (aL G w);simp only[go_sem,simprocAttr,A];try exact eS
    have T:=jz S;have L:=iz T R;obtain⟨ca,aM,w⟩:=ke w T;refine Wp.skip ?_;simp only[zF];refine bq _ _ (dc fun bY aN br=>?_);obtain⟨bs,a7,w⟩:=zp w;have aO:∀s,bs s=some z->bY [(0,lm eu c),(1,lm eu b),(14,.buf 3),(15,pI s.1),(131,.buf 2),(132,pI (m.length:Int)),(133,pI (o:Int))] [.gone,.gone,.buf 3 1 (List.map zt m),.buf 227 2 (List.map zR s.2)]:=by
     intro s hs;have w:=a7 _ hs;clear hs;obtain⟨bt,b3⟩:=s;try dsimp only at w|-
     refine aN _ _ ?_;have A:=And.intro j L;refine r6 ?_;exact wN (bt,b3) T (aM _ w)
    clear aN a7;refine Wp.block ?_;have b4:=fun h=>g9 (l:=m) (e:=zt) (d:=0) (i:=o) h [];refine dd fun cZ bu=>?_;simp only[go_sem,simprocAttr,j,L,b4 (by omega)];refine kA bu ?_;refine dc fun bZ aP bv=>?_;obtain⟨bw,a8,w⟩:=zp w;have aQ:∀s,bw s=some z->bZ [(0,lm eu c),(1,lm eu b),(14,.buf 3),(15,pI s),(17,pI (m.getD o 0)),(131,.buf 2),(132,pI (m.length:Int)),(133,pI (o:Int))] [.gone,.gone,.buf 3 1 (List.map zt m),.buf 227 2 (List.map zR G)]:=by
     intro aR hs;have w:=a8 _ hs;clear hs;try dsimp only at w|-
     refine aP _ _ ?_;obtain⟨co,w⟩:=zi w;have A:=And.intro j L;refine q6 ?_;refine r6 ?_;refine br _ _ _ _ ?_ (aO (IntKind.i64.wrap (aR+1),G++[(ao.mk (m.getD o 0) aR)]) w);simp only[go_sem,simprocAttr,A];try exact eS
    clear aP a8;refine Wp.block ?_;obtain⟨cp,b5,w⟩:=jj w;refine Wp.loopN (fun s=>[(0,lm eu c),(1,lm eu b),(14,.buf 3),(15,pI s),(17,pI (m.getD o 0)),(131,.buf 2),(132,pI (m.length:Int)),(133,pI (o:Int))]) (fun s=>[.gone,.gone,.buf 3 1 (List.map zt m),.buf 227 2 (List.map zR G)]) ?_ w ?_
    .have A:=And.intro j L;simp only[go_sem,simprocAttr,A];try exact eS
    clear w;intro a cb w;try dsimp only at w|-
    refine dc fun _ bx _=>?_;obtain⟨bz,c0,M,c1,w⟩:=kM w;replace M:∀d,(List.map eu b).getD a.toNat d=eu bz:=M eu;obtain⟨bA,c2,N,c3,w⟩:=kM w;replace N:∀d,(List.map eu c).getD ((m.getD o 0).toNat) d=eu bA:=N eu;have A:=And.intro j (And.intro L (And.intro M N));refine dS (pl [(0,none),(1,none),(2,none),(3,none),(4,none),(5,none),(6,none),(7,none),(8,none)]) fun _ bB=>bB _ _ ?_;refine cN w (fun w=>?_) fun w=>?_
    .refine Wp.skip (bx _ _ (Wp.block (r6 ?_)));simp only[zF,zB,↓reduceIte];refine⟨IntKind.i64.wrap (a+1),w,?_⟩;simp only[go_sem,simprocAttr,A];try exact eS
    .refine Wp.exit ?_;simp only[zF,zB,↓reduceIte];have w:=b5 _ w;try dsimp only at w
     refine bv _ _ _ _ ?_ (aQ a w);simp only[go_sem,simprocAttr,A];try exact eS
   clear bk a5;obtain⟨cq,w⟩:=zi w;obtain⟨cr,w⟩:=zi w;have b6:=fun h=>g9 (l:=u) (e:=zl) (d:=[]) (i:=0) h [];have b7:=fun h=>Li (l:=u) (f:=zn) (d:=[]) (i:=0) h [];have b8:=fun h=>g9 (l:=(u.getD 0 [])) (e:=zt) (d:=0) (i:=0) h [];refine dp (plan:=pl [(0,none),(1,none),(2,none),(3,none),(4,none),(5,none),(6,none)]) (by kernel_rfl) rfl (by kernel_rfl) fun da bC=>?_;simp only[go_sem,simprocAttr,j,b6 (by omega),b7 (by omega),b8 (by omega)];refine kA bC ?_;refine Wp.block (df 11 3 1 rfl ?_);simp only[go_sem,simprocAttr,A];obtain⟨cs,b9,w⟩:=jj w;refine Wp.loopN (fun s=>[(0,lm eu c),(1,lm eu b),(7,.buf 0),(11,.buf 2),(12,pI s.1),(13,pI s.2.1)]) (fun s=>[.nst false 175 1 0 1 (List.map zl u) none,.inn 3 1 (List.map zn u),.buf 3 1 (List.map zt s.2.2)]) ?_ w ?_
   .simp only[go_sem,simprocAttr,A];try exact eS
   clear w;intro s cc w;obtain⟨U,F,I⟩:=s;try dsimp only at w|-
   refine dc fun _ bD _=>q6 ?_;refine cN w (fun w=>?_) fun w=>?_
   .refine Wp.skip (bD _ _ (dc fun _ aS _=>Wp.block ?_));obtain⟨bF,ba,w⟩:=ze w;obtain⟨ct,w⟩:=zi w;obtain⟨cu,bb,w⟩:=ze w;refine dd fun db bG=>?_;simp only[go_sem,simprocAttr,A];try refine⟨sL,?_⟩
    refine Rg.callLN (av:=?av31) (zge I _ ba) (pR (fun _=>rfl) _) (by simp only[go_sem,simprocAttr,A];exact Is.mk) (by simp only[go_sem,simprocAttr,A];exact Is.mk) (by simp only[go_sem,simprocAttr,A]) ?cont31;simp only[go_sem,simprocAttr,A];try refine⟨sL,?_⟩
    refine cX (fun hg=>r8 c b (bF++[U]) (IntKind.i64.wrap (F-1)) u _ bb) (bG _ _ ?_);refine cN w (fun w=>?_) fun w=>?_
    .obtain⟨cw,w⟩:=zi w;refine q6 ?_;refine r6 ?_;refine aS _ _ (r6 ?_);simp only[zF,zB,↓reduceIte];refine⟨(IntKind.i64.wrap (U+1),IntKind.i64.wrap (F-1),I++[U]),w,?_⟩;simp only[go_sem,simprocAttr,A];try exact eS
    .refine Wp.skip (aS _ _ (r6 ?_));simp only[zF,zB,↓reduceIte];refine⟨(IntKind.i64.wrap (U+1),F,I),w,?_⟩;simp only[go_sem,simprocAttr,A];try exact eS
   .refine Wp.exit ?_;simp only[zF,zB,↓reduceIte];have w:=b9 _ w;try dsimp only at w
    refine bV _ _ _ _ ?_ (b1 I w);simp only[go_sem,simprocAttr,A];try exact eS
  clear K a4;have A:=j;refine q6 ?_;refine Wp.block ?_;obtain⟨cy,bc,w⟩:=jj w;refine Wp.loopN (fun s=>[(0,lm eu c),(1,lm eu b),(6,pI (b.length:Int)),(7,.buf 0),(9,pI s.1)]) (fun s=>[.nst false 175 1 0 1 (List.map zl s.2) none,.inn 3 1 (List.map zn s.2)]) ?_ w ?_
  .simp only[go_sem,simprocAttr,A];try exact eS
  clear w;intro s cd w;obtain⟨g,bd⟩:=s;try dsimp only at w|-
  refine dc fun _ bH _=>q6 ?_;refine cN w (fun w=>?_) fun w=>?_
  .refine Wp.skip (bH _ _ (dc fun c4 aT bI=>?_));obtain⟨bJ,a9,w⟩:=zp w
   have aU:∀s,bJ s=some z->c4 [(0,lm eu c),(1,lm eu b),(6,pI (b.length:Int)),(7,.buf 0),(9,pI g)] [.nst false 175 1 0 1 (List.map zl s) none,.inn 3 1 (List.map zn s)]:=by
    intro be hs;have w:=a9 _ hs;clear hs;try dsimp only at w|-
    refine aT _ _ (r6 ?_);simp only[zF,zB,↓reduceIte];refine⟨(IntKind.i64.wrap (g-1),be),w,?_⟩;simp only[go_sem,simprocAttr,A];try exact eS
   clear aT a9;refine Wp.block (q6 ?_);refine Wp.block ?_;obtain⟨cz,bf,w⟩:=jj w;refine Wp.loopN (fun s=>[(0,lm eu c),(1,lm eu b),(6,pI (b.length:Int)),(7,.buf 0),(9,pI g),(10,pI s.1)]) (fun s=>[.nst false 175 1 0 1 (List.map zl s.2) none,.inn 3 1 (List.map zn s.2)]) ?_ w ?_
   .simp only[go_sem,simprocAttr,A];try exact eS
   clear w;intro s ce w;obtain⟨k,n⟩:=s;try dsimp only at w|-
   refine dc fun _ bK _=>q6 ?_;refine cN w (fun w=>?_) fun w=>?_
   .refine Wp.skip (bK _ _ (dc fun _ aV _=>Wp.block ?_));obtain⟨cA,w⟩:=zi w;obtain⟨cB,w⟩:=zi w;obtain⟨cC,w⟩:=zi w;obtain⟨cG,w⟩:=zi w;obtain⟨cH,w⟩:=zi w;obtain⟨cI,w⟩:=zi w;have v:=WX (f:=zl) (l:=n) (d:=[]) (i:=g.toNat) (x:=List.set (n.getD g.toNat []) k.toNat (max ((n.getD ((IntKind.i64.wrap (g+1)).toNat) []).getD k.toNat 0) ((n.getD g.toNat []).getD ((IntKind.i64.wrap (k+1)).toNat) 0))) (by first|omega|(simp only[length_set,length_append,length_cons,length_nil]at *;omega)) rfl;obtain⟨t,E,w⟩:=il w;refine dP (plan:=pl [(0,none),(1,none),(2,none),(3,none),(4,none),(5,none),(6,none),(7,none),(8,none),(9,none),(10,none),(11,none),(12,none),(13,none),(14,none),(15,none),(16,none),(17,none),(18,none),(19,none),(20,none),(21,none),(22,none),(23,some [])]) (by kernel_rfl) rfl (by kernel_rfl) fun c5 bL aW=>?_
    suffices O:c5 [(0,lm eu c),(1,lm eu b),(6,pI (b.length:Int)),(7,.buf 0),(9,pI g),(10,pI k),(45,pI k),(46,pB (decide (0<=k)))] [.nst false 175 1 0 1 (List.map zl t) none,.inn 3 1 (List.map zn t)]by
     have ac:=fun h=>g9 (l:=n) (e:=zl) (d:=[]) (i:=g.toNat) h [];have ad:=fun h=>g9 (l:=n) (e:=zl) (d:=[]) (i:=(IntKind.i64.wrap (g+1)).toNat) h [];have af:=fun h=>Li (l:=n) (f:=zn) (d:=[]) (i:=(IntKind.i64.wrap (g+1)).toNat) h [];have ag:=fun h=>g9 (l:=(n.getD ((IntKind.i64.wrap (g+1)).toNat) [])) (e:=zt) (d:=0) (i:=k.toNat) h [];have an:=fun h=>Li (l:=n) (f:=zn) (d:=[]) (i:=g.toNat) h [];have aw:=fun h=>g9 (l:=(n.getD g.toNat [])) (e:=zt) (d:=0) (i:=(IntKind.i64.wrap (k+1)).toNat) h [];subst E;simp only[go_sem,simprocAttr,false_implies,and_true,true_and,eA,j,v,ac (by omega),ad (by omega),af (by omega),ag (by omega),an (by omega),aw (by omega)];first|refine aW _ _ _ _ ?_ O|refine⟨sL,aW _ _ _ _ ?_ O⟩
     simp only[go_sem,simprocAttr,false_implies,and_true,true_and,eA,j,v,ac (by omega),ad (by omega),af (by omega),ag (by omega),an (by omega),aw (by omega)];try exact eS
    refine bL _ _ ?_;obtain⟨az,cg,C,ch,w⟩:=kM w;replace C:∀d,(List.map eu c).getD g.toNat d=eu az:=C eu;obtain⟨aA,ci,D,cj,w⟩:=kM w;replace D:∀d,(List.map eu b).getD k.toNat d=eu aA:=D eu;have A:=And.intro j (And.intro v (And.intro E (And.intro C D)));refine dS (pl [(0,none),(1,none),(2,none),(3,none),(4,none),(5,none),(6,none),(7,none),(8,none)]) fun _ bM=>bM _ _ ?_;refine cN w (fun w=>?_) fun w=>?_
    .obtain⟨cJ,w⟩:=zi w;obtain⟨cK,w⟩:=zi w;obtain⟨cL,w⟩:=zi w;obtain⟨cP,w⟩:=zi w;obtain⟨cS,w⟩:=zi w;obtain⟨cU,w⟩:=zi w;have V:=WX (f:=zl) (l:=t) (d:=[]) (i:=g.toNat) (x:=List.set (t.getD g.toNat []) k.toNat (max ((t.getD g.toNat []).getD k.toNat 0) (IntKind.i64.wrap (1+((t.getD ((IntKind.i64.wrap (g+1)).toNat) []).getD ((IntKind.i64.wrap (k+1)).toNat) 0))))) (by first|omega|(simp only[length_set,length_append,length_cons,length_nil]at *;omega)) rfl;obtain⟨q,aB,w⟩:=il w;refine ee (plan:=pl [(0,none),(1,none),(2,none),(3,none),(4,none),(5,none),(6,none),(7,none),(8,none),(9,none),(10,none),(11,none),(12,none),(13,none),(14,none),(15,none),(16,none),(17,none),(18,none),(19,none),(20,none),(21,none),(22,none),(23,none),(24,some [])]) (by kernel_rfl) rfl (by kernel_rfl) fun c6 bN aX=>?_
     suffices P:c6 [(0,lm eu c),(1,lm eu b),(6,pI (b.length:Int)),(7,.buf 0),(9,pI g),(10,pI k),(45,pI k),(46,pB (decide (0<=k))),(72,lm eu c),(73,pI g),(74,.rp [.s az]),(75,pS az),(76,lm eu b),(77,pI k),(78,.rp [.s aA]),(79,pS aA),(80,pB (decide (az=aA)))] [.nst false 175 1 0 1 (List.map zl q) none,.inn 3 1 (List.map zn q)]by
      have aC:=fun h=>g9 (l:=t) (e:=zl) (d:=[]) (i:=g.toNat) h [];have aD:=fun h=>Li (l:=t) (f:=zn) (d:=[]) (i:=g.toNat) h [];have aE:=fun h=>g9 (l:=(t.getD g.toNat [])) (e:=zt) (d:=0) (i:=k.toNat) h [];have aF:=fun h=>g9 (l:=t) (e:=zl) (d:=[]) (i:=(IntKind.i64.wrap (g+1)).toNat) h [];have aG:=fun h=>Li (l:=t) (f:=zn) (d:=[]) (i:=(IntKind.i64.wrap (g+1)).toNat) h [];have aH:=fun h=>g9 (l:=(t.getD ((IntKind.i64.wrap (g+1)).toNat) [])) (e:=zt) (d:=0) (i:=(IntKind.i64.wrap (k+1)).toNat) h [];subst aB;simp only[go_sem,simprocAttr,false_implies,and_true,true_and,eA,j,v,E,C,D,V,aC (by omega),aD (by omega),aE (by omega),aF (by omega),aG (by omega),aH (by omega)];first|refine aX _ _ _ _ ?_ P|refine⟨sL,aX _ _ _ _ ?_ P⟩
      simp only[go_sem,simprocAttr,false_implies,and_true,true_and,eA,j,v,E,C,D,V,aC (by omega),aD (by omega),aE (by omega),aF (by omega),aG (by omega),aH (by omega)];try exact eS
     refine bN _ _ (aV _ _ ?_);have A:=And.intro j (And.intro v (And.intro E (And.intro C (And.intro D (And.intro V aB)))));refine r6 ?_;simp only[zF,zB,↓reduceIte];refine⟨(IntKind.i64.wrap (k-1),q),w,?_⟩;simp only[go_sem,simprocAttr,A];try exact eS
    .refine Wp.skip (aV _ _ (r6 ?_));simp only[zF,zB,↓reduceIte];refine⟨(IntKind.i64.wrap (k-1),t),w,?_⟩;simp only[go_sem,simprocAttr,A];try exact eS
   .refine Wp.exit ?_;simp only[zF,zB,↓reduceIte];have w:=bf _ w;try dsimp only at w
    refine bI _ _ _ _ ?_ (aU n w);simp only[go_sem,simprocAttr,A];try exact eS
  .refine Wp.exit ?_;simp only[zF,zB,↓reduceIte];have w:=bc _ w;try dsimp only at w
   refine bU _ _ _ _ ?_ (b0 bd w);simp only[go_sem,simprocAttr,A];try exact eS
 clear a1 H;have A:=j;refine q6 ?_;refine Wp.block ?_;obtain⟨cV,bg,w⟩:=jj w;refine Wp.loopN (fun s=>[(0,lm eu c),(1,lm eu b),(5,pI (c.length:Int)),(6,pI (b.length:Int)),(7,.buf 0),(26,pI (J.length:Int)),(27,pI s.1)]) (fun s=>[.nst false 175 1 0 1 (List.map zl s.2) none,.inn 3 1 (List.map zn s.2)]) ?_ w ?_
 .simp only[go_sem,simprocAttr,A];try exact eS
 clear w;intro s ck w;obtain⟨p,W⟩:=s;try dsimp only at w|-
 refine q6 ?_;refine dc fun _ bO _=>cN w (fun w=>?_) fun w=>?_
 .refine Wp.skip (bO _ _ (dc fun _ bP _=>Wp.block (q6 ?_)));obtain⟨cW,w⟩:=zi w;obtain⟨cY,w⟩:=zi w;have Y:=WX (f:=zl) (l:=W) (d:=[]) (i:=p.toNat) (x:=List.replicate ((IntKind.i64.wrap ((b.length:Int)+1)).toNat) 0) (by first|omega|(simp only[length_set,length_append,length_cons,length_nil]at *;omega)) rfl;obtain⟨a0,aI,w⟩:=il w;refine ed fun c7 bQ aY=>?_
  suffices Q:c7 [(0,lm eu c),(1,lm eu b),(5,pI (c.length:Int)),(6,pI (b.length:Int)),(7,.buf 0),(8,pI p),(26,pI (J.length:Int)),(27,pI p),(28,pB (decide (p<(J.length:Int)))),(29,pI p)] [.nst false 175 1 0 1 (List.map zl a0) none,.inn 3 1 (List.map zn a0),.gone]by
   have aJ:=fun h=>Li (l:=W) (f:=zn) (d:=[]) (i:=p.toNat) h [];subst aI;simp only[go_sem,simprocAttr,false_implies,and_true,true_and,eA,j,Y,aJ (by omega)];first|refine aY _ _ _ _ ?_ Q|refine⟨sL,aY _ _ _ _ ?_ Q⟩
   simp only[go_sem,simprocAttr,false_implies,and_true,true_and,eA,j,Y,aJ (by omega)];try exact eS
  refine bQ _ _ (bP _ _ ?_);have A:=And.intro j (And.intro Y aI);refine r6 ?_;simp only[zF,zB,↓reduceIte];refine⟨(IntKind.i64.wrap (p+1),a0),w,?_⟩;simp only[go_sem,simprocAttr,A];try exact eS
 .refine Wp.exit ?_;simp only[zF,zB,↓reduceIte];have w:=bg _ w;try dsimp only at w
  refine bT _ _ _ _ ?_ (aZ W w);simp only[go_sem,simprocAttr,A];try exact eS
theorem ziO(c:ao)(b:ao)(z:Bool)(w:Ph c b=some z):Does prog 178 [.agg [pI c.N,pI c.M],.rp [.i .i64 b.N,.i .i64 b.M]] [] (fun r X=>r=pB z/\X=[]):=by
 unfold Ph at w;refine dW 0 9 [.tmp 3] func178 fun B=>nA fun A=>?_;refine qS ?_;exact wQ
theorem zem(c:List ao)(b:ao)(z:Int)(w:LZ c b=some z):Does prog 177 [lm zR c,.fn 178 [.rp [.i .i64 b.N,.i .i64 b.M]]] [] (fun r X=>r=pI z/\X=[]):=by
 unfold LZ at w;refine dW 0 19 [.tmp 4] func177 fun B=>nA fun A=>?_;refine qS ?_;refine dc fun a l t=>?_;obtain⟨u,f,w⟩:=zp w;have j:∀s,u s=some z->a [] []:=by
  intro s hs;have w:=f _ hs;clear hs;try dsimp only at w|-
  exact l _ _ (wQ)
 clear l f;refine qS ?_;refine Wp.block ?_;obtain⟨I,m,w⟩:=zq w;refine fL 0 c.length fun n=>?_;refine Wp.forL (fun g s=>[(0,lm zR c),(1,.fn 178 [.rp [.i .i64 b.N,.i .i64 b.M]]),(7,pI (c.length:Int)),(8,pI (g:Int))]) (fun g s=>[]) wF w ?_;clear w;intro g s D w;try dsimp only at w|-
 refine qS ?_;refine lB zR w n (fun h=>t _ _ _ _ wF (j () (m _ h))) fun o J v G E F k w A _ C=>?_;refine q6 ?_;obtain⟨L,p,w⟩:=ze w;refine sX (fun d=>ziO v b _ p) ?_;refine cR w fun w=>?_;refine Wp.skip (C _ _ (r6 ?_));exact wN () o (k _ w)
theorem W4(b:List eo)(c:eo)(z:eo)(w:xO b c=some z):Does prog 174 [lm eu b,pS c] [] (fun r X=>r=pS z/\X=[]):=by
 unfold xO at w;refine dW 0 75 [.tmp 4] func174 fun B=>nA fun A=>?_;refine qS ?_;refine dc fun _ a _=>qS ?_;refine Wp.block (qS ?_);refine cR w fun w=>?_;refine qS ?_;refine cN w (fun w=>?_) fun w=>?_
 .obtain⟨af,aF,g,aG,w⟩:=kM w;replace g:∀d,(List.map eu b).getD 0 d=eu af:=g eu;have A:=g;exact wQ
 .refine Wp.skip (a _ _ (qS ?_));refine dc fun e o p=>?_;obtain⟨q,t,w⟩:=zp w
  have l:∀s,q s=some z->e [(0,lm eu b),(1,pS c),(5,pI s)] []:=by
   intro aN hs;have w:=t _ hs;clear hs;try dsimp only at w|-
   refine o _ _ (dc fun a0 u Z=>?_);obtain⟨x,v,w⟩:=zp w;have C:∀s,x s=some z->a0 [(0,lm eu b),(1,pS c),(5,pI s)] []:=by
    intro y hs;have w:=v _ hs;clear hs;try dsimp only at w|-
    refine u _ _ (qS ?_);refine dL 0 5 rfl ?_;simp only[go_sem,simprocAttr];obtain⟨aO,M,w⟩:=ze w;refine sO [0,1] (Z3 y [] _ M) ?_;obtain⟨Y,aH,f,aI,w⟩:=kM w;replace f:∀d,(List.map eu b).getD 0 d=eu Y:=f eu;obtain⟨aP,N,w⟩:=ze w;have A:=f;refine sO [0,1] (Pz Y [] _ N) ?_;refine dc fun a1 D H=>?_;obtain⟨K,E,w⟩:=zp w;have F:∀s,K s=some z->a1 [(8,.ptr 0 0)] [.cells 209 [.np 0,.buf 1],.sb 5 s]:=by
     intro O hs;have w:=E _ hs;clear hs;try dsimp only at w|-
     refine D _ _ ?_;obtain⟨aQ,P,w⟩:=ze w;refine sO [0,1] (Xr O _ P) ?_;exact wR
    clear D E;obtain⟨aR,w⟩:=zi w;refine q6 ?_;refine Wp.block ?_;obtain⟨aS,Q,w⟩:=zq w;refine fL 63 ((List.drop 1 b).length) fun R=>?_;refine Wp.forL (fun G s=>[(1,pS c),(8,.ptr 0 0),(63,lm eu (List.drop 1 b)),(64,pI ((List.drop 1 b).length:Int)),(65,pI (G:Int))]) (fun G s=>[.cells 209 [.np 0,.buf 1],.sb 5 s]) ?_ w ?_
    .simp only[go_sem,simprocAttr,A];try exact eS
    clear w;intro G n aJ w;try dsimp only at w|-
    refine q6 ?_;refine dc fun _ a2 _=>Wp.cond rfl ⟨⟩ (fun i=>?_) (fun i=>?_);rotate_left
    .refine Wp.exit ?_;have w:=Q _ (jd w (tf (by first|exact i|simpa using i)));try dsimp only at w
     refine H _ _ _ _ ?_ (F n w);simp only[go_sem,simprocAttr,A];try exact eS
    have j:=jz i;have a3:=iz j R;obtain⟨aB,aK,k,aL,I,w⟩:=jh w j;replace k:=k eu;refine Wp.skip ?_;simp only[zF];refine a2 _ _ (dc fun _ a4 _=>Wp.block ?_);have A:=And.intro f (And.intro a3 k);refine q6 ?_;obtain⟨a5,S,w⟩:=ze w;refine sO [0,1] (Pz c n _ S) ?_;obtain⟨a6,T,w⟩:=ze w;refine eO [0,1] (Pz aB a5.2 _ T) ?_;refine a4 _ _ (r6 ?_);exact wN a6.2 j (I _ w)
   clear u v;refine qS ?_;refine Wp.block ?_;obtain⟨aT,U,w⟩:=zq w;refine fL 0 b.length fun V=>?_;refine Wp.forL (fun m s=>[(0,lm eu b),(1,pS c),(5,pI s),(39,lm eu b),(40,pI (b.length:Int)),(41,pI (m:Int))]) (fun m s=>[]) wF w ?_;clear w;intro m J aC w;try dsimp only at w|-
   refine qS ?_;refine lB eu w V (fun h=>Z _ _ _ _ wF (C J (U _ h))) fun W aU a7 aM aD aE L w A _ a8=>?_;refine q6 ?_;refine dc fun _ a9 _=>q6 ?_;refine cN w (fun w=>?_) fun w=>?_
   .cases w
   .refine Wp.skip (a9 _ _ (r6 ?_));refine a8 _ _ (r6 ?_);exact wN (IntKind.i64.wrap (J+(a7.length:Int))) W (L _ w)
  clear o t;refine qS ?_;refine cN w (fun w=>?_) fun w=>?_
  .refine dc fun _ ac _=>?_;obtain⟨aV,w⟩:=zi w;refine q6 ?_;refine cN w (fun w=>?_) fun w=>?_
   .cases w
   .refine Wp.skip (ac _ _ (qR ?_));refine p _ _ _ _ ?_ (l (IntKind.i64.wrap (0+(IntKind.i64.wrap ((c.length:Int)*(IntKind.i64.wrap ((b.length:Int)-1)))))) w);exact eV
  .refine Wp.skip (p _ _ _ _ ?_ (l 0 w));exact eV
theorem zez(c:eo)(b:eo)(z:Bool)(w:Vm c b=some z):Does prog 202 [pS c,pS b] [] (fun r X=>r=pB z/\X=[]):=by
 unfold Vm at w;refine dW 0 21 [.tmp 4] func202 fun B=>nA fun A=>?_;refine qS ?_;obtain⟨f,w⟩:=zi w;exact wQ
theorem ziK(c:eo)(b:eo)(z:Bool)(w:LW c b=some z):Does prog 176 [pS c,pS b] [] (fun r X=>r=pB z/\X=[]):=by
 unfold LW at w;refine dW 0 8 [.tmp 4] func176 fun B=>nA fun A=>?_;refine qS ?_;obtain⟨g,f,w⟩:=ze w;refine sX (fun a=>zez c b _ f) ?_;exact wR
theorem ZV(b:eo)(z:eo)(w:Pk b=some z):Does prog 175 [pS b] [] (fun r X=>r=pS z/\X=[]):=by
 unfold Pk at w;refine dW 0 13 [.tmp 2] func175 fun B=>nA fun A=>?_;refine qS ?_;refine dc fun _ c _=>?_;obtain⟨i,f,w⟩:=zs w;refine sX (g:=!decide (b=[])) (fun a=>ziK b ([10]:eo) _ (f a)) ?_;refine cN w (fun w=>?_) fun w=>?_
 .obtain⟨j,w⟩:=zi w;refine r6 ?_;exact c _ _ (wQ)
 .exact Wp.skip (c _ _ (wQ))
theorem Z2(m:Int)(n:Int)(o:Int)(g:List eo)(b:Int)(i:List eo)(c:Int)(j:List eo)(f:Int)(k:eo)(l:Int)(z:eo×Int)(w:xQ m n o g b i c j f k l=some z):Does prog 173 [pI m,pI n,pI o,.ptr 0 0,.ptr 1 0,.ptr 2 0,.ptr 3 0,.ptr 4 0,.ptr 5 0,.ptr 6 0,.ptr 7 0] [.cells 48 [lm eu g],.cells 3 [pI b],.cells 48 [lm eu i],.cells 3 [pI c],.cells 48 [lm eu j],.cells 3 [pI f],.cells 9 [pS k],.cells 3 [pI l]] (fun r X=>r=.tup []/\X=[.cells 48 [lm eu g],.cells 3 [pI b],.cells 48 [lm eu i],.cells 3 [pI c],.cells 48 [lm eu j],.cells 3 [pI f],.cells 9 [pS z.1],.cells 3 [pI z.2]]):=by
 unfold xQ at w;refine dW 8 66 [] func173 fun B=>nA fun A=>?_;obtain⟨I,w⟩:=zi w;obtain⟨J,p,w⟩:=ze w;obtain⟨L,w⟩:=zi w;obtain⟨D,t,w⟩:=ze w;obtain⟨M,w⟩:=zi w;obtain⟨E,u,w⟩:=ze w;refine dS (pl [(0,none),(1,none),(2,none),(3,none),(4,none),(5,none),(6,none),(7,none),(8,none),(9,none),(10,none),(11,none),(12,none),(13,none),(14,none),(15,none),(16,none),(17,none)]) fun _ G=>?_;refine cD (fun a=>W4 (List.take (m.toNat-b.toNat) (List.drop b.toNat g)) [] _ p) ?_;refine cD (fun a=>W4 (List.take (n.toNat-c.toNat) (List.drop c.toNat i)) [] _ t) ?_;refine cD (fun a=>W4 (List.take (o.toNat-f.toNat) (List.drop f.toNat j)) [] _ u) (G _ _ ?_);refine Wp.block (qS ?_);refine cN w (fun w=>?_) fun w=>?_
 .obtain⟨N,w⟩:=zi w;refine r6 ?_;simp only[zF,zB,↓reduceIte];refine zG ?_;cases w;exact eV
 .refine qS ?_;refine cN w (fun w=>?_) fun w=>?_
  .obtain⟨O,w⟩:=zi w;refine r6 ?_;simp only[zF,zB,↓reduceIte];refine zG ?_;cases w;exact eV
  .refine qS ?_;refine qS ?_;obtain⟨P,v,w⟩:=ze w;obtain⟨Q,w⟩:=zi w;obtain⟨R,w⟩:=zi w;obtain⟨S,C,w⟩:=ze w;obtain⟨T,w⟩:=zi w;obtain⟨U,w⟩:=zi w;obtain⟨V,w⟩:=zi w;refine dE (pl [(0,none),(1,none),(2,none),(3,none),(4,none),(5,none),(6,none),(7,none),(8,none),(9,none),(10,none),(11,none),(12,some [])]) fun _ F=>?_;refine cD (fun a=>ZV D _ v) ?_;refine cD (fun a=>ZV E _ C) (F _ _ ?_);simp only[zF,zB,↓reduceIte];refine zG ?_;cases w;exact eV
theorem zmF(b:eo)(u:eo)(v:eo)(z:eo×Int×Int)(w:EI b u v=some z):Does prog 146 [pS b,pS u,pS v] [] (fun r X=>r=.tup [pS z.1,pI z.2.1,pI z.2.2]/\X=[]):=by
 unfold EI at w;refine dW 0 103 [.tmp 6,.tmp 7,.tmp 8] func146 fun B=>nA fun A=>?_;refine qS ?_;refine dc fun _ e _=>?_;obtain⟨q,a0,w⟩:=ze w;obtain⟨x,y,w⟩:=ze w;obtain⟨aV,a1,w⟩:=ze w;refine rS fun _ H=>?_;refine cX (fun a=>ZT b u _ a0) ?_;refine cX (fun a=>ZT b v _ y) ?_;refine cX (fun a=>oP [q,x] _ a1) (H _ _ ?_);refine qS ?_;refine cR w fun w=>?_;refine Wp.skip (e _ _ ?_);obtain⟨l,K,w⟩:=ze w;obtain⟨n,af,w⟩:=ze w;obtain⟨p,ag,w⟩:=ze w;refine rS fun _ an=>?_;refine cF (UO b _ K) ?_;refine cF (UO u _ af) ?_;refine cF (UO v _ ag) (an _ _ ?_);obtain⟨R,aw,w⟩:=ze w;obtain⟨S,az,w⟩:=ze w;refine dp (plan:=pl [(0,none),(1,none),(3,none),(4,none),(2,some [3,4]),(5,some []),(6,none),(7,none)]) (by kernel_rfl) rfl (by kernel_rfl) fun aZ aA=>?_;simp only[go_sem,simprocAttr];try refine⟨sd,?_⟩
 refine de (Br.callR (av:=?av15) (g:=true) (o:=?o15) [] (fun a=>YX l n _ aw) si si si si si sg sg sg sg ?cont15);simp only[go_sem,simprocAttr];try refine⟨sd,?_⟩
 refine de (Br.callR (av:=?av16) (g:=true) (o:=?o16) [] (fun a=>YX l p _ az) si si si si si sg sg sg sg ?cont16);simp only[go_sem,simprocAttr];refine kA aA ?_;refine qS ?_;refine qS ?_;refine qS ?_;refine qS ?_;refine dc fun aM T aB=>?_;obtain⟨aC,F,w⟩:=zp w;have U:∀s,aC s=some z->aM [(10,.ptr 0 0),(11,.ptr 1 0),(12,.ptr 2 0),(15,.ptr 3 0),(16,.ptr 4 0),(20,.fn 173 [.ptr 0 0,.ptr 5 0,.ptr 1 0,.ptr 6 0,.ptr 2 0,.ptr 7 0,.ptr 3 0,.ptr 4 0])] [.cells 48 [lm eu l],.cells 48 [lm eu n],.cells 48 [lm eu p],.cells 9 [pS s.1],.cells 3 [pI s.2.1],.cells 3 [pI s.2.2.1],.cells 3 [pI s.2.2.2.1],.cells 3 [pI s.2.2.2.2]]:=by
  intro s hs;have w:=F _ hs;clear hs;obtain⟨J,L,O,P,Q⟩:=s;try dsimp only at w|-
  refine T _ _ ?_;obtain⟨aW,a3,w⟩:=ze w;refine sO [0,5,1,6,2,7,3,4] (Z2 (l.length:Int) (n.length:Int) (p.length:Int) l O n P p Q J L _ a3) ?_;refine dc fun _ aD _=>qS ?_;refine cR w fun w=>?_;refine Wp.skip (aD _ _ (dS (pl [(0,none),(1,none),(2,none),(3,none),(4,none)]) fun _ aE=>aE _ _ ?_));exact wR
 clear T F;refine qS ?_;refine Wp.block ?_;obtain⟨aX,a4,w⟩:=zq w;refine fL 48 R.length fun a5=>?_;refine Wp.forL (fun E s=>[(10,.ptr 0 0),(11,.ptr 1 0),(12,.ptr 2 0),(14,lm zR S),(15,.ptr 3 0),(16,.ptr 4 0),(17,.ptr 5 0),(18,.ptr 6 0),(19,.ptr 7 0),(20,.fn 173 [.ptr 0 0,.ptr 5 0,.ptr 1 0,.ptr 6 0,.ptr 2 0,.ptr 7 0,.ptr 3 0,.ptr 4 0]),(48,lm zR R),(49,pI (R.length:Int)),(50,pI (E:Int))]) (fun E s=>[.cells 48 [lm eu l],.cells 48 [lm eu n],.cells 48 [lm eu p],.cells 9 [pS s.1],.cells 3 [pI s.2.1],.cells 3 [pI s.2.2.1],.cells 3 [pI s.2.2.2.1],.cells 3 [pI s.2.2.2.2]]) wF w ?_;clear w;intro E s aN w;obtain⟨c,f,i,j,k⟩:=s;try dsimp only at w|-
 refine qS ?_;refine lB zR w a5 (fun h=>aB _ _ _ _ wF (U (c,f,i,j,k) (a4 _ h))) fun G V t aO I aP D w A _ W=>?_;refine q6 ?_;obtain⟨aF,a6,w⟩:=ze w;refine sX (fun a=>zem S t _ a6) ?_;refine dc fun _ aG _=>q6 ?_;refine cN w (fun w=>?_) fun w=>?_
 .refine Wp.exit (W _ _ (r6 ?_));exact wN (c,f,i,j,k) G (D _ w)
 .refine Wp.skip (aG _ _ ?_);obtain⟨Y,aQ,m,aR,w⟩:=kM w;replace m:∀d,(List.map zR S).getD aF.toNat d=zR Y:=m zR;obtain⟨Z,a7,w⟩:=ze w;have A:=And.intro V (And.intro I m);refine dp (plan:=pl [(0,none),(1,none),(2,none),(3,none),(4,none),(5,none),(6,none),(7,none),(8,none),(9,none),(10,some [])]) (by kernel_rfl) rfl (by kernel_rfl) fun b0 aH=>?_;simp only[go_sem,simprocAttr,A];try refine⟨sd,?_⟩
  refine de (du (F:=?av41) (o:=?o41) [0,5,1,6,2,7,3,4] (Z2 t.N t.M Y.M l i n j p k c f _ a7) (by simp only[go_sem,simprocAttr,A];exact Is.mk) (by simp only[go_sem,simprocAttr,A];exact Is.mk) (by simp only[go_sem,simprocAttr,A];exact Is.mk) (by simp only[go_sem,simprocAttr,A];exact Is.mk) (by simp only[go_sem,simprocAttr,A];exact Is.mk) (by simp only[go_sem,simprocAttr,A]) (by simp only[go_sem,simprocAttr,A]) (by simp only[go_sem,simprocAttr,A]) ?hag41 ?cont41);case hag41=>first|(simp only[go_sem,simprocAttr,A];done)|(simp only[go_sem,simprocAttr,A];exact sd)
  simp only[go_sem,simprocAttr,A];refine kA aH ?_;obtain⟨a8,aT,C,aU,w⟩:=kM w;replace C:∀d,(List.map eu l).getD t.N.toNat d=eu a8:=C eu;obtain⟨aY,w⟩:=zi w;have A:=And.intro V (And.intro I (And.intro m C));refine dS (pl [(0,none),(1,none),(2,none),(3,none),(4,none),(5,none),(6,none),(7,some [])]) fun _ aI=>aI _ _ ?_;refine dE (pl [(0,none),(1,none),(2,none),(3,none),(4,none),(5,none),(6,none),(7,none),(8,none),(9,none),(10,none),(11,none),(12,some [3,4,5,6,7,8,9,10,11]),(13,some [6,7,8,9,10,11]),(14,some [])]) fun _ aJ=>aJ _ _ ?_;refine W _ _ (r6 ?_);exact wN (Z.1++a8,Z.2,IntKind.i64.wrap (t.N+1),IntKind.i64.wrap (t.M+1),IntKind.i64.wrap (Y.M+1)) G (D _ w)
theorem zh2(c:ak)(f:ae)(z:Bool)(w:Pu c f=some z):Does prog 145 [.agg [pI c.g,pS c.j.a,pS c.j.F,pB c.j.G,pS c.x.r,pS c.x.Value,pS c.h.C,pS c.h.a,pB c.h.H,pB c.h.I],.rp [.s f.a,.s f.F,.b f.G]] [] (fun r X=>r=pB z/\X=[]):=by
 unfold Pu at w;refine dW 0 15 [.tmp 3] func145 fun B=>nA fun A=>?_;refine qS ?_;obtain⟨l,i,w⟩:=ze w;obtain⟨n,k,w⟩:=zs w;refine dS (pl [(0,none),(1,none),(2,none),(3,none),(4,none),(5,none),(6,none),(7,none),(8,none),(9,none),(10,none),(11,none)]) fun _ m=>?_;refine cD (fun d=>qk c.g _ i) ?_;refine cD (g:=decide (l=0)) (fun d=>Wj c _ (k d)) (m _ _ ?_);exact wR
theorem zc7(f:List ak)(c:ae)(z:Int)(w:Vj f c=some z):Does prog 114 [lm zh f,.fn 145 [.rp [.s c.a,.s c.F,.b c.G]]] [] (fun r X=>r=pI z/\X=[]):=by
 unfold Vj at w;refine dW 0 19 [.tmp 4] func114 fun B=>nA fun A=>?_;refine qS ?_;refine dc fun d l t=>?_;obtain⟨u,g,w⟩:=zp w;have j:∀s,u s=some z->d [] []:=by
  intro s hs;have w:=g _ hs;clear hs;try dsimp only at w|-
  exact l _ _ (wQ)
 clear l g;refine qS ?_;refine Wp.block ?_;obtain⟨L,m,w⟩:=zq w;refine fL 0 f.length fun n=>?_;refine Wp.forL (fun i s=>[(0,lm zh f),(1,.fn 145 [.rp [.s c.a,.s c.F,.b c.G]]),(7,pI (f.length:Int)),(8,pI (i:Int))]) (fun i s=>[]) wF w ?_;clear w;intro i s D w;try dsimp only at w|-
 refine qS ?_;refine lB zh w n (fun h=>t _ _ _ _ wF (j () (m _ h))) fun o M v J E I k w A _ C=>?_;refine q6 ?_;obtain⟨N,p,w⟩:=ze w;refine sX (fun e=>zh2 v c _ p) ?_;refine cR w fun w=>?_;refine Wp.skip (C _ _ (r6 ?_));exact wN () o (k _ w)
theorem zcz(f:List ak)(c:ae)(z:Bool)(w:zT f c=some z):Does prog 65 [lm zh f,.fn 145 [.rp [.s c.a,.s c.F,.b c.G]]] [] (fun r X=>r=pB z/\X=[]):=by
 unfold zT at w;refine dW 0 9 [.tmp 4] func65 fun B=>nA fun A=>?_;refine qS ?_;obtain⟨i,g,w⟩:=ze w;refine sX (fun d=>zc7 f c _ g) ?_;exact wR
end Go.Proofs.YteofmaagnphonaaGreatDoor
