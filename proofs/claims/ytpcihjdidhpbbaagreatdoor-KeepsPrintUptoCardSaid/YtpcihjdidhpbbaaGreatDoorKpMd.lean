/- Models of the functions that the statement reaches: what each computes, in plain words. -/
import Derived.Test.YtpcihjdidhpbbaaGreatDoorVc3
set_option linter.unusedVariables false
open List
namespace Go.Md
open Go.Vc
noncomputable section
def tabL_5:List Int:=[0,1,56,2,57,49,28,3,61,58,42,50,38,29,17,4,62,47,59,36,45,43,51,22,53,39,33,30,24,18,12,5,63,55,48,27,60,41,37,16,46,35,44,21,52,32,23,11,54,26,40,15,34,20,31,10,25,14,19,9,13,8,7,6]
theorem pK:tabL_5.length=64:=rfl
instance theTabs:Tabs:=⟨fun b=>bif Nat.beq b 5 then some (.u8,tabL_5)else none,fun b=>false,fun e=>bif Nat.beq e 188 then some (0,3,1)else none,False,fun b=>bif Nat.beq b 0 then true else false⟩
theorem Eo:Tabs.nest 3=none:=rfl
attribute [go_sem] Eo
theorem Em:Tabs.nest 5=none:=rfl
attribute [go_sem] Em
theorem El:Tabs.nest 9=none:=rfl
attribute [go_sem] El
theorem Av:Tabs.nest 24=none:=rfl
attribute [go_sem] Av
theorem Au:Tabs.nest 36=none:=rfl
attribute [go_sem] Au
theorem At:Tabs.nest 53=none:=rfl
attribute [go_sem] At
theorem As:Tabs.nest 61=none:=rfl
attribute [go_sem] As
theorem Ar:Tabs.nest 63=none:=rfl
attribute [go_sem] Ar
theorem Aq:Tabs.nest 65=none:=rfl
attribute [go_sem] Aq
theorem Ap:Tabs.nest 67=none:=rfl
attribute [go_sem] Ap
theorem Ao:Tabs.nest 84=none:=rfl
attribute [go_sem] Ao
theorem v7:Tabs.nest 125=none:=rfl
attribute [go_sem] v7
theorem v6:Tabs.nest 188=some (0,3,1):=rfl
attribute [go_sem] v6
theorem vZ:Tabs.nest 206=none:=rfl
attribute [go_sem] vZ
theorem vY:Tabs.nest 236=none:=rfl
attribute [go_sem] vY
theorem Kj:Tabs.num 0=true:=rfl
theorem J5:Tabs.tab 5=some (.u8,tabL_5):=rfl
attribute [go_sem] J5 pK
def fP(b:Bool):List Dt:=[.b b]
def ex(x:ev):List Dt:=[.s x]
def Q2(n:Int):List Dt:=[.i .i8 n]
def Od(n:Int):List Dt:=[.i .i16 n]
def rZ(n:Int):List Dt:=[.i .i32 n]
def zA(n:Int):List Dt:=[.i .i64 n]
def eU(n:Int):List Dt:=[.i .u8 n]
def Oc(n:Int):List Dt:=[.i .u16 n]
def rY(n:Int):List Dt:=[.i .u32 n]
def rX(n:Int):List Dt:=[.i .u64 n]
theorem Fq:∀r,eT r [.s]->∃x,r=ex x:=by
 intro r h;rcases r with _|⟨d,_|_⟩ <;> simp only[eT,and_false,and_true]at h
 cases d <;> simp only[eK]at h
 exact⟨_,rfl⟩
theorem LO:∀r,eT r [.i .i64]->∃x,r=zA x:=by
 intro r h;rcases r with _|⟨d,_|_⟩ <;> simp only[eT,and_false,and_true]at h
 cases d <;> simp only[eK]at h
 subst h;exact⟨_,rfl⟩
theorem Oe:∀r,eT r [.i .u8]->∃x,r=eU x:=by
 intro r h;rcases r with _|⟨d,_|_⟩ <;> simp only[eT,and_false,and_true]at h
 cases d <;> simp only[eK]at h
 subst h;exact⟨_,rfl⟩
structure aa where
 r:ev
 g:Int
 a:ev
 y:ev
 A:ev
def zc(x:aa):List Dt:=[.s x.r,.i .i64 x.g,.s x.a,.s x.y,.s x.A]
def Nw:List Sh:=[.s,.i .i64,.s,.s,.s]
theorem Si:∀r,eT r Nw->∃x:aa,r=zc x:=by
 intro r h;unfold Nw at h;rcases r with _|⟨d0,_|⟨d1,_|⟨d2,_|⟨d3,_|⟨d4,_|_⟩⟩⟩⟩⟩ <;> simp only[eT,and_false,and_true]at h
 obtain⟨h0,h1,h2,h3,h4⟩:=h;cases d0 <;> simp only[eK]at h0
 cases d1 <;> simp only[eK]at h1
 subst h1;cases d2 <;> simp only[eK]at h2
 cases d3 <;> simp only[eK]at h3
 cases d4 <;> simp only[eK]at h4
 exact⟨⟨_,_,_,_,_⟩,rfl⟩
structure aj where
 q:List aa
def zC(x:aj):List Dt:=[.l (List.map zc x.q)]
def Nx:List Sh:=[.l Nw]
theorem l8:∀r,eT r Nx->∃x:aj,r=zC x:=by
 intro r h;unfold Nx at h;rcases r with _|⟨d0,_|_⟩ <;> simp only[eT,and_false,and_true]at h
 have h0:=h;cases d0 <;> simp only[eK]at h0
 obtain⟨l0,rfl⟩:=uj Si h0;exact⟨⟨_⟩,rfl⟩
structure ab where
 u:ev
 Value:ev
def za(x:ab):List Dt:=[.s x.u,.s x.Value]
def NJ:List Sh:=[.s,.s]
theorem SQ:∀r,eT r NJ->∃x:ab,r=za x:=by
 intro r h;unfold NJ at h;rcases r with _|⟨d0,_|⟨d1,_|_⟩⟩ <;> simp only[eT,and_false,and_true]at h
 obtain⟨h0,h1⟩:=h;cases d0 <;> simp only[eK]at h0
 cases d1 <;> simp only[eK]at h1
 exact⟨⟨_,_⟩,rfl⟩
structure ae where
 a:ev
 G:ev
 H:Bool
def ze(x:ae):List Dt:=[.s x.a,.s x.G,.b x.H]
def PF:List Sh:=[.s,.s,.b]
theorem mb:∀r,eT r PF->∃x:ae,r=ze x:=by
 intro r h;unfold PF at h;rcases r with _|⟨d0,_|⟨d1,_|⟨d2,_|_⟩⟩⟩ <;> simp only[eT,and_false,and_true]at h
 obtain⟨h0,h1,h2⟩:=h;cases d0 <;> simp only[eK]at h0
 cases d1 <;> simp only[eK]at h1
 cases d2 <;> simp only[eK]at h2
 exact⟨⟨_,_,_⟩,rfl⟩
structure ah where
 C:ev
 a:ev
 I:Bool
 J:Bool
def zb(x:ah):List Dt:=[.s x.C,.s x.a,.b x.I,.b x.J]
def PX:List Sh:=[.s,.s,.b,.b]
theorem Ub:∀r,eT r PX->∃x:ah,r=zb x:=by
 intro r h;unfold PX at h;rcases r with _|⟨d0,_|⟨d1,_|⟨d2,_|⟨d3,_|_⟩⟩⟩⟩ <;> simp only[eT,and_false,and_true]at h
 obtain⟨h0,h1,h2,h3⟩:=h;cases d0 <;> simp only[eK]at h0
 cases d1 <;> simp only[eK]at h1
 cases d2 <;> simp only[eK]at h2
 cases d3 <;> simp only[eK]at h3
 exact⟨⟨_,_,_,_⟩,rfl⟩
structure ak where
 F:List ab
 B:List ae
 E:List ab
 D:List ah
def zs(x:ak):List Dt:=[.l (List.map za x.F),.l (List.map ze x.B),.l (List.map za x.E),.l (List.map zb x.D)]
def NI:List Sh:=[.l NJ,.l PF,.l NJ,.l PX]
theorem Ua:∀r,eT r NI->∃x:ak,r=zs x:=by
 intro r h;unfold NI at h;rcases r with _|⟨d0,_|⟨d1,_|⟨d2,_|⟨d3,_|_⟩⟩⟩⟩ <;> simp only[eT,and_false,and_true]at h
 obtain⟨h0,h1,h2,h3⟩:=h;cases d0 <;> simp only[eK]at h0
 obtain⟨l0,rfl⟩:=uj SQ h0;cases d1 <;> simp only[eK]at h1
 obtain⟨l1,rfl⟩:=uj mb h1;cases d2 <;> simp only[eK]at h2
 obtain⟨l2,rfl⟩:=uj SQ h2;cases d3 <;> simp only[eK]at h3
 obtain⟨l3,rfl⟩:=uj Ub h3;exact⟨⟨_,_,_,_⟩,rfl⟩
structure al where
 g:Int
 j:ae
 x:ab
 h:ah
def zj(x:al):List Dt:=[.i .i64 x.g,.s x.j.a,.s x.j.G,.b x.j.H,.s x.x.u,.s x.x.Value,.s x.h.C,.s x.h.a,.b x.h.I,.b x.h.J]
def PG:List Sh:=[.i .i64,.s,.s,.b,.s,.s,.s,.s,.b,.b]
set_option maxRecDepth 100000 in
theorem l9:∀r,eT r PG->∃x:al,r=zj x:=by
 intro r h;unfold PG at h;rcases r with _|⟨d0,_|⟨d1,_|⟨d2,_|⟨d3,_|⟨d4,_|⟨d5,_|⟨d6,_|⟨d7,_|⟨d8,_|⟨d9,_|_⟩⟩⟩⟩⟩⟩⟩⟩⟩⟩ <;> simp only[eT,and_false,and_true]at h
 obtain⟨h0,h1,h2,h3,h4,h5,h6,h7,h8,h9⟩:=h;cases d0 <;> simp only[eK]at h0
 subst h0;cases d1 <;> simp only[eK]at h1
 cases d2 <;> simp only[eK]at h2
 cases d3 <;> simp only[eK]at h3
 cases d4 <;> simp only[eK]at h4
 cases d5 <;> simp only[eK]at h5
 cases d6 <;> simp only[eK]at h6
 cases d7 <;> simp only[eK]at h7
 cases d8 <;> simp only[eK]at h8
 cases d9 <;> simp only[eK]at h9
 exact⟨⟨_,⟨_,_,_⟩,⟨_,_⟩,⟨_,_,_,_⟩⟩,rfl⟩
structure au where
 N:Bool
 O:Bool
def zy(x:au):List Dt:=[.b x.N,.b x.O]
def Sn:List Sh:=[.b,.b]
theorem w9:∀r,eT r Sn->∃x:au,r=zy x:=by
 intro r h;unfold Sn at h;rcases r with _|⟨d0,_|⟨d1,_|_⟩⟩ <;> simp only[eT,and_false,and_true]at h
 obtain⟨h0,h1⟩:=h;cases d0 <;> simp only[eK]at h0
 cases d1 <;> simp only[eK]at h1
 exact⟨⟨_,_⟩,rfl⟩
structure ai where
 g:Int
 j:ae
 x:ab
 h:ah
def zi(x:ai):List Dt:=[.i .i64 x.g,.s x.j.a,.s x.j.G,.b x.j.H,.s x.x.u,.s x.x.Value,.s x.h.C,.s x.h.a,.b x.h.I,.b x.h.J]
def NB:List Sh:=[.i .i64,.s,.s,.b,.s,.s,.s,.s,.b,.b]
set_option maxRecDepth 100000 in
theorem SF:∀r,eT r NB->∃x:ai,r=zi x:=by
 intro r h;unfold NB at h;rcases r with _|⟨d0,_|⟨d1,_|⟨d2,_|⟨d3,_|⟨d4,_|⟨d5,_|⟨d6,_|⟨d7,_|⟨d8,_|⟨d9,_|_⟩⟩⟩⟩⟩⟩⟩⟩⟩⟩ <;> simp only[eT,and_false,and_true]at h
 obtain⟨h0,h1,h2,h3,h4,h5,h6,h7,h8,h9⟩:=h;cases d0 <;> simp only[eK]at h0
 subst h0;cases d1 <;> simp only[eK]at h1
 cases d2 <;> simp only[eK]at h2
 cases d3 <;> simp only[eK]at h3
 cases d4 <;> simp only[eK]at h4
 cases d5 <;> simp only[eK]at h5
 cases d6 <;> simp only[eK]at h6
 cases d7 <;> simp only[eK]at h7
 cases d8 <;> simp only[eK]at h8
 cases d9 <;> simp only[eK]at h9
 exact⟨⟨_,⟨_,_,_⟩,⟨_,_⟩,⟨_,_,_,_⟩⟩,rfl⟩
structure ax where
 g:Int
 r:ev
 T:List al
 U:au
 K:List ai
def zk(x:ax):List Dt:=[.i .i64 x.g,.s x.r,.l (List.map zj x.T),.b x.U.N,.b x.U.O,.l (List.map zi x.K)]
def NQ:List Sh:=[.i .i64,.s,.l PG,.b,.b,.l NB]
theorem UG:∀r,eT r NQ->∃x:ax,r=zk x:=by
 intro r h;unfold NQ at h;rcases r with _|⟨d0,_|⟨d1,_|⟨d2,_|⟨d3,_|⟨d4,_|⟨d5,_|_⟩⟩⟩⟩⟩⟩ <;> simp only[eT,and_false,and_true]at h
 obtain⟨h0,h1,h2,h3,h4,h5⟩:=h;cases d0 <;> simp only[eK]at h0
 subst h0;cases d1 <;> simp only[eK]at h1
 cases d2 <;> simp only[eK]at h2
 obtain⟨l2,rfl⟩:=uj l9 h2;cases d3 <;> simp only[eK]at h3
 cases d4 <;> simp only[eK]at h4
 cases d5 <;> simp only[eK]at h5
 obtain⟨l5,rfl⟩:=uj SF h5;exact⟨⟨_,_,_,⟨_,_⟩,_⟩,rfl⟩
structure am where
 g:Int
 a:ev
def zm(x:am):List Dt:=[.i .i64 x.g,.s x.a]
def PH:List Sh:=[.i .i64,.s]
theorem l7:∀r,eT r PH->∃x:am,r=zm x:=by
 intro r h;unfold PH at h;rcases r with _|⟨d0,_|⟨d1,_|_⟩⟩ <;> simp only[eT,and_false,and_true]at h
 obtain⟨h0,h1⟩:=h;cases d0 <;> simp only[eK]at h0
 subst h0;cases d1 <;> simp only[eK]at h1
 exact⟨⟨_,_⟩,rfl⟩
structure ap where
 K:List ai
 R:aj
 S:List am
def zP(x:ap):List Dt:=[.l (List.map zi x.K),.l (List.map zc x.R.q),.l (List.map zm x.S)]
def So:List Sh:=[.l NB,.l Nw,.l PH]
theorem w8:∀r,eT r So->∃x:ap,r=zP x:=by
 intro r h;unfold So at h;rcases r with _|⟨d0,_|⟨d1,_|⟨d2,_|_⟩⟩⟩ <;> simp only[eT,and_false,and_true]at h
 obtain⟨h0,h1,h2⟩:=h;cases d0 <;> simp only[eK]at h0
 obtain⟨l0,rfl⟩:=uj SF h0;cases d1 <;> simp only[eK]at h1
 obtain⟨l1,rfl⟩:=uj Si h1;cases d2 <;> simp only[eK]at h2
 obtain⟨l2,rfl⟩:=uj l7 h2;exact⟨⟨_,⟨_⟩,_⟩,rfl⟩
structure ar where
 t:Int
 p:ev
def zR(x:ar):List Dt:=[.i .i64 x.t,.s x.p]
def SM:List Sh:=[.i .i64,.s]
theorem r9:∀r,eT r SM->∃x:ar,r=zR x:=by
 intro r h;unfold SM at h;rcases r with _|⟨d0,_|⟨d1,_|_⟩⟩ <;> simp only[eT,and_false,and_true]at h
 obtain⟨h0,h1⟩:=h;cases d0 <;> simp only[eK]at h0
 subst h0;cases d1 <;> simp only[eK]at h1
 exact⟨⟨_,_⟩,rfl⟩
structure ao where
 M:Int
 L:Int
def z8(x:ao):List Dt:=[.i .i64 x.M,.i .i64 x.L]
def R6:List Sh:=[.i .i64,.i .i64]
theorem A6:∀r,eT r R6->∃x:ao,r=z8 x:=by
 intro r h;unfold R6 at h;rcases r with _|⟨d0,_|⟨d1,_|_⟩⟩ <;> simp only[eT,and_false,and_true]at h
 obtain⟨h0,h1⟩:=h;cases d0 <;> simp only[eK]at h0
 subst h0;cases d1 <;> simp only[eK]at h1
 subst h1;exact⟨⟨_,_⟩,rfl⟩
structure aq where
 Q:Int
 P:ev
def uR(x:aq):List Dt:=[.i .i64 x.Q,.s x.P]
def Sp:List Sh:=[.i .i64,.s]
theorem w7:∀r,eT r Sp->∃x:aq,r=uR x:=by
 intro r h;unfold Sp at h;rcases r with _|⟨d0,_|⟨d1,_|_⟩⟩ <;> simp only[eT,and_false,and_true]at h
 obtain⟨h0,h1⟩:=h;cases d0 <;> simp only[eK]at h0
 subst h0;cases d1 <;> simp only[eK]at h1
 exact⟨⟨_,_⟩,rfl⟩
def zD(x:List Int):List Dt:=[.l (List.map zA x)]
def zl(x:List Int):List Dt:=[.b false]
def zn(x:List Int):List (List Dt):=List.map zA x
theorem Ax(l:List (List Int)):pu 0 (List.map zl l) (List.map zn l)=List.map zD l:=rC (fun _=>rfl) l
theorem UC:∀l,fh (1) (List.map zl l)=True:=fun l=>eq_true (by intro r hr;obtain⟨x,_,rfl⟩:=mem_map.1 hr;rfl)
attribute [go_sem] Ax UC zl zn
instance instDec_outref1_place:DecidableEq ar:=fun a b=>decidable_of_iff (a.t=b.t/\a.p=b.p) (by cases a;cases b;simp)
def C8(x:ar):Dt:=.a (zR x)
theorem P8(a b:ar):fM (C8 a) (C8 b)=decide (a=b):=by rw[Bool.eq_iff_iff];obtain⟨a0,a1⟩:=a;obtain⟨b0,b1⟩:=b;simp only[fM,C8,zR,fE,Bool.and_true,Bool.and_eq_true,decide_eq_true_eq,ar.mk.injEq];exact⟨fun h=>by simp only[h,and_self],fun h=>by simp only[h,and_self]⟩
theorem UO{V:Type}(e:V->List Dt)(l:List (ar×V)):jd (.ks [.i .i64,.s]) (zH C8 e l)=True:=lu (kd:=zR) (fun x=>by simp[zI,zR]) e l
attribute [go_sem] UO
instance instDec_keep_place:DecidableEq aq:=fun a b=>decidable_of_iff (a.Q=b.Q/\a.P=b.P) (by cases a;cases b;simp)
def Da(x:aq):Dt:=.a (uR x)
theorem PS(a b:aq):fM (Da a) (Da b)=decide (a=b):=by rw[Bool.eq_iff_iff];obtain⟨a0,a1⟩:=a;obtain⟨b0,b1⟩:=b;simp only[fM,Da,uR,fE,Bool.and_true,Bool.and_eq_true,decide_eq_true_eq,aq.mk.injEq];exact⟨fun h=>by simp only[h,and_self],fun h=>by simp only[h,and_self]⟩
theorem Ud{V:Type}(e:V->List Dt)(l:List (aq×V)):jd (.ks [.i .i64,.s]) (zH Da e l)=True:=lu (kd:=uR) (fun x=>by simp[zI,uR]) e l
attribute [go_sem] Ud
theorem D2:∀l,fh (1) (List.map fP l)=True:=fun l=>eq_true (by intro r hr;obtain⟨x,_,rfl⟩:=mem_map.1 hr;rfl)
theorem D1:∀l,fh (1) (List.map ex l)=True:=fun l=>eq_true (by intro r hr;obtain⟨x,_,rfl⟩:=mem_map.1 hr;rfl)
theorem pN:∀l,fh (1) (List.map zA l)=True:=fun l=>eq_true (by intro r hr;obtain⟨x,_,rfl⟩:=mem_map.1 hr;rfl)
theorem sN:∀l,fh (1) (List.map eU l)=True:=fun l=>eq_true (by intro r hr;obtain⟨x,_,rfl⟩:=mem_map.1 hr;rfl)
theorem pL:∀l,fh (1) (List.map rX l)=True:=fun l=>eq_true (by intro r hr;obtain⟨x,_,rfl⟩:=mem_map.1 hr;rfl)
theorem pO:∀l,fh (1) (List.map rZ l)=True:=fun l=>eq_true (by intro r hr;obtain⟨x,_,rfl⟩:=mem_map.1 hr;rfl)
theorem pM:∀l,fh (1) (List.map rY l)=True:=fun l=>eq_true (by intro r hr;obtain⟨x,_,rfl⟩:=mem_map.1 hr;rfl)
theorem Um:∀l,fh (5) (List.map zc l)=True:=fun l=>eq_true (by intro r hr;obtain⟨x,_,rfl⟩:=mem_map.1 hr;rfl)
theorem Uo:∀l,fh (1) (List.map zC l)=True:=fun l=>eq_true (by intro r hr;obtain⟨x,_,rfl⟩:=mem_map.1 hr;rfl)
theorem UF:∀l,fh (2) (List.map za l)=True:=fun l=>eq_true (by intro r hr;obtain⟨x,_,rfl⟩:=mem_map.1 hr;rfl)
theorem Ul:∀l,fh (3) (List.map ze l)=True:=fun l=>eq_true (by intro r hr;obtain⟨x,_,rfl⟩:=mem_map.1 hr;rfl)
theorem UE:∀l,fh (4) (List.map zb l)=True:=fun l=>eq_true (by intro r hr;obtain⟨x,_,rfl⟩:=mem_map.1 hr;rfl)
theorem UD:∀l,fh (4) (List.map zs l)=True:=fun l=>eq_true (by intro r hr;obtain⟨x,_,rfl⟩:=mem_map.1 hr;rfl)
theorem Un:∀l,fh (10) (List.map zj l)=True:=fun l=>eq_true (by intro r hr;obtain⟨x,_,rfl⟩:=mem_map.1 hr;rfl)
theorem Ut:∀l,fh (2) (List.map zy l)=True:=fun l=>eq_true (by intro r hr;obtain⟨x,_,rfl⟩:=mem_map.1 hr;rfl)
theorem Us:∀l,fh (10) (List.map zi l)=True:=fun l=>eq_true (by intro r hr;obtain⟨x,_,rfl⟩:=mem_map.1 hr;rfl)
theorem UT:∀l,fh (6) (List.map zk l)=True:=fun l=>eq_true (by intro r hr;obtain⟨x,_,rfl⟩:=mem_map.1 hr;rfl)
theorem Uq:∀l,fh (2) (List.map zm l)=True:=fun l=>eq_true (by intro r hr;obtain⟨x,_,rfl⟩:=mem_map.1 hr;rfl)
theorem Uu:∀l,fh (3) (List.map zP l)=True:=fun l=>eq_true (by intro r hr;obtain⟨x,_,rfl⟩:=mem_map.1 hr;rfl)
theorem UL:∀l,fh (2) (List.map zR l)=True:=fun l=>eq_true (by intro r hr;obtain⟨x,_,rfl⟩:=mem_map.1 hr;rfl)
theorem Uk:∀l,fh (2) (List.map z8 l)=True:=fun l=>eq_true (by intro r hr;obtain⟨x,_,rfl⟩:=mem_map.1 hr;rfl)
theorem Uv:∀l,fh (2) (List.map uR l)=True:=fun l=>eq_true (by intro r hr;obtain⟨x,_,rfl⟩:=mem_map.1 hr;rfl)
theorem Uj:∀l,fh (1) (List.map zD l)=True:=fun l=>eq_true (by intro r hr;obtain⟨x,_,rfl⟩:=mem_map.1 hr;rfl)
theorem oY:∀l:List Int,fN (List.map eU l)=True
 |[]=>by simp only[map_nil,fN]
 |_::l=>by simp only[map_cons,eU,fN,oY l,and_self]
theorem qW:∀l:List Int,gD (List.map eU l)=Go.Vc.strOf l
 |[]=>by simp only[map_nil,gD,Go.Vc.strOf]
 |_::l=>by simp only[map_cons,eU,gD,qW l,Go.Vc.strOf]
theorem FD(l:ev):bR l=List.map eU (xY l):=by simp[bR,xY,eU]
attribute [go_sem] oY qW FD
attribute [go_sem] fP ex zA eU rX rZ rY zc zC za ze zb zs zj zy zi zk zm zP zR z8 uR zD D2 D1 pN sN pL pO pM Um Uo UF Ul UE UD Un Ut Us UT Uq Uu UL Uk Uv Uj
def BU(b:Int):Option Bool :=
 some ((decide (97<=b))&&(decide (b<=122)))
def Gu(b:Int):Option Bool :=
 some ((decide (48<=b))&&(decide (b<=57)))
def Iy(b:Int):Option Bool :=
 call (BU b) fun c =>
 callG (!c) (Gu b) false fun f =>
 some (((c||f)||(decide (b=45)))||(decide (b=46)))
def Nz(b:ev)(c:Int):Option Bool :=
 jp (S:=Unit) (fun _ =>
  some ((!decide (b=[]))&&(decide ((b.length:Int)<=c)))) fun g =>
 forL b 0 (fun k i s f l =>
  call (Iy (i.toNat:Int)) fun j =>
  bif !j then
   some false
  else
  f ()) () (fun _ =>
  g ())
def CT(b:ev):Option Bool :=
 call (Nz b 40) fun c =>
 eA (c=true->(0<=0/\0<(b.length:Int))) <|
 callG c (BU ((b.getD 0 0).toNat:Int)) false fun f =>
 some (c&&f)
def Na :Option Bool :=
 call (CT ([97]:ev)) fun b =>
 some b
def qO(c:ev):Option Bool :=
 jp (S:=Unit) (fun _ =>
  some ((!decide (c=[]))&&(decide ((c.length:Int)<=40)))) fun g =>
 forL c 0 (fun i b s f j =>
  bif (((decide ((i:Int)=0))&&(!((decide (97<=(b.toNat:Int)))&&(decide ((b.toNat:Int)<=122)))))||((((!((decide (97<=(b.toNat:Int)))&&(decide ((b.toNat:Int)<=122))))&&((decide ((b.toNat:Int)<48))||(decide (57<(b.toNat:Int)))))&&(!decide ((b.toNat:Int)=45)))&&(!decide ((b.toNat:Int)=46))))then
   some false
  else
  f ()) () (fun _ =>
  g ())
def CM(b:ev):Option Bool :=
 jp (S:=Unit) (fun _ =>
  some (decide ((b.length:Int)<=1000))) fun g =>
 forL b 0 (fun i c s f j =>
  bif ((decide ((c.toNat:Int)<32))||(decide (126<(c.toNat:Int))))then
   some false
  else
  f ()) () (fun _ =>
  g ())
def IV(b:ev)(c:ev):Option Int :=
 some (fb b c)
def uS(b:ev)(c:ev):Option Int :=
 call (IV b c) fun f =>
 some f
def M0(b:ab)(c:ab):Option Int :=
 call (uS b.u c.u) fun f =>
 some f
def zt(g:Int)(t:Int)(l:List ab):Option (List ab) :=
 loopN ff (fun s m v =>
  match s with
  |(i,f) =>
   bif decide (i<t)then
    jp (S:=List ab) (fun j =>
     m (IntKind.i64.wrap (i+1),j)) fun n =>
    loopN ff (fun s k o =>
     match s with
     |(b,c) =>
      eA ((decide (g<b))=true->(0<=b/\b<(c.length:Int))) <|
      eA ((decide (g<b))=true->(0<=IntKind.i64.wrap (b-1)/\IntKind.i64.wrap (b-1)<(c.length:Int))) <|
      callG (decide (g<b)) (M0 (ab.mk ((c.getD b.toNat (ab.mk [] [])).u) ((c.getD b.toNat (ab.mk [] [])).Value)) (ab.mk ((c.getD ((IntKind.i64.wrap (b-1)).toNat) (ab.mk [] [])).u) ((c.getD ((IntKind.i64.wrap (b-1)).toNat) (ab.mk [] [])).Value))) 0 fun p =>
      bif ((decide (g<b))&&(decide (p<0)))then
       eA (0<=IntKind.i64.wrap (b-1)/\IntKind.i64.wrap (b-1)<(c.length:Int)) <|
       eA (0<=b/\b<(c.length:Int)) <|
       eA (0<=b/\b<(c.length:Int)) <|
       eA (0<=IntKind.i64.wrap (b-1)/\IntKind.i64.wrap (b-1)<((List.set c b.toNat (ab.mk ((c.getD ((IntKind.i64.wrap (b-1)).toNat) (ab.mk [] [])).u) ((c.getD ((IntKind.i64.wrap (b-1)).toNat) (ab.mk [] [])).Value))).length:Int)) <|
       k (IntKind.i64.wrap (b-1),List.set (List.set c b.toNat (ab.mk ((c.getD ((IntKind.i64.wrap (b-1)).toNat) (ab.mk [] [])).u) ((c.getD ((IntKind.i64.wrap (b-1)).toNat) (ab.mk [] [])).Value))) ((IntKind.i64.wrap (b-1)).toNat) (ab.mk ((c.getD b.toNat (ab.mk [] [])).u) ((c.getD b.toNat (ab.mk [] [])).Value)))
      else
      o (b,c)) (i,f) (fun s=>match s with
     |(b,c) =>
      n c)
   else
   v (i,f)) (IntKind.i64.wrap (g+1),l) (fun s=>match s with
  |(i,f) =>
   some f)
def NV(g:Int)(l:List ab):Option (List ab) :=
 jp (S:=Int×List ab) (fun s=>match s with
  |(z,m) =>
   call (zt z g m) fun B =>
   loopN ff (fun b j n =>
    bif decide (b<g)then
     jp (S:=Unit) (fun _ =>
      bif decide ((IntKind.i64.wrap (0+b))<g)then
       none
      else
      j (IntKind.i64.wrap (b*2))) fun o =>
     loopN ff (fun s C p =>
      bif decide ((IntKind.i64.wrap (2*b))<=g)then
       none
      else
      p ()) () (fun _ =>
      o ())
    else
    n b) 20 (fun b =>
    some B)) fun t =>
 loopN ff (fun s k u =>
  match s with
  |(i,c,f) =>
   bif decide (c<=g)then
    call (zt i c f) fun v =>
    k (c,IntKind.i64.wrap (c+20),v)
   else
   u (i,c,f)) (0,20,l) (fun s=>match s with
  |(i,c,f) =>
   t (i,f))
def zK(b:List ab):Option (List ab) :=
 call (NV (b.length:Int) b) fun c =>
 some c
def HE(b:ab)(c:ab):Option Bool :=
 some (decide (b.u=c.u))
def zM(b:List ab):Option (Nat×Nat×List ab) :=
 bif decide (((List.take b.length b).length:Int)<2)then
  some (0,b.length,b)
 else
 jp (S:=Unit) (fun _ =>
  some (0,b.length,b)) fun B =>
 loopN ff (fun c m n =>
  bif decide (c<((List.take b.length b).length:Int))then
   jp (S:=Unit) (fun _ =>
    m (IntKind.i64.wrap (c+1))) fun o =>
   eA (0<=c/\c<(b.length:Int)) <|
   eA (0<=IntKind.i64.wrap (c-1)/\IntKind.i64.wrap (c-1)<(b.length:Int)) <|
   call (HE (ab.mk ((b.getD (c.toNat:Nat) (ab.mk [] [])).u) ((b.getD (c.toNat:Nat) (ab.mk [] [])).Value)) (ab.mk ((b.getD ((IntKind.i64.wrap (c-1)).toNat:Nat) (ab.mk [] [])).u) ((b.getD ((IntKind.i64.wrap (c-1)).toNat:Nat) (ab.mk [] [])).Value))) fun p =>
   bif p then
    eA (0<=c/\c<=(b.length:Int)) <|
    jp (S:=Int×List ab) (fun s=>match s with
     |(i,k) =>
      eA (0<=i/\i<=(b.length:Int)) <|
      eA (0<=i/\i<=(b.length:Int)) <|
      some (0,i.toNat,List.take i.toNat k++List.replicate (b.length-i.toNat) (ab.mk [] [])++List.drop (i.toNat+(b.length-i.toNat)) k)) fun t =>
    loopN ff (fun s l v =>
     match s with
     |(j,f,g) =>
      bif decide (f<((List.take (b.length-c.toNat) (List.drop c.toNat g)).length:Int))then
       eA (0<=f/\f<(b.length-c.toNat:Int)) <|
       eA (c.toNat+f.toNat<g.length) <|
       eA (0<=IntKind.i64.wrap (f-1)/\IntKind.i64.wrap (f-1)<(b.length-c.toNat:Int)) <|
       eA (c.toNat+((IntKind.i64.wrap (f-1)).toNat)<g.length) <|
       call (HE (ab.mk ((g.getD (c.toNat+f.toNat:Nat) (ab.mk [] [])).u) ((g.getD (c.toNat+f.toNat:Nat) (ab.mk [] [])).Value)) (ab.mk ((g.getD (c.toNat+((IntKind.i64.wrap (f-1)).toNat):Nat) (ab.mk [] [])).u) ((g.getD (c.toNat+((IntKind.i64.wrap (f-1)).toNat):Nat) (ab.mk [] [])).Value))) fun z =>
       bif !z then
        eA (0<=f/\f<(b.length-c.toNat:Int)) <|
        eA (c.toNat+f.toNat<g.length) <|
        eA (0<=j/\j<(b.length:Int)) <|
        eA (j.toNat<g.length) <|
        l (IntKind.i64.wrap (j+1),IntKind.i64.wrap (f+1),List.set g (j.toNat:Nat) (ab.mk ((g.getD (c.toNat+f.toNat:Nat) (ab.mk [] [])).u) ((g.getD (c.toNat+f.toNat:Nat) (ab.mk [] [])).Value)))
       else
       l (j,IntKind.i64.wrap (f+1),g)
      else
      v (j,f,g)) (c,1,b) (fun s=>match s with
     |(j,f,g) =>
      t (j,g))
   else
   o ()
  else
  n c) 1 (fun c =>
  B ())
def ic(b:Bool)(c:Int):Option Int :=
 bif b then
  some c
 else
 some 0
def BP(f:Int)(c:ev)(b:ev):Option (Int×ev) :=
 call (ic ((decide (0<f))&&(sy c b||decide (c=b))) 7) fun g =>
 some (g,c)
def ig(f:List Int):Option Int :=
 jp (S:=Unit) (fun _ =>
  some 0) fun g =>
 forL f 0 (fun i b s c j =>
  bif !decide (b=0)then
   some b
  else
  c ()) () (fun _ =>
  g ())
def GQ(b:ev)(c:Int):Option Int :=
 some (xV b c)
def GP(c:ev)(b:ev):Option Int :=
 bif ((decide ((b.length:Int)=0))||(decide (b=c)))then
  some 0
 else
 bif decide ((b.length:Int)=1)then
  fI b 0 fun f =>
  call (GQ c f) fun g =>
  some g
 else
 bif decide ((c.length:Int)<=(b.length:Int))then
  some (-1)
 else
 none
def BZ(c:ev)(b:ev):Option Int :=
 call (GP c b) fun f =>
 some f
def Iu(i:ev)(b:ev):Option Int :=
 bif decide ((b.length:Int)=0)then
  none
 else
 bif decide ((b.length:Int)=1)then
  fI b 0 fun k =>
  some (yv i k)
 else
 loopN ff (fun s j l =>
  match s with
  |(c,g) =>
   call (BZ c b) fun f =>
   bif decide (f=(-1))then
    some g
   else
   eA (0<=IntKind.i64.wrap (f+(b.length:Int))/\IntKind.i64.wrap (f+(b.length:Int))<=(c.length:Int)) <|
   j (List.drop ((IntKind.i64.wrap (f+(b.length:Int))).toNat) c,IntKind.i64.wrap (g+1))) (i,0) (fun s=>match s with
  |(c,g) =>
   none)
def uT(j:ev)(c:ev)(b:Int)(o:Int):Option (List ev) :=
 bif decide (o=0)then
  some []
 else
 bif decide (c=[])then
  none
 else
 jp (S:=Int) (fun m =>
  eA (0<=min m (IntKind.i64.wrap ((j.length:Int)+1))/\min m (IntKind.i64.wrap ((j.length:Int)+1))<=min m (IntKind.i64.wrap ((j.length:Int)+1))/\min m (IntKind.i64.wrap ((j.length:Int)+1))<=274877906944) <|
  jp (S:=ev×Int×List ev) (fun s=>match s with
   |(p,k,n) =>
    eA (0<=k/\k<(n.length:Int)) <|
    eA (0<=IntKind.i64.wrap (k+1)/\IntKind.i64.wrap (k+1)<=((List.set n k.toNat p).length:Int)) <|
    some (List.take ((IntKind.i64.wrap (k+1)).toNat) (List.set n k.toNat p))) fun z =>
  loopN ff (fun s v t =>
   match s with
   |(f,g,i) =>
    bif decide (g<(IntKind.i64.wrap ((min m (IntKind.i64.wrap ((j.length:Int)+1)))-1)))then
     call (BZ f c) fun l =>
     bif decide (l<0)then
      t (f,g,i)
     else
     eA (0<=IntKind.i64.wrap (l+b)/\IntKind.i64.wrap (l+b)<=(f.length:Int)) <|
     eA (0<=g/\g<(i.length:Int)) <|
     eA (0<=IntKind.i64.wrap (l+(c.length:Int))/\IntKind.i64.wrap (l+(c.length:Int))<=(f.length:Int)) <|
     v (List.drop ((IntKind.i64.wrap (l+(c.length:Int))).toNat) f,IntKind.i64.wrap (g+1),List.set i g.toNat (List.take ((IntKind.i64.wrap (l+b)).toNat) f))
    else
    t (f,g,i)) (j,0,List.replicate ((min m (IntKind.i64.wrap ((j.length:Int)+1))).toNat) []) (fun s=>match s with
   |(f,g,i) =>
    z (f,g,i))) fun u =>
 bif decide (o<0)then
  call (Iu j c) fun B =>
  u (IntKind.i64.wrap (B+1))
 else
 u o
def C5(c:ev)(b:ev):Option (List ev) :=
 call (uT c b 0 (-1)) fun f =>
 some f
def Hm(c:ev):Option Bool :=
 jp (S:=Unit) (fun _ =>
  some ((((!decide (c=[]))&&(decide ((c.length:Int)<=40)))&&(!decide (c=([46]:ev))))&&(!decide (c=([46,46]:ev))))) fun g =>
 forL c 0 (fun i b s f j =>
  bif (((((((decide ((b.toNat:Int)<97))||(decide (122<(b.toNat:Int))))&&((decide ((b.toNat:Int)<65))||(decide (90<(b.toNat:Int)))))&&((decide ((b.toNat:Int)<48))||(decide (57<(b.toNat:Int)))))&&(!decide ((b.toNat:Int)=45)))&&(!decide ((b.toNat:Int)=46)))&&(!decide ((b.toNat:Int)=95)))then
   some false
  else
  f ()) () (fun _ =>
  g ())
def uJ(b:ev):Option Bool :=
 jp (S:=Unit) (fun _ =>
  some (decide ((b.length:Int)<=200))) fun f =>
 call (C5 b ([47]:ev)) fun g =>
 forL g 0 (fun k i s c l =>
  call (Hm i) fun j =>
  bif !j then
   some false
  else
  c ()) () (fun _ =>
  f ())
def Gn(b:ae):Option Int :=
 call (uJ b.a) fun c =>
 call (ic (!c) 5) fun f =>
 call (ic (decide (65536<(b.G.length:Int))) 4) fun g =>
 call (ig [f,g]) fun i =>
 some i
def GD(b:ab):Option Int :=
 call (uJ b.u) fun c =>
 call (ic (!c) 5) fun f =>
 call (CM b.Value) fun g =>
 call (ic (!g) 2) fun i =>
 call (ig [f,i]) fun j =>
 some j
def GC(b:ah):Option Int :=
 call (qO b.C) fun c =>
 callG (!(!c)) (uJ b.a) false fun f =>
 call (ic ((!c)||(!f)) 5) fun g =>
 some g
def yu(f:ak):Option Int :=
 bif ((((decide (100<(f.F.length:Int)))||(decide (2000<(f.B.length:Int))))||(decide (2000<(f.E.length:Int))))||(decide (100<(f.D.length:Int))))then
  some 4
 else
 jp (S:=ev) (fun o =>
  jp (S:=ev) (fun p =>
   jp (S:=ev) (fun t =>
    jp (S:=Unit) (fun _ =>
     some 0) fun a0 =>
    forL f.D 0 (fun a1 z k W az =>
     call (GC z) fun a2 =>
     call (BP (a1:Int) z.C k) fun G =>
     call (ig [a2,G.1]) fun I =>
     bif !decide (I=0)then
      some I
     else
     W G.2) t (fun k =>
     a0 ())) fun a3 =>
   forL f.E 0 (fun a4 J i X aA =>
    call (GD J) fun a5 =>
    call (BP (a4:Int) J.u i) fun L =>
    call (ig [a5,L.1]) fun M =>
    bif !decide (M=0)then
     some M
    else
    X L.2) p (fun i =>
    a3 i)) fun a6 =>
  forL f.B 0 (fun a7 g s Y aB =>
   match s with
   |(j,l) =>
    jp (S:=ev) (fun v =>
     Y (v,eM l g.a true)) fun a8 =>
    call (Gn g) fun a9 =>
    call (BP (a7:Int) g.a j) fun N =>
    call (ig [a9,N.1]) fun O =>
    jp (S:=Int) (fun P =>
     bif !decide (P=0)then
      some P
     else
     eA ((eM l g.a true).length<=274877906944) <|
     a8 N.2) fun Q =>
    bif decide (O=0)then
     loopN ff (fun s m ac =>
      match s with
      |(n,b) =>
       bif decide (b<(g.a.length:Int))then
        fI g.a b fun R =>
        eA ((decide (R=47))=true->(0<=b/\b<=(g.a.length:Int))) <|
        fK (eG l (List.take b.toNat g.a)) fun ad =>
        bif ((decide (R=47))&&(ad.getD false))then
         m (11,IntKind.i64.wrap (b+1))
        else
        m (n,IntKind.i64.wrap (b+1))
       else
       ac (n,b)) (O,0) (fun s=>match s with
      |(n,b) =>
       Q n)
    else
    Q O) (o,[]) (fun s=>match s with
   |(j,l) =>
    a6 j)) fun af =>
 forL f.F 0 (fun ag T c Z aC =>
  call (qO T.u) fun an =>
  call (ic (!an) 5) fun av =>
  call (CM T.Value) fun aw =>
  call (ic (!aw) 2) fun ay =>
  call (BP (ag:Int) T.u c) fun U =>
  call (ig [av,ay,U.1]) fun V =>
  bif !decide (V=0)then
   some V
  else
  Z U.2) [] (fun c =>
  af c)
def yE(g:ak):Option ((List (ev×ae))×(List (ev×ev))×(List (ev×ah))×List ab) :=
 jp (S:=(List (ev×ae))) (fun p =>
  jp (S:=(List (ev×ev))) (fun t =>
   jp (S:=(List (ev×ah))) (fun l =>
    some (p,t,l,g.F)) fun v =>
   forL g.D 0 (fun I i b m J =>
    eA ((eM b i.C i).length<=274877906944) <|
    m (eM b i.C i)) [] (fun b =>
    v b)) fun z =>
  forL g.E 0 (fun L j c n M =>
   eA ((eM c j.u j.Value).length<=274877906944) <|
   n (eM c j.u j.Value)) [] (fun c =>
   z c)) fun G =>
 forL g.B 0 (fun N k f o O =>
  eA ((eM f k.a k).length<=274877906944) <|
  o (eM f k.a k)) [] (fun f =>
  G f)
def Gv(b:ai):Option Int :=
 jp (S:=Int×ev×ev×Bool×ev×ev×ev×ev×Bool×Bool) (fun s=>match s with
  |(Q,l,m,n,o,p,t,f,i,k) =>
   call (ic (!(true&&((decide (l=[]))&&((decide (m=[]))&&((decide (n=false))&&((decide (o=[]))&&((decide (p=[]))&&((decide (t=[]))&&((decide (f=[]))&&((decide (i=false))&&(decide (k=false)))))))))))) 2) fun v =>
   call (ig [Q,v]) fun z =>
   some z) fun c =>
 bif decide (b.g=1)then
  call (Gn b.j) fun B =>
  c (B,[],[],false,b.x.u,b.x.Value,b.h.C,b.h.a,b.h.I,b.h.J)
 else
 bif decide (b.g=2)then
  call (uJ b.j.a) fun D =>
  call (ic (!D) 5) fun E =>
  c (E,[],b.j.G,b.j.H,b.x.u,b.x.Value,b.h.C,b.h.a,b.h.I,b.h.J)
 else
 bif decide (b.g=3)then
  call (GD b.x) fun F =>
  c (F,b.j.a,b.j.G,b.j.H,[],[],b.h.C,b.h.a,b.h.I,b.h.J)
 else
 bif decide (b.g=4)then
  call (uJ b.x.u) fun L =>
  call (ic (!L) 5) fun M =>
  c (M,b.j.a,b.j.G,b.j.H,[],b.x.Value,b.h.C,b.h.a,b.h.I,b.h.J)
 else
 bif decide (b.g=5)then
  call (GC b.h) fun N =>
  c (N,b.j.a,b.j.G,b.j.H,b.x.u,b.x.Value,[],[],false,false)
 else
 bif decide (b.g=6)then
  call (qO b.h.C) fun O =>
  call (ic (!O) 5) fun P =>
  c (P,b.j.a,b.j.G,b.j.H,b.x.u,b.x.Value,[],b.h.a,b.h.I,b.h.J)
 else
 some 1
def N3(c:ev)(b:ev):Option Bool :=
 eA ((decide ((b.length:Int)<=(c.length:Int)))=true->(0<=(b.length:Int)/\(b.length:Int)<=(c.length:Int))) <|
 some ((decide ((b.length:Int)<=(c.length:Int)))&&(decide ((List.take b.length c)=b)))
def ul(c:ev)(b:ev):Option Bool :=
 call (N3 c b) fun f =>
 some f
def uE(c:ev)(b:ev):Option Bool :=
 eA ((b++([47]:ev)).length<=274877906944) <|
 call (ul c (b++([47]:ev))) fun f =>
 some f
def yN(b:ai)(L:List ab)(c:List (ev×ae))(f:List (ev×ev))(i:List (ev×ah)):Option (Int×(List (ev×ae))×(List (ev×ev))×(List (ev×ah))) :=
 call (Gv b) fun o =>
 bif !decide (o=0)then
  some (o,c,f,i)
 else
 jp (S:=(List (ev×ae))×(List (ev×ev))×(List (ev×ah))) (fun s=>match s with
  |(v,l,m) =>
   some (0,v,l,m)) fun k =>
 bif decide (b.g=2)then
  fK (eG c b.j.a) fun z =>
  bif !z.isSome then
   some (10,c,f,i)
  else
  k (jo c b.j.a,f,i)
 else
 bif decide (b.g=4)then
  fK (eG f b.x.u) fun B =>
  bif !B.isSome then
   some (10,c,f,i)
  else
  k (c,jo f b.x.u,i)
 else
 bif decide (b.g=6)then
  fK (eG i b.h.C) fun D =>
  bif !D.isSome then
   some (10,c,f,i)
  else
  k (c,f,jo i b.h.C)
 else
 bif decide (b.g=1)then
  jp (S:=Unit) (fun _ =>
   fK (eG c b.j.a) fun E =>
   bif ((!E.isSome)&&(decide (2000<=(c.length:Int))))then
    some (4,c,f,i)
   else
   eA ((eM c b.j.a b.j).length<=274877906944) <|
   k (eM c b.j.a b.j,f,i)) fun F =>
  forM (fun p s n M =>
   call (uE p.1 b.j.a) fun t =>
   callG (!t) (uE b.j.a p.1) false fun G =>
   bif (t||G)then
    some (11,c,f,i)
   else
   n ()) c.length c () (fun _ =>
   F ())
 else
 bif decide (b.g=3)then
  fK (eG f b.x.u) fun I =>
  bif ((!I.isSome)&&(decide (2000<=(f.length:Int))))then
   some (4,c,f,i)
  else
  eA ((eM f b.x.u b.x.Value).length<=274877906944) <|
  k (c,eM f b.x.u b.x.Value,i)
 else
 fK (eG i b.h.C) fun J =>
 bif ((!J.isSome)&&(decide (100<=(i.length:Int))))then
  some (4,c,f,i)
 else
 eA ((eM i b.h.C b.h).length<=274877906944) <|
 k (c,f,eM i b.h.C b.h)
def IY(b:List ab):Option (List ab) :=
 us (fun c:Bool=>c=true->b=[]) fun c =>
 bif c then
  some []
 else
 eA (([]++b).length<=274877906944) <|
 some ([]++b)
def NG(o0:List ev):Option (List ev):=some (sortS o0)
def NP(c:List (ev×ae)):Option (List ev) :=
 jp (S:=List ev) (fun g =>
  call (NG g) fun j =>
  some j) fun k =>
 forM (fun f b i l =>
  eA ((b++[f.1]).length<=274877906944) <|
  i (b++[f.1])) c.length c [] (fun b =>
  k b)
def NM(c:List (ev×ev)):Option (List ev) :=
 jp (S:=List ev) (fun g =>
  call (NG g) fun j =>
  some j) fun k =>
 forM (fun f b i l =>
  eA ((b++[f.1]).length<=274877906944) <|
  i (b++[f.1])) c.length c [] (fun b =>
  k b)
def NU(c:List (ev×ah)):Option (List ev) :=
 jp (S:=List ev) (fun g =>
  call (NG g) fun j =>
  some j) fun k =>
 forM (fun f b i l =>
  eA ((b++[f.1]).length<=274877906944) <|
  i (b++[f.1])) c.length c [] (fun b =>
  k b)
def GH(g:List ab)(i:List (ev×ae))(j:List (ev×ev))(k:List (ev×ah)):Option ak :=
 call (IY g) fun C =>
 jp (S:=List ae) (fun n =>
  jp (S:=List ab) (fun o =>
   jp (S:=List ah) (fun p =>
    some (ak.mk C n o p)) fun D =>
   call (NU k) fun E =>
   forL E 0 (fun N F b t O =>
    fK (eG k F) fun z =>
    eA ((b++[(z.getD (ah.mk [] [] false false))]).length<=274877906944) <|
    t (b++[(z.getD (ah.mk [] [] false false))])) [] (fun b =>
    D b)) fun G =>
  call (NM j) fun I =>
  forL I 0 (fun P l c u Q =>
   fK (eG j l) fun B =>
   eA ((c++[(ab.mk l (B.getD []))]).length<=274877906944) <|
   u (c++[(ab.mk l (B.getD []))])) [] (fun c =>
   G c)) fun J =>
 call (NP i) fun L =>
 forL L 0 (fun R M f v T =>
  fK (eG i M) fun m =>
  eA ((f++[(m.getD (ae.mk [] [] false))]).length<=274877906944) <|
  v (f++[(m.getD (ae.mk [] [] false))])) [] (fun f =>
  J f)
def BA(m:ak)(v:List ai):Option (ak×Int) :=
 call (yu m) fun n =>
 bif !decide (n=0)then
  some ((ak.mk [] [] [] []),n)
 else
 call (yE m) fun b =>
 jp (S:=(List (ev×ae))×(List (ev×ev))×(List (ev×ah))) (fun s=>match s with
  |(o,j,k) =>
   call (GH b.2.2.2 o j k) fun p =>
   some (p,0)) fun t =>
 forL v 0 (fun z u s l B =>
  match s with
  |(f,g,i) =>
   call (yN u b.2.2.2 f g i) fun c =>
   bif !decide (c.1=0)then
    some ((ak.mk [] [] [] []),c.1)
   else
   l (c.2.1,c.2.2.1,c.2.2.2)) (b.1,b.2.1,b.2.2.1) (fun s=>match s with
  |(f,g,i) =>
   t (f,g,i))
def BN(j:ai)(b:List ab)(c:List ae)(f:List ab)(g:List ah):Option (List ab×List ae×List ab×List ah) :=
 call (BA (ak.mk b c f g) [j]) fun i =>
 bif decide (i.2=0)then
  some (i.1.F,i.1.B,i.1.E,i.1.D)
 else
 some (b,c,f,g)
def GX(b:ak):Option ak :=
 jp (S:=List ab) (fun a2 =>
  call (zK a2) fun a6 =>
  call (zM a6) fun a0 =>
  jp (S:=List ab×List ae×List ab×List ah) (fun s=>match s with
   |(N,O,P,Q) =>
    jp (S:=List ab×List ae×List ab×List ah) (fun s=>match s with
     |(R,T,U,V) =>
      jp (S:=List ab×List ae×List ab×List ah) (fun s=>match s with
       |(W,X,Y,Z) =>
        some (ak.mk W X Y Z)) fun a7 =>
      eA (0<=min (b.D.length:Int) 40/\min (b.D.length:Int) 40<=(b.D.length:Int)) <|
      forL (List.take ((min (b.D.length:Int) 40).toNat) b.D) 0 (fun an a8 s a3 av =>
       match s with
       |(v,c,f,g) =>
        call (BN (ai.mk 5 (ae.mk [] [] false) (ab.mk [] []) a8) v c f g) fun C =>
        a3 (C.1,C.2.1,C.2.2.1,C.2.2.2)) (R,T,U,V) (fun s=>match s with
       |(v,c,f,g) =>
        a7 (v,c,f,g))) fun a9 =>
    eA (0<=min (b.E.length:Int) 40/\min (b.E.length:Int) 40<=(b.E.length:Int)) <|
    forL (List.take ((min (b.E.length:Int) 40).toNat) b.E) 0 (fun aw ac s a4 ay =>
     match s with
     |(i,j,k,l) =>
      call (BN (ai.mk 3 (ae.mk [] [] false) ac (ah.mk [] [] false false)) i j k l) fun I =>
      a4 (I.1,I.2.1,I.2.2.1,I.2.2.2)) (N,O,P,Q) (fun s=>match s with
     |(i,j,k,l) =>
      a9 (i,j,k,l))) fun ad =>
  eA (0<=min (b.B.length:Int) 40/\min (b.B.length:Int) 40<=(b.B.length:Int)) <|
  forL (List.take ((min (b.B.length:Int) 40).toNat) b.B) 0 (fun az z s a5 aA =>
   match s with
   |(m,n,o,p) =>
    eA (0<=min (z.G.length:Int) 3000/\min (z.G.length:Int) 3000<=(z.G.length:Int)) <|
    call (BN (ai.mk 1 (ae.mk z.a (List.take ((min (z.G.length:Int) 3000).toNat) z.G) z.H) (ab.mk [] []) (ah.mk [] [] false false)) m n o p) fun J =>
    a5 (J.1,J.2.1,J.2.2.1,J.2.2.2)) (List.take a0.2.1 (List.drop a0.1 a0.2.2),[],[],[]) (fun s=>match s with
   |(m,n,o,p) =>
    ad (m,n,o,p))) fun af =>
 forL b.F 0 (fun aB L t M aC =>
  call (qO L.u) fun a1 =>
  callG a1 (CM L.Value) false fun ag =>
  bif ((a1&&ag)&&(decide ((t.length:Int)<20)))then
   eA ((t++[L]).length<=274877906944) <|
   M (t++[L])
  else
  M t) [] (fun t =>
  af t)
def G3(c:ev):Option Bool :=
 jp (S:=Unit) (fun _ =>
  some (decide ((c.length:Int)=16))) fun g =>
 forL c 0 (fun i b s f j =>
  bif (((decide ((b.toNat:Int)<48))||(decide (57<(b.toNat:Int))))&&((decide ((b.toNat:Int)<97))||(decide (102<(b.toNat:Int)))))then
   some false
  else
  f ()) () (fun _ =>
  g ())
def N6(b:Int):Option Bool :=
 some (decide ((fl .and .i64 b (IntKind.i64.wrap (b-1)))=0))
def Qe(b:Int):Option Int :=
 bif decide (b=0)then
  some 64
 else
 eA (0<=Int.fdiv (IntKind.u64.wrap ((fl .and .u64 b (IntKind.u64.wrap (-b)))*285870213051353865)) (2^(fA .u64 58))/\Int.fdiv (IntKind.u64.wrap ((fl .and .u64 b (IntKind.u64.wrap (-b)))*285870213051353865)) (2^(fA .u64 58))<(64:Int)) <|
 some (IntKind.i64.wrap (tabL_5.getD ((Int.fdiv (IntKind.u64.wrap ((fl .and .u64 b (IntKind.u64.wrap (-b)))*285870213051353865)) (2^(fA .u64 58))).toNat) 0))
def NT(b:Int):Option Int :=
 call (Qe b) fun c =>
 some c
def I0(Y:List Int)(B:Int)(b:Int)(t:Bool)(append__23:Bool):Option (List Int×ev) :=
 jp (S:=Unit) (fun _ =>
  jp (S:=Int) (fun C =>
   jp (S:=Int×List Int) (fun s=>match s with
    |(u,m) =>
     jp (S:=Int×List Int) (fun s=>match s with
      |(k,n) =>
       bif append__23 then
        eA (n.length=65/\0<=k/\k<=(65:Int)) <|
        none
       else
       eA (n.length=65/\0<=k/\k<=(65:Int)) <|
       some ([],Go.Vc.strOf (List.take (65-k.toNat) (List.drop k.toNat n)))) fun D =>
     bif t then
      eA (0<=IntKind.i64.wrap (u-1)/\IntKind.i64.wrap (u-1)<(65:Int)/\65=m.length) <|
      D (IntKind.i64.wrap (u-1),List.set m ((IntKind.i64.wrap (u-1)).toNat) 45)
     else
     D (u,m)) fun E =>
   call (N6 b) fun L =>
   bif L then
    call (NT (IntKind.u64.wrap b)) fun F =>
    jp (S:=Int×Int×List Int) (fun s=>match s with
     |(M,o,v) =>
      fI ([48,49,50,51,52,53,54,55,56,57,97,98,99,100,101,102,103,104,105,106,107,108,109,110,111,112,113,114,115,116,117,118,119,120,121,122]:ev) M fun N =>
      eA (0<=IntKind.i64.wrap (o-1)/\IntKind.i64.wrap (o-1)<(65:Int)/\65=v.length) <|
      E (IntKind.i64.wrap (o-1),List.set v ((IntKind.i64.wrap (o-1)).toNat) N)) fun O =>
    loopN ff (fun s I P =>
     match s with
     |(l,c,f) =>
      bif decide ((IntKind.u64.wrap b)<=l)then
       fI ([48,49,50,51,52,53,54,55,56,57,97,98,99,100,101,102,103,104,105,106,107,108,109,110,111,112,113,114,115,116,117,118,119,120,121,122]:ev) (fl .and .u64 l (IntKind.u64.wrap ((IntKind.u64.wrap b)-1))) fun Q =>
       eA (0<=IntKind.i64.wrap (c-1)/\IntKind.i64.wrap (c-1)<(65:Int)/\65=f.length) <|
       eA (0<=(IntKind.u64.wrap F)) <|
       I (Int.fdiv l (2^(fA .u64 (IntKind.u64.wrap F))),IntKind.i64.wrap (c-1),List.set f ((IntKind.i64.wrap (c-1)).toNat) Q)
      else
      P (l,c,f)) (C,65,List.replicate 65 0) (fun s=>match s with
     |(l,c,f) =>
      O (l,c,f))
   else
   jp (S:=Int×Int×List Int) (fun s=>match s with
    |(R,p,z) =>
     fI ([48,49,50,51,52,53,54,55,56,57,97,98,99,100,101,102,103,104,105,106,107,108,109,110,111,112,113,114,115,116,117,118,119,120,121,122]:ev) R fun T =>
     eA (0<=IntKind.i64.wrap (p-1)/\IntKind.i64.wrap (p-1)<(65:Int)/\65=z.length) <|
     E (IntKind.i64.wrap (p-1),List.set z ((IntKind.i64.wrap (p-1)).toNat) T)) fun U =>
   loopN ff (fun s J V =>
    match s with
    |(g,i,j) =>
     bif decide ((IntKind.u64.wrap b)<=g)then
      eA (¬ (IntKind.u64.wrap b)=0) <|
      fI ([48,49,50,51,52,53,54,55,56,57,97,98,99,100,101,102,103,104,105,106,107,108,109,110,111,112,113,114,115,116,117,118,119,120,121,122]:ev) (IntKind.u64.wrap (g-(IntKind.u64.wrap ((IntKind.u64.wrap (Int.tdiv g (IntKind.u64.wrap b)))*(IntKind.u64.wrap b))))) fun W =>
      eA (0<=IntKind.i64.wrap (i-1)/\IntKind.i64.wrap (i-1)<(65:Int)/\65=j.length) <|
      J (IntKind.u64.wrap (Int.tdiv g (IntKind.u64.wrap b)),IntKind.i64.wrap (i-1),List.set j ((IntKind.i64.wrap (i-1)).toNat) W)
     else
     V (g,i,j)) (C,65,List.replicate 65 0) (fun s=>match s with
    |(g,i,j) =>
     U (g,i,j))) fun G =>
  bif t then
   G (IntKind.u64.wrap (-B))
  else
  G B) fun X =>
 bif (((decide (b<2))||(decide (b=10)))||(decide (36<b)))then
  none
 else
 X ()
def N5(c:Int)(b:Int):Option ev :=
 bif decide (b=10)then
  bif decide (c<100)then
   none
  else
  none
 else
 call (I0 [] c b false false) fun f =>
 some f.2
def IP(c:Int)(b:Int):Option ev :=
 call (N5 c b) fun f =>
 some f
def P5(b:Int)(c:Int):Option (Int×Int) :=
 some (IntKind.u64.wrap ((IntKind.u64.wrap ((IntKind.u64.wrap ((Int.fdiv b (2^(fA .u64 32)))*(Int.fdiv c (2^(fA .u64 32)))))+(Int.fdiv (IntKind.u64.wrap ((IntKind.u64.wrap ((Int.fdiv b (2^(fA .u64 32)))*(fl .and .u64 c 4294967295)))+(Int.fdiv (IntKind.u64.wrap ((fl .and .u64 b 4294967295)*(fl .and .u64 c 4294967295))) (2^(fA .u64 32))))) (2^(fA .u64 32)))))+(Int.fdiv (IntKind.u64.wrap ((fl .and .u64 (IntKind.u64.wrap ((IntKind.u64.wrap ((Int.fdiv b (2^(fA .u64 32)))*(fl .and .u64 c 4294967295)))+(Int.fdiv (IntKind.u64.wrap ((fl .and .u64 b 4294967295)*(fl .and .u64 c 4294967295))) (2^(fA .u64 32))))) 4294967295)+(IntKind.u64.wrap ((fl .and .u64 b 4294967295)*(Int.fdiv c (2^(fA .u64 32))))))) (2^(fA .u64 32)))),IntKind.u64.wrap (b*c))
def ND(c:Int)(f:Int):Option (Int×Int) :=
 call (P5 c f) fun b =>
 some (b.1,b.2)
def IQ(n:Int)(o0:ev):Option Unit:=eA (0<=n/\n<=274877906944) <| some ()
def S7(b:ev):Option Unit :=
 some ()
def S8(b:ev):Option Unit :=
 some ()
def I3(o0:ev):Option Unit:=some ()
def zp(c:ev)(b:ev):Option (Int×ev) :=
 call (I3 b) fun f =>
 eA ((b++c).length<=274877906944) <|
 some ((c.length:Int),b++c)
def Df(b:ev):Option Int :=
 some (b.length:Int)
def zN(b:ev):Option ev :=
 some b
def IB(c:ev)(i:Int):Option ev :=
 bif decide (i=0)then
  some []
 else
 bif decide (i=1)then
  some c
 else
 jp (S:=Unit) (fun _ =>
  call (ND (IntKind.u64.wrap (c.length:Int)) (IntKind.u64.wrap i)) fun b =>
  jp (S:=Unit) (fun _ =>
   bif decide ((c.length:Int)=0)then
    some []
   else
   jp (S:=Unit) (fun _ =>
    jp (S:=Int) (fun f =>
     call (IQ (IntKind.i64.wrap b.2) []) fun P =>
     call (zp c []) fun z =>
     jp (S:=ev) (fun u =>
      call (zN u) fun B =>
      some B) fun C =>
     loopN ff (fun g v D =>
      call (Df g) fun E =>
      bif decide (E<(IntKind.i64.wrap b.2))then
       call (Df g) fun m =>
       call (Df g) fun n =>
       call (zN g) fun o =>
       eA (0<=min (min (IntKind.i64.wrap ((IntKind.i64.wrap b.2)-m)) n) f/\min (min (IntKind.i64.wrap ((IntKind.i64.wrap b.2)-m)) n) f<=(o.length:Int)) <|
       call (zp (List.take ((min (min (IntKind.i64.wrap ((IntKind.i64.wrap b.2)-m)) n) f).toNat) o) g) fun F =>
       v F.2
      else
      D g) z.2 (fun g =>
      C g)) fun l =>
    bif decide (8192<(IntKind.i64.wrap b.2))then
     eA (¬ (c.length:Int)=0) <|
     bif decide ((IntKind.i64.wrap ((IntKind.i64.wrap (Int.tdiv 8192 (c.length:Int)))*(c.length:Int)))=0)then
      l (c.length:Int)
     else
     l (IntKind.i64.wrap ((IntKind.i64.wrap (Int.tdiv 8192 (c.length:Int)))*(c.length:Int)))
    else
    l (IntKind.i64.wrap b.2)) fun p =>
   fI c 0 fun j =>
   jp (S:=Bool) (fun t =>
    bif t then
     callG (decide ((IntKind.i64.wrap b.2)<=128)) (ul ((List.append [32,32,32,32,32,32,32,32,32,32,32,32,32,32,32,32,32,32,32,32,32,32,32,32,32,32,32,32,32,32,32,32,32,32,32,32,32,32,32,32,32,32,32,32,32,32,32,32,32,32,32,32,32,32,32,32,32,32,32,32,32,32,32,32] [32,32,32,32,32,32,32,32,32,32,32,32,32,32,32,32,32,32,32,32,32,32,32,32,32,32,32,32,32,32,32,32,32,32,32,32,32,32,32,32,32,32,32,32,32,32,32,32,32,32,32,32,32,32,32,32,32,32,32,32,32,32,32,32]):ev) c) false fun G =>
     bif ((decide ((IntKind.i64.wrap b.2)<=128))&&G)then
      eA (0<=IntKind.i64.wrap b.2/\IntKind.i64.wrap b.2<=(((List.append [32,32,32,32,32,32,32,32,32,32,32,32,32,32,32,32,32,32,32,32,32,32,32,32,32,32,32,32,32,32,32,32,32,32,32,32,32,32,32,32,32,32,32,32,32,32,32,32,32,32,32,32,32,32,32,32,32,32,32,32,32,32,32,32] [32,32,32,32,32,32,32,32,32,32,32,32,32,32,32,32,32,32,32,32,32,32,32,32,32,32,32,32,32,32,32,32,32,32,32,32,32,32,32,32,32,32,32,32,32,32,32,32,32,32,32,32,32,32,32,32,32,32,32,32,32,32,32,32]):ev).length:Int)) <|
      some (List.take ((IntKind.i64.wrap b.2).toNat) ((List.append [32,32,32,32,32,32,32,32,32,32,32,32,32,32,32,32,32,32,32,32,32,32,32,32,32,32,32,32,32,32,32,32,32,32,32,32,32,32,32,32,32,32,32,32,32,32,32,32,32,32,32,32,32,32,32,32,32,32,32,32,32,32,32,32] [32,32,32,32,32,32,32,32,32,32,32,32,32,32,32,32,32,32,32,32,32,32,32,32,32,32,32,32,32,32,32,32,32,32,32,32,32,32,32,32,32,32,32,32,32,32,32,32,32,32,32,32,32,32,32,32,32,32,32,32,32,32,32,32]):ev))
     else
     callG (decide ((IntKind.i64.wrap b.2)<=128)) (ul ((List.append [45,45,45,45,45,45,45,45,45,45,45,45,45,45,45,45,45,45,45,45,45,45,45,45,45,45,45,45,45,45,45,45,45,45,45,45,45,45,45,45,45,45,45,45,45,45,45,45,45,45,45,45,45,45,45,45,45,45,45,45,45,45,45,45] [45,45,45,45,45,45,45,45,45,45,45,45,45,45,45,45,45,45,45,45,45,45,45,45,45,45,45,45,45,45,45,45,45,45,45,45,45,45,45,45,45,45,45,45,45,45,45,45,45,45,45,45,45,45,45,45,45,45,45,45,45,45,45,45]):ev) c) false fun I =>
     bif ((decide ((IntKind.i64.wrap b.2)<=128))&&I)then
      eA (0<=IntKind.i64.wrap b.2/\IntKind.i64.wrap b.2<=(((List.append [45,45,45,45,45,45,45,45,45,45,45,45,45,45,45,45,45,45,45,45,45,45,45,45,45,45,45,45,45,45,45,45,45,45,45,45,45,45,45,45,45,45,45,45,45,45,45,45,45,45,45,45,45,45,45,45,45,45,45,45,45,45,45,45] [45,45,45,45,45,45,45,45,45,45,45,45,45,45,45,45,45,45,45,45,45,45,45,45,45,45,45,45,45,45,45,45,45,45,45,45,45,45,45,45,45,45,45,45,45,45,45,45,45,45,45,45,45,45,45,45,45,45,45,45,45,45,45,45]):ev).length:Int)) <|
      some (List.take ((IntKind.i64.wrap b.2).toNat) ((List.append [45,45,45,45,45,45,45,45,45,45,45,45,45,45,45,45,45,45,45,45,45,45,45,45,45,45,45,45,45,45,45,45,45,45,45,45,45,45,45,45,45,45,45,45,45,45,45,45,45,45,45,45,45,45,45,45,45,45,45,45,45,45,45,45] [45,45,45,45,45,45,45,45,45,45,45,45,45,45,45,45,45,45,45,45,45,45,45,45,45,45,45,45,45,45,45,45,45,45,45,45,45,45,45,45,45,45,45,45,45,45,45,45,45,45,45,45,45,45,45,45,45,45,45,45,45,45,45,45]):ev))
     else
     callG (decide ((IntKind.i64.wrap b.2)<=64)) (ul ([48,48,48,48,48,48,48,48,48,48,48,48,48,48,48,48,48,48,48,48,48,48,48,48,48,48,48,48,48,48,48,48,48,48,48,48,48,48,48,48,48,48,48,48,48,48,48,48,48,48,48,48,48,48,48,48,48,48,48,48,48,48,48,48]:ev) c) false fun J =>
     bif ((decide ((IntKind.i64.wrap b.2)<=64))&&J)then
      eA (0<=IntKind.i64.wrap b.2/\IntKind.i64.wrap b.2<=(([48,48,48,48,48,48,48,48,48,48,48,48,48,48,48,48,48,48,48,48,48,48,48,48,48,48,48,48,48,48,48,48,48,48,48,48,48,48,48,48,48,48,48,48,48,48,48,48,48,48,48,48,48,48,48,48,48,48,48,48,48,48,48,48]:ev).length:Int)) <|
      some (List.take ((IntKind.i64.wrap b.2).toNat) ([48,48,48,48,48,48,48,48,48,48,48,48,48,48,48,48,48,48,48,48,48,48,48,48,48,48,48,48,48,48,48,48,48,48,48,48,48,48,48,48,48,48,48,48,48,48,48,48,48,48,48,48,48,48,48,48,48,48,48,48,48,48,48,48]:ev))
     else
     callG (decide ((IntKind.i64.wrap b.2)<=128)) (ul ((List.append [61,61,61,61,61,61,61,61,61,61,61,61,61,61,61,61,61,61,61,61,61,61,61,61,61,61,61,61,61,61,61,61,61,61,61,61,61,61,61,61,61,61,61,61,61,61,61,61,61,61,61,61,61,61,61,61,61,61,61,61,61,61,61,61] [61,61,61,61,61,61,61,61,61,61,61,61,61,61,61,61,61,61,61,61,61,61,61,61,61,61,61,61,61,61,61,61,61,61,61,61,61,61,61,61,61,61,61,61,61,61,61,61,61,61,61,61,61,61,61,61,61,61,61,61,61,61,61,61]):ev) c) false fun L =>
     bif ((decide ((IntKind.i64.wrap b.2)<=128))&&L)then
      eA (0<=IntKind.i64.wrap b.2/\IntKind.i64.wrap b.2<=(((List.append [61,61,61,61,61,61,61,61,61,61,61,61,61,61,61,61,61,61,61,61,61,61,61,61,61,61,61,61,61,61,61,61,61,61,61,61,61,61,61,61,61,61,61,61,61,61,61,61,61,61,61,61,61,61,61,61,61,61,61,61,61,61,61,61] [61,61,61,61,61,61,61,61,61,61,61,61,61,61,61,61,61,61,61,61,61,61,61,61,61,61,61,61,61,61,61,61,61,61,61,61,61,61,61,61,61,61,61,61,61,61,61,61,61,61,61,61,61,61,61,61,61,61,61,61,61,61,61,61]):ev).length:Int)) <|
      some (List.take ((IntKind.i64.wrap b.2).toNat) ((List.append [61,61,61,61,61,61,61,61,61,61,61,61,61,61,61,61,61,61,61,61,61,61,61,61,61,61,61,61,61,61,61,61,61,61,61,61,61,61,61,61,61,61,61,61,61,61,61,61,61,61,61,61,61,61,61,61,61,61,61,61,61,61,61,61] [61,61,61,61,61,61,61,61,61,61,61,61,61,61,61,61,61,61,61,61,61,61,61,61,61,61,61,61,61,61,61,61,61,61,61,61,61,61,61,61,61,61,61,61,61,61,61,61,61,61,61,61,61,61,61,61,61,61,61,61,61,61,61,61]):ev))
     else
     callG (decide ((IntKind.i64.wrap b.2)<=64)) (ul ([9,9,9,9,9,9,9,9,9,9,9,9,9,9,9,9,9,9,9,9,9,9,9,9,9,9,9,9,9,9,9,9,9,9,9,9,9,9,9,9,9,9,9,9,9,9,9,9,9,9,9,9,9,9,9,9,9,9,9,9,9,9,9,9]:ev) c) false fun M =>
     bif ((decide ((IntKind.i64.wrap b.2)<=64))&&M)then
      eA (0<=IntKind.i64.wrap b.2/\IntKind.i64.wrap b.2<=(([9,9,9,9,9,9,9,9,9,9,9,9,9,9,9,9,9,9,9,9,9,9,9,9,9,9,9,9,9,9,9,9,9,9,9,9,9,9,9,9,9,9,9,9,9,9,9,9,9,9,9,9,9,9,9,9,9,9,9,9,9,9,9,9]:ev).length:Int)) <|
      some (List.take ((IntKind.i64.wrap b.2).toNat) ([9,9,9,9,9,9,9,9,9,9,9,9,9,9,9,9,9,9,9,9,9,9,9,9,9,9,9,9,9,9,9,9,9,9,9,9,9,9,9,9,9,9,9,9,9,9,9,9,9,9,9,9,9,9,9,9,9,9,9,9,9,9,9,9]:ev))
     else
     p ()
    else
    p ()) fun k =>
   bif decide (j=32)then
    k (decide (j=32))
   else
   bif decide (j=45)then
    k (decide (j=45))
   else
   bif decide (j=48)then
    k (decide (j=48))
   else
   bif decide (j=61)then
    k (decide (j=61))
   else
   k (decide (j=9))) fun N =>
  bif ((decide (0<b.1))||(decide (9223372036854775807<b.2)))then
   none
  else
  N ()) fun O =>
 bif decide (i<0)then
  none
 else
 O ()
def CB(i:ev):Option ev :=
 jp (S:=Int) (fun j =>
  call (IP j 16) fun b =>
  call (IB ([48]:ev) (IntKind.i64.wrap (16-(b.length:Int)))) fun f =>
  eA ((f++b).length<=274877906944) <|
  some (f++b)) fun k =>
 forL i 0 (fun n l c g m =>
  g (IntKind.u64.wrap ((fl .xor .u64 c (IntKind.u64.wrap (l.toNat:Int)))*1099511628211))) 14695981039346656037 (fun c =>
  k c)
def ju(b:Int):Option Int :=
 bif decide (b=5)then
  some 1
 else
 bif decide (b=6)then
  some 2
 else
 some 0
def yI(b:List Int):Option Int :=
 jp (S:=Unit) (fun _ =>
  some 0) fun g =>
 forL b 0 (fun i c s f j =>
  bif !decide (c=0)then
   some c
  else
  f ()) () (fun _ =>
  g ())
def uk(b:aa)(c:aa):Option Int :=
 call (uS b.r c.r) fun f =>
 call (ju b.g) fun i =>
 call (ju c.g) fun j =>
 call (uS b.a c.a) fun k =>
 call (yI [f,IntKind.i64.wrap (i-j),k]) fun l =>
 some l
def pt(f:aj):Option Int :=
 bif decide (5000<(f.q.length:Int))then
  some 4
 else
 jp (S:=Unit) (fun _ =>
  jp (S:=Unit) (fun _ =>
   some 0) fun z =>
  forL f.q 0 (fun O i j u P =>
   call (ju i.g) fun m =>
   fK (eG j (ar.mk m i.a)) fun n =>
   bif (n.isSome&&(((!decide (((n.getD (aa.mk [] 0 [] [] [])).g)=2))||(!decide (i.g=2)))||(!decide (((n.getD (aa.mk [] 0 [] [] [])).y)=i.y))))then
    some 11
   else
   eA ((eM j (ar.mk m i.a) i).length<=274877906944) <|
   u (eM j (ar.mk m i.a) i)) [] (fun j =>
   z ())) fun B =>
 forL f.q 0 (fun c b s v Q =>
  call (G3 b.y) fun k =>
  eA (((!((!k)||((!decide (b.A=[]))&&(!decide (b.g=3)))))&&(decide (b.g=3)))=true->(([114]:ev)++b.A).length<=274877906944) <|
  callG ((!((!k)||((!decide (b.A=[]))&&(!decide (b.g=3)))))&&(decide (b.g=3))) (CB (([114]:ev)++b.A)) [] fun o =>
  eA (((!((!k)||((!decide (b.A=[]))&&(!decide (b.g=3)))))&&((decide (b.g=3))&&(!decide (b.y=o))))=true->(([45]:ev)++b.A).length<=274877906944) <|
  callG ((!((!k)||((!decide (b.A=[]))&&(!decide (b.g=3)))))&&((decide (b.g=3))&&(!decide (b.y=o)))) (CB (([45]:ev)++b.A)) [] fun C =>
  call (uJ b.a) fun D =>
  jp (S:=Bool) (fun l =>
   call (qO b.r) fun E =>
   call (ic (!E) 5) fun F =>
   call (ic ((decide (b.g<1))||(decide (6<b.g))) 1) fun G =>
   call (ic (!l) 5) fun I =>
   call (ic (((!k)||((!decide (b.A=[]))&&(!decide (b.g=3))))||(((decide (b.g=3))&&(!decide (b.y=o)))&&(!decide (b.y=C)))) 2) fun J =>
   eA ((decide (0<(c:Int)))=true->(0<=IntKind.i64.wrap ((c:Int)-1)/\IntKind.i64.wrap ((c:Int)-1)<(f.q.length:Int))) <|
   callG (decide (0<(c:Int))) (uk (aa.mk ((f.q.getD ((IntKind.i64.wrap ((c:Int)-1)).toNat) (aa.mk [] 0 [] [] [])).r) ((f.q.getD ((IntKind.i64.wrap ((c:Int)-1)).toNat) (aa.mk [] 0 [] [] [])).g) ((f.q.getD ((IntKind.i64.wrap ((c:Int)-1)).toNat) (aa.mk [] 0 [] [] [])).a) ((f.q.getD ((IntKind.i64.wrap ((c:Int)-1)).toNat) (aa.mk [] 0 [] [] [])).y) ((f.q.getD ((IntKind.i64.wrap ((c:Int)-1)).toNat) (aa.mk [] 0 [] [] [])).A)) b) 0 fun L =>
   call (ic ((decide (0<(c:Int)))&&(decide (0<=L))) 7) fun M =>
   call (ig [F,G,I,J,M]) fun p =>
   bif !decide (p=0)then
    some p
   else
   v ()) fun t =>
  bif decide (b.g=6)then
   call (qO b.a) fun N =>
   t N
  else
  t D) () (fun _ =>
  B ())
def yA(b:al):Option ai :=
 call (ju b.g) fun c =>
 eL [1,3,5] c fun f =>
 some (ai.mk f b.j b.x b.h)
def CY(b:al):Option Int :=
 bif ((decide (b.g<1))||(decide (6<b.g)))then
  some 1
 else
 call (yA b) fun c =>
 call (Gv c) fun f =>
 call (ic b.h.J 2) fun i =>
 call (ig [f,i]) fun j =>
 some j
def Cn(b:al):Option ev :=
 call (ju b.g) fun c =>
 eL [b.j.a,b.x.u,b.h.C] c fun f =>
 some f
def ua(b:al):Option ev :=
 jp (S:=ev×ev) (fun s=>match s with
  |(c,f) =>
   eA ((c++f).length<=274877906944) <|
   call (CB (c++f)) fun l =>
   some l) fun i =>
 call (ju b.g) fun k =>
 bif decide (k=0)then
  bif b.j.H then
   i (([114]:ev),b.j.G)
  else
  i (([45]:ev),b.j.G)
 else
 bif decide (k=1)then
  i (([45]:ev),b.x.Value)
 else
 bif b.h.I then
  i (([97]:ev),b.h.a)
 else
 i (([45]:ev),b.h.a)
def uG(b:ev)(c:al):Option aa :=
 call (Cn c) fun f =>
 call (ua c) fun i =>
 bif decide (c.g=3)then
  some (aa.mk b c.g f i c.j.G)
 else
 some (aa.mk b c.g f i [])
def uP(b:aa)(c:aa):Option Bool :=
 call (ju b.g) fun f =>
 call (ju c.g) fun i =>
 some ((decide (f=i))&&(decide (b.a=c.a)))
def HN(b:ev):Option Bool :=
 call (uE b ([115,116,97,103,101]:ev)) fun c =>
 some c
def H7(I:aj)(b:ev)(i:List al):Option Int :=
 bif decide (5000<(i.length:Int))then
  some 4
 else
 jp (S:=Unit) (fun _ =>
  some 0) fun u =>
 forL i 0 (fun l c s m J =>
  jp (S:=Unit) (fun _ =>
   m ()) fun v =>
  call (CY c) fun p =>
  bif !decide (p=0)then
   some p
  else
  call (uG b c) fun k =>
  jp (S:=Unit) (fun _ =>
   jp (S:=Unit) (fun _ =>
    call (ju c.g) fun t =>
    callG ((decide (t=0))&&(!(decide (c.j.a=([115,116,97,103,101]:ev))))) (HN c.j.a) false fun z =>
    bif ((decide (t=0))&&((decide (c.j.a=([115,116,97,103,101]:ev)))||z))then
     some 17
    else
    v ()) fun B =>
   forL I.q 0 (fun L f s n M =>
    callG (!decide (f.r=b)) (uP f k) false fun C =>
    bif (((!decide (f.r=b))&&C)&&(((!decide (f.g=2))||(!decide (k.g=2)))||(!decide (f.y=k.y))))then
     some 11
    else
    n ()) () (fun _ =>
    B ())) fun D =>
  eA (0<=(l:Int)/\(l:Int)<=(i.length:Int)) <|
  forL (List.take l i) 0 (fun N E s o O =>
   call (uG b E) fun F =>
   call (uP F k) fun G =>
   bif G then
    some 6
   else
   o ()) () (fun _ =>
   D ())) () (fun _ =>
  u ())
def BW(b:aa)(n:List ab)(k:List (ev×ae))(l:List (ev×ev))(m:List (ev×ah)):Option (al×Bool) :=
 call (ju b.g) fun c =>
 bif decide (c=0)then
  fK (eG k b.a) fun f =>
  some ((al.mk b.g (f.getD (ae.mk [] [] false)) (ab.mk [] []) (ah.mk [] [] false false)),f.isSome)
 else
 bif decide (c=1)then
  fK (eG l b.a) fun i =>
  some ((al.mk b.g (ae.mk [] [] false) (ab.mk b.a (i.getD [])) (ah.mk [] [] false false)),i.isSome)
 else
 fK (eG m b.a) fun j =>
 some ((al.mk b.g (ae.mk [] [] false) (ab.mk [] []) (j.getD (ah.mk [] [] false false))),j.isSome)
def GL(c:aa)(b:List ab)(g:List (ev×ae))(i:List (ev×ev))(j:List (ev×ah)):Option Int :=
 call (BW c b g i j) fun f =>
 bif !f.2 then
  some 3
 else
 call (ua f.1) fun k =>
 bif decide (k=c.y)then
  some 1
 else
 some 2
def H4(c:aa)(b:aa):Option Bool :=
 call (uP c b) fun f =>
 some f
def NW(c:List aa)(f:aa):Option Int :=
 jp (S:=Unit) (fun _ =>
  some (-1)) fun g =>
 forL c 0 (fun i j s b l =>
  call (H4 j f) fun k =>
  bif k then
   some (i:Int)
  else
  b ()) () (fun _ =>
  g ())
def zX(b:List aa)(c:aa):Option Bool :=
 call (NW b c) fun f =>
 some (decide (0<=f))
def H6(c:al)(b:aa):Option Bool :=
 callG (decide (c.g=b.g)) (Cn c) [] fun f =>
 some ((decide (c.g=b.g))&&(decide (f=b.a)))
def N1(c:List al)(f:aa):Option Int :=
 jp (S:=Unit) (fun _ =>
  some (-1)) fun g =>
 forL c 0 (fun i j s b l =>
  call (H6 j f) fun k =>
  bif k then
   some (i:Int)
  else
  b ()) () (fun _ =>
  g ())
def zT(b:List al)(c:aa):Option Bool :=
 call (N1 b c) fun f =>
 some (decide (0<=f))
def IJ(c:aa)(b:aa):Option Bool :=
 callG (!decide (c.r=b.r)) (uP c b) false fun f =>
 some ((!decide (c.r=b.r))&&f)
def NX(c:List aa)(f:aa):Option Int :=
 jp (S:=Unit) (fun _ =>
  some (-1)) fun g =>
 forL c 0 (fun i j s b l =>
  call (IJ j f) fun k =>
  bif k then
   some (i:Int)
  else
  b ()) () (fun _ =>
  g ())
def zW(b:List aa)(c:aa):Option Bool :=
 call (NX b c) fun f =>
 some (decide (0<=f))
def H9(g:ai)(m:List aa)(c:Int)(i:List ab)(j:List (ev×ae))(k:List (ev×ev))(l:List (ev×ah))(f:List ai):Option (Int×(List (ev×ae))×(List (ev×ev))×(List (ev×ah))×List ai) :=
 eA ((f++[g]).length<=274877906944) <|
 call (yN g i j k l) fun b =>
 bif decide (c=0)then
  some (b.1,b.2.1,b.2.2.1,b.2.2.2,f++[g])
 else
 some (c,b.2.1,b.2.2.1,b.2.2.2,f++[g])
def um(b:Int)(c:ev)(g:List aa)(i:Int)(j:List ab)(l:List (ev×ae))(m:List (ev×ev))(n:List (ev×ah))(k:List ai)(f:List am):Option (List am) :=
 eA ((f++[(am.mk b c)]).length<=274877906944) <|
 some (f++[(am.mk b c)])
def mL(g:ai)(m:List aa)(c:Int)(i:List ab)(j:List (ev×ae))(k:List (ev×ev))(l:List (ev×ah))(f:List ai)(n:List am):Option (Int×(List (ev×ae))×(List (ev×ev))×(List (ev×ah))×List ai) :=
 eA ((f++[g]).length<=274877906944) <|
 call (yN g i j k l) fun b =>
 bif decide (c=0)then
  some (b.1,b.2.1,b.2.2.1,b.2.2.2,f++[g])
 else
 some (c,b.2.1,b.2.2.1,b.2.2.2,f++[g])
def GG(b:aa)(k:List aa)(l:Int)(m:List ab)(v:List (ev×ae))(z:List (ev×ev))(o:List (ev×ah))(p:List ai)(t:List am):Option (Int×(List (ev×ae))×(List (ev×ev))×(List (ev×ah))×List ai) :=
 call (ju b.g) fun B =>
 eL [2,4,6] B fun C =>
 jp (S:=ev×ev×ev) (fun s=>match s with
  |(f,i,j) =>
   call (mL (ai.mk C (ae.mk f [] false) (ab.mk i []) (ah.mk j [] false false)) k l m v z o p t) fun c =>
   some (c.1,c.2.1,c.2.2.1,c.2.2.2.1,c.2.2.2.2)) fun n =>
 call (ju b.g) fun u =>
 bif decide (u=0)then
  n (b.a,[],[])
 else
 bif decide (u=1)then
  n ([],b.a,[])
 else
 n ([],[],b.a)
def GF(c:aa)(o:au)(m:List aa)(b:Int)(k:List ab)(f:List (ev×ae))(i:List (ev×ev))(j:List (ev×ah))(l:List ai)(n:List am):Option (Int×(List (ev×ae))×(List (ev×ev))×(List (ev×ah))×List ai×List am) :=
 call (GL c k f i j) fun t =>
 bif decide (t=3)then
  some (b,f,i,j,l,n)
 else
 jp (S:=Unit) (fun _ =>
  call (GG c m b k f i j l n) fun p =>
  some (p.1,p.2.1,p.2.2.1,p.2.2.2.1,p.2.2.2.2,n)) fun u =>
 bif decide (c.g=2)then
  call (zW m c) fun B =>
  bif B then
   some (b,f,i,j,l,n)
  else
  bif ((decide (t=2))&&(!o.N))then
   call (um 6 c.a m b k f i j l n) fun C =>
   some (b,f,i,j,l,C)
  else
  u ()
 else
 jp (S:=Bool) (fun z =>
  bif z then
   bif ((decide (t=2))&&(!o.O))then
    call (um 6 c.a m b k f i j l n) fun D =>
    some (b,f,i,j,l,D)
   else
   u ()
  else
  u ()) fun v =>
 bif decide (c.g=3)then
  v (decide (c.g=3))
 else
 bif decide (c.g=4)then
  v (decide (c.g=4))
 else
 v (decide (c.g=5))
def IE(b:aa)(f:ev)(c:aa):Option Bool :=
 some (((decide (b.r=f))&&(decide (b.g=c.g)))&&(decide (b.a=c.a)))
def NY(c:List aa)(f:ev)(g:aa):Option Int :=
 jp (S:=Unit) (fun _ =>
  some (-1)) fun i =>
 forL c 0 (fun j k s b m =>
  call (IE k f g) fun l =>
  bif l then
   some (j:Int)
  else
  b ()) () (fun _ =>
  i ())
def H5(g:aa)(b:List aa)(c:ev):Option (aa×Bool) :=
 call (NY b c g) fun f =>
 bif decide (f<0)then
  some ((aa.mk [] 0 [] [] []),false)
 else
 eL b f fun i =>
 some (i,true)
def GI(c:ev)(b:ev):Option (List ev) :=
 call (uT c b (b.length:Int) (-1)) fun f =>
 some f
def yD(c:ev):Option (List ev) :=
 call (GI c ([10]:ev)) fun b =>
 eL b (IntKind.i64.wrap ((b.length:Int)-1)) fun f =>
 bif decide (f=[])then
  eA (0<=IntKind.i64.wrap ((b.length:Int)-1)/\IntKind.i64.wrap ((b.length:Int)-1)<=(b.length:Int)) <|
  some (List.take ((IntKind.i64.wrap ((b.length:Int)-1)).toNat) b)
 else
 some b
def BQ(f:ev)(g:ev):Option Int :=
 jp (S:=Unit) (fun _ =>
  some 0) fun i =>
 forL [f,g] 0 (fun k b s c l =>
  callG (!(decide (65536<(b.length:Int)))) (yD b) [] fun j =>
  bif ((decide (65536<(b.length:Int)))||(decide (1000<(j.length:Int))))then
   some 4
  else
  c ()) () (fun _ =>
  i ())
def Dd(b:List Int):Option (List Int) :=
 us (fun c:Bool=>c=true->b=[]) fun c =>
 bif c then
  some []
 else
 eA (([]++b).length<=274877906944) <|
 some ([]++b)
def Cm(n:List ev)(f:List ev)(c:List Int)(g:Int)(i:List (List Int)):Option Bool :=
 jp (S:=Int) (fun p =>
  eL c (IntKind.i64.wrap ((c.length:Int)-1)) fun t =>
  eL i (IntKind.i64.wrap (t+1)) fun u =>
  eL u p fun v =>
  some (decide (g<=v))) fun z =>
 forL c 0 (fun F j k l G =>
  jp (S:=Int) (fun B =>
   l B) fun C =>
  jp (S:=Int) (fun o =>
   bif decide (o=(f.length:Int))then
    some false
   else
   C (IntKind.i64.wrap (o+1))) fun D =>
  loopN ff (fun b m E =>
   eA ((decide (b<(f.length:Int)))=true->(0<=b/\b<(f.length:Int))) <|
   eA ((decide (b<(f.length:Int)))=true->(0<=j/\j<(n.length:Int))) <|
   bif ((decide (b<(f.length:Int)))&&(!decide ((f.getD b.toNat [])=(n.getD j.toNat []))))then
    m (IntKind.i64.wrap (b+1))
   else
   E b) k (fun b =>
   D b)) 0 (fun k =>
  z k)
def G4(l:List ev)(m:List ev):Option (List ao) :=
 eA (0<=IntKind.i64.wrap ((l.length:Int)+1)/\IntKind.i64.wrap ((l.length:Int)+1)<=IntKind.i64.wrap ((l.length:Int)+1)/\IntKind.i64.wrap ((l.length:Int)+1)<=274877906944) <|
 fK (List.replicate ((IntKind.i64.wrap ((l.length:Int)+1)).toNat) []) fun F =>
 jp (S:=List (List Int)) (fun J =>
  jp (S:=List (List Int)) (fun p =>
   jp (S:=List Int) (fun t =>
    jp (S:=List ao) (fun L =>
     some L) fun T =>
    forC t.length 0 (fun B s M ag =>
     match s with
     |(G,u) =>
      jp (S:=Int×List ao) (fun s=>match s with
       |(U,N) =>
        M (U,N)) fun V =>
      jp (S:=Int) (fun C =>
       eA ((u++[(ao.mk (t.getD B 0) C)]).length<=274877906944) <|
       V (IntKind.i64.wrap (C+1),u++[(ao.mk (t.getD B 0) C)])) fun W =>
      loopN ff (fun z O X =>
       eL m z fun Y =>
       eL l (t.getD B 0) fun Z =>
       bif !decide (Y=Z)then
        O (IntKind.i64.wrap (z+1))
       else
       X z) G (fun z =>
       W z)) (0,[]) (fun s=>match s with
     |(G,u) =>
      T u)) fun a0 =>
   eA (0<=0/\0<(p.length:Int)) <|
   eA (0<=0/\0<((p.getD 0 []).length:Int)) <|
   loopN ff (fun s D a1 =>
    match s with
    |(o,g,k) =>
     bif decide (0<g)then
      call (Dd k) fun I =>
      eA ((I++[o]).length<=274877906944) <|
      call (Cm l m (I++[o]) (IntKind.i64.wrap (g-1)) p) fun a2 =>
      bif a2 then
       eA ((k++[o]).length<=274877906944) <|
       D (IntKind.i64.wrap (o+1),IntKind.i64.wrap (g-1),k++[o])
      else
      D (IntKind.i64.wrap (o+1),g,k)
     else
     a1 (o,g,k)) (0,((p.getD 0 []).getD 0 0),[]) (fun s=>match s with
    |(o,g,k) =>
     a0 k)) fun a3 =>
  loopN ff (fun s P a4 =>
   match s with
   |(b,v) =>
    bif decide (0<=b)then
     jp (S:=List (List Int)) (fun Q =>
      P (IntKind.i64.wrap (b-1),Q)) fun a5 =>
     loopN ff (fun s E a6 =>
      match s with
      |(c,f) =>
       bif decide (0<=c)then
        eA (0<=b/\b<(f.length:Int)) <|
        eA (0<=IntKind.i64.wrap (b+1)/\IntKind.i64.wrap (b+1)<(f.length:Int)) <|
        eA (0<=c/\c<((f.getD ((IntKind.i64.wrap (b+1)).toNat) []).length:Int)) <|
        eA (0<=b/\b<(f.length:Int)) <|
        eA (0<=IntKind.i64.wrap (c+1)/\IntKind.i64.wrap (c+1)<((f.getD b.toNat []).length:Int)) <|
        eA (0<=c/\c<((f.getD b.toNat []).length:Int)) <|
        fK (List.set f b.toNat (List.set (f.getD b.toNat []) c.toNat (max ((f.getD ((IntKind.i64.wrap (b+1)).toNat) []).getD c.toNat 0) ((f.getD b.toNat []).getD ((IntKind.i64.wrap (c+1)).toNat) 0)))) fun j =>
        eL l b fun a7 =>
        eL m c fun a8 =>
        bif decide (a7=a8)then
         eA (0<=b/\b<(j.length:Int)) <|
         eA (0<=b/\b<(j.length:Int)) <|
         eA (0<=c/\c<((j.getD b.toNat []).length:Int)) <|
         eA (0<=IntKind.i64.wrap (b+1)/\IntKind.i64.wrap (b+1)<(j.length:Int)) <|
         eA (0<=IntKind.i64.wrap (c+1)/\IntKind.i64.wrap (c+1)<((j.getD ((IntKind.i64.wrap (b+1)).toNat) []).length:Int)) <|
         eA (0<=c/\c<((j.getD b.toNat []).length:Int)) <|
         fK (List.set j b.toNat (List.set (j.getD b.toNat []) c.toNat (max ((j.getD b.toNat []).getD c.toNat 0) (IntKind.i64.wrap (1+((j.getD ((IntKind.i64.wrap (b+1)).toNat) []).getD ((IntKind.i64.wrap (c+1)).toNat) 0)))))) fun a9 =>
         E (IntKind.i64.wrap (c-1),a9)
        else
        E (IntKind.i64.wrap (c-1),j)
       else
       a6 (c,f)) (IntKind.i64.wrap ((m.length:Int)-1),v) (fun s=>match s with
      |(c,f) =>
       a5 f)
    else
    a4 (b,v)) (IntKind.i64.wrap ((l.length:Int)-1),J) (fun s=>match s with
   |(b,v) =>
    a3 v)) fun ac =>
 loopN ff (fun s R ad =>
  match s with
  |(i,n) =>
   bif decide (i<(F.length:Int))then
    eA (0<=IntKind.i64.wrap ((m.length:Int)+1)/\IntKind.i64.wrap ((m.length:Int)+1)<=IntKind.i64.wrap ((m.length:Int)+1)/\IntKind.i64.wrap ((m.length:Int)+1)<=274877906944) <|
    eA (0<=i/\i<(n.length:Int)) <|
    fK (List.set n i.toNat (List.replicate ((IntKind.i64.wrap ((m.length:Int)+1)).toNat) 0)) fun af =>
    R (IntKind.i64.wrap (i+1),af)
   else
   ad (i,n)) (0,F) (fun s=>match s with
  |(i,n) =>
   ac n)
def IH(c:ao)(b:ao):Option Bool :=
 some (decide (c.M=b.M))
def GR(c:List ao)(f:ao):Option Int :=
 jp (S:=Unit) (fun _ =>
  some (-1)) fun g =>
 forL c 0 (fun i j s b l =>
  call (IH j f) fun k =>
  bif k then
   some (i:Int)
  else
  b ()) () (fun _ =>
  g ())
def uO(b:List ev)(c:ev):Option ev :=
 bif decide ((b.length:Int)=0)then
  some []
 else
 bif decide ((b.length:Int)=1)then
  eL b 0 fun C =>
  some C
 else
 jp (S:=Int) (fun D =>
  jp (S:=Int) (fun E =>
   call (IQ E []) fun F =>
   eL b 0 fun n =>
   call (zp n []) fun o =>
   jp (S:=ev) (fun i =>
    call (zN i) fun p =>
    some p) fun t =>
   eA (0<=1/\1<=(b.length:Int)) <|
   forL (List.drop 1 b) 0 (fun G u f j I =>
    call (zp c f) fun v =>
    call (zp u v.2) fun z =>
    j z.2) o.2 (fun f =>
    t f)) fun B =>
  forL b 0 (fun J l g k L =>
   bif decide ((IntKind.i64.wrap (9223372036854775807-g))<(l.length:Int))then
    none
   else
   k (IntKind.i64.wrap (g+(l.length:Int)))) D (fun g =>
   B g)) fun m =>
 bif decide (0<(c.length:Int))then
  eA (¬ (IntKind.i64.wrap ((b.length:Int)-1))=0) <|
  bif decide ((IntKind.i64.wrap (Int.tdiv 9223372036854775807 (IntKind.i64.wrap ((b.length:Int)-1))))<=(c.length:Int))then
   none
  else
  m (IntKind.i64.wrap (0+(IntKind.i64.wrap ((c.length:Int)*(IntKind.i64.wrap ((b.length:Int)-1))))))
 else
 m 0
def N4(c:ev)(b:ev):Option Bool :=
 eA ((decide ((b.length:Int)<=(c.length:Int)))=true->(0<=IntKind.i64.wrap ((c.length:Int)-(b.length:Int))/\IntKind.i64.wrap ((c.length:Int)-(b.length:Int))<=(c.length:Int))) <|
 some ((decide ((b.length:Int)<=(c.length:Int)))&&(decide ((List.drop ((IntKind.i64.wrap ((c.length:Int)-(b.length:Int))).toNat) c)=b)))
def GN(c:ev)(b:ev):Option Bool :=
 call (N4 c b) fun f =>
 some f
def II(b:ev):Option ev :=
 callG (!decide (b=[])) (GN b ([10]:ev)) false fun c =>
 bif ((!decide (b=[]))&&(!c))then
  eA ((b++([10]:ev)).length<=274877906944) <|
  some (b++([10]:ev))
 else
 some b
def yO(u:Int)(v:Int)(n:Int)(i:List ev)(c:Int)(j:List ev)(f:Int)(k:List ev)(g:Int)(b:ev)(l:Int):Option (ev×Int) :=
 eA (0<=c/\c<=(i.length:Int)/\0<=u/\u<=(i.length:Int)/\c<=u) <|
 call (uO (List.take (u.toNat-c.toNat) (List.drop c.toNat i)) []) fun z =>
 eA (0<=f/\f<=(j.length:Int)/\0<=v/\v<=(j.length:Int)/\f<=v) <|
 call (uO (List.take (v.toNat-f.toNat) (List.drop f.toNat j)) []) fun p =>
 eA (0<=g/\g<=(k.length:Int)/\0<=n/\n<=(k.length:Int)/\g<=n) <|
 call (uO (List.take (n.toNat-g.toNat) (List.drop g.toNat k)) []) fun t =>
 bif decide (p=z)then
  eA ((b++t).length<=274877906944) <|
  some (b++t,l)
 else
 bif ((decide (t=z))||(decide (t=p)))then
  eA ((b++p).length<=274877906944) <|
  some (b++p,l)
 else
 call (II p) fun m =>
 eA ((([60,60,60,60,60,60,60,10]:ev)++m).length<=274877906944) <|
 eA (((([60,60,60,60,60,60,60,10]:ev)++m)++([61,61,61,61,61,61,61,10]:ev)).length<=274877906944) <|
 call (II t) fun o =>
 eA ((((([60,60,60,60,60,60,60,10]:ev)++m)++([61,61,61,61,61,61,61,10]:ev))++o).length<=274877906944) <|
 eA (((((([60,60,60,60,60,60,60,10]:ev)++m)++([61,61,61,61,61,61,61,10]:ev))++o)++([62,62,62,62,62,62,62,10]:ev)).length<=274877906944) <|
 eA ((b++((((([60,60,60,60,60,60,60,10]:ev)++m)++([61,61,61,61,61,61,61,10]:ev))++o)++([62,62,62,62,62,62,62,10]:ev))).length<=274877906944) <|
 some (b++((((([60,60,60,60,60,60,60,10]:ev)++m)++([61,61,61,61,61,61,61,10]:ev))++o)++([62,62,62,62,62,62,62,10]:ev)),IntKind.i64.wrap (l+1))
def CU(j:ev)(D:ev)(E:ev):Option (ev×Int×Int) :=
 call (BQ j D) fun O =>
 call (BQ j E) fun P =>
 call (ig [O,P]) fun F =>
 bif !decide (F=0)then
  some ([],0,F)
 else
 call (yD j) fun k =>
 call (yD D) fun o =>
 call (yD E) fun p =>
 call (G4 k o) fun Q =>
 call (G4 k p) fun G =>
 jp (S:=ev×Int×Int×Int×Int) (fun s=>match s with
  |(u,v,z,B,C) =>
   call (yO (k.length:Int) (o.length:Int) (p.length:Int) k z o B p C u v) fun m =>
   bif decide (65536<(m.1.length:Int))then
    some ([],0,4)
   else
   some (m.1,m.2,0)) fun R =>
 forL Q 0 (fun T l s t U =>
  match s with
  |(b,c,f,g,i) =>
   call (GR G l) fun I =>
   bif decide (I<0)then
    t (b,c,f,g,i)
   else
   eL G I fun J =>
   call (yO l.M l.L J.L k f o g p i b c) fun n =>
   eL k l.M fun N =>
   eA ((n.1++N).length<=274877906944) <|
   t (n.1++N,n.2,IntKind.i64.wrap (l.M+1),IntKind.i64.wrap (l.L+1),IntKind.i64.wrap (J.L+1))) ([],0,0,0,0) (fun s=>match s with
  |(b,c,f,g,i) =>
   R (b,c,f,g,i))
def IR(b:al)(f:ae):Option Bool :=
 call (ju b.g) fun c =>
 callG (decide (c=0)) (Cn b) [] fun i =>
 some ((decide (c=0))&&(decide (i=f.a)))
def N2(c:List al)(f:ae):Option Int :=
 jp (S:=Unit) (fun _ =>
  some (-1)) fun g =>
 forL c 0 (fun i j s b l =>
  call (IR j f) fun k =>
  bif k then
   some (i:Int)
  else
  b ()) () (fun _ =>
  g ())
def zS(b:List al)(c:ae):Option Bool :=
 call (N2 b c) fun f =>
 some (decide (0<=f))
def C7(g:List aa)(c:Int)(i:List ab)(f:List (ev×ae))(l:List (ev×ev))(m:List (ev×ah))(n:List ai)(B:List am)(u:ev)(G:Int)(b:ev)(j:ev)(k:Bool)(I:ev)(J:ev)(L:ev)(M:ev)(N:Bool)(O:Bool)(p:List al):Option (Int×(List (ev×ae))×(List (ev×ev))×(List (ev×ah))×List ai×List am) :=
 call (um 4 u g c i f l m n B) fun t =>
 eA ((b++([46,110,101,119]:ev)).length<=274877906944) <|
 call (uJ (b++([46,110,101,119]:ev))) fun v =>
 callG (!(!v)) (zS p (ae.mk (b++([46,110,101,119]:ev)) j k)) false fun D =>
 bif ((!v)||D)then
  some (c,f,l,m,n,t)
 else
 jp (S:=Unit) (fun _ =>
  call (mL (ai.mk 1 (ae.mk (b++([46,110,101,119]:ev)) j k) (ab.mk [] []) (ah.mk [] [] false false)) g c i f l m n t) fun o =>
  some (o.1,o.2.1,o.2.2.1,o.2.2.2.1,o.2.2.2.2,t)) fun E =>
 forM (fun z s C P =>
  callG (!(decide (z.1=(b++([46,110,101,119]:ev))))) (uE z.1 (b++([46,110,101,119]:ev))) false fun F =>
  bif ((decide (z.1=(b++([46,110,101,119]:ev))))||F)then
   some (c,f,l,m,n,t)
  else
  C ()) f.length f () (fun _ =>
  E ())
def IG(b:al)(M:al)(F:Bool)(N:Bool)(D:aa)(m:Bool)(O:List al)(c:List aa)(f:Int)(i:List ab)(t:List (ev×ae))(v:List (ev×ev))(n:List (ev×ah))(o:List ai)(k:List am):Option (Int×(List (ev×ae))×(List (ev×ev))×(List (ev×ah))×List ai×List am) :=
 bif !F then
  call (yA b) fun P =>
  call (mL P c f i t v n o k) fun l =>
  bif m then
   call (um 2 b.j.a c l.1 i l.2.1 l.2.2.1 l.2.2.2.1 l.2.2.2.2 k) fun Q =>
   some (l.1,l.2.1,l.2.2.1,l.2.2.2.1,l.2.2.2.2,Q)
  else
  some (l.1,l.2.1,l.2.2.1,l.2.2.2.1,l.2.2.2.2,k)
 else
 bif N then
  some (f,t,v,n,o,k)
 else
 callG m (ua M) [] fun R =>
 bif (m&&(decide (R=D.y)))then
  call (yA b) fun S =>
  call (mL S c f i t v n o k) fun E =>
  some (E.1,E.2.1,E.2.2.1,E.2.2.2.1,E.2.2.2.2,k)
 else
 bif (m&&(decide (b.j.G=D.A)))then
  some (f,t,v,n,o,k)
 else
 bif m then
  call (CU D.A M.j.G b.j.G) fun L =>
  bif ((!decide (L.2.2=0))||(decide (0<L.2.1)))then
   call (C7 c f i t v n o k b.j.a b.g b.j.a b.j.G b.j.H b.x.u b.x.Value b.h.C b.h.a b.h.I b.h.J O) fun z =>
   some (z.1,z.2.1,z.2.2.1,z.2.2.2.1,z.2.2.2.2.1,z.2.2.2.2.2)
  else
  call (mL (ai.mk 1 (ae.mk b.j.a L.1 b.j.H) (ab.mk [] []) (ah.mk [] [] false false)) c f i t v n o k) fun p =>
  call (um 3 b.j.a c p.1 i p.2.1 p.2.2.1 p.2.2.2.1 p.2.2.2.2 k) fun T =>
  some (p.1,p.2.1,p.2.2.1,p.2.2.2.1,p.2.2.2.2,T)
 else
 call (C7 c f i t v n o k b.j.a b.g b.j.a b.j.G b.j.H b.x.u b.x.Value b.h.C b.h.a b.h.I b.h.J O) fun B =>
 some (B.1,B.2.1,B.2.2.1,B.2.2.2.1,B.2.2.2.2.1,B.2.2.2.2.2)
def IC(t:al)(u:aa)(B:aa)(p:Bool)(P:List al)(n:List aa)(b:Int)(c:List ab)(i:List (ev×ae))(k:List (ev×ev))(l:List (ev×ah))(o:List ai)(m:List am):Option (Int×(List (ev×ae))×(List (ev×ev))×(List (ev×ah))×List ai×List am) :=
 call (BW u c i k l) fun f =>
 callG f.2 (ua f.1) [] fun G =>
 call (yA t) fun z =>
 jp (S:=Bool) (fun N =>
  bif N then
   bif (f.2&&(decide (G=u.y)))then
    some (b,i,k,l,o,m)
   else
   jp (S:=List am) (fun M =>
    call (mL (ai.mk z.g z.j z.x (ah.mk z.h.C z.h.a z.h.I (((decide (t.g=6))&&f.2)&&f.1.h.J))) n b c i k l o M) fun D =>
    some (D.1,D.2.1,D.2.2.1,D.2.2.2.1,D.2.2.2.2,M)) fun O =>
   callG (p&&f.2) (ua f.1) [] fun Q =>
   bif ((p&&f.2)&&(!decide (Q=B.y)))then
    call (um 1 u.a n b c i k l o m) fun R =>
    O R
   else
   O m
  else
  bif decide (t.g=4)then
   bif !f.2 then
    call (mL z n b c i k l o m) fun E =>
    some (E.1,E.2.1,E.2.2.1,E.2.2.2.1,E.2.2.2.2,m)
   else
   some (b,i,k,l,o,m)
  else
  bif decide (t.g=5)then
   callG ((!(!f.2))&&p) (ua f.1) [] fun T =>
   bif ((!f.2)||((p&&(decide (T=B.y)))&&(!(f.2&&(decide (G=u.y))))))then
    call (mL z n b c i k l o m) fun F =>
    some (F.1,F.2.1,F.2.2.1,F.2.2.2.1,F.2.2.2.2,m)
   else
   bif !(f.2&&(decide (G=u.y)))then
    call (um 5 u.a n b c i k l o m) fun U =>
    some (b,i,k,l,o,U)
   else
   some (b,i,k,l,o,m)
  else
  bif decide (t.g=3)then
   call (IG t f.1 f.2 (f.2&&(decide (G=u.y))) B p P n b c i k l o m) fun v =>
   some (v.1,v.2.1,v.2.2.1,v.2.2.2.1,v.2.2.2.2.1,v.2.2.2.2.2)
  else
  some (b,i,k,l,o,m)) fun L =>
 bif decide (t.g=1)then
  L (decide (t.g=1))
 else
 bif decide (t.g=2)then
  L (decide (t.g=2))
 else
 L (decide (t.g=6))
def De(o0:List aa):Option (List aa):=us (fun l'=>l'.Perm o0/\l'.Pairwise (fun x y=>¬ gR y.r y.g y.a x.r x.g x.a<0)) some
def IK(j:ev)(k:List aa)(g:Int)(u:List ab)(v:List (ev×ae))(z:List (ev×ev))(B:List (ev×ah))(c:List ai)(f:List am)(n:List aa):Option (ap×Int×List ai×List am×List aa) :=
 bif !decide (g=0)then
  some ((ap.mk [] (aj.mk []) []),g,c,f,[])
 else
 jp (S:=List aa) (fun o =>
  call (De o) fun i =>
  call (pt (aj.mk i)) fun p =>
  bif !decide (p=0)then
   some ((ap.mk [] (aj.mk []) []),p,c,f,i)
  else
  some ((ap.mk c (aj.mk i) f),0,c,f,i)) fun t =>
 forL k 0 (fun C l b m D =>
  bif !decide (l.r=j)then
   eA ((b++[l]).length<=274877906944) <|
   m (b++[l])
  else
  m b) n (fun b =>
  t b)
def GZ(Q:ak)(f:aj)(b:ev)(E:List al)(F:au):Option (ap×Int) :=
 call (yu Q) fun af =>
 call (pt f) fun ag =>
 call (qO b) fun an =>
 call (ic (!an) 5) fun av =>
 call (ig [af,ag,av]) fun R =>
 jp (S:=Int) (fun T =>
  bif !decide (T=0)then
   some ((ap.mk [] (aj.mk []) []),T)
  else
  call (yE Q) fun i =>
  jp (S:=Unit) (fun _ =>
   jp (S:=(List (ev×ae))×(List (ev×ev))×(List (ev×ah))×Int×List ai×List am) (fun s=>match s with
    |(a5,a6,a7,G,U,V) =>
     jp (S:=(List (ev×ae))×(List (ev×ev))×(List (ev×ah))×Int×List ai×List am×List aa) (fun s=>match s with
      |(a8,a9,ac,I,W,X,Y) =>
       call (IK b f.q I i.2.2.2 a8 a9 ac W X Y) fun Z =>
       some (Z.1,Z.2.1)) fun aw =>
     forL E 0 (fun aD a0 s ad aE =>
      match s with
      |(B,C,D,j,t,u,m) =>
       call (uG b a0) fun L =>
       eA ((m++[L]).length<=274877906944) <|
       call (H5 L f.q b) fun a1 =>
       call (IC a0 L a1.1 a1.2 E f.q j i.2.2.2 B C D t u) fun v =>
       ad (v.2.1,v.2.2.1,v.2.2.2.1,v.1,v.2.2.2.2.1,v.2.2.2.2.2,m++[L])) (a5,a6,a7,G,U,V,[]) (fun s=>match s with
      |(B,C,D,j,t,u,m) =>
       aw (B,C,D,j,t,u,m))) fun ay =>
   forL f.q 0 (fun aF M s O aG =>
    match s with
    |(n,o,p,c,k,l) =>
     callG (decide (M.r=b)) (zT E M) false fun az =>
     bif ((decide (M.r=b))&&(!az))then
      call (GF M F f.q c i.2.2.2 n o p k l) fun z =>
      O (z.2.1,z.2.2.1,z.2.2.2.1,z.1,z.2.2.2.2.1,z.2.2.2.2.2)
     else
     O (n,o,p,c,k,l)) (i.1,i.2.1,i.2.2.1,0,[],[]) (fun s=>match s with
    |(n,o,p,c,k,l) =>
     ay (n,o,p,c,k,l))) fun aA =>
  forL E 0 (fun aH J s P aI =>
   call (uG b J) fun a2 =>
   bif (((!decide (J.g=1))&&(!decide (J.g=2)))||F.N)then
    P ()
   else
   call (GL a2 i.2.2.2 i.1 i.2.1 i.2.2.1) fun a3 =>
   callG (decide (a3=2)) (zX f.q a2) false fun aB =>
   bif ((decide (a3=2))&&(!aB))then
    some ((ap.mk [] (aj.mk []) []),11)
   else
   P ()) () (fun _ =>
   aA ())) fun a4 =>
 bif decide (R=0)then
  call (H7 f b E) fun aC =>
  a4 aC
 else
 a4 R
def IF(c:aa)(b:ev):Option Bool :=
 some (decide (c.r=b))
def NZ(c:List aa)(f:ev):Option Int :=
 jp (S:=Unit) (fun _ =>
  some (-1)) fun g =>
 forL c 0 (fun i j s b l =>
  call (IF j f) fun k =>
  bif k then
   some (i:Int)
  else
  b ()) () (fun _ =>
  g ())
def zV(b:List aa)(c:ev):Option Bool :=
 call (NZ b c) fun f =>
 some (decide (0<=f))
def IL(j:ev)(k:List aa)(g:Int)(t:List ab)(u:List (ev×ae))(v:List (ev×ev))(z:List (ev×ah))(c:List ai)(f:List am):Option (ap×Int×List ai×List am×List aa) :=
 bif !decide (g=0)then
  some ((ap.mk [] (aj.mk []) []),g,c,f,[])
 else
 jp (S:=List aa) (fun n =>
  call (De n) fun i =>
  call (pt (aj.mk i)) fun o =>
  bif !decide (o=0)then
   some ((ap.mk [] (aj.mk []) []),o,c,f,i)
  else
  some ((ap.mk c (aj.mk i) f),0,c,f,i)) fun p =>
 forL k 0 (fun B l b m C =>
  bif !decide (l.r=j)then
   eA ((b++[l]).length<=274877906944) <|
   m (b++[l])
  else
  m b) [] (fun b =>
  p b)
def HM(u:ak)(i:aj)(b:ev)(v:au):Option (ap×Int) :=
 call (yu u) fun L =>
 call (pt i) fun M =>
 call (qO b) fun N =>
 call (ic (!N) 5) fun O =>
 call (ig [L,M,O]) fun o =>
 jp (S:=Int) (fun z =>
  bif !decide (z=0)then
   some ((ap.mk [] (aj.mk []) []),z)
  else
  call (yE u) fun n =>
  jp (S:=(List (ev×ae))×(List (ev×ev))×(List (ev×ah))×Int×List ai×List am) (fun s=>match s with
   |(G,I,J,p,B,C) =>
    call (IL b i.q p n.2.2.2 G I J B C) fun D =>
    some (D.1,D.2.1)) fun P =>
  forL i.q 0 (fun R E s t T =>
   match s with
   |(k,l,m,c,g,f) =>
    bif decide (E.r=b)then
     call (GF E v i.q c n.2.2.2 k l m g f) fun j =>
     t (j.2.1,j.2.2.1,j.2.2.2.1,j.1,j.2.2.2.2.1,j.2.2.2.2.2)
    else
    t (k,l,m,c,g,f)) (n.1,n.2.1,n.2.2.1,0,[],[]) (fun s=>match s with
   |(k,l,m,c,g,f) =>
    P (k,l,m,c,g,f))) fun F =>
 callG (decide (o=0)) (zV i.q b) false fun Q =>
 bif ((decide (o=0))&&(!Q))then
  F 10
 else
 F o
def Ip(c:aa)(b:ev):Option Bool :=
 some (decide (c.r=b))
def N0(c:List aa)(f:ev):Option Int :=
 jp (S:=Unit) (fun _ =>
  some (-1)) fun g =>
 forL c 0 (fun i j s b l =>
  call (Ip j f) fun k =>
  bif k then
   some (i:Int)
  else
  b ()) () (fun _ =>
  g ())
def zU(b:List aa)(c:ev):Option Bool :=
 call (N0 b c) fun f =>
 some (decide (0<=f))
def Iq(b:aa)(f:ev)(c:aa):Option Bool :=
 some (((decide (b.r=f))&&(decide (b.g=c.g)))&&(decide (b.a=c.a)))
def IZ(c:List aa)(f:ev)(g:aa):Option Int :=
 jp (S:=Unit) (fun _ =>
  some (-1)) fun i =>
 forL c 0 (fun j k s b m =>
  call (Iq k f g) fun l =>
  bif l then
   some (j:Int)
  else
  b ()) () (fun _ =>
  i ())
def F1(b:Int):Option Bool :=
 some (((decide (b=1))||(decide (b=2)))||(decide (b=6)))
def Hl(E:ak)(i:aj)(b:ev)(P:List al):Option (ap×Int) :=
 call (yu E) fun Q =>
 call (pt i) fun R =>
 call (qO b) fun T =>
 call (ic (!T) 5) fun U =>
 call (ig [Q,R,U]) fun B =>
 jp (S:=Int) (fun F =>
  bif !decide (F=0)then
   some ((ap.mk [] (aj.mk []) []),F)
  else
  call (yE E) fun u =>
  jp (S:=(List (ev×ae))×(List (ev×ev))×(List (ev×ah))×Int×List ai) (fun s=>match s with
   |(Z,a0,a1,n,G) =>
    bif !decide (n=0)then
     some ((ap.mk [] (aj.mk []) []),n)
    else
    some ((ap.mk G i []),0)) fun V =>
  forL P 0 (fun a2 v s D a3 =>
   match s with
   |(k,l,m,c,f) =>
    call (CY v) fun L =>
    bif !decide (L=0)then
     some ((ap.mk [] (aj.mk []) []),L)
    else
    call (uG b v) fun t =>
    call (IZ i.q b t) fun M =>
    bif decide (M<0)then
     some ((ap.mk [] (aj.mk []) []),10)
    else
    eL i.q M fun W =>
    bif !decide (W.y=t.y)then
     some ((ap.mk [] (aj.mk []) []),14)
    else
    call (BW t u.2.2.2 k l m) fun o =>
    callG (!(!o.2)) (F1 v.g) false fun N =>
    callG ((!(!o.2))&&N) (ua o.1) [] fun X =>
    bif ((!o.2)||(N&&(!decide (X=t.y))))then
     call (yA v) fun p =>
     call (H9 (ai.mk p.g p.j p.x (ah.mk p.h.C p.h.a p.h.I (((decide (v.g=6))&&o.2)&&o.1.h.J))) i.q c u.2.2.2 k l m f) fun z =>
     D (z.2.1,z.2.2.1,z.2.2.2.1,z.1,z.2.2.2.2)
    else
    D (k,l,m,c,f)) (u.1,u.2.1,u.2.2.1,0,[]) (fun s=>match s with
   |(k,l,m,c,f) =>
    V (k,l,m,c,f))) fun O =>
 callG (decide (B=0)) (zU i.q b) false fun Y =>
 bif ((decide (B=0))&&(!Y))then
  O 10
 else
 O B
def IX(b:List aa):Option (List aa) :=
 us (fun c:Bool=>c=true->b=[]) fun c =>
 bif c then
  some []
 else
 eA (([]++b).length<=274877906944) <|
 some ([]++b)
def BO(c:aa)(b:ev)(f:ev)(g:Int)(i:ev)(j:ev)(k:ev):Option Bool :=
 callG (decide (c.r=b)) (uP c (aa.mk f g i j k)) false fun l =>
 some ((decide (c.r=b))&&l)
def zO(c:List aa)(f:ev)(g:ev)(i:Int)(j:ev)(k:ev)(l:ev):Option Int :=
 jp (S:=Unit) (fun _ =>
  some (-1)) fun p =>
 loopN ff (fun b m n =>
  bif decide (b<((List.take c.length c).length:Int))then
   eA (0<=b/\b<(c.length:Int)) <|
   call (BO (c.getD (b.toNat:Nat) (aa.mk [] 0 [] [] [])) f g i j k l) fun o =>
   bif o then
    some b
   else
   m (IntKind.i64.wrap (b+1))
  else
  n b) 0 (fun b =>
  p ())
def zZ(b:List aa)(m:ev)(n:ev)(o:Int)(j:ev)(k:ev)(l:ev):Option (Nat×List aa) :=
 call (zO b m n o j k l) fun u =>
 bif decide (u=(-1))then
  some (b.length,b)
 else
 jp (S:=Int×List aa) (fun s=>match s with
  |(g,p) =>
   eA (0<=g/\g<=(b.length:Int)) <|
   eA (0<=g/\g<=(b.length:Int)) <|
   some (g.toNat,List.take g.toNat p++List.replicate (b.length-g.toNat) (aa.mk [] 0 [] [] [])++List.drop (g.toNat+(b.length-g.toNat)) p)) fun v =>
 loopN ff (fun s t z =>
  match s with
  |(i,f,c) =>
   bif decide (f<((List.take b.length c).length:Int))then
    eA (0<=f/\f<(b.length:Int)) <|
    eA (f.toNat<c.length) <|
    call (BO (c.getD (f.toNat:Nat) (aa.mk [] 0 [] [] [])) m n o j k l) fun B =>
    bif !B then
     eA (0<=i/\i<(b.length:Int)) <|
     eA (i.toNat<c.length) <|
     t (IntKind.i64.wrap (i+1),IntKind.i64.wrap (f+1),List.set c (i.toNat:Nat) (c.getD (f.toNat:Nat) (aa.mk [] 0 [] [] [])))
    else
    t (i,IntKind.i64.wrap (f+1),c)
   else
   z (i,f,c)) (u,IntKind.i64.wrap (u+1),b) (fun s=>match s with
  |(i,f,c) =>
   v (i,c))
def GY(m:ak)(j:aj)(b:ev)(n:List al):Option (aj×Int) :=
 call (yu m) fun J =>
 call (pt j) fun L =>
 call (qO b) fun M =>
 call (ic (!M) 5) fun N =>
 call (ig [J,L,N]) fun o =>
 bif !decide (o=0)then
  some ((aj.mk []),o)
 else
 call (yE m) fun k =>
 call (IX j.q) fun O =>
 jp (S:=List aa) (fun D =>
  call (De D) fun p =>
  call (pt (aj.mk p)) fun t =>
  bif !decide (t=0)then
   some ((aj.mk []),t)
  else
  some ((aj.mk p),0)) fun P =>
 forL n 0 (fun u v f E Z =>
  jp (S:=List aa) (fun F =>
   E F) fun Q =>
  call (CY v) fun z =>
  bif !decide (z=0)then
   some ((aj.mk []),z)
  else
  call (uG b v) fun c =>
  jp (S:=Unit) (fun _ =>
   jp (S:=Unit) (fun _ =>
    call (BW c k.2.2.2 k.1 k.2.1 k.2.2.1) fun B =>
    bif !B.2 then
     some ((aj.mk []),10)
    else
    call (F1 v.g) fun C =>
    callG C (ua B.1) [] fun R =>
    bif (C&&(!decide (R=c.y)))then
     some ((aj.mk []),14)
    else
    call (zZ f b c.r c.g c.a c.y c.A) fun l =>
    eA (((List.take l.1 l.2)++[c]).length<=274877906944) <|
    Q ((List.take l.1 l.2)++[c])) fun T =>
   forL j.q 0 (fun a0 i s G a1 =>
    callG (!decide (i.r=b)) (uP i c) false fun U =>
    bif (((!decide (i.r=b))&&U)&&(((!decide (i.g=2))||(!decide (c.g=2)))||(!decide (i.y=c.y))))then
     some ((aj.mk []),11)
    else
    G ()) () (fun _ =>
    T ())) fun V =>
  eA (0<=(u:Int)/\(u:Int)<=(n.length:Int)) <|
  forL (List.take u n) 0 (fun a2 W s I a3 =>
   call (uG b W) fun X =>
   call (uP X c) fun Y =>
   bif Y then
    some ((aj.mk []),6)
   else
   I ()) () (fun _ =>
   V ())) O (fun f =>
  P f)
def HL(I:ak)(N:List ax):Option (ak×aj) :=
 jp (S:=List ab×List ae×List ab×List ah×List aa) (fun s=>match s with
  |(V,W,X,Y,Z) =>
   some ((ak.mk V W X Y),(aj.mk Z))) fun a9 =>
 eA (0<=min (N.length:Int) 12/\min (N.length:Int) 12<=(N.length:Int)) <|
 forL (List.take ((min (N.length:Int) 12).toNat) N) 0 (fun ag k s a8 an =>
  match s with
  |(b,c,f,i,j) =>
   jp (S:=List ab×List ae×List ab×List ah×List aa) (fun s=>match s with
    |(a0,a1,a2,a3,a4) =>
     a8 (a0,a1,a2,a3,a4)) fun P =>
   jp (S:=Int×List ab×List ae×List ab×List ah×List aa×List ai×List aa×List am) (fun s=>match s with
    |(ac,p,t,u,v,G,a5,a6,af) =>
     bif decide (ac=0)then
      call (BA (ak.mk p t u v) a5) fun O =>
      bif decide (O.2=0)then
       P (O.1.F,O.1.B,O.1.E,O.1.D,a6)
      else
      P (p,t,u,v,G)
     else
     P (p,t,u,v,G)) fun z =>
   bif decide (k.g=0)then
    call (GZ (ak.mk b c f i) (aj.mk j) k.r k.T k.U) fun J =>
    z (J.2,b,c,f,i,j,J.1.K,J.1.R.q,J.1.S)
   else
   bif decide (k.g=1)then
    call (HM (ak.mk b c f i) (aj.mk j) k.r k.U) fun L =>
    z (L.2,b,c,f,i,j,L.1.K,L.1.R.q,L.1.S)
   else
   bif decide (k.g=2)then
    forL k.K 0 (fun av ad s Q aw =>
     match s with
     |(l,m,n,o) =>
      call (BA (ak.mk l m n o) [ad]) fun C =>
      bif decide (C.2=0)then
       Q (C.1.F,C.1.B,C.1.E,C.1.D)
      else
      Q (l,m,n,o)) (b,c,f,i) (fun s=>match s with
     |(l,m,n,o) =>
      z (10,l,m,n,o,j,[],[],[]))
   else
   bif decide (k.g=3)then
    call (Hl (ak.mk b c f i) (aj.mk j) k.r k.T) fun M =>
    z (M.2,b,c,f,i,j,M.1.K,M.1.R.q,M.1.S)
   else
   bif decide (k.g=4)then
    call (GY (ak.mk b c f i) (aj.mk j) k.r k.T) fun a7 =>
    bif decide (a7.2=0)then
     z (10,b,c,f,i,a7.1.q,[],[],[])
    else
    z (10,b,c,f,i,j,[],[],[])
   else
   z (10,b,c,f,i,j,[],[],[])) (I.F,I.B,I.E,I.D,[]) (fun s=>match s with
  |(b,c,f,i,j) =>
   a9 (b,c,f,i,j))
def Nr(b:Int):Option Bool :=
 some ((decide (1<=b))&&(decide (b<=6)))
def Nu(b:Int):Option Bool :=
 call (BU b) fun c =>
 callG (!(c||((decide (65<=b))&&(decide (b<=90))))) (Gu b) false fun f =>
 some (((((c||((decide (65<=b))&&(decide (b<=90))))||f)||(decide (b=45)))||(decide (b=46)))||(decide (b=95)))
def NA(b:ev)(c:Int):Option Bool :=
 jp (S:=Unit) (fun _ =>
  some ((!decide (b=[]))&&(decide ((b.length:Int)<=c)))) fun g =>
 forL b 0 (fun k i s f l =>
  call (Nu (i.toNat:Int)) fun j =>
  bif !j then
   some false
  else
  f ()) () (fun _ =>
  g ())
def HQ(b:ev):Option Bool :=
 call (NA b 40) fun c =>
 some ((c&&(!decide (b=([46]:ev))))&&(!decide (b=([46,46]:ev))))
def HP(b:ev):Option Bool :=
 jp (S:=Unit) (fun _ =>
  some (decide ((b.length:Int)<=200))) fun f =>
 call (C5 b ([47]:ev)) fun g =>
 forL g 0 (fun k i s c l =>
  call (HQ i) fun j =>
  bif !j then
   some false
  else
  c ()) () (fun _ =>
  f ())
def HZ(c:ev):Option Bool :=
 jp (S:=Unit) (fun _ =>
  some (decide ((c.length:Int)=16))) fun g =>
 forL c 0 (fun i b s f j =>
  bif !(((decide (48<=(b.toNat:Int)))&&(decide ((b.toNat:Int)<=57)))||((decide (97<=(b.toNat:Int)))&&(decide ((b.toNat:Int)<=102))))then
   some false
  else
  f ()) () (fun _ =>
  g ())
def Gj(f:ev):Option ev :=
 jp (S:=Int) (fun o =>
  jp (S:=List Int) (fun j =>
   some (Go.Vc.strOf j)) fun p =>
  loopN ff (fun s k t =>
   match s with
   |(b,c) =>
    bif decide (b<((List.replicate 16 0).length:Int))then
     eA (0<=(IntKind.i64.wrap (60-(IntKind.i64.wrap (4*b))))) <|
     fI ([48,49,50,51,52,53,54,55,56,57,97,98,99,100,101,102]:ev) (fl .and .u64 (Int.fdiv o (2^(fA .u64 (IntKind.i64.wrap (60-(IntKind.i64.wrap (4*b))))))) 15) fun l =>
     eA (0<=b/\b<(c.length:Int)) <|
     k (IntKind.i64.wrap (b+1),List.set c b.toNat l)
    else
    t (b,c)) (0,List.replicate 16 0) (fun s=>match s with
   |(b,c) =>
    p c)) fun m =>
 forL f 0 (fun u n g i v =>
  i (IntKind.u64.wrap ((fl .xor .u64 g (IntKind.u64.wrap (n.toNat:Int)))*1099511628211))) 14695981039346656037 (fun g =>
  m g)
def Iz(b:aa):Option Int :=
 call (CT b.r) fun i =>
 bif !i then
  some 5
 else
 call (Nr b.g) fun j =>
 bif !j then
  some 1
 else
 callG (decide (b.g=6)) (CT b.a) false fun f =>
 callG ((!((decide (b.g=6))&&(!f)))&&(!decide (b.g=6))) (HP b.a) false fun k =>
 bif (((decide (b.g=6))&&(!f))||((!decide (b.g=6))&&(!k)))then
  some 5
 else
 call (HZ b.y) fun l =>
 bif ((!l)||((!decide (b.A=[]))&&(!decide (b.g=3))))then
  some 2
 else
 eA ((decide (b.g=3))=true->(([114]:ev)++b.A).length<=274877906944) <|
 callG (decide (b.g=3)) (Gj (([114]:ev)++b.A)) [] fun c =>
 eA (((decide (b.g=3))&&(!decide (b.y=c)))=true->(([45]:ev)++b.A).length<=274877906944) <|
 callG ((decide (b.g=3))&&(!decide (b.y=c))) (Gj (([45]:ev)++b.A)) [] fun m =>
 bif (((decide (b.g=3))&&(!decide (b.y=c)))&&(!decide (b.y=m)))then
  some 2
 else
 some 0
def Ib(b:Int):Option Int :=
 bif decide (b=5)then
  some 2
 else
 bif decide (b=6)then
  some 3
 else
 some 1
def B0(b:aa):Option aq :=
 call (Ib b.g) fun c =>
 some (aq.mk c b.a)
def GM(f:aa)(g:aa):Option Int :=
 call (uS f.r g.r) fun i =>
 bif !decide (i=0)then
  some i
 else
 call (B0 f) fun b =>
 call (B0 g) fun c =>
 bif !decide (b.Q=c.Q)then
  some (IntKind.i64.wrap (b.Q-c.Q))
 else
 call (uS b.P c.P) fun j =>
 some j
def Nh(b:aa)(c:aa):Option Bool :=
 some (((decide (b.g=2))&&(decide (c.g=2)))&&(decide (b.y=c.y)))
def Gl(c:aj):Option Int :=
 bif decide (5000<(c.q.length:Int))then
  some 4
 else
 jp (S:=Unit) (fun _ =>
  jp (S:=Unit) (fun _ =>
   some 0) fun z =>
  forL c.q 0 (fun B i f k C =>
   call (B0 i) fun p =>
   fK (eG f p) fun j =>
   callG j.isSome (Nh (j.getD (aa.mk [] 0 [] [] [])) i) false fun t =>
   bif (j.isSome&&(!t))then
    some 11
   else
   call (B0 i) fun m =>
   eA ((eM f m i).length<=274877906944) <|
   k (eM f m i)) [] (fun f =>
   z ())) fun u =>
 forL c.q 0 (fun b n s l D =>
  call (Iz n) fun o =>
  bif !decide (o=0)then
   some o
  else
  eA ((decide (0<(b:Int)))=true->(0<=IntKind.i64.wrap ((b:Int)-1)/\IntKind.i64.wrap ((b:Int)-1)<(c.q.length:Int))) <|
  callG (decide (0<(b:Int))) (GM (aa.mk ((c.q.getD ((IntKind.i64.wrap ((b:Int)-1)).toNat) (aa.mk [] 0 [] [] [])).r) ((c.q.getD ((IntKind.i64.wrap ((b:Int)-1)).toNat) (aa.mk [] 0 [] [] [])).g) ((c.q.getD ((IntKind.i64.wrap ((b:Int)-1)).toNat) (aa.mk [] 0 [] [] [])).a) ((c.q.getD ((IntKind.i64.wrap ((b:Int)-1)).toNat) (aa.mk [] 0 [] [] [])).y) ((c.q.getD ((IntKind.i64.wrap ((b:Int)-1)).toNat) (aa.mk [] 0 [] [] [])).A)) n) 0 fun v =>
  bif ((decide (0<(b:Int)))&&(decide (0<=v)))then
   some 7
  else
  l ()) () (fun _ =>
  u ())
def IA :Option (List ev) :=
 some [[],([112,114,111,103,114,97,109]:ev),([115,104,97,114,101,100]:ev),([116,101,120,116]:ev),([100,97,116,97]:ev),([115,101,116,116,105,110,103]:ev),([115,101,114,118,105,99,101]:ev)]
def HW(g:ev):Option ev :=
 eA (0<=0/\0<=IntKind.i64.wrap ((g.length:Int)+2)/\IntKind.i64.wrap ((g.length:Int)+2)<=274877906944) <|
 eA (((List.replicate 0 0)++[34]).length<=274877906944) <|
 jp (S:=List Int) (fun i =>
  eA ((i++[34]).length<=274877906944) <|
  some (Go.Vc.strOf (i++[34]))) fun l =>
 forL g 0 (fun n c b f m =>
  bif ((decide ((c.toNat:Int)=92))||(decide ((c.toNat:Int)=34)))then
   eA ((b++[92,(c.toNat:Int)]).length<=274877906944) <|
   f (b++[92,(c.toNat:Int)])
  else
  bif decide ((c.toNat:Int)=10)then
   eA ((b++[92,110]).length<=274877906944) <|
   f (b++[92,110])
  else
  bif ((decide ((c.toNat:Int)<32))||(decide (126<(c.toNat:Int))))then
   fI ([48,49,50,51,52,53,54,55,56,57,97,98,99,100,101,102]:ev) (Int.fdiv (c.toNat:Int) (2^(fA .u8 4))) fun j =>
   fI ([48,49,50,51,52,53,54,55,56,57,97,98,99,100,101,102]:ev) (fl .and .u8 (c.toNat:Int) 15) fun k =>
   eA ((b++[92,120,j,k]).length<=274877906944) <|
   f (b++[92,120,j,k])
  else
  eA ((b++[(c.toNat:Int)]).length<=274877906944) <|
  f (b++[(c.toNat:Int)])) ((List.replicate 0 0)++[34]) (fun b =>
  l b)
def CQ(m:aj):Option (ev×Int) :=
 call (Gl m) fun n =>
 bif !decide (n=0)then
  some ([],n)
 else
 jp (S:=ev) (fun f =>
  call (Df f) fun p =>
  bif decide (4194304<p)then
   some ([],4)
  else
  call (zN f) fun t =>
  some (t,0)) fun u =>
 forL m.q 0 (fun C b c i D =>
  call (IA) fun v =>
  eL v b.g fun j =>
  bif decide (b.g=3)then
   call (HW b.A) fun k =>
   eA (([b.r,j,b.a,b.y]++[k]).length<=274877906944/\0<[k].length) <|
   call (uO ([b.r,j,b.a,b.y]++[k]) ([32]:ev)) fun o =>
   eA ((o++([10]:ev)).length<=274877906944) <|
   call (zp (o++([10]:ev)) c) fun z =>
   i z.2
  else
  call (uO [b.r,j,b.a,b.y] ([32]:ev)) fun l =>
  eA ((l++([10]:ev)).length<=274877906944) <|
  call (zp (l++([10]:ev)) c) fun B =>
  i B.2) [] (fun c =>
  u c)
def Gp :Option (List ev) :=
 some [[],([112,114,111,103,114,97,109]:ev),([115,104,97,114,101,100]:ev),([116,101,120,116]:ev),([100,97,116,97]:ev),([115,101,116,116,105,110,103]:ev),([115,101,114,118,105,99,101]:ev)]
def FV(g:ev):Option ev :=
 jp (S:=ev) (fun j =>
  eA ((j++([34]:ev)).length<=274877906944) <|
  some (j++([34]:ev))) fun k =>
 forL g 0 (fun c b f i l =>
  bif ((decide ((b.toNat:Int)=34))||(decide ((b.toNat:Int)=92)))then
   eA (0<=(c:Int)/\(c:Int)<=(g.length:Int)/\0<=IntKind.i64.wrap ((c:Int)+1)/\IntKind.i64.wrap ((c:Int)+1)<=(g.length:Int)/\(c:Int)<=IntKind.i64.wrap ((c:Int)+1)) <|
   eA ((([92]:ev)++(List.take ((IntKind.i64.wrap ((c:Int)+1)).toNat-c) (List.drop c g))).length<=274877906944) <|
   eA ((f++(([92]:ev)++(List.take ((IntKind.i64.wrap ((c:Int)+1)).toNat-c) (List.drop c g)))).length<=274877906944) <|
   i (f++(([92]:ev)++(List.take ((IntKind.i64.wrap ((c:Int)+1)).toNat-c) (List.drop c g))))
  else
  bif decide ((b.toNat:Int)=10)then
   eA ((f++([92,110]:ev)).length<=274877906944) <|
   i (f++([92,110]:ev))
  else
  bif ((decide ((b.toNat:Int)<32))||(decide (126<(b.toNat:Int))))then
   eA (0<=Int.fdiv (b.toNat:Int) (2^(fA .u8 4))/\Int.fdiv (b.toNat:Int) (2^(fA .u8 4))<=(([48,49,50,51,52,53,54,55,56,57,97,98,99,100,101,102]:ev).length:Int)/\0<=IntKind.u8.wrap ((Int.fdiv (b.toNat:Int) (2^(fA .u8 4)))+1)/\IntKind.u8.wrap ((Int.fdiv (b.toNat:Int) (2^(fA .u8 4)))+1)<=(([48,49,50,51,52,53,54,55,56,57,97,98,99,100,101,102]:ev).length:Int)/\Int.fdiv (b.toNat:Int) (2^(fA .u8 4))<=IntKind.u8.wrap ((Int.fdiv (b.toNat:Int) (2^(fA .u8 4)))+1)) <|
   eA ((([92,120]:ev)++(List.take ((IntKind.u8.wrap ((Int.fdiv (b.toNat:Int) (2^(fA .u8 4)))+1)).toNat-(Int.fdiv (b.toNat:Int) (2^(fA .u8 4))).toNat) (List.drop ((Int.fdiv (b.toNat:Int) (2^(fA .u8 4))).toNat) ([48,49,50,51,52,53,54,55,56,57,97,98,99,100,101,102]:ev)))).length<=274877906944) <|
   eA (0<=fl .and .u8 (b.toNat:Int) 15/\fl .and .u8 (b.toNat:Int) 15<=(([48,49,50,51,52,53,54,55,56,57,97,98,99,100,101,102]:ev).length:Int)/\0<=IntKind.u8.wrap ((fl .and .u8 (b.toNat:Int) 15)+1)/\IntKind.u8.wrap ((fl .and .u8 (b.toNat:Int) 15)+1)<=(([48,49,50,51,52,53,54,55,56,57,97,98,99,100,101,102]:ev).length:Int)/\fl .and .u8 (b.toNat:Int) 15<=IntKind.u8.wrap ((fl .and .u8 (b.toNat:Int) 15)+1)) <|
   eA (((([92,120]:ev)++(List.take ((IntKind.u8.wrap ((Int.fdiv (b.toNat:Int) (2^(fA .u8 4)))+1)).toNat-(Int.fdiv (b.toNat:Int) (2^(fA .u8 4))).toNat) (List.drop ((Int.fdiv (b.toNat:Int) (2^(fA .u8 4))).toNat) ([48,49,50,51,52,53,54,55,56,57,97,98,99,100,101,102]:ev))))++(List.take ((IntKind.u8.wrap ((fl .and .u8 (b.toNat:Int) 15)+1)).toNat-(fl .and .u8 (b.toNat:Int) 15).toNat) (List.drop ((fl .and .u8 (b.toNat:Int) 15).toNat) ([48,49,50,51,52,53,54,55,56,57,97,98,99,100,101,102]:ev)))).length<=274877906944) <|
   eA ((f++((([92,120]:ev)++(List.take ((IntKind.u8.wrap ((Int.fdiv (b.toNat:Int) (2^(fA .u8 4)))+1)).toNat-(Int.fdiv (b.toNat:Int) (2^(fA .u8 4))).toNat) (List.drop ((Int.fdiv (b.toNat:Int) (2^(fA .u8 4))).toNat) ([48,49,50,51,52,53,54,55,56,57,97,98,99,100,101,102]:ev))))++(List.take ((IntKind.u8.wrap ((fl .and .u8 (b.toNat:Int) 15)+1)).toNat-(fl .and .u8 (b.toNat:Int) 15).toNat) (List.drop ((fl .and .u8 (b.toNat:Int) 15).toNat) ([48,49,50,51,52,53,54,55,56,57,97,98,99,100,101,102]:ev))))).length<=274877906944) <|
   i (f++((([92,120]:ev)++(List.take ((IntKind.u8.wrap ((Int.fdiv (b.toNat:Int) (2^(fA .u8 4)))+1)).toNat-(Int.fdiv (b.toNat:Int) (2^(fA .u8 4))).toNat) (List.drop ((Int.fdiv (b.toNat:Int) (2^(fA .u8 4))).toNat) ([48,49,50,51,52,53,54,55,56,57,97,98,99,100,101,102]:ev))))++(List.take ((IntKind.u8.wrap ((fl .and .u8 (b.toNat:Int) 15)+1)).toNat-(fl .and .u8 (b.toNat:Int) 15).toNat) (List.drop ((fl .and .u8 (b.toNat:Int) 15).toNat) ([48,49,50,51,52,53,54,55,56,57,97,98,99,100,101,102]:ev)))))
  else
  eA (0<=(c:Int)/\(c:Int)<=(g.length:Int)/\0<=IntKind.i64.wrap ((c:Int)+1)/\IntKind.i64.wrap ((c:Int)+1)<=(g.length:Int)/\(c:Int)<=IntKind.i64.wrap ((c:Int)+1)) <|
  eA ((f++(List.take ((IntKind.i64.wrap ((c:Int)+1)).toNat-c) (List.drop c g))).length<=274877906944) <|
  i (f++(List.take ((IntKind.i64.wrap ((c:Int)+1)).toNat-c) (List.drop c g)))) ([34]:ev) (fun f =>
  k f)
def I2(c:Int)(b:ev):Option ev :=
 call (I3 b) fun f =>
 eA ((b++(Go.Vc.strOf [c])).length<=274877906944) <|
 some (b++(Go.Vc.strOf [c]))
def C0(v:aj):Option ev :=
 jp (S:=ev) (fun n =>
  call (zN n) fun z =>
  some z) fun o =>
 forL v.q 0 (fun B b f i C =>
  eA ((b.r++([32]:ev)).length<=274877906944) <|
  call (Gp) fun p =>
  eL p b.g fun c =>
  eA (((b.r++([32]:ev))++c).length<=274877906944) <|
  eA ((((b.r++([32]:ev))++c)++([32]:ev)).length<=274877906944) <|
  eA (((((b.r++([32]:ev))++c)++([32]:ev))++b.a).length<=274877906944) <|
  eA ((((((b.r++([32]:ev))++c)++([32]:ev))++b.a)++([32]:ev)).length<=274877906944) <|
  eA (((((((b.r++([32]:ev))++c)++([32]:ev))++b.a)++([32]:ev))++b.y).length<=274877906944) <|
  call (zp ((((((b.r++([32]:ev))++c)++([32]:ev))++b.a)++([32]:ev))++b.y) f) fun k =>
  jp (S:=ev) (fun j =>
   call (I2 10 j) fun t =>
   i t) fun l =>
  bif decide (b.g=3)then
   call (FV b.A) fun m =>
   eA ((([32]:ev)++m).length<=274877906944) <|
   call (zp (([32]:ev)++m) k.2) fun u =>
   l u.2
  else
  l k.2) [] (fun f =>
  o f)
def NR(f:ev)(b:ev):Option (ev×ev×Bool) :=
 call (GP f b) fun c =>
 bif decide (0<=c)then
  eA (0<=c/\c<=(f.length:Int)) <|
  eA (0<=IntKind.i64.wrap (c+(b.length:Int))/\IntKind.i64.wrap (c+(b.length:Int))<=(f.length:Int)) <|
  some (List.take c.toNat f,List.drop ((IntKind.i64.wrap (c+(b.length:Int))).toNat) f,true)
 else
 some (f,[],false)
def Ik(f:ev)(c:ev):Option (ev×ev×Bool) :=
 call (NR f c) fun b =>
 some (b.1,b.2.1,b.2.2)
def Dc(c:ev)(b:ev)(f:Int):Option (List ev) :=
 call (uT c b 0 f) fun g =>
 some g
def z7(c:List ev)(f:ev):Option Int :=
 jp (S:=Unit) (fun _ =>
  some (-1)) fun g =>
 forL c 0 (fun i j s b k =>
  bif decide (f=j)then
   some (i:Int)
  else
  b ()) () (fun _ =>
  g ())
def z6(b:List ev)(c:ev):Option Bool :=
 call (z7 b c) fun f =>
 some (decide (0<=f))
def GO(b:ev)(c:Int):Option Int :=
 call (GQ b c) fun f =>
 some f
def Im(b:ev):Option (Int×Int) :=
 bif decide (b=[])then
  some (0,0)
 else
 fI b 0 fun c =>
 bif ((decide (c=92))||(decide (c=34)))then
  some (c,1)
 else
 bif decide (c=110)then
  some (10,1)
 else
 bif ((!decide (c=120))||(decide ((b.length:Int)<3)))then
  some (0,0)
 else
 fI b 1 fun i =>
 call (GO ([48,49,50,51,52,53,54,55,56,57,97,98,99,100,101,102]:ev) i) fun f =>
 fI b 2 fun j =>
 call (GO ([48,49,50,51,52,53,54,55,56,57,97,98,99,100,101,102]:ev) j) fun g =>
 bif ((decide (f<0))||(decide (g<0)))then
  some (0,0)
 else
 bif (((decide (32<=(IntKind.u8.wrap (IntKind.i64.wrap ((IntKind.i64.wrap (16*f))+g)))))&&(decide ((IntKind.u8.wrap (IntKind.i64.wrap ((IntKind.i64.wrap (16*f))+g)))<=126)))||(decide ((IntKind.u8.wrap (IntKind.i64.wrap ((IntKind.i64.wrap (16*f))+g)))=10)))then
  some (0,0)
 else
 some (IntKind.u8.wrap (IntKind.i64.wrap ((IntKind.i64.wrap (16*f))+g)),3)
def Ia(b:ev):Option (ev×Int) :=
 eA ((!(decide ((b.length:Int)<2)))=true->(0<=0/\0<(b.length:Int))) <|
 eA ((!((decide ((b.length:Int)<2))||(!decide (((b.getD 0 0).toNat:Int)=34))))=true->(0<=IntKind.i64.wrap ((b.length:Int)-1)/\IntKind.i64.wrap ((b.length:Int)-1)<(b.length:Int))) <|
 bif (((decide ((b.length:Int)<2))||(!decide (((b.getD 0 0).toNat:Int)=34)))||(!decide (((b.getD ((IntKind.i64.wrap ((b.length:Int)-1)).toNat) 0).toNat:Int)=34)))then
  some ([],8)
 else
 eA (0<=1/\1<=(b.length:Int)/\0<=IntKind.i64.wrap ((b.length:Int)-1)/\IntKind.i64.wrap ((b.length:Int)-1)<=(b.length:Int)/\1<=IntKind.i64.wrap ((b.length:Int)-1)) <|
 eA (0<=0/\0<=((List.take ((IntKind.i64.wrap ((b.length:Int)-1)).toNat-1) (List.drop 1 b)).length:Int)/\((List.take ((IntKind.i64.wrap ((b.length:Int)-1)).toNat-1) (List.drop 1 b)).length:Int)<=274877906944) <|
 jp (S:=List Int) (fun k =>
  some (Go.Vc.strOf k,0)) fun l =>
 loopN ff (fun s j m =>
  match s with
  |(f,c) =>
   bif decide (f<((List.take ((IntKind.i64.wrap ((b.length:Int)-1)).toNat-1) (List.drop 1 b)).length:Int))then
    fI (List.take ((IntKind.i64.wrap ((b.length:Int)-1)).toNat-1) (List.drop 1 b)) f fun g =>
    bif (((decide (g<32))||(decide (126<g)))||(decide (g=34)))then
     some ([],8)
    else
    bif decide (g=92)then
     eA (0<=IntKind.i64.wrap (f+1)/\IntKind.i64.wrap (f+1)<=((List.take ((IntKind.i64.wrap ((b.length:Int)-1)).toNat-1) (List.drop 1 b)).length:Int)) <|
     call (Im (List.drop ((IntKind.i64.wrap (f+1)).toNat) (List.take ((IntKind.i64.wrap ((b.length:Int)-1)).toNat-1) (List.drop 1 b)))) fun i =>
     bif decide (i.2=0)then
      some ([],8)
     else
     eA ((c++[i.1]).length<=274877906944) <|
     j (IntKind.i64.wrap ((IntKind.i64.wrap (f+i.2))+1),c++[i.1])
    else
    eA ((c++[g]).length<=274877906944) <|
    j (IntKind.i64.wrap (f+1),c++[g])
   else
   m (f,c)) (0,List.replicate 0 0) (fun s=>match s with
  |(f,c) =>
   l c)
def Ir(m:ev):Option (aa×Bool) :=
 call (Dc m ([32]:ev) 5) fun b =>
 eA ((!(decide ((b.length:Int)<4)))=true->(0<=4/\4<=(b.length:Int))) <|
 callG (!(decide ((b.length:Int)<4))) (z6 (List.take 4 b) []) false fun n =>
 bif ((decide ((b.length:Int)<4))||n)then
  some ((aa.mk [] 0 [] [] []),false)
 else
 eL b 0 fun f =>
 eL b 1 fun o =>
 eL b 2 fun g =>
 eL b 3 fun i =>
 call (IA) fun k =>
 call (z7 k o) fun c =>
 bif ((decide (c<1))||(!decide ((decide (c=3))=(decide ((b.length:Int)=5)))))then
  some ((aa.mk [] 0 [] [] []),false)
 else
 bif !decide (c=3)then
  some ((aa.mk f c g i []),true)
 else
 eL b 4 fun l =>
 call (Ia l) fun j =>
 some ((aa.mk f c g i j.1),decide (j.2=0))
def yJ(f:ev):Option (aj×Int×Int) :=
 bif decide (4194304<(f.length:Int))then
  some ((aj.mk []),0,4)
 else
 jp (S:=List aa) (fun i =>
  call (Gl (aj.mk i)) fun m =>
  bif !decide (m=0)then
   some ((aj.mk []),0,m)
  else
  some ((aj.mk i),0,0)) fun o =>
 loopN ff (fun s l n =>
  match s with
  |(b,g,c) =>
   bif !decide (b=[])then
    call (Ik b ([10]:ev)) fun j =>
    call (Ir j.1) fun k =>
    bif ((!j.2.2)||(!k.2))then
     some ((aj.mk []),g,8)
    else
    eA ((c++[k.1]).length<=274877906944) <|
    l (j.2.1,IntKind.i64.wrap (g+1),c++[k.1])
   else
   n (b,g,c)) (f,0,[]) (fun s=>match s with
  |(b,g,c) =>
   o c)
def IW(f:List aa)(i:List aa):Option Bool :=
 bif !decide ((f.length:Int)=(i.length:Int))then
  some false
 else
 jp (S:=Unit) (fun _ =>
  some true) fun k =>
 forL f 0 (fun l b s j m =>
  eL i (l:Int) fun c =>
  bif !((decide (b.r=c.r))&&((decide (b.g=c.g))&&((decide (b.a=c.a))&&((decide (b.y=c.y))&&(decide (b.A=c.A))))))then
   some false
  else
  j ()) () (fun _ =>
  k ())
def Gx(b:aj)(c:aj):Option Bool :=
 call (IW b.q c.q) fun f =>
 some f
def strings_Replace(s old new:ev)(n:Int):Option ev:=eA (s.length<=4294967280/\new.length<=0) <| some (Go.Lib.replace s old [] n)
def HS(c:ev):Option (List ev×Int) :=
 call (C5 c ([10]:ev)) fun b =>
 eL b (IntKind.i64.wrap ((b.length:Int)-1)) fun f =>
 bif decide (f=[])then
  eA (0<=IntKind.i64.wrap ((b.length:Int)-1)/\IntKind.i64.wrap ((b.length:Int)-1)<=(b.length:Int)) <|
  some (List.take ((IntKind.i64.wrap ((b.length:Int)-1)).toNat) b,(-1))
 else
 some (b,IntKind.i64.wrap ((b.length:Int)-1))
def Gi(c:ev):Option (ev×Int) :=
 eA ((!(decide ((c.length:Int)<2)))=true->(0<=0/\0<(c.length:Int))) <|
 eA ((!((decide ((c.length:Int)<2))||(!decide (((c.getD 0 0).toNat:Int)=34))))=true->(0<=IntKind.i64.wrap ((c.length:Int)-1)/\IntKind.i64.wrap ((c.length:Int)-1)<(c.length:Int))) <|
 bif (((decide ((c.length:Int)<2))||(!decide (((c.getD 0 0).toNat:Int)=34)))||(!decide (((c.getD ((IntKind.i64.wrap ((c.length:Int)-1)).toNat) 0).toNat:Int)=34)))then
  some ([],8)
 else
 jp (S:=List Int) (fun i =>
  call (FV (Go.Vc.strOf i)) fun n =>
  bif !decide (n=c)then
   some ([],8)
  else
  some (Go.Vc.strOf i,0)) fun o =>
 eA (0<=1/\1<=(c.length:Int)/\0<=IntKind.i64.wrap ((c.length:Int)-1)/\IntKind.i64.wrap ((c.length:Int)-1)<=(c.length:Int)/\1<=IntKind.i64.wrap ((c.length:Int)-1)) <|
 loopN ff (fun s g p =>
  match s with
  |(b,f) =>
   bif !decide (b=[])then
    fI b 0 fun j =>
    bif !decide (j=92)then
     eA ((f++[j]).length<=274877906944) <|
     eA (0<=1/\1<=(b.length:Int)) <|
     g (List.drop 1 b,f++[j])
    else
    eA ((decide (2<=(b.length:Int)))=true->(0<=1/\1<(b.length:Int))) <|
    eA (((decide (2<=(b.length:Int)))&&(!(decide (((b.getD 1 0).toNat:Int)=34))))=true->(0<=1/\1<(b.length:Int))) <|
    bif ((decide (2<=(b.length:Int)))&&((decide (((b.getD 1 0).toNat:Int)=34))||(decide (((b.getD 1 0).toNat:Int)=92))))then
     fI b 1 fun k =>
     eA ((f++[k]).length<=274877906944) <|
     eA (0<=2/\2<=(b.length:Int)) <|
     g (List.drop 2 b,f++[k])
    else
    eA ((decide (2<=(b.length:Int)))=true->(0<=1/\1<(b.length:Int))) <|
    bif ((decide (2<=(b.length:Int)))&&(decide (((b.getD 1 0).toNat:Int)=110)))then
     eA ((f++[10]).length<=274877906944) <|
     eA (0<=2/\2<=(b.length:Int)) <|
     g (List.drop 2 b,f++[10])
    else
    eA ((decide (4<=(b.length:Int)))=true->(0<=1/\1<(b.length:Int))) <|
    bif ((decide (4<=(b.length:Int)))&&(decide (((b.getD 1 0).toNat:Int)=120)))then
     eA (0<=2/\2<=(b.length:Int)/\0<=3/\3<=(b.length:Int)/\2<=3) <|
     call (BZ ([48,49,50,51,52,53,54,55,56,57,97,98,99,100,101,102]:ev) (List.take (3-2) (List.drop 2 b))) fun l =>
     eA (0<=3/\3<=(b.length:Int)/\0<=4/\4<=(b.length:Int)/\3<=4) <|
     call (BZ ([48,49,50,51,52,53,54,55,56,57,97,98,99,100,101,102]:ev) (List.take (4-3) (List.drop 3 b))) fun m =>
     eA ((f++[IntKind.u8.wrap (IntKind.i64.wrap ((IntKind.i64.wrap (l*16))+m))]).length<=274877906944) <|
     eA (0<=4/\4<=(b.length:Int)) <|
     g (List.drop 4 b,f++[IntKind.u8.wrap (IntKind.i64.wrap ((IntKind.i64.wrap (l*16))+m))])
    else
    some ([],8)
   else
   p (b,f)) (List.take ((IntKind.i64.wrap ((c.length:Int)-1)).toNat-1) (List.drop 1 c),[]) (fun s=>match s with
  |(b,f) =>
   o f)
def CZ(i:ev):Option (aj×Int×Int) :=
 bif decide (4194304<(i.length:Int))then
  some ((aj.mk []),0,4)
 else
 call (HS i) fun k =>
 jp (S:=List aa) (fun l =>
  call (pt (aj.mk l)) fun v =>
  bif !decide (v=0)then
   some ((aj.mk []),0,v)
  else
  some ((aj.mk l),0,0)) fun B =>
 forL k.1 0 (fun j C g t I =>
  call (Dc C ([32]:ev) 5) fun b =>
  eA ((!((decide ((j:Int)=k.2))||(decide ((b.length:Int)<4))))=true->(0<=4/\4<=(b.length:Int))) <|
  callG (!((decide ((j:Int)=k.2))||(decide ((b.length:Int)<4)))) (z6 (List.take 4 b) []) false fun D =>
  bif (((decide ((j:Int)=k.2))||(decide ((b.length:Int)<4)))||D)then
   some ((aj.mk []),(j:Int),8)
  else
  eL b 0 fun z =>
  eL b 1 fun E =>
  eL b 2 fun m =>
  eL b 3 fun n =>
  call (Gp) fun F =>
  call (z7 F E) fun c =>
  jp (S:=Bool×ev) (fun s=>match s with
   |(u,f) =>
    bif !u then
     some ((aj.mk []),(j:Int),8)
    else
    eA ((g++[(aa.mk z c m n f)]).length<=274877906944) <|
    t (g++[(aa.mk z c m n f)])) fun o =>
  bif (((decide (0<c))&&(decide ((decide ((b.length:Int)=5))=(decide (c=3)))))&&(decide ((b.length:Int)=5)))then
   eL b 4 fun G =>
   call (Gi G) fun p =>
   o (decide (p.2=0),p.1)
  else
  o (((decide (0<c))&&(decide ((decide ((b.length:Int)=5))=(decide (c=3))))),[])) [] (fun g =>
  B g)
def ID(t:aj)(u:ak)(v:List ax)(c:ev):Option Bool :=
 call (Na) fun z =>
 bif !z then
  some false
 else
 call (GX u) fun B =>
 call (HL B v) fun o =>
 jp (S:=Unit) (fun _ =>
  call (C0 o.2) fun C =>
  call (strings_Replace C c [] 1) fun D =>
  jp (S:=Unit) (fun _ =>
   some true) fun E =>
  forL [c,D] 0 (fun M p s n N =>
   call (yJ p) fun f =>
   call (CZ p) fun g =>
   callG (!((!decide (f.2.2=g.2.2))||(!decide (f.2.1=g.2.1)))) (Gx f.1 g.1) false fun F =>
   bif (((!decide (f.2.2=g.2.2))||(!decide (f.2.1=g.2.1)))||(!F))then
    some false
   else
   n ()) () (fun _ =>
   E ())) fun G =>
 forL [t,o.2] 0 (fun O i s j P =>
  call (CQ i) fun b =>
  call (pt i) fun k =>
  bif !decide (k=0)then
   bif ((!decide (b.2=k))||(!decide (b.1=[])))then
    some false
   else
   j ()
  else
  call (C0 i) fun I =>
  bif decide (4194304<(I.length:Int))then
   bif !decide (b.2=4)then
    some false
   else
   j ()
  else
  call (yJ b.1) fun l =>
  callG (!(!decide (b.2=0))) (C0 i) [] fun J =>
  fK (((((!decide (b.2=0))||(!decide (b.1=J)))||(!decide (l.2.2=0)))||(!decide (l.2.1=0)))) fun m =>
  callG (!m) (Gx i l.1) false fun L =>
  bif (m||(!L))then
   some false
  else
  j ()) () (fun _ =>
  G ())
end
end Go.Md
