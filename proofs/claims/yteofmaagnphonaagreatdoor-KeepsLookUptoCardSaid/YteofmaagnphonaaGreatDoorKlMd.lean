/- Models of the functions that the statement reaches: what each computes, in plain words. -/
import Derived.Test.YteofmaagnphonaaGreatDoorVc3
set_option linter.unusedVariables false
open List
namespace Go.Md
open Go.Vc
noncomputable section
def tabL_5:List Int:=[0,1,56,2,57,49,28,3,61,58,42,50,38,29,17,4,62,47,59,36,45,43,51,22,53,39,33,30,24,18,12,5,63,55,48,27,60,41,37,16,46,35,44,21,52,32,23,11,54,26,40,15,34,20,31,10,25,14,19,9,13,8,7,6]
theorem oU:tabL_5.length=64:=rfl
instance theTabs:Tabs:=⟨fun b=>bif Nat.beq b 5 then some (.u8,tabL_5)else none,fun b=>false,fun e=>bif Nat.beq e 175 then some (0,3,1)else none,False⟩
theorem Hw:Tabs.nest 3=none:=rfl
attribute [go_sem] Hw
theorem Hv:Tabs.nest 5=none:=rfl
attribute [go_sem] Hv
theorem Hu:Tabs.nest 9=none:=rfl
attribute [go_sem] Hu
theorem yA:Tabs.nest 29=none:=rfl
attribute [go_sem] yA
theorem yz:Tabs.nest 38=none:=rfl
attribute [go_sem] yz
theorem yy:Tabs.nest 46=none:=rfl
attribute [go_sem] yy
theorem yx:Tabs.nest 60=none:=rfl
attribute [go_sem] yx
theorem yw:Tabs.nest 68=none:=rfl
attribute [go_sem] yw
theorem yv:Tabs.nest 70=none:=rfl
attribute [go_sem] yv
theorem yu:Tabs.nest 72=none:=rfl
attribute [go_sem] yu
theorem yr:Tabs.nest 74=none:=rfl
attribute [go_sem] yr
theorem vc:Tabs.nest 109=none:=rfl
attribute [go_sem] vc
theorem vb:Tabs.nest 175=some (0,3,1):=rfl
attribute [go_sem] vb
theorem u7:Tabs.nest 189=none:=rfl
attribute [go_sem] u7
theorem u6:Tabs.nest 227=none:=rfl
attribute [go_sem] u6
theorem Q8:Tabs.tab 5=some (.u8,tabL_5):=rfl
attribute [go_sem] Q8 oU
def eR(b:Bool):List Dt:=[.b b]
def eu(x:eo):List Dt:=[.s x]
def Yh(n:Int):List Dt:=[.i .i8 n]
def Vu(n:Int):List Dt:=[.i .i16 n]
def ri(n:Int):List Dt:=[.i .i32 n]
def zt(n:Int):List Dt:=[.i .i64 n]
def eY(n:Int):List Dt:=[.i .u8 n]
def Vt(n:Int):List Dt:=[.i .u16 n]
def rh(n:Int):List Dt:=[.i .u32 n]
def rg(n:Int):List Dt:=[.i .u64 n]
theorem Kc:∀r,eN r [.s]->∃x,r=eu x:=by
 intro r h;rcases r with _|⟨d,_|_⟩ <;> simp only[eN,and_false,and_true]at h
 cases d <;> simp only[eI]at h
 exact⟨_,rfl⟩
theorem Tl:∀r,eN r [.i .i64]->∃x,r=zt x:=by
 intro r h;rcases r with _|⟨d,_|_⟩ <;> simp only[eN,and_false,and_true]at h
 cases d <;> simp only[eI]at h
 subst h;exact⟨_,rfl⟩
theorem Vv:∀r,eN r [.i .u8]->∃x,r=eY x:=by
 intro r h;rcases r with _|⟨d,_|_⟩ <;> simp only[eN,and_false,and_true]at h
 cases d <;> simp only[eI]at h
 subst h;exact⟨_,rfl⟩
structure ab where
 r:eo
 Value:eo
def za(x:ab):List Dt:=[.s x.r,.s x.Value]
def UQ:List Sh:=[.s,.s]
theorem Zx:∀r,eN r UQ->∃x:ab,r=za x:=by
 intro r h;unfold UQ at h;rcases r with _|⟨d0,_|⟨d1,_|_⟩⟩ <;> simp only[eN,and_false,and_true]at h
 obtain⟨h0,h1⟩:=h;cases d0 <;> simp only[eI]at h0
 cases d1 <;> simp only[eI]at h1
 exact⟨⟨_,_⟩,rfl⟩
structure ae where
 a:eo
 F:eo
 G:Bool
def zc(x:ae):List Dt:=[.s x.a,.s x.F,.b x.G]
def WO:List Sh:=[.s,.s,.b]
theorem lQ:∀r,eN r WO->∃x:ae,r=zc x:=by
 intro r h;unfold WO at h;rcases r with _|⟨d0,_|⟨d1,_|⟨d2,_|_⟩⟩⟩ <;> simp only[eN,and_false,and_true]at h
 obtain⟨h0,h1,h2⟩:=h;cases d0 <;> simp only[eI]at h0
 cases d1 <;> simp only[eI]at h1
 cases d2 <;> simp only[eI]at h2
 exact⟨⟨_,_,_⟩,rfl⟩
structure ah where
 C:eo
 a:eo
 H:Bool
 I:Bool
def zb(x:ah):List Dt:=[.s x.C,.s x.a,.b x.H,.b x.I]
def W8:List Sh:=[.s,.s,.b,.b]
theorem zm7:∀r,eN r W8->∃x:ah,r=zb x:=by
 intro r h;unfold W8 at h;rcases r with _|⟨d0,_|⟨d1,_|⟨d2,_|⟨d3,_|_⟩⟩⟩⟩ <;> simp only[eN,and_false,and_true]at h
 obtain⟨h0,h1,h2,h3⟩:=h;cases d0 <;> simp only[eI]at h0
 cases d1 <;> simp only[eI]at h1
 cases d2 <;> simp only[eI]at h2
 cases d3 <;> simp only[eI]at h3
 exact⟨⟨_,_,_,_⟩,rfl⟩
structure aj where
 D:List ab
 u:List ae
 B:List ab
 A:List ah
def zu(x:aj):List Dt:=[.l (List.map za x.D),.l (List.map zc x.u),.l (List.map za x.B),.l (List.map zb x.A)]
def UP:List Sh:=[.l UQ,.l WO,.l UQ,.l W8]
theorem zm8:∀r,eN r UP->∃x:aj,r=zu x:=by
 intro r h;unfold UP at h;rcases r with _|⟨d0,_|⟨d1,_|⟨d2,_|⟨d3,_|_⟩⟩⟩⟩ <;> simp only[eN,and_false,and_true]at h
 obtain⟨h0,h1,h2,h3⟩:=h;cases d0 <;> simp only[eI]at h0
 obtain⟨l0,rfl⟩:=tq Zx h0;cases d1 <;> simp only[eI]at h1
 obtain⟨l1,rfl⟩:=tq lQ h1;cases d2 <;> simp only[eI]at h2
 obtain⟨l2,rfl⟩:=tq Zx h2;cases d3 <;> simp only[eI]at h3
 obtain⟨l3,rfl⟩:=tq zm7 h3;exact⟨⟨_,_,_,_⟩,rfl⟩
structure ak where
 g:Int
 j:ae
 x:ab
 h:ah
def zh(x:ak):List Dt:=[.i .i64 x.g,.s x.j.a,.s x.j.F,.b x.j.G,.s x.x.r,.s x.x.Value,.s x.h.C,.s x.h.a,.b x.h.H,.b x.h.I]
def WP:List Sh:=[.i .i64,.s,.s,.b,.s,.s,.s,.s,.b,.b]
set_option maxRecDepth 100000 in
theorem lP:∀r,eN r WP->∃x:ak,r=zh x:=by
 intro r h;unfold WP at h;rcases r with _|⟨d0,_|⟨d1,_|⟨d2,_|⟨d3,_|⟨d4,_|⟨d5,_|⟨d6,_|⟨d7,_|⟨d8,_|⟨d9,_|_⟩⟩⟩⟩⟩⟩⟩⟩⟩⟩ <;> simp only[eN,and_false,and_true]at h
 obtain⟨h0,h1,h2,h3,h4,h5,h6,h7,h8,h9⟩:=h;cases d0 <;> simp only[eI]at h0
 subst h0;cases d1 <;> simp only[eI]at h1
 cases d2 <;> simp only[eI]at h2
 cases d3 <;> simp only[eI]at h3
 cases d4 <;> simp only[eI]at h4
 cases d5 <;> simp only[eI]at h5
 cases d6 <;> simp only[eI]at h6
 cases d7 <;> simp only[eI]at h7
 cases d8 <;> simp only[eI]at h8
 cases d9 <;> simp only[eI]at h9
 exact⟨⟨_,⟨_,_,_⟩,⟨_,_⟩,⟨_,_,_,_⟩⟩,rfl⟩
structure ax where
 O:Bool
 P:Bool
def zA(x:ax):List Dt:=[.b x.O,.b x.P]
def Zs:List Sh:=[.b,.b]
theorem wa:∀r,eN r Zs->∃x:ax,r=zA x:=by
 intro r h;unfold Zs at h;rcases r with _|⟨d0,_|⟨d1,_|_⟩⟩ <;> simp only[eN,and_false,and_true]at h
 obtain⟨h0,h1⟩:=h;cases d0 <;> simp only[eI]at h0
 cases d1 <;> simp only[eI]at h1
 exact⟨⟨_,_⟩,rfl⟩
structure ai where
 g:Int
 j:ae
 x:ab
 h:ah
def zg(x:ai):List Dt:=[.i .i64 x.g,.s x.j.a,.s x.j.F,.b x.j.G,.s x.x.r,.s x.x.Value,.s x.h.C,.s x.h.a,.b x.h.H,.b x.h.I]
def UU:List Sh:=[.i .i64,.s,.s,.b,.s,.s,.s,.s,.b,.b]
set_option maxRecDepth 100000 in
theorem ZG:∀r,eN r UU->∃x:ai,r=zg x:=by
 intro r h;unfold UU at h;rcases r with _|⟨d0,_|⟨d1,_|⟨d2,_|⟨d3,_|⟨d4,_|⟨d5,_|⟨d6,_|⟨d7,_|⟨d8,_|⟨d9,_|_⟩⟩⟩⟩⟩⟩⟩⟩⟩⟩ <;> simp only[eN,and_false,and_true]at h
 obtain⟨h0,h1,h2,h3,h4,h5,h6,h7,h8,h9⟩:=h;cases d0 <;> simp only[eI]at h0
 subst h0;cases d1 <;> simp only[eI]at h1
 cases d2 <;> simp only[eI]at h2
 cases d3 <;> simp only[eI]at h3
 cases d4 <;> simp only[eI]at h4
 cases d5 <;> simp only[eI]at h5
 cases d6 <;> simp only[eI]at h6
 cases d7 <;> simp only[eI]at h7
 cases d8 <;> simp only[eI]at h8
 cases d9 <;> simp only[eI]at h9
 exact⟨⟨_,⟨_,_,_⟩,⟨_,_⟩,⟨_,_,_,_⟩⟩,rfl⟩
structure ay where
 g:Int
 q:eo
 S:List ak
 T:ax
 L:List ai
def zk(x:ay):List Dt:=[.i .i64 x.g,.s x.q,.l (List.map zh x.S),.b x.T.O,.b x.T.P,.l (List.map zg x.L)]
def U6:List Sh:=[.i .i64,.s,.l WP,.b,.b,.l UU]
theorem zjv:∀r,eN r U6->∃x:ay,r=zk x:=by
 intro r h;unfold U6 at h;rcases r with _|⟨d0,_|⟨d1,_|⟨d2,_|⟨d3,_|⟨d4,_|⟨d5,_|_⟩⟩⟩⟩⟩⟩ <;> simp only[eN,and_false,and_true]at h
 obtain⟨h0,h1,h2,h3,h4,h5⟩:=h;cases d0 <;> simp only[eI]at h0
 subst h0;cases d1 <;> simp only[eI]at h1
 cases d2 <;> simp only[eI]at h2
 obtain⟨l2,rfl⟩:=tq lP h2;cases d3 <;> simp only[eI]at h3
 cases d4 <;> simp only[eI]at h4
 cases d5 <;> simp only[eI]at h5
 obtain⟨l5,rfl⟩:=tq ZG h5;exact⟨⟨_,_,_,⟨_,_⟩,_⟩,rfl⟩
structure aa where
 q:eo
 g:Int
 a:eo
 y:eo
 E:eo
def zd(x:aa):List Dt:=[.s x.q,.i .i64 x.g,.s x.a,.s x.y,.s x.E]
def LC:List Sh:=[.s,.i .i64,.s,.s,.s]
theorem WT:∀r,eN r LC->∃x:aa,r=zd x:=by
 intro r h;unfold LC at h;rcases r with _|⟨d0,_|⟨d1,_|⟨d2,_|⟨d3,_|⟨d4,_|_⟩⟩⟩⟩⟩ <;> simp only[eN,and_false,and_true]at h
 obtain⟨h0,h1,h2,h3,h4⟩:=h;cases d0 <;> simp only[eI]at h0
 cases d1 <;> simp only[eI]at h1
 subst h1;cases d2 <;> simp only[eI]at h2
 cases d3 <;> simp only[eI]at h3
 cases d4 <;> simp only[eI]at h4
 exact⟨⟨_,_,_,_,_⟩,rfl⟩
structure al where
 k:List aa
def z8(x:al):List Dt:=[.l (List.map zd x.k)]
def Y5:List Sh:=[.l LC]
theorem y9:∀r,eN r Y5->∃x:al,r=z8 x:=by
 intro r h;unfold Y5 at h;rcases r with _|⟨d0,_|_⟩ <;> simp only[eN,and_false,and_true]at h
 have h0:=h;cases d0 <;> simp only[eI]at h0
 obtain⟨l0,rfl⟩:=tq WT h0;exact⟨⟨_⟩,rfl⟩
structure am where
 g:Int
 a:eo
def zm(x:am):List Dt:=[.i .i64 x.g,.s x.a]
def WQ:List Sh:=[.i .i64,.s]
theorem lO:∀r,eN r WQ->∃x:am,r=zm x:=by
 intro r h;unfold WQ at h;rcases r with _|⟨d0,_|⟨d1,_|_⟩⟩ <;> simp only[eN,and_false,and_true]at h
 obtain⟨h0,h1⟩:=h;cases d0 <;> simp only[eI]at h0
 subst h0;cases d1 <;> simp only[eI]at h1
 exact⟨⟨_,_⟩,rfl⟩
structure ap where
 L:List ai
 Q:al
 R:List am
def zM(x:ap):List Dt:=[.l (List.map zg x.L),.l (List.map zd x.Q.k),.l (List.map zm x.R)]
def Zt:List Sh:=[.l UU,.l LC,.l WQ]
theorem v8:∀r,eN r Zt->∃x:ap,r=zM x:=by
 intro r h;unfold Zt at h;rcases r with _|⟨d0,_|⟨d1,_|⟨d2,_|_⟩⟩⟩ <;> simp only[eN,and_false,and_true]at h
 obtain⟨h0,h1,h2⟩:=h;cases d0 <;> simp only[eI]at h0
 obtain⟨l0,rfl⟩:=tq ZG h0;cases d1 <;> simp only[eI]at h1
 obtain⟨l1,rfl⟩:=tq WT h1;cases d2 <;> simp only[eI]at h2
 obtain⟨l2,rfl⟩:=tq lO h2;exact⟨⟨_,⟨_⟩,_⟩,rfl⟩
structure au where
 t:Int
 p:eo
def zO(x:au):List Dt:=[.i .i64 x.t,.s x.p]
def ZR:List Sh:=[.i .i64,.s]
theorem rm:∀r,eN r ZR->∃x:au,r=zO x:=by
 intro r h;unfold ZR at h;rcases r with _|⟨d0,_|⟨d1,_|_⟩⟩ <;> simp only[eN,and_false,and_true]at h
 obtain⟨h0,h1⟩:=h;cases d0 <;> simp only[eI]at h0
 subst h0;cases d1 <;> simp only[eI]at h1
 exact⟨⟨_,_⟩,rfl⟩
structure ao where
 N:Int
 M:Int
def zR(x:ao):List Dt:=[.i .i64 x.N,.i .i64 x.M]
def Y4:List Sh:=[.i .i64,.i .i64]
theorem Aa:∀r,eN r Y4->∃x:ao,r=zR x:=by
 intro r h;unfold Y4 at h;rcases r with _|⟨d0,_|⟨d1,_|_⟩⟩ <;> simp only[eN,and_false,and_true]at h
 obtain⟨h0,h1⟩:=h;cases d0 <;> simp only[eI]at h0
 subst h0;cases d1 <;> simp only[eI]at h1
 subst h1;exact⟨⟨_,_⟩,rfl⟩
structure aq where
 K:Int
 J:eo
def rH(x:aq):List Dt:=[.i .i64 x.K,.s x.J]
def Zu:List Sh:=[.i .i64,.s]
theorem v7:∀r,eN r Zu->∃x:aq,r=rH x:=by
 intro r h;unfold Zu at h;rcases r with _|⟨d0,_|⟨d1,_|_⟩⟩ <;> simp only[eN,and_false,and_true]at h
 obtain⟨h0,h1⟩:=h;cases d0 <;> simp only[eI]at h0
 subst h0;cases d1 <;> simp only[eI]at h1
 exact⟨⟨_,_⟩,rfl⟩
structure ar where
 q:eo
 a:eo
 g:Int
 U:Int
def kN(x:ar):List Dt:=[.s x.q,.s x.a,.i .i64 x.g,.i .i64 x.U]
def Zm:List Sh:=[.s,.s,.i .i64,.i .i64]
theorem xl:∀r,eN r Zm->∃x:ar,r=kN x:=by
 intro r h;unfold Zm at h;rcases r with _|⟨d0,_|⟨d1,_|⟨d2,_|⟨d3,_|_⟩⟩⟩⟩ <;> simp only[eN,and_false,and_true]at h
 obtain⟨h0,h1,h2,h3⟩:=h;cases d0 <;> simp only[eI]at h0
 cases d1 <;> simp only[eI]at h1
 cases d2 <;> simp only[eI]at h2
 subst h2;cases d3 <;> simp only[eI]at h3
 subst h3;exact⟨⟨_,_,_,_⟩,rfl⟩
def zC(x:List Int):List Dt:=[.l (List.map zt x)]
def zl(x:List Int):List Dt:=[.b false]
def zn(x:List Int):List (List Dt):=List.map zt x
theorem yB(l:List (List Int)):oJ 0 (List.map zl l) (List.map zn l)=List.map zC l:=qF (fun _=>rfl) l
theorem zjI:∀l,fe (1) (List.map zl l)=True:=fun l=>eq_true (by intro r hr;obtain⟨x,_,rfl⟩:=mem_map.1 hr;rfl)
attribute [go_sem] yB zjI zl zn
instance instDec_keep_place:DecidableEq aq:=fun a b=>decidable_of_iff (a.K=b.K/\a.J=b.J) (by cases a;cases b;simp)
def ET(x:aq):Dt:=.a (rH x)
theorem W5(a b:aq):fC (ET a) (ET b)=decide (a=b):=by rw[Bool.eq_iff_iff];obtain⟨a0,a1⟩:=a;obtain⟨b0,b1⟩:=b;simp only[fC,ET,rH,fA,Bool.and_true,Bool.and_eq_true,decide_eq_true_eq,aq.mk.injEq];exact⟨fun h=>by simp only[h,and_self],fun h=>by simp only[h,and_self]⟩
theorem zlw{V:Type}(e:V->List Dt)(l:List (aq×V)):iu (.ks [.i .i64,.s]) (zz ET e l)=True:=ll (kd:=rH) (fun x=>by simp[zJ,rH]) e l
attribute [go_sem] zlw
instance instDec_outref1_place:DecidableEq au:=fun a b=>decidable_of_iff (a.t=b.t/\a.p=b.p) (by cases a;cases b;simp)
def ER(x:au):Dt:=.a (zO x)
theorem Xn(a b:au):fC (ER a) (ER b)=decide (a=b):=by rw[Bool.eq_iff_iff];obtain⟨a0,a1⟩:=a;obtain⟨b0,b1⟩:=b;simp only[fC,ER,zO,fA,Bool.and_true,Bool.and_eq_true,decide_eq_true_eq,au.mk.injEq];exact⟨fun h=>by simp only[h,and_self],fun h=>by simp only[h,and_self]⟩
theorem zjp{V:Type}(e:V->List Dt)(l:List (au×V)):iu (.ks [.i .i64,.s]) (zz ER e l)=True:=ll (kd:=zO) (fun x=>by simp[zJ,zO]) e l
attribute [go_sem] zjp
theorem G8:∀l,fe (1) (List.map eR l)=True:=fun l=>eq_true (by intro r hr;obtain⟨x,_,rfl⟩:=mem_map.1 hr;rfl)
theorem G7:∀l,fe (1) (List.map eu l)=True:=fun l=>eq_true (by intro r hr;obtain⟨x,_,rfl⟩:=mem_map.1 hr;rfl)
theorem oX:∀l,fe (1) (List.map zt l)=True:=fun l=>eq_true (by intro r hr;obtain⟨x,_,rfl⟩:=mem_map.1 hr;rfl)
theorem rJ:∀l,fe (1) (List.map eY l)=True:=fun l=>eq_true (by intro r hr;obtain⟨x,_,rfl⟩:=mem_map.1 hr;rfl)
theorem oV:∀l,fe (1) (List.map rg l)=True:=fun l=>eq_true (by intro r hr;obtain⟨x,_,rfl⟩:=mem_map.1 hr;rfl)
theorem oY:∀l,fe (1) (List.map ri l)=True:=fun l=>eq_true (by intro r hr;obtain⟨x,_,rfl⟩:=mem_map.1 hr;rfl)
theorem oW:∀l,fe (1) (List.map rh l)=True:=fun l=>eq_true (by intro r hr;obtain⟨x,_,rfl⟩:=mem_map.1 hr;rfl)
theorem zjF:∀l,fe (2) (List.map za l)=True:=fun l=>eq_true (by intro r hr;obtain⟨x,_,rfl⟩:=mem_map.1 hr;rfl)
theorem zl3:∀l,fe (3) (List.map zc l)=True:=fun l=>eq_true (by intro r hr;obtain⟨x,_,rfl⟩:=mem_map.1 hr;rfl)
theorem zjG:∀l,fe (4) (List.map zb l)=True:=fun l=>eq_true (by intro r hr;obtain⟨x,_,rfl⟩:=mem_map.1 hr;rfl)
theorem zjH:∀l,fe (4) (List.map zu l)=True:=fun l=>eq_true (by intro r hr;obtain⟨x,_,rfl⟩:=mem_map.1 hr;rfl)
theorem zl1:∀l,fe (10) (List.map zh l)=True:=fun l=>eq_true (by intro r hr;obtain⟨x,_,rfl⟩:=mem_map.1 hr;rfl)
theorem zkx:∀l,fe (2) (List.map zA l)=True:=fun l=>eq_true (by intro r hr;obtain⟨x,_,rfl⟩:=mem_map.1 hr;rfl)
theorem zky:∀l,fe (10) (List.map zg l)=True:=fun l=>eq_true (by intro r hr;obtain⟨x,_,rfl⟩:=mem_map.1 hr;rfl)
theorem zhJ:∀l,fe (6) (List.map zk l)=True:=fun l=>eq_true (by intro r hr;obtain⟨x,_,rfl⟩:=mem_map.1 hr;rfl)
theorem zl2:∀l,fe (5) (List.map zd l)=True:=fun l=>eq_true (by intro r hr;obtain⟨x,_,rfl⟩:=mem_map.1 hr;rfl)
theorem zl0:∀l,fe (1) (List.map z8 l)=True:=fun l=>eq_true (by intro r hr;obtain⟨x,_,rfl⟩:=mem_map.1 hr;rfl)
theorem zlZ:∀l,fe (2) (List.map zm l)=True:=fun l=>eq_true (by intro r hr;obtain⟨x,_,rfl⟩:=mem_map.1 hr;rfl)
theorem zkw:∀l,fe (3) (List.map zM l)=True:=fun l=>eq_true (by intro r hr;obtain⟨x,_,rfl⟩:=mem_map.1 hr;rfl)
theorem ziJ:∀l,fe (2) (List.map zO l)=True:=fun l=>eq_true (by intro r hr;obtain⟨x,_,rfl⟩:=mem_map.1 hr;rfl)
theorem zl4:∀l,fe (2) (List.map zR l)=True:=fun l=>eq_true (by intro r hr;obtain⟨x,_,rfl⟩:=mem_map.1 hr;rfl)
theorem zkv:∀l,fe (2) (List.map rH l)=True:=fun l=>eq_true (by intro r hr;obtain⟨x,_,rfl⟩:=mem_map.1 hr;rfl)
theorem zll:∀l,fe (4) (List.map kN l)=True:=fun l=>eq_true (by intro r hr;obtain⟨x,_,rfl⟩:=mem_map.1 hr;rfl)
theorem zl5:∀l,fe (1) (List.map zC l)=True:=fun l=>eq_true (by intro r hr;obtain⟨x,_,rfl⟩:=mem_map.1 hr;rfl)
theorem ot:∀l:List Int,fK (List.map eY l)=True
 |[]=>by simp only[map_nil,fK]
 |_::l=>by simp only[map_cons,eY,fK,ot l,and_self]
theorem qm:∀l:List Int,gD (List.map eY l)=Go.Vc.strOf l
 |[]=>by simp only[map_nil,gD,Go.Vc.strOf]
 |_::l=>by simp only[map_cons,eY,gD,qm l,Go.Vc.strOf]
theorem Ko(l:eo):bR l=List.map eY (KK l):=by simp[bR,KK,eY]
attribute [go_sem] ot qm Ko
attribute [go_sem] eR eu zt eY rg ri rh za zc zb zu zh zA zg zk zd z8 zm zM zO zR rH kN zC G8 G7 oX rJ oV oY oW zjF zl3 zjG zjH zl1 zkx zky zhJ zl2 zl0 zlZ zkw ziJ zl4 zkv zll zl5
def AY(b:Int):Option Bool :=
 some ((decide (97<=b))&&(decide (b<=122)))
def LA(b:Int):Option Bool :=
 some ((decide (48<=b))&&(decide (b<=57)))
def Nq(b:Int):Option Bool :=
 call (AY b) fun c =>
 callG (!c) (LA b) false fun f =>
 some (((c||f)||(decide (b=45)))||(decide (b=46)))
def UH(b:eo)(c:Int):Option Bool :=
 jp (S:=Unit) (fun _ =>
  some ((!decide (b=[]))&&(decide ((b.length:Int)<=c)))) fun g =>
 forL b 0 (fun k i s f l =>
  call (Nq (i.toNat:Int)) fun j =>
  bif !j then
   some false
  else
  f ()) () (fun _ =>
  g ())
def xI(b:eo):Option Bool :=
 call (UH b 40) fun c =>
 ey (c=true->(0<=0/\0<(b.length:Int))) <|
 callG c (AY ((b.getD 0 0).toNat:Int)) false fun f =>
 some (c&&f)
def Uy :Option Bool :=
 call (xI ([97]:eo)) fun b =>
 some b
def qh(c:eo):Option Bool :=
 jp (S:=Unit) (fun _ =>
  some ((!decide (c=[]))&&(decide ((c.length:Int)<=40)))) fun g =>
 forL c 0 (fun i b s f j =>
  bif (((decide ((i:Int)=0))&&(!((decide (97<=(b.toNat:Int)))&&(decide ((b.toNat:Int)<=122)))))||((((!((decide (97<=(b.toNat:Int)))&&(decide ((b.toNat:Int)<=122))))&&((decide ((b.toNat:Int)<48))||(decide (57<(b.toNat:Int)))))&&(!decide ((b.toNat:Int)=45)))&&(!decide ((b.toNat:Int)=46))))then
   some false
  else
  f ()) () (fun _ =>
  g ())
def B2(b:eo):Option Bool :=
 jp (S:=Unit) (fun _ =>
  some (decide ((b.length:Int)<=1000))) fun g =>
 forL b 0 (fun i c s f j =>
  bif ((decide ((c.toNat:Int)<32))||(decide (126<(c.toNat:Int))))then
   some false
  else
  f ()) () (fun _ =>
  g ())
def Pw(b:eo)(c:eo):Option Int :=
 some (eU b c)
def tY(b:eo)(c:eo):Option Int :=
 call (Pw b c) fun f =>
 some f
def Ul(b:ab)(c:ab):Option Int :=
 call (tY b.r c.r) fun f =>
 some f
def zx(g:Int)(t:Int)(l:List ab):Option (List ab) :=
 loopN fv (fun s m u =>
  match s with
  |(i,f) =>
   bif decide (i<t)then
    jp (S:=List ab) (fun j =>
     m (IntKind.i64.wrap (i+1),j)) fun n =>
    loopN fv (fun s k o =>
     match s with
     |(b,c) =>
      ey ((decide (g<b))=true->(0<=b/\b<(c.length:Int))) <|
      ey ((decide (g<b))=true->(0<=IntKind.i64.wrap (b-1)/\IntKind.i64.wrap (b-1)<(c.length:Int))) <|
      callG (decide (g<b)) (Ul (ab.mk ((c.getD b.toNat (ab.mk [] [])).r) ((c.getD b.toNat (ab.mk [] [])).Value)) (ab.mk ((c.getD ((IntKind.i64.wrap (b-1)).toNat) (ab.mk [] [])).r) ((c.getD ((IntKind.i64.wrap (b-1)).toNat) (ab.mk [] [])).Value))) 0 fun p =>
      bif ((decide (g<b))&&(decide (p<0)))then
       ey (0<=IntKind.i64.wrap (b-1)/\IntKind.i64.wrap (b-1)<(c.length:Int)) <|
       ey (0<=b/\b<(c.length:Int)) <|
       ey (0<=b/\b<(c.length:Int)) <|
       ey (0<=IntKind.i64.wrap (b-1)/\IntKind.i64.wrap (b-1)<((List.set c b.toNat (ab.mk ((c.getD ((IntKind.i64.wrap (b-1)).toNat) (ab.mk [] [])).r) ((c.getD ((IntKind.i64.wrap (b-1)).toNat) (ab.mk [] [])).Value))).length:Int)) <|
       k (IntKind.i64.wrap (b-1),List.set (List.set c b.toNat (ab.mk ((c.getD ((IntKind.i64.wrap (b-1)).toNat) (ab.mk [] [])).r) ((c.getD ((IntKind.i64.wrap (b-1)).toNat) (ab.mk [] [])).Value))) ((IntKind.i64.wrap (b-1)).toNat) (ab.mk ((c.getD b.toNat (ab.mk [] [])).r) ((c.getD b.toNat (ab.mk [] [])).Value)))
      else
      o (b,c)) (i,f) (fun s=>match s with
     |(b,c) =>
      n c)
   else
   u (i,f)) (IntKind.i64.wrap (g+1),l) (fun s=>match s with
  |(i,f) =>
   some f)
def Vk(g:Int)(l:List ab):Option (List ab) :=
 jp (S:=Int×List ab) (fun s=>match s with
  |(z,m) =>
   call (zx z g m) fun B =>
   loopN fv (fun b j n =>
    bif decide (b<g)then
     jp (S:=Unit) (fun _ =>
      bif decide ((IntKind.i64.wrap (0+b))<g)then
       none
      else
      j (IntKind.i64.wrap (b*2))) fun o =>
     loopN fv (fun s C p =>
      bif decide ((IntKind.i64.wrap (2*b))<=g)then
       none
      else
      p ()) () (fun _ =>
      o ())
    else
    n b) 20 (fun b =>
    some B)) fun t =>
 loopN fv (fun s k u =>
  match s with
  |(i,c,f) =>
   bif decide (c<=g)then
    call (zx i c f) fun v =>
    k (c,IntKind.i64.wrap (c+20),v)
   else
   u (i,c,f)) (0,20,l) (fun s=>match s with
  |(i,c,f) =>
   t (i,f))
def zK(b:List ab):Option (List ab) :=
 call (Vk (b.length:Int) b) fun c =>
 some c
def MM(b:ab)(c:ab):Option Bool :=
 some (decide (b.r=c.r))
def zN(b:List ab):Option (Nat×Nat×List ab) :=
 bif decide (((List.take b.length b).length:Int)<2)then
  some (0,b.length,b)
 else
 jp (S:=Unit) (fun _ =>
  some (0,b.length,b)) fun z =>
 loopN fv (fun c m n =>
  bif decide (c<((List.take b.length b).length:Int))then
   jp (S:=Unit) (fun _ =>
    m (IntKind.i64.wrap (c+1))) fun o =>
   ey (0<=c/\c<(b.length:Int)) <|
   ey (0<=IntKind.i64.wrap (c-1)/\IntKind.i64.wrap (c-1)<(b.length:Int)) <|
   call (MM (ab.mk ((b.getD (c.toNat:Nat) (ab.mk [] [])).r) ((b.getD (c.toNat:Nat) (ab.mk [] [])).Value)) (ab.mk ((b.getD ((IntKind.i64.wrap (c-1)).toNat:Nat) (ab.mk [] [])).r) ((b.getD ((IntKind.i64.wrap (c-1)).toNat:Nat) (ab.mk [] [])).Value))) fun p =>
   bif p then
    ey (0<=c/\c<=(b.length:Int)) <|
    jp (S:=Int×List ab) (fun s=>match s with
     |(i,k) =>
      ey (0<=i/\i<=(b.length:Int)) <|
      ey (0<=i/\i<=(b.length:Int)) <|
      some (0,i.toNat,List.take i.toNat k++List.replicate (b.length-i.toNat) (ab.mk [] [])++List.drop (i.toNat+(b.length-i.toNat)) k)) fun t =>
    loopN fv (fun s l u =>
     match s with
     |(j,f,g) =>
      bif decide (f<((List.take (b.length-c.toNat) (List.drop c.toNat g)).length:Int))then
       ey (0<=f/\f<(b.length-c.toNat:Int)) <|
       ey (c.toNat+f.toNat<g.length) <|
       ey (0<=IntKind.i64.wrap (f-1)/\IntKind.i64.wrap (f-1)<(b.length-c.toNat:Int)) <|
       ey (c.toNat+((IntKind.i64.wrap (f-1)).toNat)<g.length) <|
       call (MM (ab.mk ((g.getD (c.toNat+f.toNat:Nat) (ab.mk [] [])).r) ((g.getD (c.toNat+f.toNat:Nat) (ab.mk [] [])).Value)) (ab.mk ((g.getD (c.toNat+((IntKind.i64.wrap (f-1)).toNat):Nat) (ab.mk [] [])).r) ((g.getD (c.toNat+((IntKind.i64.wrap (f-1)).toNat):Nat) (ab.mk [] [])).Value))) fun v =>
       bif !v then
        ey (0<=f/\f<(b.length-c.toNat:Int)) <|
        ey (c.toNat+f.toNat<g.length) <|
        ey (0<=j/\j<(b.length:Int)) <|
        ey (j.toNat<g.length) <|
        l (IntKind.i64.wrap (j+1),IntKind.i64.wrap (f+1),List.set g (j.toNat:Nat) (ab.mk ((g.getD (c.toNat+f.toNat:Nat) (ab.mk [] [])).r) ((g.getD (c.toNat+f.toNat:Nat) (ab.mk [] [])).Value)))
       else
       l (j,IntKind.i64.wrap (f+1),g)
      else
      u (j,f,g)) (c,1,b) (fun s=>match s with
     |(j,f,g) =>
      t (j,g))
   else
   o ()
  else
  n c) 1 (fun c =>
  z ())
def ii(b:Bool)(c:Int):Option Int :=
 bif b then
  some c
 else
 some 0
def A1(f:Int)(c:eo)(b:eo):Option (Int×eo) :=
 call (ii ((decide (0<f))&&(kK c b||decide (c=b))) 7) fun g =>
 some (g,c)
def g8(f:List Int):Option Int :=
 jp (S:=Unit) (fun _ =>
  some 0) fun g =>
 forL f 0 (fun i b s c j =>
  bif !decide (b=0)then
   some b
  else
  c ()) () (fun _ =>
  g ())
def Vn(b:eo)(c:Int):Option Int :=
 some (w8 b c)
def PC(c:eo)(b:eo):Option Int :=
 bif ((decide ((b.length:Int)=0))||(decide (b=c)))then
  some 0
 else
 bif decide ((b.length:Int)=1)then
  jn b 0 fun f =>
  call (Vn c f) fun g =>
  some g
 else
 bif decide ((c.length:Int)<=(b.length:Int))then
  some (-1)
 else
 none
def LH(c:eo)(b:eo):Option Int :=
 call (PC c b) fun f =>
 some f
def O4(i:eo)(b:eo):Option Int :=
 bif decide ((b.length:Int)=0)then
  none
 else
 bif decide ((b.length:Int)=1)then
  jn b 0 fun k =>
  some (xz i k)
 else
 loopN fv (fun s j l =>
  match s with
  |(c,g) =>
   call (LH c b) fun f =>
   bif decide (f=(-1))then
    some g
   else
   ey (0<=IntKind.i64.wrap (f+(b.length:Int))/\IntKind.i64.wrap (f+(b.length:Int))<=(c.length:Int)) <|
   j (List.drop ((IntKind.i64.wrap (f+(b.length:Int))).toNat) c,IntKind.i64.wrap (g+1))) (i,0) (fun s=>match s with
  |(c,g) =>
   none)
def Ba(j:eo)(c:eo)(b:Int)(o:Int):Option (List eo) :=
 bif decide (o=0)then
  some []
 else
 bif decide (c=[])then
  none
 else
 jp (S:=Int) (fun m =>
  ey (0<=min m (IntKind.i64.wrap ((j.length:Int)+1))/\min m (IntKind.i64.wrap ((j.length:Int)+1))<=min m (IntKind.i64.wrap ((j.length:Int)+1))/\min m (IntKind.i64.wrap ((j.length:Int)+1))<=274877906944) <|
  jp (S:=eo×Int×List eo) (fun s=>match s with
   |(p,k,n) =>
    ey (0<=k/\k<(n.length:Int)) <|
    ey (0<=IntKind.i64.wrap (k+1)/\IntKind.i64.wrap (k+1)<=((List.set n k.toNat p).length:Int)) <|
    some (List.take ((IntKind.i64.wrap (k+1)).toNat) (List.set n k.toNat p))) fun z =>
  loopN fv (fun s v t =>
   match s with
   |(f,g,i) =>
    bif decide (g<(IntKind.i64.wrap ((min m (IntKind.i64.wrap ((j.length:Int)+1)))-1)))then
     call (LH f c) fun l =>
     bif decide (l<0)then
      t (f,g,i)
     else
     ey (0<=IntKind.i64.wrap (l+b)/\IntKind.i64.wrap (l+b)<=(f.length:Int)) <|
     ey (0<=g/\g<(i.length:Int)) <|
     ey (0<=IntKind.i64.wrap (l+(c.length:Int))/\IntKind.i64.wrap (l+(c.length:Int))<=(f.length:Int)) <|
     v (List.drop ((IntKind.i64.wrap (l+(c.length:Int))).toNat) f,IntKind.i64.wrap (g+1),List.set i g.toNat (List.take ((IntKind.i64.wrap (l+b)).toNat) f))
    else
    t (f,g,i)) (j,0,List.replicate ((min m (IntKind.i64.wrap ((j.length:Int)+1))).toNat) []) (fun s=>match s with
   |(f,g,i) =>
    z (f,g,i))) fun u =>
 bif decide (o<0)then
  call (O4 j c) fun B =>
  u (IntKind.i64.wrap (B+1))
 else
 u o
def LI(c:eo)(b:eo):Option (List eo) :=
 call (Ba c b 0 (-1)) fun f =>
 some f
def Mu(c:eo):Option Bool :=
 jp (S:=Unit) (fun _ =>
  some ((((!decide (c=[]))&&(decide ((c.length:Int)<=40)))&&(!decide (c=([46]:eo))))&&(!decide (c=([46,46]:eo))))) fun g =>
 forL c 0 (fun i b s f j =>
  bif (((((((decide ((b.toNat:Int)<97))||(decide (122<(b.toNat:Int))))&&((decide ((b.toNat:Int)<65))||(decide (90<(b.toNat:Int)))))&&((decide ((b.toNat:Int)<48))||(decide (57<(b.toNat:Int)))))&&(!decide ((b.toNat:Int)=45)))&&(!decide ((b.toNat:Int)=46)))&&(!decide ((b.toNat:Int)=95)))then
   some false
  else
  f ()) () (fun _ =>
  g ())
def tn(b:eo):Option Bool :=
 jp (S:=Unit) (fun _ =>
  some (decide ((b.length:Int)<=200))) fun f =>
 call (LI b ([47]:eo)) fun g =>
 forL g 0 (fun k i s c l =>
  call (Mu i) fun j =>
  bif !j then
   some false
  else
  c ()) () (fun _ =>
  f ())
def Ll(b:ae):Option Int :=
 call (tn b.a) fun c =>
 call (ii (!c) 5) fun f =>
 call (ii (decide (65536<(b.F.length:Int))) 4) fun g =>
 call (g8 [f,g]) fun i =>
 some i
def LN(b:ab):Option Int :=
 call (tn b.r) fun c =>
 call (ii (!c) 5) fun f =>
 call (B2 b.Value) fun g =>
 call (ii (!g) 2) fun i =>
 call (g8 [f,i]) fun j =>
 some j
def LM(b:ah):Option Int :=
 call (qh b.C) fun c =>
 callG (!(!c)) (tn b.a) false fun f =>
 call (ii ((!c)||(!f)) 5) fun g =>
 some g
def w9(f:aj):Option Int :=
 bif ((((decide (100<(f.D.length:Int)))||(decide (2000<(f.u.length:Int))))||(decide (2000<(f.B.length:Int))))||(decide (100<(f.A.length:Int))))then
  some 4
 else
 jp (S:=eo) (fun o =>
  jp (S:=eo) (fun p =>
   jp (S:=eo) (fun t =>
    jp (S:=Unit) (fun _ =>
     some 0) fun Y =>
    forL f.A 0 (fun Z z k U aw =>
     call (LM z) fun a0 =>
     call (A1 (Z:Int) z.C k) fun E =>
     call (g8 [a0,E.1]) fun F =>
     bif !decide (F=0)then
      some F
     else
     U E.2) t (fun k =>
     Y ())) fun a1 =>
   forL f.B 0 (fun a2 G i V az =>
    call (LN G) fun a3 =>
    call (A1 (a2:Int) G.r i) fun I =>
    call (g8 [a3,I.1]) fun J =>
    bif !decide (J=0)then
     some J
    else
    V I.2) p (fun i =>
    a1 i)) fun a4 =>
  forL f.u 0 (fun a5 g s W aA =>
   match s with
   |(j,l) =>
    jp (S:=eo) (fun v =>
     W (v,eD l g.a true)) fun a6 =>
    call (Ll g) fun a7 =>
    call (A1 (a5:Int) g.a j) fun L =>
    call (g8 [a7,L.1]) fun M =>
    jp (S:=Int) (fun N =>
     bif !decide (N=0)then
      some N
     else
     ey ((eD l g.a true).length<=274877906944) <|
     a6 L.2) fun O =>
    bif decide (M=0)then
     loopN fv (fun s m a8 =>
      match s with
      |(n,b) =>
       bif decide (b<(g.a.length:Int))then
        jn g.a b fun P =>
        ey ((decide (P=47))=true->(0<=b/\b<=(g.a.length:Int))) <|
        fc (zS l (List.take b.toNat g.a)) fun a9 =>
        bif ((decide (P=47))&&(a9.getD false))then
         m (11,IntKind.i64.wrap (b+1))
        else
        m (n,IntKind.i64.wrap (b+1))
       else
       a8 (n,b)) (M,0) (fun s=>match s with
      |(n,b) =>
       O n)
    else
    O M) (o,[]) (fun s=>match s with
   |(j,l) =>
    a4 j)) fun ac =>
 forL f.D 0 (fun ad Q c X aB =>
  call (qh Q.r) fun af =>
  call (ii (!af) 5) fun ag =>
  call (B2 Q.Value) fun an =>
  call (ii (!an) 2) fun av =>
  call (A1 (ad:Int) Q.r c) fun R =>
  call (g8 [ag,av,R.1]) fun T =>
  bif !decide (T=0)then
   some T
  else
  X R.2) [] (fun c =>
  ac c)
def tQ(g:aj):Option ((List (eo×ae))×(List (eo×eo))×(List (eo×ah))×List ab) :=
 jp (S:=(List (eo×ae))) (fun p =>
  jp (S:=(List (eo×eo))) (fun t =>
   jp (S:=(List (eo×ah))) (fun l =>
    some (p,t,l,g.D)) fun v =>
   forL g.A 0 (fun F i b m G =>
    ey ((eD b i.C i).length<=274877906944) <|
    m (eD b i.C i)) [] (fun b =>
    v b)) fun z =>
  forL g.B 0 (fun I j c n J =>
   ey ((eD c j.r j.Value).length<=274877906944) <|
   n (eD c j.r j.Value)) [] (fun c =>
   z c)) fun E =>
 forL g.u 0 (fun L k f o M =>
  ey ((eD f k.a k).length<=274877906944) <|
  o (eD f k.a k)) [] (fun f =>
  E f)
def LF(b:ai):Option Int :=
 jp (S:=Int×eo×eo×Bool×eo×eo×eo×eo×Bool×Bool) (fun s=>match s with
  |(P,l,m,n,o,p,t,f,i,k) =>
   call (ii (!(true&&((decide (l=[]))&&((decide (m=[]))&&((decide (n=false))&&((decide (o=[]))&&((decide (p=[]))&&((decide (t=[]))&&((decide (f=[]))&&((decide (i=false))&&(decide (k=false)))))))))))) 2) fun u =>
   call (g8 [P,u]) fun v =>
   some v) fun c =>
 bif decide (b.g=1)then
  call (Ll b.j) fun z =>
  c (z,[],[],false,b.x.r,b.x.Value,b.h.C,b.h.a,b.h.H,b.h.I)
 else
 bif decide (b.g=2)then
  call (tn b.j.a) fun B =>
  call (ii (!B) 5) fun D =>
  c (D,[],b.j.F,b.j.G,b.x.r,b.x.Value,b.h.C,b.h.a,b.h.H,b.h.I)
 else
 bif decide (b.g=3)then
  call (LN b.x) fun E =>
  c (E,b.j.a,b.j.F,b.j.G,[],[],b.h.C,b.h.a,b.h.H,b.h.I)
 else
 bif decide (b.g=4)then
  call (tn b.x.r) fun J =>
  call (ii (!J) 5) fun L =>
  c (L,b.j.a,b.j.F,b.j.G,[],b.x.Value,b.h.C,b.h.a,b.h.H,b.h.I)
 else
 bif decide (b.g=5)then
  call (LM b.h) fun M =>
  c (M,b.j.a,b.j.F,b.j.G,b.x.r,b.x.Value,[],[],false,false)
 else
 bif decide (b.g=6)then
  call (qh b.h.C) fun N =>
  call (ii (!N) 5) fun O =>
  c (O,b.j.a,b.j.F,b.j.G,b.x.r,b.x.Value,[],b.h.a,b.h.H,b.h.I)
 else
 some 1
def Px(c:eo)(b:eo):Option Bool :=
 ey ((decide ((b.length:Int)<=(c.length:Int)))=true->(0<=(b.length:Int)/\(b.length:Int)<=(c.length:Int))) <|
 some ((decide ((b.length:Int)<=(c.length:Int)))&&(decide ((List.take b.length c)=b)))
def z6(c:eo)(b:eo):Option Bool :=
 call (Px c b) fun f =>
 some f
def tg(c:eo)(b:eo):Option Bool :=
 ey ((b++([47]:eo)).length<=274877906944) <|
 call (z6 c (b++([47]:eo))) fun f =>
 some f
def xP(b:ai)(J:List ab)(c:List (eo×ae))(f:List (eo×eo))(i:List (eo×ah)):Option (Int×(List (eo×ae))×(List (eo×eo))×(List (eo×ah))) :=
 call (LF b) fun o =>
 bif !decide (o=0)then
  some (o,c,f,i)
 else
 jp (S:=(List (eo×ae))×(List (eo×eo))×(List (eo×ah))) (fun s=>match s with
  |(u,l,m) =>
   some (0,u,l,m)) fun k =>
 bif decide (b.g=2)then
  fc (zS c b.j.a) fun v =>
  bif !v.isSome then
   some (10,c,f,i)
  else
  k (jm c b.j.a,f,i)
 else
 bif decide (b.g=4)then
  fc (zS f b.x.r) fun z =>
  bif !z.isSome then
   some (10,c,f,i)
  else
  k (c,jm f b.x.r,i)
 else
 bif decide (b.g=6)then
  fc (zS i b.h.C) fun B =>
  bif !B.isSome then
   some (10,c,f,i)
  else
  k (c,f,jm i b.h.C)
 else
 bif decide (b.g=1)then
  jp (S:=Unit) (fun _ =>
   fc (zS c b.j.a) fun D =>
   bif ((!D.isSome)&&(decide (2000<=(c.length:Int))))then
    some (4,c,f,i)
   else
   ey ((eD c b.j.a b.j).length<=274877906944) <|
   k (eD c b.j.a b.j,f,i)) fun E =>
  forM (fun p s n L =>
   call (tg p.1 b.j.a) fun t =>
   callG (!t) (tg b.j.a p.1) false fun F =>
   bif (t||F)then
    some (11,c,f,i)
   else
   n ()) c.length c () (fun _ =>
   E ())
 else
 bif decide (b.g=3)then
  fc (zS f b.x.r) fun G =>
  bif ((!G.isSome)&&(decide (2000<=(f.length:Int))))then
   some (4,c,f,i)
  else
  ey ((eD f b.x.r b.x.Value).length<=274877906944) <|
  k (c,eD f b.x.r b.x.Value,i)
 else
 fc (zS i b.h.C) fun I =>
 bif ((!I.isSome)&&(decide (100<=(i.length:Int))))then
  some (4,c,f,i)
 else
 ey ((eD i b.h.C b.h).length<=274877906944) <|
 k (c,f,eD i b.h.C b.h)
def PA(b:List ab):Option (List ab) :=
 tD (fun c:Bool=>c=true->b=[]) fun c =>
 bif c then
  some []
 else
 ey (([]++b).length<=274877906944) <|
 some ([]++b)
def UY(o0:List eo):Option (List eo):=some (sortS o0)
def U5(c:List (eo×ae)):Option (List eo) :=
 jp (S:=List eo) (fun g =>
  call (UY g) fun j =>
  some j) fun k =>
 forM (fun f b i l =>
  ey ((b++[f.1]).length<=274877906944) <|
  i (b++[f.1])) c.length c [] (fun b =>
  k b)
def U0(c:List (eo×eo)):Option (List eo) :=
 jp (S:=List eo) (fun g =>
  call (UY g) fun j =>
  some j) fun k =>
 forM (fun f b i l =>
  ey ((b++[f.1]).length<=274877906944) <|
  i (b++[f.1])) c.length c [] (fun b =>
  k b)
def U9(c:List (eo×ah)):Option (List eo) :=
 jp (S:=List eo) (fun g =>
  call (UY g) fun j =>
  some j) fun k =>
 forM (fun f b i l =>
  ey ((b++[f.1]).length<=274877906944) <|
  i (b++[f.1])) c.length c [] (fun b =>
  k b)
def LR(g:List ab)(i:List (eo×ae))(j:List (eo×eo))(k:List (eo×ah)):Option aj :=
 call (PA g) fun C =>
 jp (S:=List ae) (fun n =>
  jp (S:=List ab) (fun o =>
   jp (S:=List ah) (fun p =>
    some (aj.mk C n o p)) fun D =>
   call (U9 k) fun E =>
   forL E 0 (fun N F b t O =>
    fc (zS k F) fun z =>
    ey ((b++[(z.getD (ah.mk [] [] false false))]).length<=274877906944) <|
    t (b++[(z.getD (ah.mk [] [] false false))])) [] (fun b =>
    D b)) fun G =>
  call (U0 j) fun I =>
  forL I 0 (fun P l c u Q =>
   fc (zS j l) fun B =>
   ey ((c++[(ab.mk l (B.getD []))]).length<=274877906944) <|
   u (c++[(ab.mk l (B.getD []))])) [] (fun c =>
   G c)) fun J =>
 call (U5 i) fun L =>
 forL L 0 (fun R M f v T =>
  fc (zS i M) fun m =>
  ey ((f++[(m.getD (ae.mk [] [] false))]).length<=274877906944) <|
  v (f++[(m.getD (ae.mk [] [] false))])) [] (fun f =>
  J f)
def AD(m:aj)(v:List ai):Option (aj×Int) :=
 call (w9 m) fun n =>
 bif !decide (n=0)then
  some ((aj.mk [] [] [] []),n)
 else
 call (tQ m) fun b =>
 jp (S:=(List (eo×ae))×(List (eo×eo))×(List (eo×ah))) (fun s=>match s with
  |(o,j,k) =>
   call (LR b.2.2.2 o j k) fun p =>
   some (p,0)) fun t =>
 forL v 0 (fun z u s l B =>
  match s with
  |(f,g,i) =>
   call (xP u b.2.2.2 f g i) fun c =>
   bif !decide (c.1=0)then
    some ((aj.mk [] [] [] []),c.1)
   else
   l (c.2.1,c.2.2.1,c.2.2.2)) (b.1,b.2.1,b.2.2.1) (fun s=>match s with
  |(f,g,i) =>
   t (f,g,i))
def AZ(j:ai)(b:List ab)(c:List ae)(f:List ab)(g:List ah):Option (List ab×List ae×List ab×List ah) :=
 call (AD (aj.mk b c f g) [j]) fun i =>
 bif decide (i.2=0)then
  some (i.1.D,i.1.u,i.1.B,i.1.A)
 else
 some (b,c,f,g)
def L3(b:aj):Option aj :=
 jp (S:=List ab) (fun a1 =>
  call (zK a1) fun a5 =>
  call (zN a5) fun Z =>
  jp (S:=List ab×List ae×List ab×List ah) (fun s=>match s with
   |(M,N,O,P) =>
    jp (S:=List ab×List ae×List ab×List ah) (fun s=>match s with
     |(Q,R,T,U) =>
      jp (S:=List ab×List ae×List ab×List ah) (fun s=>match s with
       |(V,W,X,Y) =>
        some (aj.mk V W X Y)) fun a6 =>
      ey (0<=min (b.A.length:Int) 40/\min (b.A.length:Int) 40<=(b.A.length:Int)) <|
      forL (List.take ((min (b.A.length:Int) 40).toNat) b.A) 0 (fun ag a7 s a2 an =>
       match s with
       |(v,c,f,g) =>
        call (AZ (ai.mk 5 (ae.mk [] [] false) (ab.mk [] []) a7) v c f g) fun C =>
        a2 (C.1,C.2.1,C.2.2.1,C.2.2.2)) (Q,R,T,U) (fun s=>match s with
       |(v,c,f,g) =>
        a6 (v,c,f,g))) fun a8 =>
    ey (0<=min (b.B.length:Int) 40/\min (b.B.length:Int) 40<=(b.B.length:Int)) <|
    forL (List.take ((min (b.B.length:Int) 40).toNat) b.B) 0 (fun av a9 s a3 aw =>
     match s with
     |(i,j,k,l) =>
      call (AZ (ai.mk 3 (ae.mk [] [] false) a9 (ah.mk [] [] false false)) i j k l) fun E =>
      a3 (E.1,E.2.1,E.2.2.1,E.2.2.2)) (M,N,O,P) (fun s=>match s with
     |(i,j,k,l) =>
      a8 (i,j,k,l))) fun ac =>
  ey (0<=min (b.u.length:Int) 40/\min (b.u.length:Int) 40<=(b.u.length:Int)) <|
  forL (List.take ((min (b.u.length:Int) 40).toNat) b.u) 0 (fun az z s a4 aA =>
   match s with
   |(m,n,o,p) =>
    ey (0<=min (z.F.length:Int) 3000/\min (z.F.length:Int) 3000<=(z.F.length:Int)) <|
    call (AZ (ai.mk 1 (ae.mk z.a (List.take ((min (z.F.length:Int) 3000).toNat) z.F) z.G) (ab.mk [] []) (ah.mk [] [] false false)) m n o p) fun I =>
    a4 (I.1,I.2.1,I.2.2.1,I.2.2.2)) (List.take Z.2.1 (List.drop Z.1 Z.2.2),[],[],[]) (fun s=>match s with
   |(m,n,o,p) =>
    ac (m,n,o,p))) fun ad =>
 forL b.D 0 (fun aB J t L aC =>
  call (qh J.r) fun a0 =>
  callG a0 (B2 J.Value) false fun af =>
  bif ((a0&&af)&&(decide ((t.length:Int)<20)))then
   ey ((t++[J]).length<=274877906944) <|
   L (t++[J])
  else
  L t) [] (fun t =>
  ad t)
def L7(c:eo):Option Bool :=
 jp (S:=Unit) (fun _ =>
  some (decide ((c.length:Int)=16))) fun g =>
 forL c 0 (fun i b s f j =>
  bif (((decide ((b.toNat:Int)<48))||(decide (57<(b.toNat:Int))))&&((decide ((b.toNat:Int)<97))||(decide (102<(b.toNat:Int)))))then
   some false
  else
  f ()) () (fun _ =>
  g ())
def Vl(b:Int):Option Bool :=
 some (decide ((gv .and .i64 b (IntKind.i64.wrap (b-1)))=0))
def Xt(b:Int):Option Int :=
 bif decide (b=0)then
  some 64
 else
 ey (0<=Int.fdiv (IntKind.u64.wrap ((gv .and .u64 b (IntKind.u64.wrap (-b)))*285870213051353865)) (2^(jx .u64 58))/\Int.fdiv (IntKind.u64.wrap ((gv .and .u64 b (IntKind.u64.wrap (-b)))*285870213051353865)) (2^(jx .u64 58))<(64:Int)) <|
 some (IntKind.i64.wrap (tabL_5.getD ((Int.fdiv (IntKind.u64.wrap ((gv .and .u64 b (IntKind.u64.wrap (-b)))*285870213051353865)) (2^(jx .u64 58))).toNat) 0))
def U8(b:Int):Option Int :=
 call (Xt b) fun c =>
 some c
def PE(Y:List Int)(B:Int)(b:Int)(t:Bool)(append__23:Bool):Option (List Int×eo) :=
 jp (S:=Unit) (fun _ =>
  jp (S:=Int) (fun C =>
   jp (S:=Int×List Int) (fun s=>match s with
    |(u,m) =>
     jp (S:=Int×List Int) (fun s=>match s with
      |(k,n) =>
       bif append__23 then
        ey (n.length=65/\0<=k/\k<=(65:Int)) <|
        none
       else
       ey (n.length=65/\0<=k/\k<=(65:Int)) <|
       some ([],Go.Vc.strOf (List.take (65-k.toNat) (List.drop k.toNat n)))) fun D =>
     bif t then
      ey (0<=IntKind.i64.wrap (u-1)/\IntKind.i64.wrap (u-1)<(65:Int)/\65=m.length) <|
      D (IntKind.i64.wrap (u-1),List.set m ((IntKind.i64.wrap (u-1)).toNat) 45)
     else
     D (u,m)) fun E =>
   call (Vl b) fun L =>
   bif L then
    call (U8 (IntKind.u64.wrap b)) fun F =>
    jp (S:=Int×Int×List Int) (fun s=>match s with
     |(M,o,v) =>
      jn ([48,49,50,51,52,53,54,55,56,57,97,98,99,100,101,102,103,104,105,106,107,108,109,110,111,112,113,114,115,116,117,118,119,120,121,122]:eo) M fun N =>
      ey (0<=IntKind.i64.wrap (o-1)/\IntKind.i64.wrap (o-1)<(65:Int)/\65=v.length) <|
      E (IntKind.i64.wrap (o-1),List.set v ((IntKind.i64.wrap (o-1)).toNat) N)) fun O =>
    loopN fv (fun s I P =>
     match s with
     |(l,c,f) =>
      bif decide ((IntKind.u64.wrap b)<=l)then
       jn ([48,49,50,51,52,53,54,55,56,57,97,98,99,100,101,102,103,104,105,106,107,108,109,110,111,112,113,114,115,116,117,118,119,120,121,122]:eo) (gv .and .u64 l (IntKind.u64.wrap ((IntKind.u64.wrap b)-1))) fun Q =>
       ey (0<=IntKind.i64.wrap (c-1)/\IntKind.i64.wrap (c-1)<(65:Int)/\65=f.length) <|
       ey (0<=(IntKind.u64.wrap F)) <|
       I (Int.fdiv l (2^(jx .u64 (IntKind.u64.wrap F))),IntKind.i64.wrap (c-1),List.set f ((IntKind.i64.wrap (c-1)).toNat) Q)
      else
      P (l,c,f)) (C,65,List.replicate 65 0) (fun s=>match s with
     |(l,c,f) =>
      O (l,c,f))
   else
   jp (S:=Int×Int×List Int) (fun s=>match s with
    |(R,p,z) =>
     jn ([48,49,50,51,52,53,54,55,56,57,97,98,99,100,101,102,103,104,105,106,107,108,109,110,111,112,113,114,115,116,117,118,119,120,121,122]:eo) R fun T =>
     ey (0<=IntKind.i64.wrap (p-1)/\IntKind.i64.wrap (p-1)<(65:Int)/\65=z.length) <|
     E (IntKind.i64.wrap (p-1),List.set z ((IntKind.i64.wrap (p-1)).toNat) T)) fun U =>
   loopN fv (fun s J V =>
    match s with
    |(g,i,j) =>
     bif decide ((IntKind.u64.wrap b)<=g)then
      ey (¬ (IntKind.u64.wrap b)=0) <|
      jn ([48,49,50,51,52,53,54,55,56,57,97,98,99,100,101,102,103,104,105,106,107,108,109,110,111,112,113,114,115,116,117,118,119,120,121,122]:eo) (IntKind.u64.wrap (g-(IntKind.u64.wrap ((IntKind.u64.wrap (Int.tdiv g (IntKind.u64.wrap b)))*(IntKind.u64.wrap b))))) fun W =>
      ey (0<=IntKind.i64.wrap (i-1)/\IntKind.i64.wrap (i-1)<(65:Int)/\65=j.length) <|
      J (IntKind.u64.wrap (Int.tdiv g (IntKind.u64.wrap b)),IntKind.i64.wrap (i-1),List.set j ((IntKind.i64.wrap (i-1)).toNat) W)
     else
     V (g,i,j)) (C,65,List.replicate 65 0) (fun s=>match s with
    |(g,i,j) =>
     U (g,i,j))) fun G =>
  bif t then
   G (IntKind.u64.wrap (-B))
  else
  G B) fun X =>
 bif (((decide (b<2))||(decide (b=10)))||(decide (36<b)))then
  none
 else
 X ()
def U7(c:Int)(b:Int):Option eo :=
 bif decide (b=10)then
  bif decide (c<100)then
   none
  else
  none
 else
 call (PE [] c b false false) fun f =>
 some f.2
def Ps(c:Int)(b:Int):Option eo :=
 call (U7 c b) fun f =>
 some f
def WZ(b:Int)(c:Int):Option (Int×Int) :=
 some (IntKind.u64.wrap ((IntKind.u64.wrap ((IntKind.u64.wrap ((Int.fdiv b (2^(jx .u64 32)))*(Int.fdiv c (2^(jx .u64 32)))))+(Int.fdiv (IntKind.u64.wrap ((IntKind.u64.wrap ((Int.fdiv b (2^(jx .u64 32)))*(gv .and .u64 c 4294967295)))+(Int.fdiv (IntKind.u64.wrap ((gv .and .u64 b 4294967295)*(gv .and .u64 c 4294967295))) (2^(jx .u64 32))))) (2^(jx .u64 32)))))+(Int.fdiv (IntKind.u64.wrap ((gv .and .u64 (IntKind.u64.wrap ((IntKind.u64.wrap ((Int.fdiv b (2^(jx .u64 32)))*(gv .and .u64 c 4294967295)))+(Int.fdiv (IntKind.u64.wrap ((gv .and .u64 b 4294967295)*(gv .and .u64 c 4294967295))) (2^(jx .u64 32))))) 4294967295)+(IntKind.u64.wrap ((gv .and .u64 b 4294967295)*(Int.fdiv c (2^(jx .u64 32))))))) (2^(jx .u64 32)))),IntKind.u64.wrap (b*c))
def UR(c:Int)(f:Int):Option (Int×Int) :=
 call (WZ c f) fun b =>
 some (b.1,b.2)
def Po(n:Int)(o0:eo):Option Unit:=ey (0<=n/\n<=274877906944) <| some ()
def Z5(b:eo):Option Unit :=
 some ()
def Z6(b:eo):Option Unit :=
 some ()
def Xs(o0:eo):Option Unit:=some ()
def zw(c:eo)(b:eo):Option (Int×eo) :=
 call (Xs b) fun f =>
 ey ((b++c).length<=274877906944) <|
 some ((c.length:Int),b++c)
def Pp(b:eo):Option Int :=
 some (b.length:Int)
def Be(b:eo):Option eo :=
 some b
def Pg(c:eo)(i:Int):Option eo :=
 bif decide (i=0)then
  some []
 else
 bif decide (i=1)then
  some c
 else
 jp (S:=Unit) (fun _ =>
  call (UR (IntKind.u64.wrap (c.length:Int)) (IntKind.u64.wrap i)) fun b =>
  jp (S:=Unit) (fun _ =>
   bif decide ((c.length:Int)=0)then
    some []
   else
   jp (S:=Unit) (fun _ =>
    jp (S:=Int) (fun f =>
     call (Po (IntKind.i64.wrap b.2) []) fun P =>
     call (zw c []) fun z =>
     jp (S:=eo) (fun u =>
      call (Be u) fun B =>
      some B) fun C =>
     loopN fv (fun g v D =>
      call (Pp g) fun E =>
      bif decide (E<(IntKind.i64.wrap b.2))then
       call (Pp g) fun m =>
       call (Pp g) fun n =>
       call (Be g) fun o =>
       ey (0<=min (min (IntKind.i64.wrap ((IntKind.i64.wrap b.2)-m)) n) f/\min (min (IntKind.i64.wrap ((IntKind.i64.wrap b.2)-m)) n) f<=(o.length:Int)) <|
       call (zw (List.take ((min (min (IntKind.i64.wrap ((IntKind.i64.wrap b.2)-m)) n) f).toNat) o) g) fun F =>
       v F.2
      else
      D g) z.2 (fun g =>
      C g)) fun l =>
    bif decide (8192<(IntKind.i64.wrap b.2))then
     ey (¬ (c.length:Int)=0) <|
     bif decide ((IntKind.i64.wrap ((IntKind.i64.wrap (Int.tdiv 8192 (c.length:Int)))*(c.length:Int)))=0)then
      l (c.length:Int)
     else
     l (IntKind.i64.wrap ((IntKind.i64.wrap (Int.tdiv 8192 (c.length:Int)))*(c.length:Int)))
    else
    l (IntKind.i64.wrap b.2)) fun p =>
   jn c 0 fun j =>
   jp (S:=Bool) (fun t =>
    bif t then
     callG (decide ((IntKind.i64.wrap b.2)<=128)) (z6 ((List.append [32,32,32,32,32,32,32,32,32,32,32,32,32,32,32,32,32,32,32,32,32,32,32,32,32,32,32,32,32,32,32,32,32,32,32,32,32,32,32,32,32,32,32,32,32,32,32,32,32,32,32,32,32,32,32,32,32,32,32,32,32,32,32,32] [32,32,32,32,32,32,32,32,32,32,32,32,32,32,32,32,32,32,32,32,32,32,32,32,32,32,32,32,32,32,32,32,32,32,32,32,32,32,32,32,32,32,32,32,32,32,32,32,32,32,32,32,32,32,32,32,32,32,32,32,32,32,32,32]):eo) c) false fun G =>
     bif ((decide ((IntKind.i64.wrap b.2)<=128))&&G)then
      ey (0<=IntKind.i64.wrap b.2/\IntKind.i64.wrap b.2<=(((List.append [32,32,32,32,32,32,32,32,32,32,32,32,32,32,32,32,32,32,32,32,32,32,32,32,32,32,32,32,32,32,32,32,32,32,32,32,32,32,32,32,32,32,32,32,32,32,32,32,32,32,32,32,32,32,32,32,32,32,32,32,32,32,32,32] [32,32,32,32,32,32,32,32,32,32,32,32,32,32,32,32,32,32,32,32,32,32,32,32,32,32,32,32,32,32,32,32,32,32,32,32,32,32,32,32,32,32,32,32,32,32,32,32,32,32,32,32,32,32,32,32,32,32,32,32,32,32,32,32]):eo).length:Int)) <|
      some (List.take ((IntKind.i64.wrap b.2).toNat) ((List.append [32,32,32,32,32,32,32,32,32,32,32,32,32,32,32,32,32,32,32,32,32,32,32,32,32,32,32,32,32,32,32,32,32,32,32,32,32,32,32,32,32,32,32,32,32,32,32,32,32,32,32,32,32,32,32,32,32,32,32,32,32,32,32,32] [32,32,32,32,32,32,32,32,32,32,32,32,32,32,32,32,32,32,32,32,32,32,32,32,32,32,32,32,32,32,32,32,32,32,32,32,32,32,32,32,32,32,32,32,32,32,32,32,32,32,32,32,32,32,32,32,32,32,32,32,32,32,32,32]):eo))
     else
     callG (decide ((IntKind.i64.wrap b.2)<=128)) (z6 ((List.append [45,45,45,45,45,45,45,45,45,45,45,45,45,45,45,45,45,45,45,45,45,45,45,45,45,45,45,45,45,45,45,45,45,45,45,45,45,45,45,45,45,45,45,45,45,45,45,45,45,45,45,45,45,45,45,45,45,45,45,45,45,45,45,45] [45,45,45,45,45,45,45,45,45,45,45,45,45,45,45,45,45,45,45,45,45,45,45,45,45,45,45,45,45,45,45,45,45,45,45,45,45,45,45,45,45,45,45,45,45,45,45,45,45,45,45,45,45,45,45,45,45,45,45,45,45,45,45,45]):eo) c) false fun I =>
     bif ((decide ((IntKind.i64.wrap b.2)<=128))&&I)then
      ey (0<=IntKind.i64.wrap b.2/\IntKind.i64.wrap b.2<=(((List.append [45,45,45,45,45,45,45,45,45,45,45,45,45,45,45,45,45,45,45,45,45,45,45,45,45,45,45,45,45,45,45,45,45,45,45,45,45,45,45,45,45,45,45,45,45,45,45,45,45,45,45,45,45,45,45,45,45,45,45,45,45,45,45,45] [45,45,45,45,45,45,45,45,45,45,45,45,45,45,45,45,45,45,45,45,45,45,45,45,45,45,45,45,45,45,45,45,45,45,45,45,45,45,45,45,45,45,45,45,45,45,45,45,45,45,45,45,45,45,45,45,45,45,45,45,45,45,45,45]):eo).length:Int)) <|
      some (List.take ((IntKind.i64.wrap b.2).toNat) ((List.append [45,45,45,45,45,45,45,45,45,45,45,45,45,45,45,45,45,45,45,45,45,45,45,45,45,45,45,45,45,45,45,45,45,45,45,45,45,45,45,45,45,45,45,45,45,45,45,45,45,45,45,45,45,45,45,45,45,45,45,45,45,45,45,45] [45,45,45,45,45,45,45,45,45,45,45,45,45,45,45,45,45,45,45,45,45,45,45,45,45,45,45,45,45,45,45,45,45,45,45,45,45,45,45,45,45,45,45,45,45,45,45,45,45,45,45,45,45,45,45,45,45,45,45,45,45,45,45,45]):eo))
     else
     callG (decide ((IntKind.i64.wrap b.2)<=64)) (z6 ([48,48,48,48,48,48,48,48,48,48,48,48,48,48,48,48,48,48,48,48,48,48,48,48,48,48,48,48,48,48,48,48,48,48,48,48,48,48,48,48,48,48,48,48,48,48,48,48,48,48,48,48,48,48,48,48,48,48,48,48,48,48,48,48]:eo) c) false fun J =>
     bif ((decide ((IntKind.i64.wrap b.2)<=64))&&J)then
      ey (0<=IntKind.i64.wrap b.2/\IntKind.i64.wrap b.2<=(([48,48,48,48,48,48,48,48,48,48,48,48,48,48,48,48,48,48,48,48,48,48,48,48,48,48,48,48,48,48,48,48,48,48,48,48,48,48,48,48,48,48,48,48,48,48,48,48,48,48,48,48,48,48,48,48,48,48,48,48,48,48,48,48]:eo).length:Int)) <|
      some (List.take ((IntKind.i64.wrap b.2).toNat) ([48,48,48,48,48,48,48,48,48,48,48,48,48,48,48,48,48,48,48,48,48,48,48,48,48,48,48,48,48,48,48,48,48,48,48,48,48,48,48,48,48,48,48,48,48,48,48,48,48,48,48,48,48,48,48,48,48,48,48,48,48,48,48,48]:eo))
     else
     callG (decide ((IntKind.i64.wrap b.2)<=128)) (z6 ((List.append [61,61,61,61,61,61,61,61,61,61,61,61,61,61,61,61,61,61,61,61,61,61,61,61,61,61,61,61,61,61,61,61,61,61,61,61,61,61,61,61,61,61,61,61,61,61,61,61,61,61,61,61,61,61,61,61,61,61,61,61,61,61,61,61] [61,61,61,61,61,61,61,61,61,61,61,61,61,61,61,61,61,61,61,61,61,61,61,61,61,61,61,61,61,61,61,61,61,61,61,61,61,61,61,61,61,61,61,61,61,61,61,61,61,61,61,61,61,61,61,61,61,61,61,61,61,61,61,61]):eo) c) false fun L =>
     bif ((decide ((IntKind.i64.wrap b.2)<=128))&&L)then
      ey (0<=IntKind.i64.wrap b.2/\IntKind.i64.wrap b.2<=(((List.append [61,61,61,61,61,61,61,61,61,61,61,61,61,61,61,61,61,61,61,61,61,61,61,61,61,61,61,61,61,61,61,61,61,61,61,61,61,61,61,61,61,61,61,61,61,61,61,61,61,61,61,61,61,61,61,61,61,61,61,61,61,61,61,61] [61,61,61,61,61,61,61,61,61,61,61,61,61,61,61,61,61,61,61,61,61,61,61,61,61,61,61,61,61,61,61,61,61,61,61,61,61,61,61,61,61,61,61,61,61,61,61,61,61,61,61,61,61,61,61,61,61,61,61,61,61,61,61,61]):eo).length:Int)) <|
      some (List.take ((IntKind.i64.wrap b.2).toNat) ((List.append [61,61,61,61,61,61,61,61,61,61,61,61,61,61,61,61,61,61,61,61,61,61,61,61,61,61,61,61,61,61,61,61,61,61,61,61,61,61,61,61,61,61,61,61,61,61,61,61,61,61,61,61,61,61,61,61,61,61,61,61,61,61,61,61] [61,61,61,61,61,61,61,61,61,61,61,61,61,61,61,61,61,61,61,61,61,61,61,61,61,61,61,61,61,61,61,61,61,61,61,61,61,61,61,61,61,61,61,61,61,61,61,61,61,61,61,61,61,61,61,61,61,61,61,61,61,61,61,61]):eo))
     else
     callG (decide ((IntKind.i64.wrap b.2)<=64)) (z6 ([9,9,9,9,9,9,9,9,9,9,9,9,9,9,9,9,9,9,9,9,9,9,9,9,9,9,9,9,9,9,9,9,9,9,9,9,9,9,9,9,9,9,9,9,9,9,9,9,9,9,9,9,9,9,9,9,9,9,9,9,9,9,9,9]:eo) c) false fun M =>
     bif ((decide ((IntKind.i64.wrap b.2)<=64))&&M)then
      ey (0<=IntKind.i64.wrap b.2/\IntKind.i64.wrap b.2<=(([9,9,9,9,9,9,9,9,9,9,9,9,9,9,9,9,9,9,9,9,9,9,9,9,9,9,9,9,9,9,9,9,9,9,9,9,9,9,9,9,9,9,9,9,9,9,9,9,9,9,9,9,9,9,9,9,9,9,9,9,9,9,9,9]:eo).length:Int)) <|
      some (List.take ((IntKind.i64.wrap b.2).toNat) ([9,9,9,9,9,9,9,9,9,9,9,9,9,9,9,9,9,9,9,9,9,9,9,9,9,9,9,9,9,9,9,9,9,9,9,9,9,9,9,9,9,9,9,9,9,9,9,9,9,9,9,9,9,9,9,9,9,9,9,9,9,9,9,9]:eo))
     else
     p ()
    else
    p ()) fun k =>
   bif decide (j=32)then
    k (decide (j=32))
   else
   bif decide (j=45)then
    k (decide (j=45))
   else
   bif decide (j=48)then
    k (decide (j=48))
   else
   bif decide (j=61)then
    k (decide (j=61))
   else
   k (decide (j=9))) fun N =>
  bif ((decide (0<b.1))||(decide (9223372036854775807<b.2)))then
   none
  else
  N ()) fun O =>
 bif decide (i<0)then
  none
 else
 O ()
def BP(i:eo):Option eo :=
 jp (S:=Int) (fun j =>
  call (Ps j 16) fun b =>
  call (Pg ([48]:eo) (IntKind.i64.wrap (16-(b.length:Int)))) fun f =>
  ey ((f++b).length<=274877906944) <|
  some (f++b)) fun k =>
 forL i 0 (fun n l c g m =>
  g (IntKind.u64.wrap ((gv .xor .u64 c (IntKind.u64.wrap (l.toNat:Int)))*1099511628211))) 14695981039346656037 (fun c =>
  k c)
def jg(b:Int):Option Int :=
 bif decide (b=5)then
  some 1
 else
 bif decide (b=6)then
  some 2
 else
 some 0
def xL(b:List Int):Option Int :=
 jp (S:=Unit) (fun _ =>
  some 0) fun g =>
 forL b 0 (fun i c s f j =>
  bif !decide (c=0)then
   some c
  else
  f ()) () (fun _ =>
  g ())
def tt(b:aa)(c:aa):Option Int :=
 call (tY b.q c.q) fun f =>
 call (jg b.g) fun i =>
 call (jg c.g) fun j =>
 call (tY b.a c.a) fun k =>
 call (xL [f,IntKind.i64.wrap (i-j),k]) fun l =>
 some l
def rF(f:al):Option Int :=
 bif decide (5000<(f.k.length:Int))then
  some 4
 else
 jp (S:=Unit) (fun _ =>
  jp (S:=Unit) (fun _ =>
   some 0) fun B =>
  forL f.k 0 (fun Q i j v R =>
   call (jg i.g) fun n =>
   fc (zS j (au.mk n i.a)) fun o =>
   bif (o.isSome&&(((!decide (((o.getD (aa.mk [] 0 [] [] [])).g)=2))||(!decide (i.g=2)))||(!decide (((o.getD (aa.mk [] 0 [] [] [])).y)=i.y))))then
    some 11
   else
   ey ((eD j (au.mk n i.a) i).length<=274877906944) <|
   v (eD j (au.mk n i.a) i)) [] (fun j =>
   B ())) fun C =>
 forL f.k 0 (fun c b s z T =>
  call (L7 b.y) fun l =>
  ey (((!((!l)||((!decide (b.E=[]))&&(!decide (b.g=3)))))&&(decide (b.g=3)))=true->(([114]:eo)++b.E).length<=274877906944) <|
  callG ((!((!l)||((!decide (b.E=[]))&&(!decide (b.g=3)))))&&(decide (b.g=3))) (BP (([114]:eo)++b.E)) [] fun p =>
  ey (((!((!l)||((!decide (b.E=[]))&&(!decide (b.g=3)))))&&((decide (b.g=3))&&(!decide (b.y=p))))=true->(([45]:eo)++b.E).length<=274877906944) <|
  callG ((!((!l)||((!decide (b.E=[]))&&(!decide (b.g=3)))))&&((decide (b.g=3))&&(!decide (b.y=p)))) (BP (([45]:eo)++b.E)) [] fun D =>
  call (tn b.a) fun F =>
  jp (S:=Bool) (fun m =>
   call (qh b.q) fun G =>
   call (ii (!G) 5) fun I =>
   call (ii ((decide (b.g<1))||(decide (6<b.g))) 1) fun J =>
   call (ii (!m) 5) fun L =>
   call (ii (((!l)||((!decide (b.E=[]))&&(!decide (b.g=3))))||(((decide (b.g=3))&&(!decide (b.y=p)))&&(!decide (b.y=D)))) 2) fun M =>
   ey ((decide (0<(c:Int)))=true->(0<=IntKind.i64.wrap ((c:Int)-1)/\IntKind.i64.wrap ((c:Int)-1)<(f.k.length:Int))) <|
   callG (decide (0<(c:Int))) (tt (aa.mk ((f.k.getD ((IntKind.i64.wrap ((c:Int)-1)).toNat) (aa.mk [] 0 [] [] [])).q) ((f.k.getD ((IntKind.i64.wrap ((c:Int)-1)).toNat) (aa.mk [] 0 [] [] [])).g) ((f.k.getD ((IntKind.i64.wrap ((c:Int)-1)).toNat) (aa.mk [] 0 [] [] [])).a) ((f.k.getD ((IntKind.i64.wrap ((c:Int)-1)).toNat) (aa.mk [] 0 [] [] [])).y) ((f.k.getD ((IntKind.i64.wrap ((c:Int)-1)).toNat) (aa.mk [] 0 [] [] [])).E)) b) 0 fun N =>
   call (ii ((decide (0<(c:Int)))&&(decide (0<=N))) 7) fun O =>
   call (g8 [I,J,L,M,O]) fun t =>
   bif !decide (t=0)then
    some t
   else
   z ()) fun u =>
  bif decide (b.g=6)then
   call (qh b.a) fun P =>
   u P
  else
  u F) () (fun _ =>
  C ())
def xD(b:ak):Option ai :=
 call (jg b.g) fun c =>
 fq [1,3,5] c fun f =>
 some (ai.mk f b.j b.x b.h)
def EL(b:ak):Option Int :=
 bif ((decide (b.g<1))||(decide (6<b.g)))then
  some 1
 else
 call (xD b) fun c =>
 call (LF c) fun f =>
 call (ii b.h.I 2) fun i =>
 call (g8 [f,i]) fun j =>
 some j
def BB(b:ak):Option eo :=
 call (jg b.g) fun c =>
 fq [b.j.a,b.x.r,b.h.C] c fun f =>
 some f
def td(b:ak):Option eo :=
 jp (S:=eo×eo) (fun s=>match s with
  |(c,f) =>
   ey ((c++f).length<=274877906944) <|
   call (BP (c++f)) fun l =>
   some l) fun i =>
 call (jg b.g) fun k =>
 bif decide (k=0)then
  bif b.j.G then
   i (([114]:eo),b.j.F)
  else
  i (([45]:eo),b.j.F)
 else
 bif decide (k=1)then
  i (([45]:eo),b.x.Value)
 else
 bif b.h.H then
  i (([97]:eo),b.h.a)
 else
 i (([45]:eo),b.h.a)
def tP(b:eo)(c:ak):Option aa :=
 call (BB c) fun f =>
 call (td c) fun i =>
 bif decide (c.g=3)then
  some (aa.mk b c.g f i c.j.F)
 else
 some (aa.mk b c.g f i [])
def tW(b:aa)(c:aa):Option Bool :=
 call (jg b.g) fun f =>
 call (jg c.g) fun i =>
 some ((decide (f=i))&&(decide (b.a=c.a)))
def B1(b:eo):Option Bool :=
 call (tg b ([115,116,97,103,101]:eo)) fun c =>
 some c
def Nj(J:al)(b:eo)(i:List ak):Option Int :=
 bif decide (5000<(i.length:Int))then
  some 4
 else
 jp (S:=Unit) (fun _ =>
  some 0) fun v =>
 forL i 0 (fun m c s n L =>
  jp (S:=Unit) (fun _ =>
   n ()) fun z =>
  call (EL c) fun t =>
  bif !decide (t=0)then
   some t
  else
  call (tP b c) fun l =>
  jp (S:=Unit) (fun _ =>
   jp (S:=Unit) (fun _ =>
    call (jg c.g) fun u =>
    callG ((decide (u=0))&&(!(decide (c.j.a=([115,116,97,103,101]:eo))))) (B1 c.j.a) false fun B =>
    bif ((decide (u=0))&&((decide (c.j.a=([115,116,97,103,101]:eo)))||B))then
     some 17
    else
    z ()) fun C =>
   forL J.k 0 (fun M f s o N =>
    callG (!decide (f.q=b)) (tW f l) false fun D =>
    bif (((!decide (f.q=b))&&D)&&(((!decide (f.g=2))||(!decide (l.g=2)))||(!decide (f.y=l.y))))then
     some 11
    else
    o ()) () (fun _ =>
    C ())) fun E =>
  ey (0<=(m:Int)/\(m:Int)<=(i.length:Int)) <|
  forL (List.take m i) 0 (fun O F s p P =>
   call (tP b F) fun G =>
   call (tW G l) fun I =>
   bif I then
    some 6
   else
   p ()) () (fun _ =>
   E ())) () (fun _ =>
  v ())
def A9(b:aa)(n:List ab)(k:List (eo×ae))(l:List (eo×eo))(m:List (eo×ah)):Option (ak×Bool) :=
 call (jg b.g) fun c =>
 bif decide (c=0)then
  fc (zS k b.a) fun f =>
  some ((ak.mk b.g (f.getD (ae.mk [] [] false)) (ab.mk [] []) (ah.mk [] [] false false)),f.isSome)
 else
 bif decide (c=1)then
  fc (zS l b.a) fun i =>
  some ((ak.mk b.g (ae.mk [] [] false) (ab.mk b.a (i.getD [])) (ah.mk [] [] false false)),i.isSome)
 else
 fc (zS m b.a) fun j =>
 some ((ak.mk b.g (ae.mk [] [] false) (ab.mk [] []) (j.getD (ah.mk [] [] false false))),j.isSome)
def A8(c:aa)(b:List ab)(g:List (eo×ae))(i:List (eo×eo))(j:List (eo×ah)):Option Int :=
 call (A9 c b g i j) fun f =>
 bif !f.2 then
  some 3
 else
 call (td f.1) fun k =>
 bif decide (k=c.y)then
  some 1
 else
 some 2
def O0(c:aa)(b:aa):Option Bool :=
 call (tW c b) fun f =>
 some f
def Vb(c:List aa)(f:aa):Option Int :=
 jp (S:=Unit) (fun _ =>
  some (-1)) fun g =>
 forL c 0 (fun i j s b l =>
  call (O0 j f) fun k =>
  bif k then
   some (i:Int)
  else
  b ()) () (fun _ =>
  g ())
def zZ(b:List aa)(c:aa):Option Bool :=
 call (Vb b c) fun f =>
 some (decide (0<=f))
def Ni(c:ak)(b:aa):Option Bool :=
 callG (decide (c.g=b.g)) (BB c) [] fun f =>
 some ((decide (c.g=b.g))&&(decide (f=b.a)))
def Vi(c:List ak)(f:aa):Option Int :=
 jp (S:=Unit) (fun _ =>
  some (-1)) fun g =>
 forL c 0 (fun i j s b l =>
  call (Ni j f) fun k =>
  bif k then
   some (i:Int)
  else
  b ()) () (fun _ =>
  g ())
def zU(b:List ak)(c:aa):Option Bool :=
 call (Vi b c) fun f =>
 some (decide (0<=f))
def Pl(c:aa)(b:aa):Option Bool :=
 callG (!decide (c.q=b.q)) (tW c b) false fun f =>
 some ((!decide (c.q=b.q))&&f)
def Vd(c:List aa)(f:aa):Option Int :=
 jp (S:=Unit) (fun _ =>
  some (-1)) fun g =>
 forL c 0 (fun i j s b l =>
  call (Pl j f) fun k =>
  bif k then
   some (i:Int)
  else
  b ()) () (fun _ =>
  g ())
def zY(b:List aa)(c:aa):Option Bool :=
 call (Vd b c) fun f =>
 some (decide (0<=f))
def Nl(g:ai)(m:List aa)(c:Int)(i:List ab)(j:List (eo×ae))(k:List (eo×eo))(l:List (eo×ah))(f:List ai):Option (Int×(List (eo×ae))×(List (eo×eo))×(List (eo×ah))×List ai) :=
 ey ((f++[g]).length<=274877906944) <|
 call (xP g i j k l) fun b =>
 bif decide (c=0)then
  some (b.1,b.2.1,b.2.2.1,b.2.2.2,f++[g])
 else
 some (c,b.2.1,b.2.2.1,b.2.2.2,f++[g])
def tu(b:Int)(c:eo)(g:List aa)(i:Int)(j:List ab)(l:List (eo×ae))(m:List (eo×eo))(n:List (eo×ah))(k:List ai)(f:List am):Option (List am) :=
 ey ((f++[(am.mk b c)]).length<=274877906944) <|
 some (f++[(am.mk b c)])
def mq(g:ai)(m:List aa)(c:Int)(i:List ab)(j:List (eo×ae))(k:List (eo×eo))(l:List (eo×ah))(f:List ai)(n:List am):Option (Int×(List (eo×ae))×(List (eo×eo))×(List (eo×ah))×List ai) :=
 ey ((f++[g]).length<=274877906944) <|
 call (xP g i j k l) fun b =>
 bif decide (c=0)then
  some (b.1,b.2.1,b.2.2.1,b.2.2.2,f++[g])
 else
 some (c,b.2.1,b.2.2.1,b.2.2.2,f++[g])
def LQ(b:aa)(k:List aa)(l:Int)(m:List ab)(v:List (eo×ae))(z:List (eo×eo))(o:List (eo×ah))(p:List ai)(t:List am):Option (Int×(List (eo×ae))×(List (eo×eo))×(List (eo×ah))×List ai) :=
 call (jg b.g) fun B =>
 fq [2,4,6] B fun C =>
 jp (S:=eo×eo×eo) (fun s=>match s with
  |(f,i,j) =>
   call (mq (ai.mk C (ae.mk f [] false) (ab.mk i []) (ah.mk j [] false false)) k l m v z o p t) fun c =>
   some (c.1,c.2.1,c.2.2.1,c.2.2.2.1,c.2.2.2.2)) fun n =>
 call (jg b.g) fun u =>
 bif decide (u=0)then
  n (b.a,[],[])
 else
 bif decide (u=1)then
  n ([],b.a,[])
 else
 n ([],[],b.a)
def LO(c:aa)(o:ax)(m:List aa)(b:Int)(k:List ab)(f:List (eo×ae))(i:List (eo×eo))(j:List (eo×ah))(l:List ai)(n:List am):Option (Int×(List (eo×ae))×(List (eo×eo))×(List (eo×ah))×List ai×List am) :=
 call (A8 c k f i j) fun t =>
 bif decide (t=3)then
  some (b,f,i,j,l,n)
 else
 jp (S:=Unit) (fun _ =>
  call (LQ c m b k f i j l n) fun p =>
  some (p.1,p.2.1,p.2.2.1,p.2.2.2.1,p.2.2.2.2,n)) fun u =>
 bif decide (c.g=2)then
  call (zY m c) fun B =>
  bif B then
   some (b,f,i,j,l,n)
  else
  bif ((decide (t=2))&&(!o.O))then
   call (tu 6 c.a m b k f i j l n) fun C =>
   some (b,f,i,j,l,C)
  else
  u ()
 else
 jp (S:=Bool) (fun z =>
  bif z then
   bif ((decide (t=2))&&(!o.P))then
    call (tu 6 c.a m b k f i j l n) fun D =>
    some (b,f,i,j,l,D)
   else
   u ()
  else
  u ()) fun v =>
 bif decide (c.g=3)then
  v (decide (c.g=3))
 else
 bif decide (c.g=4)then
  v (decide (c.g=4))
 else
 v (decide (c.g=5))
def Pb(b:aa)(f:eo)(c:aa):Option Bool :=
 some (((decide (b.q=f))&&(decide (b.g=c.g)))&&(decide (b.a=c.a)))
def Ve(c:List aa)(f:eo)(g:aa):Option Int :=
 jp (S:=Unit) (fun _ =>
  some (-1)) fun i =>
 forL c 0 (fun j k s b m =>
  call (Pb k f g) fun l =>
  bif l then
   some (j:Int)
  else
  b ()) () (fun _ =>
  i ())
def O1(g:aa)(b:List aa)(c:eo):Option (aa×Bool) :=
 call (Ve b c g) fun f =>
 bif decide (f<0)then
  some ((aa.mk [] 0 [] [] []),false)
 else
 fq b f fun i =>
 some (i,true)
def LS(c:eo)(b:eo):Option (List eo) :=
 call (Ba c b (b.length:Int) (-1)) fun f =>
 some f
def xF(c:eo):Option (List eo) :=
 call (LS c ([10]:eo)) fun b =>
 fq b (IntKind.i64.wrap ((b.length:Int)-1)) fun f =>
 bif decide (f=[])then
  ey (0<=IntKind.i64.wrap ((b.length:Int)-1)/\IntKind.i64.wrap ((b.length:Int)-1)<=(b.length:Int)) <|
  some (List.take ((IntKind.i64.wrap ((b.length:Int)-1)).toNat) b)
 else
 some b
def A2(f:eo)(g:eo):Option Int :=
 jp (S:=Unit) (fun _ =>
  some 0) fun i =>
 forL [f,g] 0 (fun k b s c l =>
  callG (!(decide (65536<(b.length:Int)))) (xF b) [] fun j =>
  bif ((decide (65536<(b.length:Int)))||(decide (1000<(j.length:Int))))then
   some 4
  else
  c ()) () (fun _ =>
  i ())
def EV(b:List Int):Option (List Int) :=
 tD (fun c:Bool=>c=true->b=[]) fun c =>
 bif c then
  some []
 else
 ey (([]++b).length<=274877906944) <|
 some ([]++b)
def BA(n:List eo)(f:List eo)(c:List Int)(g:Int)(i:List (List Int)):Option Bool :=
 jp (S:=Int) (fun p =>
  fq c (IntKind.i64.wrap ((c.length:Int)-1)) fun t =>
  fq i (IntKind.i64.wrap (t+1)) fun u =>
  fq u p fun v =>
  some (decide (g<=v))) fun z =>
 forL c 0 (fun F j k l G =>
  jp (S:=Int) (fun B =>
   l B) fun C =>
  jp (S:=Int) (fun o =>
   bif decide (o=(f.length:Int))then
    some false
   else
   C (IntKind.i64.wrap (o+1))) fun D =>
  loopN fv (fun b m E =>
   ey ((decide (b<(f.length:Int)))=true->(0<=b/\b<(f.length:Int))) <|
   ey ((decide (b<(f.length:Int)))=true->(0<=j/\j<(n.length:Int))) <|
   bif ((decide (b<(f.length:Int)))&&(!decide ((f.getD b.toNat [])=(n.getD j.toNat []))))then
    m (IntKind.i64.wrap (b+1))
   else
   E b) k (fun b =>
   D b)) 0 (fun k =>
  z k)
def L8(l:List eo)(m:List eo):Option (List ao) :=
 ey (0<=IntKind.i64.wrap ((l.length:Int)+1)/\IntKind.i64.wrap ((l.length:Int)+1)<=IntKind.i64.wrap ((l.length:Int)+1)/\IntKind.i64.wrap ((l.length:Int)+1)<=274877906944) <|
 fc (List.replicate ((IntKind.i64.wrap ((l.length:Int)+1)).toNat) []) fun F =>
 jp (S:=List (List Int)) (fun J =>
  jp (S:=List (List Int)) (fun p =>
   jp (S:=List Int) (fun t =>
    jp (S:=List ao) (fun L =>
     some L) fun T =>
    forC t.length 0 (fun B s M ag =>
     match s with
     |(G,u) =>
      jp (S:=Int×List ao) (fun s=>match s with
       |(U,N) =>
        M (U,N)) fun V =>
      jp (S:=Int) (fun C =>
       ey ((u++[(ao.mk (t.getD B 0) C)]).length<=274877906944) <|
       V (IntKind.i64.wrap (C+1),u++[(ao.mk (t.getD B 0) C)])) fun W =>
      loopN fv (fun z O X =>
       fq m z fun Y =>
       fq l (t.getD B 0) fun Z =>
       bif !decide (Y=Z)then
        O (IntKind.i64.wrap (z+1))
       else
       X z) G (fun z =>
       W z)) (0,[]) (fun s=>match s with
     |(G,u) =>
      T u)) fun a0 =>
   ey (0<=0/\0<(p.length:Int)) <|
   ey (0<=0/\0<((p.getD 0 []).length:Int)) <|
   loopN fv (fun s D a1 =>
    match s with
    |(o,g,k) =>
     bif decide (0<g)then
      call (EV k) fun I =>
      ey ((I++[o]).length<=274877906944) <|
      call (BA l m (I++[o]) (IntKind.i64.wrap (g-1)) p) fun a2 =>
      bif a2 then
       ey ((k++[o]).length<=274877906944) <|
       D (IntKind.i64.wrap (o+1),IntKind.i64.wrap (g-1),k++[o])
      else
      D (IntKind.i64.wrap (o+1),g,k)
     else
     a1 (o,g,k)) (0,((p.getD 0 []).getD 0 0),[]) (fun s=>match s with
    |(o,g,k) =>
     a0 k)) fun a3 =>
  loopN fv (fun s P a4 =>
   match s with
   |(b,v) =>
    bif decide (0<=b)then
     jp (S:=List (List Int)) (fun Q =>
      P (IntKind.i64.wrap (b-1),Q)) fun a5 =>
     loopN fv (fun s E a6 =>
      match s with
      |(c,f) =>
       bif decide (0<=c)then
        ey (0<=b/\b<(f.length:Int)) <|
        ey (0<=IntKind.i64.wrap (b+1)/\IntKind.i64.wrap (b+1)<(f.length:Int)) <|
        ey (0<=c/\c<((f.getD ((IntKind.i64.wrap (b+1)).toNat) []).length:Int)) <|
        ey (0<=b/\b<(f.length:Int)) <|
        ey (0<=IntKind.i64.wrap (c+1)/\IntKind.i64.wrap (c+1)<((f.getD b.toNat []).length:Int)) <|
        ey (0<=c/\c<((f.getD b.toNat []).length:Int)) <|
        fc (List.set f b.toNat (List.set (f.getD b.toNat []) c.toNat (max ((f.getD ((IntKind.i64.wrap (b+1)).toNat) []).getD c.toNat 0) ((f.getD b.toNat []).getD ((IntKind.i64.wrap (c+1)).toNat) 0)))) fun j =>
        fq l b fun a7 =>
        fq m c fun a8 =>
        bif decide (a7=a8)then
         ey (0<=b/\b<(j.length:Int)) <|
         ey (0<=b/\b<(j.length:Int)) <|
         ey (0<=c/\c<((j.getD b.toNat []).length:Int)) <|
         ey (0<=IntKind.i64.wrap (b+1)/\IntKind.i64.wrap (b+1)<(j.length:Int)) <|
         ey (0<=IntKind.i64.wrap (c+1)/\IntKind.i64.wrap (c+1)<((j.getD ((IntKind.i64.wrap (b+1)).toNat) []).length:Int)) <|
         ey (0<=c/\c<((j.getD b.toNat []).length:Int)) <|
         fc (List.set j b.toNat (List.set (j.getD b.toNat []) c.toNat (max ((j.getD b.toNat []).getD c.toNat 0) (IntKind.i64.wrap (1+((j.getD ((IntKind.i64.wrap (b+1)).toNat) []).getD ((IntKind.i64.wrap (c+1)).toNat) 0)))))) fun a9 =>
         E (IntKind.i64.wrap (c-1),a9)
        else
        E (IntKind.i64.wrap (c-1),j)
       else
       a6 (c,f)) (IntKind.i64.wrap ((m.length:Int)-1),v) (fun s=>match s with
      |(c,f) =>
       a5 f)
    else
    a4 (b,v)) (IntKind.i64.wrap ((l.length:Int)-1),J) (fun s=>match s with
   |(b,v) =>
    a3 v)) fun ac =>
 loopN fv (fun s R ad =>
  match s with
  |(i,n) =>
   bif decide (i<(F.length:Int))then
    ey (0<=IntKind.i64.wrap ((m.length:Int)+1)/\IntKind.i64.wrap ((m.length:Int)+1)<=IntKind.i64.wrap ((m.length:Int)+1)/\IntKind.i64.wrap ((m.length:Int)+1)<=274877906944) <|
    ey (0<=i/\i<(n.length:Int)) <|
    fc (List.set n i.toNat (List.replicate ((IntKind.i64.wrap ((m.length:Int)+1)).toNat) 0)) fun af =>
    R (IntKind.i64.wrap (i+1),af)
   else
   ad (i,n)) (0,F) (fun s=>match s with
  |(i,n) =>
   ac n)
def Ph(c:ao)(b:ao):Option Bool :=
 some (decide (c.N=b.N))
def LZ(c:List ao)(f:ao):Option Int :=
 jp (S:=Unit) (fun _ =>
  some (-1)) fun g =>
 forL c 0 (fun i j s b l =>
  call (Ph j f) fun k =>
  bif k then
   some (i:Int)
  else
  b ()) () (fun _ =>
  g ())
def xO(b:List eo)(c:eo):Option eo :=
 bif decide ((b.length:Int)=0)then
  some []
 else
 bif decide ((b.length:Int)=1)then
  fq b 0 fun C =>
  some C
 else
 jp (S:=Int) (fun D =>
  jp (S:=Int) (fun E =>
   call (Po E []) fun F =>
   fq b 0 fun n =>
   call (zw n []) fun o =>
   jp (S:=eo) (fun i =>
    call (Be i) fun p =>
    some p) fun t =>
   ey (0<=1/\1<=(b.length:Int)) <|
   forL (List.drop 1 b) 0 (fun G u f j I =>
    call (zw c f) fun v =>
    call (zw u v.2) fun z =>
    j z.2) o.2 (fun f =>
    t f)) fun B =>
  forL b 0 (fun J l g k L =>
   bif decide ((IntKind.i64.wrap (9223372036854775807-g))<(l.length:Int))then
    none
   else
   k (IntKind.i64.wrap (g+(l.length:Int)))) D (fun g =>
   B g)) fun m =>
 bif decide (0<(c.length:Int))then
  ey (¬ (IntKind.i64.wrap ((b.length:Int)-1))=0) <|
  bif decide ((IntKind.i64.wrap (Int.tdiv 9223372036854775807 (IntKind.i64.wrap ((b.length:Int)-1))))<=(c.length:Int))then
   none
  else
  m (IntKind.i64.wrap (0+(IntKind.i64.wrap ((c.length:Int)*(IntKind.i64.wrap ((b.length:Int)-1))))))
 else
 m 0
def Vm(c:eo)(b:eo):Option Bool :=
 ey ((decide ((b.length:Int)<=(c.length:Int)))=true->(0<=IntKind.i64.wrap ((c.length:Int)-(b.length:Int))/\IntKind.i64.wrap ((c.length:Int)-(b.length:Int))<=(c.length:Int))) <|
 some ((decide ((b.length:Int)<=(c.length:Int)))&&(decide ((List.drop ((IntKind.i64.wrap ((c.length:Int)-(b.length:Int))).toNat) c)=b)))
def LW(c:eo)(b:eo):Option Bool :=
 call (Vm c b) fun f =>
 some f
def Pk(b:eo):Option eo :=
 callG (!decide (b=[])) (LW b ([10]:eo)) false fun c =>
 bif ((!decide (b=[]))&&(!c))then
  ey ((b++([10]:eo)).length<=274877906944) <|
  some (b++([10]:eo))
 else
 some b
def xQ(u:Int)(v:Int)(n:Int)(i:List eo)(c:Int)(j:List eo)(f:Int)(k:List eo)(g:Int)(b:eo)(l:Int):Option (eo×Int) :=
 ey (0<=c/\c<=(i.length:Int)/\0<=u/\u<=(i.length:Int)/\c<=u) <|
 call (xO (List.take (u.toNat-c.toNat) (List.drop c.toNat i)) []) fun z =>
 ey (0<=f/\f<=(j.length:Int)/\0<=v/\v<=(j.length:Int)/\f<=v) <|
 call (xO (List.take (v.toNat-f.toNat) (List.drop f.toNat j)) []) fun p =>
 ey (0<=g/\g<=(k.length:Int)/\0<=n/\n<=(k.length:Int)/\g<=n) <|
 call (xO (List.take (n.toNat-g.toNat) (List.drop g.toNat k)) []) fun t =>
 bif decide (p=z)then
  ey ((b++t).length<=274877906944) <|
  some (b++t,l)
 else
 bif ((decide (t=z))||(decide (t=p)))then
  ey ((b++p).length<=274877906944) <|
  some (b++p,l)
 else
 call (Pk p) fun m =>
 ey ((([60,60,60,60,60,60,60,10]:eo)++m).length<=274877906944) <|
 ey (((([60,60,60,60,60,60,60,10]:eo)++m)++([61,61,61,61,61,61,61,10]:eo)).length<=274877906944) <|
 call (Pk t) fun o =>
 ey ((((([60,60,60,60,60,60,60,10]:eo)++m)++([61,61,61,61,61,61,61,10]:eo))++o).length<=274877906944) <|
 ey (((((([60,60,60,60,60,60,60,10]:eo)++m)++([61,61,61,61,61,61,61,10]:eo))++o)++([62,62,62,62,62,62,62,10]:eo)).length<=274877906944) <|
 ey ((b++((((([60,60,60,60,60,60,60,10]:eo)++m)++([61,61,61,61,61,61,61,10]:eo))++o)++([62,62,62,62,62,62,62,10]:eo))).length<=274877906944) <|
 some (b++((((([60,60,60,60,60,60,60,10]:eo)++m)++([61,61,61,61,61,61,61,10]:eo))++o)++([62,62,62,62,62,62,62,10]:eo)),IntKind.i64.wrap (l+1))
def EI(j:eo)(D:eo)(E:eo):Option (eo×Int×Int) :=
 call (A2 j D) fun O =>
 call (A2 j E) fun P =>
 call (g8 [O,P]) fun F =>
 bif !decide (F=0)then
  some ([],0,F)
 else
 call (xF j) fun k =>
 call (xF D) fun o =>
 call (xF E) fun p =>
 call (L8 k o) fun Q =>
 call (L8 k p) fun G =>
 jp (S:=eo×Int×Int×Int×Int) (fun s=>match s with
  |(u,v,z,B,C) =>
   call (xQ (k.length:Int) (o.length:Int) (p.length:Int) k z o B p C u v) fun m =>
   bif decide (65536<(m.1.length:Int))then
    some ([],0,4)
   else
   some (m.1,m.2,0)) fun R =>
 forL Q 0 (fun T l s t U =>
  match s with
  |(b,c,f,g,i) =>
   call (LZ G l) fun I =>
   bif decide (I<0)then
    t (b,c,f,g,i)
   else
   fq G I fun J =>
   call (xQ l.N l.M J.M k f o g p i b c) fun n =>
   fq k l.N fun L =>
   ey ((n.1++L).length<=274877906944) <|
   t (n.1++L,n.2,IntKind.i64.wrap (l.N+1),IntKind.i64.wrap (l.M+1),IntKind.i64.wrap (J.M+1))) ([],0,0,0,0) (fun s=>match s with
  |(b,c,f,g,i) =>
   R (b,c,f,g,i))
def Pu(b:ak)(f:ae):Option Bool :=
 call (jg b.g) fun c =>
 callG (decide (c=0)) (BB b) [] fun i =>
 some ((decide (c=0))&&(decide (i=f.a)))
def Vj(c:List ak)(f:ae):Option Int :=
 jp (S:=Unit) (fun _ =>
  some (-1)) fun g =>
 forL c 0 (fun i j s b l =>
  call (Pu j f) fun k =>
  bif k then
   some (i:Int)
  else
  b ()) () (fun _ =>
  g ())
def zT(b:List ak)(c:ae):Option Bool :=
 call (Vj b c) fun f =>
 some (decide (0<=f))
def EQ(g:List aa)(c:Int)(i:List ab)(f:List (eo×ae))(l:List (eo×eo))(m:List (eo×ah))(n:List ai)(B:List am)(u:eo)(G:Int)(b:eo)(j:eo)(k:Bool)(I:eo)(J:eo)(L:eo)(M:eo)(N:Bool)(O:Bool)(p:List ak):Option (Int×(List (eo×ae))×(List (eo×eo))×(List (eo×ah))×List ai×List am) :=
 call (tu 4 u g c i f l m n B) fun t =>
 ey ((b++([46,110,101,119]:eo)).length<=274877906944) <|
 call (tn (b++([46,110,101,119]:eo))) fun v =>
 callG (!(!v)) (zT p (ae.mk (b++([46,110,101,119]:eo)) j k)) false fun D =>
 bif ((!v)||D)then
  some (c,f,l,m,n,t)
 else
 jp (S:=Unit) (fun _ =>
  call (mq (ai.mk 1 (ae.mk (b++([46,110,101,119]:eo)) j k) (ab.mk [] []) (ah.mk [] [] false false)) g c i f l m n t) fun o =>
  some (o.1,o.2.1,o.2.2.1,o.2.2.2.1,o.2.2.2.2,t)) fun E =>
 forM (fun z s C P =>
  callG (!(decide (z.1=(b++([46,110,101,119]:eo))))) (tg z.1 (b++([46,110,101,119]:eo))) false fun F =>
  bif ((decide (z.1=(b++([46,110,101,119]:eo))))||F)then
   some (c,f,l,m,n,t)
  else
  C ()) f.length f () (fun _ =>
  E ())
def Pe(b:ak)(M:ak)(J:Bool)(N:Bool)(B:aa)(m:Bool)(O:List ak)(c:List aa)(f:Int)(i:List ab)(t:List (eo×ae))(u:List (eo×eo))(n:List (eo×ah))(o:List ai)(k:List am):Option (Int×(List (eo×ae))×(List (eo×eo))×(List (eo×ah))×List ai×List am) :=
 bif !J then
  call (xD b) fun P =>
  call (mq P c f i t u n o k) fun l =>
  bif m then
   call (tu 2 b.j.a c l.1 i l.2.1 l.2.2.1 l.2.2.2.1 l.2.2.2.2 k) fun Q =>
   some (l.1,l.2.1,l.2.2.1,l.2.2.2.1,l.2.2.2.2,Q)
  else
  some (l.1,l.2.1,l.2.2.1,l.2.2.2.1,l.2.2.2.2,k)
 else
 bif N then
  some (f,t,u,n,o,k)
 else
 callG m (td M) [] fun R =>
 bif (m&&(decide (R=B.y)))then
  call (xD b) fun S =>
  call (mq S c f i t u n o k) fun D =>
  some (D.1,D.2.1,D.2.2.1,D.2.2.2.1,D.2.2.2.2,k)
 else
 bif (m&&(decide (b.j.F=B.E)))then
  some (f,t,u,n,o,k)
 else
 bif m then
  call (EI B.E M.j.F b.j.F) fun L =>
  bif ((!decide (L.2.2=0))||(decide (0<L.2.1)))then
   call (EQ c f i t u n o k b.j.a b.g b.j.a b.j.F b.j.G b.x.r b.x.Value b.h.C b.h.a b.h.H b.h.I O) fun v =>
   some (v.1,v.2.1,v.2.2.1,v.2.2.2.1,v.2.2.2.2.1,v.2.2.2.2.2)
  else
  call (mq (ai.mk 1 (ae.mk b.j.a L.1 b.j.G) (ab.mk [] []) (ah.mk [] [] false false)) c f i t u n o k) fun p =>
  call (tu 3 b.j.a c p.1 i p.2.1 p.2.2.1 p.2.2.2.1 p.2.2.2.2 k) fun T =>
  some (p.1,p.2.1,p.2.2.1,p.2.2.2.1,p.2.2.2.2,T)
 else
 call (EQ c f i t u n o k b.j.a b.g b.j.a b.j.F b.j.G b.x.r b.x.Value b.h.C b.h.a b.h.H b.h.I O) fun z =>
 some (z.1,z.2.1,z.2.2.1,z.2.2.2.1,z.2.2.2.2.1,z.2.2.2.2.2)
def O9(t:ak)(u:aa)(B:aa)(p:Bool)(O:List ak)(n:List aa)(b:Int)(c:List ab)(i:List (eo×ae))(k:List (eo×eo))(l:List (eo×ah))(o:List ai)(m:List am):Option (Int×(List (eo×ae))×(List (eo×eo))×(List (eo×ah))×List ai×List am) :=
 call (A9 u c i k l) fun f =>
 callG f.2 (td f.1) [] fun G =>
 call (xD t) fun z =>
 jp (S:=Bool) (fun M =>
  bif M then
   bif (f.2&&(decide (G=u.y)))then
    some (b,i,k,l,o,m)
   else
   jp (S:=List am) (fun L =>
    call (mq (ai.mk z.g z.j z.x (ah.mk z.h.C z.h.a z.h.H (((decide (t.g=6))&&f.2)&&f.1.h.I))) n b c i k l o L) fun D =>
    some (D.1,D.2.1,D.2.2.1,D.2.2.2.1,D.2.2.2.2,L)) fun N =>
   callG (p&&f.2) (td f.1) [] fun P =>
   bif ((p&&f.2)&&(!decide (P=B.y)))then
    call (tu 1 u.a n b c i k l o m) fun Q =>
    N Q
   else
   N m
  else
  bif decide (t.g=4)then
   bif !f.2 then
    call (mq z n b c i k l o m) fun E =>
    some (E.1,E.2.1,E.2.2.1,E.2.2.2.1,E.2.2.2.2,m)
   else
   some (b,i,k,l,o,m)
  else
  bif decide (t.g=5)then
   callG ((!(!f.2))&&p) (td f.1) [] fun R =>
   bif ((!f.2)||((p&&(decide (R=B.y)))&&(!(f.2&&(decide (G=u.y))))))then
    call (mq z n b c i k l o m) fun F =>
    some (F.1,F.2.1,F.2.2.1,F.2.2.2.1,F.2.2.2.2,m)
   else
   bif !(f.2&&(decide (G=u.y)))then
    call (tu 5 u.a n b c i k l o m) fun T =>
    some (b,i,k,l,o,T)
   else
   some (b,i,k,l,o,m)
  else
  bif decide (t.g=3)then
   call (Pe t f.1 f.2 (f.2&&(decide (G=u.y))) B p O n b c i k l o m) fun v =>
   some (v.1,v.2.1,v.2.2.1,v.2.2.2.1,v.2.2.2.2.1,v.2.2.2.2.2)
  else
  some (b,i,k,l,o,m)) fun J =>
 bif decide (t.g=1)then
  J (decide (t.g=1))
 else
 bif decide (t.g=2)then
  J (decide (t.g=2))
 else
 J (decide (t.g=6))
def EW(o0:List aa):Option (List aa):=tD (fun l'=>l'.Perm o0/\l'.Pairwise (fun x y=>¬ gS y.q y.g y.a x.q x.g x.a<0)) some
def Pm(j:eo)(k:List aa)(g:Int)(u:List ab)(v:List (eo×ae))(z:List (eo×eo))(B:List (eo×ah))(c:List ai)(f:List am)(n:List aa):Option (ap×Int×List ai×List am×List aa) :=
 bif !decide (g=0)then
  some ((ap.mk [] (al.mk []) []),g,c,f,[])
 else
 jp (S:=List aa) (fun o =>
  call (EW o) fun i =>
  call (rF (al.mk i)) fun p =>
  bif !decide (p=0)then
   some ((ap.mk [] (al.mk []) []),p,c,f,i)
  else
  some ((ap.mk c (al.mk i) f),0,c,f,i)) fun t =>
 forL k 0 (fun C l b m D =>
  bif !decide (l.q=j)then
   ey ((b++[l]).length<=274877906944) <|
   m (b++[l])
  else
  m b) n (fun b =>
  t b)
def L6(R:aj)(f:al)(b:eo)(F:List ak)(G:ax):Option (ap×Int) :=
 call (w9 R) fun ag =>
 call (rF f) fun an =>
 call (qh b) fun av =>
 call (ii (!av) 5) fun aw =>
 call (g8 [ag,an,aw]) fun T =>
 jp (S:=Int) (fun U =>
  bif !decide (U=0)then
   some ((ap.mk [] (al.mk []) []),U)
  else
  call (tQ R) fun i =>
  jp (S:=Unit) (fun _ =>
   jp (S:=(List (eo×ae))×(List (eo×eo))×(List (eo×ah))×Int×List ai×List am) (fun s=>match s with
    |(a6,a7,a8,I,V,W) =>
     jp (S:=(List (eo×ae))×(List (eo×eo))×(List (eo×ah))×Int×List ai×List am×List aa) (fun s=>match s with
      |(a9,ac,ad,J,X,Y,Z) =>
       call (Pm b f.k J i.2.2.2 a9 ac ad X Y Z) fun a0 =>
       some (a0.1,a0.2.1)) fun az =>
     forL F 0 (fun aF a1 s af aG =>
      match s with
      |(C,D,E,j,u,v,n) =>
       call (tP b a1) fun M =>
       ey ((n++[M]).length<=274877906944) <|
       call (O1 M f.k b) fun a2 =>
       call (O9 a1 M a2.1 a2.2 F f.k j i.2.2.2 C D E u v) fun z =>
       af (z.2.1,z.2.2.1,z.2.2.2.1,z.1,z.2.2.2.2.1,z.2.2.2.2.2,n++[M])) (a6,a7,a8,I,V,W,[]) (fun s=>match s with
      |(C,D,E,j,u,v,n) =>
       az (C,D,E,j,u,v,n))) fun aA =>
   forL f.k 0 (fun aH N s P aI =>
    match s with
    |(o,p,t,c,l,m) =>
     callG (decide (N.q=b)) (zU F N) false fun aB =>
     bif ((decide (N.q=b))&&(!aB))then
      call (LO N G f.k c i.2.2.2 o p t l m) fun B =>
      P (B.2.1,B.2.2.1,B.2.2.2.1,B.1,B.2.2.2.2.1,B.2.2.2.2.2)
     else
     P (o,p,t,c,l,m)) (i.1,i.2.1,i.2.2.1,0,[],[]) (fun s=>match s with
    |(o,p,t,c,l,m) =>
     aA (o,p,t,c,l,m))) fun aC =>
  forL F 0 (fun aJ L s Q aK =>
   call (tP b L) fun a3 =>
   bif (((!decide (L.g=1))&&(!decide (L.g=2)))||G.O)then
    Q ()
   else
   call (A8 a3 i.2.2.2 i.1 i.2.1 i.2.2.1) fun a4 =>
   callG (decide (a4=2)) (zZ f.k a3) false fun aD =>
   bif ((decide (a4=2))&&(!aD))then
    some ((ap.mk [] (al.mk []) []),11)
   else
   Q ()) () (fun _ =>
   aC ())) fun a5 =>
 bif decide (T=0)then
  call (Nj f b F) fun aE =>
  a5 aE
 else
 a5 T
def Pc(c:aa)(b:eo):Option Bool :=
 some (decide (c.q=b))
def Vf(c:List aa)(f:eo):Option Int :=
 jp (S:=Unit) (fun _ =>
  some (-1)) fun g =>
 forL c 0 (fun i j s b l =>
  call (Pc j f) fun k =>
  bif k then
   some (i:Int)
  else
  b ()) () (fun _ =>
  g ())
def zX(b:List aa)(c:eo):Option Bool :=
 call (Vf b c) fun f =>
 some (decide (0<=f))
def Pn(j:eo)(k:List aa)(g:Int)(t:List ab)(u:List (eo×ae))(v:List (eo×eo))(z:List (eo×ah))(c:List ai)(f:List am):Option (ap×Int×List ai×List am×List aa) :=
 bif !decide (g=0)then
  some ((ap.mk [] (al.mk []) []),g,c,f,[])
 else
 jp (S:=List aa) (fun n =>
  call (EW n) fun i =>
  call (rF (al.mk i)) fun o =>
  bif !decide (o=0)then
   some ((ap.mk [] (al.mk []) []),o,c,f,i)
  else
  some ((ap.mk c (al.mk i) f),0,c,f,i)) fun p =>
 forL k 0 (fun B l b m C =>
  bif !decide (l.q=j)then
   ey ((b++[l]).length<=274877906944) <|
   m (b++[l])
  else
  m b) [] (fun b =>
  p b)
def MO(v:aj)(i:al)(b:eo)(z:ax):Option (ap×Int) :=
 call (w9 v) fun M =>
 call (rF i) fun N =>
 call (qh b) fun O =>
 call (ii (!O) 5) fun P =>
 call (g8 [M,N,P]) fun p =>
 jp (S:=Int) (fun B =>
  bif !decide (B=0)then
   some ((ap.mk [] (al.mk []) []),B)
  else
  call (tQ v) fun o =>
  jp (S:=(List (eo×ae))×(List (eo×eo))×(List (eo×ah))×Int×List ai×List am) (fun s=>match s with
   |(I,J,L,t,C,D) =>
    call (Pn b i.k t o.2.2.2 I J L C D) fun E =>
    some (E.1,E.2.1)) fun Q =>
  forL i.k 0 (fun T F s u U =>
   match s with
   |(l,m,n,c,g,f) =>
    bif decide (F.q=b)then
     call (LO F z i.k c o.2.2.2 l m n g f) fun j =>
     u (j.2.1,j.2.2.1,j.2.2.2.1,j.1,j.2.2.2.2.1,j.2.2.2.2.2)
    else
    u (l,m,n,c,g,f)) (o.1,o.2.1,o.2.2.1,0,[],[]) (fun s=>match s with
   |(l,m,n,c,g,f) =>
    Q (l,m,n,c,g,f))) fun G =>
 callG (decide (p=0)) (zX i.k b) false fun R =>
 bif ((decide (p=0))&&(!R))then
  G 10
 else
 G p
def O6(c:aa)(b:eo):Option Bool :=
 some (decide (c.q=b))
def Vg(c:List aa)(f:eo):Option Int :=
 jp (S:=Unit) (fun _ =>
  some (-1)) fun g =>
 forL c 0 (fun i j s b l =>
  call (O6 j f) fun k =>
  bif k then
   some (i:Int)
  else
  b ()) () (fun _ =>
  g ())
def zW(b:List aa)(c:eo):Option Bool :=
 call (Vg b c) fun f =>
 some (decide (0<=f))
def O7(b:aa)(f:eo)(c:aa):Option Bool :=
 some (((decide (b.q=f))&&(decide (b.g=c.g)))&&(decide (b.a=c.a)))
def PB(c:List aa)(f:eo)(g:aa):Option Int :=
 jp (S:=Unit) (fun _ =>
  some (-1)) fun i =>
 forL c 0 (fun j k s b m =>
  call (O7 k f g) fun l =>
  bif l then
   some (j:Int)
  else
  b ()) () (fun _ =>
  i ())
def AH(b:Int):Option Bool :=
 some (((decide (b=1))||(decide (b=2)))||(decide (b=6)))
def Ms(F:aj)(i:al)(b:eo)(P:List ak):Option (ap×Int) :=
 call (w9 F) fun Q =>
 call (rF i) fun R =>
 call (qh b) fun T =>
 call (ii (!T) 5) fun U =>
 call (g8 [Q,R,U]) fun D =>
 jp (S:=Int) (fun G =>
  bif !decide (G=0)then
   some ((ap.mk [] (al.mk []) []),G)
  else
  call (tQ F) fun v =>
  jp (S:=(List (eo×ae))×(List (eo×eo))×(List (eo×ah))×Int×List ai) (fun s=>match s with
   |(Z,a0,a1,o,J) =>
    bif !decide (o=0)then
     some ((ap.mk [] (al.mk []) []),o)
    else
    some ((ap.mk J i []),0)) fun V =>
  forL P 0 (fun a2 z s E a3 =>
   match s with
   |(l,m,n,c,f) =>
    call (EL z) fun L =>
    bif !decide (L=0)then
     some ((ap.mk [] (al.mk []) []),L)
    else
    call (tP b z) fun u =>
    call (PB i.k b u) fun M =>
    bif decide (M<0)then
     some ((ap.mk [] (al.mk []) []),10)
    else
    fq i.k M fun W =>
    bif !decide (W.y=u.y)then
     some ((ap.mk [] (al.mk []) []),14)
    else
    call (A9 u v.2.2.2 l m n) fun p =>
    callG (!(!p.2)) (AH z.g) false fun N =>
    callG ((!(!p.2))&&N) (td p.1) [] fun X =>
    bif ((!p.2)||(N&&(!decide (X=u.y))))then
     call (xD z) fun t =>
     call (Nl (ai.mk t.g t.j t.x (ah.mk t.h.C t.h.a t.h.H (((decide (z.g=6))&&p.2)&&p.1.h.I))) i.k c v.2.2.2 l m n f) fun B =>
     E (B.2.1,B.2.2.1,B.2.2.2.1,B.1,B.2.2.2.2)
    else
    E (l,m,n,c,f)) (v.1,v.2.1,v.2.2.1,0,[]) (fun s=>match s with
   |(l,m,n,c,f) =>
    V (l,m,n,c,f))) fun O =>
 callG (decide (D=0)) (zW i.k b) false fun Y =>
 bif ((decide (D=0))&&(!Y))then
  O 10
 else
 O D
def zI(b:List aa):Option (List aa) :=
 tD (fun c:Bool=>c=true->b=[]) fun c =>
 bif c then
  some []
 else
 ey (([]++b).length<=274877906944) <|
 some ([]++b)
def A0(c:aa)(b:eo)(f:eo)(g:Int)(i:eo)(j:eo)(k:eo):Option Bool :=
 callG (decide (c.q=b)) (tW c (aa.mk f g i j k)) false fun l =>
 some ((decide (c.q=b))&&l)
def zP(c:List aa)(f:eo)(g:eo)(i:Int)(j:eo)(k:eo)(l:eo):Option Int :=
 jp (S:=Unit) (fun _ =>
  some (-1)) fun p =>
 loopN fv (fun b m n =>
  bif decide (b<((List.take c.length c).length:Int))then
   ey (0<=b/\b<(c.length:Int)) <|
   call (A0 (c.getD (b.toNat:Nat) (aa.mk [] 0 [] [] [])) f g i j k l) fun o =>
   bif o then
    some b
   else
   m (IntKind.i64.wrap (b+1))
  else
  n b) 0 (fun b =>
  p ())
def z7(b:List aa)(m:eo)(n:eo)(o:Int)(j:eo)(k:eo)(l:eo):Option (Nat×List aa) :=
 call (zP b m n o j k l) fun u =>
 bif decide (u=(-1))then
  some (b.length,b)
 else
 jp (S:=Int×List aa) (fun s=>match s with
  |(g,p) =>
   ey (0<=g/\g<=(b.length:Int)) <|
   ey (0<=g/\g<=(b.length:Int)) <|
   some (g.toNat,List.take g.toNat p++List.replicate (b.length-g.toNat) (aa.mk [] 0 [] [] [])++List.drop (g.toNat+(b.length-g.toNat)) p)) fun v =>
 loopN fv (fun s t z =>
  match s with
  |(i,f,c) =>
   bif decide (f<((List.take b.length c).length:Int))then
    ey (0<=f/\f<(b.length:Int)) <|
    ey (f.toNat<c.length) <|
    call (A0 (c.getD (f.toNat:Nat) (aa.mk [] 0 [] [] [])) m n o j k l) fun B =>
    bif !B then
     ey (0<=i/\i<(b.length:Int)) <|
     ey (i.toNat<c.length) <|
     t (IntKind.i64.wrap (i+1),IntKind.i64.wrap (f+1),List.set c (i.toNat:Nat) (c.getD (f.toNat:Nat) (aa.mk [] 0 [] [] [])))
    else
    t (i,IntKind.i64.wrap (f+1),c)
   else
   z (i,f,c)) (u,IntKind.i64.wrap (u+1),b) (fun s=>match s with
  |(i,f,c) =>
   v (i,c))
def L4(n:aj)(j:al)(b:eo)(o:List ak):Option (al×Int) :=
 call (w9 n) fun M =>
 call (rF j) fun N =>
 call (qh b) fun O =>
 call (ii (!O) 5) fun P =>
 call (g8 [M,N,P]) fun p =>
 bif !decide (p=0)then
  some ((al.mk []),p)
 else
 call (tQ n) fun l =>
 call (zI j.k) fun Q =>
 jp (S:=List aa) (fun F =>
  call (EW F) fun t =>
  call (rF (al.mk t)) fun u =>
  bif !decide (u=0)then
   some ((al.mk []),u)
  else
  some ((al.mk t),0)) fun R =>
 forL o 0 (fun v z f G a1 =>
  jp (S:=List aa) (fun I =>
   G I) fun T =>
  call (EL z) fun B =>
  bif !decide (B=0)then
   some ((al.mk []),B)
  else
  call (tP b z) fun c =>
  jp (S:=Unit) (fun _ =>
   jp (S:=Unit) (fun _ =>
    call (A9 c l.2.2.2 l.1 l.2.1 l.2.2.1) fun C =>
    bif !C.2 then
     some ((al.mk []),10)
    else
    call (AH z.g) fun D =>
    callG D (td C.1) [] fun U =>
    bif (D&&(!decide (U=c.y)))then
     some ((al.mk []),14)
    else
    call (z7 f b c.q c.g c.a c.y c.E) fun m =>
    ey (((List.take m.1 m.2)++[c]).length<=274877906944) <|
    T ((List.take m.1 m.2)++[c])) fun V =>
   forL j.k 0 (fun a2 i s J a3 =>
    callG (!decide (i.q=b)) (tW i c) false fun W =>
    bif (((!decide (i.q=b))&&W)&&(((!decide (i.g=2))||(!decide (c.g=2)))||(!decide (i.y=c.y))))then
     some ((al.mk []),11)
    else
    J ()) () (fun _ =>
    V ())) fun X =>
  ey (0<=(v:Int)/\(v:Int)<=(o.length:Int)) <|
  forL (List.take v o) 0 (fun a4 Y s L a5 =>
   call (tP b Y) fun Z =>
   call (tW Z c) fun a0 =>
   bif a0 then
    some ((al.mk []),6)
   else
   L ()) () (fun _ =>
   X ())) Q (fun f =>
  R f)
def MN(I:aj)(O:List ay):Option (aj×al) :=
 jp (S:=List ab×List ae×List ab×List ah×List aa) (fun s=>match s with
  |(W,X,Y,Z,a0) =>
   some ((aj.mk W X Y Z),(al.mk a0))) fun ac =>
 ey (0<=min (O.length:Int) 12/\min (O.length:Int) 12<=(O.length:Int)) <|
 forL (List.take ((min (O.length:Int) 12).toNat) O) 0 (fun an l s a9 av =>
  match s with
  |(b,c,f,i,j) =>
   jp (S:=List ab×List ae×List ab×List ah×List aa) (fun s=>match s with
    |(a1,a2,a3,a4,a5) =>
     a9 (a1,a2,a3,a4,a5)) fun U =>
   jp (S:=Int×List ab×List ae×List ab×List ah×List aa×List ai×List aa×List am) (fun s=>match s with
    |(ad,t,v,z,C,G,a6,a7,ag) =>
     bif decide (ad=0)then
      call (AD (aj.mk t v z C) a6) fun P =>
      bif decide (P.2=0)then
       U (P.1.D,P.1.u,P.1.B,P.1.A,a7)
      else
      U (t,v,z,C,G)
     else
     U (t,v,z,C,G)) fun E =>
   bif decide (l.g=0)then
    call (L6 (aj.mk b c f i) (al.mk j) l.q l.S l.T) fun J =>
    E (J.2,b,c,f,i,j,J.1.L,J.1.Q.k,J.1.R)
   else
   bif decide (l.g=1)then
    call (MO (aj.mk b c f i) (al.mk j) l.q l.T) fun M =>
    E (M.2,b,c,f,i,j,M.1.L,M.1.Q.k,M.1.R)
   else
   bif decide (l.g=2)then
    forL l.L 0 (fun aw af s V az =>
     match s with
     |(m,n,o,p) =>
      call (AD (aj.mk m n o p) [af]) fun F =>
      bif decide (F.2=0)then
       V (F.1.D,F.1.u,F.1.B,F.1.A)
      else
      V (m,n,o,p)) (b,c,f,i) (fun s=>match s with
     |(m,n,o,p) =>
      E (10,m,n,o,p,j,[],[],[]))
   else
   bif decide (l.g=3)then
    call (Ms (aj.mk b c f i) (al.mk j) l.q l.S) fun N =>
    E (N.2,b,c,f,i,j,N.1.L,N.1.Q.k,N.1.R)
   else
   bif decide (l.g=4)then
    call (L4 (aj.mk b c f i) (al.mk j) l.q l.S) fun a8 =>
    bif decide (a8.2=0)then
     E (10,b,c,f,i,a8.1.k,[],[],[])
    else
    E (10,b,c,f,i,j,[],[],[])
   else
   E (10,b,c,f,i,j,[],[],[])) (I.D,I.u,I.B,I.A,[]) (fun s=>match s with
  |(b,c,f,i,j) =>
   ac (b,c,f,i,j))
def UW(b:Int):Option Bool :=
 some ((decide (32<=b))&&(decide (b<=126)))
def UI(b:eo)(c:Int):Option Bool :=
 jp (S:=Unit) (fun _ =>
  some ((!decide (b=[]))&&(decide ((b.length:Int)<=c)))) fun g =>
 forL b 0 (fun k i s f l =>
  call (UW (i.toNat:Int)) fun j =>
  bif !j then
   some false
  else
  f ()) () (fun _ =>
  g ())
def Lz(b:eo):Option Bool :=
 callG (!(decide (b=[]))) (UI b 1000) false fun c =>
 some ((decide (b=[]))||c)
def U2(b:ab):Option Int :=
 call (xI b.r) fun c =>
 bif !c then
  some 5
 else
 call (Lz b.Value) fun f =>
 bif !f then
  some 2
 else
 some 0
def Nm(b:ab):Option Int :=
 call (U2 b) fun c =>
 some c
def AU(b:ab):Option eo :=
 some b.r
def PF(c:List ab):Option Int :=
 jp (S:=Unit) (fun _ =>
  some 0) fun l =>
 forL c 0 (fun b f s k m =>
  call (Nm f) fun g =>
  bif !decide (g=0)then
   some g
  else
  callG (decide (0<(b:Int))) (AU f) [] fun i =>
  ey ((decide (0<(b:Int)))=true->(0<=IntKind.i64.wrap ((b:Int)-1)/\IntKind.i64.wrap ((b:Int)-1)<(c.length:Int))) <|
  callG (decide (0<(b:Int))) (AU (ab.mk ((c.getD ((IntKind.i64.wrap ((b:Int)-1)).toNat) (ab.mk [] [])).r) ((c.getD ((IntKind.i64.wrap ((b:Int)-1)).toNat) (ab.mk [] [])).Value))) [] fun j =>
  bif ((decide (0<(b:Int)))&&(kK i j||decide (i=j)))then
   some 7
  else
  k ()) () (fun _ =>
  l ())
def UM(b:Int):Option Bool :=
 call (AY b) fun c =>
 callG (!(c||((decide (65<=b))&&(decide (b<=90))))) (LA b) false fun f =>
 some (((((c||((decide (65<=b))&&(decide (b<=90))))||f)||(decide (b=45)))||(decide (b=46)))||(decide (b=95)))
def UJ(b:eo)(c:Int):Option Bool :=
 jp (S:=Unit) (fun _ =>
  some ((!decide (b=[]))&&(decide ((b.length:Int)<=c)))) fun g =>
 forL b 0 (fun k i s f l =>
  call (UM (i.toNat:Int)) fun j =>
  bif !j then
   some false
  else
  f ()) () (fun _ =>
  g ())
def Nb(b:eo):Option Bool :=
 call (UJ b 40) fun c =>
 some ((c&&(!decide (b=([46]:eo))))&&(!decide (b=([46,46]:eo))))
def xJ(b:eo):Option Bool :=
 jp (S:=Unit) (fun _ =>
  some (decide ((b.length:Int)<=200))) fun f =>
 call (LI b ([47]:eo)) fun g =>
 forL g 0 (fun k i s c l =>
  call (Nb i) fun j =>
  bif !j then
   some false
  else
  c ()) () (fun _ =>
  f ())
def LP(b:ae):Option Int :=
 call (xJ b.a) fun c =>
 bif !c then
  some 5
 else
 bif decide (65536<(b.F.length:Int))then
  some 4
 else
 some 0
def Pa(b:eo)(c:List (eo×Bool)):Option Bool :=
 fc (zS c b) fun f =>
 some (!(f.getD false))
def LG(b:eo)(g:List (eo×Bool)):Option Bool :=
 jp (S:=Unit) (fun _ =>
  some true) fun j =>
 forL b 0 (fun c f s i l =>
  ey ((decide ((f.toNat:Int)=47))=true->(0<=(c:Int)/\(c:Int)<=(b.length:Int))) <|
  callG (decide ((f.toNat:Int)=47)) (Pa (List.take c b) g) false fun k =>
  bif ((decide ((f.toNat:Int)=47))&&(!k))then
   some false
  else
  i ()) () (fun _ =>
  j ())
def U3(b:ab):Option Int :=
 call (xJ b.r) fun c =>
 bif !c then
  some 5
 else
 call (Lz b.Value) fun f =>
 bif !f then
  some 2
 else
 some 0
def Nn(b:ab):Option Int :=
 call (U3 b) fun c =>
 some c
def LY(c:List ab):Option Int :=
 jp (S:=Unit) (fun _ =>
  some 0) fun l =>
 forL c 0 (fun b f s k m =>
  call (Nn f) fun g =>
  bif !decide (g=0)then
   some g
  else
  callG (decide (0<(b:Int))) (AU f) [] fun i =>
  ey ((decide (0<(b:Int)))=true->(0<=IntKind.i64.wrap ((b:Int)-1)/\IntKind.i64.wrap ((b:Int)-1)<(c.length:Int))) <|
  callG (decide (0<(b:Int))) (AU (ab.mk ((c.getD ((IntKind.i64.wrap ((b:Int)-1)).toNat) (ab.mk [] [])).r) ((c.getD ((IntKind.i64.wrap ((b:Int)-1)).toNat) (ab.mk [] [])).Value))) [] fun j =>
  bif ((decide (0<(b:Int)))&&(kK i j||decide (i=j)))then
   some 7
  else
  k ()) () (fun _ =>
  l ())
def Pi(b:ah):Option Int :=
 call (xI b.C) fun c =>
 callG (!(!c)) (xJ b.a) false fun f =>
 bif ((!c)||(!f))then
  some 5
 else
 some 0
def M6(b:ah):Option eo :=
 some b.C
def LX(c:List ah):Option Int :=
 jp (S:=Unit) (fun _ =>
  some 0) fun l =>
 forL c 0 (fun b f s k m =>
  call (Pi f) fun g =>
  bif !decide (g=0)then
   some g
  else
  callG (decide (0<(b:Int))) (M6 f) [] fun i =>
  ey ((decide (0<(b:Int)))=true->(0<=IntKind.i64.wrap ((b:Int)-1)/\IntKind.i64.wrap ((b:Int)-1)<(c.length:Int))) <|
  callG (decide (0<(b:Int))) (M6 (ah.mk ((c.getD ((IntKind.i64.wrap ((b:Int)-1)).toNat) (ah.mk [] [] false false)).C) ((c.getD ((IntKind.i64.wrap ((b:Int)-1)).toNat) (ah.mk [] [] false false)).a) ((c.getD ((IntKind.i64.wrap ((b:Int)-1)).toNat) (ah.mk [] [] false false)).H) ((c.getD ((IntKind.i64.wrap ((b:Int)-1)).toNat) (ah.mk [] [] false false)).I))) [] fun j =>
  bif ((decide (0<(b:Int)))&&(kK i j||decide (i=j)))then
   some 7
  else
  k ()) () (fun _ =>
  l ())
def Lo(c:aj):Option Int :=
 bif ((((decide (100<(c.D.length:Int)))||(decide (2000<(c.u.length:Int))))||(decide (2000<(c.B.length:Int))))||(decide (100<(c.A.length:Int))))then
  some 4
 else
 call (PF c.D) fun j =>
 bif !decide (j=0)then
  some j
 else
 jp (S:=Unit) (fun _ =>
  call (LY c.B) fun k =>
  bif !decide (k=0)then
   some k
  else
  call (LX c.A) fun o =>
  some o) fun p =>
 forL c.u 0 (fun m f s i t =>
  match s with
  |(b,g) =>
   call (LP f) fun l =>
   bif !decide (l=0)then
    some l
   else
   bif ((decide (0<(m:Int)))&&(kK f.a b||decide (f.a=b)))then
    some 7
   else
   call (LG f.a g) fun n =>
   bif !n then
    some 11
   else
   ey ((eD g f.a true).length<=274877906944) <|
   i (f.a,eD g f.a true)) ([],[]) (fun s=>match s with
  |(b,g) =>
   p ())
def UF(b:Int):Option Bool :=
 some ((decide (1<=b))&&(decide (b<=6)))
def Nh(c:eo):Option Bool :=
 jp (S:=Unit) (fun _ =>
  some (decide ((c.length:Int)=16))) fun g =>
 forL c 0 (fun i b s f j =>
  bif !(((decide (48<=(b.toNat:Int)))&&(decide ((b.toNat:Int)<=57)))||((decide (97<=(b.toNat:Int)))&&(decide ((b.toNat:Int)<=102))))then
   some false
  else
  f ()) () (fun _ =>
  g ())
def tU(f:eo):Option eo :=
 jp (S:=Int) (fun o =>
  jp (S:=List Int) (fun j =>
   some (Go.Vc.strOf j)) fun p =>
  loopN fv (fun s k t =>
   match s with
   |(b,c) =>
    bif decide (b<((List.replicate 16 0).length:Int))then
     ey (0<=(IntKind.i64.wrap (60-(IntKind.i64.wrap (4*b))))) <|
     jn ([48,49,50,51,52,53,54,55,56,57,97,98,99,100,101,102]:eo) (gv .and .u64 (Int.fdiv o (2^(jx .u64 (IntKind.i64.wrap (60-(IntKind.i64.wrap (4*b))))))) 15) fun l =>
     ey (0<=b/\b<(c.length:Int)) <|
     k (IntKind.i64.wrap (b+1),List.set c b.toNat l)
    else
    t (b,c)) (0,List.replicate 16 0) (fun s=>match s with
   |(b,c) =>
    p c)) fun m =>
 forL f 0 (fun u n g i v =>
  i (IntKind.u64.wrap ((gv .xor .u64 g (IntKind.u64.wrap (n.toNat:Int)))*1099511628211))) 14695981039346656037 (fun g =>
  m g)
def Pf(b:aa):Option Int :=
 call (xI b.q) fun i =>
 bif !i then
  some 5
 else
 call (UF b.g) fun j =>
 bif !j then
  some 1
 else
 callG (decide (b.g=6)) (xI b.a) false fun f =>
 callG ((!((decide (b.g=6))&&(!f)))&&(!decide (b.g=6))) (xJ b.a) false fun k =>
 bif (((decide (b.g=6))&&(!f))||((!decide (b.g=6))&&(!k)))then
  some 5
 else
 call (Nh b.y) fun l =>
 bif ((!l)||((!decide (b.E=[]))&&(!decide (b.g=3))))then
  some 2
 else
 ey ((decide (b.g=3))=true->(([114]:eo)++b.E).length<=274877906944) <|
 callG (decide (b.g=3)) (tU (([114]:eo)++b.E)) [] fun c =>
 ey (((decide (b.g=3))&&(!decide (b.y=c)))=true->(([45]:eo)++b.E).length<=274877906944) <|
 callG ((decide (b.g=3))&&(!decide (b.y=c))) (tU (([45]:eo)++b.E)) [] fun m =>
 bif (((decide (b.g=3))&&(!decide (b.y=c)))&&(!decide (b.y=m)))then
  some 2
 else
 some 0
def A5(b:Int):Option Int :=
 bif decide (b=5)then
  some 2
 else
 bif decide (b=6)then
  some 3
 else
 some 1
def xi(b:aa):Option aq :=
 call (A5 b.g) fun c =>
 some (aq.mk c b.a)
def LV(f:aa)(g:aa):Option Int :=
 call (tY f.q g.q) fun i =>
 bif !decide (i=0)then
  some i
 else
 call (xi f) fun b =>
 call (xi g) fun c =>
 bif !decide (b.K=c.K)then
  some (IntKind.i64.wrap (b.K-c.K))
 else
 call (tY b.J c.J) fun j =>
 some j
def UC(b:aa)(c:aa):Option Bool :=
 some (((decide (b.g=2))&&(decide (c.g=2)))&&(decide (b.y=c.y)))
def Lp(c:al):Option Int :=
 bif decide (5000<(c.k.length:Int))then
  some 4
 else
 jp (S:=Unit) (fun _ =>
  jp (S:=Unit) (fun _ =>
   some 0) fun B =>
  forL c.k 0 (fun C i f l D =>
   call (xi i) fun t =>
   fc (zS f t) fun j =>
   callG j.isSome (UC (j.getD (aa.mk [] 0 [] [] [])) i) false fun u =>
   bif (j.isSome&&(!u))then
    some 11
   else
   call (xi i) fun n =>
   ey ((eD f n i).length<=274877906944) <|
   l (eD f n i)) [] (fun f =>
   B ())) fun v =>
 forL c.k 0 (fun b o s m F =>
  call (Pf o) fun p =>
  bif !decide (p=0)then
   some p
  else
  ey ((decide (0<(b:Int)))=true->(0<=IntKind.i64.wrap ((b:Int)-1)/\IntKind.i64.wrap ((b:Int)-1)<(c.k.length:Int))) <|
  callG (decide (0<(b:Int))) (LV (aa.mk ((c.k.getD ((IntKind.i64.wrap ((b:Int)-1)).toNat) (aa.mk [] 0 [] [] [])).q) ((c.k.getD ((IntKind.i64.wrap ((b:Int)-1)).toNat) (aa.mk [] 0 [] [] [])).g) ((c.k.getD ((IntKind.i64.wrap ((b:Int)-1)).toNat) (aa.mk [] 0 [] [] [])).a) ((c.k.getD ((IntKind.i64.wrap ((b:Int)-1)).toNat) (aa.mk [] 0 [] [] [])).y) ((c.k.getD ((IntKind.i64.wrap ((b:Int)-1)).toNat) (aa.mk [] 0 [] [] [])).E)) o) 0 fun z =>
  bif ((decide (0<(b:Int)))&&(decide (0<=z)))then
   some 7
  else
  m ()) () (fun _ =>
  v ())
def W9(b:eo)(g:List (eo×ae))(c:List (eo×Int))(i:List (eo×ab))(j:List (eo×ah)):Option ((List (eo×Int))) :=
 fc (zS c b) fun f =>
 ey ((eD c b (IntKind.i64.wrap ((f.getD 0)+1))).length<=274877906944) <|
 some (eD c b (IntKind.i64.wrap ((f.getD 0)+1)))
def UN(b:eo)(i:List (eo×ae))(j:List (eo×Int))(k:List (eo×ab))(l:List (eo×ah)):Option ((List (eo×Int))) :=
 forL b 0 (fun f n c g o =>
  bif decide ((n.toNat:Int)=47)then
   ey (0<=(f:Int)/\(f:Int)<=(b.length:Int)) <|
   call (W9 (List.take f b) i c k l) fun m =>
   g m
  else
  g c) j (fun c =>
  some c)
def EJ(l:aj):Option ((List (eo×ae))×(List (eo×Int))×(List (eo×ab))×(List (eo×ah))) :=
 jp (S:=(List (eo×ae))×(List (eo×Int))) (fun s=>match s with
  |(z,m) =>
   jp (S:=(List (eo×ab))) (fun n =>
    jp (S:=(List (eo×ah))) (fun o =>
     some (z,m,n,o)) fun D =>
    forL l.A 0 (fun I j f p J =>
     ey ((eD f j.C j).length<=274877906944) <|
     p (eD f j.C j)) [] (fun f =>
     D f)) fun E =>
   forL l.B 0 (fun L k g t M =>
    ey ((eD g k.r k).length<=274877906944) <|
    t (eD g k.r k)) [] (fun g =>
    E g)) fun F =>
 forL l.u 0 (fun N b s v O =>
  match s with
  |(c,i) =>
   ey ((eD c b.a b).length<=274877906944) <|
   call (UN b.a (eD c b.a b) i [] []) fun G =>
   v (eD c b.a b,G)) ([],[]) (fun s=>match s with
  |(c,i) =>
   F (c,i))
def LK(b:ab):Option eo :=
 ey ((([45]:eo)++b.Value).length<=274877906944) <|
 call (tU (([45]:eo)++b.Value)) fun c =>
 some c
def LJ(b:ah):Option eo :=
 bif b.H then
  ey ((([97]:eo)++b.a).length<=274877906944) <|
  call (tU (([97]:eo)++b.a)) fun c =>
  some c
 else
 ey ((([45]:eo)++b.a).length<=274877906944) <|
 call (tU (([45]:eo)++b.a)) fun f =>
 some f
def Lv(b:ae):Option eo :=
 bif b.G then
  ey ((([114]:eo)++b.F).length<=274877906944) <|
  call (tU (([114]:eo)++b.F)) fun c =>
  some c
 else
 ey ((([45]:eo)++b.F).length<=274877906944) <|
 call (tU (([45]:eo)++b.F)) fun f =>
 some f
def Xa(b:aq)(i:List (eo×ae))(o:List (eo×Int))(j:List (eo×ab))(k:List (eo×ah)):Option (eo×Bool) :=
 bif decide (b.K=2)then
  fc (zS j b.J) fun c =>
  call (LK (c.getD (ab.mk [] []))) fun m =>
  some (m,c.isSome)
 else
 bif decide (b.K=3)then
  fc (zS k b.J) fun f =>
  call (LJ (f.getD (ah.mk [] [] false false))) fun n =>
  some (n,f.isSome)
 else
 fc (zS i b.J) fun g =>
 call (Lv (g.getD (ae.mk [] [] false))) fun l =>
 some (l,g.isSome)
def Pt(b:aa)(f:List (eo×ae))(g:List (eo×Int))(i:List (eo×ab))(j:List (eo×ah)):Option Int :=
 call (xi b) fun k =>
 call (Xa k f g i j) fun c =>
 bif !c.2 then
  some 3
 else
 bif decide (c.1=b.y)then
  some 1
 else
 some 2
def Ng(c:aj)(f:aa):Option (Int×Int) :=
 call (Lo c) fun g =>
 bif !decide (g=0)then
  some (0,g)
 else
 call (Lp (al.mk [f])) fun i =>
 bif !decide (i=0)then
  some (0,i)
 else
 call (EJ c) fun b =>
 call (Pt f b.1 b.2.1 b.2.2.1 b.2.2.2) fun j =>
 some (j,0)
def MY(c:aj)(f:aa):Option (Int×Int) :=
 call (w9 c) fun i =>
 call (rF (al.mk [f])) fun j =>
 call (g8 [i,j]) fun g =>
 bif !decide (g=0)then
  some (0,g)
 else
 call (tQ c) fun b =>
 call (A8 f b.2.2.2 b.1 b.2.1 b.2.2.1) fun k =>
 some (k,0)
def Lj(c:aj)(f:al):Option Int :=
 call (Lo c) fun b =>
 bif !decide (b=0)then
  some b
 else
 call (Lp f) fun g =>
 some g
def Uu(b:Int):Option Bool :=
 some (((decide (b=1))||(decide (b=2)))||(decide (b=6)))
def Nf(l:aj)(m:al):Option (List ar×Int) :=
 call (Lj l m) fun n =>
 bif !decide (n=0)then
  some ([],n)
 else
 call (EJ l) fun f =>
 jp (S:=List ar) (fun o =>
  some (o,0)) fun p =>
 forL m.k 0 (fun u b c j v =>
  call (Pt b f.1 f.2.1 f.2.2.1 f.2.2.2) fun i =>
  call (Uu b.g) fun t =>
  bif ((t&&(!decide (i=1)))||((decide (b.g=3))&&(decide (i=3))))then
   ey ((c++[(ar.mk b.q b.a b.g i)]).length<=274877906944) <|
   j (c++[(ar.mk b.q b.a b.g i)])
  else
  j c) [] (fun c =>
  p c)
def L5(n:aj)(o:al):Option (List ar) :=
 call (tQ n) fun f =>
 jp (S:=List ar) (fun l =>
  some l) fun p =>
 forL o.k 0 (fun t b c j u =>
  call (A8 b f.2.2.2 f.1 f.2.1 f.2.2.1) fun i =>
  call (AH b.g) fun m =>
  bif ((m&&(!decide (i=1)))||((decide (b.g=3))&&(decide (i=3))))then
   ey ((c++[(ar.mk b.q b.a b.g i)]).length<=274877906944) <|
   j (c++[(ar.mk b.q b.a b.g i)])
  else
  j c) [] (fun c =>
  p c)
def Py(f:List ar)(i:List ar):Option Bool :=
 bif !decide ((f.length:Int)=(i.length:Int))then
  some false
 else
 jp (S:=Unit) (fun _ =>
  some true) fun k =>
 forL f 0 (fun l b s j m =>
  fq i (l:Int) fun c =>
  bif !((decide (b.q=c.q))&&((decide (b.a=c.a))&&((decide (b.g=c.g))&&(decide (b.U=c.U)))))then
   some false
  else
  j ()) () (fun _ =>
  k ())
def A3(c:eo)(b:eo):Option Bool :=
 ey ((b++([47]:eo)).length<=274877906944) <|
 call (z6 c (b++([47]:eo))) fun f =>
 some f
def M7(v:aj)(z:al)(b:eo):Option (List eo×Int) :=
 call (Lj v z) fun B =>
 bif !decide (B=0)then
  some ([],B)
 else
 callG (!decide (b=[])) (xJ b) false fun C =>
 bif ((!decide (b=[]))&&(!C))then
  some ([],5)
 else
 jp (S:=(List (eo×Bool))) (fun p =>
  jp (S:=List eo) (fun t =>
   some (t,0)) fun D =>
  forL v.u 0 (fun I i c l J =>
   callG (!(decide (b=[]))) (A3 i.a b) false fun m =>
   fc (zS p i.a) fun n =>
   callG (((decide (b=[]))||m)&&(!(n.getD false))) (A3 i.a ([115,116,97,103,101]:eo)) false fun E =>
   bif ((((decide (b=[]))||m)&&(!(n.getD false)))&&(!E))then
    ey ((c++[i.a]).length<=274877906944) <|
    l (c++[i.a])
   else
   l c) [] (fun c =>
   D c)) fun F =>
 forL z.k 0 (fun L o f j M =>
  call (A5 o.g) fun G =>
  bif decide (G=1)then
   ey ((eD f o.a true).length<=274877906944) <|
   j (eD f o.a true)
  else
  j f) [] (fun f =>
  F f)
def O8(b:aa)(c:ae):Option Bool :=
 call (jg b.g) fun f =>
 some ((decide (f=0))&&(decide (b.a=c.a)))
def Vh(c:List aa)(f:ae):Option Int :=
 jp (S:=Unit) (fun _ =>
  some (-1)) fun g =>
 forL c 0 (fun i j s b l =>
  call (O8 j f) fun k =>
  bif k then
   some (i:Int)
  else
  b ()) () (fun _ =>
  g ())
def zV(b:List aa)(c:ae):Option Bool :=
 call (Vh b c) fun f =>
 some (decide (0<=f))
def Mt(o:aj)(p:al)(c:eo):Option (List eo) :=
 jp (S:=List eo) (fun l =>
  some l) fun m =>
 forL o.u 0 (fun t f b g v =>
  call (zV p.k f) fun i =>
  callG (!i) (B1 f.a) false fun j =>
  callG (((!i)&&(!j))&&(!(decide (c=[])))) (tg f.a c) false fun n =>
  bif (((!i)&&(!j))&&((decide (c=[]))||n))then
   ey ((b++[f.a]).length<=274877906944) <|
   g (b++[f.a])
  else
  g b) [] (fun b =>
  m b)
def PD(b:List eo)(c:List eo):Option Bool :=
 bif !decide ((b.length:Int)=(c.length:Int))then
  some false
 else
 jp (S:=Unit) (fun _ =>
  some true) fun g =>
 forL b 0 (fun i j s f l =>
  fq c (i:Int) fun k =>
  bif !decide (j=k)then
   some false
  else
  f ()) () (fun _ =>
  g ())
def LD(p:aj)(t:List ay)(g:aa)(c:eo):Option Bool :=
 call (Uy) fun u =>
 bif !u then
  some false
 else
 call (L3 p) fun v =>
 call (MN v t) fun b =>
 jp (S:=Unit) (fun _ =>
  call (Nf b.1 b.2) fun i =>
  callG (!(!decide (i.2=0))) (L5 b.1 b.2) [] fun z =>
  callG (!(!decide (i.2=0))) (Py i.1 z) false fun B =>
  bif ((!decide (i.2=0))||(!B))then
   some false
  else
  call (M7 b.1 b.2 c) fun f =>
  callG (!decide (c=[])) (tn c) false fun C =>
  bif ((!decide (c=[]))&&(!C))then
   some ((decide (f.2=5))&&(decide ((f.1.length:Int)=0)))
  else
  callG (decide (f.2=0)) (Mt b.1 b.2 c) [] fun D =>
  callG (decide (f.2=0)) (PD f.1 D) false fun E =>
  some ((decide (f.2=0))&&E)) fun F =>
 call (zI b.2.k) fun j =>
 ey ((j++[g]).length<=274877906944) <|
 forC ((j++[g]).length) 0 (fun m s l G =>
  call (Ng b.1 ((j++[g]).getD m (aa.mk [] 0 [] [] []))) fun n =>
  call (MY b.1 ((j++[g]).getD m (aa.mk [] 0 [] [] []))) fun o =>
  bif ((!decide (n.1=o.1))||(!decide (n.2=o.2)))then
   some false
  else
  l ()) () (fun _ =>
  F ())
end
end Go.Md
