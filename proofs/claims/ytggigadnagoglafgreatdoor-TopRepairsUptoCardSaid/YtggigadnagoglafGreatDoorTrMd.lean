/- Models of the functions that the statement reaches: what each computes, in plain words. -/
import Derived.Test.YtggigadnagoglafGreatDoorVc3
set_option linter.unusedVariables false
open List
namespace Go.Md
open Go.Vc
noncomputable section
instance theTabs:Tabs:=⟨fun b=>none,fun b=>false,fun e=>none,False⟩
theorem wE(e:Nat):Tabs.nest e=none:=rfl
attribute [go_sem] wE
def eE(b:Bool):List Dt:=[.b b]
def fl(x:dX):List Dt:=[.s x]
def JD(n:Int):List Dt:=[.i .i8 n]
def Ha(n:Int):List Dt:=[.i .i16 n]
def pN(n:Int):List Dt:=[.i .i32 n]
def zh(n:Int):List Dt:=[.i .i64 n]
def fK(n:Int):List Dt:=[.i .u8 n]
def G9(n:Int):List Dt:=[.i .u16 n]
def pM(n:Int):List Dt:=[.i .u32 n]
def pL(n:Int):List Dt:=[.i .u64 n]
theorem A2:∀r,eG r [.s]->∃x,r=fl x:=by
 intro r h
 rcases r with _|⟨d,_|_⟩ <;> simp only[eG,and_false,and_true]at h
 cases d <;> simp only[eD]at h
 exact⟨_,rfl⟩
theorem Fo:∀r,eG r [.i .i64]->∃x,r=zh x:=by
 intro r h
 rcases r with _|⟨d,_|_⟩ <;> simp only[eG,and_false,and_true]at h
 cases d <;> simp only[eD]at h
 subst h;exact⟨_,rfl⟩
theorem Hb:∀r,eG r [.i .u8]->∃x,r=fK x:=by
 intro r h
 rcases r with _|⟨d,_|_⟩ <;> simp only[eG,and_false,and_true]at h
 cases d <;> simp only[eD]at h
 subst h;exact⟨_,rfl⟩
structure ab where
 k:dX
 Value:dX
def za(x:ab):List Dt:=[.s x.k,.s x.Value]
def Gy:List Sh:=[.s,.s]
theorem KI:∀r,eG r Gy->∃x:ab,r=za x:=by
 intro r h;unfold Gy at h
 rcases r with _|⟨d0,_|⟨d1,_|_⟩⟩ <;> simp only[eG,and_false,and_true]at h
 obtain⟨h0,h1⟩:=h
 cases d0 <;> simp only[eD]at h0
 cases d1 <;> simp only[eD]at h1
 exact⟨⟨_,_⟩,rfl⟩
structure aa where
 a:dX
 u:dX
 w:Bool
def zc(x:aa):List Dt:=[.s x.a,.s x.u,.b x.w]
def IB:List Sh:=[.s,.s,.b]
theorem kT:∀r,eG r IB->∃x:aa,r=zc x:=by
 intro r h;unfold IB at h
 rcases r with _|⟨d0,_|⟨d1,_|⟨d2,_|_⟩⟩⟩ <;> simp only[eG,and_false,and_true]at h
 obtain⟨h0,h1,h2⟩:=h
 cases d0 <;> simp only[eD]at h0
 cases d1 <;> simp only[eD]at h1
 cases d2 <;> simp only[eD]at h2
 exact⟨⟨_,_,_⟩,rfl⟩
structure ah where
 o:dX
 a:dX
 B:Bool
 A:Bool
def zb(x:ah):List Dt:=[.s x.o,.s x.a,.b x.B,.b x.A]
def IP:List Sh:=[.s,.s,.b,.b]
theorem LO:∀r,eG r IP->∃x:ah,r=zb x:=by
 intro r h;unfold IP at h
 rcases r with _|⟨d0,_|⟨d1,_|⟨d2,_|⟨d3,_|_⟩⟩⟩⟩ <;> simp only[eG,and_false,and_true]at h
 obtain⟨h0,h1,h2,h3⟩:=h
 cases d0 <;> simp only[eD]at h0
 cases d1 <;> simp only[eD]at h1
 cases d2 <;> simp only[eD]at h2
 cases d3 <;> simp only[eD]at h3
 exact⟨⟨_,_,_,_⟩,rfl⟩
structure aj where
 q:List ab
 i:List aa
 n:List ab
 m:List ah
def zt(x:aj):List Dt:=[.l (List.map za x.q),.l (List.map zc x.i),.l (List.map za x.n),.l (List.map zb x.m)]
def Gx:List Sh:=[.l Gy,.l IB,.l Gy,.l IP]
theorem LN:∀r,eG r Gx->∃x:aj,r=zt x:=by
 intro r h;unfold Gx at h
 rcases r with _|⟨d0,_|⟨d1,_|⟨d2,_|⟨d3,_|_⟩⟩⟩⟩ <;> simp only[eG,and_false,and_true]at h
 obtain⟨h0,h1,h2,h3⟩:=h
 cases d0 <;> simp only[eD]at h0
 obtain⟨l0,rfl⟩:=rR KI h0
 cases d1 <;> simp only[eD]at h1
 obtain⟨l1,rfl⟩:=rR kT h1
 cases d2 <;> simp only[eD]at h2
 obtain⟨l2,rfl⟩:=rR KI h2
 cases d3 <;> simp only[eD]at h3
 obtain⟨l3,rfl⟩:=rR LO h3;exact⟨⟨_,_,_,_⟩,rfl⟩
structure ak where
 e:Int
 g:aa
 j:ab
 h:ah
def zm(x:ak):List Dt:=[.i .i64 x.e,.s x.g.a,.s x.g.u,.b x.g.w,.s x.j.k,.s x.j.Value,.s x.h.o,.s x.h.a,.b x.h.B,.b x.h.A]
def Gk:List Sh:=[.i .i64,.s,.s,.b,.s,.s,.s,.s,.b,.b]
set_option maxRecDepth 100000 in
theorem kS:∀r,eG r Gk->∃x:ak,r=zm x:=by
 intro r h;unfold Gk at h
 rcases r with _|⟨d0,_|⟨d1,_|⟨d2,_|⟨d3,_|⟨d4,_|⟨d5,_|⟨d6,_|⟨d7,_|⟨d8,_|⟨d9,_|_⟩⟩⟩⟩⟩⟩⟩⟩⟩⟩ <;> simp only[eG,and_false,and_true]at h
 obtain⟨h0,h1,h2,h3,h4,h5,h6,h7,h8,h9⟩:=h
 cases d0 <;> simp only[eD]at h0
 subst h0
 cases d1 <;> simp only[eD]at h1
 cases d2 <;> simp only[eD]at h2
 cases d3 <;> simp only[eD]at h3
 cases d4 <;> simp only[eD]at h4
 cases d5 <;> simp only[eD]at h5
 cases d6 <;> simp only[eD]at h6
 cases d7 <;> simp only[eD]at h7
 cases d8 <;> simp only[eD]at h8
 cases d9 <;> simp only[eD]at h9
 exact⟨⟨_,⟨_,_,_⟩,⟨_,_⟩,⟨_,_,_,_⟩⟩,rfl⟩
structure ai where
 e:Int
 g:aa
 j:ab
 h:ah
def zf(x:ai):List Dt:=[.i .i64 x.e,.s x.g.a,.s x.g.u,.b x.g.w,.s x.j.k,.s x.j.Value,.s x.h.o,.s x.h.a,.b x.h.B,.b x.h.A]
def DA:List Sh:=[.i .i64,.s,.s,.b,.s,.s,.s,.s,.b,.b]
set_option maxRecDepth 100000 in
theorem KK:∀r,eG r DA->∃x:ai,r=zf x:=by
 intro r h;unfold DA at h
 rcases r with _|⟨d0,_|⟨d1,_|⟨d2,_|⟨d3,_|⟨d4,_|⟨d5,_|⟨d6,_|⟨d7,_|⟨d8,_|⟨d9,_|_⟩⟩⟩⟩⟩⟩⟩⟩⟩⟩ <;> simp only[eG,and_false,and_true]at h
 obtain⟨h0,h1,h2,h3,h4,h5,h6,h7,h8,h9⟩:=h
 cases d0 <;> simp only[eD]at h0
 subst h0
 cases d1 <;> simp only[eD]at h1
 cases d2 <;> simp only[eD]at h2
 cases d3 <;> simp only[eD]at h3
 cases d4 <;> simp only[eD]at h4
 cases d5 <;> simp only[eD]at h5
 cases d6 <;> simp only[eD]at h6
 cases d7 <;> simp only[eD]at h7
 cases d8 <;> simp only[eD]at h8
 cases d9 <;> simp only[eD]at h9
 exact⟨⟨_,⟨_,_,_⟩,⟨_,_⟩,⟨_,_,_,_⟩⟩,rfl⟩
structure ae where
 t:dX
 e:Int
 a:dX
 x:dX
 z:dX
def zd(x:ae):List Dt:=[.s x.t,.i .i64 x.e,.s x.a,.s x.x,.s x.z]
def Gj:List Sh:=[.s,.i .i64,.s,.s,.s]
theorem Kx:∀r,eG r Gj->∃x:ae,r=zd x:=by
 intro r h;unfold Gj at h
 rcases r with _|⟨d0,_|⟨d1,_|⟨d2,_|⟨d3,_|⟨d4,_|_⟩⟩⟩⟩⟩ <;> simp only[eG,and_false,and_true]at h
 obtain⟨h0,h1,h2,h3,h4⟩:=h
 cases d0 <;> simp only[eD]at h0
 cases d1 <;> simp only[eD]at h1
 subst h1
 cases d2 <;> simp only[eD]at h2
 cases d3 <;> simp only[eD]at h3
 cases d4 <;> simp only[eD]at h4
 exact⟨⟨_,_,_,_,_⟩,rfl⟩
structure am where
 r:List ae
def z8(x:am):List Dt:=[.l (List.map zd x.r)]
def Kh:List Sh:=[.l Gj]
theorem w8:∀r,eG r Kh->∃x:am,r=z8 x:=by
 intro r h;unfold Kh at h
 rcases r with _|⟨d0,_|_⟩ <;> simp only[eG,and_false,and_true]at h
 have h0:=h
 cases d0 <;> simp only[eD]at h0
 obtain⟨l0,rfl⟩:=rR Kx h0;exact⟨⟨_⟩,rfl⟩
structure au where
 F:Bool
 G:Bool
def zQ(x:au):List Dt:=[.b x.F,.b x.G]
def KB:List Sh:=[.b,.b]
theorem ui:∀r,eG r KB->∃x:au,r=zQ x:=by
 intro r h;unfold KB at h
 rcases r with _|⟨d0,_|⟨d1,_|_⟩⟩ <;> simp only[eG,and_false,and_true]at h
 obtain⟨h0,h1⟩:=h
 cases d0 <;> simp only[eD]at h0
 cases d1 <;> simp only[eD]at h1
 exact⟨⟨_,_⟩,rfl⟩
structure ao where
 e:Int
 a:dX
def zk(x:ao):List Dt:=[.i .i64 x.e,.s x.a]
def Iy:List Sh:=[.i .i64,.s]
theorem kR:∀r,eG r Iy->∃x:ao,r=zk x:=by
 intro r h;unfold Iy at h
 rcases r with _|⟨d0,_|⟨d1,_|_⟩⟩ <;> simp only[eG,and_false,and_true]at h
 obtain⟨h0,h1⟩:=h
 cases d0 <;> simp only[eD]at h0
 subst h0
 cases d1 <;> simp only[eD]at h1
 exact⟨⟨_,_⟩,rfl⟩
structure aq where
 E:List ai
 D:am
 H:List ao
def zP(x:aq):List Dt:=[.l (List.map zf x.E),.l (List.map zd x.D.r),.l (List.map zk x.H)]
def KC:List Sh:=[.l DA,.l Gj,.l Iy]
theorem uh:∀r,eG r KC->∃x:aq,r=zP x:=by
 intro r h;unfold KC at h
 rcases r with _|⟨d0,_|⟨d1,_|⟨d2,_|_⟩⟩⟩ <;> simp only[eG,and_false,and_true]at h
 obtain⟨h0,h1,h2⟩:=h
 cases d0 <;> simp only[eD]at h0
 obtain⟨l0,rfl⟩:=rR KK h0
 cases d1 <;> simp only[eD]at h1
 obtain⟨l1,rfl⟩:=rR Kx h1
 cases d2 <;> simp only[eD]at h2
 obtain⟨l2,rfl⟩:=rR kR h2;exact⟨⟨_,⟨_⟩,_⟩,rfl⟩
structure al where
 C:Int
 y:dX
def zp(x:al):List Dt:=[.i .i64 x.C,.s x.y]
def KD:List Sh:=[.i .i64,.s]
theorem ug:∀r,eG r KD->∃x:al,r=zp x:=by
 intro r h;unfold KD at h
 rcases r with _|⟨d0,_|⟨d1,_|_⟩⟩ <;> simp only[eG,and_false,and_true]at h
 obtain⟨h0,h1⟩:=h
 cases d0 <;> simp only[eD]at h0
 subst h0
 cases d1 <;> simp only[eD]at h1
 exact⟨⟨_,_⟩,rfl⟩
structure ar where
 t:dX
 a:dX
 e:Int
 I:Int
def xQ(x:ar):List Dt:=[.s x.t,.s x.a,.i .i64 x.e,.i .i64 x.I]
def Kv:List Sh:=[.s,.s,.i .i64,.i .i64]
theorem vu:∀r,eG r Kv->∃x:ar,r=xQ x:=by
 intro r h;unfold Kv at h
 rcases r with _|⟨d0,_|⟨d1,_|⟨d2,_|⟨d3,_|_⟩⟩⟩⟩ <;> simp only[eG,and_false,and_true]at h
 obtain⟨h0,h1,h2,h3⟩:=h
 cases d0 <;> simp only[eD]at h0
 cases d1 <;> simp only[eD]at h1
 cases d2 <;> simp only[eD]at h2
 subst h2
 cases d3 <;> simp only[eD]at h3
 subst h3;exact⟨⟨_,_,_,_⟩,rfl⟩
instance instDec_keep_place:DecidableEq al:=fun a b=>decidable_of_iff (a.C=b.C/\a.y=b.y) (by cases a;cases b;simp)
def zi(x:al):Dt:=.a (zp x)
theorem zA(a b:al):fi (zi a) (zi b)=decide (a=b):=by
 rw[Bool.eq_iff_iff];obtain⟨a0,a1⟩:=a;obtain⟨b0,b1⟩:=b;simp only[fi,zi,zp,fb,Bool.and_true,Bool.and_eq_true,decide_eq_true_eq,al.mk.injEq];exact⟨fun h=>by simp only[h,and_self],fun h=>by simp only[h,and_self]⟩
theorem Mw{V:Type}(e:V->List Dt)(l:List (al×V)):ik (.ks [.i .i64,.s]) (zj zi e l)=True:=pt (kd:=zp) (fun x=>by simp[zD,zp]) e l
attribute [go_sem] Mw
theorem Ab:∀l,eT (1) (List.map eE l)=True:=fun l=>eq_true (by intro r hr;obtain⟨x,_,rfl⟩:=mem_map.1 hr;rfl)
theorem Aa:∀l,eT (1) (List.map fl l)=True:=fun l=>eq_true (by intro r hr;obtain⟨x,_,rfl⟩:=mem_map.1 hr;rfl)
theorem nQ:∀l,eT (1) (List.map zh l)=True:=fun l=>eq_true (by intro r hr;obtain⟨x,_,rfl⟩:=mem_map.1 hr;rfl)
theorem ql:∀l,eT (1) (List.map fK l)=True:=fun l=>eq_true (by intro r hr;obtain⟨x,_,rfl⟩:=mem_map.1 hr;rfl)
theorem nO:∀l,eT (1) (List.map pL l)=True:=fun l=>eq_true (by intro r hr;obtain⟨x,_,rfl⟩:=mem_map.1 hr;rfl)
theorem nR:∀l,eT (1) (List.map pN l)=True:=fun l=>eq_true (by intro r hr;obtain⟨x,_,rfl⟩:=mem_map.1 hr;rfl)
theorem nP:∀l,eT (1) (List.map pM l)=True:=fun l=>eq_true (by intro r hr;obtain⟨x,_,rfl⟩:=mem_map.1 hr;rfl)
theorem MK:∀l,eT (2) (List.map za l)=True:=fun l=>eq_true (by intro r hr;obtain⟨x,_,rfl⟩:=mem_map.1 hr;rfl)
theorem L6:∀l,eT (3) (List.map zc l)=True:=fun l=>eq_true (by intro r hr;obtain⟨x,_,rfl⟩:=mem_map.1 hr;rfl)
theorem MJ:∀l,eT (4) (List.map zb l)=True:=fun l=>eq_true (by intro r hr;obtain⟨x,_,rfl⟩:=mem_map.1 hr;rfl)
theorem MI:∀l,eT (4) (List.map zt l)=True:=fun l=>eq_true (by intro r hr;obtain⟨x,_,rfl⟩:=mem_map.1 hr;rfl)
theorem L8:∀l,eT (10) (List.map zm l)=True:=fun l=>eq_true (by intro r hr;obtain⟨x,_,rfl⟩:=mem_map.1 hr;rfl)
theorem MO:∀l,eT (10) (List.map zf l)=True:=fun l=>eq_true (by intro r hr;obtain⟨x,_,rfl⟩:=mem_map.1 hr;rfl)
theorem L7:∀l,eT (5) (List.map zd l)=True:=fun l=>eq_true (by intro r hr;obtain⟨x,_,rfl⟩:=mem_map.1 hr;rfl)
theorem L9:∀l,eT (1) (List.map z8 l)=True:=fun l=>eq_true (by intro r hr;obtain⟨x,_,rfl⟩:=mem_map.1 hr;rfl)
theorem MP:∀l,eT (2) (List.map zQ l)=True:=fun l=>eq_true (by intro r hr;obtain⟨x,_,rfl⟩:=mem_map.1 hr;rfl)
theorem Ma:∀l,eT (2) (List.map zk l)=True:=fun l=>eq_true (by intro r hr;obtain⟨x,_,rfl⟩:=mem_map.1 hr;rfl)
theorem MQ:∀l,eT (3) (List.map zP l)=True:=fun l=>eq_true (by intro r hr;obtain⟨x,_,rfl⟩:=mem_map.1 hr;rfl)
theorem ML:∀l,eT (2) (List.map zp l)=True:=fun l=>eq_true (by intro r hr;obtain⟨x,_,rfl⟩:=mem_map.1 hr;rfl)
theorem MG:∀l,eT (4) (List.map xQ l)=True:=fun l=>eq_true (by intro r hr;obtain⟨x,_,rfl⟩:=mem_map.1 hr;rfl)
theorem nj:∀l:List Int,fm (List.map fK l)=True
 |[]=>by simp only[map_nil,fm]
 |_::l=>by simp only[map_cons,fK,fm,nj l,and_self]
theorem oQ:∀l:List Int,gf (List.map fK l)=Go.Vc.strOf l
 |[]=>by simp only[map_nil,gf,Go.Vc.strOf]
 |_::l=>by simp only[map_cons,fK,gf,oQ l,Go.Vc.strOf]
theorem Be(l:dX):bR l=List.map fK (Bz l):=by simp[bR,Bz,fK]
attribute [go_sem] nj oQ Be
attribute [go_sem] eE fl zh fK pL pN pM za zc zb zt zm zf zd z8 zQ zk zP zp xQ Ab Aa nQ ql nO nR nP MK L6 MJ MI L8 MO L7 L9 MP Ma MQ ML MG
def xN(b:Int):Option Bool :=
 some ((decide (97<=b))&&(decide (b<=122)))
def B1(b:Int):Option Bool :=
 some ((decide (48<=b))&&(decide (b<=57)))
def Du(b:Int):Option Bool :=
 call (xN b) fun c =>
 callG (!c) (B1 b) false fun f =>
 some (((c||f)||(decide (b=45)))||(decide (b=46)))
def Gl(b:dX)(c:Int):Option Bool :=
 jp (S:=Unit) (fun _ =>
  some ((!decide (b=[]))&&(decide ((b.length:Int)<=c)))) fun g =>
 forL b 0 (fun k i s f l =>
  call (Du (i.toNat:Int)) fun j =>
  bif !j then
   some false
  else
  f ()) () (fun _ =>
  g ())
def oP(b:dX):Option Bool :=
 call (Gl b 40) fun c =>
 dZ (c=true->(0<=0/\0<(b.length:Int))) <|
 callG c (xN ((b.getD 0 0).toNat:Int)) false fun f =>
 some (c&&f)
def C1 :Option Bool :=
 call (oP ([97]:dX)) fun b =>
 some b
def GC(b:Int):Option Bool :=
 some ((decide (32<=b))&&(decide (b<=126)))
def Gm(b:dX)(c:Int):Option Bool :=
 jp (S:=Unit) (fun _ =>
  some ((!decide (b=[]))&&(decide ((b.length:Int)<=c)))) fun g =>
 forL b 0 (fun k i s f l =>
  call (GC (i.toNat:Int)) fun j =>
  bif !j then
   some false
  else
  f ()) () (fun _ =>
  g ())
def B0(b:dX):Option Bool :=
 callG (!(decide (b=[]))) (Gm b 1000) false fun c =>
 some ((decide (b=[]))||c)
def GP(b:ab):Option Int :=
 call (oP b.k) fun c =>
 bif !c then
  some 5
 else
 call (B0 b.Value) fun f =>
 bif !f then
  some 2
 else
 some 0
def Do(b:ab):Option Int :=
 call (GP b) fun c =>
 some c
def xH(b:ab):Option dX :=
 some b.k
def DZ(c:List ab):Option Int :=
 jp (S:=Unit) (fun _ =>
  some 0) fun m =>
 forL c 0 (fun b f s l n =>
  call (Do f) fun g =>
  bif !decide (g=0)then
   some g
  else
  callG (decide (0<(b:Int))) (xH f) [] fun i =>
  dZ ((decide (0<(b:Int)))=true->(0<=IntKind.i64.wrap ((b:Int)-1)/\IntKind.i64.wrap ((b:Int)-1)<(c.length:Int))) <|
  callG (decide (0<(b:Int))) (xH (ab.mk ((c.getD ((IntKind.i64.wrap ((b:Int)-1)).toNat) (ab.mk [] [])).k) ((c.getD ((IntKind.i64.wrap ((b:Int)-1)).toNat) (ab.mk [] [])).Value))) [] fun j =>
  bif ((decide (0<(b:Int)))&&(li i j||decide (i=j)))then
   some 7
  else
  l ()) () (fun _ =>
  m ())
def G4(b:dX)(c:Int):Option Int :=
 some (vc b c)
def D4(c:dX)(b:dX):Option Int :=
 bif ((decide ((b.length:Int)=0))||(decide (b=c)))then
  some 0
 else
 bif decide ((b.length:Int)=1)then
  iC b 0 fun f =>
  call (G4 c f) fun g =>
  some g
 else
 bif decide ((c.length:Int)<=(b.length:Int))then
  some (-1)
 else
 none
def Ca(c:dX)(b:dX):Option Int :=
 call (D4 c b) fun f =>
 some f
def DD(i:dX)(b:dX):Option Int :=
 bif decide ((b.length:Int)=0)then
  none
 else
 bif decide ((b.length:Int)=1)then
  iC b 0 fun k =>
  some (vJ i k)
 else
 loopN ia (fun s j l =>
  match s with
  |(c,g) =>
   call (Ca c b) fun f =>
   bif decide (f=(-1))then
    some g
   else
   dZ (0<=IntKind.i64.wrap (f+(b.length:Int))/\IntKind.i64.wrap (f+(b.length:Int))<=(c.length:Int)) <|
   j (List.drop ((IntKind.i64.wrap (f+(b.length:Int))).toNat) c,IntKind.i64.wrap (g+1))) (i,0) (fun s=>match s with
  |(c,g) =>
   none)
def DG(j:dX)(c:dX)(b:Int)(o:Int):Option (List dX) :=
 bif decide (o=0)then
  some []
 else
 bif decide (c=[])then
  none
 else
 jp (S:=Int) (fun m =>
  dZ (0<=min m (IntKind.i64.wrap ((j.length:Int)+1))/\min m (IntKind.i64.wrap ((j.length:Int)+1))<=min m (IntKind.i64.wrap ((j.length:Int)+1))/\min m (IntKind.i64.wrap ((j.length:Int)+1))<=274877906944) <|
  jp (S:=dX×Int×List dX) (fun s=>match s with
   |(p,k,n) =>
    dZ (0<=k/\k<(n.length:Int)) <|
    dZ (0<=IntKind.i64.wrap (k+1)/\IntKind.i64.wrap (k+1)<=((List.set n k.toNat p).length:Int)) <|
    some (List.take ((IntKind.i64.wrap (k+1)).toNat) (List.set n k.toNat p))) fun w =>
  loopN ia (fun s v t =>
   match s with
   |(f,g,i) =>
    bif decide (g<(IntKind.i64.wrap ((min m (IntKind.i64.wrap ((j.length:Int)+1)))-1)))then
     call (Ca f c) fun l =>
     bif decide (l<0)then
      t (f,g,i)
     else
     dZ (0<=IntKind.i64.wrap (l+b)/\IntKind.i64.wrap (l+b)<=(f.length:Int)) <|
     dZ (0<=g/\g<(i.length:Int)) <|
     dZ (0<=IntKind.i64.wrap (l+(c.length:Int))/\IntKind.i64.wrap (l+(c.length:Int))<=(f.length:Int)) <|
     v (List.drop ((IntKind.i64.wrap (l+(c.length:Int))).toNat) f,IntKind.i64.wrap (g+1),List.set i g.toNat (List.take ((IntKind.i64.wrap (l+b)).toNat) f))
    else
    t (f,g,i)) (j,0,List.replicate ((min m (IntKind.i64.wrap ((j.length:Int)+1))).toNat) []) (fun s=>match s with
   |(f,g,i) =>
    w (f,g,i))) fun u =>
 bif decide (o<0)then
  call (DD j c) fun z =>
  u (IntKind.i64.wrap (z+1))
 else
 u o
def DE(c:dX)(b:dX):Option (List dX) :=
 call (DG c b 0 (-1)) fun f =>
 some f
def Gw(b:Int):Option Bool :=
 call (xN b) fun c =>
 callG (!(c||((decide (65<=b))&&(decide (b<=90))))) (B1 b) false fun f =>
 some (((((c||((decide (65<=b))&&(decide (b<=90))))||f)||(decide (b=45)))||(decide (b=46)))||(decide (b=95)))
def Gn(b:dX)(c:Int):Option Bool :=
 jp (S:=Unit) (fun _ =>
  some ((!decide (b=[]))&&(decide ((b.length:Int)<=c)))) fun g =>
 forL b 0 (fun k i s f l =>
  call (Gw (i.toNat:Int)) fun j =>
  bif !j then
   some false
  else
  f ()) () (fun _ =>
  g ())
def Di(b:dX):Option Bool :=
 call (Gn b 40) fun c =>
 some ((c&&(!decide (b=([46]:dX))))&&(!decide (b=([46,46]:dX))))
def vj(b:dX):Option Bool :=
 jp (S:=Unit) (fun _ =>
  some (decide ((b.length:Int)<=200))) fun f =>
 call (DE b ([47]:dX)) fun g =>
 forL g 0 (fun k i s c l =>
  call (Di i) fun j =>
  bif !j then
   some false
  else
  c ()) () (fun _ =>
  f ())
def xO(b:aa):Option Int :=
 call (vj b.a) fun c =>
 bif !c then
  some 5
 else
 bif decide (65536<(b.u.length:Int))then
  some 4
 else
 some 0
def DH(b:dX)(c:List (dX×Bool)):Option Bool :=
 eA (zu c b) fun f =>
 some (!(f.getD false))
def B8(b:dX)(g:List (dX×Bool)):Option Bool :=
 jp (S:=Unit) (fun _ =>
  some true) fun j =>
 forL b 0 (fun c f s i l =>
  dZ ((decide ((f.toNat:Int)=47))=true->(0<=(c:Int)/\(c:Int)<=(b.length:Int))) <|
  callG (decide ((f.toNat:Int)=47)) (DH (List.take c b) g) false fun k =>
  bif ((decide ((f.toNat:Int)=47))&&(!k))then
   some false
  else
  i ()) () (fun _ =>
  j ())
def xX(b:ab):Option Int :=
 call (vj b.k) fun c =>
 bif !c then
  some 5
 else
 call (B0 b.Value) fun f =>
 bif !f then
  some 2
 else
 some 0
def Dp(b:ab):Option Int :=
 call (xX b) fun c =>
 some c
def Ch(c:List ab):Option Int :=
 jp (S:=Unit) (fun _ =>
  some 0) fun m =>
 forL c 0 (fun b f s l n =>
  call (Dp f) fun g =>
  bif !decide (g=0)then
   some g
  else
  callG (decide (0<(b:Int))) (xH f) [] fun i =>
  dZ ((decide (0<(b:Int)))=true->(0<=IntKind.i64.wrap ((b:Int)-1)/\IntKind.i64.wrap ((b:Int)-1)<(c.length:Int))) <|
  callG (decide (0<(b:Int))) (xH (ab.mk ((c.getD ((IntKind.i64.wrap ((b:Int)-1)).toNat) (ab.mk [] [])).k) ((c.getD ((IntKind.i64.wrap ((b:Int)-1)).toNat) (ab.mk [] [])).Value))) [] fun j =>
  bif ((decide (0<(b:Int)))&&(li i j||decide (i=j)))then
   some 7
  else
  l ()) () (fun _ =>
  m ())
def Cb(b:ah):Option Int :=
 call (oP b.o) fun c =>
 callG (!(!c)) (vj b.a) false fun f =>
 bif ((!c)||(!f))then
  some 5
 else
 some 0
def C8(b:ah):Option dX :=
 some b.o
def Cg(c:List ah):Option Int :=
 jp (S:=Unit) (fun _ =>
  some 0) fun l =>
 forL c 0 (fun b f s k m =>
  call (Cb f) fun g =>
  bif !decide (g=0)then
   some g
  else
  callG (decide (0<(b:Int))) (C8 f) [] fun i =>
  dZ ((decide (0<(b:Int)))=true->(0<=IntKind.i64.wrap ((b:Int)-1)/\IntKind.i64.wrap ((b:Int)-1)<(c.length:Int))) <|
  callG (decide (0<(b:Int))) (C8 (ah.mk ((c.getD ((IntKind.i64.wrap ((b:Int)-1)).toNat) (ah.mk [] [] false false)).o) ((c.getD ((IntKind.i64.wrap ((b:Int)-1)).toNat) (ah.mk [] [] false false)).a) ((c.getD ((IntKind.i64.wrap ((b:Int)-1)).toNat) (ah.mk [] [] false false)).B) ((c.getD ((IntKind.i64.wrap ((b:Int)-1)).toNat) (ah.mk [] [] false false)).A))) [] fun j =>
  bif ((decide (0<(b:Int)))&&(li i j||decide (i=j)))then
   some 7
  else
  k ()) () (fun _ =>
  l ())
def vQ(c:aj):Option Int :=
 bif ((((decide (100<(c.q.length:Int)))||(decide (2000<(c.i.length:Int))))||(decide (2000<(c.n.length:Int))))||(decide (100<(c.m.length:Int))))then
  some 4
 else
 call (DZ c.q) fun k =>
 bif !decide (k=0)then
  some k
 else
 jp (S:=Unit) (fun _ =>
  call (Ch c.n) fun l =>
  bif !decide (l=0)then
   some l
  else
  call (Cg c.m) fun u =>
  some u) fun v =>
 forL c.i 0 (fun p f s j w =>
  match s with
  |(b,g) =>
   call (xO f) fun o =>
   bif !decide (o=0)then
    some o
   else
   bif ((decide (0<(p:Int)))&&(li f.a b||decide (f.a=b)))then
    some 7
   else
   call (B8 f.a g) fun t =>
   bif !t then
    some 11
   else
   dZ ((ec g f.a true).length<=274877906944) <|
   j (f.a,ec g f.a true)) ([],[]) (fun s=>match s with
  |(b,g) =>
   v ())
def zO(b:List ab):Option (List ab) :=
 qa (fun c:Bool=>c=true->b=[]) fun c =>
 bif c then
  some []
 else
 dZ (([]++b).length<=274877906944) <|
 some ([]++b)
def DO(b:dX)(i:List ab)(j:List (dX×aa))(f:List (dX×Int))(k:List (dX×ab))(l:List (dX×ah))(c:Int):Option (Bool×(List (dX×Int))) :=
 eA (zu f b) fun g =>
 dZ ((ec f b (IntKind.i64.wrap ((g.getD 0)+c))).length<=274877906944) <|
 some (true,ec f b (IntKind.i64.wrap ((g.getD 0)+c)))
def Gu(b:dX)(g:List ab)(o:List (dX×aa))(p:List (dX×Int))(t:List (dX×ab))(l:List (dX×ah))(f:Int):Option (Bool×(List (dX×Int))) :=
 jp (S:=(List (dX×Int))) (fun m =>
  some (true,m)) fun u =>
 forL b 0 (fun i j c n v =>
  dZ ((decide ((j.toNat:Int)=47))=true->(0<=(i:Int)/\(i:Int)<=(b.length:Int))) <|
  callG (decide ((j.toNat:Int)=47)) (DO (List.take i b) g o c t l f) (false,c) fun k =>
  bif ((decide ((j.toNat:Int)=47))&&(!k.1))then
   some (false,k.2)
  else
  n k.2) p (fun c =>
  u c)
def Cj(b:dX)(k:Int)(c:List ab)(f:List (dX×aa))(g:List (dX×Int))(i:List (dX×ab))(j:List (dX×ah)):Option ((List (dX×Int))) :=
 call (Gu b c f g i j k) fun l =>
 some l.2
def yS(b:aa)(f:List ab)(c:List (dX×aa))(g:List (dX×Int))(i:List (dX×ab))(j:List (dX×ah)):Option ((List (dX×aa))×(List (dX×Int))) :=
 eA (zu c b.a) fun k =>
 bif !k.isSome then
  call (Cj b.a 1 f c g i j) fun l =>
  dZ ((ec c b.a b).length<=274877906944) <|
  some (ec c b.a b,l)
 else
 dZ ((ec c b.a b).length<=274877906944) <|
 some (ec c b.a b,g)
def Dq(j:aj):Option ((List (dX×aa))×(List (dX×Int))×(List (dX×ab))×(List (dX×ah))×List ab) :=
 call (zO j.q) fun D =>
 jp (S:=(List (dX×aa))×(List (dX×Int))) (fun s=>match s with
  |(t,u) =>
   jp (S:=(List (dX×ab))) (fun v =>
    jp (S:=(List (dX×ah))) (fun w =>
     some (t,u,v,w,D)) fun F =>
    forL j.m 0 (fun L l b z M =>
     dZ ((ec b l.o l).length<=274877906944) <|
     z (ec b l.o l)) [] (fun b =>
     F b)) fun G =>
   forL j.n 0 (fun N p c B O =>
    dZ ((ec c p.k p).length<=274877906944) <|
    B (ec c p.k p)) [] (fun c =>
    G c)) fun I =>
 forL j.i 0 (fun P J s C Q =>
  match s with
  |(f,g) =>
   call (yS J D f g [] []) fun E =>
   C (E.1,E.2)) ([],[]) (fun s=>match s with
  |(f,g) =>
   I (f,g))
def Cc(b:ai):Option Int :=
 jp (S:=Int×dX×dX×Bool×dX×dX×dX×dX×Bool×Bool) (fun s=>match s with
  |(C,m,n,p,t,v,z,f,i,l) =>
   bif ((decide (C=0))&&(!((decide (b.e=b.e))&&((decide (b.g.a=m))&&((decide (b.g.u=n))&&((decide (b.g.w=p))&&((decide (b.j.k=t))&&((decide (b.j.Value=v))&&((decide (b.h.o=z))&&((decide (b.h.a=f))&&((decide (b.h.B=i))&&(decide (b.h.A=l)))))))))))))then
    some 2
   else
   some C) fun c =>
 bif decide (b.e=1)then
  call (xO b.g) fun D =>
  c (D,b.g.a,b.g.u,b.g.w,[],[],[],[],false,false)
 else
 bif decide (b.e=2)then
  call (xO (aa.mk b.g.a [] false)) fun E =>
  c (E,b.g.a,[],false,[],[],[],[],false,false)
 else
 bif decide (b.e=3)then
  call (xX b.j) fun F =>
  c (F,[],[],false,b.j.k,b.j.Value,[],[],false,false)
 else
 bif decide (b.e=4)then
  call (xX (ab.mk b.j.k [])) fun G =>
  c (G,[],[],false,b.j.k,[],[],[],false,false)
 else
 bif decide (b.e=5)then
  call (Cb b.h) fun I =>
  c (I,[],[],false,[],[],b.h.o,b.h.a,b.h.B,b.h.A)
 else
 bif decide (b.e=6)then
  call (oP b.h.o) fun J =>
  bif !J then
   c (5,[],[],false,[],[],b.h.o,[],false,false)
  else
  c (0,[],[],false,[],[],b.h.o,[],false,false)
 else
 some 1
def D2(b:dX)(f:List ab)(c:List (dX×aa))(i:List (dX×Int))(j:List (dX×ab))(k:List (dX×ah)):Option Bool :=
 eA (zu c b) fun g =>
 some (!g.isSome)
def Dy(b:dX)(c:List ab)(j:List (dX×aa))(k:List (dX×Int))(l:List (dX×ab))(m:List (dX×ah)):Option Bool :=
 jp (S:=Unit) (fun _ =>
  some true) fun o =>
 forL b 0 (fun f g s i p =>
  dZ ((decide ((g.toNat:Int)=47))=true->(0<=(f:Int)/\(f:Int)<=(b.length:Int))) <|
  callG (decide ((g.toNat:Int)=47)) (D2 (List.take f b) c j k l m) false fun n =>
  bif ((decide ((g.toNat:Int)=47))&&(!n))then
   some false
  else
  i ()) () (fun _ =>
  o ())
def D5(b:dX)(c:List ab)(g:List (dX×aa))(f:List (dX×Int))(i:List (dX×ab))(j:List (dX×ah)):Option Bool :=
 call (Dy b c g f i j) fun k =>
 eA (zu f b) fun l =>
 some ((!k)||(decide (0<(l.getD 0))))
def D3(b:dX)(c:List (dX×aa)):Option Bool :=
 eA (zu c b) fun f =>
 some (!f.isSome)
def DX(b:dX)(c:List (dX×ab)):Option Bool :=
 eA (zu c b) fun f =>
 some (!f.isSome)
def DW(b:dX)(c:List (dX×ah)):Option Bool :=
 eA (zu c b) fun f =>
 some (!f.isSome)
def GG(b:ai)(n:List ab)(f:List (dX×aa))(u:List (dX×Int))(i:List (dX×ab))(l:List (dX×ah)):Option Int :=
 jp (S:=Bool×Int×Int) (fun s=>match s with
  |(p,t,m) =>
   bif p then
    some 10
   else
   bif decide (m<t)then
    some 4
   else
   some 0) fun c =>
 bif decide (b.e=1)then
  call (D5 b.g.a n f u i l) fun v =>
  bif v then
   some 11
  else
  call (D3 b.g.a f) fun w =>
  bif w then
   c (false,IntKind.i64.wrap ((f.length:Int)+1),2000)
  else
  c (false,0,1)
 else
 bif decide (b.e=2)then
  call (D3 b.g.a f) fun z =>
  c (z,0,1)
 else
 bif decide (b.e=3)then
  call (DX b.j.k i) fun B =>
  bif B then
   c (false,IntKind.i64.wrap ((i.length:Int)+1),2000)
  else
  c (false,0,1)
 else
 bif decide (b.e=4)then
  call (DX b.j.k i) fun C =>
  c (C,0,1)
 else
 bif decide (b.e=5)then
  call (DW b.h.o l) fun D =>
  bif D then
   c (false,IntKind.i64.wrap ((l.length:Int)+1),100)
  else
  c (false,0,1)
 else
 bif decide (b.e=6)then
  call (DW b.h.o l) fun E =>
  c (E,0,1)
 else
 c (false,0,1)
def DK(b:dX)(c:List ab)(f:List (dX×aa))(g:List (dX×Int))(i:List (dX×ab))(j:List (dX×ah)):Option ((List (dX×aa))×(List (dX×Int))) :=
 call (Cj b (-1) c (fe f b) g i j) fun k =>
 some (fe f b,k)
def Cd(b:ai)(m:List ab)(i:List (dX×aa))(l:List (dX×Int))(c:List (dX×ab))(f:List (dX×ah)):Option (Int×(List (dX×aa))×(List (dX×Int))×(List (dX×ab))×(List (dX×ah))) :=
 call (Cc b) fun p =>
 bif !decide (p=0)then
  some (p,i,l,c,f)
 else
 call (GG b m i l c f) fun t =>
 bif !decide (t=0)then
  some (t,i,l,c,f)
 else
 bif decide (b.e=1)then
  call (yS b.g m i l c f) fun u =>
  some (0,u.1,u.2,c,f)
 else
 bif decide (b.e=2)then
  call (DK b.g.a m i l c f) fun n =>
  some (0,n.1,n.2,c,f)
 else
 bif decide (b.e=3)then
  dZ ((ec c b.j.k b.j).length<=274877906944) <|
  some (0,i,l,ec c b.j.k b.j,f)
 else
 bif decide (b.e=4)then
  some (0,i,l,fe c b.j.k,f)
 else
 bif decide (b.e=5)then
  dZ ((ec f b.h.o b.h).length<=274877906944) <|
  some (0,i,l,c,ec f b.h.o b.h)
 else
 bif decide (b.e=6)then
  some (0,i,l,c,fe f b.h.o)
 else
 some (0,i,l,c,f)
def zR(b:List (dX×aa)):Option Unit :=
 some ()
def Lc(m1:List (dX×aa)):Option (List dX):=some (sortS (m1.map (·.1)))
def GM(c:List (dX×aa)):Option (List aa) :=
 jp (S:=List aa) (fun g =>
  some g) fun j =>
 call (zR c) fun o =>
 call (Lc c) fun k =>
 forL k 0 (fun m l b i n =>
  eA (zu c l) fun f =>
  dZ ((b++[(f.getD (aa.mk [] [] false))]).length<=274877906944) <|
  i (b++[(f.getD (aa.mk [] [] false))])) [] (fun b =>
  j b)
def zJ(b:List (dX×ab)):Option Unit :=
 some ()
def Ld(m1:List (dX×ab)):Option (List dX):=some (sortS (m1.map (·.1)))
def GZ(c:List (dX×ab)):Option (List ab) :=
 jp (S:=List ab) (fun g =>
  some g) fun j =>
 call (zJ c) fun o =>
 call (Ld c) fun k =>
 forL k 0 (fun m l b i n =>
  eA (zu c l) fun f =>
  dZ ((b++[(f.getD (ab.mk [] []))]).length<=274877906944) <|
  i (b++[(f.getD (ab.mk [] []))])) [] (fun b =>
  j b)
def zK(b:List (dX×ah)):Option Unit :=
 some ()
def Le(m1:List (dX×ah)):Option (List dX):=some (sortS (m1.map (·.1)))
def GY(c:List (dX×ah)):Option (List ah) :=
 jp (S:=List ah) (fun g =>
  some g) fun j =>
 call (zK c) fun o =>
 call (Le c) fun k =>
 forL k 0 (fun m l b i n =>
  eA (zu c l) fun f =>
  dZ ((b++[(f.getD (ah.mk [] [] false false))]).length<=274877906944) <|
  i (b++[(f.getD (ah.mk [] [] false false))])) [] (fun b =>
  j b)
def Ci(b:List ab)(c:List (dX×aa))(m:List (dX×Int))(f:List (dX×ab))(g:List (dX×ah)):Option aj :=
 call (zO b) fun i =>
 call (GM c) fun j =>
 call (GZ f) fun k =>
 call (GY g) fun l =>
 some (aj.mk i j k l)
def C2(v:aj)(w:List ai):Option (aj×Int) :=
 call (Dq v) fun b =>
 jp (S:=(List (dX×aa))×(List (dX×Int))×(List (dX×ab))×(List (dX×ah))) (fun s=>match s with
  |(o,k,l,m) =>
   call (Ci b.2.2.2.2 o k l m) fun p =>
   some (p,0)) fun t =>
 forL w 0 (fun z u s n B =>
  match s with
  |(f,g,i,j) =>
   call (Cd u b.2.2.2.2 f g i j) fun c =>
   bif !decide (c.1=0)then
    some ((aj.mk [] [] [] []),c.1)
   else
   n (c.2.1,c.2.2.1,c.2.2.2.1,c.2.2.2.2)) (b.1,b.2.1,b.2.2.1,b.2.2.2.1) (fun s=>match s with
  |(f,g,i,j) =>
   t (f,g,i,j))
def vk(b:aj)(g:List ai):Option (aj×Int) :=
 call (vQ b) fun c =>
 bif !decide (c=0)then
  some ((aj.mk [] [] [] []),c)
 else
 call (C2 b g) fun f =>
 some (f.1,f.2)
def yP(k:ai)(b:List ab)(c:List aa)(f:List ab)(g:List ah):Option (List ab×List aa×List ab×List ah) :=
 call (vk (aj.mk b c f g) [k]) fun j =>
 bif decide (j.2=0)then
  some (j.1.q,j.1.i,j.1.n,j.1.m)
 else
 some (b,c,f,g)
def zB(b:List ab):Option (List ab) :=
 qa (fun c:Bool=>c=true->b=[]) fun c =>
 bif c then
  some []
 else
 dZ (([]++b).length<=274877906944) <|
 some ([]++b)
def GR(b:List aa):Option (List aa) :=
 qa (fun c:Bool=>c=true->b=[]) fun c =>
 bif c then
  some []
 else
 dZ (([]++b).length<=274877906944) <|
 some ([]++b)
def GW(b:List ah):Option (List ah) :=
 qa (fun c:Bool=>c=true->b=[]) fun c =>
 bif c then
  some []
 else
 dZ (([]++b).length<=274877906944) <|
 some ([]++b)
def Dw(b:aj):Option (List ab×List aa×List ab×List ah×List ab×List aa×List ab×List ah) :=
 call (zB b.q) fun c =>
 call (GR b.i) fun f =>
 call (zB b.n) fun g =>
 call (GW b.m) fun j =>
 some (b.q,b.i,b.n,b.m,c,f,g,j)
def G3(c:dX)(b:dX):Option Bool :=
 dZ ((decide ((b.length:Int)<=(c.length:Int)))=true->(0<=(b.length:Int)/\(b.length:Int)<=(c.length:Int))) <|
 some ((decide ((b.length:Int)<=(c.length:Int)))&&(decide ((List.take b.length c)=b)))
def GL(c:dX)(b:dX):Option Bool :=
 call (G3 c b) fun f =>
 some f
def B5(c:dX)(b:dX):Option Bool :=
 dZ ((b++([47]:dX)).length<=274877906944) <|
 call (GL c (b++([47]:dX))) fun f =>
 some f
def DB(b:dX):Option Bool :=
 call (B5 b ([115,116,97,103,101]:dX)) fun c =>
 some c
def xV(b:aa):Option Bool :=
 call (DB b.a) fun c =>
 some c
def zX(c:List aa):Option Int :=
 jp (S:=Unit) (fun _ =>
  some (-1)) fun g =>
 loopN ia (fun b f i =>
  bif decide (b<((List.take c.length c).length:Int))then
   dZ (0<=b/\b<(c.length:Int)) <|
   call (xV (aa.mk ((c.getD (b.toNat:Nat) (aa.mk [] [] false)).a) ((c.getD (b.toNat:Nat) (aa.mk [] [] false)).u) ((c.getD (b.toNat:Nat) (aa.mk [] [] false)).w))) fun j =>
   bif j then
    some b
   else
   f (IntKind.i64.wrap (b+1))
  else
  i b) 0 (fun b =>
  g ())
def zU(c:List aa):Option (Nat×Nat×List aa) :=
 call (zX c) fun j =>
 bif decide (j=(-1))then
  some (0,c.length,c)
 else
 jp (S:=Int×List aa) (fun s=>match s with
  |(g,k) =>
   dZ (0<=g/\g<=(c.length:Int)) <|
   dZ (0<=g/\g<=(c.length:Int)) <|
   some (0,g.toNat,List.take g.toNat k++List.replicate (c.length-g.toNat) (aa.mk [] [] false)++List.drop (g.toNat+(c.length-g.toNat)) k)) fun o =>
 loopN ia (fun s l m =>
  match s with
  |(i,f,b) =>
   bif decide (f<((List.take c.length b).length:Int))then
    dZ (0<=f/\f<(c.length:Int)) <|
    dZ (f.toNat<b.length) <|
    call (xV (aa.mk ((b.getD (f.toNat:Nat) (aa.mk [] [] false)).a) ((b.getD (f.toNat:Nat) (aa.mk [] [] false)).u) ((b.getD (f.toNat:Nat) (aa.mk [] [] false)).w))) fun n =>
    bif !n then
     dZ (0<=i/\i<(c.length:Int)) <|
     dZ (i.toNat<b.length) <|
     l (IntKind.i64.wrap (i+1),IntKind.i64.wrap (f+1),List.set b (i.toNat:Nat) (aa.mk ((b.getD (f.toNat:Nat) (aa.mk [] [] false)).a) ((b.getD (f.toNat:Nat) (aa.mk [] [] false)).u) ((b.getD (f.toNat:Nat) (aa.mk [] [] false)).w)))
    else
    l (i,IntKind.i64.wrap (f+1),b)
   else
   m (i,f,b)) (j,IntKind.i64.wrap (j+1),c) (fun s=>match s with
  |(i,f,b) =>
   o (i,b))
def Dd(f:aj):Option aj :=
 call (Dw f) fun b =>
 call (zU b.2.2.2.2.2.1) fun c =>
 some (aj.mk b.2.2.2.2.1 (List.take c.2.1 (List.drop c.1 c.2.2)) b.2.2.2.2.2.2.1 b.2.2.2.2.2.2.2)
def Dc(b:aj):Option (aj×Int) :=
 call (vQ b) fun c =>
 bif !decide (c=0)then
  some ((aj.mk [] [] [] []),c)
 else
 call (Dd b) fun f =>
 some (f,0)
def C6(b:aj):Option aj :=
 jp (S:=List ab×List aa×List ab×List ah) (fun s=>match s with
  |(G,I,J,L) =>
   jp (S:=List ab×List aa×List ab×List ah) (fun s=>match s with
    |(M,N,O,P) =>
     jp (S:=List ab×List aa×List ab×List ah) (fun s=>match s with
      |(Q,R,T,U) =>
       call (Dc (aj.mk Q R T U)) fun Y =>
       some Y.1) fun Z =>
     dZ (0<=min (b.m.length:Int) 30/\min (b.m.length:Int) 30<=(b.m.length:Int)) <|
     forL (List.take ((min (b.m.length:Int) 30).toNat) b.m) 0 (fun a4 a0 s V a5 =>
      match s with
      |(t,v,z,B) =>
       call (yP (ai.mk 5 (aa.mk [] [] false) (ab.mk [] []) a0) t v z B) fun D =>
       V (D.1,D.2.1,D.2.2.1,D.2.2.2)) (M,N,O,P) (fun s=>match s with
      |(t,v,z,B) =>
       Z (t,v,z,B))) fun a1 =>
   dZ (0<=min (b.n.length:Int) 30/\min (b.n.length:Int) 30<=(b.n.length:Int)) <|
   forL (List.take ((min (b.n.length:Int) 30).toNat) b.n) 0 (fun a6 a2 s W a7 =>
    match s with
    |(c,f,g,j) =>
     call (yP (ai.mk 3 (aa.mk [] [] false) a2 (ah.mk [] [] false false)) c f g j) fun E =>
     W (E.1,E.2.1,E.2.2.1,E.2.2.2)) (G,I,J,L) (fun s=>match s with
    |(c,f,g,j) =>
     a1 (c,f,g,j))) fun a3 =>
 dZ (0<=min (b.i.length:Int) 30/\min (b.i.length:Int) 30<=(b.i.length:Int)) <|
 forL (List.take ((min (b.i.length:Int) 30).toNat) b.i) 0 (fun a8 C s X a9 =>
  match s with
  |(k,l,o,p) =>
   dZ (0<=min (C.u.length:Int) 2000/\min (C.u.length:Int) 2000<=(C.u.length:Int)) <|
   call (yP (ai.mk 1 (aa.mk C.a (List.take ((min (C.u.length:Int) 2000).toNat) C.u) C.w) (ab.mk [] []) (ah.mk [] [] false false)) k l o p) fun F =>
   X (F.1,F.2.1,F.2.2.1,F.2.2.2)) ([],[],[],[]) (fun s=>match s with
  |(k,l,o,p) =>
   a3 (k,l,o,p))
def Gt(b:Int):Option Bool :=
 some ((decide (1<=b))&&(decide (b<=6)))
def Dl(c:dX):Option Bool :=
 jp (S:=Unit) (fun _ =>
  some (decide ((c.length:Int)=16))) fun g =>
 forL c 0 (fun i b s f j =>
  bif !(((decide (48<=(b.toNat:Int)))&&(decide ((b.toNat:Int)<=57)))||((decide (97<=(b.toNat:Int)))&&(decide ((b.toNat:Int)<=102))))then
   some false
  else
  f ()) () (fun _ =>
  g ())
def rW(f:dX):Option dX :=
 jp (S:=Int) (fun o =>
  jp (S:=List Int) (fun j =>
   some (Go.Vc.strOf j)) fun p =>
  loopN ia (fun s k t =>
   match s with
   |(b,c) =>
    bif decide (b<((List.replicate 16 0).length:Int))then
     dZ (0<=(IntKind.i64.wrap (60-(IntKind.i64.wrap (4*b))))) <|
     iC ([48,49,50,51,52,53,54,55,56,57,97,98,99,100,101,102]:dX) (qb .and .u64 (Int.fdiv o (2^(nY .u64 (IntKind.i64.wrap (60-(IntKind.i64.wrap (4*b))))))) 15) fun l =>
     dZ (0<=b/\b<(c.length:Int)) <|
     k (IntKind.i64.wrap (b+1),List.set c b.toNat l)
    else
    t (b,c)) (0,List.replicate 16 0) (fun s=>match s with
   |(b,c) =>
    p c)) fun m =>
 forL f 0 (fun u n g i v =>
  i (IntKind.u64.wrap ((qb .xor .u64 g (IntKind.u64.wrap (n.toNat:Int)))*1099511628211))) 14695981039346656037 (fun g =>
  m g)
def Dx(b:ae):Option Int :=
 call (oP b.t) fun g =>
 bif !g then
  some 5
 else
 call (Gt b.e) fun i =>
 bif !i then
  some 1
 else
 callG (decide (b.e=6)) (oP b.a) false fun f =>
 callG ((!((decide (b.e=6))&&(!f)))&&(!decide (b.e=6))) (vj b.a) false fun j =>
 bif (((decide (b.e=6))&&(!f))||((!decide (b.e=6))&&(!j)))then
  some 5
 else
 call (Dl b.x) fun k =>
 bif ((!k)||((!decide (b.z=[]))&&(!decide (b.e=3))))then
  some 2
 else
 dZ ((decide (b.e=3))=true->(([114]:dX)++b.z).length<=274877906944) <|
 callG (decide (b.e=3)) (rW (([114]:dX)++b.z)) [] fun c =>
 dZ (((decide (b.e=3))&&(!decide (b.x=c)))=true->(([45]:dX)++b.z).length<=274877906944) <|
 callG ((decide (b.e=3))&&(!decide (b.x=c))) (rW (([45]:dX)++b.z)) [] fun l =>
 bif (((decide (b.e=3))&&(!decide (b.x=c)))&&(!decide (b.x=l)))then
  some 2
 else
 some 0
def D1(b:dX)(c:dX):Option Int :=
 some (eI b c)
def vo(b:dX)(c:dX):Option Int :=
 call (D1 b c) fun f =>
 some f
def xL(b:Int):Option Int :=
 bif decide (b=5)then
  some 2
 else
 bif decide (b=6)then
  some 3
 else
 some 1
def zG(b:ae):Option al :=
 call (xL b.e) fun c =>
 some (al.mk c b.a)
def vm(f:ae)(g:ae):Option Int :=
 call (vo f.t g.t) fun i =>
 bif !decide (i=0)then
  some i
 else
 call (zG f) fun b =>
 call (zG g) fun c =>
 bif !decide (b.C=c.C)then
  some (IntKind.i64.wrap (b.C-c.C))
 else
 call (vo b.y c.y) fun j =>
 some j
def BQ(b:ae)(c:ae):Option Bool :=
 some (((decide (b.e=2))&&(decide (c.e=2)))&&(decide (b.x=c.x)))
def rX(c:am):Option Int :=
 bif decide (5000<(c.r.length:Int))then
  some 4
 else
 jp (S:=Unit) (fun _ =>
  jp (S:=Unit) (fun _ =>
   some 0) fun w =>
  forL c.r 0 (fun B g f j C =>
   call (zG g) fun o =>
   eA (zu f o) fun i =>
   callG i.isSome (BQ (i.getD (ae.mk [] 0 [] [] [])) g) false fun p =>
   bif (i.isSome&&(!p))then
    some 11
   else
   call (zG g) fun l =>
   dZ ((ec f l g).length<=274877906944) <|
   j (ec f l g)) [] (fun f =>
   w ())) fun u =>
 forL c.r 0 (fun b m s k D =>
  call (Dx m) fun n =>
  bif !decide (n=0)then
   some n
  else
  dZ ((decide (0<(b:Int)))=true->(0<=IntKind.i64.wrap ((b:Int)-1)/\IntKind.i64.wrap ((b:Int)-1)<(c.r.length:Int))) <|
  callG (decide (0<(b:Int))) (vm (ae.mk ((c.r.getD ((IntKind.i64.wrap ((b:Int)-1)).toNat) (ae.mk [] 0 [] [] [])).t) ((c.r.getD ((IntKind.i64.wrap ((b:Int)-1)).toNat) (ae.mk [] 0 [] [] [])).e) ((c.r.getD ((IntKind.i64.wrap ((b:Int)-1)).toNat) (ae.mk [] 0 [] [] [])).a) ((c.r.getD ((IntKind.i64.wrap ((b:Int)-1)).toNat) (ae.mk [] 0 [] [] [])).x) ((c.r.getD ((IntKind.i64.wrap ((b:Int)-1)).toNat) (ae.mk [] 0 [] [] [])).z)) m) 0 fun v =>
  bif ((decide (0<(b:Int)))&&(decide (0<=v)))then
   some 7
  else
  k ()) () (fun _ =>
  u ())
def vh(c:aj)(f:am):Option Int :=
 call (vQ c) fun b =>
 bif !decide (b=0)then
  some b
 else
 call (rX f) fun g =>
 some g
def zT(b:List ae):Option (List ae) :=
 qa (fun c:Bool=>c=true->b=[]) fun c =>
 bif c then
  some []
 else
 dZ (([]++b).length<=274877906944) <|
 some ([]++b)
def xY(c:ae)(b:dX):Option Bool :=
 some (decide (c.t=b))
def zW(c:List ae)(f:dX):Option Int :=
 jp (S:=Unit) (fun _ =>
  some (-1)) fun i =>
 loopN ia (fun b g j =>
  bif decide (b<((List.take c.length c).length:Int))then
   dZ (0<=b/\b<(c.length:Int)) <|
   call (xY (c.getD (b.toNat:Nat) (ae.mk [] 0 [] [] [])) f) fun k =>
   bif k then
    some b
   else
   g (IntKind.i64.wrap (b+1))
  else
  j b) 0 (fun b =>
  i ())
def GU(b:List ae)(j:dX):Option (List ae) :=
 call (zW b j) fun k =>
 bif decide (k=(-1))then
  some (List.take b.length b)
 else
 jp (S:=Int×List ae) (fun s=>match s with
  |(g,l) =>
   dZ (0<=g/\g<=(b.length:Int)) <|
   dZ (0<=g/\g<=(b.length:Int)) <|
   some (List.take g.toNat (List.take g.toNat l++List.replicate (b.length-g.toNat) (ae.mk [] 0 [] [] [])++List.drop (g.toNat+(b.length-g.toNat)) l))) fun n =>
 loopN ia (fun s m o =>
  match s with
  |(i,f,c) =>
   bif decide (f<((List.take b.length c).length:Int))then
    dZ (0<=f/\f<(b.length:Int)) <|
    dZ (f.toNat<c.length) <|
    call (xY (c.getD (f.toNat:Nat) (ae.mk [] 0 [] [] [])) j) fun p =>
    bif !p then
     dZ (0<=i/\i<(b.length:Int)) <|
     dZ (i.toNat<c.length) <|
     m (IntKind.i64.wrap (i+1),IntKind.i64.wrap (f+1),List.set c (i.toNat:Nat) (c.getD (f.toNat:Nat) (ae.mk [] 0 [] [] [])))
    else
    m (i,IntKind.i64.wrap (f+1),c)
   else
   o (i,f,c)) (k,IntKind.i64.wrap (k+1),b) (fun s=>match s with
  |(i,f,c) =>
   n (i,c))
def B6(b:List ae):Option ((List (al×ae))) :=
 jp (S:=(List (al×ae))) (fun i =>
  some i) fun k =>
 forC b.length 0 (fun f c j l =>
  call (zG (b.getD f (ae.mk [] 0 [] [] []))) fun g =>
  dZ ((ec c g (b.getD f (ae.mk [] 0 [] [] []))).length<=274877906944) <|
  j (ec c g (b.getD f (ae.mk [] 0 [] [] [])))) [] (fun c =>
  k c)
def BX(c:am)(b:dX):Option (List ae×dX×List ae×(List (al×ae))) :=
 call (zT c.r) fun g =>
 call (GU g b) fun f =>
 call (B6 f) fun i =>
 some (c.r,b,f,i)
def xT(b:ak):Option ai :=
 bif decide (b.e=5)then
  some (ai.mk 3 (aa.mk [] [] false) b.j (ah.mk [] [] false false))
 else
 bif decide (b.e=6)then
  some (ai.mk 5 (aa.mk [] [] false) (ab.mk [] []) b.h)
 else
 some (ai.mk 1 b.g (ab.mk [] []) (ah.mk [] [] false false))
def Gz(b:ak):Option Int :=
 bif ((decide (b.e<1))||(decide (6<b.e)))then
  some 1
 else
 call (xT b) fun c =>
 call (Cc c) fun f =>
 bif !decide (f=0)then
  some f
 else
 bif ((!((decide (b.e=b.e))&&((decide (b.g.a=c.g.a))&&((decide (b.g.u=c.g.u))&&((decide (b.g.w=c.g.w))&&((decide (b.j.k=c.j.k))&&((decide (b.j.Value=c.j.Value))&&((decide (b.h.o=c.h.o))&&((decide (b.h.a=c.h.a))&&((decide (b.h.B=c.h.B))&&(decide (b.h.A=c.h.A))))))))))))||b.h.A)then
  some 2
 else
 some 0
def xP(b:ak):Option Int :=
 call (Gz b) fun c =>
 some c
def nG(b:ak):Option al :=
 bif decide (b.e=5)then
  some (al.mk 2 b.j.k)
 else
 bif decide (b.e=6)then
  some (al.mk 3 b.h.o)
 else
 some (al.mk 1 b.g.a)
def vW(b:ab):Option dX :=
 dZ ((([45]:dX)++b.Value).length<=274877906944) <|
 call (rW (([45]:dX)++b.Value)) fun c =>
 some c
def vV(b:ah):Option dX :=
 bif b.B then
  dZ ((([97]:dX)++b.a).length<=274877906944) <|
  call (rW (([97]:dX)++b.a)) fun c =>
  some c
 else
 dZ ((([45]:dX)++b.a).length<=274877906944) <|
 call (rW (([45]:dX)++b.a)) fun f =>
 some f
def vl(b:aa):Option dX :=
 bif b.w then
  dZ ((([114]:dX)++b.u).length<=274877906944) <|
  call (rW (([114]:dX)++b.u)) fun c =>
  some c
 else
 dZ ((([45]:dX)++b.u).length<=274877906944) <|
 call (rW (([45]:dX)++b.u)) fun f =>
 some f
def yH(b:ak):Option dX :=
 bif decide (b.e=5)then
  call (vW b.j) fun c =>
  some c
 else
 bif decide (b.e=6)then
  call (vV b.h) fun f =>
  some f
 else
 call (vl b.g) fun i =>
 some i
def yL(b:dX)(c:ak):Option ae :=
 call (nG c) fun f =>
 call (yH c) fun i =>
 bif decide (c.e=3)then
  some (ae.mk b c.e f.y i c.g.u)
 else
 some (ae.mk b c.e f.y i [])
def yK(c:ak):Option Int :=
 call (nG c) fun b =>
 callG ((decide (b.C=1))&&(!(decide (b.y=([115,116,97,103,101]:dX))))) (B5 b.y ([115,116,97,103,101]:dX)) false fun f =>
 bif ((decide (b.C=1))&&((decide (b.y=([115,116,97,103,101]:dX)))||f))then
  some 17
 else
 some 0
def DQ(u:am)(b:dX)(v:List ak):Option Int :=
 call (BX u b) fun m =>
 jp (S:=Unit) (fun _ =>
  some 0) fun n =>
 forL v 0 (fun w f c j z =>
  call (xP f) fun k =>
  bif !decide (k=0)then
   some k
  else
  call (nG f) fun g =>
  eA (zu c g) fun o =>
  bif (o.getD false)then
   some 6
  else
  dZ ((ec c g true).length<=274877906944) <|
  eA (zu m.2.2.2 g) fun i =>
  callG i.isSome (yL b f) (ae.mk [] 0 [] [] []) fun p =>
  callG i.isSome (BQ (i.getD (ae.mk [] 0 [] [] [])) p) false fun t =>
  bif (i.isSome&&(!t))then
   some 11
  else
  call (yK f) fun l =>
  bif !decide (l=0)then
   some l
  else
  j (ec c g true)) [] (fun c =>
  n ())
def IR(b:dX)(g:List (dX×aa))(c:List (dX×Int))(i:List (dX×ab))(j:List (dX×ah)):Option ((List (dX×Int))) :=
 eA (zu c b) fun f =>
 dZ ((ec c b (IntKind.i64.wrap ((f.getD 0)+1))).length<=274877906944) <|
 some (ec c b (IntKind.i64.wrap ((f.getD 0)+1)))
def Gv(b:dX)(i:List (dX×aa))(j:List (dX×Int))(k:List (dX×ab))(l:List (dX×ah)):Option ((List (dX×Int))) :=
 forL b 0 (fun f n c g o =>
  bif decide ((n.toNat:Int)=47)then
   dZ (0<=(f:Int)/\(f:Int)<=(b.length:Int)) <|
   call (IR (List.take f b) i c k l) fun m =>
   g m
  else
  g c) j (fun c =>
  some c)
def rI(t:aj):Option ((List (dX×aa))×(List (dX×Int))×(List (dX×ab))×(List (dX×ah))) :=
 jp (S:=(List (dX×aa))×(List (dX×Int))) (fun s=>match s with
  |(D,u) =>
   jp (S:=(List (dX×ab))) (fun v =>
    jp (S:=(List (dX×ah))) (fun w =>
     some (D,u,v,w)) fun E =>
    forL t.m 0 (fun J l f z L =>
     dZ ((ec f l.o l).length<=274877906944) <|
     z (ec f l.o l)) [] (fun f =>
     E f)) fun F =>
   forL t.n 0 (fun M p g B N =>
    dZ ((ec g p.k p).length<=274877906944) <|
    B (ec g p.k p)) [] (fun g =>
    F g)) fun G =>
 forL t.i 0 (fun O b s C P =>
  match s with
  |(c,j) =>
   dZ ((ec c b.a b).length<=274877906944) <|
   call (Gv b.a (ec c b.a b) j [] []) fun I =>
   C (ec c b.a b,I)) ([],[]) (fun s=>match s with
  |(c,j) =>
   G (c,j))
def I4(g:ae)(f:ak):Option Bool :=
 call (zG g) fun b =>
 call (nG f) fun c =>
 some ((decide (b.C=c.C))&&(decide (b.y=c.y)))
def Jd(c:List ae)(f:ak):Option Int :=
 jp (S:=Unit) (fun _ =>
  some (-1)) fun g =>
 forL c 0 (fun i j s b l =>
  call (I4 j f) fun k =>
  bif k then
   some (i:Int)
  else
  b ()) () (fun _ =>
  g ())
def GX(b:List ae)(c:ak):Option Bool :=
 call (Jd b c) fun f =>
 some (decide (0<=f))
def GD(i:am)(b:ak)(f:List (dX×aa))(k:List (dX×Int))(l:List (dX×ab))(m:List (dX×ah)):Option Bool :=
 bif ((!decide (b.e=1))&&(!decide (b.e=2)))then
  some false
 else
 eA (zu f b.g.a) fun c =>
 callG (c.isSome&&(!((decide (((c.getD (aa.mk [] [] false)).a)=b.g.a))&&((decide (((c.getD (aa.mk [] [] false)).u)=b.g.u))&&(decide (((c.getD (aa.mk [] [] false)).w)=b.g.w)))))) (GX i.r b) false fun j =>
 some ((c.isSome&&(!((decide (((c.getD (aa.mk [] [] false)).a)=b.g.a))&&((decide (((c.getD (aa.mk [] [] false)).u)=b.g.u))&&(decide (((c.getD (aa.mk [] [] false)).w)=b.g.w))))))&&(!j))
def yR(j:ak)(c:List (dX×aa))(f:List (dX×Int))(g:List (dX×ab))(i:List (dX×ah))(b:List ae):Option Bool :=
 call (GD (am.mk b) j c f g i) fun k =>
 some k
def GS(l:List ak)(f:List (dX×aa))(g:List (dX×Int))(i:List (dX×ab))(j:List (dX×ah))(b:List ae):Option Int :=
 jp (S:=Unit) (fun _ =>
  some (-1)) fun m =>
 forL l 0 (fun n o s c p =>
  call (yR o f g i j b) fun k =>
  bif k then
   some (n:Int)
  else
  c ()) () (fun _ =>
  m ())
def zI(j:List ak)(c:List (dX×aa))(f:List (dX×Int))(g:List (dX×ab))(i:List (dX×ah))(b:List ae):Option Bool :=
 call (GS j c f g i b) fun k =>
 some (decide (0<=k))
def DI(j:aj)(g:am)(b:dX)(i:List ak)(c:au):Option Int :=
 call (vh j g) fun k =>
 bif !decide (k=0)then
  some k
 else
 call (oP b) fun n =>
 bif !n then
  some 5
 else
 bif decide (5000<(i.length:Int))then
  some 4
 else
 call (DQ g b i) fun l =>
 bif !decide (l=0)then
  some l
 else
 call (rI j) fun f =>
 callG (!c.F) (zI i f.1 f.2.1 f.2.2.1 f.2.2.2 g.r) false fun m =>
 bif ((!c.F)&&m)then
  some 11
 else
 some 0
def rV(j:am)(c:dX):Option (List ae) :=
 jp (S:=List ae) (fun i =>
  some i) fun k =>
 forL j.r 0 (fun l f b g m =>
  bif decide (f.t=c)then
   dZ ((b++[f]).length<=274877906944) <|
   g (b++[f])
  else
  g b) [] (fun b =>
  k b)
def yQ(j:List ae):Option ((List (al×ae))) :=
 jp (S:=(List (al×ae))) (fun g =>
  some g) fun k =>
 forL j 0 (fun l c b i m =>
  call (zG c) fun f =>
  dZ ((ec b f c).length<=274877906944) <|
  i (ec b f c)) [] (fun b =>
  k b)
def IV(b:al)(i:List (dX×aa))(o:List (dX×Int))(j:List (dX×ab))(k:List (dX×ah)):Option (dX×Bool) :=
 bif decide (b.C=2)then
  eA (zu j b.y) fun c =>
  call (vW (c.getD (ab.mk [] []))) fun m =>
  some (m,c.isSome)
 else
 bif decide (b.C=3)then
  eA (zu k b.y) fun f =>
  call (vV (f.getD (ah.mk [] [] false false))) fun n =>
  some (n,f.isSome)
 else
 eA (zu i b.y) fun g =>
 call (vl (g.getD (aa.mk [] [] false))) fun l =>
 some (l,g.isSome)
def Ck(b:ae)(f:List (dX×aa))(g:List (dX×Int))(i:List (dX×ab))(j:List (dX×ah)):Option Int :=
 call (zG b) fun k =>
 call (IV k f g i j) fun c =>
 bif !c.2 then
  some 3
 else
 bif decide (c.1=b.x)then
  some 1
 else
 some 2
def I5(b:dX)(g:List (dX×aa))(c:List (dX×Int))(i:List (dX×ab))(j:List (dX×ah))(k:List ai):Option ((List (dX×Int))) :=
 eA (zu c b) fun f =>
 dZ ((ec c b (IntKind.i64.wrap ((f.getD 0)+1))).length<=274877906944) <|
 some (ec c b (IntKind.i64.wrap ((f.getD 0)+1)))
def It(b:dX)(i:List (dX×aa))(j:List (dX×Int))(k:List (dX×ab))(l:List (dX×ah))(m:List ai):Option ((List (dX×Int))) :=
 forL b 0 (fun f n c g p =>
  bif decide ((n.toNat:Int)=47)then
   dZ (0<=(f:Int)/\(f:Int)<=(b.length:Int)) <|
   call (I5 (List.take f b) i c k l m) fun o =>
   g o
  else
  g c) j (fun c =>
  some c)
def I7(b:dX)(g:List (dX×aa))(c:List (dX×Int))(i:List (dX×ab))(j:List (dX×ah))(k:List ai):Option ((List (dX×Int))) :=
 eA (zu c b) fun f =>
 dZ ((ec c b (IntKind.i64.wrap ((f.getD 0)-1))).length<=274877906944) <|
 some (ec c b (IntKind.i64.wrap ((f.getD 0)-1)))
def Iu(b:dX)(i:List (dX×aa))(j:List (dX×Int))(k:List (dX×ab))(l:List (dX×ah))(m:List ai):Option ((List (dX×Int))) :=
 forL b 0 (fun f n c g p =>
  bif decide ((n.toNat:Int)=47)then
   dZ (0<=(f:Int)/\(f:Int)<=(b.length:Int)) <|
   call (I7 (List.take f b) i c k l m) fun o =>
   g o
  else
  g c) j (fun c =>
  some c)
def I0(b:ai)(c:List (dX×aa))(m:List (dX×Int))(f:List (dX×ab))(i:List (dX×ah))(l:List ai):Option ((List (dX×aa))×(List (dX×Int))×(List (dX×ab))×(List (dX×ah))×List ai) :=
 dZ ((l++[b]).length<=274877906944) <|
 bif decide (b.e=1)then
  eA (zu c b.g.a) fun n =>
  bif !n.isSome then
   call (It b.g.a c m f i (l++[b])) fun p =>
   dZ ((ec c b.g.a b.g).length<=274877906944) <|
   some (ec c b.g.a b.g,p,f,i,l++[b])
  else
  dZ ((ec c b.g.a b.g).length<=274877906944) <|
  some (ec c b.g.a b.g,m,f,i,l++[b])
 else
 bif decide (b.e=2)then
  call (Iu b.g.a (fe c b.g.a) m f i (l++[b])) fun t =>
  some (fe c b.g.a,t,f,i,l++[b])
 else
 bif decide (b.e=3)then
  dZ ((ec f b.j.k b.j).length<=274877906944) <|
  some (c,m,ec f b.j.k b.j,i,l++[b])
 else
 bif decide (b.e=4)then
  some (c,m,fe f b.j.k,i,l++[b])
 else
 bif decide (b.e=5)then
  dZ ((ec i b.h.o b.h).length<=274877906944) <|
  some (c,m,f,ec i b.h.o b.h,l++[b])
 else
 some (c,m,f,fe i b.h.o,l++[b])
def IW(b:al)(i:List (dX×aa))(o:List (dX×Int))(j:List (dX×ab))(k:List (dX×ah))(p:List ai):Option (dX×Bool) :=
 bif decide (b.C=2)then
  eA (zu j b.y) fun c =>
  call (vW (c.getD (ab.mk [] []))) fun m =>
  some (m,c.isSome)
 else
 bif decide (b.C=3)then
  eA (zu k b.y) fun f =>
  call (vV (f.getD (ah.mk [] [] false false))) fun n =>
  some (n,f.isSome)
 else
 eA (zu i b.y) fun g =>
 call (vl (g.getD (aa.mk [] [] false))) fun l =>
 some (l,g.isSome)
def GH(b:ae)(f:List (dX×aa))(g:List (dX×Int))(i:List (dX×ab))(j:List (dX×ah))(k:List ai):Option Int :=
 call (zG b) fun l =>
 call (IW l f g i j k) fun c =>
 bif !c.2 then
  some 3
 else
 bif decide (c.1=b.x)then
  some 1
 else
 some 2
def vU(b:Int)(c:dX)(g:List (dX×aa))(i:List (dX×Int))(j:List (dX×ab))(k:List (dX×ah))(l:List ai)(f:List ao):Option (List ao) :=
 dZ ((f++[(ao.mk b c)]).length<=274877906944) <|
 some (f++[(ao.mk b c)])
def DV(b:al)(i:List (dX×aa))(o:List (dX×Int))(j:List (dX×ab))(k:List (dX×ah))(p:List ai)(t:List ao):Option (dX×Bool) :=
 bif decide (b.C=2)then
  eA (zu j b.y) fun c =>
  call (vW (c.getD (ab.mk [] []))) fun m =>
  some (m,c.isSome)
 else
 bif decide (b.C=3)then
  eA (zu k b.y) fun f =>
  call (vV (f.getD (ah.mk [] [] false false))) fun n =>
  some (n,f.isSome)
 else
 eA (zu i b.y) fun g =>
 call (vl (g.getD (aa.mk [] [] false))) fun l =>
 some (l,g.isSome)
def I1(b:ae)(f:List (dX×aa))(g:List (dX×Int))(i:List (dX×ab))(j:List (dX×ah))(k:List ai)(l:List ao):Option Int :=
 call (zG b) fun m =>
 call (DV m f g i j k l) fun c =>
 bif !c.2 then
  some 3
 else
 bif decide (c.1=b.x)then
  some 1
 else
 some 2
def I6(b:dX)(g:List (dX×aa))(c:List (dX×Int))(i:List (dX×ab))(j:List (dX×ah))(k:List ai)(l:List ao):Option ((List (dX×Int))) :=
 eA (zu c b) fun f =>
 dZ ((ec c b (IntKind.i64.wrap ((f.getD 0)+1))).length<=274877906944) <|
 some (ec c b (IntKind.i64.wrap ((f.getD 0)+1)))
def Iv(b:dX)(j:List (dX×aa))(k:List (dX×Int))(l:List (dX×ab))(m:List (dX×ah))(n:List ai)(i:List ao):Option ((List (dX×Int))) :=
 forL b 0 (fun f o c g t =>
  bif decide ((o.toNat:Int)=47)then
   dZ (0<=(f:Int)/\(f:Int)<=(b.length:Int)) <|
   call (I6 (List.take f b) j c l m n i) fun p =>
   g p
  else
  g c) k (fun c =>
  some c)
def I8(b:dX)(g:List (dX×aa))(c:List (dX×Int))(i:List (dX×ab))(j:List (dX×ah))(k:List ai)(l:List ao):Option ((List (dX×Int))) :=
 eA (zu c b) fun f =>
 dZ ((ec c b (IntKind.i64.wrap ((f.getD 0)-1))).length<=274877906944) <|
 some (ec c b (IntKind.i64.wrap ((f.getD 0)-1)))
def Iw(b:dX)(j:List (dX×aa))(k:List (dX×Int))(l:List (dX×ab))(m:List (dX×ah))(n:List ai)(i:List ao):Option ((List (dX×Int))) :=
 forL b 0 (fun f o c g t =>
  bif decide ((o.toNat:Int)=47)then
   dZ (0<=(f:Int)/\(f:Int)<=(b.length:Int)) <|
   call (I8 (List.take f b) j c l m n i) fun p =>
   g p
  else
  g c) k (fun c =>
  some c)
def xZ(b:ai)(c:List (dX×aa))(m:List (dX×Int))(f:List (dX×ab))(i:List (dX×ah))(l:List ai)(n:List ao):Option ((List (dX×aa))×(List (dX×Int))×(List (dX×ab))×(List (dX×ah))×List ai) :=
 dZ ((l++[b]).length<=274877906944) <|
 bif decide (b.e=1)then
  eA (zu c b.g.a) fun t =>
  bif !t.isSome then
   call (Iv b.g.a c m f i (l++[b]) n) fun u =>
   dZ ((ec c b.g.a b.g).length<=274877906944) <|
   some (ec c b.g.a b.g,u,f,i,l++[b])
  else
  dZ ((ec c b.g.a b.g).length<=274877906944) <|
  some (ec c b.g.a b.g,m,f,i,l++[b])
 else
 bif decide (b.e=2)then
  call (Iw b.g.a (fe c b.g.a) m f i (l++[b]) n) fun p =>
  some (fe c b.g.a,p,f,i,l++[b])
 else
 bif decide (b.e=3)then
  dZ ((ec f b.j.k b.j).length<=274877906944) <|
  some (c,m,ec f b.j.k b.j,i,l++[b])
 else
 bif decide (b.e=4)then
  some (c,m,fe f b.j.k,i,l++[b])
 else
 bif decide (b.e=5)then
  dZ ((ec i b.h.o b.h).length<=274877906944) <|
  some (c,m,f,ec i b.h.o b.h,l++[b])
 else
 some (c,m,f,fe i b.h.o,l++[b])
def Ja(c:al)(j:List (dX×aa))(k:List (dX×Int))(l:List (dX×ab))(m:List (dX×ah))(n:List ai)(b:List ao):Option ((List (dX×aa))×(List (dX×Int))×(List (dX×ab))×(List (dX×ah))×List ai) :=
 bif decide (c.C=2)then
  call (xZ (ai.mk 4 (aa.mk [] [] false) (ab.mk c.y []) (ah.mk [] [] false false)) j k l m n b) fun f =>
  some (f.1,f.2.1,f.2.2.1,f.2.2.2.1,f.2.2.2.2)
 else
 bif decide (c.C=3)then
  call (xZ (ai.mk 6 (aa.mk [] [] false) (ab.mk [] []) (ah.mk c.y [] false false)) j k l m n b) fun g =>
  some (g.1,g.2.1,g.2.2.1,g.2.2.2.1,g.2.2.2.2)
 else
 call (xZ (ai.mk 2 (aa.mk c.y [] false) (ab.mk [] []) (ah.mk [] [] false false)) j k l m n b) fun i =>
 some (i.1,i.2.1,i.2.2.1,i.2.2.2.1,i.2.2.2.2)
def I9(k:ae)(l:Bool)(m:au)(b:List (dX×aa))(c:List (dX×Int))(f:List (dX×ab))(g:List (dX×ah))(i:List ai)(j:List ao):Option ((List (dX×aa))×(List (dX×Int))×(List (dX×ab))×(List (dX×ah))×List ai×List ao) :=
 call (I1 k b c f g i j) fun t =>
 bif decide (t=3)then
  some (b,c,f,g,i,j)
 else
 jp (S:=Bool) (fun p =>
  bif p then
   call (zG k) fun w =>
   call (Ja w b c f g i j) fun n =>
   some (n.1,n.2.1,n.2.2.1,n.2.2.2.1,n.2.2.2.2,j)
  else
  call (vU 6 k.a b c f g i j) fun z =>
  some (b,c,f,g,i,z)) fun o =>
 jp (S:=Bool) (fun u =>
  bif u then
   o true
  else
  bif decide (k.e=2)then
   bif l then
    some (b,c,f,g,i,j)
   else
   o ((decide (t=1))||m.F)
  else
  o ((decide (t=1))||m.G)) fun v =>
 bif decide (k.e=1)then
  v (decide (k.e=1))
 else
 v (decide (k.e=6))
def vT(b:ak)(i:List (dX×aa))(k:List (dX×Int))(l:List (dX×ab))(f:List (dX×ah))(m:List ai)(n:List ao):Option ((List (dX×aa))×(List (dX×Int))×(List (dX×ab))×(List (dX×ah))×List ai) :=
 eA (zu f b.h.o) fun t =>
 call (xT (ak.mk b.e b.g b.j (ah.mk b.h.o b.h.a b.h.B ((decide (b.e=6))&&((t.getD (ah.mk [] [] false false)).A))))) fun p =>
 call (xZ p i k l f m n) fun c =>
 some (c.1,c.2.1,c.2.2.1,c.2.2.2.1,c.2.2.2.2)
def DL(b:aa)(f:List (dX×aa))(g:List (dX×Int))(i:List (dX×ab))(j:List (dX×ah))(k:List ai)(l:List ao)(m:List (al×Bool)):Option ((List (dX×aa))×(List (dX×Int))×(List (dX×ab))×(List (dX×ah))×List ai) :=
 dZ ((b.a++([46,110,101,119]:dX)).length<=274877906944) <|
 eA (zu f (b.a++([46,110,101,119]:dX))) fun n =>
 call (vj (b.a++([46,110,101,119]:dX))) fun o =>
 eA (zu g (b.a++([46,110,101,119]:dX))) fun p =>
 eA (zu m (al.mk 1 (b.a++([46,110,101,119]:dX)))) fun t =>
 bif (((o&&(!n.isSome))&&(decide ((p.getD 0)=0)))&&(!(t.getD false)))then
  call (xZ (ai.mk 1 (aa.mk (b.a++([46,110,101,119]:dX)) b.u b.w) (ab.mk [] []) (ah.mk [] [] false false)) f g i j k l) fun c =>
  some (c.1,c.2.1,c.2.2.1,c.2.2.2.1,c.2.2.2.2)
 else
 some (f,g,i,j,k)
def DS(j:ak)(v:ae)(f:Bool)(m:List (dX×aa))(n:List (dX×Int))(o:List (dX×ab))(k:List (dX×ah))(l:List ai)(c:List ao)(B:List (al×Bool)):Option ((List (dX×aa))×(List (dX×Int))×(List (dX×ab))×(List (dX×ah))×List ai×List ao) :=
 eA (zu m j.g.a) fun t =>
 bif !t.isSome then
  call (vT j m n o k l c) fun b =>
  bif f then
   call (vU 2 j.g.a b.1 b.2.1 b.2.2.1 b.2.2.2.1 b.2.2.2.2 c) fun C =>
   some (b.1,b.2.1,b.2.2.1,b.2.2.2.1,b.2.2.2.2,C)
  else
  some (b.1,b.2.1,b.2.2.1,b.2.2.2.1,b.2.2.2.2,c)
 else
 bif ((decide (((t.getD (aa.mk [] [] false)).a)=j.g.a))&&((decide (((t.getD (aa.mk [] [] false)).u)=j.g.u))&&(decide (((t.getD (aa.mk [] [] false)).w)=j.g.w))))then
  some (m,n,o,k,l,c)
 else
 callG f (vl (t.getD (aa.mk [] [] false))) [] fun D =>
 bif (f&&(decide (D=v.x)))then
  call (vT j m n o k l c) fun p =>
  some (p.1,p.2.1,p.2.2.1,p.2.2.2.1,p.2.2.2.2,c)
 else
 bif (f&&(decide (j.g.u=v.z)))then
  some (m,n,o,k,l,c)
 else
 jp (S:=Unit) (fun _ =>
  call (DL j.g m n o k l c B) fun i =>
  call (vU 4 ((t.getD (aa.mk [] [] false)).a) i.1 i.2.1 i.2.2.1 i.2.2.2.1 i.2.2.2.2 c) fun E =>
  some (i.1,i.2.1,i.2.2.1,i.2.2.2.1,i.2.2.2.2,E)) fun F =>
 bif f then
  none
 else
 F ()
def DT(m:ak)(n:ae)(l:Bool)(c:List (dX×aa))(f:List (dX×Int))(g:List (dX×ab))(i:List (dX×ah))(j:List ai)(b:List ao)(C:List (al×Bool)):Option ((List (dX×aa))×(List (dX×Int))×(List (dX×ab))×(List (dX×ah))×List ai×List ao) :=
 call (nG m) fun v =>
 call (DV v c f g i j b) fun k =>
 callG k.2 (yH m) [] fun z =>
 bif decide (m.e=3)then
  call (DS m n l c f g i j b C) fun u =>
  some (u.1,u.2.1,u.2.2.1,u.2.2.2.1,u.2.2.2.2.1,u.2.2.2.2.2)
 else
 bif decide (m.e=4)then
  bif !k.2 then
   call (vT m c f g i j b) fun o =>
   some (o.1,o.2.1,o.2.2.1,o.2.2.2.1,o.2.2.2.2,b)
  else
  some (c,f,g,i,j,b)
 else
 bif decide (m.e=5)then
  bif (k.2&&(decide (k.1=z)))then
   some (c,f,g,i,j,b)
  else
  bif ((!k.2)||((l&&k.2)&&(decide (k.1=n.x))))then
   call (vT m c f g i j b) fun p =>
   some (p.1,p.2.1,p.2.2.1,p.2.2.2.1,p.2.2.2.2,b)
  else
  call (vU 5 v.y c f g i j b) fun D =>
  some (c,f,g,i,j,D)
 else
 bif (k.2&&(decide (k.1=z)))then
  some (c,f,g,i,j,b)
 else
 jp (S:=List ao) (fun w =>
  call (vT m c f g i j w) fun t =>
  some (t.1,t.2.1,t.2.2.1,t.2.2.2.1,t.2.2.2.2,w)) fun B =>
 bif ((l&&k.2)&&(!((l&&k.2)&&(decide (k.1=n.x)))))then
  call (vU 1 v.y c f g i j b) fun E =>
  B E
 else
 B b
def x5(c:ae)(b:dX):Option Bool :=
 some (decide (c.t=b))
def zV(c:List ae)(f:dX):Option Int :=
 jp (S:=Unit) (fun _ =>
  some (-1)) fun i =>
 loopN ia (fun b g j =>
  bif decide (b<((List.take c.length c).length:Int))then
   dZ (0<=b/\b<(c.length:Int)) <|
   call (x5 (c.getD (b.toNat:Nat) (ae.mk [] 0 [] [] [])) f) fun k =>
   bif k then
    some b
   else
   g (IntKind.i64.wrap (b+1))
  else
  j b) 0 (fun b =>
  i ())
def GV(b:List ae)(j:dX):Option (List ae) :=
 call (zV b j) fun k =>
 bif decide (k=(-1))then
  some (List.take b.length b)
 else
 jp (S:=Int×List ae) (fun s=>match s with
  |(g,l) =>
   dZ (0<=g/\g<=(b.length:Int)) <|
   dZ (0<=g/\g<=(b.length:Int)) <|
   some (List.take g.toNat (List.take g.toNat l++List.replicate (b.length-g.toNat) (ae.mk [] 0 [] [] [])++List.drop (g.toNat+(b.length-g.toNat)) l))) fun n =>
 loopN ia (fun s m o =>
  match s with
  |(i,f,c) =>
   bif decide (f<((List.take b.length c).length:Int))then
    dZ (0<=f/\f<(b.length:Int)) <|
    dZ (f.toNat<c.length) <|
    call (x5 (c.getD (f.toNat:Nat) (ae.mk [] 0 [] [] [])) j) fun p =>
    bif !p then
     dZ (0<=i/\i<(b.length:Int)) <|
     dZ (i.toNat<c.length) <|
     m (IntKind.i64.wrap (i+1),IntKind.i64.wrap (f+1),List.set c (i.toNat:Nat) (c.getD (f.toNat:Nat) (ae.mk [] 0 [] [] [])))
    else
    m (i,IntKind.i64.wrap (f+1),c)
   else
   o (i,f,c)) (k,IntKind.i64.wrap (k+1),b) (fun s=>match s with
  |(i,f,c) =>
   n (i,c))
def DY(o0:List ae):Option (List ae):=qa (fun l'=>l'.Perm o0/\l'.Pairwise (fun x y=>¬ iR y.t y.e y.a x.t x.e x.a<0)) some
def Dz(g:am)(b:dX)(c:List ae):Option am :=
 call (zT g.r) fun i =>
 call (GV i b) fun f =>
 dZ ((f++c).length<=274877906944) <|
 call (DY (f++c)) fun j =>
 some (am.mk j)
def DM(j:aj)(f:am)(l:List (dX×aa))(m:List (dX×Int))(n:List (dX×ab))(k:List (dX×ah))(b:List ai)(c:List ao):Option (aq×Int×List ai×List ao) :=
 call (vk j b) fun g =>
 bif !decide (g.2=0)then
  some ((aq.mk [] (am.mk []) []),g.2,b,c)
 else
 call (rX f) fun i =>
 bif !decide (i=0)then
  some ((aq.mk [] (am.mk []) []),i,b,c)
 else
 some ((aq.mk b f c),0,b,c)
def Dk(D:aj)(I:am)(b:dX)(E:List ak)(C:au):Option (aq×Int) :=
 call (DI D I b E C) fun O =>
 bif !decide (O=0)then
  some ((aq.mk [] (am.mk []) []),O)
 else
 call (rI D) fun J =>
 call (rV I b) fun P =>
 call (yQ P) fun af =>
 call (BX I b) fun ag =>
 jp (S:=(List (al×Int))×(List (al×Bool))) (fun s=>match s with
  |(Q,R) =>
   jp (S:=(List (dX×aa))×(List (dX×Int))×(List (dX×ab))×(List (dX×ah))×List ai×List ao) (fun s=>match s with
    |(a2,a3,a4,a5,T,U) =>
     jp (S:=(List (dX×aa))×(List (dX×Int))×(List (dX×ab))×(List (dX×ah))×List ai×List ao×List ae) (fun s=>match s with
      |(a6,a7,a8,a9,V,W,X) =>
       call (Dz I b X) fun an =>
       call (DM D an a6 a7 a8 a9 V W) fun Y =>
       some (Y.1,Y.2.1)) fun ap =>
     forL E 0 (fun aC L s ac aD =>
      match s with
      |(u,v,w,z,n,o,j) =>
       call (nG L) fun av =>
       eA (zu af av) fun F =>
       call (DT L (F.getD (ae.mk [] 0 [] [] [])) (F.isSome&&(decide (((F.getD (ae.mk [] 0 [] [] [])).e)=L.e))) u v w z n o R) fun p =>
       call (yL b L) fun Z =>
       dZ ((j++[Z]).length<=274877906944) <|
       ac (p.1,p.2.1,p.2.2.1,p.2.2.2.1,p.2.2.2.2.1,p.2.2.2.2.2,j++[Z])) (a2,a3,a4,a5,T,U,[]) (fun s=>match s with
      |(u,v,w,z,n,o,j) =>
       ap (u,v,w,z,n,o,j))) fun aw =>
   forL P 0 (fun aE M s N aF =>
    match s with
    |(B,k,l,m,c,f) =>
     call (zG M) fun ax =>
     eA (zu Q ax) fun ay =>
     bif !decide ((ay.getD 0)=M.e)then
      call (zG M) fun az =>
      eA (zu ag.2.2.2 az) fun aA =>
      call (I9 M aA.isSome C B k l m c f) fun t =>
      N (t.1,t.2.1,t.2.2.1,t.2.2.2.1,t.2.2.2.2.1,t.2.2.2.2.2)
     else
     N (B,k,l,m,c,f)) (J.1,J.2.1,J.2.2.1,J.2.2.2,[],[]) (fun s=>match s with
    |(B,k,l,m,c,f) =>
     aw (B,k,l,m,c,f))) fun aB =>
 forL E 0 (fun aG G s ad aH =>
  match s with
  |(g,i) =>
   call (nG G) fun a0 =>
   call (nG G) fun a1 =>
   dZ ((ec g a0 0).length<=274877906944) <|
   dZ ((ec i a1 true).length<=274877906944) <|
   ad (ec g a0 G.e,ec i a1 true)) ([],[]) (fun s=>match s with
  |(g,i) =>
   aB (g,i))
def CZ(g:aj)(c:am)(b:dX):Option Int :=
 call (vh g c) fun f =>
 bif !decide (f=0)then
  some f
 else
 call (oP b) fun i =>
 bif !i then
  some 5
 else
 call (rV c b) fun j =>
 bif decide ((j.length:Int)=0)then
  some 10
 else
 some 0
def BS(b:Int):Option Bool :=
 some (((decide (b=1))||(decide (b=2)))||(decide (b=6)))
def IU(b:ak)(i:List (dX×aa))(k:List (dX×Int))(l:List (dX×ab))(f:List (dX×ah))(m:List ai):Option ((List (dX×aa))×(List (dX×Int))×(List (dX×ab))×(List (dX×ah))×List ai) :=
 eA (zu f b.h.o) fun n =>
 call (xT (ak.mk b.e b.g b.j (ah.mk b.h.o b.h.a b.h.B ((decide (b.e=6))&&((n.getD (ah.mk [] [] false false)).A))))) fun p =>
 call (I0 p i k l f m) fun c =>
 some (c.1,c.2.1,c.2.2.1,c.2.2.2.1,c.2.2.2.2)
def GQ(b:List ae):Option (List ae) :=
 qa (fun c:Bool=>c=true->b=[]) fun c =>
 bif c then
  some []
 else
 dZ (([]++b).length<=274877906944) <|
 some ([]++b)
def GN(i:aj)(c:am)(j:List (dX×aa))(k:List (dX×Int))(l:List (dX×ab))(m:List (dX×ah))(b:List ai):Option (aq×Int×List ai) :=
 call (vk i b) fun f =>
 bif !decide (f.2=0)then
  some ((aq.mk [] (am.mk []) []),f.2,b)
 else
 call (rX c) fun g =>
 bif !decide (g=0)then
  some ((aq.mk [] (am.mk []) []),g,b)
 else
 some ((aq.mk b c []),0,b)
def Da(v:aj)(l:am)(c:dX)(w:List ak):Option (aq×Int) :=
 call (CZ v l c) fun z =>
 bif !decide (z=0)then
  some ((aq.mk [] (am.mk []) []),z)
 else
 call (rV l c) fun M =>
 call (yQ M) fun B =>
 jp (S:=Unit) (fun _ =>
  call (rI v) fun p =>
  jp (S:=(List (dX×aa))×(List (dX×Int))×(List (dX×ab))×(List (dX×ah))×List ai) (fun s=>match s with
   |(F,G,I,J,C) =>
    call (GQ l.r) fun N =>
    call (GN v (am.mk N) F G I J C) fun D =>
    some (D.1,D.2.1)) fun O =>
  forL w 0 (fun W m s t X =>
   match s with
   |(f,g,i,j,b) =>
    call (nG m) fun P =>
    eA (zu B P) fun Q =>
    call (GH (Q.getD (ae.mk [] 0 [] [] [])) f g i j b) fun n =>
    callG (!(decide (n=3))) (BS m.e) false fun R =>
    bif ((decide (n=3))||(R&&(decide (n=2))))then
     call (IU m f g i j b) fun k =>
     t (k.1,k.2.1,k.2.2.1,k.2.2.2.1,k.2.2.2.2)
    else
    t (f,g,i,j,b)) (p.1,p.2.1,p.2.2.1,p.2.2.2,[]) (fun s=>match s with
   |(f,g,i,j,b) =>
    O (f,g,i,j,b))) fun T =>
 forL w 0 (fun Y u s L Z =>
  call (xP u) fun E =>
  bif !decide (E=0)then
   some ((aq.mk [] (am.mk []) []),E)
  else
  call (nG u) fun U =>
  eA (zu B U) fun o =>
  bif ((!o.isSome)||(!decide (((o.getD (ae.mk [] 0 [] [] [])).e)=u.e)))then
   some ((aq.mk [] (am.mk []) []),10)
  else
  call (yH u) fun V =>
  bif !decide (((o.getD (ae.mk [] 0 [] [] [])).x)=V)then
   some ((aq.mk [] (am.mk []) []),14)
  else
  L ()) () (fun _ =>
  T ())
def Dj(j:aj)(k:am):Option (List ar×Int) :=
 call (vh j k) fun l =>
 bif !decide (l=0)then
  some ([],l)
 else
 call (rI j) fun f =>
 jp (S:=List ar) (fun m =>
  some (m,0)) fun n =>
 forL k.r 0 (fun p b c i u =>
  call (Ck b f.1 f.2.1 f.2.2.1 f.2.2.2) fun g =>
  call (BS b.e) fun o =>
  bif ((o&&(!decide (g=1)))||((decide (b.e=3))&&(decide (g=3))))then
   dZ ((c++[(ar.mk b.t b.a b.e g)]).length<=274877906944) <|
   i (c++[(ar.mk b.t b.a b.e g)])
  else
  i c) [] (fun c =>
  n c)
def C9(b:aa):Option dX :=
 some b.a
def Cf(b:aa)(c:dX):Option Int :=
 call (C9 b) fun f =>
 call (vo f c) fun g =>
 some g
def zz(b:List aa)(g:dX):Option (Int×Bool) :=
 jp (S:=Int) (fun c =>
  dZ ((decide (c<(b.length:Int)))=true->(0<=c/\c<(b.length:Int))) <|
  callG (decide (c<(b.length:Int))) (Cf (aa.mk ((b.getD c.toNat (aa.mk [] [] false)).a) ((b.getD c.toNat (aa.mk [] [] false)).u) ((b.getD c.toNat (aa.mk [] [] false)).w)) g) 0 fun m =>
  some (c,((decide (c<(b.length:Int)))&&(decide (m=0))))) fun n =>
 loopN ia (fun s j o =>
  match s with
  |(f,i) =>
   bif decide (f<i)then
    ye b (IntKind.i64.wrap (Int.fdiv (IntKind.u64.wrap (IntKind.i64.wrap (f+i))) (2^(nY .u64 1)))) fun k =>
    call (Cf k g) fun l =>
    bif decide (l<0)then
     j (IntKind.i64.wrap ((IntKind.i64.wrap (Int.fdiv (IntKind.u64.wrap (IntKind.i64.wrap (f+i))) (2^(nY .u64 1))))+1),i)
    else
    j (f,IntKind.i64.wrap (Int.fdiv (IntKind.u64.wrap (IntKind.i64.wrap (f+i))) (2^(nY .u64 1))))
   else
   o (f,i)) (0,(b.length:Int)) (fun s=>match s with
  |(f,i) =>
   n f)
def D6(c:List aa)(b:dX):Option (aa×Bool) :=
 call (zz c b) fun f =>
 bif !f.2 then
  some ((aa.mk [] [] false),false)
 else
 ye c f.1 fun g =>
 some (g,true)
def GO(g:aj)(i:List aa)(b:dX):Option (aa×Int) :=
 call (vQ g) fun c =>
 bif !decide (c=0)then
  some ((aa.mk [] [] false),c)
 else
 call (vj b) fun j =>
 bif !j then
  some ((aa.mk [] [] false),5)
 else
 call (D6 i b) fun f =>
 bif !f.2 then
  some ((aa.mk [] [] false),10)
 else
 some (f.1,0)
def BL(c:aj)(b:dX):Option (aa×Int) :=
 call (GO c c.i b) fun f =>
 some (f.1,f.2)
def Dv(T:aj)(z:dX)(b:List ak)(C:List ai):Option Bool :=
 call (C1) fun U =>
 bif !U then
  some false
 else
 call (C6 T) fun Q =>
 dZ (0<=min (b.length:Int) 20/\min (b.length:Int) 20<=(b.length:Int)) <|
 call (Dk Q (am.mk []) z (List.take ((min (b.length:Int) 20).toNat) b) (au.mk false false)) fun J =>
 eA (((!decide (J.2=0))||(decide (((List.take ((min (b.length:Int) 20).toNat) b).length:Int)=0)))) fun V =>
 bif V then
  some true
 else
 call (vk Q J.1.E) fun F =>
 bif !decide (F.2=0)then
  some false
 else
 jp (S:=List ab×List aa×List ab×List ah) (fun s=>match s with
  |(o,p,t,v) =>
   call (Da (aj.mk o p t v) J.1.D z (List.take ((min (b.length:Int) 20).toNat) b)) fun L =>
   bif !decide (L.2=0)then
    some ((decide (L.2=11))||(decide (L.2=4)))
   else
   call (vk (aj.mk o p t v) L.1.E) fun I =>
   bif !decide (I.2=0)then
    some false
   else
   call (Dj I.1 J.1.D) fun R =>
   bif ((!decide (R.2=0))||(decide (0<(R.1.length:Int))))then
    some false
   else
   jp (S:=Unit) (fun _ =>
    some true) fun W =>
   loopN ia (fun c M X =>
    eA (decide (c<((List.take ((min (b.length:Int) 20).toNat) b).length:Int))) fun Y =>
    bif Y then
     ye (List.take ((min (b.length:Int) 20).toNat) b) c fun N =>
     bif ((!decide (N.e=3))&&(!decide (N.e=4)))then
      M (IntKind.i64.wrap (c+1))
     else
     call (BL (aj.mk o p t v) N.g.a) fun O =>
     call (BL I.1 N.g.a) fun B =>
     eA (!((decide (O.1.a=B.1.a))&&((decide (O.1.u=B.1.u))&&(decide (O.1.w=B.1.w))))) fun Z =>
     bif ((decide (O.2=0))&&((!decide (B.2=0))||Z))then
      some false
     else
     M (IntKind.i64.wrap (c+1))
    else
    X c) 0 (fun c =>
    W ())) fun a0 =>
 dZ (0<=min (C.length:Int) 15/\min (C.length:Int) 15<=(C.length:Int)) <|
 forL (List.take ((min (C.length:Int) 15).toNat) C) 0 (fun a2 a1 s P a3 =>
  match s with
  |(f,j,k,l) =>
   call (vk (aj.mk f j k l) [a1]) fun G =>
   bif decide (G.2=0)then
    P (G.1.q,G.1.i,G.1.n,G.1.m)
   else
   P (f,j,k,l)) (F.1.q,F.1.i,F.1.n,F.1.m) (fun s=>match s with
  |(f,j,k,l) =>
   a0 (f,j,k,l))
end
end Go.Md
