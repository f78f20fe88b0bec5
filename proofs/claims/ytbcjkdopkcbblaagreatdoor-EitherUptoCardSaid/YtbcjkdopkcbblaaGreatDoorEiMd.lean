/- Models of the functions that the statement reaches: what each computes, in plain words. -/
import Derived.Test.YtbcjkdopkcbblaaGreatDoorVc3
set_option linter.unusedVariables false
open List
namespace Go.Md
open Go.Vc
noncomputable section
def tabL_1:List Int:=[1,10,100,1000,10000,100000,1000000,10000000,100000000,1000000000,10000000000,100000000000,1000000000000,10000000000000,100000000000000,1000000000000000,10000000000000000,100000000000000000,1000000000000000000,10000000000000000000]
theorem qm:tabL_1.length=20:=rfl
instance theTabs:Tabs:=⟨fun b=>bif Nat.beq b 1 then some (.u64,tabL_1)else none,fun b=>bif Nat.beq b 4 then true else bif Nat.beq b 5 then true else false⟩
theorem Kf:Tabs.ifc 4=true:=rfl
theorem Ke:Tabs.ifc 5=true:=rfl
theorem tab_1:Tabs.tab 1=some (.u64,tabL_1):=rfl
attribute [go_sem] tab_1 qm
def eL(b:Bool):List Dt:=[.b b]
def dB(x:dy):List Dt:=[.s x]
def PP(n:Int):List Dt:=[.i .i8 n]
def MQ(n:Int):List Dt:=[.i .i16 n]
def sy(n:Int):List Dt:=[.i .i32 n]
def zk(n:Int):List Dt:=[.i .i64 n]
def gT(n:Int):List Dt:=[.i .u8 n]
def MP(n:Int):List Dt:=[.i .u16 n]
def sx(n:Int):List Dt:=[.i .u32 n]
def sw(n:Int):List Dt:=[.i .u64 n]
theorem Fp:∀r,eA r [.s]->∃x,r=dB x:=by
 intro r h
 rcases r with _|⟨d,_|_⟩ <;> simp only[eA,and_false,and_true]at h
 cases d <;> simp only[ej]at h
 exact⟨_,rfl⟩
theorem Kn:∀r,eA r [.i .i64]->∃x,r=zk x:=by
 intro r h
 rcases r with _|⟨d,_|_⟩ <;> simp only[eA,and_false,and_true]at h
 cases d <;> simp only[ej]at h
 subst h;exact⟨_,rfl⟩
theorem MS:∀r,eA r [.i .u8]->∃x,r=gT x:=by
 intro r h
 rcases r with _|⟨d,_|_⟩ <;> simp only[eA,and_false,and_true]at h
 cases d <;> simp only[ej]at h
 subst h;exact⟨_,rfl⟩
structure aa where
 k:dy
 Value:dy
def za(x:aa):List Dt:=[.s x.k,.s x.Value]
def L6:List Sh:=[.s,.s]
theorem RM:∀r,eA r L6->∃x:aa,r=za x:=by
 intro r h;unfold L6 at h
 rcases r with _|⟨d0,_|⟨d1,_|_⟩⟩ <;> simp only[eA,and_false,and_true]at h
 obtain⟨h0,h1⟩:=h
 cases d0 <;> simp only[ej]at h0
 cases d1 <;> simp only[ej]at h1
 exact⟨⟨_,_⟩,rfl⟩
structure ab where
 a:dy
 B:dy
 C:Bool
def zc(x:ab):List Dt:=[.s x.a,.s x.B,.b x.C]
def OB:List Sh:=[.s,.s,.b]
theorem mx:∀r,eA r OB->∃x:ab,r=zc x:=by
 intro r h;unfold OB at h
 rcases r with _|⟨d0,_|⟨d1,_|⟨d2,_|_⟩⟩⟩ <;> simp only[eA,and_false,and_true]at h
 obtain⟨h0,h1,h2⟩:=h
 cases d0 <;> simp only[ej]at h0
 cases d1 <;> simp only[ej]at h1
 cases d2 <;> simp only[ej]at h2
 exact⟨⟨_,_,_⟩,rfl⟩
structure ai where
 w:dy
 a:dy
 D:Bool
 E:Bool
def zb(x:ai):List Dt:=[.s x.w,.s x.a,.b x.D,.b x.E]
def O0:List Sh:=[.s,.s,.b,.b]
theorem SS:∀r,eA r O0->∃x:ai,r=zb x:=by
 intro r h;unfold O0 at h
 rcases r with _|⟨d0,_|⟨d1,_|⟨d2,_|⟨d3,_|_⟩⟩⟩⟩ <;> simp only[eA,and_false,and_true]at h
 obtain⟨h0,h1,h2,h3⟩:=h
 cases d0 <;> simp only[ej]at h0
 cases d1 <;> simp only[ej]at h1
 cases d2 <;> simp only[ej]at h2
 cases d3 <;> simp only[ej]at h3
 exact⟨⟨_,_,_,_⟩,rfl⟩
structure ah where
 y:List aa
 h:List ab
 r:List aa
 o:List ai
def zN(x:ah):List Dt:=[.l (List.map za x.y),.l (List.map zc x.h),.l (List.map za x.r),.l (List.map zb x.o)]
def L5:List Sh:=[.l L6,.l OB,.l L6,.l O0]
theorem SR:∀r,eA r L5->∃x:ah,r=zN x:=by
 intro r h;unfold L5 at h
 rcases r with _|⟨d0,_|⟨d1,_|⟨d2,_|⟨d3,_|_⟩⟩⟩⟩ <;> simp only[eA,and_false,and_true]at h
 obtain⟨h0,h1,h2,h3⟩:=h
 cases d0 <;> simp only[ej]at h0
 obtain⟨l0,rfl⟩:=yP RM h0
 cases d1 <;> simp only[ej]at h1
 obtain⟨l1,rfl⟩:=yP mx h1
 cases d2 <;> simp only[ej]at h2
 obtain⟨l2,rfl⟩:=yP RM h2
 cases d3 <;> simp only[ej]at h3
 obtain⟨l3,rfl⟩:=yP SS h3;exact⟨⟨_,_,_,_⟩,rfl⟩
structure ae where
 u:Int
 i:ab
 z:aa
 q:ai
def zf(x:ae):List Dt:=[.i .i64 x.u,.s x.i.a,.s x.i.B,.b x.i.C,.s x.z.k,.s x.z.Value,.s x.q.w,.s x.q.a,.b x.q.D,.b x.q.E]
def DX:List Sh:=[.i .i64,.s,.s,.b,.s,.s,.s,.s,.b,.b]
set_option maxRecDepth 100000 in
theorem L3:∀r,eA r DX->∃x:ae,r=zf x:=by
 intro r h;unfold DX at h
 rcases r with _|⟨d0,_|⟨d1,_|⟨d2,_|⟨d3,_|⟨d4,_|⟨d5,_|⟨d6,_|⟨d7,_|⟨d8,_|⟨d9,_|_⟩⟩⟩⟩⟩⟩⟩⟩⟩⟩ <;> simp only[eA,and_false,and_true]at h
 obtain⟨h0,h1,h2,h3,h4,h5,h6,h7,h8,h9⟩:=h
 cases d0 <;> simp only[ej]at h0
 subst h0
 cases d1 <;> simp only[ej]at h1
 cases d2 <;> simp only[ej]at h2
 cases d3 <;> simp only[ej]at h3
 cases d4 <;> simp only[ej]at h4
 cases d5 <;> simp only[ej]at h5
 cases d6 <;> simp only[ej]at h6
 cases d7 <;> simp only[ej]at h7
 cases d8 <;> simp only[ej]at h8
 cases d9 <;> simp only[ej]at h9
 exact⟨⟨_,⟨_,_,_⟩,⟨_,_⟩,⟨_,_,_,_⟩⟩,rfl⟩
structure ak where
 L:Int
 N:Bool
def zK(x:ak):List Dt:=[.i .i64 x.L,.b x.N]
def LP:List Sh:=[.i .i64,.b]
theorem oR:∀r,eA r LP->∃x:ak,r=zK x:=by
 intro r h;unfold LP at h
 rcases r with _|⟨d0,_|⟨d1,_|_⟩⟩ <;> simp only[eA,and_false,and_true]at h
 obtain⟨h0,h1⟩:=h
 cases d0 <;> simp only[ej]at h0
 subst h0
 cases d1 <;> simp only[ej]at h1
 exact⟨⟨_,_⟩,rfl⟩
structure am where
 kind:Int
 name:dy
def zU(x:am):List Dt:=[.i .i64 x.kind,.s x.name]
def RD:List Sh:=[.i .i64,.s]
theorem u6:∀r,eA r RD->∃x:am,r=zU x:=by
 intro r h;unfold RD at h
 rcases r with _|⟨d0,_|⟨d1,_|_⟩⟩ <;> simp only[eA,and_false,and_true]at h
 obtain⟨h0,h1⟩:=h
 cases d0 <;> simp only[ej]at h0
 subst h0
 cases d1 <;> simp only[ej]at h1
 exact⟨⟨_,_⟩,rfl⟩
structure aj where
 F:dy
 A:List ae
 G:List ae
def AD(x:aj):List Dt:=[.s x.F,.l (List.map zf x.A),.l (List.map zf x.G)]
def RC:List Sh:=[.s,.l DX,.l DX]
theorem u7:∀r,eA r RC->∃x:aj,r=AD x:=by
 intro r h;unfold RC at h
 rcases r with _|⟨d0,_|⟨d1,_|⟨d2,_|_⟩⟩⟩ <;> simp only[eA,and_false,and_true]at h
 obtain⟨h0,h1,h2⟩:=h
 cases d0 <;> simp only[ej]at h0
 cases d1 <;> simp only[ej]at h1
 obtain⟨l1,rfl⟩:=yP L3 h1
 cases d2 <;> simp only[ej]at h2
 obtain⟨l2,rfl⟩:=yP L3 h2;exact⟨⟨_,_,_⟩,rfl⟩
structure al where
 H:dy
 J:ab
 K:aa
 I:ai
def DS(x:al):List Dt:=[.s x.H,.s x.J.a,.s x.J.B,.b x.J.C,.s x.K.k,.s x.K.Value,.s x.I.w,.s x.I.a,.b x.I.D,.b x.I.E]
def Rn:List Sh:=[.s,.s,.s,.b,.s,.s,.s,.s,.b,.b]
set_option maxRecDepth 100000 in
theorem y1:∀r,eA r Rn->∃x:al,r=DS x:=by
 intro r h;unfold Rn at h
 rcases r with _|⟨d0,_|⟨d1,_|⟨d2,_|⟨d3,_|⟨d4,_|⟨d5,_|⟨d6,_|⟨d7,_|⟨d8,_|⟨d9,_|_⟩⟩⟩⟩⟩⟩⟩⟩⟩⟩ <;> simp only[eA,and_false,and_true]at h
 obtain⟨h0,h1,h2,h3,h4,h5,h6,h7,h8,h9⟩:=h
 cases d0 <;> simp only[ej]at h0
 cases d1 <;> simp only[ej]at h1
 cases d2 <;> simp only[ej]at h2
 cases d3 <;> simp only[ej]at h3
 cases d4 <;> simp only[ej]at h4
 cases d5 <;> simp only[ej]at h5
 cases d6 <;> simp only[ej]at h6
 cases d7 <;> simp only[ej]at h7
 cases d8 <;> simp only[ej]at h8
 cases d9 <;> simp only[ej]at h9
 exact⟨⟨_,⟨_,_,_⟩,⟨_,_⟩,⟨_,_,_,_⟩⟩,rfl⟩
structure ao where
 H:dy
 l:List ae
def Cy(x:ao):List Dt:=[.s x.H,.l (List.map zf x.l)]
def Q4:List Sh:=[.s,.l DX]
theorem BF:∀r,eA r Q4->∃x:ao,r=Cy x:=by
 intro r h;unfold Q4 at h
 rcases r with _|⟨d0,_|⟨d1,_|_⟩⟩ <;> simp only[eA,and_false,and_true]at h
 obtain⟨h0,h1⟩:=h
 cases d0 <;> simp only[ej]at h0
 cases d1 <;> simp only[ej]at h1
 obtain⟨l1,rfl⟩:=yP L3 h1;exact⟨⟨_,_⟩,rfl⟩
instance instDec_stage_place:DecidableEq am:=fun a b=>decidable_of_iff (a.kind=b.kind/\a.name=b.name) (by cases a;cases b;simp)
def D4(x:am):Dt:=.a (zU x)
theorem OU(a b:am):fi (D4 a) (D4 b)=decide (a=b):=by
 rw[Bool.eq_iff_iff];obtain⟨a0,a1⟩:=a;obtain⟨b0,b1⟩:=b;simp only[fi,D4,zU,fJ,Bool.and_true,Bool.and_eq_true,decide_eq_true_eq,am.mk.injEq];exact⟨fun h=>by simp only[h,and_self],fun h=>by simp only[h,and_self]⟩
theorem Tw{V:Type}(e:V->List Dt)(l:List (am×V)):jN (.ks [.i .i64,.s]) (zl D4 e l)=True:=rV (kd:=zU) (fun x=>by simp[zF,zU]) e l
attribute [go_sem] Tw
theorem Et:∀l,eP (1) (List.map eL l)=True:=fun l=>eq_true (by intro r hr;obtain⟨x,_,rfl⟩:=mem_map.1 hr;rfl)
theorem Es:∀l,eP (1) (List.map dB l)=True:=fun l=>eq_true (by intro r hr;obtain⟨x,_,rfl⟩:=mem_map.1 hr;rfl)
theorem qp:∀l,eP (1) (List.map zk l)=True:=fun l=>eq_true (by intro r hr;obtain⟨x,_,rfl⟩:=mem_map.1 hr;rfl)
theorem tn:∀l,eP (1) (List.map gT l)=True:=fun l=>eq_true (by intro r hr;obtain⟨x,_,rfl⟩:=mem_map.1 hr;rfl)
theorem qn:∀l,eP (1) (List.map sw l)=True:=fun l=>eq_true (by intro r hr;obtain⟨x,_,rfl⟩:=mem_map.1 hr;rfl)
theorem qq:∀l,eP (1) (List.map sy l)=True:=fun l=>eq_true (by intro r hr;obtain⟨x,_,rfl⟩:=mem_map.1 hr;rfl)
theorem qo:∀l,eP (1) (List.map sx l)=True:=fun l=>eq_true (by intro r hr;obtain⟨x,_,rfl⟩:=mem_map.1 hr;rfl)
theorem TO:∀l,eP (2) (List.map za l)=True:=fun l=>eq_true (by intro r hr;obtain⟨x,_,rfl⟩:=mem_map.1 hr;rfl)
theorem S4:∀l,eP (3) (List.map zc l)=True:=fun l=>eq_true (by intro r hr;obtain⟨x,_,rfl⟩:=mem_map.1 hr;rfl)
theorem TN:∀l,eP (4) (List.map zb l)=True:=fun l=>eq_true (by intro r hr;obtain⟨x,_,rfl⟩:=mem_map.1 hr;rfl)
theorem TM:∀l,eP (4) (List.map zN l)=True:=fun l=>eq_true (by intro r hr;obtain⟨x,_,rfl⟩:=mem_map.1 hr;rfl)
theorem Tz:∀l,eP (10) (List.map zf l)=True:=fun l=>eq_true (by intro r hr;obtain⟨x,_,rfl⟩:=mem_map.1 hr;rfl)
theorem S1:∀l,eP (2) (List.map zK l)=True:=fun l=>eq_true (by intro r hr;obtain⟨x,_,rfl⟩:=mem_map.1 hr;rfl)
theorem TP:∀l,eP (2) (List.map zU l)=True:=fun l=>eq_true (by intro r hr;obtain⟨x,_,rfl⟩:=mem_map.1 hr;rfl)
theorem TL:∀l,eP (3) (List.map AD l)=True:=fun l=>eq_true (by intro r hr;obtain⟨x,_,rfl⟩:=mem_map.1 hr;rfl)
theorem To:∀l,eP (10) (List.map DS l)=True:=fun l=>eq_true (by intro r hr;obtain⟨x,_,rfl⟩:=mem_map.1 hr;rfl)
theorem S2:∀l,eP (2) (List.map Cy l)=True:=fun l=>eq_true (by intro r hr;obtain⟨x,_,rfl⟩:=mem_map.1 hr;rfl)
theorem pz:∀l:List Int,fy (List.map gT l)=True
 |[]=>by simp only[map_nil,fy]
 |_::l=>by simp only[map_cons,gT,fy,pz l,and_self]
theorem rB:∀l:List Int,gP (List.map gT l)=Go.Vc.strOf l
 |[]=>by simp only[map_nil,gP,Go.Vc.strOf]
 |_::l=>by simp only[map_cons,gT,gP,rB l,Go.Vc.strOf]
theorem Fz(l:dy):bR l=List.map gT (FP l):=by simp[bR,FP,gT]
attribute [go_sem] pz rB Fz
attribute [go_sem] eL dB zk gT sw sy sx za zc zb zN zf zK zU AD DS Cy Et Es qp tn qn qq qo TO S4 TN TM Tz S1 TP TL To S2
def Ct(b:Int):Option Bool :=
 some ((decide (97<=b))&&(decide (b<=122)))
def Gv(b:Int):Option Bool :=
 some ((decide (48<=b))&&(decide (b<=57)))
def Ix(b:Int):Option Bool :=
 call (Ct b) fun c =>
 callG (!c) (Gv b) false fun f =>
 some (((c||f)||(decide (b=45)))||(decide (b=46)))
def LX(b:dy)(c:Int):Option Bool :=
 jp (S:=Unit) (fun _ =>
  some ((!decide (b=[]))&&(decide ((b.length:Int)<=c)))) fun g =>
 forL b 0 (fun k i s f l =>
  call (Ix (i.toNat:Int)) fun j =>
  bif !j then
   some false
  else
  f ()) () (fun _ =>
  g ())
def ta(b:dy):Option Bool :=
 call (LX b 40) fun c =>
 dA (c=true->(0<=0/\0<(b.length:Int))) <|
 callG c (Ct ((b.getD 0 0).toNat:Int)) false fun f =>
 some (c&&f)
def Ia :Option Bool :=
 call (ta ([97]:dy)) fun b =>
 some b
def Aq(c:dy):Option Bool :=
 jp (S:=Unit) (fun _ =>
  some ((!decide (c=[]))&&(decide ((c.length:Int)<=40)))) fun g =>
 forL c 0 (fun i b s f j =>
  bif (((decide ((i:Int)=0))&&(!((decide (97<=(b.toNat:Int)))&&(decide ((b.toNat:Int)<=122)))))||((((!((decide (97<=(b.toNat:Int)))&&(decide ((b.toNat:Int)<=122))))&&((decide ((b.toNat:Int)<48))||(decide (57<(b.toNat:Int)))))&&(!decide ((b.toNat:Int)=45)))&&(!decide ((b.toNat:Int)=46))))then
   some false
  else
  f ()) () (fun _ =>
  g ())
def DE(b:dy):Option Bool :=
 jp (S:=Unit) (fun _ =>
  some (decide ((b.length:Int)<=1000))) fun g =>
 forL b 0 (fun i c s f j =>
  bif ((decide ((c.toNat:Int)<32))||(decide (126<(c.toNat:Int))))then
   some false
  else
  f ()) () (fun _ =>
  g ())
def Pj(b:dy)(c:dy):Option Int :=
 some (iJ b c)
def D5(b:dy)(c:dy):Option Int :=
 call (Pj b c) fun f =>
 some f
def Lu(b:aa)(c:aa):Option Int :=
 call (D5 b.k c.k) fun f =>
 some f
def zn(g:Int)(u:Int)(m:List aa):Option (List aa) :=
 loopN eV (fun s n v =>
  match s with
  |(i,f) =>
   bif decide (i<u)then
    jp (S:=List aa) (fun j =>
     n (IntKind.i64.wrap (i+1),j)) fun o =>
    loopN eV (fun s l p =>
     match s with
     |(b,c) =>
      dA ((decide (g<b))=true->(0<=b/\b<(c.length:Int))) <|
      dA ((decide (g<b))=true->(0<=IntKind.i64.wrap (b-1)/\IntKind.i64.wrap (b-1)<(c.length:Int))) <|
      callG (decide (g<b)) (Lu (aa.mk ((c.getD b.toNat (aa.mk [] [])).k) ((c.getD b.toNat (aa.mk [] [])).Value)) (aa.mk ((c.getD ((IntKind.i64.wrap (b-1)).toNat) (aa.mk [] [])).k) ((c.getD ((IntKind.i64.wrap (b-1)).toNat) (aa.mk [] [])).Value))) 0 fun t =>
      bif ((decide (g<b))&&(decide (t<0)))then
       dA (0<=IntKind.i64.wrap (b-1)/\IntKind.i64.wrap (b-1)<(c.length:Int)) <|
       dA (0<=b/\b<(c.length:Int)) <|
       dA (0<=b/\b<(c.length:Int)) <|
       dA (0<=IntKind.i64.wrap (b-1)/\IntKind.i64.wrap (b-1)<((List.set c b.toNat (aa.mk ((c.getD ((IntKind.i64.wrap (b-1)).toNat) (aa.mk [] [])).k) ((c.getD ((IntKind.i64.wrap (b-1)).toNat) (aa.mk [] [])).Value))).length:Int)) <|
       l (IntKind.i64.wrap (b-1),List.set (List.set c b.toNat (aa.mk ((c.getD ((IntKind.i64.wrap (b-1)).toNat) (aa.mk [] [])).k) ((c.getD ((IntKind.i64.wrap (b-1)).toNat) (aa.mk [] [])).Value))) ((IntKind.i64.wrap (b-1)).toNat) (aa.mk ((c.getD b.toNat (aa.mk [] [])).k) ((c.getD b.toNat (aa.mk [] [])).Value)))
      else
      p (b,c)) (i,f) (fun s=>match s with
     |(b,c) =>
      o c)
   else
   v (i,f)) (IntKind.i64.wrap (g+1),m) (fun s=>match s with
  |(i,f) =>
   some f)
def MA(g:Int)(l:List aa):Option (List aa) :=
 jp (S:=Int×List aa) (fun s=>match s with
  |(w,m) =>
   call (zn w g m) fun z =>
   loopN eV (fun b j n =>
    bif decide (b<g)then
     jp (S:=Unit) (fun _ =>
      bif decide ((IntKind.i64.wrap (0+b))<g)then
       none
      else
      j (IntKind.i64.wrap (b*2))) fun o =>
     loopN eV (fun s B p =>
      bif decide ((IntKind.i64.wrap (2*b))<=g)then
       none
      else
      p ()) () (fun _ =>
      o ())
    else
    n b) 20 (fun b =>
    some z)) fun t =>
 loopN eV (fun s k u =>
  match s with
  |(i,c,f) =>
   bif decide (c<=g)then
    call (zn i c f) fun v =>
    k (c,IntKind.i64.wrap (c+20),v)
   else
   u (i,c,f)) (0,20,l) (fun s=>match s with
  |(i,c,f) =>
   t (i,f))
def zw(b:List aa):Option (List aa) :=
 call (MA (b.length:Int) b) fun c =>
 some c
def HP(b:aa)(c:aa):Option Bool :=
 some (decide (b.k=c.k))
def zE(b:List aa):Option (Nat×Nat×List aa) :=
 bif decide (((List.take b.length b).length:Int)<2)then
  some (0,b.length,b)
 else
 jp (S:=Unit) (fun _ =>
  some (0,b.length,b)) fun z =>
 loopN eV (fun c n o =>
  bif decide (c<((List.take b.length b).length:Int))then
   jp (S:=Unit) (fun _ =>
    n (IntKind.i64.wrap (c+1))) fun p =>
   dA (0<=c/\c<(b.length:Int)) <|
   dA (0<=IntKind.i64.wrap (c-1)/\IntKind.i64.wrap (c-1)<(b.length:Int)) <|
   call (HP (aa.mk ((b.getD (c.toNat:Nat) (aa.mk [] [])).k) ((b.getD (c.toNat:Nat) (aa.mk [] [])).Value)) (aa.mk ((b.getD ((IntKind.i64.wrap (c-1)).toNat:Nat) (aa.mk [] [])).k) ((b.getD ((IntKind.i64.wrap (c-1)).toNat:Nat) (aa.mk [] [])).Value))) fun t =>
   bif t then
    dA (0<=c/\c<=(b.length:Int)) <|
    jp (S:=Int×List aa) (fun s=>match s with
     |(i,l) =>
      dA (0<=i/\i<=(b.length:Int)) <|
      dA (0<=i/\i<=(b.length:Int)) <|
      some (0,i.toNat,List.take i.toNat l++List.replicate (b.length-i.toNat) (aa.mk [] [])++List.drop (i.toNat+(b.length-i.toNat)) l)) fun u =>
    loopN eV (fun s m v =>
     match s with
     |(j,f,g) =>
      bif decide (f<((List.take (b.length-c.toNat) (List.drop c.toNat g)).length:Int))then
       dA (0<=f/\f<(b.length-c.toNat:Int)) <|
       dA (c.toNat+f.toNat<g.length) <|
       dA (0<=IntKind.i64.wrap (f-1)/\IntKind.i64.wrap (f-1)<(b.length-c.toNat:Int)) <|
       dA (c.toNat+((IntKind.i64.wrap (f-1)).toNat)<g.length) <|
       call (HP (aa.mk ((g.getD (c.toNat+f.toNat:Nat) (aa.mk [] [])).k) ((g.getD (c.toNat+f.toNat:Nat) (aa.mk [] [])).Value)) (aa.mk ((g.getD (c.toNat+((IntKind.i64.wrap (f-1)).toNat):Nat) (aa.mk [] [])).k) ((g.getD (c.toNat+((IntKind.i64.wrap (f-1)).toNat):Nat) (aa.mk [] [])).Value))) fun w =>
       bif !w then
        dA (0<=f/\f<(b.length-c.toNat:Int)) <|
        dA (c.toNat+f.toNat<g.length) <|
        dA (0<=j/\j<(b.length:Int)) <|
        dA (j.toNat<g.length) <|
        m (IntKind.i64.wrap (j+1),IntKind.i64.wrap (f+1),List.set g (j.toNat:Nat) (aa.mk ((g.getD (c.toNat+f.toNat:Nat) (aa.mk [] [])).k) ((g.getD (c.toNat+f.toNat:Nat) (aa.mk [] [])).Value)))
       else
       m (j,IntKind.i64.wrap (f+1),g)
      else
      v (j,f,g)) (c,1,b) (fun s=>match s with
     |(j,f,g) =>
      u (j,g))
   else
   p ()
  else
  o c) 1 (fun c =>
  z ())
def p6(b:Bool)(c:Int):Option Int :=
 bif b then
  some c
 else
 some 0
def Cw(f:Int)(c:dy)(b:dy):Option (Int×dy) :=
 call (p6 ((decide (0<f))&&(ls c b||decide (c=b))) 7) fun g =>
 some (g,c)
def pW(f:List Int):Option Int :=
 jp (S:=Unit) (fun _ =>
  some 0) fun g =>
 forL f 0 (fun i b s c j =>
  bif !decide (b=0)then
   some b
  else
  c ()) () (fun _ =>
  g ())
def Ha(b:dy)(c:Int):Option Int :=
 some (yH b c)
def G4(c:dy)(b:dy):Option Int :=
 bif ((decide ((b.length:Int)=0))||(decide (b=c)))then
  some 0
 else
 bif decide ((b.length:Int)=1)then
  ig b 0 fun f =>
  call (Ha c f) fun g =>
  some g
 else
 bif decide ((c.length:Int)<=(b.length:Int))then
  some (-1)
 else
 none
def GD(c:dy)(b:dy):Option Int :=
 call (G4 c b) fun f =>
 some f
def IA(i:dy)(b:dy):Option Int :=
 bif decide ((b.length:Int)=0)then
  none
 else
 bif decide ((b.length:Int)=1)then
  ig b 0 fun k =>
  some (Ah i k)
 else
 loopN eV (fun s j l =>
  match s with
  |(c,g) =>
   call (GD c b) fun f =>
   bif decide (f=(-1))then
    some g
   else
   dA (0<=IntKind.i64.wrap (f+(b.length:Int))/\IntKind.i64.wrap (f+(b.length:Int))<=(c.length:Int)) <|
   j (List.drop ((IntKind.i64.wrap (f+(b.length:Int))).toNat) c,IntKind.i64.wrap (g+1))) (i,0) (fun s=>match s with
  |(c,g) =>
   none)
def CB(j:dy)(c:dy)(b:Int)(o:Int):Option (List dy) :=
 bif decide (o=0)then
  some []
 else
 bif decide (c=[])then
  none
 else
 jp (S:=Int) (fun m =>
  dA (0<=min m (IntKind.i64.wrap ((j.length:Int)+1))/\min m (IntKind.i64.wrap ((j.length:Int)+1))<=min m (IntKind.i64.wrap ((j.length:Int)+1))/\min m (IntKind.i64.wrap ((j.length:Int)+1))<=274877906944) <|
  jp (S:=dy×Int×List dy) (fun s=>match s with
   |(p,k,n) =>
    dA (0<=k/\k<(n.length:Int)) <|
    dA (0<=IntKind.i64.wrap (k+1)/\IntKind.i64.wrap (k+1)<=((List.set n k.toNat p).length:Int)) <|
    some (List.take ((IntKind.i64.wrap (k+1)).toNat) (List.set n k.toNat p))) fun w =>
  loopN eV (fun s v t =>
   match s with
   |(f,g,i) =>
    bif decide (g<(IntKind.i64.wrap ((min m (IntKind.i64.wrap ((j.length:Int)+1)))-1)))then
     call (GD f c) fun l =>
     bif decide (l<0)then
      t (f,g,i)
     else
     dA (0<=IntKind.i64.wrap (l+b)/\IntKind.i64.wrap (l+b)<=(f.length:Int)) <|
     dA (0<=g/\g<(i.length:Int)) <|
     dA (0<=IntKind.i64.wrap (l+(c.length:Int))/\IntKind.i64.wrap (l+(c.length:Int))<=(f.length:Int)) <|
     v (List.drop ((IntKind.i64.wrap (l+(c.length:Int))).toNat) f,IntKind.i64.wrap (g+1),List.set i g.toNat (List.take ((IntKind.i64.wrap (l+b)).toNat) f))
    else
    t (f,g,i)) (j,0,List.replicate ((min m (IntKind.i64.wrap ((j.length:Int)+1))).toNat) []) (fun s=>match s with
   |(f,g,i) =>
    w (f,g,i))) fun u =>
 bif decide (o<0)then
  call (IA j c) fun z =>
  u (IntKind.i64.wrap (z+1))
 else
 u o
def DY(c:dy)(b:dy):Option (List dy) :=
 call (CB c b 0 (-1)) fun f =>
 some f
def HA(c:dy):Option Bool :=
 jp (S:=Unit) (fun _ =>
  some ((((!decide (c=[]))&&(decide ((c.length:Int)<=40)))&&(!decide (c=([46]:dy))))&&(!decide (c=([46,46]:dy))))) fun g =>
 forL c 0 (fun i b s f j =>
  bif (((((((decide ((b.toNat:Int)<97))||(decide (122<(b.toNat:Int))))&&((decide ((b.toNat:Int)<65))||(decide (90<(b.toNat:Int)))))&&((decide ((b.toNat:Int)<48))||(decide (57<(b.toNat:Int)))))&&(!decide ((b.toNat:Int)=45)))&&(!decide ((b.toNat:Int)=46)))&&(!decide ((b.toNat:Int)=95)))then
   some false
  else
  f ()) () (fun _ =>
  g ())
def Ar(b:dy):Option Bool :=
 jp (S:=Unit) (fun _ =>
  some (decide ((b.length:Int)<=200))) fun f =>
 call (DY b ([47]:dy)) fun g =>
 forL g 0 (fun k i s c l =>
  call (HA i) fun j =>
  bif !j then
   some false
  else
  c ()) () (fun _ =>
  f ())
def Gk(b:ab):Option Int :=
 call (Ar b.a) fun c =>
 call (p6 (!c) 5) fun f =>
 call (p6 (decide (65536<(b.B.length:Int))) 4) fun g =>
 call (pW [f,g]) fun i =>
 some i
def GM(b:aa):Option Int :=
 call (Ar b.k) fun c =>
 call (p6 (!c) 5) fun f =>
 call (DE b.Value) fun g =>
 call (p6 (!g) 2) fun i =>
 call (pW [f,i]) fun j =>
 some j
def GL(b:ai):Option Int :=
 call (Aq b.w) fun c =>
 callG (!(!c)) (Ar b.a) false fun f =>
 call (p6 ((!c)||(!f)) 5) fun g =>
 some g
def FX(f:ah):Option Int :=
 bif ((((decide (100<(f.y.length:Int)))||(decide (2000<(f.h.length:Int))))||(decide (2000<(f.r.length:Int))))||(decide (100<(f.o.length:Int))))then
  some 4
 else
 jp (S:=dy) (fun t =>
  jp (S:=dy) (fun u =>
   jp (S:=dy) (fun v =>
    jp (S:=Unit) (fun _ =>
     some 0) fun W =>
    forL f.o 0 (fun X B l R an =>
     call (GL B) fun Y =>
     call (Cw (X:Int) B.w l) fun C =>
     call (pW [Y,C.1]) fun D =>
     bif !decide (D=0)then
      some D
     else
     R C.2) v (fun l =>
     W ())) fun Z =>
   forL f.r 0 (fun a0 E i T ap =>
    call (GM E) fun a1 =>
    call (Cw (a0:Int) E.k i) fun F =>
    call (pW [a1,F.1]) fun G =>
    bif !decide (G=0)then
     some G
    else
    T F.2) u (fun i =>
    Z i)) fun a2 =>
  forL f.h 0 (fun a3 g s U aq =>
   match s with
   |(j,m) =>
    jp (S:=dy) (fun z =>
     U (z,dF m g.a true)) fun a4 =>
    call (Gk g) fun a5 =>
    call (Cw (a3:Int) g.a j) fun I =>
    call (pW [a5,I.1]) fun J =>
    jp (S:=Int) (fun L =>
     bif !decide (L=0)then
      some L
     else
     dA ((dF m g.a true).length<=274877906944) <|
     a4 I.2) fun M =>
    bif decide (J=0)then
     loopN eV (fun s n a6 =>
      match s with
      |(p,b) =>
       bif decide (b<(g.a.length:Int))then
        ig g.a b fun N =>
        dA ((decide (N=47))=true->(0<=b/\b<=(g.a.length:Int))) <|
        fj (zG m (List.take b.toNat g.a)) fun a7 =>
        bif ((decide (N=47))&&(a7.getD false))then
         n (11,IntKind.i64.wrap (b+1))
        else
        n (p,IntKind.i64.wrap (b+1))
       else
       a6 (p,b)) (J,0) (fun s=>match s with
      |(p,b) =>
       M p)
    else
    M J) (t,[]) (fun s=>match s with
   |(j,m) =>
    a2 j)) fun a8 =>
 forL f.y 0 (fun a9 O c V ar =>
  call (Aq O.k) fun ac =>
  call (p6 (!ac) 5) fun ad =>
  call (DE O.Value) fun af =>
  call (p6 (!af) 2) fun ag =>
  call (Cw (a9:Int) O.k c) fun P =>
  call (pW [ad,ag,P.1]) fun Q =>
  bif !decide (Q=0)then
   some Q
  else
  V P.2) [] (fun c =>
  a8 c)
def DF(g:ah):Option ((List (dy×ab))×(List (dy×dy))×(List (dy×ai))×List aa) :=
 jp (S:=(List (dy×ab))) (fun u =>
  jp (S:=(List (dy×dy))) (fun v =>
   jp (S:=(List (dy×ai))) (fun m =>
    some (u,v,m,g.y)) fun z =>
   forL g.o 0 (fun D i b n E =>
    dA ((dF b i.w i).length<=274877906944) <|
    n (dF b i.w i)) [] (fun b =>
    z b)) fun B =>
  forL g.r 0 (fun F j c p G =>
   dA ((dF c j.k j.Value).length<=274877906944) <|
   p (dF c j.k j.Value)) [] (fun c =>
   B c)) fun C =>
 forL g.h 0 (fun I l f t J =>
  dA ((dF f l.a l).length<=274877906944) <|
  t (dF f l.a l)) [] (fun f =>
  C f)
def IE(b:ae):Option Int :=
 jp (S:=Int×dy×dy×Bool×dy×dy×dy×dy×Bool×Bool) (fun s=>match s with
  |(R,l,m,n,o,p,t,f,g,j) =>
   call (p6 (!(true&&((decide (l=[]))&&((decide (m=[]))&&((decide (n=false))&&((decide (o=[]))&&((decide (p=[]))&&((decide (t=[]))&&((decide (f=[]))&&((decide (g=false))&&(decide (j=false)))))))))))) 2) fun v =>
   call (pW [R,v]) fun F =>
   some F) fun c =>
 bif decide (b.u=1)then
  call (Gk b.i) fun G =>
  c (G,[],[],false,b.z.k,b.z.Value,b.q.w,b.q.a,b.q.D,b.q.E)
 else
 bif decide (b.u=2)then
  call (Ar b.i.a) fun I =>
  call (p6 (!I) 5) fun J =>
  c (J,[],b.i.B,b.i.C,b.z.k,b.z.Value,b.q.w,b.q.a,b.q.D,b.q.E)
 else
 bif decide (b.u=3)then
  call (GM b.z) fun L =>
  c (L,b.i.a,b.i.B,b.i.C,[],[],b.q.w,b.q.a,b.q.D,b.q.E)
 else
 bif decide (b.u=4)then
  call (Ar b.z.k) fun M =>
  call (p6 (!M) 5) fun N =>
  c (N,b.i.a,b.i.B,b.i.C,[],b.z.Value,b.q.w,b.q.a,b.q.D,b.q.E)
 else
 bif decide (b.u=5)then
  call (GL b.q) fun O =>
  c (O,b.i.a,b.i.B,b.i.C,b.z.k,b.z.Value,[],[],false,false)
 else
 bif decide (b.u=6)then
  call (Aq b.q.w) fun P =>
  call (p6 (!P) 5) fun Q =>
  c (Q,b.i.a,b.i.B,b.i.C,b.z.k,b.z.Value,[],b.q.a,b.q.D,b.q.E)
 else
 some 1
def G9(c:dy)(b:dy):Option Bool :=
 dA ((decide ((b.length:Int)<=(c.length:Int)))=true->(0<=(b.length:Int)/\(b.length:Int)<=(c.length:Int))) <|
 some ((decide ((b.length:Int)<=(c.length:Int)))&&(decide ((List.take b.length c)=b)))
def I2(c:dy)(b:dy):Option Bool :=
 call (G9 c b) fun f =>
 some f
def Ag(c:dy)(b:dy):Option Bool :=
 dA ((b++([47]:dy)).length<=274877906944) <|
 call (I2 c (b++([47]:dy))) fun f =>
 some f
def Gz(b:ae)(L:List aa)(c:List (dy×ab))(f:List (dy×dy))(g:List (dy×ai)):Option (Int×(List (dy×ab))×(List (dy×dy))×(List (dy×ai))) :=
 call (IE b) fun o =>
 bif !decide (o=0)then
  some (o,c,f,g)
 else
 jp (S:=(List (dy×ab))×(List (dy×dy))×(List (dy×ai))) (fun s=>match s with
  |(v,l,m) =>
   some (0,v,l,m)) fun j =>
 bif decide (b.u=2)then
  fj (zG c b.i.a) fun B =>
  bif !B.isSome then
   some (10,c,f,g)
  else
  j (fC c b.i.a,f,g)
 else
 bif decide (b.u=4)then
  fj (zG f b.z.k) fun C =>
  bif !C.isSome then
   some (10,c,f,g)
  else
  j (c,fC f b.z.k,g)
 else
 bif decide (b.u=6)then
  fj (zG g b.q.w) fun D =>
  bif !D.isSome then
   some (10,c,f,g)
  else
  j (c,f,fC g b.q.w)
 else
 bif decide (b.u=1)then
  jp (S:=Unit) (fun _ =>
   fj (zG c b.i.a) fun E =>
   bif ((!E.isSome)&&(decide (2000<=(c.length:Int))))then
    some (4,c,f,g)
   else
   dA ((dF c b.i.a b.i).length<=274877906944) <|
   j (dF c b.i.a b.i,f,g)) fun F =>
  forM (fun p s n M =>
   call (Ag p.1 b.i.a) fun t =>
   callG (!t) (Ag b.i.a p.1) false fun G =>
   bif (t||G)then
    some (11,c,f,g)
   else
   n ()) c.length c () (fun _ =>
   F ())
 else
 bif decide (b.u=3)then
  fj (zG f b.z.k) fun I =>
  bif ((!I.isSome)&&(decide (2000<=(f.length:Int))))then
   some (4,c,f,g)
  else
  dA ((dF f b.z.k b.z.Value).length<=274877906944) <|
  j (c,dF f b.z.k b.z.Value,g)
 else
 fj (zG g b.q.w) fun J =>
 bif ((!J.isSome)&&(decide (100<=(g.length:Int))))then
  some (4,c,f,g)
 else
 dA ((dF g b.q.w b.q).length<=274877906944) <|
 j (c,f,dF g b.q.w b.q)
def zy(b:List aa):Option (List aa) :=
 ve (fun c:Bool=>c=true->b=[]) fun c =>
 bif c then
  some []
 else
 dA (([]++b).length<=274877906944) <|
 some ([]++b)
def Me(o0:List dy):Option (List dy):=some (sortS o0)
def Mm(c:List (dy×ab)):Option (List dy) :=
 jp (S:=List dy) (fun g =>
  call (Me g) fun j =>
  some j) fun k =>
 forM (fun f b i l =>
  dA ((b++[f.1]).length<=274877906944) <|
  i (b++[f.1])) c.length c [] (fun b =>
  k b)
def Mk(c:List (dy×dy)):Option (List dy) :=
 jp (S:=List dy) (fun g =>
  call (Me g) fun j =>
  some j) fun k =>
 forM (fun f b i l =>
  dA ((b++[f.1]).length<=274877906944) <|
  i (b++[f.1])) c.length c [] (fun b =>
  k b)
def Mq(c:List (dy×ai)):Option (List dy) :=
 jp (S:=List dy) (fun g =>
  call (Me g) fun j =>
  some j) fun k =>
 forM (fun f b i l =>
  dA ((b++[f.1]).length<=274877906944) <|
  i (b++[f.1])) c.length c [] (fun b =>
  k b)
def CG(g:List aa)(i:List (dy×ab))(j:List (dy×dy))(k:List (dy×ai)):Option ah :=
 call (zy g) fun B =>
 jp (S:=List ab) (fun n =>
  jp (S:=List aa) (fun o =>
   jp (S:=List ai) (fun p =>
    some (ah.mk B n o p)) fun C =>
   call (Mq k) fun D =>
   forL D 0 (fun M E b t N =>
    fj (zG k E) fun w =>
    dA ((b++[(w.getD (ai.mk [] [] false false))]).length<=274877906944) <|
    t (b++[(w.getD (ai.mk [] [] false false))])) [] (fun b =>
    C b)) fun F =>
  call (Mk j) fun G =>
  forL G 0 (fun O l c u P =>
   fj (zG j l) fun z =>
   dA ((c++[(aa.mk l (z.getD []))]).length<=274877906944) <|
   u (c++[(aa.mk l (z.getD []))])) [] (fun c =>
   F c)) fun I =>
 call (Mm i) fun J =>
 forL J 0 (fun Q L f v R =>
  fj (zG i L) fun m =>
  dA ((f++[(m.getD (ab.mk [] [] false))]).length<=274877906944) <|
  v (f++[(m.getD (ab.mk [] [] false))])) [] (fun f =>
  I f)
def FW(m:ah)(v:List ae):Option (ah×Int) :=
 call (FX m) fun n =>
 bif !decide (n=0)then
  some ((ah.mk [] [] [] []),n)
 else
 call (DF m) fun b =>
 jp (S:=(List (dy×ab))×(List (dy×dy))×(List (dy×ai))) (fun s=>match s with
  |(o,j,k) =>
   call (CG b.2.2.2 o j k) fun p =>
   some (p,0)) fun t =>
 forL v 0 (fun w u s l z =>
  match s with
  |(f,g,i) =>
   call (Gz u b.2.2.2 f g i) fun c =>
   bif !decide (c.1=0)then
    some ((ah.mk [] [] [] []),c.1)
   else
   l (c.2.1,c.2.2.1,c.2.2.2)) (b.1,b.2.1,b.2.2.1) (fun s=>match s with
  |(f,g,i) =>
   t (f,g,i))
def Cv(j:ae)(b:List aa)(c:List ab)(f:List aa)(g:List ai):Option (List aa×List ab×List aa×List ai) :=
 call (FW (ah.mk b c f g) [j]) fun i =>
 bif decide (i.2=0)then
  some (i.1.y,i.1.h,i.1.r,i.1.o)
 else
 some (b,c,f,g)
def Hj(b:ah):Option ah :=
 jp (S:=List aa) (fun Z =>
  call (zw Z) fun a3 =>
  call (zE a3) fun X =>
  jp (S:=List aa×List ab×List aa×List ai) (fun s=>match s with
   |(J,L,M,N) =>
    jp (S:=List aa×List ab×List aa×List ai) (fun s=>match s with
     |(O,P,Q,R) =>
      jp (S:=List aa×List ab×List aa×List ai) (fun s=>match s with
       |(T,U,V,W) =>
        some (ah.mk T U V W)) fun a4 =>
      dA (0<=min (b.o.length:Int) 40/\min (b.o.length:Int) 40<=(b.o.length:Int)) <|
      forL (List.take ((min (b.o.length:Int) 40).toNat) b.o) 0 (fun ad a5 s a0 af =>
       match s with
       |(w,c,f,g) =>
        call (Cv (ae.mk 5 (ab.mk [] [] false) (aa.mk [] []) a5) w c f g) fun D =>
        a0 (D.1,D.2.1,D.2.2.1,D.2.2.2)) (O,P,Q,R) (fun s=>match s with
       |(w,c,f,g) =>
        a4 (w,c,f,g))) fun a6 =>
    dA (0<=min (b.r.length:Int) 40/\min (b.r.length:Int) 40<=(b.r.length:Int)) <|
    forL (List.take ((min (b.r.length:Int) 40).toNat) b.r) 0 (fun ag a7 s a1 an =>
     match s with
     |(i,j,l,m) =>
      call (Cv (ae.mk 3 (ab.mk [] [] false) a7 (ai.mk [] [] false false)) i j l m) fun E =>
      a1 (E.1,E.2.1,E.2.2.1,E.2.2.2)) (J,L,M,N) (fun s=>match s with
     |(i,j,l,m) =>
      a6 (i,j,l,m))) fun a8 =>
  dA (0<=min (b.h.length:Int) 40/\min (b.h.length:Int) 40<=(b.h.length:Int)) <|
  forL (List.take ((min (b.h.length:Int) 40).toNat) b.h) 0 (fun ap z s a2 aq =>
   match s with
   |(n,p,t,u) =>
    dA (0<=min (z.B.length:Int) 3000/\min (z.B.length:Int) 3000<=(z.B.length:Int)) <|
    call (Cv (ae.mk 1 (ab.mk z.a (List.take ((min (z.B.length:Int) 3000).toNat) z.B) z.C) (aa.mk [] []) (ai.mk [] [] false false)) n p t u) fun F =>
    a2 (F.1,F.2.1,F.2.2.1,F.2.2.2)) (List.take X.2.1 (List.drop X.1 X.2.2),[],[],[]) (fun s=>match s with
   |(n,p,t,u) =>
    a8 (n,p,t,u))) fun a9 =>
 forL b.y 0 (fun ar G v I au =>
  call (Aq G.k) fun Y =>
  callG Y (DE G.Value) false fun ac =>
  bif ((Y&&ac)&&(decide ((v.length:Int)<20)))then
   dA ((v++[G]).length<=274877906944) <|
   I (v++[G])
  else
  I v) [] (fun v =>
  a9 v)
def Gg(b:dy):Option Bool :=
 call (Ag b ([115,116,97,103,101]:dy)) fun c =>
 some c
def FY(j:ah):Option ah :=
 call (DF j) fun b =>
 jp (S:=(List (dy×ab))) (fun i =>
  call (CG b.2.2.2 i b.2.1 b.2.2.1) fun k =>
  some k) fun l =>
 dA ((List.map (fun p=>p.1) b.1).Nodup) <|
 forM (fun g c f n =>
  call (Gg g.1) fun m =>
  bif m then
   f (fC c g.1)
  else
  f c) b.1.length b.1 b.1 (fun c =>
  l c)
def zW(b:List ae):Option (List ae) :=
 ve (fun c:Bool=>c=true->b=[]) fun c =>
 bif c then
  some []
 else
 dA (([]++b).length<=274877906944) <|
 some ([]++b)
def B8(b:ae):Option dy :=
 jp (S:=Bool) (fun j =>
  bif j then
   dA ((([102,105,108,101,32]:dy)++b.i.a).length<=274877906944) <|
   some (([102,105,108,101,32]:dy)++b.i.a)
  else
  jp (S:=Bool) (fun c =>
   bif c then
    dA ((([115,101,116,116,105,110,103,32]:dy)++b.z.k).length<=274877906944) <|
    some (([115,101,116,116,105,110,103,32]:dy)++b.z.k)
   else
   dA ((([115,101,114,118,105,99,101,32]:dy)++b.q.w).length<=274877906944) <|
   some (([115,101,114,118,105,99,101,32]:dy)++b.q.w)) fun f =>
  bif decide (b.u=3)then
   f (decide (b.u=3))
  else
  f (decide (b.u=4))) fun g =>
 bif decide (b.u=1)then
  g (decide (b.u=1))
 else
 g (decide (b.u=2))
def GP(g:ah)(f:List ae):Option Int :=
 call (FX g) fun l =>
 bif !decide (l=0)then
  some l
 else
 call (DF g) fun D =>
 fj (zG D.1 ([115,116,97,103,101]:dy)) fun p =>
 bif p.isSome then
  some 11
 else
 jp (S:=Unit) (fun _ =>
  call (FY g) fun t =>
  call (FW t f) fun m =>
  bif !decide (m.2=0)then
   some m.2
  else
  bif decide ((f.length:Int)=0)then
   some 9
  else
  jp (S:=Unit) (fun _ =>
   some 0) fun v =>
  forL f 0 (fun E n c j F =>
   call (B8 n) fun w =>
   fj (zG c w) fun z =>
   bif (z.getD false)then
    some 6
   else
   call (B8 n) fun o =>
   dA ((dF c o true).length<=274877906944) <|
   j (dF c o true)) [] (fun c =>
   v ())) fun B =>
 forL f 0 (fun G b s k I =>
  callG (((decide (b.u=1))||(decide (b.u=2)))&&(!(decide (b.i.a=([115,116,97,103,101]:dy))))) (Gg b.i.a) false fun C =>
  bif (((decide (b.u=1))||(decide (b.u=2)))&&((decide (b.i.a=([115,116,97,103,101]:dy)))||C))then
   some 17
  else
  k ()) () (fun _ =>
  B ())
def Ib(m:ah)(c:List ae)(i:Bool):Option (List ae) :=
 bif i then
  some c
 else
 jp (S:=List ae) (fun k =>
  some k) fun n =>
 dA (0<=min (c.length:Int) 12/\min (c.length:Int) 12<=(c.length:Int)) <|
 forL (List.take ((min (c.length:Int) 12).toNat) c) 0 (fun o f b g p =>
  call (zW b) fun j =>
  dA ((j++[f]).length<=274877906944) <|
  call (GP m (j++[f])) fun l =>
  bif decide (l=0)then
   dA ((b++[f]).length<=274877906944) <|
   g (b++[f])
  else
  g b) [] (fun b =>
  n b)
def Ma(b:Int):Option Bool :=
 some ((decide (32<=b))&&(decide (b<=126)))
def LY(b:dy)(c:Int):Option Bool :=
 jp (S:=Unit) (fun _ =>
  some ((!decide (b=[]))&&(decide ((b.length:Int)<=c)))) fun g =>
 forL b 0 (fun k i s f l =>
  call (Ma (i.toNat:Int)) fun j =>
  bif !j then
   some false
  else
  f ()) () (fun _ =>
  g ())
def Gu(b:dy):Option Bool :=
 callG (!(decide (b=[]))) (LY b 1000) false fun c =>
 some ((decide (b=[]))||c)
def Mr(b:aa):Option Int :=
 call (ta b.k) fun c =>
 bif !c then
  some 5
 else
 call (Gu b.Value) fun f =>
 bif !f then
  some 2
 else
 some 0
def Iz(b:aa):Option Int :=
 call (Mr b) fun c =>
 some c
def s9(b:aa):Option dy :=
 some b.k
def Je(c:List aa):Option Int :=
 jp (S:=Unit) (fun _ =>
  some 0) fun m =>
 forL c 0 (fun b f s l n =>
  call (Iz f) fun g =>
  bif !decide (g=0)then
   some g
  else
  callG (decide (0<(b:Int))) (s9 f) [] fun i =>
  dA ((decide (0<(b:Int)))=true->(0<=IntKind.i64.wrap ((b:Int)-1)/\IntKind.i64.wrap ((b:Int)-1)<(c.length:Int))) <|
  callG (decide (0<(b:Int))) (s9 (aa.mk ((c.getD ((IntKind.i64.wrap ((b:Int)-1)).toNat) (aa.mk [] [])).k) ((c.getD ((IntKind.i64.wrap ((b:Int)-1)).toNat) (aa.mk [] [])).Value))) [] fun j =>
  bif ((decide (0<(b:Int)))&&(ls i j||decide (i=j)))then
   some 7
  else
  l ()) () (fun _ =>
  m ())
def L2(b:Int):Option Bool :=
 call (Ct b) fun c =>
 callG (!(c||((decide (65<=b))&&(decide (b<=90))))) (Gv b) false fun f =>
 some (((((c||((decide (65<=b))&&(decide (b<=90))))||f)||(decide (b=45)))||(decide (b=46)))||(decide (b=95)))
def LZ(b:dy)(c:Int):Option Bool :=
 jp (S:=Unit) (fun _ =>
  some ((!decide (b=[]))&&(decide ((b.length:Int)<=c)))) fun g =>
 forL b 0 (fun k i s f l =>
  call (L2 (i.toNat:Int)) fun j =>
  bif !j then
   some false
  else
  f ()) () (fun _ =>
  g ())
def H9(b:dy):Option Bool :=
 call (LZ b 40) fun c =>
 some ((c&&(!decide (b=([46]:dy))))&&(!decide (b=([46,46]:dy))))
def DI(b:dy):Option Bool :=
 jp (S:=Unit) (fun _ =>
  some (decide ((b.length:Int)<=200))) fun f =>
 call (DY b ([47]:dy)) fun g =>
 forL g 0 (fun k i s c l =>
  call (H9 i) fun j =>
  bif !j then
   some false
  else
  c ()) () (fun _ =>
  f ())
def CD(b:ab):Option Int :=
 call (DI b.a) fun c =>
 bif !c then
  some 5
 else
 bif decide (65536<(b.B.length:Int))then
  some 4
 else
 some 0
def IU(b:dy)(c:List (dy×Bool)):Option Bool :=
 fj (zG c b) fun f =>
 some (!(f.getD false))
def GA(b:dy)(g:List (dy×Bool)):Option Bool :=
 jp (S:=Unit) (fun _ =>
  some true) fun j =>
 forL b 0 (fun c f s i l =>
  dA ((decide ((f.toNat:Int)=47))=true->(0<=(c:Int)/\(c:Int)<=(b.length:Int))) <|
  callG (decide ((f.toNat:Int)=47)) (IU (List.take c b) g) false fun k =>
  bif ((decide ((f.toNat:Int)=47))&&(!k))then
   some false
  else
  i ()) () (fun _ =>
  j ())
def CI(b:aa):Option Int :=
 call (DI b.k) fun c =>
 bif !c then
  some 5
 else
 call (Gu b.Value) fun f =>
 bif !f then
  some 2
 else
 some 0
def Iq(b:aa):Option Int :=
 call (CI b) fun c =>
 some c
def G8(c:List aa):Option Int :=
 jp (S:=Unit) (fun _ =>
  some 0) fun m =>
 forL c 0 (fun b f s l n =>
  call (Iq f) fun g =>
  bif !decide (g=0)then
   some g
  else
  callG (decide (0<(b:Int))) (s9 f) [] fun i =>
  dA ((decide (0<(b:Int)))=true->(0<=IntKind.i64.wrap ((b:Int)-1)/\IntKind.i64.wrap ((b:Int)-1)<(c.length:Int))) <|
  callG (decide (0<(b:Int))) (s9 (aa.mk ((c.getD ((IntKind.i64.wrap ((b:Int)-1)).toNat) (aa.mk [] [])).k) ((c.getD ((IntKind.i64.wrap ((b:Int)-1)).toNat) (aa.mk [] [])).Value))) [] fun j =>
  bif ((decide (0<(b:Int)))&&(ls i j||decide (i=j)))then
   some 7
  else
  l ()) () (fun _ =>
  m ())
def GW(b:ai):Option Int :=
 call (ta b.w) fun c =>
 callG (!(!c)) (DI b.a) false fun f =>
 bif ((!c)||(!f))then
  some 5
 else
 some 0
def yV(b:ai):Option dy :=
 some b.w
def G7(c:List ai):Option Int :=
 jp (S:=Unit) (fun _ =>
  some 0) fun l =>
 forL c 0 (fun b f s k m =>
  call (GW f) fun g =>
  bif !decide (g=0)then
   some g
  else
  callG (decide (0<(b:Int))) (yV f) [] fun i =>
  dA ((decide (0<(b:Int)))=true->(0<=IntKind.i64.wrap ((b:Int)-1)/\IntKind.i64.wrap ((b:Int)-1)<(c.length:Int))) <|
  callG (decide (0<(b:Int))) (yV (ai.mk ((c.getD ((IntKind.i64.wrap ((b:Int)-1)).toNat) (ai.mk [] [] false false)).w) ((c.getD ((IntKind.i64.wrap ((b:Int)-1)).toNat) (ai.mk [] [] false false)).a) ((c.getD ((IntKind.i64.wrap ((b:Int)-1)).toNat) (ai.mk [] [] false false)).D) ((c.getD ((IntKind.i64.wrap ((b:Int)-1)).toNat) (ai.mk [] [] false false)).E))) [] fun j =>
  bif ((decide (0<(b:Int)))&&(ls i j||decide (i=j)))then
   some 7
  else
  k ()) () (fun _ =>
  l ())
def DJ(c:ah):Option Int :=
 bif ((((decide (100<(c.y.length:Int)))||(decide (2000<(c.h.length:Int))))||(decide (2000<(c.r.length:Int))))||(decide (100<(c.o.length:Int))))then
  some 4
 else
 call (Je c.y) fun j =>
 bif !decide (j=0)then
  some j
 else
 jp (S:=Unit) (fun _ =>
  call (G8 c.r) fun k =>
  bif !decide (k=0)then
   some k
  else
  call (G7 c.o) fun p =>
  some p) fun t =>
 forL c.h 0 (fun m f s i u =>
  match s with
  |(b,g) =>
   call (CD f) fun l =>
   bif !decide (l=0)then
    some l
   else
   bif ((decide (0<(m:Int)))&&(ls f.a b||decide (f.a=b)))then
    some 7
   else
   call (GA f.a g) fun n =>
   bif !n then
    some 11
   else
   dA ((dF g f.a true).length<=274877906944) <|
   i (f.a,dF g f.a true)) ([],[]) (fun s=>match s with
  |(b,g) =>
   t ())
def Ms(b:ab):Option Bool :=
 some (decide (b.a=([115,116,97,103,101]:dy)))
def MD(c:List ab):Option Int :=
 jp (S:=Unit) (fun _ =>
  some (-1)) fun f =>
 forL c 0 (fun g i s b k =>
  call (Ms i) fun j =>
  bif j then
   some (g:Int)
  else
  b ()) () (fun _ =>
  f ())
def zQ(b:List ab):Option Bool :=
 call (MD b) fun c =>
 some (decide (0<=c))
def AF(b:ae):Option am :=
 jp (S:=Bool) (fun j =>
  bif j then
   some (am.mk 1 b.i.a)
  else
  jp (S:=Bool) (fun c =>
   bif c then
    some (am.mk 2 b.z.k)
   else
   some (am.mk 3 b.q.w)) fun f =>
  bif decide (b.u=3)then
   f (decide (b.u=3))
  else
  f (decide (b.u=4))) fun g =>
 bif decide (b.u=1)then
  g (decide (b.u=1))
 else
 g (decide (b.u=2))
def OR(c:dy)(b:dy):Option Bool :=
 dA ((b++([47]:dy)).length<=274877906944) <|
 call (I2 c (b++([47]:dy))) fun f =>
 some f
def AE(b:dy):Option Bool :=
 call (OR b ([115,116,97,103,101]:dy)) fun c =>
 some c
def zp(b:List aa):Option (List aa) :=
 ve (fun c:Bool=>c=true->b=[]) fun c =>
 bif c then
  some []
 else
 dA (([]++b).length<=274877906944) <|
 some ([]++b)
def Ja(b:List ab):Option (List ab) :=
 ve (fun c:Bool=>c=true->b=[]) fun c =>
 bif c then
  some []
 else
 dA (([]++b).length<=274877906944) <|
 some ([]++b)
def zu(b:List ai):Option (List ai) :=
 ve (fun c:Bool=>c=true->b=[]) fun c =>
 bif c then
  some []
 else
 dA (([]++b).length<=274877906944) <|
 some ([]++b)
def CC(b:ah):Option (List aa×List ab×List aa×List ai×List aa×List ab×List aa×List ai) :=
 call (zp b.y) fun c =>
 call (Ja b.h) fun f =>
 call (zp b.r) fun g =>
 call (zu b.o) fun i =>
 some (b.y,b.h,b.r,b.o,c,f,g,i)
def Cu(b:ab):Option Bool :=
 call (AE b.a) fun c =>
 some c
def z7(c:List ab):Option Int :=
 jp (S:=Unit) (fun _ =>
  some (-1)) fun g =>
 loopN eV (fun b f i =>
  bif decide (b<((List.take c.length c).length:Int))then
   dA (0<=b/\b<(c.length:Int)) <|
   call (Cu (ab.mk ((c.getD (b.toNat:Nat) (ab.mk [] [] false)).a) ((c.getD (b.toNat:Nat) (ab.mk [] [] false)).B) ((c.getD (b.toNat:Nat) (ab.mk [] [] false)).C))) fun j =>
   bif j then
    some b
   else
   f (IntKind.i64.wrap (b+1))
  else
  i b) 0 (fun b =>
  g ())
def zV(c:List ab):Option (Nat×Nat×List ab) :=
 call (z7 c) fun j =>
 bif decide (j=(-1))then
  some (0,c.length,c)
 else
 jp (S:=Int×List ab) (fun s=>match s with
  |(g,k) =>
   dA (0<=g/\g<=(c.length:Int)) <|
   dA (0<=g/\g<=(c.length:Int)) <|
   some (0,g.toNat,List.take g.toNat k++List.replicate (c.length-g.toNat) (ab.mk [] [] false)++List.drop (g.toNat+(c.length-g.toNat)) k)) fun o =>
 loopN eV (fun s l m =>
  match s with
  |(i,f,b) =>
   bif decide (f<((List.take c.length b).length:Int))then
    dA (0<=f/\f<(c.length:Int)) <|
    dA (f.toNat<b.length) <|
    call (Cu (ab.mk ((b.getD (f.toNat:Nat) (ab.mk [] [] false)).a) ((b.getD (f.toNat:Nat) (ab.mk [] [] false)).B) ((b.getD (f.toNat:Nat) (ab.mk [] [] false)).C))) fun n =>
    bif !n then
     dA (0<=i/\i<(c.length:Int)) <|
     dA (i.toNat<b.length) <|
     l (IntKind.i64.wrap (i+1),IntKind.i64.wrap (f+1),List.set b (i.toNat:Nat) (ab.mk ((b.getD (f.toNat:Nat) (ab.mk [] [] false)).a) ((b.getD (f.toNat:Nat) (ab.mk [] [] false)).B) ((b.getD (f.toNat:Nat) (ab.mk [] [] false)).C)))
    else
    l (i,IntKind.i64.wrap (f+1),b)
   else
   m (i,f,b)) (j,IntKind.i64.wrap (j+1),c) (fun s=>match s with
  |(i,f,b) =>
   o (i,b))
def Gr(f:ah):Option ah :=
 call (CC f) fun b =>
 call (zV b.2.2.2.2.2.1) fun c =>
 some (ah.mk b.2.2.2.2.1 (List.take c.2.1 (List.drop c.1 c.2.2)) b.2.2.2.2.2.2.1 b.2.2.2.2.2.2.2)
def I3(b:dy)(i:List aa)(j:List (dy×ab))(f:List (dy×Int))(k:List (dy×aa))(l:List (dy×ai))(c:Int):Option (Bool×(List (dy×Int))) :=
 fj (zG f b) fun g =>
 dA ((dF f b (IntKind.i64.wrap ((g.getD 0)+c))).length<=274877906944) <|
 some (true,dF f b (IntKind.i64.wrap ((g.getD 0)+c)))
def Mb(b:dy)(g:List aa)(o:List (dy×ab))(p:List (dy×Int))(t:List (dy×aa))(l:List (dy×ai))(f:Int):Option (Bool×(List (dy×Int))) :=
 jp (S:=(List (dy×Int))) (fun m =>
  some (true,m)) fun u =>
 forL b 0 (fun i j c n v =>
  dA ((decide ((j.toNat:Int)=47))=true->(0<=(i:Int)/\(i:Int)<=(b.length:Int))) <|
  callG (decide ((j.toNat:Int)=47)) (I3 (List.take i b) g o c t l f) (false,c) fun k =>
  bif ((decide ((j.toNat:Int)=47))&&(!k.1))then
   some (false,k.2)
  else
  n k.2) p (fun c =>
  u c)
def GV(b:dy)(k:Int)(c:List aa)(f:List (dy×ab))(g:List (dy×Int))(i:List (dy×aa))(j:List (dy×ai)):Option ((List (dy×Int))) :=
 call (Mb b c f g i j k) fun l =>
 some l.2
def AG(b:ab)(f:List aa)(c:List (dy×ab))(g:List (dy×Int))(i:List (dy×aa))(j:List (dy×ai)):Option ((List (dy×ab))×(List (dy×Int))) :=
 fj (zG c b.a) fun k =>
 bif !k.isSome then
  call (GV b.a 1 f c g i j) fun l =>
  dA ((dF c b.a b).length<=274877906944) <|
  some (dF c b.a b,l)
 else
 dA ((dF c b.a b).length<=274877906944) <|
 some (dF c b.a b,g)
def DU(i:ah):Option ((List (dy×ab))×(List (dy×Int))×(List (dy×aa))×(List (dy×ai))×List aa) :=
 call (zy i.y) fun B =>
 jp (S:=(List (dy×ab))×(List (dy×Int))) (fun s=>match s with
  |(m,n) =>
   jp (S:=(List (dy×aa))) (fun p =>
    jp (S:=(List (dy×ai))) (fun t =>
     some (m,n,p,t,B)) fun D =>
    forL i.o 0 (fun I j b u J =>
     dA ((dF b j.w j).length<=274877906944) <|
     u (dF b j.w j)) [] (fun b =>
     D b)) fun E =>
   forL i.r 0 (fun L l c v M =>
    dA ((dF c l.k l).length<=274877906944) <|
    v (dF c l.k l)) [] (fun c =>
    E c)) fun F =>
 forL i.h 0 (fun N G s z O =>
  match s with
  |(f,g) =>
   call (AG G B f g [] []) fun C =>
   z (C.1,C.2)) ([],[]) (fun s=>match s with
  |(f,g) =>
   F (f,g))
def D2(b:ae):Option Int :=
 jp (S:=Int×dy×dy×Bool×dy×dy×dy×dy×Bool×Bool) (fun s=>match s with
  |(v,l,m,n,o,p,t,f,g,j) =>
   bif ((decide (v=0))&&(!((decide (b.u=b.u))&&((decide (b.i.a=l))&&((decide (b.i.B=m))&&((decide (b.i.C=n))&&((decide (b.z.k=o))&&((decide (b.z.Value=p))&&((decide (b.q.w=t))&&((decide (b.q.a=f))&&((decide (b.q.D=g))&&(decide (b.q.E=j)))))))))))))then
    some 2
   else
   some v) fun c =>
 bif decide (b.u=1)then
  call (CD b.i) fun F =>
  c (F,b.i.a,b.i.B,b.i.C,[],[],[],[],false,false)
 else
 bif decide (b.u=2)then
  call (CD (ab.mk b.i.a [] false)) fun G =>
  c (G,b.i.a,[],false,[],[],[],[],false,false)
 else
 bif decide (b.u=3)then
  call (CI b.z) fun I =>
  c (I,[],[],false,b.z.k,b.z.Value,[],[],false,false)
 else
 bif decide (b.u=4)then
  call (CI (aa.mk b.z.k [])) fun J =>
  c (J,[],[],false,b.z.k,[],[],[],false,false)
 else
 bif decide (b.u=5)then
  call (GW b.q) fun L =>
  c (L,[],[],false,[],[],b.q.w,b.q.a,b.q.D,b.q.E)
 else
 bif decide (b.u=6)then
  call (ta b.q.w) fun M =>
  bif !M then
   c (5,[],[],false,[],[],b.q.w,[],false,false)
  else
  c (0,[],[],false,[],[],b.q.w,[],false,false)
 else
 some 1
def Jf(b:dy)(f:List aa)(c:List (dy×ab))(i:List (dy×Int))(j:List (dy×aa))(k:List (dy×ai)):Option Bool :=
 fj (zG c b) fun g =>
 some (!g.isSome)
def IF(b:dy)(c:List aa)(j:List (dy×ab))(k:List (dy×Int))(l:List (dy×aa))(m:List (dy×ai)):Option Bool :=
 jp (S:=Unit) (fun _ =>
  some true) fun o =>
 forL b 0 (fun f g s i p =>
  dA ((decide ((g.toNat:Int)=47))=true->(0<=(f:Int)/\(f:Int)<=(b.length:Int))) <|
  callG (decide ((g.toNat:Int)=47)) (Jf (List.take f b) c j k l m) false fun n =>
  bif ((decide ((g.toNat:Int)=47))&&(!n))then
   some false
  else
  i ()) () (fun _ =>
  o ())
def I4(b:dy)(c:List aa)(g:List (dy×ab))(f:List (dy×Int))(i:List (dy×aa))(j:List (dy×ai)):Option Bool :=
 call (IF b c g f i j) fun k =>
 fj (zG f b) fun l =>
 some ((!k)||(decide (0<(l.getD 0))))
def Hc(b:dy)(c:List (dy×ab)):Option Bool :=
 fj (zG c b) fun f =>
 some (!f.isSome)
def G6(b:dy)(c:List (dy×aa)):Option Bool :=
 fj (zG c b) fun f =>
 some (!f.isSome)
def G5(b:dy)(c:List (dy×ai)):Option Bool :=
 fj (zG c b) fun f =>
 some (!f.isSome)
def D6(b:ae)(m:List aa)(f:List (dy×ab))(p:List (dy×Int))(g:List (dy×aa))(j:List (dy×ai)):Option Int :=
 jp (S:=Bool×Int×Int) (fun s=>match s with
  |(n,o,l) =>
   bif n then
    some 10
   else
   bif decide (l<o)then
    some 4
   else
   some 0) fun c =>
 bif decide (b.u=1)then
  call (I4 b.i.a m f p g j) fun t =>
  bif t then
   some 11
  else
  call (Hc b.i.a f) fun v =>
  bif v then
   c (false,IntKind.i64.wrap ((f.length:Int)+1),2000)
  else
  c (false,0,1)
 else
 bif decide (b.u=2)then
  call (Hc b.i.a f) fun B =>
  c (B,0,1)
 else
 bif decide (b.u=3)then
  call (G6 b.z.k g) fun C =>
  bif C then
   c (false,IntKind.i64.wrap ((g.length:Int)+1),2000)
  else
  c (false,0,1)
 else
 bif decide (b.u=4)then
  call (G6 b.z.k g) fun D =>
  c (D,0,1)
 else
 bif decide (b.u=5)then
  call (G5 b.q.w j) fun E =>
  bif E then
   c (false,IntKind.i64.wrap ((j.length:Int)+1),100)
  else
  c (false,0,1)
 else
 bif decide (b.u=6)then
  call (G5 b.q.w j) fun F =>
  c (F,0,1)
 else
 c (false,0,1)
def I6(b:dy)(c:List aa)(f:List (dy×ab))(g:List (dy×Int))(i:List (dy×aa))(j:List (dy×ai)):Option ((List (dy×ab))×(List (dy×Int))) :=
 call (GV b (-1) c (fC f b) g i j) fun k =>
 some (fC f b,k)
def D3(b:ae)(l:List aa)(g:List (dy×ab))(j:List (dy×Int))(c:List (dy×aa))(f:List (dy×ai)):Option (Int×(List (dy×ab))×(List (dy×Int))×(List (dy×aa))×(List (dy×ai))) :=
 call (D2 b) fun n =>
 bif !decide (n=0)then
  some (n,g,j,c,f)
 else
 call (D6 b l g j c f) fun o =>
 bif !decide (o=0)then
  some (o,g,j,c,f)
 else
 bif decide (b.u=1)then
  call (AG b.i l g j c f) fun p =>
  some (0,p.1,p.2,c,f)
 else
 bif decide (b.u=2)then
  call (I6 b.i.a l g j c f) fun m =>
  some (0,m.1,m.2,c,f)
 else
 bif decide (b.u=3)then
  dA ((dF c b.z.k b.z).length<=274877906944) <|
  some (0,g,j,dF c b.z.k b.z,f)
 else
 bif decide (b.u=4)then
  some (0,g,j,fC c b.z.k,f)
 else
 bif decide (b.u=5)then
  dA ((dF f b.q.w b.q).length<=274877906944) <|
  some (0,g,j,c,dF f b.q.w b.q)
 else
 bif decide (b.u=6)then
  some (0,g,j,c,fC f b.q.w)
 else
 some (0,g,j,c,f)
def zO(b:List (dy×ab)):Option Unit :=
 some ()
def R4(m1:List (dy×ab)):Option (List dy):=some (sortS (m1.map (·.1)))
def My(c:List (dy×ab)):Option (List ab) :=
 jp (S:=List ab) (fun g =>
  some g) fun j =>
 call (zO c) fun o =>
 call (R4 c) fun k =>
 forL k 0 (fun m l b i n =>
  fj (zG c l) fun f =>
  dA ((b++[(f.getD (ab.mk [] [] false))]).length<=274877906944) <|
  i (b++[(f.getD (ab.mk [] [] false))])) [] (fun b =>
  j b)
def zC(b:List (dy×aa)):Option Unit :=
 some ()
def R5(m1:List (dy×aa)):Option (List dy):=some (sortS (m1.map (·.1)))
def Mw(c:List (dy×aa)):Option (List aa) :=
 jp (S:=List aa) (fun g =>
  some g) fun j =>
 call (zC c) fun o =>
 call (R5 c) fun k =>
 forL k 0 (fun m l b i n =>
  fj (zG c l) fun f =>
  dA ((b++[(f.getD (aa.mk [] []))]).length<=274877906944) <|
  i (b++[(f.getD (aa.mk [] []))])) [] (fun b =>
  j b)
def zD(b:List (dy×ai)):Option Unit :=
 some ()
def R6(m1:List (dy×ai)):Option (List dy):=some (sortS (m1.map (·.1)))
def Mv(c:List (dy×ai)):Option (List ai) :=
 jp (S:=List ai) (fun g =>
  some g) fun j =>
 call (zD c) fun o =>
 call (R6 c) fun k =>
 forL k 0 (fun m l b i n =>
  fj (zG c l) fun f =>
  dA ((b++[(f.getD (ai.mk [] [] false false))]).length<=274877906944) <|
  i (b++[(f.getD (ai.mk [] [] false false))])) [] (fun b =>
  j b)
def CE(b:List aa)(c:List (dy×ab))(m:List (dy×Int))(f:List (dy×aa))(g:List (dy×ai)):Option ah :=
 call (zy b) fun i =>
 call (My c) fun j =>
 call (Mw f) fun k =>
 call (Mv g) fun l =>
 some (ah.mk i j k l)
def H0(v:ah)(w:List ae):Option (ah×Int) :=
 call (DU v) fun b =>
 jp (S:=(List (dy×ab))×(List (dy×Int))×(List (dy×aa))×(List (dy×ai))) (fun s=>match s with
  |(o,k,l,m) =>
   call (CE b.2.2.2.2 o k l m) fun p =>
   some (p,0)) fun t =>
 forL w 0 (fun z u s n B =>
  match s with
  |(f,g,i,j) =>
   call (D3 u b.2.2.2.2 f g i j) fun c =>
   bif !decide (c.1=0)then
    some ((ah.mk [] [] [] []),c.1)
   else
   n (c.2.1,c.2.2.1,c.2.2.2.1,c.2.2.2.2)) (b.1,b.2.1,b.2.2.1,b.2.2.2.1) (fun s=>match s with
  |(f,g,i,j) =>
   t (f,g,i,j))
def Ax(b:ah)(g:List ae):Option (ah×Int) :=
 call (DJ b) fun c =>
 bif !decide (c=0)then
  some ((ah.mk [] [] [] []),c)
 else
 call (H0 b g) fun f =>
 some (f.1,f.2)
def IX(g:ah)(f:List ae):Option Int :=
 call (DJ g) fun k =>
 bif !decide (k=0)then
  some k
 else
 call (zQ g.h) fun B =>
 bif B then
  some 11
 else
 jp (S:=Unit) (fun _ =>
  call (Gr g) fun o =>
  call (Ax o f) fun l =>
  bif !decide (l.2=0)then
   some l.2
  else
  bif decide ((f.length:Int)=0)then
   some 9
  else
  jp (S:=Unit) (fun _ =>
   some 0) fun p =>
  forL f 0 (fun C m b i D =>
   call (AF m) fun t =>
   fj (zG b t) fun u =>
   bif (u.getD false)then
    some 6
   else
   call (AF m) fun n =>
   dA ((dF b n true).length<=274877906944) <|
   i (dF b n true)) [] (fun b =>
   p ())) fun v =>
 forL f 0 (fun E w s j F =>
  call (AF w) fun c =>
  callG ((decide (c.kind=1))&&(!(decide (c.name=([115,116,97,103,101]:dy))))) (AE c.name) false fun z =>
  bif ((decide (c.kind=1))&&((decide (c.name=([115,116,97,103,101]:dy)))||z))then
   some 17
  else
  j ()) () (fun _ =>
  v ())
def GX(c:ab)(b:dy):Option Bool :=
 some (decide (c.a=b))
def ME(c:List ab)(f:dy):Option Int :=
 jp (S:=Unit) (fun _ =>
  some (-1)) fun g =>
 forL c 0 (fun i j s b l =>
  call (GX j f) fun k =>
  bif k then
   some (i:Int)
  else
  b ()) () (fun _ =>
  g ())
def DT(c:ah)(b:dy):Option (ab×Bool) :=
 call (ME c.h b) fun f =>
 bif decide (f<0)then
  some ((ab.mk [] [] false),false)
 else
 eB c.h f fun g =>
 some (g,true)
def GU(c:dy)(b:dy):Option (List dy) :=
 call (CB c b (b.length:Int) (-1)) fun f =>
 some f
def MH(c:dy)(b:dy):Option (dy×Bool) :=
 call (G9 c b) fun f =>
 bif !f then
  some (c,false)
 else
 dA (0<=(b.length:Int)/\(b.length:Int)<=(c.length:Int)) <|
 some (List.drop b.length c,true)
def I0(f:dy)(b:dy):Option (dy×Bool) :=
 call (MH f b) fun c =>
 some (c.1,c.2)
def MJ(c:dy)(b:dy):Option Bool :=
 dA ((decide ((b.length:Int)<=(c.length:Int)))=true->(0<=IntKind.i64.wrap ((c.length:Int)-(b.length:Int))/\IntKind.i64.wrap ((c.length:Int)-(b.length:Int))<=(c.length:Int))) <|
 some ((decide ((b.length:Int)<=(c.length:Int)))&&(decide ((List.drop ((IntKind.i64.wrap ((c.length:Int)-(b.length:Int))).toNat) c)=b)))
def MI(c:dy)(b:dy):Option (dy×Bool) :=
 call (MJ c b) fun f =>
 bif !f then
  some (c,false)
 else
 dA (0<=IntKind.i64.wrap ((c.length:Int)-(b.length:Int))/\IntKind.i64.wrap ((c.length:Int)-(b.length:Int))<=(c.length:Int)) <|
 some (List.take ((IntKind.i64.wrap ((c.length:Int)-(b.length:Int))).toNat) c,true)
def I1(f:dy)(b:dy):Option (dy×Bool) :=
 call (MI f b) fun c =>
 some (c.1,c.2)
def zI(c:dy)(b:List dy)(f:Bool):Option (dy×Bool×List dy) :=
 bif (f||(decide ((b.length:Int)=0)))then
  some ([],true,b)
 else
 eB b 0 fun j =>
 dA ((c++([32]:dy)).length<=274877906944) <|
 call (I0 j (c++([32]:dy))) fun g =>
 call (I1 g.1 ([10]:dy)) fun i =>
 dA (0<=1/\1<=(b.length:Int)) <|
 some (i.1,((!g.2)||(!i.2)),List.drop 1 b)
def OI(s:dy):Option (Int×Bool):=some (ia s,atoiE s)
def Iw(b:dy):Option (Int×Bool) :=
 dA ((!((decide (b=[]))||(decide (9<(b.length:Int)))))=true->(0<=0/\0<(b.length:Int))) <|
 bif (((decide (b=[]))||(decide (9<(b.length:Int))))||((decide (((b.getD 0 0).toNat:Int)=48))&&(!decide (b=([48]:dy)))))then
  some (0,false)
 else
 jp (S:=Unit) (fun _ =>
  call (OI b) fun c =>
  some (c.1,c.2)) fun i =>
 forL b 0 (fun j f s g k =>
  bif ((decide ((f.toNat:Int)<48))||(decide (57<(f.toNat:Int))))then
   some (0,false)
  else
  g ()) () (fun _ =>
  i ())
def Mu(n:Int)(o0:dy):Option Unit:=dA (0<=n/\n<=274877906944) <| some ()
def Sb(b:dy):Option Unit :=
 some ()
def Sc(b:dy):Option Unit :=
 some ()
def Pk(o0:dy):Option Unit:=some ()
def zi(c:dy)(b:dy):Option (Int×dy) :=
 call (Pk b) fun f =>
 dA ((b++c).length<=274877906944) <|
 some ((c.length:Int),b++c)
def CF(b:dy):Option dy :=
 some b
def GF(b:List dy)(c:dy):Option dy :=
 bif decide ((b.length:Int)=0)then
  some []
 else
 bif decide ((b.length:Int)=1)then
  eB b 0 fun B =>
  some B
 else
 jp (S:=Int) (fun C =>
  jp (S:=Int) (fun D =>
   call (Mu D []) fun E =>
   eB b 0 fun n =>
   call (zi n []) fun o =>
   jp (S:=dy) (fun i =>
    call (CF i) fun p =>
    some p) fun t =>
   dA (0<=1/\1<=(b.length:Int)) <|
   forL (List.drop 1 b) 0 (fun F u f j G =>
    call (zi c f) fun v =>
    call (zi u v.2) fun w =>
    j w.2) o.2 (fun f =>
    t f)) fun z =>
  forL b 0 (fun I l g k J =>
   bif decide ((IntKind.i64.wrap (9223372036854775807-g))<(l.length:Int))then
    none
   else
   k (IntKind.i64.wrap (g+(l.length:Int)))) C (fun g =>
   z g)) fun m =>
 bif decide (0<(c.length:Int))then
  dA (¬ (IntKind.i64.wrap ((b.length:Int)-1))=0) <|
  bif decide ((IntKind.i64.wrap (Int.tdiv 9223372036854775807 (IntKind.i64.wrap ((b.length:Int)-1))))<=(c.length:Int))then
   none
  else
  m (IntKind.i64.wrap (0+(IntKind.i64.wrap ((c.length:Int)*(IntKind.i64.wrap ((b.length:Int)-1))))))
 else
 m 0
def Mz(f:dy)(b:dy):Option (dy×dy×Bool) :=
 call (G4 f b) fun c =>
 bif decide (0<=c)then
  dA (0<=c/\c<=(f.length:Int)) <|
  dA (0<=IntKind.i64.wrap (c+(b.length:Int))/\IntKind.i64.wrap (c+(b.length:Int))<=(f.length:Int)) <|
  some (List.take c.toNat f,List.drop ((IntKind.i64.wrap (c+(b.length:Int))).toNat) f,true)
 else
 some (f,[],false)
def Cs(f:dy)(c:dy):Option (dy×dy×Bool) :=
 call (Mz f c) fun b =>
 some (b.1,b.2.1,b.2.2)
def GY(b:dy)(c:Int):Option Int :=
 call (Ha b c) fun f =>
 some f
def Ih(b:dy):Option (Int×Int) :=
 bif decide (b=[])then
  some (0,0)
 else
 ig b 0 fun c =>
 bif ((decide (c=92))||(decide (c=34)))then
  some (c,1)
 else
 bif decide (c=110)then
  some (10,1)
 else
 bif ((!decide (c=120))||(decide ((b.length:Int)<3)))then
  some (0,0)
 else
 ig b 1 fun i =>
 call (GY ([48,49,50,51,52,53,54,55,56,57,97,98,99,100,101,102]:dy) i) fun f =>
 ig b 2 fun j =>
 call (GY ([48,49,50,51,52,53,54,55,56,57,97,98,99,100,101,102]:dy) j) fun g =>
 bif ((decide (f<0))||(decide (g<0)))then
  some (0,0)
 else
 bif (((decide (32<=(IntKind.u8.wrap (IntKind.i64.wrap ((IntKind.i64.wrap (16*f))+g)))))&&(decide ((IntKind.u8.wrap (IntKind.i64.wrap ((IntKind.i64.wrap (16*f))+g)))<=126)))||(decide ((IntKind.u8.wrap (IntKind.i64.wrap ((IntKind.i64.wrap (16*f))+g)))=10)))then
  some (0,0)
 else
 some (IntKind.u8.wrap (IntKind.i64.wrap ((IntKind.i64.wrap (16*f))+g)),3)
def GG(b:dy):Option (dy×Int) :=
 dA ((!(decide ((b.length:Int)<2)))=true->(0<=0/\0<(b.length:Int))) <|
 dA ((!((decide ((b.length:Int)<2))||(!decide (((b.getD 0 0).toNat:Int)=34))))=true->(0<=IntKind.i64.wrap ((b.length:Int)-1)/\IntKind.i64.wrap ((b.length:Int)-1)<(b.length:Int))) <|
 bif (((decide ((b.length:Int)<2))||(!decide (((b.getD 0 0).toNat:Int)=34)))||(!decide (((b.getD ((IntKind.i64.wrap ((b.length:Int)-1)).toNat) 0).toNat:Int)=34)))then
  some ([],8)
 else
 dA (0<=1/\1<=(b.length:Int)/\0<=IntKind.i64.wrap ((b.length:Int)-1)/\IntKind.i64.wrap ((b.length:Int)-1)<=(b.length:Int)/\1<=IntKind.i64.wrap ((b.length:Int)-1)) <|
 dA (0<=0/\0<=((List.take ((IntKind.i64.wrap ((b.length:Int)-1)).toNat-1) (List.drop 1 b)).length:Int)/\((List.take ((IntKind.i64.wrap ((b.length:Int)-1)).toNat-1) (List.drop 1 b)).length:Int)<=274877906944) <|
 jp (S:=List Int) (fun k =>
  some (Go.Vc.strOf k,0)) fun l =>
 loopN eV (fun s j m =>
  match s with
  |(f,c) =>
   bif decide (f<((List.take ((IntKind.i64.wrap ((b.length:Int)-1)).toNat-1) (List.drop 1 b)).length:Int))then
    ig (List.take ((IntKind.i64.wrap ((b.length:Int)-1)).toNat-1) (List.drop 1 b)) f fun g =>
    bif (((decide (g<32))||(decide (126<g)))||(decide (g=34)))then
     some ([],8)
    else
    bif decide (g=92)then
     dA (0<=IntKind.i64.wrap (f+1)/\IntKind.i64.wrap (f+1)<=((List.take ((IntKind.i64.wrap ((b.length:Int)-1)).toNat-1) (List.drop 1 b)).length:Int)) <|
     call (Ih (List.drop ((IntKind.i64.wrap (f+1)).toNat) (List.take ((IntKind.i64.wrap ((b.length:Int)-1)).toNat-1) (List.drop 1 b)))) fun i =>
     bif decide (i.2=0)then
      some ([],8)
     else
     dA ((c++[i.1]).length<=274877906944) <|
     j (IntKind.i64.wrap ((IntKind.i64.wrap (f+i.2))+1),c++[i.1])
    else
    dA ((c++[g]).length<=274877906944) <|
    j (IntKind.i64.wrap (f+1),c++[g])
   else
   m (f,c)) (0,List.replicate 0 0) (fun s=>match s with
  |(f,c) =>
   l c)
def H3(b:dy):Option Bool :=
 some ((decide (b=([48]:dy)))||(decide (b=([49]:dy))))
def GB(v:dy):Option (al×Bool) :=
 call (Cs v ([32]:dy)) fun b =>
 call (Cs b.2.1 ([32]:dy)) fun c =>
 bif ((!b.2.2)||(decide (c.1=[])))then
  some ((al.mk [] (ab.mk [] [] false) (aa.mk [] []) (ai.mk [] [] false false)),false)
 else
 jp (S:=Bool) (fun i =>
  bif i then
   call (GG c.2.1) fun l =>
   some ((al.mk b.1 (ab.mk [] [] false) (aa.mk c.1 l.1) (ai.mk [] [] false false)),(c.2.2&&(decide (l.2=0))))
  else
  jp (S:=Bool) (fun j =>
   bif j then
    call (GG c.2.1) fun m =>
    some ((al.mk b.1 (ab.mk c.1 m.1 ((decide (b.1=([114,117,110]:dy)))||(decide (b.1=([112,117,116,114,117,110]:dy))))) (aa.mk [] []) (ai.mk [] [] false false)),(c.2.2&&(decide (m.2=0))))
   else
   bif decide (b.1=([115,101,114,118,105,99,101]:dy))then
    call (DY c.2.1 ([32]:dy)) fun f =>
    dA ((!((!c.2.2)||(!decide ((f.length:Int)=3))))=true->(0<=0/\0<(f.length:Int))) <|
    dA ((!(((!c.2.2)||(!decide ((f.length:Int)=3)))||(decide ((f.getD 0 [])=[]))))=true->(0<=1/\1<(f.length:Int))) <|
    callG (!(((!c.2.2)||(!decide ((f.length:Int)=3)))||(decide ((f.getD 0 [])=[])))) (H3 (f.getD 1 [])) false fun k =>
    dA ((!((((!c.2.2)||(!decide ((f.length:Int)=3)))||(decide ((f.getD 0 [])=[])))||(!k)))=true->(0<=2/\2<(f.length:Int))) <|
    callG (!((((!c.2.2)||(!decide ((f.length:Int)=3)))||(decide ((f.getD 0 [])=[])))||(!k))) (H3 (f.getD 2 [])) false fun o =>
    bif (((((!c.2.2)||(!decide ((f.length:Int)=3)))||(decide ((f.getD 0 [])=[])))||(!k))||(!o))then
     some ((al.mk [] (ab.mk [] [] false) (aa.mk [] []) (ai.mk [] [] false false)),false)
    else
    eB f 0 fun p =>
    eB f 1 fun t =>
    eB f 2 fun u =>
    some ((al.mk b.1 (ab.mk [] [] false) (aa.mk [] []) (ai.mk c.1 p (decide (t=([49]:dy))) (decide (u=([49]:dy))))),true)
   else
   bif decide (b.1=([114,101,109,111,118,101]:dy))then
    some ((al.mk b.1 (ab.mk c.1 [] false) (aa.mk [] []) (ai.mk [] [] false false)),!c.2.2)
   else
   bif decide (b.1=([117,110,115,101,116]:dy))then
    some ((al.mk b.1 (ab.mk [] [] false) (aa.mk c.1 []) (ai.mk [] [] false false)),!c.2.2)
   else
   bif decide (b.1=([100,114,111,112]:dy))then
    some ((al.mk b.1 (ab.mk [] [] false) (aa.mk [] []) (ai.mk c.1 [] false false)),!c.2.2)
   else
   some ((al.mk b.1 (ab.mk [] [] false) (aa.mk [] []) (ai.mk [] [] false false)),!c.2.2)) fun g =>
  bif decide (b.1=([102,105,108,101]:dy))then
   g (decide (b.1=([102,105,108,101]:dy)))
  else
  bif decide (b.1=([114,117,110]:dy))then
   g (decide (b.1=([114,117,110]:dy)))
  else
  bif decide (b.1=([112,117,116]:dy))then
   g (decide (b.1=([112,117,116]:dy)))
  else
  g (decide (b.1=([112,117,116,114,117,110]:dy)))) fun n =>
 bif decide (b.1=([102,97,99,116]:dy))then
  n (decide (b.1=([102,97,99,116]:dy)))
 else
 n (decide (b.1=([115,101,116]:dy)))
def IW(b:dy):Option Int :=
 jp (S:=Bool) (fun f =>
  bif f then
   some 1
  else
  bif decide (b=([114,101,109,111,118,101]:dy))then
   some 2
  else
  bif decide (b=([115,101,116]:dy))then
   some 3
  else
  bif decide (b=([117,110,115,101,116]:dy))then
   some 4
  else
  bif decide (b=([115,101,114,118,105,99,101]:dy))then
   some 5
  else
  bif decide (b=([100,114,111,112]:dy))then
   some 6
  else
  some 0) fun c =>
 bif decide (b=([112,117,116]:dy))then
  c (decide (b=([112,117,116]:dy)))
 else
 c (decide (b=([112,117,116,114,117,110]:dy)))
def Hb(b:al)(c:List ae):Option (Bool×List ae) :=
 call (IW b.H) fun f =>
 dA ((c++[(ae.mk f b.J b.K b.I)]).length<=274877906944) <|
 some (!decide (f=0),c++[(ae.mk f b.J b.K b.I)])
def GN(i:dy)(m:List ae):Option (Int×List ae) :=
 jp (S:=List ae) (fun n =>
  some ((-1),n)) fun o =>
 loopN eV (fun s l p =>
  match s with
  |(b,f,c) =>
   bif !decide (b=[])then
    call (Cs b ([10]:dy)) fun g =>
    call (GB g.1) fun j =>
    callG (!((!g.2.2)||(!j.2))) (Hb j.1 c) (false,c) fun k =>
    bif (((!g.2.2)||(!j.2))||(!k.1))then
     some (f,k.2)
    else
    l (g.2.1,IntKind.i64.wrap (f+1),k.2)
   else
   p (b,f,c)) (i,0,m) (fun s=>match s with
  |(b,f,c) =>
   o c)
def D1(f:List ae):Option Int :=
 jp (S:=Unit) (fun _ =>
  some 0) fun g =>
 forL f 0 (fun j i s c k =>
  call (D2 i) fun b =>
  bif !decide (b=0)then
   some b
  else
  c ()) () (fun _ =>
  g ())
def IY(b:dy):Option (List ae×Int×Int) :=
 bif decide (4194304<(b.length:Int))then
  some ([],0,4)
 else
 call (GN b []) fun c =>
 bif decide (0<=c.1)then
  some ([],c.1,8)
 else
 call (D1 c.2) fun f =>
 bif !decide (f=0)then
  some ([],0,f)
 else
 some (c.2,0,0)
def zo(f:dy)(g:List dy)(i:Bool):Option (List ae×Int×List dy×Bool) :=
 call (zI f g i) fun b =>
 call (Iw b.1) fun c =>
 bif ((b.2.1||(!c.2))||(decide ((b.2.2.length:Int)<c.1)))then
  some ([],0,b.2.2,true)
 else
 dA (0<=c.1/\c.1<=(b.2.2.length:Int)) <|
 call (GF (List.take c.1.toNat b.2.2) []) fun k =>
 call (IY k) fun j =>
 dA (0<=c.1/\c.1<=(b.2.2.length:Int)) <|
 some (j.1,j.2.2,List.drop c.1.toNat b.2.2,decide (j.2.2=8))
def Gt(c:dy):Option Bool :=
 jp (S:=Unit) (fun _ =>
  some (decide ((c.length:Int)=16))) fun g =>
 forL c 0 (fun i b s f j =>
  bif !(((decide (48<=(b.toNat:Int)))&&(decide ((b.toNat:Int)<=57)))||((decide (97<=(b.toNat:Int)))&&(decide ((b.toNat:Int)<=102))))then
   some false
  else
  f ()) () (fun _ =>
  g ())
def Ck(f:dy):Option dy :=
 jp (S:=Int) (fun o =>
  jp (S:=List Int) (fun j =>
   some (Go.Vc.strOf j)) fun p =>
  loopN eV (fun s k t =>
   match s with
   |(b,c) =>
    bif decide (b<((List.replicate 16 0).length:Int))then
     dA (0<=(IntKind.i64.wrap (60-(IntKind.i64.wrap (4*b))))) <|
     ig ([48,49,50,51,52,53,54,55,56,57,97,98,99,100,101,102]:dy) (pN .and .u64 (Int.fdiv o (2^(yY .u64 (IntKind.i64.wrap (60-(IntKind.i64.wrap (4*b))))))) 15) fun l =>
     dA (0<=b/\b<(c.length:Int)) <|
     k (IntKind.i64.wrap (b+1),List.set c b.toNat l)
    else
    t (b,c)) (0,List.replicate 16 0) (fun s=>match s with
   |(b,c) =>
    p c)) fun m =>
 forL f 0 (fun u n g i v =>
  i (IntKind.u64.wrap ((pN .xor .u64 g (IntKind.u64.wrap (n.toNat:Int)))*1099511628211))) 14695981039346656037 (fun g =>
  m g)
def AH(b:dy):Option (aj×Int) :=
 call (GU b ([10]:dy)) fun c =>
 dA (0<=IntKind.i64.wrap ((c.length:Int)-1)/\IntKind.i64.wrap ((c.length:Int)-1)<=(c.length:Int)) <|
 call (zI ([106,111,117,114,110,97,108]:dy) (List.take ((IntKind.i64.wrap ((c.length:Int)-1)).toNat) c) false) fun k =>
 call (zo ([99,104,97,110,103,101,115]:dy) k.2.2 k.2.1) fun j =>
 call (zo ([111,108,100]:dy) j.2.2.1 j.2.2.2) fun i =>
 jp (S:=Int) (fun f =>
  call (zI ([115,117,109]:dy) i.2.2.1 i.2.2.2) fun g =>
  dA ((!(g.2.1||(decide (0<(g.2.2.length:Int)))))=true->(0<=IntKind.i64.wrap ((c.length:Int)-1)/\IntKind.i64.wrap ((c.length:Int)-1)<(c.length:Int))) <|
  callG (!((g.2.1||(decide (0<(g.2.2.length:Int))))||(!decide ((c.getD ((IntKind.i64.wrap ((c.length:Int)-1)).toNat) [])=[])))) (Gt g.1) false fun p =>
  bif (((g.2.1||(decide (0<(g.2.2.length:Int))))||(!decide ((c.getD ((IntKind.i64.wrap ((c.length:Int)-1)).toNat) [])=[])))||(!p))then
   some ((aj.mk [] [] []),8)
  else
  dA (0<=f/\f<=(b.length:Int)) <|
  call (Ck (List.take f.toNat b)) fun m =>
  bif !decide (g.1=m)then
   some ((aj.mk [] [] []),14)
  else
  call (ta k.1) fun n =>
  bif !n then
   some ((aj.mk [] [] []),5)
  else
  bif !decide (j.2.1=0)then
   some ((aj.mk [] [] []),j.2.1)
  else
  bif !decide (i.2.1=0)then
   some ((aj.mk [] [] []),i.2.1)
  else
  bif decide (65536<(b.length:Int))then
   some ((aj.mk [] [] []),4)
  else
  some ((aj.mk k.1 j.1 i.1),0)) fun l =>
 bif decide (0<(i.2.2.1.length:Int))then
  eB i.2.2.1 0 fun o =>
  l (IntKind.i64.wrap ((b.length:Int)-(o.length:Int)))
 else
 l (b.length:Int)
def Gp(f:ah):Option (aj×Int) :=
 call (DT f ([115,116,97,103,101,47,106,111,117,114,110,97,108]:dy)) fun b =>
 bif !b.2 then
  some ((aj.mk [] [] []),0)
 else
 call (AH b.1.B) fun c =>
 bif !decide (c.2=0)then
  some ((aj.mk [] [] []),1)
 else
 some (c.1,2)
def pX(c:ah)(b:dy):Option Bool :=
 call (DT c b) fun f =>
 some f.2
def DM(b:ab):Option dy :=
 some b.a
def I5(j:List ab)(k:List ab):Option (List ab×List ab) :=
 jp (S:=List ab×List ab) (fun s=>match s with
  |(u,v) =>
   some (u,v)) fun w =>
 loopN eV (fun s i z =>
  match s with
  |(c,f,g,b) =>
   bif ((decide (c<(j.length:Int)))||(decide (f<(k.length:Int))))then
    jp (S:=Int) (fun l =>
     bif decide (l<0)then
      eB j c fun o =>
      dA ((g++[o]).length<=274877906944) <|
      i (IntKind.i64.wrap (c+1),f,g++[o],b)
     else
     bif decide (0<l)then
      eB k f fun p =>
      dA ((b++[p]).length<=274877906944) <|
      i (c,IntKind.i64.wrap (f+1),g,b++[p])
     else
     eB j c fun t =>
     eB k f fun m =>
     bif !((decide (t.a=m.a))&&((decide (t.B=m.B))&&(decide (t.C=m.C))))then
      dA ((b++[m]).length<=274877906944) <|
      i (IntKind.i64.wrap (c+1),IntKind.i64.wrap (f+1),g,b++[m])
     else
     i (IntKind.i64.wrap (c+1),IntKind.i64.wrap (f+1),g,b)) fun n =>
    bif decide (f=(k.length:Int))then
     n (-1)
    else
    bif decide (c=(j.length:Int))then
     n 1
    else
    eB j c fun D =>
    call (DM D) fun E =>
    eB k f fun F =>
    call (DM F) fun G =>
    call (D5 E G) fun I =>
    n I
   else
   z (c,f,g,b)) (0,0,[],[]) (fun s=>match s with
  |(c,f,g,b) =>
   w (g,b))
def Jd(j:List aa)(l:List aa):Option (List aa×List aa) :=
 jp (S:=List aa×List aa) (fun s=>match s with
  |(v,w) =>
   some (v,w)) fun z =>
 loopN eV (fun s i B =>
  match s with
  |(c,f,g,b) =>
   bif ((decide (c<(j.length:Int)))||(decide (f<(l.length:Int))))then
    jp (S:=Int) (fun m =>
     bif decide (m<0)then
      eB j c fun o =>
      dA ((g++[o]).length<=274877906944) <|
      i (IntKind.i64.wrap (c+1),f,g++[o],b)
     else
     bif decide (0<m)then
      eB l f fun p =>
      dA ((b++[p]).length<=274877906944) <|
      i (c,IntKind.i64.wrap (f+1),g,b++[p])
     else
     eB j c fun t =>
     eB l f fun n =>
     bif !((decide (t.k=n.k))&&(decide (t.Value=n.Value)))then
      dA ((b++[n]).length<=274877906944) <|
      i (IntKind.i64.wrap (c+1),IntKind.i64.wrap (f+1),g,b++[n])
     else
     i (IntKind.i64.wrap (c+1),IntKind.i64.wrap (f+1),g,b)) fun u =>
    bif decide (f=(l.length:Int))then
     u (-1)
    else
    bif decide (c=(j.length:Int))then
     u 1
    else
    eB j c fun C =>
    call (s9 C) fun D =>
    eB l f fun E =>
    call (s9 E) fun F =>
    call (D5 D F) fun G =>
    u G
   else
   B (c,f,g,b)) (0,0,[],[]) (fun s=>match s with
  |(c,f,g,b) =>
   z (g,b))
def Jc(k:List ai)(l:List ai):Option (List ai×List ai) :=
 jp (S:=List ai×List ai) (fun s=>match s with
  |(u,v) =>
   some (u,v)) fun z =>
 loopN eV (fun s j B =>
  match s with
  |(c,f,g,b) =>
   bif ((decide (c<(k.length:Int)))||(decide (f<(l.length:Int))))then
    jp (S:=Int) (fun m =>
     bif decide (m<0)then
      eB k c fun p =>
      dA ((g++[p]).length<=274877906944) <|
      j (IntKind.i64.wrap (c+1),f,g++[p],b)
     else
     bif decide (0<m)then
      eB l f fun t =>
      dA ((b++[t]).length<=274877906944) <|
      j (c,IntKind.i64.wrap (f+1),g,b++[t])
     else
     eB k c fun o =>
     eB l f fun i =>
     bif !((decide (o.w=i.w))&&((decide (o.a=i.a))&&((decide (o.D=i.D))&&(decide (o.E=i.E)))))then
      dA ((b++[i]).length<=274877906944) <|
      j (IntKind.i64.wrap (c+1),IntKind.i64.wrap (f+1),g,b++[i])
     else
     j (IntKind.i64.wrap (c+1),IntKind.i64.wrap (f+1),g,b)) fun n =>
    bif decide (f=(l.length:Int))then
     n (-1)
    else
    bif decide (c=(k.length:Int))then
     n 1
    else
    eB k c fun C =>
    call (yV C) fun F =>
    eB l f fun G =>
    call (yV G) fun I =>
    call (D5 F I) fun J =>
    n J
   else
   B (c,f,g,b)) (0,0,[],[]) (fun s=>match s with
  |(c,f,g,b) =>
   z (g,b))
def HT(l:ah)(m:ah):Option (List ae) :=
 call (I5 l.h m.h) fun R =>
 call (Jd l.r m.r) fun n =>
 call (Jc l.o m.o) fun p =>
 jp (S:=List ae) (fun D =>
  jp (S:=List ae) (fun E =>
   jp (S:=List ae) (fun F =>
    jp (S:=List ae) (fun G =>
     jp (S:=List ae) (fun I =>
      jp (S:=List ae) (fun J =>
       some J) fun T =>
      forL p.2 0 (fun Z t b L a0 =>
       dA ((b++[(ae.mk 5 (ab.mk [] [] false) (aa.mk [] []) t)]).length<=274877906944) <|
       L (b++[(ae.mk 5 (ab.mk [] [] false) (aa.mk [] []) t)])) I (fun b =>
       T b)) fun U =>
     forL n.2 0 (fun a1 u c M a2 =>
      dA ((c++[(ae.mk 3 (ab.mk [] [] false) u (ai.mk [] [] false false))]).length<=274877906944) <|
      M (c++[(ae.mk 3 (ab.mk [] [] false) u (ai.mk [] [] false false))])) G (fun c =>
      U c)) fun V =>
    forL R.2 0 (fun a3 v f N a4 =>
     dA ((f++[(ae.mk 1 v (aa.mk [] []) (ai.mk [] [] false false))]).length<=274877906944) <|
     N (f++[(ae.mk 1 v (aa.mk [] []) (ai.mk [] [] false false))])) F (fun f =>
     V f)) fun W =>
   forL p.1 0 (fun a5 z g O a6 =>
    dA ((g++[(ae.mk 6 (ab.mk [] [] false) (aa.mk [] []) (ai.mk z.w [] false false))]).length<=274877906944) <|
    O (g++[(ae.mk 6 (ab.mk [] [] false) (aa.mk [] []) (ai.mk z.w [] false false))])) E (fun g =>
    W g)) fun X =>
  forL n.1 0 (fun a7 B i P a8 =>
   dA ((i++[(ae.mk 4 (ab.mk [] [] false) (aa.mk B.k []) (ai.mk [] [] false false))]).length<=274877906944) <|
   P (i++[(ae.mk 4 (ab.mk [] [] false) (aa.mk B.k []) (ai.mk [] [] false false))])) D (fun i =>
   X i)) fun Y =>
 forL R.1 0 (fun a9 C j Q ac =>
  dA ((j++[(ae.mk 2 (ab.mk C.a [] false) (aa.mk [] []) (ai.mk [] [] false false))]).length<=274877906944) <|
  Q (j++[(ae.mk 2 (ab.mk C.a [] false) (aa.mk [] []) (ai.mk [] [] false false))])) [] (fun j =>
  Y j)
def HZ(c:ah)(f:List ae):Option (List ae×Int) :=
 call (Ax c f) fun b =>
 bif !decide (b.2=0)then
  some ([],b.2)
 else
 call (HT b.1 c) fun g =>
 some (g,0)
def Gl(g:dy):Option dy :=
 dA (0<=0/\0<=IntKind.i64.wrap ((g.length:Int)+2)/\IntKind.i64.wrap ((g.length:Int)+2)<=274877906944) <|
 dA (((List.replicate 0 0)++[34]).length<=274877906944) <|
 jp (S:=List Int) (fun i =>
  dA ((i++[34]).length<=274877906944) <|
  some (Go.Vc.strOf (i++[34]))) fun l =>
 forL g 0 (fun n c b f m =>
  bif ((decide ((c.toNat:Int)=92))||(decide ((c.toNat:Int)=34)))then
   dA ((b++[92,(c.toNat:Int)]).length<=274877906944) <|
   f (b++[92,(c.toNat:Int)])
  else
  bif decide ((c.toNat:Int)=10)then
   dA ((b++[92,110]).length<=274877906944) <|
   f (b++[92,110])
  else
  bif ((decide ((c.toNat:Int)<32))||(decide (126<(c.toNat:Int))))then
   ig ([48,49,50,51,52,53,54,55,56,57,97,98,99,100,101,102]:dy) (Int.fdiv (c.toNat:Int) (2^(yY .u8 4))) fun j =>
   ig ([48,49,50,51,52,53,54,55,56,57,97,98,99,100,101,102]:dy) (pN .and .u8 (c.toNat:Int) 15) fun k =>
   dA ((b++[92,120,j,k]).length<=274877906944) <|
   f (b++[92,120,j,k])
  else
  dA ((b++[(c.toNat:Int)]).length<=274877906944) <|
  f (b++[(c.toNat:Int)])) ((List.replicate 0 0)++[34]) (fun b =>
  l b)
def IG(f:dy)(g:dy)(c:ab):Option dy :=
 jp (S:=dy) (fun b =>
  dA ((b++([32]:dy)).length<=274877906944) <|
  dA (((b++([32]:dy))++c.a).length<=274877906944) <|
  dA ((((b++([32]:dy))++c.a)++([32]:dy)).length<=274877906944) <|
  call (Gl c.B) fun i =>
  dA (((((b++([32]:dy))++c.a)++([32]:dy))++i).length<=274877906944) <|
  dA ((((((b++([32]:dy))++c.a)++([32]:dy))++i)++([10]:dy)).length<=274877906944) <|
  some (((((b++([32]:dy))++c.a)++([32]:dy))++i)++([10]:dy))) fun j =>
 bif c.C then
  j g
 else
 j f
def IK(b:dy)(c:aa):Option dy :=
 dA ((b++([32]:dy)).length<=274877906944) <|
 dA (((b++([32]:dy))++c.k).length<=274877906944) <|
 dA ((((b++([32]:dy))++c.k)++([32]:dy)).length<=274877906944) <|
 call (Gl c.Value) fun f =>
 dA (((((b++([32]:dy))++c.k)++([32]:dy))++f).length<=274877906944) <|
 dA ((((((b++([32]:dy))++c.k)++([32]:dy))++f)++([10]:dy)).length<=274877906944) <|
 some (((((b++([32]:dy))++c.k)++([32]:dy))++f)++([10]:dy))
def HF(b:Bool):Option dy :=
 bif b then
  some ([49]:dy)
 else
 some ([48]:dy)
def IJ(b:ai):Option dy :=
 dA ((([115,101,114,118,105,99,101,32]:dy)++b.w).length<=274877906944) <|
 dA (((([115,101,114,118,105,99,101,32]:dy)++b.w)++([32]:dy)).length<=274877906944) <|
 dA ((((([115,101,114,118,105,99,101,32]:dy)++b.w)++([32]:dy))++b.a).length<=274877906944) <|
 dA (((((([115,101,114,118,105,99,101,32]:dy)++b.w)++([32]:dy))++b.a)++([32]:dy)).length<=274877906944) <|
 call (HF b.D) fun c =>
 dA ((((((([115,101,114,118,105,99,101,32]:dy)++b.w)++([32]:dy))++b.a)++([32]:dy))++c).length<=274877906944) <|
 dA (((((((([115,101,114,118,105,99,101,32]:dy)++b.w)++([32]:dy))++b.a)++([32]:dy))++c)++([32]:dy)).length<=274877906944) <|
 call (HF b.E) fun f =>
 dA ((((((((([115,101,114,118,105,99,101,32]:dy)++b.w)++([32]:dy))++b.a)++([32]:dy))++c)++([32]:dy))++f).length<=274877906944) <|
 dA (((((((((([115,101,114,118,105,99,101,32]:dy)++b.w)++([32]:dy))++b.a)++([32]:dy))++c)++([32]:dy))++f)++([10]:dy)).length<=274877906944) <|
 some ((((((((([115,101,114,118,105,99,101,32]:dy)++b.w)++([32]:dy))++b.a)++([32]:dy))++c)++([32]:dy))++f)++([10]:dy))
def H4(b:dy):Option (dy×Int) :=
 bif decide (4194304<(b.length:Int))then
  some ([],4)
 else
 some (b,0)
def CJ(g:List ae):Option (dy×Int) :=
 call (D1 g) fun j =>
 bif !decide (j=0)then
  some ([],j)
 else
 jp (S:=dy) (fun m =>
  call (CF m) fun F =>
  call (H4 F) fun l =>
  some (l.1,l.2)) fun G =>
 forL g 0 (fun I b c f J =>
  bif decide (b.u=1)then
   call (IG ([112,117,116]:dy) ([112,117,116,114,117,110]:dy) b.i) fun n =>
   call (zi n c) fun o =>
   f o.2
  else
  bif decide (b.u=2)then
   dA ((([114,101,109,111,118,101,32]:dy)++b.i.a).length<=274877906944) <|
   dA (((([114,101,109,111,118,101,32]:dy)++b.i.a)++([10]:dy)).length<=274877906944) <|
   call (zi ((([114,101,109,111,118,101,32]:dy)++b.i.a)++([10]:dy)) c) fun p =>
   f p.2
  else
  bif decide (b.u=3)then
   call (IK ([115,101,116]:dy) b.z) fun t =>
   call (zi t c) fun v =>
   f v.2
  else
  bif decide (b.u=4)then
   dA ((([117,110,115,101,116,32]:dy)++b.z.k).length<=274877906944) <|
   dA (((([117,110,115,101,116,32]:dy)++b.z.k)++([10]:dy)).length<=274877906944) <|
   call (zi ((([117,110,115,101,116,32]:dy)++b.z.k)++([10]:dy)) c) fun B =>
   f B.2
  else
  bif decide (b.u=5)then
   call (IJ b.q) fun C =>
   call (zi C c) fun D =>
   f D.2
  else
  dA ((([100,114,111,112,32]:dy)++b.q.w).length<=274877906944) <|
  dA (((([100,114,111,112,32]:dy)++b.q.w)++([10]:dy)).length<=274877906944) <|
  call (zi ((([100,114,111,112,32]:dy)++b.q.w)++([10]:dy)) c) fun E =>
  f E.2) [] (fun c =>
  G c)
def strconv_Itoa(n:Int):Option dy:=dA (-9223372036854775808<=n/\n<=9223372036854775807) <| some (Go.Lib.itoa n)
def GZ(c:aj):Option (dy×Int) :=
 call (ta c.F) fun n =>
 bif !n then
  some ([],5)
 else
 dA ((([106,111,117,114,110,97,108,32]:dy)++c.F).length<=274877906944) <|
 dA (((([106,111,117,114,110,97,108,32]:dy)++c.F)++([10]:dy)).length<=274877906944) <|
 jp (S:=dy) (fun j =>
  call (Ck j) fun f =>
  dA ((([115,117,109,32]:dy)++f).length<=274877906944) <|
  dA (((([115,117,109,32]:dy)++f)++([10]:dy)).length<=274877906944) <|
  dA ((j++((([115,117,109,32]:dy)++f)++([10]:dy))).length<=274877906944) <|
  bif decide (65536<((j++((([115,117,109,32]:dy)++f)++([10]:dy))).length:Int))then
   some ([],4)
  else
  some (j++((([115,117,109,32]:dy)++f)++([10]:dy)),0)) fun o =>
 forL [(ao.mk ([99,104,97,110,103,101,115]:dy) c.A),(ao.mk ([111,108,100]:dy) c.G)] 0 (fun p b k m t =>
  call (CJ b.l) fun g =>
  bif !decide (g.2=0)then
   some ([],g.2)
  else
  dA ((b.H++([32]:dy)).length<=274877906944) <|
  call (strconv_Itoa (b.l.length:Int)) fun i =>
  dA (((b.H++([32]:dy))++i).length<=274877906944) <|
  dA ((((b.H++([32]:dy))++i)++([10]:dy)).length<=274877906944) <|
  dA (((((b.H++([32]:dy))++i)++([10]:dy))++g.1).length<=274877906944) <|
  dA ((k++((((b.H++([32]:dy))++i)++([10]:dy))++g.1)).length<=274877906944) <|
  m (k++((((b.H++([32]:dy))++i)++([10]:dy))++g.1))) ((([106,111,117,114,110,97,108,32]:dy)++c.F)++([10]:dy)) (fun k =>
  o k)
def ry(b:dy):Option ae :=
 some (ae.mk 2 (ab.mk b [] false) (aa.mk [] []) (ai.mk [] [] false false))
def G3(b:ah)(c:dy):Option (List aa×List ab×List aa×List ai×List ae) :=
 jp (S:=List ae) (fun g =>
  call (pX b c) fun p =>
  bif p then
   call (ry c) fun k =>
   dA ((g++[k]).length<=274877906944) <|
   some (b.y,b.h,b.r,b.o,g++[k])
  else
  some (b.y,b.h,b.r,b.o,g)) fun m =>
 forL b.h 0 (fun t i f j u =>
  call (AE i.a) fun n =>
  bif (n&&(!decide (i.a=c)))then
   call (ry i.a) fun l =>
   dA ((f++[l]).length<=274877906944) <|
   j (f++[l])
  else
  j f) [] (fun f =>
  m f)
def DH(b:dy)(c:dy):Option ae :=
 some (ae.mk 1 (ab.mk b c false) (aa.mk [] []) (ai.mk [] [] false false))
def Gn(b:ah)(i:dy)(c:List ae):Option (List ae×Int) :=
 call (IX b c) fun l =>
 bif !decide (l=0)then
  some ([],l)
 else
 call (ta i) fun v =>
 bif !v then
  some ([],5)
 else
 call (Gp b) fun m =>
 callG (!(decide (m.2=2))) (pX b ([115,116,97,103,101,47,100,111,110,101]:dy)) false fun n =>
 callG (!((decide (m.2=2))||n)) (pX b ([115,116,97,103,101,47,98,97,99,107]:dy)) false fun w =>
 bif (((decide (m.2=2))||n)||w)then
  some ([],12)
 else
 call (Gr b) fun z =>
 call (HZ z c) fun o =>
 bif !decide (o.2=0)then
  some ([],o.2)
 else
 call (GZ (aj.mk i c o.1)) fun p =>
 bif !decide (p.2=0)then
  some ([],p.2)
 else
 call (G3 b ([115,116,97,103,101,47,106,111,117,114,110,97,108]:dy)) fun f =>
 call (DH ([115,116,97,103,101,47,106,111,117,114,110,97,108]:dy) p.1) fun g =>
 dA ((f.2.2.2.2++[g]).length<=274877906944) <|
 dA (((f.2.2.2.2++[g])++c).length<=274877906944) <|
 call (DH ([115,116,97,103,101,47,100,111,110,101]:dy) i) fun t =>
 call (ry ([115,116,97,103,101,47,106,111,117,114,110,97,108]:dy)) fun j =>
 call (ry ([115,116,97,103,101,47,100,111,110,101]:dy)) fun k =>
 dA ((((f.2.2.2.2++[g])++c)++[t,j,k]).length<=274877906944) <|
 call (Ax b (((f.2.2.2.2++[g])++c)++[t,j,k])) fun u =>
 bif !decide (u.2=0)then
  some ([],u.2)
 else
 some (((f.2.2.2.2++[g])++c)++[t,j,k],0)
def IQ(b:List ak):Option Int :=
 bif decide (50<(b.length:Int))then
  some 4
 else
 jp (S:=Unit) (fun _ =>
  some 0) fun g =>
 forL b 0 (fun i c s f j =>
  bif ((decide (c.L<0))||(decide (1000000<c.L)))then
   some 3
  else
  f ()) () (fun _ =>
  g ())
def Ir(b:ah):Option (Int×List aa×List ab×List aa×List ai×(List (dy×ab))×(List (dy×Int))×(List (dy×aa))×(List (dy×ai))×List aa×Bool×Bool×Int×Bool×Int) :=
 call (DJ b) fun f =>
 bif !decide (f=0)then
  none
 else
 call (DU b) fun c =>
 some (0,b.y,b.h,b.r,b.o,c.1,c.2.1,c.2.2.1,c.2.2.2.1,c.2.2.2.2,false,false,0,false,0)
def HS(j:ah):Option ah :=
 call (CC j) fun f =>
 jp (S:=List ai) (fun g =>
  some (ah.mk f.2.2.2.2.1 f.2.2.2.2.2.1 f.2.2.2.2.2.2.1 g)) fun k =>
 loopN eV (fun s i l =>
  match s with
  |(b,c) =>
   bif decide (b<(f.2.2.2.2.2.2.2.length:Int))then
    dA (0<=b/\b<(c.length:Int)) <|
    dA (0<=b/\b<(c.length:Int)) <|
    i (IntKind.i64.wrap (b+1),List.set c b.toNat (ai.mk ((c.getD b.toNat (ai.mk [] [] false false)).w) ((c.getD b.toNat (ai.mk [] [] false false)).a) ((c.getD b.toNat (ai.mk [] [] false false)).D) ((c.getD b.toNat (ai.mk [] [] false false)).D)))
   else
   l (b,c)) (0,f.2.2.2.2.2.2.2) (fun s=>match s with
  |(b,c) =>
   k c)
def IV(b:Bool)(g:Bool)(n:Int)(o:Bool)(p:Int)(c:List aa)(i:List (dy×ab))(j:List (dy×Int))(k:List (dy×aa))(l:List (dy×ai)):Option (Int×Bool×Bool×List aa×(List (dy×ab))×(List (dy×Int))×(List (dy×aa))×(List (dy×ai))) :=
 bif !b then
  some (12,b,g,c,i,j,k,l)
 else
 call (CE c i j k l) fun t =>
 call (HS t) fun m =>
 call (DU m) fun f =>
 some (0,false,false,f.2.2.2.2,f.1,f.2.1,f.2.2.1,f.2.2.2.1)
def II(b:Int)(i:Bool)(j:Bool)(c:Bool)(f:Int)(g:Bool)(k:Int)(l:List aa)(p:List (dy×ab))(m:List (dy×Int))(n:List (dy×aa))(o:List (dy×ai)):Option (Int×Bool×Int×Bool) :=
 bif ((decide (b<0))||(decide (1000000<b)))then
  some (3,c,f,g)
 else
 bif j then
  some (12,c,f,g)
 else
 some (0,true,b,i)
def CH(b:Bool)(m:Bool)(n:Int)(k:Bool)(l:Int)(c:List aa)(f:List (dy×ab))(g:List (dy×Int))(i:List (dy×aa))(j:List (dy×ai)):Option (ah×Int) :=
 bif b then
  some ((ah.mk [] [] [] []),12)
 else
 call (CE c f g i j) fun o =>
 some (o,0)
def GO(b:Bool)(c:Bool)(f:Int)(g:Bool)(i:Int)(j:List aa)(n:List (dy×ab))(o:List (dy×Int))(k:List (dy×aa))(l:List (dy×ai)):Option (ah×Int) :=
 call (CH b c f g i j n o k l) fun m =>
 some (m.1,m.2)
def Mj(b:ae)(j:Bool)(k:Bool)(w:Int)(m:Bool)(c:Int)(l:List aa)(f:List (dy×ab))(g:List (dy×Int))(n:List (dy×aa))(o:List (dy×ai)):Option (Int×Bool×Bool×Int×(List (dy×ab))×(List (dy×Int))) :=
 call (D2 b) fun p =>
 bif !decide (p=0)then
  some (p,j,k,c,f,g)
 else
 call (D6 b l f g n o) fun t =>
 bif !decide (t=0)then
  some (t,j,k,c,f,g)
 else
 bif (m&&(decide (b.u=1)))then
  dA (¬ 2=0) <|
  dA (0<=IntKind.i64.wrap (Int.tdiv (b.i.B.length:Int) 2)/\IntKind.i64.wrap (Int.tdiv (b.i.B.length:Int) 2)<=(b.i.B.length:Int)) <|
  call (AG (ab.mk b.i.a (List.take ((IntKind.i64.wrap (Int.tdiv (b.i.B.length:Int) 2)).toNat) b.i.B) b.i.C) l f g n o) fun v =>
  some (18,true,false,IntKind.i64.wrap (c+1),v.1,v.2)
 else
 some (18,true,false,c,f,g)
def GQ(t:ae)(g:Bool)(b:Bool)(c:Int)(p:Bool)(i:Int)(j:List aa)(o:List (dy×ab))(l:List (dy×Int))(m:List (dy×aa))(n:List (dy×ai)):Option (Int×Bool×Bool×Int×Int×(List (dy×ab))×(List (dy×Int))×(List (dy×aa))×(List (dy×ai))) :=
 bif g then
  some (12,g,b,i,c,o,l,m,n)
 else
 bif (b&&(decide (c=0)))then
  call (Mj t g b c p i j o l m n) fun k =>
  some (k.1,k.2.1,k.2.2.1,k.2.2.2.1,c,k.2.2.2.2.1,k.2.2.2.2.2,m,n)
 else
 call (D3 t j o l m n) fun f =>
 bif !decide (f.1=0)then
  some (f.1,g,b,i,c,f.2.1,f.2.2.1,f.2.2.2.1,f.2.2.2.2)
 else
 bif b then
  some (0,g,b,IntKind.i64.wrap (i+1),IntKind.i64.wrap (c-1),f.2.1,f.2.2.1,f.2.2.2.1,f.2.2.2.2)
 else
 some (0,g,b,IntKind.i64.wrap (i+1),c,f.2.1,f.2.2.1,f.2.2.2.1,f.2.2.2.2)
def DP(O:List ae)(n:Bool)(o:Bool)(p:Int)(t:Bool)(u:Int)(v:List aa)(D:List (dy×ab))(E:List (dy×Int))(F:List (dy×aa))(G:List (dy×ai)):Option (Int×Bool×Bool×Int×Int×(List (dy×ab))×(List (dy×Int))×(List (dy×aa))×(List (dy×ai))) :=
 jp (S:=Bool×Bool×Int×Int×(List (dy×ab))×(List (dy×Int))×(List (dy×aa))×(List (dy×ai))) (fun s=>match s with
  |(w,z,B,C,I,J,L,M) =>
   some (0,w,z,B,C,I,J,L,M)) fun P =>
 forL O 0 (fun R Q s N T =>
  match s with
  |(c,f,g,i,j,k,l,m) =>
   call (GQ Q c f g t i v j k l m) fun b =>
   bif !decide (b.1=0)then
    some (b.1,b.2.1,b.2.2.1,b.2.2.2.2.1,b.2.2.2.1,b.2.2.2.2.2.1,b.2.2.2.2.2.2.1,b.2.2.2.2.2.2.2.1,b.2.2.2.2.2.2.2.2)
   else
   N (b.2.1,b.2.2.1,b.2.2.2.2.1,b.2.2.2.1,b.2.2.2.2.2.1,b.2.2.2.2.2.2.1,b.2.2.2.2.2.2.2.1,b.2.2.2.2.2.2.2.2)) (n,o,p,u,D,E,F,G) (fun s=>match s with
  |(c,f,g,i,j,k,l,m) =>
   P (c,f,g,i,j,k,l,m))
def Iv(u:dy)(v:List ae)(b:Bool)(c:Bool)(f:Int)(j:Bool)(g:Int)(k:List aa)(l:List (dy×ab))(m:List (dy×Int))(n:List (dy×aa))(o:List (dy×ai)):Option (Int×Bool×Bool×Int×Int×(List (dy×ab))×(List (dy×Int))×(List (dy×aa))×(List (dy×ai))) :=
 call (GO b c f j g k l m n o) fun p =>
 bif !decide (p.2=0)then
  some (p.2,b,c,f,g,l,m,n,o)
 else
 call (Gn p.1 u v) fun t =>
 bif !decide (t.2=0)then
  some (t.2,b,c,f,g,l,m,n,o)
 else
 call (DP t.1 b c f j g k l m n o) fun i =>
 some (i.1,i.2.1,i.2.2.1,i.2.2.2.1,i.2.2.2.2.1,i.2.2.2.2.2.1,i.2.2.2.2.2.2.1,i.2.2.2.2.2.2.2.1,i.2.2.2.2.2.2.2.2)
def I7(b:ab):Option Bool :=
 call (AE b.a) fun c =>
 some c
def MF(c:List ab):Option Int :=
 jp (S:=Unit) (fun _ =>
  some (-1)) fun f =>
 forL c 0 (fun g i s b k =>
  call (I7 i) fun j =>
  bif j then
   some (g:Int)
  else
  b ()) () (fun _ =>
  f ())
def zP(b:List ab):Option Bool :=
 call (MF b) fun c =>
 some (decide (0<=c))
def IH(c:ah)(f:aj)(b:Int):Option (List ae×List ae×dy×Int) :=
 call (pX c ([115,116,97,103,101,47,100,111,110,101]:dy)) fun g =>
 bif g then
  some ([],[],([115,116,97,103,101,47,100,111,110,101]:dy),3)
 else
 callG (decide (b=2)) (pX c ([115,116,97,103,101,47,98,97,99,107]:dy)) false fun i =>
 bif ((decide (b=2))&&(!i))then
  call (DH ([115,116,97,103,101,47,100,111,110,101]:dy) f.F) fun j =>
  some (f.A,[j],([115,116,97,103,101,47,100,111,110,101]:dy),3)
 else
 bif decide (b=2)then
  some (f.G,[],([115,116,97,103,101,47,98,97,99,107]:dy),4)
 else
 call (pX c ([115,116,97,103,101,47,98,97,99,107]:dy)) fun k =>
 bif k then
  some ([],[],([115,116,97,103,101,47,98,97,99,107]:dy),4)
 else
 some ([],[],([115,116,97,103,101,47,106,111,117,114,110,97,108]:dy),2)
def MK(g:List ab)(b:ab):Option Int :=
 jp (S:=Unit) (fun _ =>
  some (-1)) fun i =>
 forL g 0 (fun j c s f k =>
  bif ((decide (b.a=c.a))&&((decide (b.B=c.B))&&(decide (b.C=c.C))))then
   some (j:Int)
  else
  f ()) () (fun _ =>
  i ())
def I9(b:List ab)(c:ab):Option Bool :=
 call (MK b c) fun f =>
 some (decide (0<=f))
def MC(g:List aa)(b:aa):Option Int :=
 jp (S:=Unit) (fun _ =>
  some (-1)) fun i =>
 forL g 0 (fun j c s f l =>
  bif ((decide (b.k=c.k))&&(decide (b.Value=c.Value)))then
   some (j:Int)
  else
  f ()) () (fun _ =>
  i ())
def zS(b:List aa)(c:aa):Option Bool :=
 call (MC b c) fun f =>
 some (decide (0<=f))
def Mf(c:aa)(b:ae):Option Bool :=
 some (decide (c.k=b.z.k))
def z8(c:List aa)(f:ae):Option Int :=
 jp (S:=Unit) (fun _ =>
  some (-1)) fun g =>
 forL c 0 (fun i j s b l =>
  call (Mf j f) fun k =>
  bif k then
   some (i:Int)
  else
  b ()) () (fun _ =>
  g ())
def zA(b:List aa)(c:ae):Option Bool :=
 call (z8 b c) fun f =>
 some (decide (0<=f))
def MB(g:List ai)(b:ai):Option Int :=
 jp (S:=Unit) (fun _ =>
  some (-1)) fun i =>
 forL g 0 (fun j c s f k =>
  bif ((decide (b.w=c.w))&&((decide (b.a=c.a))&&((decide (b.D=c.D))&&(decide (b.E=c.E)))))then
   some (j:Int)
  else
  f ()) () (fun _ =>
  i ())
def zT(b:List ai)(c:ai):Option Bool :=
 call (MB b c) fun f =>
 some (decide (0<=f))
def Mh(c:ai)(b:ae):Option Bool :=
 some (decide (c.w=b.q.w))
def MG(c:List ai)(f:ae):Option Int :=
 jp (S:=Unit) (fun _ =>
  some (-1)) fun g =>
 forL c 0 (fun i j s b l =>
  call (Mh j f) fun k =>
  bif k then
   some (i:Int)
  else
  b ()) () (fun _ =>
  g ())
def zB(b:List ai)(c:ae):Option Bool :=
 call (MG b c) fun f =>
 some (decide (0<=f))
def H8(c:ah)(b:ae):Option Bool :=
 bif decide (b.u=1)then
  call (I9 c.h b.i) fun f =>
  some f
 else
 bif decide (b.u=2)then
  call (pX c b.i.a) fun g =>
  some (!g)
 else
 bif decide (b.u=3)then
  call (zS c.r b.z) fun j =>
  some j
 else
 bif decide (b.u=4)then
  call (zA c.r b) fun k =>
  some (!k)
 else
 bif decide (b.u=5)then
  call (zT c.o b.q) fun l =>
  some l
 else
 call (zB c.o b) fun m =>
 some (!m)
def IR(Q:List ae)(u:Bool)(v:Bool)(w:Int)(n:Bool)(z:Int)(o:List aa)(G:List (dy×ab))(I:List (dy×Int))(J:List (dy×aa))(L:List (dy×ai)):Option (Int×Bool×Bool×Int×Int×(List (dy×ab))×(List (dy×Int))×(List (dy×aa))×(List (dy×ai))) :=
 jp (S:=Bool×Bool×Int×Int×(List (dy×ab))×(List (dy×Int))×(List (dy×aa))×(List (dy×ai))) (fun s=>match s with
  |(B,C,D,E,M,N,O,P) =>
   some (0,B,C,D,E,M,N,O,P)) fun R =>
 forL Q 0 (fun U F s t V =>
  match s with
  |(c,f,g,i,j,k,l,m) =>
   call (CH c f g n i o j k l m) fun p =>
   bif !decide (p.2=0)then
    some (p.2,c,f,g,i,j,k,l,m)
   else
   call (H8 p.1 F) fun T =>
   bif T then
    t (c,f,g,i,j,k,l,m)
   else
   call (GQ F c f g n i o j k l m) fun b =>
   bif !decide (b.1=0)then
    some (b.1,b.2.1,b.2.2.1,b.2.2.2.2.1,b.2.2.2.1,b.2.2.2.2.2.1,b.2.2.2.2.2.2.1,b.2.2.2.2.2.2.2.1,b.2.2.2.2.2.2.2.2)
   else
   t (b.2.1,b.2.2.1,b.2.2.2.2.1,b.2.2.2.1,b.2.2.2.2.2.1,b.2.2.2.2.2.2.1,b.2.2.2.2.2.2.2.1,b.2.2.2.2.2.2.2.2)) (u,v,w,z,G,I,J,L) (fun s=>match s with
  |(c,f,g,i,j,k,l,m) =>
   R (c,f,g,i,j,k,l,m))
def IZ(j:ah)(b:dy):Option (List ae) :=
 jp (S:=List ae) (fun f =>
  call (pX j b) fun o =>
  bif o then
   call (ry b) fun k =>
   dA ((f++[k]).length<=274877906944) <|
   some (f++[k])
  else
  some f) fun m =>
 forL j.h 0 (fun p g c i t =>
  call (AE g.a) fun n =>
  bif (n&&(!decide (g.a=b)))then
   call (ry g.a) fun l =>
   dA ((c++[l]).length<=274877906944) <|
   i (c++[l])
  else
  i c) [] (fun c =>
  m c)
def Mt(v:ah)(j:Bool)(k:Bool)(l:Int)(g:Bool)(m:Int)(i:List aa)(n:List (dy×ab))(o:List (dy×Int))(p:List (dy×aa))(t:List (dy×ai)):Option (dy×Int×Int×Bool×Bool×Int×Int×(List (dy×ab))×(List (dy×Int))×(List (dy×aa))×(List (dy×ai))) :=
 call (zP v.h) fun B =>
 bif !B then
  some ([],1,0,j,k,l,m,n,o,p,t)
 else
 call (Gp v) fun w =>
 call (IH v w.1 w.2) fun u =>
 call (IR u.1 j k l g m i n o p t) fun c =>
 bif !decide (c.1=0)then
  some ([],0,c.1,c.2.1,c.2.2.1,c.2.2.2.1,c.2.2.2.2.1,c.2.2.2.2.2.1,c.2.2.2.2.2.2.1,c.2.2.2.2.2.2.2.1,c.2.2.2.2.2.2.2.2)
 else
 call (DP u.2.1 c.2.1 c.2.2.1 c.2.2.2.1 g c.2.2.2.2.1 i c.2.2.2.2.2.1 c.2.2.2.2.2.2.1 c.2.2.2.2.2.2.2.1 c.2.2.2.2.2.2.2.2) fun b =>
 bif !decide (b.1=0)then
  some ([],0,b.1,b.2.1,b.2.2.1,b.2.2.2.1,b.2.2.2.2.1,b.2.2.2.2.2.1,b.2.2.2.2.2.2.1,b.2.2.2.2.2.2.2.1,b.2.2.2.2.2.2.2.2)
 else
 call (CH b.2.1 b.2.2.1 b.2.2.2.1 g b.2.2.2.2.1 i b.2.2.2.2.2.1 b.2.2.2.2.2.2.1 b.2.2.2.2.2.2.2.1 b.2.2.2.2.2.2.2.2) fun z =>
 bif !decide (z.2=0)then
  some ([],0,z.2,b.2.1,b.2.2.1,b.2.2.2.1,b.2.2.2.2.1,b.2.2.2.2.2.1,b.2.2.2.2.2.2.1,b.2.2.2.2.2.2.2.1,b.2.2.2.2.2.2.2.2)
 else
 call (IZ z.1 u.2.2.1) fun C =>
 call (DP C b.2.1 b.2.2.1 b.2.2.2.1 g b.2.2.2.2.1 i b.2.2.2.2.2.1 b.2.2.2.2.2.2.1 b.2.2.2.2.2.2.2.1 b.2.2.2.2.2.2.2.2) fun f =>
 bif !decide (f.1=0)then
  some ([],0,f.1,f.2.1,f.2.2.1,f.2.2.2.1,f.2.2.2.2.1,f.2.2.2.2.2.1,f.2.2.2.2.2.2.1,f.2.2.2.2.2.2.2.1,f.2.2.2.2.2.2.2.2)
 else
 some (w.1.F,u.2.2.2,0,f.2.1,f.2.2.1,f.2.2.2.1,f.2.2.2.2.1,f.2.2.2.2.2.1,f.2.2.2.2.2.2.1,f.2.2.2.2.2.2.2.1,f.2.2.2.2.2.2.2.2)
def IM(c:Bool)(f:Bool)(g:Int)(j:Bool)(i:Int)(k:List aa)(l:List (dy×ab))(m:List (dy×Int))(n:List (dy×aa))(o:List (dy×ai)):Option (dy×Int×Int×Bool×Bool×Int×Int×(List (dy×ab))×(List (dy×Int))×(List (dy×aa))×(List (dy×ai))) :=
 call (GO c f g j i k l m n o) fun p =>
 bif !decide (p.2=0)then
  some ([],0,p.2,c,f,g,i,l,m,n,o)
 else
 call (Mt p.1 c f g j i k l m n o) fun b =>
 some (b.1,b.2.1,b.2.2.1,b.2.2.2.1,b.2.2.2.2.1,b.2.2.2.2.2.1,b.2.2.2.2.2.2.1,b.2.2.2.2.2.2.2.1,b.2.2.2.2.2.2.2.2.1,b.2.2.2.2.2.2.2.2.2.1,b.2.2.2.2.2.2.2.2.2.2)
def Au(ad:ah)(Z:dy)(af:List ae)(F:List ak):Option (ah×List Int×Int) :=
 call (Gn ad Z af) fun ag =>
 bif !decide (ag.2=0)then
  some ((ah.mk [] [] [] []),[],ag.2)
 else
 call (IQ F) fun an =>
 bif !decide (an=0)then
  some ((ah.mk [] [] [] []),[],an)
 else
 call (Ir ad) fun o =>
 bif !decide (o.1=0)then
  some ((ah.mk [] [] [] []),[],o.1)
 else
 jp (S:=(List (dy×ab))×(List (dy×Int))×(List (dy×aa))×(List (dy×ai))×List aa×Bool×Bool×Int×Bool×Int×List Int) (fun s=>match s with
  |(ax,ay,az,aA,a5,a6,a7,a8,a9,ac,ap) =>
   call (CH a6 a7 a8 a9 ac a5 ax ay az aA) fun aq =>
   some (aq.1,ap,aq.2)) fun aB =>
 loopN eV (fun s a0 aC =>
  match s with
  |(g,c,u,v,w,z,j,k,l,m,f,i,b) =>
   dA ((!c)=true->(0<=IntKind.i64.wrap ((b.length:Int)-1)/\IntKind.i64.wrap ((b.length:Int)-1)<(b.length:Int))) <|
   bif (c||(decide ((b.getD ((IntKind.i64.wrap ((b.length:Int)-1)).toNat) 0)=(-1))))then
    jp (S:=(List (dy×ab))×(List (dy×Int))×(List (dy×aa))×(List (dy×ai))×List aa×Bool×Bool) (fun s=>match s with
     |(T,U,V,W,n,D,G) =>
      jp (S:=List ak×Bool×Int×Bool) (fun s=>match s with
       |(I,J,M,p) =>
        jp (S:=Int×Int×(List (dy×ab))×(List (dy×Int))×(List (dy×aa))×(List (dy×ai))×Bool×Bool×Int×Int) (fun s=>match s with
         |(Y,X,a1,a2,a3,a4,O,P,Q,R) =>
          bif decide (Y=0)then
           dA ((b++[X]).length<=274877906944) <|
           a0 (I,false,a1,a2,a3,a4,n,O,P,Q,p,R,b++[X])
          else
          bif decide (Y=18)then
           dA ((b++[(-1)]).length<=274877906944) <|
           a0 (I,false,a1,a2,a3,a4,n,O,P,Q,p,R,b++[(-1)])
          else
          some ((ah.mk [] [] [] []),[],Y)) fun ar =>
        bif c then
         call (Iv Z af D J M p i n T U V W) fun B =>
         ar (B.1,0,B.2.2.2.2.2.1,B.2.2.2.2.2.2.1,B.2.2.2.2.2.2.2.1,B.2.2.2.2.2.2.2.2,B.2.1,B.2.2.1,B.2.2.2.1,B.2.2.2.2.1)
        else
        call (IM D J M p i n T U V W) fun t =>
        ar (t.2.2.1,t.2.1,t.2.2.2.2.2.2.2.1,t.2.2.2.2.2.2.2.2.1,t.2.2.2.2.2.2.2.2.2.1,t.2.2.2.2.2.2.2.2.2.2,t.2.2.2.1,t.2.2.2.2.1,t.2.2.2.2.2.1,t.2.2.2.2.2.2.1)) fun au =>
      bif decide (0<(g.length:Int))then
       eB g 0 fun av =>
       call (II av.L av.N D G m f i n T U V W) fun E =>
       bif !decide (E.1=0)then
        some ((ah.mk [] [] [] []),[],E.1)
       else
       dA (0<=1/\1<=(g.length:Int)) <|
       au (List.drop 1 g,E.2.1,E.2.2.1,E.2.2.2)
      else
      au (g,G,m,f)) fun aw =>
    bif !c then
     call (IV k l m f i j u v w z) fun C =>
     bif !decide (C.1=0)then
      some ((ah.mk [] [] [] []),[],C.1)
     else
     aw (C.2.2.2.2.1,C.2.2.2.2.2.1,C.2.2.2.2.2.2.1,C.2.2.2.2.2.2.2,C.2.2.2.1,C.2.1,C.2.2.1)
    else
    aw (u,v,w,z,j,k,l)
   else
   aC (g,c,u,v,w,z,j,k,l,m,f,i,b)) (F,true,o.2.2.2.2.2.1,o.2.2.2.2.2.2.1,o.2.2.2.2.2.2.2.1,o.2.2.2.2.2.2.2.2.1,o.2.2.2.2.2.2.2.2.2.1,o.2.2.2.2.2.2.2.2.2.2.1,o.2.2.2.2.2.2.2.2.2.2.2.1,o.2.2.2.2.2.2.2.2.2.2.2.2.1,o.2.2.2.2.2.2.2.2.2.2.2.2.2.1,o.2.2.2.2.2.2.2.2.2.2.2.2.2.2,[]) (fun s=>match s with
  |(g,c,u,v,w,z,j,k,l,m,f,i,b) =>
   aB (u,v,w,z,j,k,l,m,f,i,b))
def FJ(f:ah):Option ah :=
 call (zu f.o) fun g =>
 jp (S:=List ai) (fun i =>
  some (ah.mk f.y f.h f.r i)) fun k =>
 loopN eV (fun s j l =>
  match s with
  |(b,c) =>
   bif decide (b<(g.length:Int))then
    dA (0<=b/\b<(c.length:Int)) <|
    dA (0<=b/\b<(c.length:Int)) <|
    j (IntKind.i64.wrap (b+1),List.set c b.toNat (ai.mk ((c.getD b.toNat (ai.mk [] [] false false)).w) ((c.getD b.toNat (ai.mk [] [] false false)).a) ((c.getD b.toNat (ai.mk [] [] false false)).D) ((c.getD b.toNat (ai.mk [] [] false false)).D)))
   else
   l (b,c)) (0,g) (fun s=>match s with
  |(b,c) =>
   k c)
def zL(b:List aa)(c:List aa):Option Bool :=
 bif !decide ((b.length:Int)=(c.length:Int))then
  some false
 else
 jp (S:=Unit) (fun _ =>
  some true) fun j =>
 forL b 0 (fun l f s i m =>
  eB c (l:Int) fun g =>
  bif !((decide (f.k=g.k))&&(decide (f.Value=g.Value)))then
   some false
  else
  i ()) () (fun _ =>
  j ())
def I8(b:List ab)(c:List ab):Option Bool :=
 bif !decide ((b.length:Int)=(c.length:Int))then
  some false
 else
 jp (S:=Unit) (fun _ =>
  some true) fun j =>
 forL b 0 (fun k f s i l =>
  eB c (k:Int) fun g =>
  bif !((decide (f.a=g.a))&&((decide (f.B=g.B))&&(decide (f.C=g.C))))then
   some false
  else
  i ()) () (fun _ =>
  j ())
def Jb(f:List ai)(g:List ai):Option Bool :=
 bif !decide ((f.length:Int)=(g.length:Int))then
  some false
 else
 jp (S:=Unit) (fun _ =>
  some true) fun j =>
 forL f 0 (fun k b s i l =>
  eB g (k:Int) fun c =>
  bif !((decide (b.w=c.w))&&((decide (b.a=c.a))&&((decide (b.D=c.D))&&(decide (b.E=c.E)))))then
   some false
  else
  i ()) () (fun _ =>
  j ())
def jm(b:ah)(c:ah):Option Bool :=
 call (zL b.y c.y) fun f =>
 callG f (I8 b.h c.h) false fun g =>
 callG (f&&g) (zL b.r c.r) false fun i =>
 callG ((f&&g)&&i) (Jb b.o c.o) false fun j =>
 some (((f&&g)&&i)&&j)
def LJ(D:ah)(t:dy)(E:List ae)(k:List ak):Option Bool :=
 call (Ia) fun F =>
 bif !F then
  some false
 else
 call (Hj D) fun G =>
 call (FY G) fun f =>
 call (Ib f E false) fun j =>
 callG (!(decide ((j.length:Int)=0))) (Aq t) false fun I =>
 bif ((decide ((j.length:Int)=0))||(!I))then
  some true
 else
 call (Au f t j k) fun b =>
 bif !decide (b.2.2=0)then
  some ((decide (b.2.2=4))||(decide (b.2.2=3)))
 else
 call (Ax f j) fun i =>
 bif ((!decide (i.2=0))||(decide ((b.2.1.length:Int)=0)))then
  some false
 else
 jp (S:=List aa×List ab×List aa×List ai) (fun s=>match s with
  |(l,m,n,p) =>
   jp (S:=Unit) (fun _ =>
    call (FJ b.1) fun J =>
    call (FJ (ah.mk l m n p)) fun L =>
    call (jm J L) fun M =>
    some M) fun N =>
   dA (0<=IntKind.i64.wrap ((b.2.1.length:Int)-1)/\IntKind.i64.wrap ((b.2.1.length:Int)-1)<=(b.2.1.length:Int)) <|
   loopN eV (fun c z O =>
    fj (decide (c<((List.take ((IntKind.i64.wrap ((b.2.1.length:Int)-1)).toNat) b.2.1).length:Int))) fun P =>
    bif P then
     eB (List.take ((IntKind.i64.wrap ((b.2.1.length:Int)-1)).toNat) b.2.1) c fun Q =>
     bif !decide (Q=(-1))then
      some false
     else
     z (IntKind.i64.wrap (c+1))
    else
    O c) 0 (fun c =>
    N ())) fun B =>
 eB b.2.1 (IntKind.i64.wrap ((b.2.1.length:Int)-1)) fun g =>
 jp (S:=Bool) (fun u =>
  bif u then
   B (i.1.y,i.1.h,i.1.r,i.1.o)
  else
  jp (S:=Bool) (fun v =>
   bif v then
    B (f.y,f.h,f.r,f.o)
   else
   some false) fun C =>
  bif decide (g=1)then
   C (decide (g=1))
  else
  C (decide (g=2))) fun w =>
 bif decide (g=0)then
  w (decide (g=0))
 else
 w (decide (g=3))
end
end Go.Md
