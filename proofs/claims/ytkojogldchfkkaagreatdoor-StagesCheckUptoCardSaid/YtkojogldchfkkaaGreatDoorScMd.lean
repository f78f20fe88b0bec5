/- Models of the functions that the statement reaches: what each computes, in plain words. -/
import Derived.Test.YtkojogldchfkkaaGreatDoorVc3
set_option linter.unusedVariables false
open List
namespace Go.Md
open Go.Vc
noncomputable section
def tabL_1:List Int:=[1,10,100,1000,10000,100000,1000000,10000000,100000000,1000000000,10000000000,100000000000,1000000000000,10000000000000,100000000000000,1000000000000000,10000000000000000,100000000000000000,1000000000000000000,10000000000000000000]
theorem pU:tabL_1.length=20:=rfl
def tabL_7:List Int:=[0,1,56,2,57,49,28,3,61,58,42,50,38,29,17,4,62,47,59,36,45,43,51,22,53,39,33,30,24,18,12,5,63,55,48,27,60,41,37,16,46,35,44,21,52,32,23,11,54,26,40,15,34,20,31,10,25,14,19,9,13,8,7,6]
theorem pR:tabL_7.length=64:=rfl
instance theTabs:Tabs:=⟨fun b=>bif Nat.beq b 1 then some (.u64,tabL_1)else bif Nat.beq b 7 then some (.u8,tabL_7)else none,fun b=>bif Nat.beq b 2 then true else bif Nat.beq b 3 then true else false⟩
theorem Jj:Tabs.ifc 2=true:=rfl
theorem Ji:Tabs.ifc 3=true:=rfl
theorem tab_1:Tabs.tab 1=some (.u64,tabL_1):=rfl
attribute [go_sem] tab_1 pU
theorem IK:Tabs.tab 7=some (.u8,tabL_7):=rfl
attribute [go_sem] IK pR
def fl(b:Bool):List Dt:=[.b b]
def eD(x:eA):List Dt:=[.s x]
def N5(n:Int):List Dt:=[.i .i8 n]
def Lt(n:Int):List Dt:=[.i .i16 n]
def rF(n:Int):List Dt:=[.i .i32 n]
def zE(n:Int):List Dt:=[.i .i64 n]
def fv(n:Int):List Dt:=[.i .u8 n]
def Ls(n:Int):List Dt:=[.i .u16 n]
def rD(n:Int):List Dt:=[.i .u32 n]
def rC(n:Int):List Dt:=[.i .u64 n]
theorem Ep:∀r,fh r [.s]->∃x,r=eD x:=by
 intro r h
 rcases r with _|⟨d,_|_⟩ <;> simp only[fh,and_false,and_true]at h
 cases d <;> simp only[ff]at h
 exact⟨_,rfl⟩
theorem Jq:∀r,fh r [.i .i64]->∃x,r=zE x:=by
 intro r h
 rcases r with _|⟨d,_|_⟩ <;> simp only[fh,and_false,and_true]at h
 cases d <;> simp only[ff]at h
 subst h;exact⟨_,rfl⟩
theorem Lv:∀r,fh r [.i .u8]->∃x,r=fv x:=by
 intro r h
 rcases r with _|⟨d,_|_⟩ <;> simp only[fh,and_false,and_true]at h
 cases d <;> simp only[ff]at h
 subst h;exact⟨_,rfl⟩
structure aa where
 e:eA
 Value:eA
def za(x:aa):List Dt:=[.s x.e,.s x.Value]
def KJ:List Sh:=[.s,.s]
theorem PX:∀r,fh r KJ->∃x:aa,r=za x:=by
 intro r h;unfold KJ at h
 rcases r with _|⟨d0,_|⟨d1,_|_⟩⟩ <;> simp only[fh,and_false,and_true]at h
 obtain⟨h0,h1⟩:=h
 cases d0 <;> simp only[ff]at h0
 cases d1 <;> simp only[ff]at h1
 exact⟨⟨_,_⟩,rfl⟩
structure ab where
 a:eA
 q:eA
 r:Bool
def zc(x:ab):List Dt:=[.s x.a,.s x.q,.b x.r]
def MX:List Sh:=[.s,.s,.b]
theorem me:∀r,fh r MX->∃x:ab,r=zc x:=by
 intro r h;unfold MX at h
 rcases r with _|⟨d0,_|⟨d1,_|⟨d2,_|_⟩⟩⟩ <;> simp only[fh,and_false,and_true]at h
 obtain⟨h0,h1,h2⟩:=h
 cases d0 <;> simp only[ff]at h0
 cases d1 <;> simp only[ff]at h1
 cases d2 <;> simp only[ff]at h2
 exact⟨⟨_,_,_⟩,rfl⟩
structure ah where
 j:eA
 a:eA
 u:Bool
 t:Bool
def zb(x:ah):List Dt:=[.s x.j,.s x.a,.b x.u,.b x.t]
def Nk:List Sh:=[.s,.s,.b,.b]
theorem Rm:∀r,fh r Nk->∃x:ah,r=zb x:=by
 intro r h;unfold Nk at h
 rcases r with _|⟨d0,_|⟨d1,_|⟨d2,_|⟨d3,_|_⟩⟩⟩⟩ <;> simp only[fh,and_false,and_true]at h
 obtain⟨h0,h1,h2,h3⟩:=h
 cases d0 <;> simp only[ff]at h0
 cases d1 <;> simp only[ff]at h1
 cases d2 <;> simp only[ff]at h2
 cases d3 <;> simp only[ff]at h3
 exact⟨⟨_,_,_,_⟩,rfl⟩
structure ai where
 m:List aa
 b:List ab
 i:List aa
 h:List ah
def zK(x:ai):List Dt:=[.l (List.map za x.m),.l (List.map zc x.b),.l (List.map za x.i),.l (List.map zb x.h)]
def KI:List Sh:=[.l KJ,.l MX,.l KJ,.l Nk]
theorem Rl:∀r,fh r KI->∃x:ai,r=zK x:=by
 intro r h;unfold KI at h
 rcases r with _|⟨d0,_|⟨d1,_|⟨d2,_|⟨d3,_|_⟩⟩⟩⟩ <;> simp only[fh,and_false,and_true]at h
 obtain⟨h0,h1,h2,h3⟩:=h
 cases d0 <;> simp only[ff]at h0
 obtain⟨l0,rfl⟩:=yJ PX h0
 cases d1 <;> simp only[ff]at h1
 obtain⟨l1,rfl⟩:=yJ me h1
 cases d2 <;> simp only[ff]at h2
 obtain⟨l2,rfl⟩:=yJ PX h2
 cases d3 <;> simp only[ff]at h3
 obtain⟨l3,rfl⟩:=yJ Rm h3;exact⟨⟨_,_,_,_⟩,rfl⟩
structure ae where
 k:Int
 g:ab
 o:aa
 f:ah
def zf(x:ae):List Dt:=[.i .i64 x.k,.s x.g.a,.s x.g.q,.b x.g.r,.s x.o.e,.s x.o.Value,.s x.f.j,.s x.f.a,.b x.f.u,.b x.f.t]
def CV:List Sh:=[.i .i64,.s,.s,.b,.s,.s,.s,.s,.b,.b]
set_option maxRecDepth 100000 in
theorem KK:∀r,fh r CV->∃x:ae,r=zf x:=by
 intro r h;unfold CV at h
 rcases r with _|⟨d0,_|⟨d1,_|⟨d2,_|⟨d3,_|⟨d4,_|⟨d5,_|⟨d6,_|⟨d7,_|⟨d8,_|⟨d9,_|_⟩⟩⟩⟩⟩⟩⟩⟩⟩⟩ <;> simp only[fh,and_false,and_true]at h
 obtain⟨h0,h1,h2,h3,h4,h5,h6,h7,h8,h9⟩:=h
 cases d0 <;> simp only[ff]at h0
 subst h0
 cases d1 <;> simp only[ff]at h1
 cases d2 <;> simp only[ff]at h2
 cases d3 <;> simp only[ff]at h3
 cases d4 <;> simp only[ff]at h4
 cases d5 <;> simp only[ff]at h5
 cases d6 <;> simp only[ff]at h6
 cases d7 <;> simp only[ff]at h7
 cases d8 <;> simp only[ff]at h8
 cases d9 <;> simp only[ff]at h9
 exact⟨⟨_,⟨_,_,_⟩,⟨_,_⟩,⟨_,_,_,_⟩⟩,rfl⟩
structure al where
 kind:Int
 name:eA
def zU(x:al):List Dt:=[.i .i64 x.kind,.s x.name]
def PQ:List Sh:=[.i .i64,.s]
theorem uB:∀r,fh r PQ->∃x:al,r=zU x:=by
 intro r h;unfold PQ at h
 rcases r with _|⟨d0,_|⟨d1,_|_⟩⟩ <;> simp only[fh,and_false,and_true]at h
 obtain⟨h0,h1⟩:=h
 cases d0 <;> simp only[ff]at h0
 subst h0
 cases d1 <;> simp only[ff]at h1
 exact⟨⟨_,_⟩,rfl⟩
structure aj where
 v:eA
 y:List ae
 z:List ae
def yS(x:aj):List Dt:=[.s x.v,.l (List.map zf x.y),.l (List.map zf x.z)]
def PP:List Sh:=[.s,.l CV,.l CV]
theorem uC:∀r,fh r PP->∃x:aj,r=yS x:=by
 intro r h;unfold PP at h
 rcases r with _|⟨d0,_|⟨d1,_|⟨d2,_|_⟩⟩⟩ <;> simp only[fh,and_false,and_true]at h
 obtain⟨h0,h1,h2⟩:=h
 cases d0 <;> simp only[ff]at h0
 cases d1 <;> simp only[ff]at h1
 obtain⟨l1,rfl⟩:=yJ KK h1
 cases d2 <;> simp only[ff]at h2
 obtain⟨l2,rfl⟩:=yJ KK h2;exact⟨⟨_,_,_⟩,rfl⟩
structure ak where
 A:eA
 C:ab
 D:aa
 B:ah
def CX(x:ak):List Dt:=[.s x.A,.s x.C.a,.s x.C.q,.b x.C.r,.s x.D.e,.s x.D.Value,.s x.B.j,.s x.B.a,.b x.B.u,.b x.B.t]
def Ps:List Sh:=[.s,.s,.s,.b,.s,.s,.s,.s,.b,.b]
set_option maxRecDepth 100000 in
theorem ye:∀r,fh r Ps->∃x:ak,r=CX x:=by
 intro r h;unfold Ps at h
 rcases r with _|⟨d0,_|⟨d1,_|⟨d2,_|⟨d3,_|⟨d4,_|⟨d5,_|⟨d6,_|⟨d7,_|⟨d8,_|⟨d9,_|_⟩⟩⟩⟩⟩⟩⟩⟩⟩⟩ <;> simp only[fh,and_false,and_true]at h
 obtain⟨h0,h1,h2,h3,h4,h5,h6,h7,h8,h9⟩:=h
 cases d0 <;> simp only[ff]at h0
 cases d1 <;> simp only[ff]at h1
 cases d2 <;> simp only[ff]at h2
 cases d3 <;> simp only[ff]at h3
 cases d4 <;> simp only[ff]at h4
 cases d5 <;> simp only[ff]at h5
 cases d6 <;> simp only[ff]at h6
 cases d7 <;> simp only[ff]at h7
 cases d8 <;> simp only[ff]at h8
 cases d9 <;> simp only[ff]at h9
 exact⟨⟨_,⟨_,_,_⟩,⟨_,_⟩,⟨_,_,_,_⟩⟩,rfl⟩
structure am where
 A:eA
 l:List ae
def BF(x:am):List Dt:=[.s x.A,.l (List.map zf x.l)]
def O5:List Sh:=[.s,.l CV]
theorem AM:∀r,fh r O5->∃x:am,r=BF x:=by
 intro r h;unfold O5 at h
 rcases r with _|⟨d0,_|⟨d1,_|_⟩⟩ <;> simp only[fh,and_false,and_true]at h
 obtain⟨h0,h1⟩:=h
 cases d0 <;> simp only[ff]at h0
 cases d1 <;> simp only[ff]at h1
 obtain⟨l1,rfl⟩:=yJ KK h1;exact⟨⟨_,_⟩,rfl⟩
instance instDec_stage_place:DecidableEq al:=fun a b=>decidable_of_iff (a.kind=b.kind/\a.name=b.name) (by cases a;cases b;simp)
def C0(x:al):Dt:=.a (zU x)
theorem Nf(a b:al):fS (C0 a) (C0 b)=decide (a=b):=by
 rw[Bool.eq_iff_iff];obtain⟨a0,a1⟩:=a;obtain⟨b0,b1⟩:=b;simp only[fS,C0,zU,go,Bool.and_true,Bool.and_eq_true,decide_eq_true_eq,al.mk.injEq];exact⟨fun h=>by simp only[h,and_self],fun h=>by simp only[h,and_self]⟩
theorem Ry{V:Type}(e:V->List Dt)(l:List (al×V)):jM (.ks [.i .i64,.s]) (zm C0 e l)=True:=rl (kd:=zU) (fun x=>by simp[zJ,zU]) e l
attribute [go_sem] Ry
theorem Du:∀l,fC (1) (List.map fl l)=True:=fun l=>eq_true (by intro r hr;obtain⟨x,_,rfl⟩:=mem_map.1 hr;rfl)
theorem Ds:∀l,fC (1) (List.map eD l)=True:=fun l=>eq_true (by intro r hr;obtain⟨x,_,rfl⟩:=mem_map.1 hr;rfl)
theorem pX:∀l,fC (1) (List.map zE l)=True:=fun l=>eq_true (by intro r hr;obtain⟨x,_,rfl⟩:=mem_map.1 hr;rfl)
theorem sI:∀l,fC (1) (List.map fv l)=True:=fun l=>eq_true (by intro r hr;obtain⟨x,_,rfl⟩:=mem_map.1 hr;rfl)
theorem pV:∀l,fC (1) (List.map rC l)=True:=fun l=>eq_true (by intro r hr;obtain⟨x,_,rfl⟩:=mem_map.1 hr;rfl)
theorem pY:∀l,fC (1) (List.map rF l)=True:=fun l=>eq_true (by intro r hr;obtain⟨x,_,rfl⟩:=mem_map.1 hr;rfl)
theorem pW:∀l,fC (1) (List.map rD l)=True:=fun l=>eq_true (by intro r hr;obtain⟨x,_,rfl⟩:=mem_map.1 hr;rfl)
theorem R5:∀l,fC (2) (List.map za l)=True:=fun l=>eq_true (by intro r hr;obtain⟨x,_,rfl⟩:=mem_map.1 hr;rfl)
theorem Rw:∀l,fC (3) (List.map zc l)=True:=fun l=>eq_true (by intro r hr;obtain⟨x,_,rfl⟩:=mem_map.1 hr;rfl)
theorem R4:∀l,fC (4) (List.map zb l)=True:=fun l=>eq_true (by intro r hr;obtain⟨x,_,rfl⟩:=mem_map.1 hr;rfl)
theorem R3:∀l,fC (4) (List.map zK l)=True:=fun l=>eq_true (by intro r hr;obtain⟨x,_,rfl⟩:=mem_map.1 hr;rfl)
theorem RT:∀l,fC (10) (List.map zf l)=True:=fun l=>eq_true (by intro r hr;obtain⟨x,_,rfl⟩:=mem_map.1 hr;rfl)
theorem R6:∀l,fC (2) (List.map zU l)=True:=fun l=>eq_true (by intro r hr;obtain⟨x,_,rfl⟩:=mem_map.1 hr;rfl)
theorem RS:∀l,fC (3) (List.map yS l)=True:=fun l=>eq_true (by intro r hr;obtain⟨x,_,rfl⟩:=mem_map.1 hr;rfl)
theorem RN:∀l,fC (10) (List.map CX l)=True:=fun l=>eq_true (by intro r hr;obtain⟨x,_,rfl⟩:=mem_map.1 hr;rfl)
theorem Rv:∀l,fC (2) (List.map BF l)=True:=fun l=>eq_true (by intro r hr;obtain⟨x,_,rfl⟩:=mem_map.1 hr;rfl)
theorem o8:∀l:List Int,gc (List.map fv l)=True
 |[]=>by simp only[map_nil,gc]
 |_::l=>by simp only[map_cons,fv,gc,o8 l,and_self]
theorem qP:∀l:List Int,g9 (List.map fv l)=Go.Vc.strOf l
 |[]=>by simp only[map_nil,g9,Go.Vc.strOf]
 |_::l=>by simp only[map_cons,fv,g9,qP l,Go.Vc.strOf]
theorem EA(l:eA):bR l=List.map fv (xR l):=by simp[bR,xR,fv]
attribute [go_sem] o8 qP EA
attribute [go_sem] fl eD zE fv rC rF rD za zc zb zK zf zU yS CX BF Du Ds pX sI pV pY pW R5 Rw R4 R3 RT R6 RS RN Rv
def Bx(b:Int):Option Bool :=
 some ((decide (97<=b))&&(decide (b<=122)))
def Fp(b:Int):Option Bool :=
 some ((decide (48<=b))&&(decide (b<=57)))
def HH(b:Int):Option Bool :=
 call (Bx b) fun c =>
 callG (!c) (Fp b) false fun f =>
 some (((c||f)||(decide (b=45)))||(decide (b=46)))
def Kq(b:eA)(c:Int):Option Bool :=
 jp (S:=Unit) (fun _ =>
  some ((!decide (b=[]))&&(decide ((b.length:Int)<=c)))) fun g =>
 forL b 0 (fun k i s f l =>
  call (HH (i.toNat:Int)) fun j =>
  bif !j then
   some false
  else
  f ()) () (fun _ =>
  g ())
def sw(b:eA):Option Bool :=
 call (Kq b 40) fun c =>
 eB (c=true->(0<=0/\0<(b.length:Int))) <|
 callG c (Bx ((b.getD 0 0).toNat:Int)) false fun f =>
 some (c&&f)
def G4 :Option Bool :=
 call (sw ([97]:eA)) fun b =>
 some b
def xW(c:eA):Option Bool :=
 jp (S:=Unit) (fun _ =>
  some ((!decide (c=[]))&&(decide ((c.length:Int)<=40)))) fun g =>
 forL c 0 (fun i b s f j =>
  bif (((decide ((i:Int)=0))&&(!((decide (97<=(b.toNat:Int)))&&(decide ((b.toNat:Int)<=122)))))||((((!((decide (97<=(b.toNat:Int)))&&(decide ((b.toNat:Int)<=122))))&&((decide ((b.toNat:Int)<48))||(decide (57<(b.toNat:Int)))))&&(!decide ((b.toNat:Int)=45)))&&(!decide ((b.toNat:Int)=46))))then
   some false
  else
  f ()) () (fun _ =>
  g ())
def CG(b:eA):Option Bool :=
 jp (S:=Unit) (fun _ =>
  some (decide ((b.length:Int)<=1000))) fun g =>
 forL b 0 (fun i c s f j =>
  bif ((decide ((c.toNat:Int)<32))||(decide (126<(c.toNat:Int))))then
   some false
  else
  f ()) () (fun _ =>
  g ())
def ND(b:eA)(c:eA):Option Int :=
 some (iQ b c)
def C1(b:eA)(c:eA):Option Int :=
 call (ND b c) fun f =>
 some f
def J8(b:aa)(c:aa):Option Int :=
 call (C1 b.e c.e) fun f =>
 some f
def zn(g:Int)(t:Int)(l:List aa):Option (List aa) :=
 loopN fJ (fun s m u =>
  match s with
  |(i,f) =>
   bif decide (i<t)then
    jp (S:=List aa) (fun j =>
     m (IntKind.i64.wrap (i+1),j)) fun n =>
    loopN fJ (fun s k o =>
     match s with
     |(b,c) =>
      eB ((decide (g<b))=true->(0<=b/\b<(c.length:Int))) <|
      eB ((decide (g<b))=true->(0<=IntKind.i64.wrap (b-1)/\IntKind.i64.wrap (b-1)<(c.length:Int))) <|
      callG (decide (g<b)) (J8 (aa.mk ((c.getD b.toNat (aa.mk [] [])).e) ((c.getD b.toNat (aa.mk [] [])).Value)) (aa.mk ((c.getD ((IntKind.i64.wrap (b-1)).toNat) (aa.mk [] [])).e) ((c.getD ((IntKind.i64.wrap (b-1)).toNat) (aa.mk [] [])).Value))) 0 fun p =>
      bif ((decide (g<b))&&(decide (p<0)))then
       eB (0<=IntKind.i64.wrap (b-1)/\IntKind.i64.wrap (b-1)<(c.length:Int)) <|
       eB (0<=b/\b<(c.length:Int)) <|
       eB (0<=b/\b<(c.length:Int)) <|
       eB (0<=IntKind.i64.wrap (b-1)/\IntKind.i64.wrap (b-1)<((List.set c b.toNat (aa.mk ((c.getD ((IntKind.i64.wrap (b-1)).toNat) (aa.mk [] [])).e) ((c.getD ((IntKind.i64.wrap (b-1)).toNat) (aa.mk [] [])).Value))).length:Int)) <|
       k (IntKind.i64.wrap (b-1),List.set (List.set c b.toNat (aa.mk ((c.getD ((IntKind.i64.wrap (b-1)).toNat) (aa.mk [] [])).e) ((c.getD ((IntKind.i64.wrap (b-1)).toNat) (aa.mk [] [])).Value))) ((IntKind.i64.wrap (b-1)).toNat) (aa.mk ((c.getD b.toNat (aa.mk [] [])).e) ((c.getD b.toNat (aa.mk [] [])).Value)))
      else
      o (b,c)) (i,f) (fun s=>match s with
     |(b,c) =>
      n c)
   else
   u (i,f)) (IntKind.i64.wrap (g+1),l) (fun s=>match s with
  |(i,f) =>
   some f)
def Le(g:Int)(l:List aa):Option (List aa) :=
 jp (S:=Int×List aa) (fun s=>match s with
  |(z,m) =>
   call (zn z g m) fun B =>
   loopN fJ (fun b j n =>
    bif decide (b<g)then
     jp (S:=Unit) (fun _ =>
      bif decide ((IntKind.i64.wrap (0+b))<g)then
       none
      else
      j (IntKind.i64.wrap (b*2))) fun o =>
     loopN fJ (fun s C p =>
      bif decide ((IntKind.i64.wrap (2*b))<=g)then
       none
      else
      p ()) () (fun _ =>
      o ())
    else
    n b) 20 (fun b =>
    some B)) fun t =>
 loopN fJ (fun s k u =>
  match s with
  |(i,c,f) =>
   bif decide (c<=g)then
    call (zn i c f) fun v =>
    k (c,IntKind.i64.wrap (c+20),v)
   else
   u (i,c,f)) (0,20,l) (fun s=>match s with
  |(i,c,f) =>
   t (i,f))
def zz(b:List aa):Option (List aa) :=
 call (Le (b.length:Int) b) fun c =>
 some c
def GS(b:aa)(c:aa):Option Bool :=
 some (decide (b.e=c.e))
def zH(b:List aa):Option (Nat×Nat×List aa) :=
 bif decide (((List.take b.length b).length:Int)<2)then
  some (0,b.length,b)
 else
 jp (S:=Unit) (fun _ =>
  some (0,b.length,b)) fun z =>
 loopN fJ (fun c m n =>
  bif decide (c<((List.take b.length b).length:Int))then
   jp (S:=Unit) (fun _ =>
    m (IntKind.i64.wrap (c+1))) fun o =>
   eB (0<=c/\c<(b.length:Int)) <|
   eB (0<=IntKind.i64.wrap (c-1)/\IntKind.i64.wrap (c-1)<(b.length:Int)) <|
   call (GS (aa.mk ((b.getD (c.toNat:Nat) (aa.mk [] [])).e) ((b.getD (c.toNat:Nat) (aa.mk [] [])).Value)) (aa.mk ((b.getD ((IntKind.i64.wrap (c-1)).toNat:Nat) (aa.mk [] [])).e) ((b.getD ((IntKind.i64.wrap (c-1)).toNat:Nat) (aa.mk [] [])).Value))) fun p =>
   bif p then
    eB (0<=c/\c<=(b.length:Int)) <|
    jp (S:=Int×List aa) (fun s=>match s with
     |(i,k) =>
      eB (0<=i/\i<=(b.length:Int)) <|
      eB (0<=i/\i<=(b.length:Int)) <|
      some (0,i.toNat,List.take i.toNat k++List.replicate (b.length-i.toNat) (aa.mk [] [])++List.drop (i.toNat+(b.length-i.toNat)) k)) fun t =>
    loopN fJ (fun s l u =>
     match s with
     |(j,f,g) =>
      bif decide (f<((List.take (b.length-c.toNat) (List.drop c.toNat g)).length:Int))then
       eB (0<=f/\f<(b.length-c.toNat:Int)) <|
       eB (c.toNat+f.toNat<g.length) <|
       eB (0<=IntKind.i64.wrap (f-1)/\IntKind.i64.wrap (f-1)<(b.length-c.toNat:Int)) <|
       eB (c.toNat+((IntKind.i64.wrap (f-1)).toNat)<g.length) <|
       call (GS (aa.mk ((g.getD (c.toNat+f.toNat:Nat) (aa.mk [] [])).e) ((g.getD (c.toNat+f.toNat:Nat) (aa.mk [] [])).Value)) (aa.mk ((g.getD (c.toNat+((IntKind.i64.wrap (f-1)).toNat):Nat) (aa.mk [] [])).e) ((g.getD (c.toNat+((IntKind.i64.wrap (f-1)).toNat):Nat) (aa.mk [] [])).Value))) fun v =>
       bif !v then
        eB (0<=f/\f<(b.length-c.toNat:Int)) <|
        eB (c.toNat+f.toNat<g.length) <|
        eB (0<=j/\j<(b.length:Int)) <|
        eB (j.toNat<g.length) <|
        l (IntKind.i64.wrap (j+1),IntKind.i64.wrap (f+1),List.set g (j.toNat:Nat) (aa.mk ((g.getD (c.toNat+f.toNat:Nat) (aa.mk [] [])).e) ((g.getD (c.toNat+f.toNat:Nat) (aa.mk [] [])).Value)))
       else
       l (j,IntKind.i64.wrap (f+1),g)
      else
      u (j,f,g)) (c,1,b) (fun s=>match s with
     |(j,f,g) =>
      t (j,g))
   else
   o ()
  else
  n c) 1 (fun c =>
  z ())
def pG(b:Bool)(c:Int):Option Int :=
 bif b then
  some c
 else
 some 0
def BE(f:Int)(c:eA)(b:eA):Option (Int×eA) :=
 call (pG ((decide (0<f))&&(lh c b||decide (c=b))) 7) fun g =>
 some (g,c)
def lu(f:List Int):Option Int :=
 jp (S:=Unit) (fun _ =>
  some 0) fun g =>
 forL f 0 (fun i b s c j =>
  bif !decide (b=0)then
   some b
  else
  c ()) () (fun _ =>
  g ())
def F2(b:eA)(c:Int):Option Int :=
 some (xO b c)
def FX(c:eA)(b:eA):Option Int :=
 bif ((decide ((b.length:Int)=0))||(decide (b=c)))then
  some 0
 else
 bif decide ((b.length:Int)=1)then
  fN b 0 fun f =>
  call (F2 c f) fun g =>
  some g
 else
 bif decide ((c.length:Int)<=(b.length:Int))then
  some (-1)
 else
 none
def yP(c:eA)(b:eA):Option Int :=
 call (FX c b) fun f =>
 some f
def HN(i:eA)(b:eA):Option Int :=
 bif decide ((b.length:Int)=0)then
  none
 else
 bif decide ((b.length:Int)=1)then
  fN b 0 fun k =>
  some (yy i k)
 else
 loopN fJ (fun s j l =>
  match s with
  |(c,g) =>
   call (yP c b) fun f =>
   bif decide (f=(-1))then
    some g
   else
   eB (0<=IntKind.i64.wrap (f+(b.length:Int))/\IntKind.i64.wrap (f+(b.length:Int))<=(c.length:Int)) <|
   j (List.drop ((IntKind.i64.wrap (f+(b.length:Int))).toNat) c,IntKind.i64.wrap (g+1))) (i,0) (fun s=>match s with
  |(c,g) =>
   none)
def BJ(j:eA)(c:eA)(b:Int)(o:Int):Option (List eA) :=
 bif decide (o=0)then
  some []
 else
 bif decide (c=[])then
  none
 else
 jp (S:=Int) (fun m =>
  eB (0<=min m (IntKind.i64.wrap ((j.length:Int)+1))/\min m (IntKind.i64.wrap ((j.length:Int)+1))<=min m (IntKind.i64.wrap ((j.length:Int)+1))/\min m (IntKind.i64.wrap ((j.length:Int)+1))<=274877906944) <|
  jp (S:=eA×Int×List eA) (fun s=>match s with
   |(p,k,n) =>
    eB (0<=k/\k<(n.length:Int)) <|
    eB (0<=IntKind.i64.wrap (k+1)/\IntKind.i64.wrap (k+1)<=((List.set n k.toNat p).length:Int)) <|
    some (List.take ((IntKind.i64.wrap (k+1)).toNat) (List.set n k.toNat p))) fun z =>
  loopN fJ (fun s v t =>
   match s with
   |(f,g,i) =>
    bif decide (g<(IntKind.i64.wrap ((min m (IntKind.i64.wrap ((j.length:Int)+1)))-1)))then
     call (yP f c) fun l =>
     bif decide (l<0)then
      t (f,g,i)
     else
     eB (0<=IntKind.i64.wrap (l+b)/\IntKind.i64.wrap (l+b)<=(f.length:Int)) <|
     eB (0<=g/\g<(i.length:Int)) <|
     eB (0<=IntKind.i64.wrap (l+(c.length:Int))/\IntKind.i64.wrap (l+(c.length:Int))<=(f.length:Int)) <|
     v (List.drop ((IntKind.i64.wrap (l+(c.length:Int))).toNat) f,IntKind.i64.wrap (g+1),List.set i g.toNat (List.take ((IntKind.i64.wrap (l+b)).toNat) f))
    else
    t (f,g,i)) (j,0,List.replicate ((min m (IntKind.i64.wrap ((j.length:Int)+1))).toNat) []) (fun s=>match s with
   |(f,g,i) =>
    z (f,g,i))) fun u =>
 bif decide (o<0)then
  call (HN j c) fun B =>
  u (IntKind.i64.wrap (B+1))
 else
 u o
def yQ(c:eA)(b:eA):Option (List eA) :=
 call (BJ c b 0 (-1)) fun f =>
 some f
def GC(c:eA):Option Bool :=
 jp (S:=Unit) (fun _ =>
  some ((((!decide (c=[]))&&(decide ((c.length:Int)<=40)))&&(!decide (c=([46]:eA))))&&(!decide (c=([46,46]:eA))))) fun g =>
 forL c 0 (fun i b s f j =>
  bif (((((((decide ((b.toNat:Int)<97))||(decide (122<(b.toNat:Int))))&&((decide ((b.toNat:Int)<65))||(decide (90<(b.toNat:Int)))))&&((decide ((b.toNat:Int)<48))||(decide (57<(b.toNat:Int)))))&&(!decide ((b.toNat:Int)=45)))&&(!decide ((b.toNat:Int)=46)))&&(!decide ((b.toNat:Int)=95)))then
   some false
  else
  f ()) () (fun _ =>
  g ())
def yE(b:eA):Option Bool :=
 jp (S:=Unit) (fun _ =>
  some (decide ((b.length:Int)<=200))) fun f =>
 call (yQ b ([47]:eA)) fun g =>
 forL g 0 (fun k i s c l =>
  call (GC i) fun j =>
  bif !j then
   some false
  else
  c ()) () (fun _ =>
  f ())
def Fq(b:ab):Option Int :=
 call (yE b.a) fun c =>
 call (pG (!c) 5) fun f =>
 call (pG (decide (65536<(b.q.length:Int))) 4) fun g =>
 call (lu [f,g]) fun i =>
 some i
def FF(b:aa):Option Int :=
 call (yE b.e) fun c =>
 call (pG (!c) 5) fun f =>
 call (CG b.Value) fun g =>
 call (pG (!g) 2) fun i =>
 call (lu [f,i]) fun j =>
 some j
def FE(b:ah):Option Int :=
 call (xW b.j) fun c =>
 callG (!(!c)) (yE b.a) false fun f =>
 call (pG ((!c)||(!f)) 5) fun g =>
 some g
def ER(g:ai):Option Int :=
 bif ((((decide (100<(g.m.length:Int)))||(decide (2000<(g.b.length:Int))))||(decide (2000<(g.i.length:Int))))||(decide (100<(g.h.length:Int))))then
  some 4
 else
 jp (S:=eA) (fun v =>
  jp (S:=eA) (fun z =>
   jp (S:=eA) (fun B =>
    jp (S:=Unit) (fun _ =>
     some 0) fun Y =>
    forL g.h 0 (fun Z D o U ap =>
     call (FE D) fun a0 =>
     call (BE (Z:Int) D.j o) fun E =>
     call (lu [a0,E.1]) fun F =>
     bif !decide (F=0)then
      some F
     else
     U E.2) B (fun o =>
     Y ())) fun a1 =>
   forL g.i 0 (fun a2 G l V aq =>
    call (FF G) fun a3 =>
    call (BE (a2:Int) G.e l) fun I =>
    call (lu [a3,I.1]) fun J =>
    bif !decide (J=0)then
     some J
    else
    V I.2) z (fun l =>
    a1 l)) fun a4 =>
  forL g.b 0 (fun a5 k s W ar =>
   match s with
   |(n,p) =>
    jp (S:=eA) (fun C =>
     W (C,eG p k.a true)) fun a6 =>
    call (Fq k) fun a7 =>
    call (BE (a5:Int) k.a n) fun L =>
    call (lu [a7,L.1]) fun M =>
    jp (S:=Int) (fun N =>
     bif !decide (N=0)then
      some N
     else
     eB ((eG p k.a true).length<=274877906944) <|
     a6 L.2) fun O =>
    bif decide (M=0)then
     loopN fJ (fun s t a8 =>
      match s with
      |(u,c) =>
       bif decide (c<(k.a.length:Int))then
        fN k.a c fun P =>
        eB ((decide (P=47))=true->(0<=c/\c<=(k.a.length:Int))) <|
        fc (zp p (List.take c.toNat k.a)) fun a9 =>
        bif ((decide (P=47))&&(a9.getD false))then
         t (11,IntKind.i64.wrap (c+1))
        else
        t (u,IntKind.i64.wrap (c+1))
       else
       a8 (u,c)) (M,0) (fun s=>match s with
      |(u,c) =>
       O u)
    else
    O M) (v,[]) (fun s=>match s with
   |(n,p) =>
    a4 n)) fun ac =>
 forL g.m 0 (fun ad Q f X au =>
  call (xW Q.e) fun af =>
  call (pG (!af) 5) fun ag =>
  call (CG Q.Value) fun an =>
  call (pG (!an) 2) fun ao =>
  call (BE (ad:Int) Q.e f) fun R =>
  call (lu [ag,ao,R.1]) fun T =>
  bif !decide (T=0)then
   some T
  else
  X R.2) [] (fun f =>
  ac f)
def uR(k:ai):Option ((List (eA×ab))×(List (eA×eA))×(List (eA×ah))×List aa) :=
 jp (S:=(List (eA×ab))) (fun z =>
  jp (S:=(List (eA×eA))) (fun B =>
   jp (S:=(List (eA×ah))) (fun p =>
    some (z,B,p,k.m)) fun C =>
   forL k.h 0 (fun F l c t G =>
    eB ((eG c l.j l).length<=274877906944) <|
    t (eG c l.j l)) [] (fun c =>
    C c)) fun D =>
  forL k.i 0 (fun I n f u J =>
   eB ((eG f n.e n.Value).length<=274877906944) <|
   u (eG f n.e n.Value)) [] (fun f =>
   D f)) fun E =>
 forL k.b 0 (fun L o g v M =>
  eB ((eG g o.a o).length<=274877906944) <|
  v (eG g o.a o)) [] (fun g =>
  E g)
def FG(b:ae):Option Int :=
 jp (S:=Int×eA×eA×Bool×eA×eA×eA×eA×Bool×Bool) (fun s=>match s with
  |(Q,n,p,v,z,B,C,i,l,m) =>
   call (pG (!(true&&((decide (n=[]))&&((decide (p=[]))&&((decide (v=false))&&((decide (z=[]))&&((decide (B=[]))&&((decide (C=[]))&&((decide (i=[]))&&((decide (l=false))&&(decide (m=false)))))))))))) 2) fun D =>
   call (lu [Q,D]) fun E =>
   some E) fun c =>
 bif decide (b.k=1)then
  call (Fq b.g) fun F =>
  c (F,[],[],false,b.o.e,b.o.Value,b.f.j,b.f.a,b.f.u,b.f.t)
 else
 bif decide (b.k=2)then
  call (yE b.g.a) fun G =>
  call (pG (!G) 5) fun I =>
  c (I,[],b.g.q,b.g.r,b.o.e,b.o.Value,b.f.j,b.f.a,b.f.u,b.f.t)
 else
 bif decide (b.k=3)then
  call (FF b.o) fun J =>
  c (J,b.g.a,b.g.q,b.g.r,[],[],b.f.j,b.f.a,b.f.u,b.f.t)
 else
 bif decide (b.k=4)then
  call (yE b.o.e) fun L =>
  call (pG (!L) 5) fun M =>
  c (M,b.g.a,b.g.q,b.g.r,[],b.o.Value,b.f.j,b.f.a,b.f.u,b.f.t)
 else
 bif decide (b.k=5)then
  call (FE b.f) fun N =>
  c (N,b.g.a,b.g.q,b.g.r,b.o.e,b.o.Value,[],[],false,false)
 else
 bif decide (b.k=6)then
  call (xW b.f.j) fun O =>
  call (pG (!O) 5) fun P =>
  c (P,b.g.a,b.g.q,b.g.r,b.o.e,b.o.Value,[],b.f.a,b.f.u,b.f.t)
 else
 some 1
def F1(c:eA)(b:eA):Option Bool :=
 eB ((decide ((b.length:Int)<=(c.length:Int)))=true->(0<=(b.length:Int)/\(b.length:Int)<=(c.length:Int))) <|
 some ((decide ((b.length:Int)<=(c.length:Int)))&&(decide ((List.take b.length c)=b)))
def z8(c:eA)(b:eA):Option Bool :=
 call (F1 c b) fun f =>
 some f
def yD(c:eA)(b:eA):Option Bool :=
 eB ((b++([47]:eA)).length<=274877906944) <|
 call (z8 c (b++([47]:eA))) fun f =>
 some f
def FH(b:ae)(M:List aa)(c:List (eA×ab))(i:List (eA×eA))(l:List (eA×ah)):Option (Int×(List (eA×ab))×(List (eA×eA))×(List (eA×ah))) :=
 call (FG b) fun u =>
 bif !decide (u=0)then
  some (u,c,i,l)
 else
 jp (S:=(List (eA×ab))×(List (eA×eA))×(List (eA×ah))) (fun s=>match s with
  |(B,n,p) =>
   some (0,B,n,p)) fun m =>
 bif decide (b.k=2)then
  fc (zp c b.g.a) fun C =>
  bif !C.isSome then
   some (10,c,i,l)
  else
  m (gg c b.g.a,i,l)
 else
 bif decide (b.k=4)then
  fc (zp i b.o.e) fun D =>
  bif !D.isSome then
   some (10,c,i,l)
  else
  m (c,gg i b.o.e,l)
 else
 bif decide (b.k=6)then
  fc (zp l b.f.j) fun E =>
  bif !E.isSome then
   some (10,c,i,l)
  else
  m (c,i,gg l b.f.j)
 else
 bif decide (b.k=1)then
  jp (S:=Unit) (fun _ =>
   fc (zp c b.g.a) fun F =>
   bif ((!F.isSome)&&(decide (2000<=(c.length:Int))))then
    some (4,c,i,l)
   else
   eB ((eG c b.g.a b.g).length<=274877906944) <|
   m (eG c b.g.a b.g,i,l)) fun G =>
  forM (fun v s t N =>
   call (yD v.1 b.g.a) fun z =>
   callG (!z) (yD b.g.a v.1) false fun I =>
   bif (z||I)then
    some (11,c,i,l)
   else
   t ()) c.length c () (fun _ =>
   G ())
 else
 bif decide (b.k=3)then
  fc (zp i b.o.e) fun J =>
  bif ((!J.isSome)&&(decide (2000<=(i.length:Int))))then
   some (4,c,i,l)
  else
  eB ((eG i b.o.e b.o.Value).length<=274877906944) <|
  m (c,eG i b.o.e b.o.Value,l)
 else
 fc (zp l b.f.j) fun L =>
 bif ((!L.isSome)&&(decide (100<=(l.length:Int))))then
  some (4,c,i,l)
 else
 eB ((eG l b.f.j b.f).length<=274877906944) <|
 m (c,i,eG l b.f.j b.f)
def zC(b:List aa):Option (List aa) :=
 uG (fun c:Bool=>c=true->b=[]) fun c =>
 bif c then
  some []
 else
 eB (([]++b).length<=274877906944) <|
 some ([]++b)
def KP(o0:List eA):Option (List eA):=some (sortS o0)
def ya(c:List (eA×ab)):Option (List eA) :=
 jp (S:=List eA) (fun g =>
  call (KP g) fun j =>
  some j) fun k =>
 forM (fun f b i l =>
  eB ((b++[f.1]).length<=274877906944) <|
  i (b++[f.1])) c.length c [] (fun b =>
  k b)
def BI(c:List (eA×eA)):Option (List eA) :=
 jp (S:=List eA) (fun g =>
  call (KP g) fun j =>
  some j) fun k =>
 forM (fun f b i l =>
  eB ((b++[f.1]).length<=274877906944) <|
  i (b++[f.1])) c.length c [] (fun b =>
  k b)
def BO(c:List (eA×ah)):Option (List eA) :=
 jp (S:=List eA) (fun g =>
  call (KP g) fun j =>
  some j) fun k =>
 forM (fun f b i l =>
  eB ((b++[f.1]).length<=274877906944) <|
  i (b++[f.1])) c.length c [] (fun b =>
  k b)
def BQ(g:List aa)(i:List (eA×ab))(j:List (eA×eA))(k:List (eA×ah)):Option ai :=
 call (zC g) fun C =>
 jp (S:=List ab) (fun n =>
  jp (S:=List aa) (fun o =>
   jp (S:=List ah) (fun p =>
    some (ai.mk C n o p)) fun D =>
   call (BO k) fun E =>
   forL E 0 (fun N F b t O =>
    fc (zp k F) fun z =>
    eB ((b++[(z.getD (ah.mk [] [] false false))]).length<=274877906944) <|
    t (b++[(z.getD (ah.mk [] [] false false))])) [] (fun b =>
    D b)) fun G =>
  call (BI j) fun I =>
  forL I 0 (fun P l c u Q =>
   fc (zp j l) fun B =>
   eB ((c++[(aa.mk l (B.getD []))]).length<=274877906944) <|
   u (c++[(aa.mk l (B.getD []))])) [] (fun c =>
   G c)) fun J =>
 call (ya i) fun L =>
 forL L 0 (fun R M f v T =>
  fc (zp i M) fun m =>
  eB ((f++[(m.getD (ab.mk [] [] false))]).length<=274877906944) <|
  v (f++[(m.getD (ab.mk [] [] false))])) [] (fun f =>
  J f)
def xQ(m:ai)(v:List ae):Option (ai×Int) :=
 call (ER m) fun n =>
 bif !decide (n=0)then
  some ((ai.mk [] [] [] []),n)
 else
 call (uR m) fun b =>
 jp (S:=(List (eA×ab))×(List (eA×eA))×(List (eA×ah))) (fun s=>match s with
  |(o,j,k) =>
   call (BQ b.2.2.2 o j k) fun p =>
   some (p,0)) fun t =>
 forL v 0 (fun z u s l B =>
  match s with
  |(f,g,i) =>
   call (FH u b.2.2.2 f g i) fun c =>
   bif !decide (c.1=0)then
    some ((ai.mk [] [] [] []),c.1)
   else
   l (c.2.1,c.2.2.1,c.2.2.2)) (b.1,b.2.1,b.2.2.1) (fun s=>match s with
  |(f,g,i) =>
   t (f,g,i))
def Ph(g:ae)(c:List aa):Option (List aa×List ab×List aa×List ah) :=
 call (xQ (ai.mk c [] [] []) [g]) fun f =>
 bif decide (f.2=0)then
  some (f.1.m,f.1.b,f.1.i,f.1.h)
 else
 some (c,[],[],[])
def BD(l:ae)(c:List aa)(f:List ab)(g:List aa)(j:List ah):Option (List aa×List ab×List aa×List ah) :=
 call (xQ (ai.mk c f g j) [l]) fun k =>
 bif decide (k.2=0)then
  some (k.1.m,k.1.b,k.1.i,k.1.h)
 else
 some (c,f,g,j)
def Gl(c:ai):Option ai :=
 jp (S:=List aa) (fun Z =>
  call (zz Z) fun a3 =>
  call (zH a3) fun X =>
  jp (S:=List aa×List ab×List aa×List ah) (fun s=>match s with
   |(J,L,M,N) =>
    jp (S:=List aa×List ab×List aa×List ah) (fun s=>match s with
     |(O,P,Q,R) =>
      jp (S:=List aa×List ab×List aa×List ah) (fun s=>match s with
       |(T,U,V,W) =>
        some (ai.mk T U V W)) fun a4 =>
      eB (0<=min (c.h.length:Int) 40/\min (c.h.length:Int) 40<=(c.h.length:Int)) <|
      forL (List.take ((min (c.h.length:Int) 40).toNat) c.h) 0 (fun ad a5 s a0 af =>
       match s with
       |(B,f,g,j) =>
        call (BD (ae.mk 5 (ab.mk [] [] false) (aa.mk [] []) a5) B f g j) fun D =>
        a0 (D.1,D.2.1,D.2.2.1,D.2.2.2)) (O,P,Q,R) (fun s=>match s with
       |(B,f,g,j) =>
        a4 (B,f,g,j))) fun a6 =>
    eB (0<=min (c.i.length:Int) 40/\min (c.i.length:Int) 40<=(c.i.length:Int)) <|
    forL (List.take ((min (c.i.length:Int) 40).toNat) c.i) 0 (fun ag a7 s a1 an =>
     match s with
     |(k,l,n,o) =>
      call (BD (ae.mk 3 (ab.mk [] [] false) a7 (ah.mk [] [] false false)) k l n o) fun E =>
      a1 (E.1,E.2.1,E.2.2.1,E.2.2.2)) (J,L,M,N) (fun s=>match s with
     |(k,l,n,o) =>
      a6 (k,l,n,o))) fun a8 =>
  eB (0<=min (c.b.length:Int) 40/\min (c.b.length:Int) 40<=(c.b.length:Int)) <|
  forL (List.take ((min (c.b.length:Int) 40).toNat) c.b) 0 (fun ao C s a2 ap =>
   match s with
   |(p,t,u,v) =>
    eB (0<=min (C.q.length:Int) 3000/\min (C.q.length:Int) 3000<=(C.q.length:Int)) <|
    call (BD (ae.mk 1 (ab.mk C.a (List.take ((min (C.q.length:Int) 3000).toNat) C.q) C.r) (aa.mk [] []) (ah.mk [] [] false false)) p t u v) fun F =>
    a2 (F.1,F.2.1,F.2.2.1,F.2.2.2)) (List.take X.2.1 (List.drop X.1 X.2.2),[],[],[]) (fun s=>match s with
   |(p,t,u,v) =>
    a8 (p,t,u,v))) fun a9 =>
 forL c.m 0 (fun aq G z I ar =>
  call (xW G.e) fun Y =>
  callG Y (CG G.Value) false fun ac =>
  bif ((Y&&ac)&&(decide ((z.length:Int)<20)))then
   eB ((z++[G]).length<=274877906944) <|
   I (z++[G])
  else
  I z) [] (fun z =>
  a9 z)
def zW(b:List ae):Option (List ae) :=
 uG (fun c:Bool=>c=true->b=[]) fun c =>
 bif c then
  some []
 else
 eB (([]++b).length<=274877906944) <|
 some ([]++b)
def Bh(b:eA):Option Bool :=
 call (yD b ([115,116,97,103,101]:eA)) fun c =>
 some c
def Cv(j:ai):Option ai :=
 call (uR j) fun b =>
 jp (S:=(List (eA×ab))) (fun i =>
  call (BQ b.2.2.2 i b.2.1 b.2.2.1) fun k =>
  some k) fun l =>
 eB ((List.map (fun p=>p.1) b.1).Nodup) <|
 forM (fun g c f n =>
  call (Bh g.1) fun m =>
  bif m then
   f (gg c g.1)
  else
  f c) b.1.length b.1 b.1 (fun c =>
  l c)
def Bb(b:ae):Option eA :=
 jp (S:=Bool) (fun m =>
  bif m then
   eB ((([102,105,108,101,32]:eA)++b.g.a).length<=274877906944) <|
   some (([102,105,108,101,32]:eA)++b.g.a)
  else
  jp (S:=Bool) (fun c =>
   bif c then
    eB ((([115,101,116,116,105,110,103,32]:eA)++b.o.e).length<=274877906944) <|
    some (([115,101,116,116,105,110,103,32]:eA)++b.o.e)
   else
   eB ((([115,101,114,118,105,99,101,32]:eA)++b.f.j).length<=274877906944) <|
   some (([115,101,114,118,105,99,101,32]:eA)++b.f.j)) fun i =>
  bif decide (b.k=3)then
   i (decide (b.k=3))
  else
  i (decide (b.k=4))) fun l =>
 bif decide (b.k=1)then
  l (decide (b.k=1))
 else
 l (decide (b.k=2))
def BH(i:ai)(f:List ae):Option Int :=
 call (ER i) fun m =>
 bif !decide (m=0)then
  some m
 else
 call (uR i) fun E =>
 fc (zp E.1 ([115,116,97,103,101]:eA)) fun t =>
 bif t.isSome then
  some 11
 else
 jp (S:=Unit) (fun _ =>
  call (Cv i) fun u =>
  call (xQ u f) fun n =>
  bif !decide (n.2=0)then
   some n.2
  else
  bif decide ((f.length:Int)=0)then
   some 9
  else
  jp (S:=Unit) (fun _ =>
   some 0) fun v =>
  forL f 0 (fun F o c j G =>
   call (Bb o) fun z =>
   fc (zp c z) fun B =>
   bif (B.getD false)then
    some 6
   else
   call (Bb o) fun p =>
   eB ((eG c p true).length<=274877906944) <|
   j (eG c p true)) [] (fun c =>
   v ())) fun C =>
 forL f 0 (fun I b s l J =>
  callG (((decide (b.k=1))||(decide (b.k=2)))&&(!(decide (b.g.a=([115,116,97,103,101]:eA))))) (Bh b.g.a) false fun D =>
  bif (((decide (b.k=1))||(decide (b.k=2)))&&((decide (b.g.a=([115,116,97,103,101]:eA)))||D))then
   some 17
  else
  l ()) () (fun _ =>
  C ())
def CK(m:ai)(c:List ae)(i:Bool):Option (List ae) :=
 bif i then
  some c
 else
 jp (S:=List ae) (fun k =>
  some k) fun n =>
 eB (0<=min (c.length:Int) 12/\min (c.length:Int) 12<=(c.length:Int)) <|
 forL (List.take ((min (c.length:Int) 12).toNat) c) 0 (fun o f b g p =>
  call (zW b) fun j =>
  eB ((j++[f]).length<=274877906944) <|
  call (BH m (j++[f])) fun l =>
  bif decide (l=0)then
   eB ((b++[f]).length<=274877906944) <|
   g (b++[f])
  else
  g b) [] (fun b =>
  n b)
def KF(b:Int):Option Bool :=
 some ((decide (32<=b))&&(decide (b<=126)))
def Kr(b:eA)(c:Int):Option Bool :=
 jp (S:=Unit) (fun _ =>
  some ((!decide (b=[]))&&(decide ((b.length:Int)<=c)))) fun g =>
 forL b 0 (fun k i s f l =>
  call (KF (i.toNat:Int)) fun j =>
  bif !j then
   some false
  else
  f ()) () (fun _ =>
  g ())
def Fo(b:eA):Option Bool :=
 callG (!(decide (b=[]))) (Kr b 1000) false fun c =>
 some ((decide (b=[]))||c)
def KV(b:aa):Option Int :=
 call (sw b.e) fun c =>
 bif !c then
  some 5
 else
 call (Fo b.Value) fun f =>
 bif !f then
  some 2
 else
 some 0
def Hq(b:aa):Option Int :=
 call (KV b) fun c =>
 some c
def sx(b:aa):Option eA :=
 some b.e
def H9(c:List aa):Option Int :=
 jp (S:=Unit) (fun _ =>
  some 0) fun l =>
 forL c 0 (fun b f s k m =>
  call (Hq f) fun g =>
  bif !decide (g=0)then
   some g
  else
  callG (decide (0<(b:Int))) (sx f) [] fun i =>
  eB ((decide (0<(b:Int)))=true->(0<=IntKind.i64.wrap ((b:Int)-1)/\IntKind.i64.wrap ((b:Int)-1)<(c.length:Int))) <|
  callG (decide (0<(b:Int))) (sx (aa.mk ((c.getD ((IntKind.i64.wrap ((b:Int)-1)).toNat) (aa.mk [] [])).e) ((c.getD ((IntKind.i64.wrap ((b:Int)-1)).toNat) (aa.mk [] [])).Value))) [] fun j =>
  bif ((decide (0<(b:Int)))&&(lh i j||decide (i=j)))then
   some 7
  else
  k ()) () (fun _ =>
  l ())
def Ky(b:Int):Option Bool :=
 call (Bx b) fun c =>
 callG (!(c||((decide (65<=b))&&(decide (b<=90))))) (Fp b) false fun f =>
 some (((((c||((decide (65<=b))&&(decide (b<=90))))||f)||(decide (b=45)))||(decide (b=46)))||(decide (b=95)))
def Ks(b:eA)(c:Int):Option Bool :=
 jp (S:=Unit) (fun _ =>
  some ((!decide (b=[]))&&(decide ((b.length:Int)<=c)))) fun g =>
 forL b 0 (fun k i s f l =>
  call (Ky (i.toNat:Int)) fun j =>
  bif !j then
   some false
  else
  f ()) () (fun _ =>
  g ())
def Hm(b:eA):Option Bool :=
 call (Ks b 40) fun c =>
 some ((c&&(!decide (b=([46]:eA))))&&(!decide (b=([46,46]:eA))))
def CI(b:eA):Option Bool :=
 jp (S:=Unit) (fun _ =>
  some (decide ((b.length:Int)<=200))) fun f =>
 call (yQ b ([47]:eA)) fun g =>
 forL g 0 (fun k i s c l =>
  call (Hm i) fun j =>
  bif !j then
   some false
  else
  c ()) () (fun _ =>
  f ())
def BM(b:ab):Option Int :=
 call (CI b.a) fun c =>
 bif !c then
  some 5
 else
 bif decide (65536<(b.q.length:Int))then
  some 4
 else
 some 0
def HR(b:eA)(c:List (eA×Bool)):Option Bool :=
 fc (zp c b) fun f =>
 some (!(f.getD false))
def FI(b:eA)(g:List (eA×Bool)):Option Bool :=
 jp (S:=Unit) (fun _ =>
  some true) fun j =>
 forL b 0 (fun c f s i l =>
  eB ((decide ((f.toNat:Int)=47))=true->(0<=(c:Int)/\(c:Int)<=(b.length:Int))) <|
  callG (decide ((f.toNat:Int)=47)) (HR (List.take c b) g) false fun k =>
  bif ((decide ((f.toNat:Int)=47))&&(!k))then
   some false
  else
  i ()) () (fun _ =>
  j ())
def BN(b:aa):Option Int :=
 call (CI b.e) fun c =>
 bif !c then
  some 5
 else
 call (Fo b.Value) fun f =>
 bif !f then
  some 2
 else
 some 0
def Hr(b:aa):Option Int :=
 call (BN b) fun c =>
 some c
def F0(c:List aa):Option Int :=
 jp (S:=Unit) (fun _ =>
  some 0) fun l =>
 forL c 0 (fun b f s k m =>
  call (Hr f) fun g =>
  bif !decide (g=0)then
   some g
  else
  callG (decide (0<(b:Int))) (sx f) [] fun i =>
  eB ((decide (0<(b:Int)))=true->(0<=IntKind.i64.wrap ((b:Int)-1)/\IntKind.i64.wrap ((b:Int)-1)<(c.length:Int))) <|
  callG (decide (0<(b:Int))) (sx (aa.mk ((c.getD ((IntKind.i64.wrap ((b:Int)-1)).toNat) (aa.mk [] [])).e) ((c.getD ((IntKind.i64.wrap ((b:Int)-1)).toNat) (aa.mk [] [])).Value))) [] fun j =>
  bif ((decide (0<(b:Int)))&&(lh i j||decide (i=j)))then
   some 7
  else
  k ()) () (fun _ =>
  l ())
def FW(b:ah):Option Int :=
 call (sw b.j) fun c =>
 callG (!(!c)) (CI b.a) false fun f =>
 bif ((!c)||(!f))then
  some 5
 else
 some 0
def x8(b:ah):Option eA :=
 some b.j
def FZ(c:List ah):Option Int :=
 jp (S:=Unit) (fun _ =>
  some 0) fun m =>
 forL c 0 (fun b f s l n =>
  call (FW f) fun g =>
  bif !decide (g=0)then
   some g
  else
  callG (decide (0<(b:Int))) (x8 f) [] fun i =>
  eB ((decide (0<(b:Int)))=true->(0<=IntKind.i64.wrap ((b:Int)-1)/\IntKind.i64.wrap ((b:Int)-1)<(c.length:Int))) <|
  callG (decide (0<(b:Int))) (x8 (ah.mk ((c.getD ((IntKind.i64.wrap ((b:Int)-1)).toNat) (ah.mk [] [] false false)).j) ((c.getD ((IntKind.i64.wrap ((b:Int)-1)).toNat) (ah.mk [] [] false false)).a) ((c.getD ((IntKind.i64.wrap ((b:Int)-1)).toNat) (ah.mk [] [] false false)).u) ((c.getD ((IntKind.i64.wrap ((b:Int)-1)).toNat) (ah.mk [] [] false false)).t))) [] fun k =>
  bif ((decide (0<(b:Int)))&&(lh i k||decide (i=k)))then
   some 7
  else
  l ()) () (fun _ =>
  m ())
def Bp(f:ai):Option Int :=
 bif ((((decide (100<(f.m.length:Int)))||(decide (2000<(f.b.length:Int))))||(decide (2000<(f.i.length:Int))))||(decide (100<(f.h.length:Int))))then
  some 4
 else
 call (H9 f.m) fun l =>
 bif !decide (l=0)then
  some l
 else
 jp (S:=Unit) (fun _ =>
  call (F0 f.i) fun n =>
  bif !decide (n=0)then
   some n
  else
  call (FZ f.h) fun u =>
  some u) fun v =>
 forL f.b 0 (fun p g s k z =>
  match s with
  |(c,j) =>
   call (BM g) fun o =>
   bif !decide (o=0)then
    some o
   else
   bif ((decide (0<(p:Int)))&&(lh g.a c||decide (g.a=c)))then
    some 7
   else
   call (FI g.a j) fun t =>
   bif !t then
    some 11
   else
   eB ((eG j g.a true).length<=274877906944) <|
   k (g.a,eG j g.a true)) ([],[]) (fun s=>match s with
  |(c,j) =>
   v ())
def KX(b:ab):Option Bool :=
 some (decide (b.a=([115,116,97,103,101]:eA)))
def Lf(c:List ab):Option Int :=
 jp (S:=Unit) (fun _ =>
  some (-1)) fun f =>
 forL c 0 (fun g i s b k =>
  call (KX i) fun j =>
  bif j then
   some (g:Int)
  else
  b ()) () (fun _ =>
  f ())
def zS(b:List ab):Option Bool :=
 call (Lf b) fun c =>
 some (decide (0<=c))
def yO(b:ae):Option al :=
 jp (S:=Bool) (fun m =>
  bif m then
   some (al.mk 1 b.g.a)
  else
  jp (S:=Bool) (fun c =>
   bif c then
    some (al.mk 2 b.o.e)
   else
   some (al.mk 3 b.f.j)) fun i =>
  bif decide (b.k=3)then
   i (decide (b.k=3))
  else
  i (decide (b.k=4))) fun l =>
 bif decide (b.k=1)then
  l (decide (b.k=1))
 else
 l (decide (b.k=2))
def M9(c:eA)(b:eA):Option Bool :=
 eB ((b++([47]:eA)).length<=274877906944) <|
 call (z8 c (b++([47]:eA))) fun f =>
 some f
def BC(b:eA):Option Bool :=
 call (M9 b ([115,116,97,103,101]:eA)) fun c =>
 some c
def zt(b:List aa):Option (List aa) :=
 uG (fun c:Bool=>c=true->b=[]) fun c =>
 bif c then
  some []
 else
 eB (([]++b).length<=274877906944) <|
 some ([]++b)
def Ld(b:List ab):Option (List ab) :=
 uG (fun c:Bool=>c=true->b=[]) fun c =>
 bif c then
  some []
 else
 eB (([]++b).length<=274877906944) <|
 some ([]++b)
def Li(b:List ah):Option (List ah) :=
 uG (fun c:Bool=>c=true->b=[]) fun c =>
 bif c then
  some []
 else
 eB (([]++b).length<=274877906944) <|
 some ([]++b)
def HJ(c:ai):Option (List aa×List ab×List aa×List ah×List aa×List ab×List aa×List ah) :=
 call (zt c.m) fun f =>
 call (Ld c.b) fun g =>
 call (zt c.i) fun j =>
 call (Li c.h) fun k =>
 some (c.m,c.b,c.i,c.h,f,g,j,k)
def BB(b:ab):Option Bool :=
 call (BC b.a) fun c =>
 some c
def zY(c:List ab):Option Int :=
 jp (S:=Unit) (fun _ =>
  some (-1)) fun g =>
 loopN fJ (fun b f i =>
  bif decide (b<((List.take c.length c).length:Int))then
   eB (0<=b/\b<(c.length:Int)) <|
   call (BB (ab.mk ((c.getD (b.toNat:Nat) (ab.mk [] [] false)).a) ((c.getD (b.toNat:Nat) (ab.mk [] [] false)).q) ((c.getD (b.toNat:Nat) (ab.mk [] [] false)).r))) fun j =>
   bif j then
    some b
   else
   f (IntKind.i64.wrap (b+1))
  else
  i b) 0 (fun b =>
  g ())
def zV(c:List ab):Option (Nat×Nat×List ab) :=
 call (zY c) fun j =>
 bif decide (j=(-1))then
  some (0,c.length,c)
 else
 jp (S:=Int×List ab) (fun s=>match s with
  |(g,k) =>
   eB (0<=g/\g<=(c.length:Int)) <|
   eB (0<=g/\g<=(c.length:Int)) <|
   some (0,g.toNat,List.take g.toNat k++List.replicate (c.length-g.toNat) (ab.mk [] [] false)++List.drop (g.toNat+(c.length-g.toNat)) k)) fun o =>
 loopN fJ (fun s l m =>
  match s with
  |(i,f,b) =>
   bif decide (f<((List.take c.length b).length:Int))then
    eB (0<=f/\f<(c.length:Int)) <|
    eB (f.toNat<b.length) <|
    call (BB (ab.mk ((b.getD (f.toNat:Nat) (ab.mk [] [] false)).a) ((b.getD (f.toNat:Nat) (ab.mk [] [] false)).q) ((b.getD (f.toNat:Nat) (ab.mk [] [] false)).r))) fun n =>
    bif !n then
     eB (0<=i/\i<(c.length:Int)) <|
     eB (i.toNat<b.length) <|
     l (IntKind.i64.wrap (i+1),IntKind.i64.wrap (f+1),List.set b (i.toNat:Nat) (ab.mk ((b.getD (f.toNat:Nat) (ab.mk [] [] false)).a) ((b.getD (f.toNat:Nat) (ab.mk [] [] false)).q) ((b.getD (f.toNat:Nat) (ab.mk [] [] false)).r)))
    else
    l (i,IntKind.i64.wrap (f+1),b)
   else
   m (i,f,b)) (j,IntKind.i64.wrap (j+1),c) (fun s=>match s with
  |(i,f,b) =>
   o (i,b))
def CQ(f:ai):Option ai :=
 call (HJ f) fun b =>
 call (zV b.2.2.2.2.2.1) fun c =>
 some (ai.mk b.2.2.2.2.1 (List.take c.2.1 (List.drop c.1 c.2.2)) b.2.2.2.2.2.2.1 b.2.2.2.2.2.2.2)
def H0(b:eA)(i:List aa)(j:List (eA×ab))(f:List (eA×Int))(k:List (eA×aa))(l:List (eA×ah))(c:Int):Option (Bool×(List (eA×Int))) :=
 fc (zp f b) fun g =>
 eB ((eG f b (IntKind.i64.wrap ((g.getD 0)+c))).length<=274877906944) <|
 some (true,eG f b (IntKind.i64.wrap ((g.getD 0)+c)))
def KA(b:eA)(g:List aa)(o:List (eA×ab))(p:List (eA×Int))(t:List (eA×aa))(l:List (eA×ah))(f:Int):Option (Bool×(List (eA×Int))) :=
 jp (S:=(List (eA×Int))) (fun m =>
  some (true,m)) fun u =>
 forL b 0 (fun i j c n v =>
  eB ((decide ((j.toNat:Int)=47))=true->(0<=(i:Int)/\(i:Int)<=(b.length:Int))) <|
  callG (decide ((j.toNat:Int)=47)) (H0 (List.take i b) g o c t l f) (false,c) fun k =>
  bif ((decide ((j.toNat:Int)=47))&&(!k.1))then
   some (false,k.2)
  else
  n k.2) p (fun c =>
  u c)
def FS(b:eA)(k:Int)(c:List aa)(f:List (eA×ab))(g:List (eA×Int))(i:List (eA×aa))(j:List (eA×ah)):Option ((List (eA×Int))) :=
 call (KA b c f g i j k) fun l =>
 some l.2
def CY(b:ab)(f:List aa)(c:List (eA×ab))(g:List (eA×Int))(i:List (eA×aa))(j:List (eA×ah)):Option ((List (eA×ab))×(List (eA×Int))) :=
 fc (zp c b.a) fun k =>
 bif !k.isSome then
  call (FS b.a 1 f c g i j) fun l =>
  eB ((eG c b.a b).length<=274877906944) <|
  some (eG c b.a b,l)
 else
 eB ((eG c b.a b).length<=274877906944) <|
 some (eG c b.a b,g)
def Hs(l:ai):Option ((List (eA×ab))×(List (eA×Int))×(List (eA×aa))×(List (eA×ah))×List aa) :=
 call (zC l.m) fun D =>
 jp (S:=(List (eA×ab))×(List (eA×Int))) (fun s=>match s with
  |(p,t) =>
   jp (S:=(List (eA×aa))) (fun u =>
    jp (S:=(List (eA×ah))) (fun v =>
     some (p,t,u,v,D)) fun F =>
    forL l.h 0 (fun L n c z M =>
     eB ((eG c n.j n).length<=274877906944) <|
     z (eG c n.j n)) [] (fun c =>
     F c)) fun G =>
   forL l.i 0 (fun N o f B O =>
    eB ((eG f o.e o).length<=274877906944) <|
    B (eG f o.e o)) [] (fun f =>
    G f)) fun I =>
 forL l.b 0 (fun P J s C Q =>
  match s with
  |(g,k) =>
   call (CY J D g k [] []) fun E =>
   C (E.1,E.2)) ([],[]) (fun s=>match s with
  |(g,k) =>
   I (g,k))
def FL(b:ae):Option Int :=
 jp (S:=Int×eA×eA×Bool×eA×eA×eA×eA×Bool×Bool) (fun s=>match s with
  |(D,n,p,v,z,B,C,i,l,m) =>
   bif ((decide (D=0))&&(!((decide (b.k=b.k))&&((decide (b.g.a=n))&&((decide (b.g.q=p))&&((decide (b.g.r=v))&&((decide (b.o.e=z))&&((decide (b.o.Value=B))&&((decide (b.f.j=C))&&((decide (b.f.a=i))&&((decide (b.f.u=l))&&(decide (b.f.t=m)))))))))))))then
    some 2
   else
   some D) fun c =>
 bif decide (b.k=1)then
  call (BM b.g) fun E =>
  c (E,b.g.a,b.g.q,b.g.r,[],[],[],[],false,false)
 else
 bif decide (b.k=2)then
  call (BM (ab.mk b.g.a [] false)) fun F =>
  c (F,b.g.a,[],false,[],[],[],[],false,false)
 else
 bif decide (b.k=3)then
  call (BN b.o) fun G =>
  c (G,[],[],false,b.o.e,b.o.Value,[],[],false,false)
 else
 bif decide (b.k=4)then
  call (BN (aa.mk b.o.e [])) fun I =>
  c (I,[],[],false,b.o.e,[],[],[],false,false)
 else
 bif decide (b.k=5)then
  call (FW b.f) fun J =>
  c (J,[],[],false,[],[],b.f.j,b.f.a,b.f.u,b.f.t)
 else
 bif decide (b.k=6)then
  call (sw b.f.j) fun L =>
  bif !L then
   c (5,[],[],false,[],[],b.f.j,[],false,false)
  else
  c (0,[],[],false,[],[],b.f.j,[],false,false)
 else
 some 1
def Ib(b:eA)(f:List aa)(c:List (eA×ab))(i:List (eA×Int))(j:List (eA×aa))(k:List (eA×ah)):Option Bool :=
 fc (zp c b) fun g =>
 some (!g.isSome)
def Hz(b:eA)(c:List aa)(j:List (eA×ab))(k:List (eA×Int))(l:List (eA×aa))(m:List (eA×ah)):Option Bool :=
 jp (S:=Unit) (fun _ =>
  some true) fun o =>
 forL b 0 (fun f g s i p =>
  eB ((decide ((g.toNat:Int)=47))=true->(0<=(f:Int)/\(f:Int)<=(b.length:Int))) <|
  callG (decide ((g.toNat:Int)=47)) (Ib (List.take f b) c j k l m) false fun n =>
  bif ((decide ((g.toNat:Int)=47))&&(!n))then
   some false
  else
  i ()) () (fun _ =>
  o ())
def H3(b:eA)(c:List aa)(g:List (eA×ab))(f:List (eA×Int))(i:List (eA×aa))(j:List (eA×ah)):Option Bool :=
 call (Hz b c g f i j) fun k =>
 fc (zp f b) fun l =>
 some ((!k)||(decide (0<(l.getD 0))))
def Ic(b:eA)(c:List (eA×ab)):Option Bool :=
 fc (zp c b) fun f =>
 some (!f.isSome)
def Ii(b:eA)(c:List (eA×aa)):Option Bool :=
 fc (zp c b) fun f =>
 some (!f.isSome)
def Ih(b:eA)(c:List (eA×ah)):Option Bool :=
 fc (zp c b) fun f =>
 some (!f.isSome)
def KZ(b:ae)(p:List aa)(i:List (eA×ab))(v:List (eA×Int))(l:List (eA×aa))(m:List (eA×ah)):Option Int :=
 jp (S:=Bool×Int×Int) (fun s=>match s with
  |(t,u,n) =>
   bif t then
    some 10
   else
   bif decide (n<u)then
    some 4
   else
   some 0) fun c =>
 bif decide (b.k=1)then
  call (H3 b.g.a p i v l m) fun z =>
  bif z then
   some 11
  else
  call (Ic b.g.a i) fun B =>
  bif B then
   c (false,IntKind.i64.wrap ((i.length:Int)+1),2000)
  else
  c (false,0,1)
 else
 bif decide (b.k=2)then
  call (Ic b.g.a i) fun C =>
  c (C,0,1)
 else
 bif decide (b.k=3)then
  call (Ii b.o.e l) fun D =>
  bif D then
   c (false,IntKind.i64.wrap ((l.length:Int)+1),2000)
  else
  c (false,0,1)
 else
 bif decide (b.k=4)then
  call (Ii b.o.e l) fun E =>
  c (E,0,1)
 else
 bif decide (b.k=5)then
  call (Ih b.f.j m) fun F =>
  bif F then
   c (false,IntKind.i64.wrap ((m.length:Int)+1),100)
  else
  c (false,0,1)
 else
 bif decide (b.k=6)then
  call (Ih b.f.j m) fun G =>
  c (G,0,1)
 else
 c (false,0,1)
def H6(b:eA)(c:List aa)(f:List (eA×ab))(g:List (eA×Int))(i:List (eA×aa))(j:List (eA×ah)):Option ((List (eA×ab))×(List (eA×Int))) :=
 call (FS b (-1) c (gg f b) g i j) fun k =>
 some (gg f b,k)
def FM(b:ae)(n:List aa)(l:List (eA×ab))(m:List (eA×Int))(c:List (eA×aa))(i:List (eA×ah)):Option (Int×(List (eA×ab))×(List (eA×Int))×(List (eA×aa))×(List (eA×ah))) :=
 call (FL b) fun t =>
 bif !decide (t=0)then
  some (t,l,m,c,i)
 else
 call (KZ b n l m c i) fun u =>
 bif !decide (u=0)then
  some (u,l,m,c,i)
 else
 bif decide (b.k=1)then
  call (CY b.g n l m c i) fun v =>
  some (0,v.1,v.2,c,i)
 else
 bif decide (b.k=2)then
  call (H6 b.g.a n l m c i) fun p =>
  some (0,p.1,p.2,c,i)
 else
 bif decide (b.k=3)then
  eB ((eG c b.o.e b.o).length<=274877906944) <|
  some (0,l,m,eG c b.o.e b.o,i)
 else
 bif decide (b.k=4)then
  some (0,l,m,gg c b.o.e,i)
 else
 bif decide (b.k=5)then
  eB ((eG i b.f.j b.f).length<=274877906944) <|
  some (0,l,m,c,eG i b.f.j b.f)
 else
 bif decide (b.k=6)then
  some (0,l,m,c,gg i b.f.j)
 else
 some (0,l,m,c,i)
def zQ(b:List (eA×ab)):Option Unit :=
 some ()
def Qh(m1:List (eA×ab)):Option (List eA):=some (sortS (m1.map (·.1)))
def Lb(c:List (eA×ab)):Option (List ab) :=
 jp (S:=List ab) (fun g =>
  some g) fun j =>
 call (zQ c) fun o =>
 call (Qh c) fun k =>
 forL k 0 (fun m l b i n =>
  fc (zp c l) fun f =>
  eB ((b++[(f.getD (ab.mk [] [] false))]).length<=274877906944) <|
  i (b++[(f.getD (ab.mk [] [] false))])) [] (fun b =>
  j b)
def zF(b:List (eA×aa)):Option Unit :=
 some ()
def Qi(m1:List (eA×aa)):Option (List eA):=some (sortS (m1.map (·.1)))
def Lo(c:List (eA×aa)):Option (List aa) :=
 jp (S:=List aa) (fun g =>
  some g) fun j =>
 call (zF c) fun o =>
 call (Qi c) fun k =>
 forL k 0 (fun m l b i n =>
  fc (zp c l) fun f =>
  eB ((b++[(f.getD (aa.mk [] []))]).length<=274877906944) <|
  i (b++[(f.getD (aa.mk [] []))])) [] (fun b =>
  j b)
def zG(b:List (eA×ah)):Option Unit :=
 some ()
def Qj(m1:List (eA×ah)):Option (List eA):=some (sortS (m1.map (·.1)))
def Ln(c:List (eA×ah)):Option (List ah) :=
 jp (S:=List ah) (fun g =>
  some g) fun j =>
 call (zG c) fun o =>
 call (Qj c) fun k =>
 forL k 0 (fun m l b i n =>
  fc (zp c l) fun f =>
  eB ((b++[(f.getD (ah.mk [] [] false false))]).length<=274877906944) <|
  i (b++[(f.getD (ah.mk [] [] false false))])) [] (fun b =>
  j b)
def F3(b:List aa)(c:List (eA×ab))(m:List (eA×Int))(f:List (eA×aa))(g:List (eA×ah)):Option ai :=
 call (zC b) fun i =>
 call (Lb c) fun j =>
 call (Lo f) fun k =>
 call (Ln g) fun l =>
 some (ai.mk i j k l)
def Ha(v:ai)(z:List ae):Option (ai×Int) :=
 call (Hs v) fun b =>
 jp (S:=(List (eA×ab))×(List (eA×Int))×(List (eA×aa))×(List (eA×ah))) (fun s=>match s with
  |(o,k,l,m) =>
   call (F3 b.2.2.2.2 o k l m) fun p =>
   some (p,0)) fun t =>
 forL z 0 (fun B u s n C =>
  match s with
  |(f,g,i,j) =>
   call (FM u b.2.2.2.2 f g i j) fun c =>
   bif !decide (c.1=0)then
    some ((ai.mk [] [] [] []),c.1)
   else
   n (c.2.1,c.2.2.1,c.2.2.2.1,c.2.2.2.2)) (b.1,b.2.1,b.2.2.1,b.2.2.2.1) (fun s=>match s with
  |(f,g,i,j) =>
   t (f,g,i,j))
def Bo(b:ai)(g:List ae):Option (ai×Int) :=
 call (Bp b) fun c =>
 bif !decide (c=0)then
  some ((ai.mk [] [] [] []),c)
 else
 call (Ha b g) fun f =>
 some (f.1,f.2)
def FO(i:ai)(g:List ae):Option Int :=
 call (Bp i) fun l =>
 bif !decide (l=0)then
  some l
 else
 call (zS i.b) fun D =>
 bif D then
  some 11
 else
 jp (S:=Unit) (fun _ =>
  call (CQ i) fun p =>
  call (Bo p g) fun m =>
  bif !decide (m.2=0)then
   some m.2
  else
  bif decide ((g.length:Int)=0)then
   some 9
  else
  jp (S:=Unit) (fun _ =>
   some 0) fun t =>
  forL g 0 (fun E n c j F =>
   call (yO n) fun u =>
   fc (zp c u) fun v =>
   bif (v.getD false)then
    some 6
   else
   call (yO n) fun o =>
   eB ((eG c o true).length<=274877906944) <|
   j (eG c o true)) [] (fun c =>
   t ())) fun z =>
 forL g 0 (fun G B s k I =>
  call (yO B) fun f =>
  callG ((decide (f.kind=1))&&(!(decide (f.name=([115,116,97,103,101]:eA))))) (BC f.name) false fun C =>
  bif ((decide (f.kind=1))&&((decide (f.name=([115,116,97,103,101]:eA)))||C))then
   some 17
  else
  k ()) () (fun _ =>
  z ())
def Hy(b:ai):Option (ai×Int) :=
 call (Bp b) fun c =>
 bif !decide (c=0)then
  some ((ai.mk [] [] [] []),c)
 else
 call (CQ b) fun f =>
 some (f,0)
def HL(b:ab):Option Bool :=
 call (BC b.a) fun c =>
 some c
def Lg(c:List ab):Option Int :=
 jp (S:=Unit) (fun _ =>
  some (-1)) fun f =>
 forL c 0 (fun g i s b k =>
  call (HL i) fun j =>
  bif j then
   some (g:Int)
  else
  b ()) () (fun _ =>
  f ())
def zR(b:List ab):Option Bool :=
 call (Lg b) fun c =>
 some (decide (0<=c))
def HE(c:ai):Option (Bool×Int) :=
 call (Bp c) fun f =>
 bif !decide (f=0)then
  some (false,f)
 else
 call (zR c.b) fun g =>
 some (g,0)
def zB(b:List aa)(c:List aa):Option Bool :=
 bif !decide ((b.length:Int)=(c.length:Int))then
  some false
 else
 jp (S:=Unit) (fun _ =>
  some true) fun j =>
 forL b 0 (fun k f s i l =>
  eV c (k:Int) fun g =>
  bif !((decide (f.e=g.e))&&(decide (f.Value=g.Value)))then
   some false
  else
  i ()) () (fun _ =>
  j ())
def zT(b:List ab)(c:List ab):Option Bool :=
 bif !decide ((b.length:Int)=(c.length:Int))then
  some false
 else
 jp (S:=Unit) (fun _ =>
  some true) fun j =>
 forL b 0 (fun k f s i l =>
  eV c (k:Int) fun g =>
  bif !((decide (f.a=g.a))&&((decide (f.q=g.q))&&(decide (f.r=g.r))))then
   some false
  else
  i ()) () (fun _ =>
  j ())
def z7(f:List ah)(g:List ah):Option Bool :=
 bif !decide ((f.length:Int)=(g.length:Int))then
  some false
 else
 jp (S:=Unit) (fun _ =>
  some true) fun k =>
 forL f 0 (fun l b s i m =>
  eV g (l:Int) fun c =>
  bif !((decide (b.j=c.j))&&((decide (b.a=c.a))&&((decide (b.u=c.u))&&(decide (b.t=c.t)))))then
   some false
  else
  i ()) () (fun _ =>
  k ())
def A4(c:ai)(f:ai):Option Bool :=
 call (zB c.m f.m) fun g =>
 callG g (zT c.b f.b) false fun j =>
 callG (g&&j) (zB c.i f.i) false fun k =>
 callG ((g&&j)&&k) (z7 c.h f.h) false fun l =>
 some (((g&&j)&&k)&&l)
def FT(c:ab)(b:eA):Option Bool :=
 some (decide (c.a=b))
def Lh(f:List ab)(b:eA):Option Int :=
 jp (S:=Unit) (fun _ =>
  some (-1)) fun g =>
 forL f 0 (fun i j s c l =>
  call (FT j b) fun k =>
  bif k then
   some (i:Int)
  else
  c ()) () (fun _ =>
  g ())
def CR(f:ai)(c:eA):Option (ab×Bool) :=
 call (Lh f.b c) fun g =>
 bif decide (g<0)then
  some ((ab.mk [] [] false),false)
 else
 eV f.b g fun i =>
 some (i,true)
def FR(c:eA)(b:eA):Option (List eA) :=
 call (BJ c b (b.length:Int) (-1)) fun f =>
 some f
def Lk(c:eA)(b:eA):Option (eA×Bool) :=
 call (F1 c b) fun f =>
 bif !f then
  some (c,false)
 else
 eB (0<=(b.length:Int)/\(b.length:Int)<=(c.length:Int)) <|
 some (List.drop b.length c,true)
def BP(f:eA)(b:eA):Option (eA×Bool) :=
 call (Lk f b) fun c =>
 some (c.1,c.2)
def Lm(c:eA)(b:eA):Option Bool :=
 eB ((decide ((b.length:Int)<=(c.length:Int)))=true->(0<=IntKind.i64.wrap ((c.length:Int)-(b.length:Int))/\IntKind.i64.wrap ((c.length:Int)-(b.length:Int))<=(c.length:Int))) <|
 some ((decide ((b.length:Int)<=(c.length:Int)))&&(decide ((List.drop ((IntKind.i64.wrap ((c.length:Int)-(b.length:Int))).toNat) c)=b)))
def Ll(c:eA)(b:eA):Option (eA×Bool) :=
 call (Lm c b) fun f =>
 bif !f then
  some (c,false)
 else
 eB (0<=IntKind.i64.wrap ((c.length:Int)-(b.length:Int))/\IntKind.i64.wrap ((c.length:Int)-(b.length:Int))<=(c.length:Int)) <|
 some (List.take ((IntKind.i64.wrap ((c.length:Int)-(b.length:Int))).toNat) c,true)
def HV(f:eA)(b:eA):Option (eA×Bool) :=
 call (Ll f b) fun c =>
 some (c.1,c.2)
def zN(c:eA)(b:List eA)(f:Bool):Option (eA×Bool×List eA) :=
 bif (f||(decide ((b.length:Int)=0)))then
  some ([],true,b)
 else
 eV b 0 fun j =>
 eB ((c++([32]:eA)).length<=274877906944) <|
 call (BP j (c++([32]:eA))) fun g =>
 call (HV g.1 ([10]:eA)) fun i =>
 eB (0<=1/\1<=(b.length:Int)) <|
 some (i.1,((!g.2)||(!i.2)),List.drop 1 b)
def HG(s:eA):Option (Int×Bool):=some (hP s,atoiE s)
def HF(b:eA):Option (Int×Bool) :=
 eB ((!((decide (b=[]))||(decide (9<(b.length:Int)))))=true->(0<=0/\0<(b.length:Int))) <|
 bif (((decide (b=[]))||(decide (9<(b.length:Int))))||((decide (((b.getD 0 0).toNat:Int)=48))&&(!decide (b=([48]:eA)))))then
  some (0,false)
 else
 jp (S:=Unit) (fun _ =>
  call (HG b) fun c =>
  some (c.1,c.2)) fun i =>
 forL b 0 (fun j f s g k =>
  bif ((decide ((f.toNat:Int)<48))||(decide (57<(f.toNat:Int))))then
   some (0,false)
  else
  g ()) () (fun _ =>
  i ())
def H7(n:Int)(o0:eA):Option Unit:=eB (0<=n/\n<=274877906944) <| some ()
def Ql(b:eA):Option Unit :=
 some ()
def Qm(b:eA):Option Unit :=
 some ()
def Lq(o0:eA):Option Unit:=some ()
def zi(c:eA)(b:eA):Option (Int×eA) :=
 call (Lq b) fun f =>
 eB ((b++c).length<=274877906944) <|
 some ((c.length:Int),b++c)
def zA(b:eA):Option eA :=
 some b
def yN(b:List eA)(c:eA):Option eA :=
 bif decide ((b.length:Int)=0)then
  some []
 else
 bif decide ((b.length:Int)=1)then
  eV b 0 fun C =>
  some C
 else
 jp (S:=Int) (fun D =>
  jp (S:=Int) (fun E =>
   call (H7 E []) fun F =>
   eV b 0 fun n =>
   call (zi n []) fun o =>
   jp (S:=eA) (fun i =>
    call (zA i) fun p =>
    some p) fun t =>
   eB (0<=1/\1<=(b.length:Int)) <|
   forL (List.drop 1 b) 0 (fun G u f j I =>
    call (zi c f) fun v =>
    call (zi u v.2) fun z =>
    j z.2) o.2 (fun f =>
    t f)) fun B =>
  forL b 0 (fun J l g k L =>
   bif decide ((IntKind.i64.wrap (9223372036854775807-g))<(l.length:Int))then
    none
   else
   k (IntKind.i64.wrap (g+(l.length:Int)))) D (fun g =>
   B g)) fun m =>
 bif decide (0<(c.length:Int))then
  eB (¬ (IntKind.i64.wrap ((b.length:Int)-1))=0) <|
  bif decide ((IntKind.i64.wrap (Int.tdiv 9223372036854775807 (IntKind.i64.wrap ((b.length:Int)-1))))<=(c.length:Int))then
   none
  else
  m (IntKind.i64.wrap (0+(IntKind.i64.wrap ((c.length:Int)*(IntKind.i64.wrap ((b.length:Int)-1))))))
 else
 m 0
def Lc(f:eA)(b:eA):Option (eA×eA×Bool) :=
 call (FX f b) fun c =>
 bif decide (0<=c)then
  eB (0<=c/\c<=(f.length:Int)) <|
  eB (0<=IntKind.i64.wrap (c+(b.length:Int))/\IntKind.i64.wrap (c+(b.length:Int))<=(f.length:Int)) <|
  some (List.take c.toNat f,List.drop ((IntKind.i64.wrap (c+(b.length:Int))).toNat) f,true)
 else
 some (f,[],false)
def x9(f:eA)(c:eA):Option (eA×eA×Bool) :=
 call (Lc f c) fun b =>
 some (b.1,b.2.1,b.2.2)
def FU(b:eA)(c:Int):Option Int :=
 call (F2 b c) fun f =>
 some f
def Hj(b:eA):Option (Int×Int) :=
 bif decide (b=[])then
  some (0,0)
 else
 fN b 0 fun c =>
 bif ((decide (c=92))||(decide (c=34)))then
  some (c,1)
 else
 bif decide (c=110)then
  some (10,1)
 else
 bif ((!decide (c=120))||(decide ((b.length:Int)<3)))then
  some (0,0)
 else
 fN b 1 fun i =>
 call (FU ([48,49,50,51,52,53,54,55,56,57,97,98,99,100,101,102]:eA) i) fun f =>
 fN b 2 fun j =>
 call (FU ([48,49,50,51,52,53,54,55,56,57,97,98,99,100,101,102]:eA) j) fun g =>
 bif ((decide (f<0))||(decide (g<0)))then
  some (0,0)
 else
 bif (((decide (32<=(IntKind.u8.wrap (IntKind.i64.wrap ((IntKind.i64.wrap (16*f))+g)))))&&(decide ((IntKind.u8.wrap (IntKind.i64.wrap ((IntKind.i64.wrap (16*f))+g)))<=126)))||(decide ((IntKind.u8.wrap (IntKind.i64.wrap ((IntKind.i64.wrap (16*f))+g)))=10)))then
  some (0,0)
 else
 some (IntKind.u8.wrap (IntKind.i64.wrap ((IntKind.i64.wrap (16*f))+g)),3)
def Fy(b:eA):Option (eA×Int) :=
 eB ((!(decide ((b.length:Int)<2)))=true->(0<=0/\0<(b.length:Int))) <|
 eB ((!((decide ((b.length:Int)<2))||(!decide (((b.getD 0 0).toNat:Int)=34))))=true->(0<=IntKind.i64.wrap ((b.length:Int)-1)/\IntKind.i64.wrap ((b.length:Int)-1)<(b.length:Int))) <|
 bif (((decide ((b.length:Int)<2))||(!decide (((b.getD 0 0).toNat:Int)=34)))||(!decide (((b.getD ((IntKind.i64.wrap ((b.length:Int)-1)).toNat) 0).toNat:Int)=34)))then
  some ([],8)
 else
 eB (0<=1/\1<=(b.length:Int)/\0<=IntKind.i64.wrap ((b.length:Int)-1)/\IntKind.i64.wrap ((b.length:Int)-1)<=(b.length:Int)/\1<=IntKind.i64.wrap ((b.length:Int)-1)) <|
 eB (0<=0/\0<=((List.take ((IntKind.i64.wrap ((b.length:Int)-1)).toNat-1) (List.drop 1 b)).length:Int)/\((List.take ((IntKind.i64.wrap ((b.length:Int)-1)).toNat-1) (List.drop 1 b)).length:Int)<=274877906944) <|
 jp (S:=List Int) (fun k =>
  some (Go.Vc.strOf k,0)) fun l =>
 loopN fJ (fun s j m =>
  match s with
  |(f,c) =>
   bif decide (f<((List.take ((IntKind.i64.wrap ((b.length:Int)-1)).toNat-1) (List.drop 1 b)).length:Int))then
    fN (List.take ((IntKind.i64.wrap ((b.length:Int)-1)).toNat-1) (List.drop 1 b)) f fun g =>
    bif (((decide (g<32))||(decide (126<g)))||(decide (g=34)))then
     some ([],8)
    else
    bif decide (g=92)then
     eB (0<=IntKind.i64.wrap (f+1)/\IntKind.i64.wrap (f+1)<=((List.take ((IntKind.i64.wrap ((b.length:Int)-1)).toNat-1) (List.drop 1 b)).length:Int)) <|
     call (Hj (List.drop ((IntKind.i64.wrap (f+1)).toNat) (List.take ((IntKind.i64.wrap ((b.length:Int)-1)).toNat-1) (List.drop 1 b)))) fun i =>
     bif decide (i.2=0)then
      some ([],8)
     else
     eB ((c++[i.1]).length<=274877906944) <|
     j (IntKind.i64.wrap ((IntKind.i64.wrap (f+i.2))+1),c++[i.1])
    else
    eB ((c++[g]).length<=274877906944) <|
    j (IntKind.i64.wrap (f+1),c++[g])
   else
   m (f,c)) (0,List.replicate 0 0) (fun s=>match s with
  |(f,c) =>
   l c)
def Hb(b:eA):Option Bool :=
 some ((decide (b=([48]:eA)))||(decide (b=([49]:eA))))
def FJ(v:eA):Option (ak×Bool) :=
 call (x9 v ([32]:eA)) fun b =>
 call (x9 b.2.1 ([32]:eA)) fun c =>
 bif ((!b.2.2)||(decide (c.1=[])))then
  some ((ak.mk [] (ab.mk [] [] false) (aa.mk [] []) (ah.mk [] [] false false)),false)
 else
 jp (S:=Bool) (fun i =>
  bif i then
   call (Fy c.2.1) fun l =>
   some ((ak.mk b.1 (ab.mk [] [] false) (aa.mk c.1 l.1) (ah.mk [] [] false false)),(c.2.2&&(decide (l.2=0))))
  else
  jp (S:=Bool) (fun j =>
   bif j then
    call (Fy c.2.1) fun m =>
    some ((ak.mk b.1 (ab.mk c.1 m.1 ((decide (b.1=([114,117,110]:eA)))||(decide (b.1=([112,117,116,114,117,110]:eA))))) (aa.mk [] []) (ah.mk [] [] false false)),(c.2.2&&(decide (m.2=0))))
   else
   bif decide (b.1=([115,101,114,118,105,99,101]:eA))then
    call (yQ c.2.1 ([32]:eA)) fun f =>
    eB ((!((!c.2.2)||(!decide ((f.length:Int)=3))))=true->(0<=0/\0<(f.length:Int))) <|
    eB ((!(((!c.2.2)||(!decide ((f.length:Int)=3)))||(decide ((f.getD 0 [])=[]))))=true->(0<=1/\1<(f.length:Int))) <|
    callG (!(((!c.2.2)||(!decide ((f.length:Int)=3)))||(decide ((f.getD 0 [])=[])))) (Hb (f.getD 1 [])) false fun k =>
    eB ((!((((!c.2.2)||(!decide ((f.length:Int)=3)))||(decide ((f.getD 0 [])=[])))||(!k)))=true->(0<=2/\2<(f.length:Int))) <|
    callG (!((((!c.2.2)||(!decide ((f.length:Int)=3)))||(decide ((f.getD 0 [])=[])))||(!k))) (Hb (f.getD 2 [])) false fun o =>
    bif (((((!c.2.2)||(!decide ((f.length:Int)=3)))||(decide ((f.getD 0 [])=[])))||(!k))||(!o))then
     some ((ak.mk [] (ab.mk [] [] false) (aa.mk [] []) (ah.mk [] [] false false)),false)
    else
    eV f 0 fun p =>
    eV f 1 fun t =>
    eV f 2 fun u =>
    some ((ak.mk b.1 (ab.mk [] [] false) (aa.mk [] []) (ah.mk c.1 p (decide (t=([49]:eA))) (decide (u=([49]:eA))))),true)
   else
   bif decide (b.1=([114,101,109,111,118,101]:eA))then
    some ((ak.mk b.1 (ab.mk c.1 [] false) (aa.mk [] []) (ah.mk [] [] false false)),!c.2.2)
   else
   bif decide (b.1=([117,110,115,101,116]:eA))then
    some ((ak.mk b.1 (ab.mk [] [] false) (aa.mk c.1 []) (ah.mk [] [] false false)),!c.2.2)
   else
   bif decide (b.1=([100,114,111,112]:eA))then
    some ((ak.mk b.1 (ab.mk [] [] false) (aa.mk [] []) (ah.mk c.1 [] false false)),!c.2.2)
   else
   some ((ak.mk b.1 (ab.mk [] [] false) (aa.mk [] []) (ah.mk [] [] false false)),!c.2.2)) fun g =>
  bif decide (b.1=([102,105,108,101]:eA))then
   g (decide (b.1=([102,105,108,101]:eA)))
  else
  bif decide (b.1=([114,117,110]:eA))then
   g (decide (b.1=([114,117,110]:eA)))
  else
  bif decide (b.1=([112,117,116]:eA))then
   g (decide (b.1=([112,117,116]:eA)))
  else
  g (decide (b.1=([112,117,116,114,117,110]:eA)))) fun n =>
 bif decide (b.1=([102,97,99,116]:eA))then
  n (decide (b.1=([102,97,99,116]:eA)))
 else
 n (decide (b.1=([115,101,116]:eA)))
def HS(b:eA):Option Int :=
 jp (S:=Bool) (fun f =>
  bif f then
   some 1
  else
  bif decide (b=([114,101,109,111,118,101]:eA))then
   some 2
  else
  bif decide (b=([115,101,116]:eA))then
   some 3
  else
  bif decide (b=([117,110,115,101,116]:eA))then
   some 4
  else
  bif decide (b=([115,101,114,118,105,99,101]:eA))then
   some 5
  else
  bif decide (b=([100,114,111,112]:eA))then
   some 6
  else
  some 0) fun c =>
 bif decide (b=([112,117,116]:eA))then
  c (decide (b=([112,117,116]:eA)))
 else
 c (decide (b=([112,117,116,114,117,110]:eA)))
def F4(b:ak)(c:List ae):Option (Bool×List ae) :=
 call (HS b.A) fun f =>
 eB ((c++[(ae.mk f b.C b.D b.B)]).length<=274877906944) <|
 some (!decide (f=0),c++[(ae.mk f b.C b.D b.B)])
def FV(i:eA)(m:List ae):Option (Int×List ae) :=
 jp (S:=List ae) (fun n =>
  some ((-1),n)) fun o =>
 loopN fJ (fun s l p =>
  match s with
  |(b,f,c) =>
   bif !decide (b=[])then
    call (x9 b ([10]:eA)) fun g =>
    call (FJ g.1) fun j =>
    callG (!((!g.2.2)||(!j.2))) (F4 j.1 c) (false,c) fun k =>
    bif (((!g.2.2)||(!j.2))||(!k.1))then
     some (f,k.2)
    else
    l (g.2.1,IntKind.i64.wrap (f+1),k.2)
   else
   p (b,f,c)) (i,0,m) (fun s=>match s with
  |(b,f,c) =>
   o c)
def CZ(f:List ae):Option Int :=
 jp (S:=Unit) (fun _ =>
  some 0) fun g =>
 forL f 0 (fun j i s c k =>
  call (FL i) fun b =>
  bif !decide (b=0)then
   some b
  else
  c ()) () (fun _ =>
  g ())
def HU(b:eA):Option (List ae×Int×Int) :=
 bif decide (4194304<(b.length:Int))then
  some ([],0,4)
 else
 call (FV b []) fun c =>
 bif decide (0<=c.1)then
  some ([],c.1,8)
 else
 call (CZ c.2) fun f =>
 bif !decide (f=0)then
  some ([],0,f)
 else
 some (c.2,0,0)
def zo(f:eA)(g:List eA)(i:Bool):Option (List ae×Int×List eA×Bool) :=
 call (zN f g i) fun b =>
 call (HF b.1) fun c =>
 bif ((b.2.1||(!c.2))||(decide ((b.2.2.length:Int)<c.1)))then
  some ([],0,b.2.2,true)
 else
 eB (0<=c.1/\c.1<=(b.2.2.length:Int)) <|
 call (yN (List.take c.1.toNat b.2.2) []) fun k =>
 call (HU k) fun j =>
 eB (0<=c.1/\c.1<=(b.2.2.length:Int)) <|
 some (j.1,j.2.2,List.drop c.1.toNat b.2.2,decide (j.2.2=8))
def Fl(c:eA):Option Bool :=
 jp (S:=Unit) (fun _ =>
  some (decide ((c.length:Int)=16))) fun g =>
 forL c 0 (fun i b s f j =>
  bif !(((decide (48<=(b.toNat:Int)))&&(decide ((b.toNat:Int)<=57)))||((decide (97<=(b.toNat:Int)))&&(decide ((b.toNat:Int)<=102))))then
   some false
  else
  f ()) () (fun _ =>
  g ())
def Bq(f:eA):Option eA :=
 jp (S:=Int) (fun o =>
  jp (S:=List Int) (fun j =>
   some (Go.Vc.strOf j)) fun p =>
  loopN fJ (fun s k t =>
   match s with
   |(b,c) =>
    bif decide (b<((List.replicate 16 0).length:Int))then
     eB (0<=(IntKind.i64.wrap (60-(IntKind.i64.wrap (4*b))))) <|
     fN ([48,49,50,51,52,53,54,55,56,57,97,98,99,100,101,102]:eA) (fj .and .u64 (Int.fdiv o (2^(fz .u64 (IntKind.i64.wrap (60-(IntKind.i64.wrap (4*b))))))) 15) fun l =>
     eB (0<=b/\b<(c.length:Int)) <|
     k (IntKind.i64.wrap (b+1),List.set c b.toNat l)
    else
    t (b,c)) (0,List.replicate 16 0) (fun s=>match s with
   |(b,c) =>
    p c)) fun m =>
 forL f 0 (fun u n g i v =>
  i (IntKind.u64.wrap ((fj .xor .u64 g (IntKind.u64.wrap (n.toNat:Int)))*1099511628211))) 14695981039346656037 (fun g =>
  m g)
def C4(b:eA):Option (aj×Int) :=
 call (FR b ([10]:eA)) fun c =>
 eB (0<=IntKind.i64.wrap ((c.length:Int)-1)/\IntKind.i64.wrap ((c.length:Int)-1)<=(c.length:Int)) <|
 call (zN ([106,111,117,114,110,97,108]:eA) (List.take ((IntKind.i64.wrap ((c.length:Int)-1)).toNat) c) false) fun k =>
 call (zo ([99,104,97,110,103,101,115]:eA) k.2.2 k.2.1) fun j =>
 call (zo ([111,108,100]:eA) j.2.2.1 j.2.2.2) fun i =>
 jp (S:=Int) (fun f =>
  call (zN ([115,117,109]:eA) i.2.2.1 i.2.2.2) fun g =>
  eB ((!(g.2.1||(decide (0<(g.2.2.length:Int)))))=true->(0<=IntKind.i64.wrap ((c.length:Int)-1)/\IntKind.i64.wrap ((c.length:Int)-1)<(c.length:Int))) <|
  callG (!((g.2.1||(decide (0<(g.2.2.length:Int))))||(!decide ((c.getD ((IntKind.i64.wrap ((c.length:Int)-1)).toNat) [])=[])))) (Fl g.1) false fun p =>
  bif (((g.2.1||(decide (0<(g.2.2.length:Int))))||(!decide ((c.getD ((IntKind.i64.wrap ((c.length:Int)-1)).toNat) [])=[])))||(!p))then
   some ((aj.mk [] [] []),8)
  else
  eB (0<=f/\f<=(b.length:Int)) <|
  call (Bq (List.take f.toNat b)) fun m =>
  bif !decide (g.1=m)then
   some ((aj.mk [] [] []),14)
  else
  call (sw k.1) fun n =>
  bif !n then
   some ((aj.mk [] [] []),5)
  else
  bif !decide (j.2.1=0)then
   some ((aj.mk [] [] []),j.2.1)
  else
  bif !decide (i.2.1=0)then
   some ((aj.mk [] [] []),i.2.1)
  else
  bif decide (65536<(b.length:Int))then
   some ((aj.mk [] [] []),4)
  else
  some ((aj.mk k.1 j.1 i.1),0)) fun l =>
 bif decide (0<(i.2.2.1.length:Int))then
  eV i.2.2.1 0 fun o =>
  l (IntKind.i64.wrap ((b.length:Int)-(o.length:Int)))
 else
 l (b.length:Int)
def Hl(f:ai):Option (aj×Int) :=
 call (CR f ([115,116,97,103,101,47,106,111,117,114,110,97,108]:eA)) fun b =>
 bif !b.2 then
  some ((aj.mk [] [] []),0)
 else
 call (C4 b.1.q) fun c =>
 bif !decide (c.2=0)then
  some ((aj.mk [] [] []),1)
 else
 some (c.1,2)
def yI(c:ai)(b:eA):Option Bool :=
 call (CR c b) fun f =>
 some f.2
def CP(b:ab):Option eA :=
 some b.a
def H4(j:List ab)(k:List ab):Option (List ab×List ab) :=
 jp (S:=List ab×List ab) (fun s=>match s with
  |(u,v) =>
   some (u,v)) fun z =>
 loopN fJ (fun s i B =>
  match s with
  |(c,f,g,b) =>
   bif ((decide (c<(j.length:Int)))||(decide (f<(k.length:Int))))then
    jp (S:=Int) (fun l =>
     bif decide (l<0)then
      eV j c fun o =>
      eB ((g++[o]).length<=274877906944) <|
      i (IntKind.i64.wrap (c+1),f,g++[o],b)
     else
     bif decide (0<l)then
      eV k f fun p =>
      eB ((b++[p]).length<=274877906944) <|
      i (c,IntKind.i64.wrap (f+1),g,b++[p])
     else
     eV j c fun t =>
     eV k f fun m =>
     bif !((decide (t.a=m.a))&&((decide (t.q=m.q))&&(decide (t.r=m.r))))then
      eB ((b++[m]).length<=274877906944) <|
      i (IntKind.i64.wrap (c+1),IntKind.i64.wrap (f+1),g,b++[m])
     else
     i (IntKind.i64.wrap (c+1),IntKind.i64.wrap (f+1),g,b)) fun n =>
    bif decide (f=(k.length:Int))then
     n (-1)
    else
    bif decide (c=(j.length:Int))then
     n 1
    else
    eV j c fun C =>
    call (CP C) fun D =>
    eV k f fun E =>
    call (CP E) fun F =>
    call (C1 D F) fun G =>
    n G
   else
   B (c,f,g,b)) (0,0,[],[]) (fun s=>match s with
  |(c,f,g,b) =>
   z (g,b))
def Ig(j:List aa)(k:List aa):Option (List aa×List aa) :=
 jp (S:=List aa×List aa) (fun s=>match s with
  |(u,v) =>
   some (u,v)) fun z =>
 loopN fJ (fun s i B =>
  match s with
  |(c,f,g,b) =>
   bif ((decide (c<(j.length:Int)))||(decide (f<(k.length:Int))))then
    jp (S:=Int) (fun l =>
     bif decide (l<0)then
      eV j c fun n =>
      eB ((g++[n]).length<=274877906944) <|
      i (IntKind.i64.wrap (c+1),f,g++[n],b)
     else
     bif decide (0<l)then
      eV k f fun o =>
      eB ((b++[o]).length<=274877906944) <|
      i (c,IntKind.i64.wrap (f+1),g,b++[o])
     else
     eV j c fun p =>
     eV k f fun m =>
     bif !((decide (p.e=m.e))&&(decide (p.Value=m.Value)))then
      eB ((b++[m]).length<=274877906944) <|
      i (IntKind.i64.wrap (c+1),IntKind.i64.wrap (f+1),g,b++[m])
     else
     i (IntKind.i64.wrap (c+1),IntKind.i64.wrap (f+1),g,b)) fun t =>
    bif decide (f=(k.length:Int))then
     t (-1)
    else
    bif decide (c=(j.length:Int))then
     t 1
    else
    eV j c fun C =>
    call (sx C) fun D =>
    eV k f fun E =>
    call (sx E) fun F =>
    call (C1 D F) fun G =>
    t G
   else
   B (c,f,g,b)) (0,0,[],[]) (fun s=>match s with
  |(c,f,g,b) =>
   z (g,b))
def Ie(l:List ah)(m:List ah):Option (List ah×List ah) :=
 jp (S:=List ah×List ah) (fun s=>match s with
  |(B,C) =>
   some (B,C)) fun D =>
 loopN fJ (fun s k E =>
  match s with
  |(c,f,g,b) =>
   bif ((decide (c<(l.length:Int)))||(decide (f<(m.length:Int))))then
    jp (S:=Int) (fun n =>
     bif decide (n<0)then
      eV l c fun v =>
      eB ((g++[v]).length<=274877906944) <|
      k (IntKind.i64.wrap (c+1),f,g++[v],b)
     else
     bif decide (0<n)then
      eV m f fun z =>
      eB ((b++[z]).length<=274877906944) <|
      k (c,IntKind.i64.wrap (f+1),g,b++[z])
     else
     eV l c fun p =>
     eV m f fun i =>
     bif !((decide (p.j=i.j))&&((decide (p.a=i.a))&&((decide (p.u=i.u))&&(decide (p.t=i.t)))))then
      eB ((b++[i]).length<=274877906944) <|
      k (IntKind.i64.wrap (c+1),IntKind.i64.wrap (f+1),g,b++[i])
     else
     k (IntKind.i64.wrap (c+1),IntKind.i64.wrap (f+1),g,b)) fun o =>
    bif decide (f=(m.length:Int))then
     o (-1)
    else
    bif decide (c=(l.length:Int))then
     o 1
    else
    eV l c fun F =>
    call (x8 F) fun G =>
    eV m f fun I =>
    call (x8 I) fun J =>
    call (C1 G J) fun L =>
    o L
   else
   E (c,f,g,b)) (0,0,[],[]) (fun s=>match s with
  |(c,f,g,b) =>
   D (g,b))
def GW(n:ai)(o:ai):Option (List ae) :=
 call (H4 n.b o.b) fun T =>
 call (Ig n.i o.i) fun p =>
 call (Ie n.h o.h) fun t =>
 jp (S:=List ae) (fun E =>
  jp (S:=List ae) (fun F =>
   jp (S:=List ae) (fun G =>
    jp (S:=List ae) (fun I =>
     jp (S:=List ae) (fun J =>
      jp (S:=List ae) (fun L =>
       some L) fun U =>
      forL t.2 0 (fun a0 u c M a1 =>
       eB ((c++[(ae.mk 5 (ab.mk [] [] false) (aa.mk [] []) u)]).length<=274877906944) <|
       M (c++[(ae.mk 5 (ab.mk [] [] false) (aa.mk [] []) u)])) J (fun c =>
       U c)) fun V =>
     forL p.2 0 (fun a2 v f N a3 =>
      eB ((f++[(ae.mk 3 (ab.mk [] [] false) v (ah.mk [] [] false false))]).length<=274877906944) <|
      N (f++[(ae.mk 3 (ab.mk [] [] false) v (ah.mk [] [] false false))])) I (fun f =>
      V f)) fun W =>
    forL T.2 0 (fun a4 z g O a5 =>
     eB ((g++[(ae.mk 1 z (aa.mk [] []) (ah.mk [] [] false false))]).length<=274877906944) <|
     O (g++[(ae.mk 1 z (aa.mk [] []) (ah.mk [] [] false false))])) G (fun g =>
     W g)) fun X =>
   forL t.1 0 (fun a6 B k P a7 =>
    eB ((k++[(ae.mk 6 (ab.mk [] [] false) (aa.mk [] []) (ah.mk B.j [] false false))]).length<=274877906944) <|
    P (k++[(ae.mk 6 (ab.mk [] [] false) (aa.mk [] []) (ah.mk B.j [] false false))])) F (fun k =>
    X k)) fun Y =>
  forL p.1 0 (fun a8 C l Q a9 =>
   eB ((l++[(ae.mk 4 (ab.mk [] [] false) (aa.mk C.e []) (ah.mk [] [] false false))]).length<=274877906944) <|
   Q (l++[(ae.mk 4 (ab.mk [] [] false) (aa.mk C.e []) (ah.mk [] [] false false))])) E (fun l =>
   Y l)) fun Z =>
 forL T.1 0 (fun ac D m R ad =>
  eB ((m++[(ae.mk 2 (ab.mk D.a [] false) (aa.mk [] []) (ah.mk [] [] false false))]).length<=274877906944) <|
  R (m++[(ae.mk 2 (ab.mk D.a [] false) (aa.mk [] []) (ah.mk [] [] false false))])) [] (fun m =>
  Z m)
def GV(c:ai)(f:List ae):Option (List ae×Int) :=
 call (Bo c f) fun b =>
 bif !decide (b.2=0)then
  some ([],b.2)
 else
 call (GW b.1 c) fun g =>
 some (g,0)
def Fh(g:eA):Option eA :=
 eB (0<=0/\0<=IntKind.i64.wrap ((g.length:Int)+2)/\IntKind.i64.wrap ((g.length:Int)+2)<=274877906944) <|
 eB (((List.replicate 0 0)++[34]).length<=274877906944) <|
 jp (S:=List Int) (fun i =>
  eB ((i++[34]).length<=274877906944) <|
  some (Go.Vc.strOf (i++[34]))) fun l =>
 forL g 0 (fun n c b f m =>
  bif ((decide ((c.toNat:Int)=92))||(decide ((c.toNat:Int)=34)))then
   eB ((b++[92,(c.toNat:Int)]).length<=274877906944) <|
   f (b++[92,(c.toNat:Int)])
  else
  bif decide ((c.toNat:Int)=10)then
   eB ((b++[92,110]).length<=274877906944) <|
   f (b++[92,110])
  else
  bif ((decide ((c.toNat:Int)<32))||(decide (126<(c.toNat:Int))))then
   fN ([48,49,50,51,52,53,54,55,56,57,97,98,99,100,101,102]:eA) (Int.fdiv (c.toNat:Int) (2^(fz .u8 4))) fun j =>
   fN ([48,49,50,51,52,53,54,55,56,57,97,98,99,100,101,102]:eA) (fj .and .u8 (c.toNat:Int) 15) fun k =>
   eB ((b++[92,120,j,k]).length<=274877906944) <|
   f (b++[92,120,j,k])
  else
  eB ((b++[(c.toNat:Int)]).length<=274877906944) <|
  f (b++[(c.toNat:Int)])) ((List.replicate 0 0)++[34]) (fun b =>
  l b)
def HA(f:eA)(g:eA)(c:ab):Option eA :=
 jp (S:=eA) (fun b =>
  eB ((b++([32]:eA)).length<=274877906944) <|
  eB (((b++([32]:eA))++c.a).length<=274877906944) <|
  eB ((((b++([32]:eA))++c.a)++([32]:eA)).length<=274877906944) <|
  call (Fh c.q) fun i =>
  eB (((((b++([32]:eA))++c.a)++([32]:eA))++i).length<=274877906944) <|
  eB ((((((b++([32]:eA))++c.a)++([32]:eA))++i)++([10]:eA)).length<=274877906944) <|
  some (((((b++([32]:eA))++c.a)++([32]:eA))++i)++([10]:eA))) fun j =>
 bif c.r then
  j g
 else
 j f
def HQ(b:eA)(c:aa):Option eA :=
 eB ((b++([32]:eA)).length<=274877906944) <|
 eB (((b++([32]:eA))++c.e).length<=274877906944) <|
 eB ((((b++([32]:eA))++c.e)++([32]:eA)).length<=274877906944) <|
 call (Fh c.Value) fun f =>
 eB (((((b++([32]:eA))++c.e)++([32]:eA))++f).length<=274877906944) <|
 eB ((((((b++([32]:eA))++c.e)++([32]:eA))++f)++([10]:eA)).length<=274877906944) <|
 some (((((b++([32]:eA))++c.e)++([32]:eA))++f)++([10]:eA))
def GH(b:Bool):Option eA :=
 bif b then
  some ([49]:eA)
 else
 some ([48]:eA)
def HP(b:ah):Option eA :=
 eB ((([115,101,114,118,105,99,101,32]:eA)++b.j).length<=274877906944) <|
 eB (((([115,101,114,118,105,99,101,32]:eA)++b.j)++([32]:eA)).length<=274877906944) <|
 eB ((((([115,101,114,118,105,99,101,32]:eA)++b.j)++([32]:eA))++b.a).length<=274877906944) <|
 eB (((((([115,101,114,118,105,99,101,32]:eA)++b.j)++([32]:eA))++b.a)++([32]:eA)).length<=274877906944) <|
 call (GH b.u) fun c =>
 eB ((((((([115,101,114,118,105,99,101,32]:eA)++b.j)++([32]:eA))++b.a)++([32]:eA))++c).length<=274877906944) <|
 eB (((((((([115,101,114,118,105,99,101,32]:eA)++b.j)++([32]:eA))++b.a)++([32]:eA))++c)++([32]:eA)).length<=274877906944) <|
 call (GH b.t) fun f =>
 eB ((((((((([115,101,114,118,105,99,101,32]:eA)++b.j)++([32]:eA))++b.a)++([32]:eA))++c)++([32]:eA))++f).length<=274877906944) <|
 eB (((((((((([115,101,114,118,105,99,101,32]:eA)++b.j)++([32]:eA))++b.a)++([32]:eA))++c)++([32]:eA))++f)++([10]:eA)).length<=274877906944) <|
 some ((((((((([115,101,114,118,105,99,101,32]:eA)++b.j)++([32]:eA))++b.a)++([32]:eA))++c)++([32]:eA))++f)++([10]:eA))
def Hc(b:eA):Option (eA×Int) :=
 bif decide (4194304<(b.length:Int))then
  some ([],4)
 else
 some (b,0)
def BT(l:List ae):Option (eA×Int) :=
 call (CZ l) fun m =>
 bif !decide (m=0)then
  some ([],m)
 else
 jp (S:=eA) (fun p =>
  call (zA p) fun G =>
  call (Hc G) fun n =>
  some (n.1,n.2)) fun I =>
 forL l 0 (fun J b c i L =>
  bif decide (b.k=1)then
   call (HA ([112,117,116]:eA) ([112,117,116,114,117,110]:eA) b.g) fun t =>
   call (zi t c) fun u =>
   i u.2
  else
  bif decide (b.k=2)then
   eB ((([114,101,109,111,118,101,32]:eA)++b.g.a).length<=274877906944) <|
   eB (((([114,101,109,111,118,101,32]:eA)++b.g.a)++([10]:eA)).length<=274877906944) <|
   call (zi ((([114,101,109,111,118,101,32]:eA)++b.g.a)++([10]:eA)) c) fun v =>
   i v.2
  else
  bif decide (b.k=3)then
   call (HQ ([115,101,116]:eA) b.o) fun z =>
   call (zi z c) fun B =>
   i B.2
  else
  bif decide (b.k=4)then
   eB ((([117,110,115,101,116,32]:eA)++b.o.e).length<=274877906944) <|
   eB (((([117,110,115,101,116,32]:eA)++b.o.e)++([10]:eA)).length<=274877906944) <|
   call (zi ((([117,110,115,101,116,32]:eA)++b.o.e)++([10]:eA)) c) fun C =>
   i C.2
  else
  bif decide (b.k=5)then
   call (HP b.f) fun D =>
   call (zi D c) fun E =>
   i E.2
  else
  eB ((([100,114,111,112,32]:eA)++b.f.j).length<=274877906944) <|
  eB (((([100,114,111,112,32]:eA)++b.f.j)++([10]:eA)).length<=274877906944) <|
  call (zi ((([100,114,111,112,32]:eA)++b.f.j)++([10]:eA)) c) fun F =>
  i F.2) [] (fun c =>
  I c)
def strconv_Itoa(n:Int):Option eA:=eB (-9223372036854775808<=n/\n<=9223372036854775807) <| some (Go.Lib.itoa n)
def FP(c:aj):Option (eA×Int) :=
 call (sw c.v) fun n =>
 bif !n then
  some ([],5)
 else
 eB ((([106,111,117,114,110,97,108,32]:eA)++c.v).length<=274877906944) <|
 eB (((([106,111,117,114,110,97,108,32]:eA)++c.v)++([10]:eA)).length<=274877906944) <|
 jp (S:=eA) (fun j =>
  call (Bq j) fun f =>
  eB ((([115,117,109,32]:eA)++f).length<=274877906944) <|
  eB (((([115,117,109,32]:eA)++f)++([10]:eA)).length<=274877906944) <|
  eB ((j++((([115,117,109,32]:eA)++f)++([10]:eA))).length<=274877906944) <|
  bif decide (65536<((j++((([115,117,109,32]:eA)++f)++([10]:eA))).length:Int))then
   some ([],4)
  else
  some (j++((([115,117,109,32]:eA)++f)++([10]:eA)),0)) fun o =>
 forL [(am.mk ([99,104,97,110,103,101,115]:eA) c.y),(am.mk ([111,108,100]:eA) c.z)] 0 (fun p b k m t =>
  call (BT b.l) fun g =>
  bif !decide (g.2=0)then
   some ([],g.2)
  else
  eB ((b.A++([32]:eA)).length<=274877906944) <|
  call (strconv_Itoa (b.l.length:Int)) fun i =>
  eB (((b.A++([32]:eA))++i).length<=274877906944) <|
  eB ((((b.A++([32]:eA))++i)++([10]:eA)).length<=274877906944) <|
  eB (((((b.A++([32]:eA))++i)++([10]:eA))++g.1).length<=274877906944) <|
  eB ((k++((((b.A++([32]:eA))++i)++([10]:eA))++g.1)).length<=274877906944) <|
  m (k++((((b.A++([32]:eA))++i)++([10]:eA))++g.1))) ((([106,111,117,114,110,97,108,32]:eA)++c.v)++([10]:eA)) (fun k =>
  o k)
def uW(b:eA):Option ae :=
 some (ae.mk 2 (ab.mk b [] false) (aa.mk [] []) (ah.mk [] [] false false))
def FQ(c:ai)(f:eA):Option (List aa×List ab×List aa×List ah×List ae) :=
 jp (S:=List ae) (fun j =>
  call (yI c f) fun u =>
  bif u then
   call (uW f) fun n =>
   eB ((j++[n]).length<=274877906944) <|
   some (c.m,c.b,c.i,c.h,j++[n])
  else
  some (c.m,c.b,c.i,c.h,j)) fun p =>
 forL c.b 0 (fun v k g l z =>
  call (BC k.a) fun t =>
  bif (t&&(!decide (k.a=f)))then
   call (uW k.a) fun o =>
   eB ((g++[o]).length<=274877906944) <|
   l (g++[o])
  else
  l g) [] (fun g =>
  p g)
def Fe(b:eA)(c:eA):Option ae :=
 some (ae.mk 1 (ab.mk b c false) (aa.mk [] []) (ah.mk [] [] false false))
def Fj(b:ai)(i:eA)(c:List ae):Option (List ae×Int) :=
 call (FO b c) fun l =>
 bif !decide (l=0)then
  some ([],l)
 else
 call (sw i) fun v =>
 bif !v then
  some ([],5)
 else
 call (Hl b) fun m =>
 callG (!(decide (m.2=2))) (yI b ([115,116,97,103,101,47,100,111,110,101]:eA)) false fun n =>
 callG (!((decide (m.2=2))||n)) (yI b ([115,116,97,103,101,47,98,97,99,107]:eA)) false fun z =>
 bif (((decide (m.2=2))||n)||z)then
  some ([],12)
 else
 call (CQ b) fun B =>
 call (GV B c) fun o =>
 bif !decide (o.2=0)then
  some ([],o.2)
 else
 call (FP (aj.mk i c o.1)) fun p =>
 bif !decide (p.2=0)then
  some ([],p.2)
 else
 call (FQ b ([115,116,97,103,101,47,106,111,117,114,110,97,108]:eA)) fun f =>
 call (Fe ([115,116,97,103,101,47,106,111,117,114,110,97,108]:eA) p.1) fun g =>
 eB ((f.2.2.2.2++[g]).length<=274877906944) <|
 eB (((f.2.2.2.2++[g])++c).length<=274877906944) <|
 call (Fe ([115,116,97,103,101,47,100,111,110,101]:eA) i) fun t =>
 call (uW ([115,116,97,103,101,47,106,111,117,114,110,97,108]:eA)) fun j =>
 call (uW ([115,116,97,103,101,47,100,111,110,101]:eA)) fun k =>
 eB ((((f.2.2.2.2++[g])++c)++[t,j,k]).length<=274877906944) <|
 call (Bo b (((f.2.2.2.2++[g])++c)++[t,j,k])) fun u =>
 bif !decide (u.2=0)then
  some ([],u.2)
 else
 some (((f.2.2.2.2++[g])++c)++[t,j,k],0)
def G6(c:eA):Option (List eA×Int) :=
 call (yQ c ([10]:eA)) fun b =>
 eV b (IntKind.i64.wrap ((b.length:Int)-1)) fun f =>
 bif decide (f=[])then
  eB (0<=IntKind.i64.wrap ((b.length:Int)-1)/\IntKind.i64.wrap ((b.length:Int)-1)<=(b.length:Int)) <|
  some (List.take ((IntKind.i64.wrap ((b.length:Int)-1)).toNat) b,(-1))
 else
 some (b,IntKind.i64.wrap ((b.length:Int)-1))
def yR(b:Int):Option (aj×Int) :=
 some ((aj.mk [] [] []),b)
def Cw(g:eA):Option eA :=
 jp (S:=eA) (fun j =>
  eB ((j++([34]:eA)).length<=274877906944) <|
  some (j++([34]:eA))) fun k =>
 forL g 0 (fun c b f i l =>
  bif ((decide ((b.toNat:Int)=34))||(decide ((b.toNat:Int)=92)))then
   eB (0<=(c:Int)/\(c:Int)<=(g.length:Int)/\0<=IntKind.i64.wrap ((c:Int)+1)/\IntKind.i64.wrap ((c:Int)+1)<=(g.length:Int)/\(c:Int)<=IntKind.i64.wrap ((c:Int)+1)) <|
   eB ((([92]:eA)++(List.take ((IntKind.i64.wrap ((c:Int)+1)).toNat-c) (List.drop c g))).length<=274877906944) <|
   eB ((f++(([92]:eA)++(List.take ((IntKind.i64.wrap ((c:Int)+1)).toNat-c) (List.drop c g)))).length<=274877906944) <|
   i (f++(([92]:eA)++(List.take ((IntKind.i64.wrap ((c:Int)+1)).toNat-c) (List.drop c g))))
  else
  bif decide ((b.toNat:Int)=10)then
   eB ((f++([92,110]:eA)).length<=274877906944) <|
   i (f++([92,110]:eA))
  else
  bif ((decide ((b.toNat:Int)<32))||(decide (126<(b.toNat:Int))))then
   eB (0<=Int.fdiv (b.toNat:Int) (2^(fz .u8 4))/\Int.fdiv (b.toNat:Int) (2^(fz .u8 4))<=(([48,49,50,51,52,53,54,55,56,57,97,98,99,100,101,102]:eA).length:Int)/\0<=IntKind.u8.wrap ((Int.fdiv (b.toNat:Int) (2^(fz .u8 4)))+1)/\IntKind.u8.wrap ((Int.fdiv (b.toNat:Int) (2^(fz .u8 4)))+1)<=(([48,49,50,51,52,53,54,55,56,57,97,98,99,100,101,102]:eA).length:Int)/\Int.fdiv (b.toNat:Int) (2^(fz .u8 4))<=IntKind.u8.wrap ((Int.fdiv (b.toNat:Int) (2^(fz .u8 4)))+1)) <|
   eB ((([92,120]:eA)++(List.take ((IntKind.u8.wrap ((Int.fdiv (b.toNat:Int) (2^(fz .u8 4)))+1)).toNat-(Int.fdiv (b.toNat:Int) (2^(fz .u8 4))).toNat) (List.drop ((Int.fdiv (b.toNat:Int) (2^(fz .u8 4))).toNat) ([48,49,50,51,52,53,54,55,56,57,97,98,99,100,101,102]:eA)))).length<=274877906944) <|
   eB (0<=fj .and .u8 (b.toNat:Int) 15/\fj .and .u8 (b.toNat:Int) 15<=(([48,49,50,51,52,53,54,55,56,57,97,98,99,100,101,102]:eA).length:Int)/\0<=IntKind.u8.wrap ((fj .and .u8 (b.toNat:Int) 15)+1)/\IntKind.u8.wrap ((fj .and .u8 (b.toNat:Int) 15)+1)<=(([48,49,50,51,52,53,54,55,56,57,97,98,99,100,101,102]:eA).length:Int)/\fj .and .u8 (b.toNat:Int) 15<=IntKind.u8.wrap ((fj .and .u8 (b.toNat:Int) 15)+1)) <|
   eB (((([92,120]:eA)++(List.take ((IntKind.u8.wrap ((Int.fdiv (b.toNat:Int) (2^(fz .u8 4)))+1)).toNat-(Int.fdiv (b.toNat:Int) (2^(fz .u8 4))).toNat) (List.drop ((Int.fdiv (b.toNat:Int) (2^(fz .u8 4))).toNat) ([48,49,50,51,52,53,54,55,56,57,97,98,99,100,101,102]:eA))))++(List.take ((IntKind.u8.wrap ((fj .and .u8 (b.toNat:Int) 15)+1)).toNat-(fj .and .u8 (b.toNat:Int) 15).toNat) (List.drop ((fj .and .u8 (b.toNat:Int) 15).toNat) ([48,49,50,51,52,53,54,55,56,57,97,98,99,100,101,102]:eA)))).length<=274877906944) <|
   eB ((f++((([92,120]:eA)++(List.take ((IntKind.u8.wrap ((Int.fdiv (b.toNat:Int) (2^(fz .u8 4)))+1)).toNat-(Int.fdiv (b.toNat:Int) (2^(fz .u8 4))).toNat) (List.drop ((Int.fdiv (b.toNat:Int) (2^(fz .u8 4))).toNat) ([48,49,50,51,52,53,54,55,56,57,97,98,99,100,101,102]:eA))))++(List.take ((IntKind.u8.wrap ((fj .and .u8 (b.toNat:Int) 15)+1)).toNat-(fj .and .u8 (b.toNat:Int) 15).toNat) (List.drop ((fj .and .u8 (b.toNat:Int) 15).toNat) ([48,49,50,51,52,53,54,55,56,57,97,98,99,100,101,102]:eA))))).length<=274877906944) <|
   i (f++((([92,120]:eA)++(List.take ((IntKind.u8.wrap ((Int.fdiv (b.toNat:Int) (2^(fz .u8 4)))+1)).toNat-(Int.fdiv (b.toNat:Int) (2^(fz .u8 4))).toNat) (List.drop ((Int.fdiv (b.toNat:Int) (2^(fz .u8 4))).toNat) ([48,49,50,51,52,53,54,55,56,57,97,98,99,100,101,102]:eA))))++(List.take ((IntKind.u8.wrap ((fj .and .u8 (b.toNat:Int) 15)+1)).toNat-(fj .and .u8 (b.toNat:Int) 15).toNat) (List.drop ((fj .and .u8 (b.toNat:Int) 15).toNat) ([48,49,50,51,52,53,54,55,56,57,97,98,99,100,101,102]:eA)))))
  else
  eB (0<=(c:Int)/\(c:Int)<=(g.length:Int)/\0<=IntKind.i64.wrap ((c:Int)+1)/\IntKind.i64.wrap ((c:Int)+1)<=(g.length:Int)/\(c:Int)<=IntKind.i64.wrap ((c:Int)+1)) <|
  eB ((f++(List.take ((IntKind.i64.wrap ((c:Int)+1)).toNat-c) (List.drop c g))).length<=274877906944) <|
  i (f++(List.take ((IntKind.i64.wrap ((c:Int)+1)).toNat-c) (List.drop c g)))) ([34]:eA) (fun f =>
  k f)
def GU(c:eA):Option (eA×Int) :=
 eB ((!(decide ((c.length:Int)<2)))=true->(0<=0/\0<(c.length:Int))) <|
 eB ((!((decide ((c.length:Int)<2))||(!decide (((c.getD 0 0).toNat:Int)=34))))=true->(0<=IntKind.i64.wrap ((c.length:Int)-1)/\IntKind.i64.wrap ((c.length:Int)-1)<(c.length:Int))) <|
 bif (((decide ((c.length:Int)<2))||(!decide (((c.getD 0 0).toNat:Int)=34)))||(!decide (((c.getD ((IntKind.i64.wrap ((c.length:Int)-1)).toNat) 0).toNat:Int)=34)))then
  some ([],8)
 else
 jp (S:=List Int) (fun i =>
  call (Cw (Go.Vc.strOf i)) fun n =>
  bif !decide (n=c)then
   some ([],8)
  else
  some (Go.Vc.strOf i,0)) fun o =>
 eB (0<=1/\1<=(c.length:Int)/\0<=IntKind.i64.wrap ((c.length:Int)-1)/\IntKind.i64.wrap ((c.length:Int)-1)<=(c.length:Int)/\1<=IntKind.i64.wrap ((c.length:Int)-1)) <|
 loopN fJ (fun s g p =>
  match s with
  |(b,f) =>
   bif !decide (b=[])then
    fN b 0 fun j =>
    bif !decide (j=92)then
     eB ((f++[j]).length<=274877906944) <|
     eB (0<=1/\1<=(b.length:Int)) <|
     g (List.drop 1 b,f++[j])
    else
    eB ((decide (2<=(b.length:Int)))=true->(0<=1/\1<(b.length:Int))) <|
    eB (((decide (2<=(b.length:Int)))&&(!(decide (((b.getD 1 0).toNat:Int)=34))))=true->(0<=1/\1<(b.length:Int))) <|
    bif ((decide (2<=(b.length:Int)))&&((decide (((b.getD 1 0).toNat:Int)=34))||(decide (((b.getD 1 0).toNat:Int)=92))))then
     fN b 1 fun k =>
     eB ((f++[k]).length<=274877906944) <|
     eB (0<=2/\2<=(b.length:Int)) <|
     g (List.drop 2 b,f++[k])
    else
    eB ((decide (2<=(b.length:Int)))=true->(0<=1/\1<(b.length:Int))) <|
    bif ((decide (2<=(b.length:Int)))&&(decide (((b.getD 1 0).toNat:Int)=110)))then
     eB ((f++[10]).length<=274877906944) <|
     eB (0<=2/\2<=(b.length:Int)) <|
     g (List.drop 2 b,f++[10])
    else
    eB ((decide (4<=(b.length:Int)))=true->(0<=1/\1<(b.length:Int))) <|
    bif ((decide (4<=(b.length:Int)))&&(decide (((b.getD 1 0).toNat:Int)=120)))then
     eB (0<=2/\2<=(b.length:Int)/\0<=3/\3<=(b.length:Int)/\2<=3) <|
     call (yP ([48,49,50,51,52,53,54,55,56,57,97,98,99,100,101,102]:eA) (List.take (3-2) (List.drop 2 b))) fun l =>
     eB (0<=3/\3<=(b.length:Int)/\0<=4/\4<=(b.length:Int)/\3<=4) <|
     call (yP ([48,49,50,51,52,53,54,55,56,57,97,98,99,100,101,102]:eA) (List.take (4-3) (List.drop 3 b))) fun m =>
     eB ((f++[IntKind.u8.wrap (IntKind.i64.wrap ((IntKind.i64.wrap (l*16))+m))]).length<=274877906944) <|
     eB (0<=4/\4<=(b.length:Int)) <|
     g (List.drop 4 b,f++[IntKind.u8.wrap (IntKind.i64.wrap ((IntKind.i64.wrap (l*16))+m))])
    else
    some ([],8)
   else
   p (b,f)) (List.take ((IntKind.i64.wrap ((c.length:Int)-1)).toNat-1) (List.drop 1 c),[]) (fun s=>match s with
  |(b,f) =>
   o f)
def GD(f:eA):Option (eA×eA×Bool) :=
 call (x9 f ([32]:eA)) fun b =>
 call (GU b.2.1) fun c =>
 some (b.1,c.1,((b.2.2&&(!decide (b.1=[])))&&(decide (c.2=0))))
def HZ(c:eA)(b:eA):Option Bool :=
 call (yP c b) fun f =>
 some (decide (0<=f))
def Hh(b:List eA):Option (ah×Bool) :=
 eB ((!(!decide ((b.length:Int)=4)))=true->(0<=0/\0<(b.length:Int))) <|
 eB ((!((!decide ((b.length:Int)=4))||(decide ((b.getD 0 [])=[]))))=true->(0<=1/\1<(b.length:Int))) <|
 eB ((!(((!decide ((b.length:Int)=4))||(decide ((b.getD 0 [])=[])))||(decide ((b.getD 1 [])=[]))))=true->(0<=2/\2<(b.length:Int))) <|
 eB (((!(((!decide ((b.length:Int)=4))||(decide ((b.getD 0 [])=[])))||(decide ((b.getD 1 [])=[]))))&&(!decide ((b.getD 2 [])=([48]:eA))))=true->(0<=2/\2<(b.length:Int))) <|
 eB ((!((((!decide ((b.length:Int)=4))||(decide ((b.getD 0 [])=[])))||(decide ((b.getD 1 [])=[])))||((!decide ((b.getD 2 [])=([48]:eA)))&&(!decide ((b.getD 2 [])=([49]:eA))))))=true->(0<=3/\3<(b.length:Int))) <|
 eB (((!((((!decide ((b.length:Int)=4))||(decide ((b.getD 0 [])=[])))||(decide ((b.getD 1 [])=[])))||((!decide ((b.getD 2 [])=([48]:eA)))&&(!decide ((b.getD 2 [])=([49]:eA))))))&&(!decide ((b.getD 3 [])=([48]:eA))))=true->(0<=3/\3<(b.length:Int))) <|
 bif (((((!decide ((b.length:Int)=4))||(decide ((b.getD 0 [])=[])))||(decide ((b.getD 1 [])=[])))||((!decide ((b.getD 2 [])=([48]:eA)))&&(!decide ((b.getD 2 [])=([49]:eA)))))||((!decide ((b.getD 3 [])=([48]:eA)))&&(!decide ((b.getD 3 [])=([49]:eA)))))then
  some ((ah.mk [] [] false false),false)
 else
 eV b 0 fun c =>
 eV b 1 fun f =>
 eV b 2 fun g =>
 eV b 3 fun i =>
 some ((ah.mk c f (decide (g=([49]:eA))) (decide (i=([49]:eA)))),true)
def G5(k:eA):Option (ae×Bool) :=
 call (x9 k ([32]:eA)) fun b =>
 call (GD b.2.1) fun c =>
 callG (!decide (b.2.1=[])) (HZ b.2.1 ([32]:eA)) false fun f =>
 jp (S:=Bool) (fun g =>
  bif g then
   some ((ae.mk 1 (ab.mk c.1 c.2.1 (decide (b.1=([112,117,116,114,117,110]:eA)))) (aa.mk [] []) (ah.mk [] [] false false)),c.2.2)
  else
  bif decide (b.1=([114,101,109,111,118,101]:eA))then
   some ((ae.mk 2 (ab.mk b.2.1 [] false) (aa.mk [] []) (ah.mk [] [] false false)),((!decide (b.2.1=[]))&&(!f)))
  else
  bif decide (b.1=([115,101,116]:eA))then
   some ((ae.mk 3 (ab.mk [] [] false) (aa.mk c.1 c.2.1) (ah.mk [] [] false false)),c.2.2)
  else
  bif decide (b.1=([117,110,115,101,116]:eA))then
   some ((ae.mk 4 (ab.mk [] [] false) (aa.mk b.2.1 []) (ah.mk [] [] false false)),((!decide (b.2.1=[]))&&(!f)))
  else
  bif decide (b.1=([115,101,114,118,105,99,101]:eA))then
   call (yQ b.2.1 ([32]:eA)) fun l =>
   call (Hh l) fun i =>
   some ((ae.mk 5 (ab.mk [] [] false) (aa.mk [] []) i.1),i.2)
  else
  bif decide (b.1=([100,114,111,112]:eA))then
   some ((ae.mk 6 (ab.mk [] [] false) (aa.mk [] []) (ah.mk b.2.1 [] false false)),((!decide (b.2.1=[]))&&(!f)))
  else
  some ((ae.mk 0 (ab.mk [] [] false) (aa.mk [] []) (ah.mk [] [] false false)),false)) fun j =>
 bif decide (b.1=([112,117,116]:eA))then
  j (decide (b.1=([112,117,116]:eA)))
 else
 j (decide (b.1=([112,117,116,114,117,110]:eA)))
def BS(i:eA)(b:Int)(c:List eA):Option (List ae×Bool×Int) :=
 bif decide ((c.length:Int)<=b)then
  some ([],false,b)
 else
 eV c b fun p =>
 eB ((i++([32]:eA)).length<=274877906944) <|
 call (BP p (i++([32]:eA))) fun j =>
 call (HG j.1) fun f =>
 callG (!(((!j.2)||(!f.2))||(decide (f.1<0)))) (strconv_Itoa f.1) [] fun t =>
 bif (((((!j.2)||(!f.2))||(decide (f.1<0)))||(!decide (t=j.1)))||(decide ((IntKind.i64.wrap ((IntKind.i64.wrap ((c.length:Int)-b))-1))<f.1)))then
  some ([],false,b)
 else
 jp (S:=List ae) (fun l =>
  some (l,true,IntKind.i64.wrap (b+(IntKind.i64.wrap (1+f.1))))) fun n =>
 eB (0<=IntKind.i64.wrap (b+1)/\IntKind.i64.wrap (b+1)<=(c.length:Int)/\0<=IntKind.i64.wrap ((IntKind.i64.wrap (b+1))+f.1)/\IntKind.i64.wrap ((IntKind.i64.wrap (b+1))+f.1)<=(c.length:Int)/\IntKind.i64.wrap (b+1)<=IntKind.i64.wrap ((IntKind.i64.wrap (b+1))+f.1)) <|
 forL (List.take ((IntKind.i64.wrap ((IntKind.i64.wrap (b+1))+f.1)).toNat-(IntKind.i64.wrap (b+1)).toNat) (List.drop ((IntKind.i64.wrap (b+1)).toNat) c)) 0 (fun u o g m v =>
  call (G5 o) fun k =>
  bif !k.2 then
   some ([],false,b)
  else
  eB ((g++[k.1]).length<=274877906944) <|
  m (g++[k.1])) [] (fun g =>
  n g)
def Gm(c:eA):Option Bool :=
 jp (S:=Unit) (fun _ =>
  some (decide ((c.length:Int)=16))) fun g =>
 forL c 0 (fun i b s f j =>
  bif (((decide ((b.toNat:Int)<48))||(decide (57<(b.toNat:Int))))&&((decide ((b.toNat:Int)<97))||(decide (102<(b.toNat:Int)))))then
   some false
  else
  f ()) () (fun _ =>
  g ())
def Lj(b:Int):Option Bool :=
 some (decide ((fj .and .i64 b (IntKind.i64.wrap (b-1)))=0))
def Ny(b:Int):Option Int :=
 bif decide (b=0)then
  some 64
 else
 eB (0<=Int.fdiv (IntKind.u64.wrap ((fj .and .u64 b (IntKind.u64.wrap (-b)))*285870213051353865)) (2^(fz .u64 58))/\Int.fdiv (IntKind.u64.wrap ((fj .and .u64 b (IntKind.u64.wrap (-b)))*285870213051353865)) (2^(fz .u64 58))<(64:Int)) <|
 some (IntKind.i64.wrap (tabL_7.getD ((Int.fdiv (IntKind.u64.wrap ((fj .and .u64 b (IntKind.u64.wrap (-b)))*285870213051353865)) (2^(fz .u64 58))).toNat) 0))
def La(b:Int):Option Int :=
 call (Ny b) fun c =>
 some c
def Ij(Y:List Int)(B:Int)(b:Int)(t:Bool)(append__23:Bool):Option (List Int×eA) :=
 jp (S:=Unit) (fun _ =>
  jp (S:=Int) (fun C =>
   jp (S:=Int×List Int) (fun s=>match s with
    |(u,m) =>
     jp (S:=Int×List Int) (fun s=>match s with
      |(k,n) =>
       bif append__23 then
        eB (n.length=65/\0<=k/\k<=(65:Int)) <|
        none
       else
       eB (n.length=65/\0<=k/\k<=(65:Int)) <|
       some ([],Go.Vc.strOf (List.take (65-k.toNat) (List.drop k.toNat n)))) fun D =>
     bif t then
      eB (0<=IntKind.i64.wrap (u-1)/\IntKind.i64.wrap (u-1)<(65:Int)/\65=m.length) <|
      D (IntKind.i64.wrap (u-1),List.set m ((IntKind.i64.wrap (u-1)).toNat) 45)
     else
     D (u,m)) fun E =>
   call (Lj b) fun L =>
   bif L then
    call (La (IntKind.u64.wrap b)) fun F =>
    jp (S:=Int×Int×List Int) (fun s=>match s with
     |(M,o,v) =>
      fN ([48,49,50,51,52,53,54,55,56,57,97,98,99,100,101,102,103,104,105,106,107,108,109,110,111,112,113,114,115,116,117,118,119,120,121,122]:eA) M fun N =>
      eB (0<=IntKind.i64.wrap (o-1)/\IntKind.i64.wrap (o-1)<(65:Int)/\65=v.length) <|
      E (IntKind.i64.wrap (o-1),List.set v ((IntKind.i64.wrap (o-1)).toNat) N)) fun O =>
    loopN fJ (fun s I P =>
     match s with
     |(l,c,f) =>
      bif decide ((IntKind.u64.wrap b)<=l)then
       fN ([48,49,50,51,52,53,54,55,56,57,97,98,99,100,101,102,103,104,105,106,107,108,109,110,111,112,113,114,115,116,117,118,119,120,121,122]:eA) (fj .and .u64 l (IntKind.u64.wrap ((IntKind.u64.wrap b)-1))) fun Q =>
       eB (0<=IntKind.i64.wrap (c-1)/\IntKind.i64.wrap (c-1)<(65:Int)/\65=f.length) <|
       eB (0<=(IntKind.u64.wrap F)) <|
       I (Int.fdiv l (2^(fz .u64 (IntKind.u64.wrap F))),IntKind.i64.wrap (c-1),List.set f ((IntKind.i64.wrap (c-1)).toNat) Q)
      else
      P (l,c,f)) (C,65,List.replicate 65 0) (fun s=>match s with
     |(l,c,f) =>
      O (l,c,f))
   else
   jp (S:=Int×Int×List Int) (fun s=>match s with
    |(R,p,z) =>
     fN ([48,49,50,51,52,53,54,55,56,57,97,98,99,100,101,102,103,104,105,106,107,108,109,110,111,112,113,114,115,116,117,118,119,120,121,122]:eA) R fun T =>
     eB (0<=IntKind.i64.wrap (p-1)/\IntKind.i64.wrap (p-1)<(65:Int)/\65=z.length) <|
     E (IntKind.i64.wrap (p-1),List.set z ((IntKind.i64.wrap (p-1)).toNat) T)) fun U =>
   loopN fJ (fun s J V =>
    match s with
    |(g,i,j) =>
     bif decide ((IntKind.u64.wrap b)<=g)then
      eB (¬ (IntKind.u64.wrap b)=0) <|
      fN ([48,49,50,51,52,53,54,55,56,57,97,98,99,100,101,102,103,104,105,106,107,108,109,110,111,112,113,114,115,116,117,118,119,120,121,122]:eA) (IntKind.u64.wrap (g-(IntKind.u64.wrap ((IntKind.u64.wrap (Int.tdiv g (IntKind.u64.wrap b)))*(IntKind.u64.wrap b))))) fun W =>
      eB (0<=IntKind.i64.wrap (i-1)/\IntKind.i64.wrap (i-1)<(65:Int)/\65=j.length) <|
      J (IntKind.u64.wrap (Int.tdiv g (IntKind.u64.wrap b)),IntKind.i64.wrap (i-1),List.set j ((IntKind.i64.wrap (i-1)).toNat) W)
     else
     V (g,i,j)) (C,65,List.replicate 65 0) (fun s=>match s with
    |(g,i,j) =>
     U (g,i,j))) fun G =>
  bif t then
   G (IntKind.u64.wrap (-B))
  else
  G B) fun X =>
 bif (((decide (b<2))||(decide (b=10)))||(decide (36<b)))then
  none
 else
 X ()
def Lp(c:Int)(b:Int):Option eA :=
 bif decide (b=10)then
  bif decide (c<100)then
   none
  else
  none
 else
 call (Ij [] c b false false) fun f =>
 some f.2
def HT(c:Int)(b:Int):Option eA :=
 call (Lp c b) fun f =>
 some f
def Ng(b:Int)(c:Int):Option (Int×Int) :=
 some (IntKind.u64.wrap ((IntKind.u64.wrap ((IntKind.u64.wrap ((Int.fdiv b (2^(fz .u64 32)))*(Int.fdiv c (2^(fz .u64 32)))))+(Int.fdiv (IntKind.u64.wrap ((IntKind.u64.wrap ((Int.fdiv b (2^(fz .u64 32)))*(fj .and .u64 c 4294967295)))+(Int.fdiv (IntKind.u64.wrap ((fj .and .u64 b 4294967295)*(fj .and .u64 c 4294967295))) (2^(fz .u64 32))))) (2^(fz .u64 32)))))+(Int.fdiv (IntKind.u64.wrap ((fj .and .u64 (IntKind.u64.wrap ((IntKind.u64.wrap ((Int.fdiv b (2^(fz .u64 32)))*(fj .and .u64 c 4294967295)))+(Int.fdiv (IntKind.u64.wrap ((fj .and .u64 b 4294967295)*(fj .and .u64 c 4294967295))) (2^(fz .u64 32))))) 4294967295)+(IntKind.u64.wrap ((fj .and .u64 b 4294967295)*(Int.fdiv c (2^(fz .u64 32))))))) (2^(fz .u64 32)))),IntKind.u64.wrap (b*c))
def KB(c:Int)(f:Int):Option (Int×Int) :=
 call (Ng c f) fun b =>
 some (b.1,b.2)
def H5(b:eA):Option Int :=
 some (b.length:Int)
def HM(c:eA)(i:Int):Option eA :=
 bif decide (i=0)then
  some []
 else
 bif decide (i=1)then
  some c
 else
 jp (S:=Unit) (fun _ =>
  call (KB (IntKind.u64.wrap (c.length:Int)) (IntKind.u64.wrap i)) fun b =>
  jp (S:=Unit) (fun _ =>
   bif decide ((c.length:Int)=0)then
    some []
   else
   jp (S:=Unit) (fun _ =>
    jp (S:=Int) (fun f =>
     call (H7 (IntKind.i64.wrap b.2) []) fun P =>
     call (zi c []) fun z =>
     jp (S:=eA) (fun u =>
      call (zA u) fun B =>
      some B) fun C =>
     loopN fJ (fun g v D =>
      call (H5 g) fun E =>
      bif decide (E<(IntKind.i64.wrap b.2))then
       call (H5 g) fun m =>
       call (H5 g) fun n =>
       call (zA g) fun o =>
       eB (0<=min (min (IntKind.i64.wrap ((IntKind.i64.wrap b.2)-m)) n) f/\min (min (IntKind.i64.wrap ((IntKind.i64.wrap b.2)-m)) n) f<=(o.length:Int)) <|
       call (zi (List.take ((min (min (IntKind.i64.wrap ((IntKind.i64.wrap b.2)-m)) n) f).toNat) o) g) fun F =>
       v F.2
      else
      D g) z.2 (fun g =>
      C g)) fun l =>
    bif decide (8192<(IntKind.i64.wrap b.2))then
     eB (¬ (c.length:Int)=0) <|
     bif decide ((IntKind.i64.wrap ((IntKind.i64.wrap (Int.tdiv 8192 (c.length:Int)))*(c.length:Int)))=0)then
      l (c.length:Int)
     else
     l (IntKind.i64.wrap ((IntKind.i64.wrap (Int.tdiv 8192 (c.length:Int)))*(c.length:Int)))
    else
    l (IntKind.i64.wrap b.2)) fun p =>
   fN c 0 fun j =>
   jp (S:=Bool) (fun t =>
    bif t then
     callG (decide ((IntKind.i64.wrap b.2)<=128)) (z8 ((List.append [32,32,32,32,32,32,32,32,32,32,32,32,32,32,32,32,32,32,32,32,32,32,32,32,32,32,32,32,32,32,32,32,32,32,32,32,32,32,32,32,32,32,32,32,32,32,32,32,32,32,32,32,32,32,32,32,32,32,32,32,32,32,32,32] [32,32,32,32,32,32,32,32,32,32,32,32,32,32,32,32,32,32,32,32,32,32,32,32,32,32,32,32,32,32,32,32,32,32,32,32,32,32,32,32,32,32,32,32,32,32,32,32,32,32,32,32,32,32,32,32,32,32,32,32,32,32,32,32]):eA) c) false fun G =>
     bif ((decide ((IntKind.i64.wrap b.2)<=128))&&G)then
      eB (0<=IntKind.i64.wrap b.2/\IntKind.i64.wrap b.2<=(((List.append [32,32,32,32,32,32,32,32,32,32,32,32,32,32,32,32,32,32,32,32,32,32,32,32,32,32,32,32,32,32,32,32,32,32,32,32,32,32,32,32,32,32,32,32,32,32,32,32,32,32,32,32,32,32,32,32,32,32,32,32,32,32,32,32] [32,32,32,32,32,32,32,32,32,32,32,32,32,32,32,32,32,32,32,32,32,32,32,32,32,32,32,32,32,32,32,32,32,32,32,32,32,32,32,32,32,32,32,32,32,32,32,32,32,32,32,32,32,32,32,32,32,32,32,32,32,32,32,32]):eA).length:Int)) <|
      some (List.take ((IntKind.i64.wrap b.2).toNat) ((List.append [32,32,32,32,32,32,32,32,32,32,32,32,32,32,32,32,32,32,32,32,32,32,32,32,32,32,32,32,32,32,32,32,32,32,32,32,32,32,32,32,32,32,32,32,32,32,32,32,32,32,32,32,32,32,32,32,32,32,32,32,32,32,32,32] [32,32,32,32,32,32,32,32,32,32,32,32,32,32,32,32,32,32,32,32,32,32,32,32,32,32,32,32,32,32,32,32,32,32,32,32,32,32,32,32,32,32,32,32,32,32,32,32,32,32,32,32,32,32,32,32,32,32,32,32,32,32,32,32]):eA))
     else
     callG (decide ((IntKind.i64.wrap b.2)<=128)) (z8 ((List.append [45,45,45,45,45,45,45,45,45,45,45,45,45,45,45,45,45,45,45,45,45,45,45,45,45,45,45,45,45,45,45,45,45,45,45,45,45,45,45,45,45,45,45,45,45,45,45,45,45,45,45,45,45,45,45,45,45,45,45,45,45,45,45,45] [45,45,45,45,45,45,45,45,45,45,45,45,45,45,45,45,45,45,45,45,45,45,45,45,45,45,45,45,45,45,45,45,45,45,45,45,45,45,45,45,45,45,45,45,45,45,45,45,45,45,45,45,45,45,45,45,45,45,45,45,45,45,45,45]):eA) c) false fun I =>
     bif ((decide ((IntKind.i64.wrap b.2)<=128))&&I)then
      eB (0<=IntKind.i64.wrap b.2/\IntKind.i64.wrap b.2<=(((List.append [45,45,45,45,45,45,45,45,45,45,45,45,45,45,45,45,45,45,45,45,45,45,45,45,45,45,45,45,45,45,45,45,45,45,45,45,45,45,45,45,45,45,45,45,45,45,45,45,45,45,45,45,45,45,45,45,45,45,45,45,45,45,45,45] [45,45,45,45,45,45,45,45,45,45,45,45,45,45,45,45,45,45,45,45,45,45,45,45,45,45,45,45,45,45,45,45,45,45,45,45,45,45,45,45,45,45,45,45,45,45,45,45,45,45,45,45,45,45,45,45,45,45,45,45,45,45,45,45]):eA).length:Int)) <|
      some (List.take ((IntKind.i64.wrap b.2).toNat) ((List.append [45,45,45,45,45,45,45,45,45,45,45,45,45,45,45,45,45,45,45,45,45,45,45,45,45,45,45,45,45,45,45,45,45,45,45,45,45,45,45,45,45,45,45,45,45,45,45,45,45,45,45,45,45,45,45,45,45,45,45,45,45,45,45,45] [45,45,45,45,45,45,45,45,45,45,45,45,45,45,45,45,45,45,45,45,45,45,45,45,45,45,45,45,45,45,45,45,45,45,45,45,45,45,45,45,45,45,45,45,45,45,45,45,45,45,45,45,45,45,45,45,45,45,45,45,45,45,45,45]):eA))
     else
     callG (decide ((IntKind.i64.wrap b.2)<=64)) (z8 ([48,48,48,48,48,48,48,48,48,48,48,48,48,48,48,48,48,48,48,48,48,48,48,48,48,48,48,48,48,48,48,48,48,48,48,48,48,48,48,48,48,48,48,48,48,48,48,48,48,48,48,48,48,48,48,48,48,48,48,48,48,48,48,48]:eA) c) false fun J =>
     bif ((decide ((IntKind.i64.wrap b.2)<=64))&&J)then
      eB (0<=IntKind.i64.wrap b.2/\IntKind.i64.wrap b.2<=(([48,48,48,48,48,48,48,48,48,48,48,48,48,48,48,48,48,48,48,48,48,48,48,48,48,48,48,48,48,48,48,48,48,48,48,48,48,48,48,48,48,48,48,48,48,48,48,48,48,48,48,48,48,48,48,48,48,48,48,48,48,48,48,48]:eA).length:Int)) <|
      some (List.take ((IntKind.i64.wrap b.2).toNat) ([48,48,48,48,48,48,48,48,48,48,48,48,48,48,48,48,48,48,48,48,48,48,48,48,48,48,48,48,48,48,48,48,48,48,48,48,48,48,48,48,48,48,48,48,48,48,48,48,48,48,48,48,48,48,48,48,48,48,48,48,48,48,48,48]:eA))
     else
     callG (decide ((IntKind.i64.wrap b.2)<=128)) (z8 ((List.append [61,61,61,61,61,61,61,61,61,61,61,61,61,61,61,61,61,61,61,61,61,61,61,61,61,61,61,61,61,61,61,61,61,61,61,61,61,61,61,61,61,61,61,61,61,61,61,61,61,61,61,61,61,61,61,61,61,61,61,61,61,61,61,61] [61,61,61,61,61,61,61,61,61,61,61,61,61,61,61,61,61,61,61,61,61,61,61,61,61,61,61,61,61,61,61,61,61,61,61,61,61,61,61,61,61,61,61,61,61,61,61,61,61,61,61,61,61,61,61,61,61,61,61,61,61,61,61,61]):eA) c) false fun L =>
     bif ((decide ((IntKind.i64.wrap b.2)<=128))&&L)then
      eB (0<=IntKind.i64.wrap b.2/\IntKind.i64.wrap b.2<=(((List.append [61,61,61,61,61,61,61,61,61,61,61,61,61,61,61,61,61,61,61,61,61,61,61,61,61,61,61,61,61,61,61,61,61,61,61,61,61,61,61,61,61,61,61,61,61,61,61,61,61,61,61,61,61,61,61,61,61,61,61,61,61,61,61,61] [61,61,61,61,61,61,61,61,61,61,61,61,61,61,61,61,61,61,61,61,61,61,61,61,61,61,61,61,61,61,61,61,61,61,61,61,61,61,61,61,61,61,61,61,61,61,61,61,61,61,61,61,61,61,61,61,61,61,61,61,61,61,61,61]):eA).length:Int)) <|
      some (List.take ((IntKind.i64.wrap b.2).toNat) ((List.append [61,61,61,61,61,61,61,61,61,61,61,61,61,61,61,61,61,61,61,61,61,61,61,61,61,61,61,61,61,61,61,61,61,61,61,61,61,61,61,61,61,61,61,61,61,61,61,61,61,61,61,61,61,61,61,61,61,61,61,61,61,61,61,61] [61,61,61,61,61,61,61,61,61,61,61,61,61,61,61,61,61,61,61,61,61,61,61,61,61,61,61,61,61,61,61,61,61,61,61,61,61,61,61,61,61,61,61,61,61,61,61,61,61,61,61,61,61,61,61,61,61,61,61,61,61,61,61,61]):eA))
     else
     callG (decide ((IntKind.i64.wrap b.2)<=64)) (z8 ([9,9,9,9,9,9,9,9,9,9,9,9,9,9,9,9,9,9,9,9,9,9,9,9,9,9,9,9,9,9,9,9,9,9,9,9,9,9,9,9,9,9,9,9,9,9,9,9,9,9,9,9,9,9,9,9,9,9,9,9,9,9,9,9]:eA) c) false fun M =>
     bif ((decide ((IntKind.i64.wrap b.2)<=64))&&M)then
      eB (0<=IntKind.i64.wrap b.2/\IntKind.i64.wrap b.2<=(([9,9,9,9,9,9,9,9,9,9,9,9,9,9,9,9,9,9,9,9,9,9,9,9,9,9,9,9,9,9,9,9,9,9,9,9,9,9,9,9,9,9,9,9,9,9,9,9,9,9,9,9,9,9,9,9,9,9,9,9,9,9,9,9]:eA).length:Int)) <|
      some (List.take ((IntKind.i64.wrap b.2).toNat) ([9,9,9,9,9,9,9,9,9,9,9,9,9,9,9,9,9,9,9,9,9,9,9,9,9,9,9,9,9,9,9,9,9,9,9,9,9,9,9,9,9,9,9,9,9,9,9,9,9,9,9,9,9,9,9,9,9,9,9,9,9,9,9,9]:eA))
     else
     p ()
    else
    p ()) fun k =>
   bif decide (j=32)then
    k (decide (j=32))
   else
   bif decide (j=45)then
    k (decide (j=45))
   else
   bif decide (j=48)then
    k (decide (j=48))
   else
   bif decide (j=61)then
    k (decide (j=61))
   else
   k (decide (j=9))) fun N =>
  bif ((decide (0<b.1))||(decide (9223372036854775807<b.2)))then
   none
  else
  N ()) fun O =>
 bif decide (i<0)then
  none
 else
 O ()
def Cy(i:eA):Option eA :=
 jp (S:=Int) (fun j =>
  call (HT j 16) fun b =>
  call (HM ([48]:eA) (IntKind.i64.wrap (16-(b.length:Int)))) fun f =>
  eB ((f++b).length<=274877906944) <|
  some (f++b)) fun k =>
 forL i 0 (fun n l c g m =>
  g (IntKind.u64.wrap ((fj .xor .u64 c (IntKind.u64.wrap (l.toNat:Int)))*1099511628211))) 14695981039346656037 (fun c =>
  k c)
def FC(f:List ae):Option Int :=
 jp (S:=Unit) (fun _ =>
  some 0) fun g =>
 forL f 0 (fun j i s c k =>
  call (FG i) fun b =>
  bif !decide (b=0)then
   some b
  else
  c ()) () (fun _ =>
  g ())
def pg(b:Bool):Option eA :=
 bif b then
  some ([49]:eA)
 else
 some ([48]:eA)
def HI(b:ah):Option eA :=
 eB ((b.j++([32]:eA)).length<=274877906944) <|
 eB (((b.j++([32]:eA))++b.a).length<=274877906944) <|
 eB ((((b.j++([32]:eA))++b.a)++([32]:eA)).length<=274877906944) <|
 call (pg b.u) fun c =>
 eB (((((b.j++([32]:eA))++b.a)++([32]:eA))++c).length<=274877906944) <|
 eB ((((((b.j++([32]:eA))++b.a)++([32]:eA))++c)++([32]:eA)).length<=274877906944) <|
 call (pg b.t) fun f =>
 eB (((((((b.j++([32]:eA))++b.a)++([32]:eA))++c)++([32]:eA))++f).length<=274877906944) <|
 some ((((((b.j++([32]:eA))++b.a)++([32]:eA))++c)++([32]:eA))++f)
def FY(c:Int)(b:eA):Option eA :=
 call (Lq b) fun f =>
 eB ((b++(Go.Vc.strOf [c])).length<=274877906944) <|
 some (b++(Go.Vc.strOf [c]))
def BL(M:List ae):Option eA :=
 jp (S:=eA) (fun m =>
  call (zA m) fun B =>
  some B) fun C =>
 forL M 0 (fun N b c n O =>
  jp (S:=eA) (fun p =>
   call (FY 10 p) fun D =>
   n D) fun l =>
  bif decide (b.k=1)then
   jp (S:=eA) (fun i =>
    eB ((i++b.g.a).length<=274877906944) <|
    eB (((i++b.g.a)++([32]:eA)).length<=274877906944) <|
    call (Cw b.g.q) fun t =>
    eB ((((i++b.g.a)++([32]:eA))++t).length<=274877906944) <|
    call (zi (((i++b.g.a)++([32]:eA))++t) c) fun E =>
    l E.2) fun u =>
   bif b.g.r then
    u ([112,117,116,114,117,110,32]:eA)
   else
   u ([112,117,116,32]:eA)
  else
  bif decide (b.k=2)then
   eB ((([114,101,109,111,118,101,32]:eA)++b.g.a).length<=274877906944) <|
   call (zi (([114,101,109,111,118,101,32]:eA)++b.g.a) c) fun F =>
   l F.2
  else
  bif decide (b.k=3)then
   eB ((([115,101,116,32]:eA)++b.o.e).length<=274877906944) <|
   eB (((([115,101,116,32]:eA)++b.o.e)++([32]:eA)).length<=274877906944) <|
   call (Cw b.o.Value) fun v =>
   eB ((((([115,101,116,32]:eA)++b.o.e)++([32]:eA))++v).length<=274877906944) <|
   call (zi (((([115,101,116,32]:eA)++b.o.e)++([32]:eA))++v) c) fun G =>
   l G.2
  else
  bif decide (b.k=4)then
   eB ((([117,110,115,101,116,32]:eA)++b.o.e).length<=274877906944) <|
   call (zi (([117,110,115,101,116,32]:eA)++b.o.e) c) fun I =>
   l I.2
  else
  bif decide (b.k=5)then
   call (HI b.f) fun z =>
   eB ((([115,101,114,118,105,99,101,32]:eA)++z).length<=274877906944) <|
   call (zi (([115,101,114,118,105,99,101,32]:eA)++z) c) fun J =>
   l J.2
  else
  bif decide (b.k=6)then
   eB ((([100,114,111,112,32]:eA)++b.f.j).length<=274877906944) <|
   call (zi (([100,114,111,112,32]:eA)++b.f.j) c) fun L =>
   l L.2
  else
  l c) [] (fun c =>
  C c)
def yb(b:aj):Option (eA×Int) :=
 call (xW b.v) fun m =>
 bif !m then
  some ([],5)
 else
 call (FC b.y) fun n =>
 call (FC b.z) fun l =>
 call (lu [n,l]) fun k =>
 bif !decide (k=0)then
  some ([],k)
 else
 eB ((([106,111,117,114,110,97,108,32]:eA)++b.v).length<=274877906944) <|
 eB (((([106,111,117,114,110,97,108,32]:eA)++b.v)++([10,99,104,97,110,103,101,115,32]:eA)).length<=274877906944) <|
 call (strconv_Itoa (b.y.length:Int)) fun c =>
 eB ((((([106,111,117,114,110,97,108,32]:eA)++b.v)++([10,99,104,97,110,103,101,115,32]:eA))++c).length<=274877906944) <|
 eB (((((([106,111,117,114,110,97,108,32]:eA)++b.v)++([10,99,104,97,110,103,101,115,32]:eA))++c)++([10]:eA)).length<=274877906944) <|
 call (BL b.y) fun f =>
 eB ((((((([106,111,117,114,110,97,108,32]:eA)++b.v)++([10,99,104,97,110,103,101,115,32]:eA))++c)++([10]:eA))++f).length<=274877906944) <|
 eB (((((((([106,111,117,114,110,97,108,32]:eA)++b.v)++([10,99,104,97,110,103,101,115,32]:eA))++c)++([10]:eA))++f)++([111,108,100,32]:eA)).length<=274877906944) <|
 call (strconv_Itoa (b.z.length:Int)) fun g =>
 eB ((((((((([106,111,117,114,110,97,108,32]:eA)++b.v)++([10,99,104,97,110,103,101,115,32]:eA))++c)++([10]:eA))++f)++([111,108,100,32]:eA))++g).length<=274877906944) <|
 eB (((((((((([106,111,117,114,110,97,108,32]:eA)++b.v)++([10,99,104,97,110,103,101,115,32]:eA))++c)++([10]:eA))++f)++([111,108,100,32]:eA))++g)++([10]:eA)).length<=274877906944) <|
 call (BL b.z) fun i =>
 eB ((((((((((([106,111,117,114,110,97,108,32]:eA)++b.v)++([10,99,104,97,110,103,101,115,32]:eA))++c)++([10]:eA))++f)++([111,108,100,32]:eA))++g)++([10]:eA))++i).length<=274877906944) <|
 call (Cy (((((((((([106,111,117,114,110,97,108,32]:eA)++b.v)++([10,99,104,97,110,103,101,115,32]:eA))++c)++([10]:eA))++f)++([111,108,100,32]:eA))++g)++([10]:eA))++i)) fun j =>
 eB ((([115,117,109,32]:eA)++j).length<=274877906944) <|
 eB (((([115,117,109,32]:eA)++j)++([10]:eA)).length<=274877906944) <|
 eB (((((((((((([106,111,117,114,110,97,108,32]:eA)++b.v)++([10,99,104,97,110,103,101,115,32]:eA))++c)++([10]:eA))++f)++([111,108,100,32]:eA))++g)++([10]:eA))++i)++((([115,117,109,32]:eA)++j)++([10]:eA))).length<=274877906944) <|
 bif decide (65536<(((((((((((([106,111,117,114,110,97,108,32]:eA)++b.v)++([10,99,104,97,110,103,101,115,32]:eA))++c)++([10]:eA))++f)++([111,108,100,32]:eA))++g)++([10]:eA))++i)++((([115,117,109,32]:eA)++j)++([10]:eA))).length:Int))then
  some ([],4)
 else
 some ((((((((((([106,111,117,114,110,97,108,32]:eA)++b.v)++([10,99,104,97,110,103,101,115,32]:eA))++c)++([10]:eA))++f)++([111,108,100,32]:eA))++g)++([10]:eA))++i)++((([115,117,109,32]:eA)++j)++([10]:eA)),0)
def BK(B:eA):Option (aj×Int) :=
 call (G6 B) fun c =>
 bif ((decide (0<=c.2))||(decide ((c.1.length:Int)<4)))then
  call (yR 8) fun C =>
  some (C.1,C.2)
 else
 eV c.1 0 fun D =>
 call (BP D ([106,111,117,114,110,97,108,32]:eA)) fun j =>
 bif !j.2 then
  call (yR 8) fun k =>
  some (k.1,k.2)
 else
 call (BS ([99,104,97,110,103,101,115]:eA) 1 c.1) fun f =>
 jp (S:=Bool×List ae×Int) (fun s=>match s with
  |(E,g,b) =>
   bif (((!f.2.1)||(!E))||(!decide (b=(IntKind.i64.wrap ((c.1.length:Int)-1)))))then
    call (yR 8) fun l =>
    some (l.1,l.2)
   else
   eV c.1 b fun F =>
   call (BP F ([115,117,109,32]:eA)) fun i =>
   callG (!(!i.2)) (Gm i.1) false fun G =>
   bif ((!i.2)||(!G))then
    call (yR 8) fun m =>
    some (m.1,m.2)
   else
   eB (0<=b/\b<=(c.1.length:Int)) <|
   call (yN (List.take b.toNat c.1) ([10]:eA)) fun n =>
   eB ((n++([10]:eA)).length<=274877906944) <|
   call (Cy (n++([10]:eA))) fun I =>
   bif !decide (I=i.1)then
    call (yR 14) fun o =>
    some (o.1,o.2)
   else
   call (yb (aj.mk j.1 f.1 g)) fun p =>
   bif !decide (p.2=0)then
    call (yR p.2) fun t =>
    some (t.1,t.2)
   else
   bif !decide (p.1=B)then
    call (yR 8) fun u =>
    some (u.1,u.2)
   else
   some ((aj.mk j.1 f.1 g),0)) fun v =>
 bif f.2.1 then
  call (BS ([111,108,100]:eA) f.2.2 c.1) fun z =>
  v (z.2.1,z.1,z.2.2)
 else
 v (false,[],f.2.2)
def jv(f:ai):Option (aj×Int) :=
 call (uR f) fun g =>
 fc (zp g.1 ([115,116,97,103,101,47,106,111,117,114,110,97,108]:eA)) fun b =>
 bif !b.isSome then
  some ((aj.mk [] [] []),0)
 else
 call (BK ((b.getD (ab.mk [] [] false)).q)) fun c =>
 bif !decide (c.2=0)then
  some ((aj.mk [] [] []),1)
 else
 some (c.1,2)
def jw(Z:ai)(a0:ai):Option (List ae) :=
 call (uR Z) fun m =>
 call (uR a0) fun b =>
 jp (S:=List ae) (fun O =>
  jp (S:=List ae) (fun P =>
   jp (S:=List ae) (fun Q =>
    jp (S:=List ae) (fun R =>
     jp (S:=List ae) (fun T =>
      jp (S:=List ae) (fun U =>
       some U) fun a1 =>
      call (BO b.2.2.1) fun a2 =>
      forL a2 0 (fun aq z f G ar =>
       fc (zp m.2.2.1 z) fun p =>
       fc (zp b.2.2.1 z) fun n =>
       bif ((!p.isSome)||(!((decide (((p.getD (ah.mk [] [] false false)).j)=((n.getD (ah.mk [] [] false false)).j)))&&((decide (((p.getD (ah.mk [] [] false false)).a)=((n.getD (ah.mk [] [] false false)).a)))&&((decide (((p.getD (ah.mk [] [] false false)).u)=((n.getD (ah.mk [] [] false false)).u)))&&(decide (((p.getD (ah.mk [] [] false false)).t)=((n.getD (ah.mk [] [] false false)).t))))))))then
        fc (zp b.2.2.1 z) fun V =>
        eB ((f++[(ae.mk 5 (ab.mk [] [] false) (aa.mk [] []) (V.getD (ah.mk [] [] false false)))]).length<=274877906944) <|
        G (f++[(ae.mk 5 (ab.mk [] [] false) (aa.mk [] []) (V.getD (ah.mk [] [] false false)))])
       else
       G f) T (fun f =>
       a1 f)) fun a3 =>
     call (BI b.2.1) fun a4 =>
     forL a4 0 (fun au v g I av =>
      fc (zp m.2.1 v) fun W =>
      fc (zp b.2.1 v) fun a5 =>
      bif ((!W.isSome)||(!decide ((W.getD [])=(a5.getD []))))then
       fc (zp b.2.1 v) fun X =>
       eB ((g++[(ae.mk 3 (ab.mk [] [] false) (aa.mk v (X.getD [])) (ah.mk [] [] false false))]).length<=274877906944) <|
       I (g++[(ae.mk 3 (ab.mk [] [] false) (aa.mk v (X.getD [])) (ah.mk [] [] false false))])
      else
      I g) R (fun g =>
      a3 g)) fun a6 =>
    call (ya b.1) fun a7 =>
    forL a7 0 (fun aw B i J ax =>
     fc (zp m.1 B) fun o =>
     fc (zp b.1 B) fun C =>
     bif ((!o.isSome)||(!((decide (((o.getD (ab.mk [] [] false)).a)=((C.getD (ab.mk [] [] false)).a)))&&((decide (((o.getD (ab.mk [] [] false)).q)=((C.getD (ab.mk [] [] false)).q)))&&(decide (((o.getD (ab.mk [] [] false)).r)=((C.getD (ab.mk [] [] false)).r)))))))then
      fc (zp b.1 B) fun Y =>
      eB ((i++[(ae.mk 1 (Y.getD (ab.mk [] [] false)) (aa.mk [] []) (ah.mk [] [] false false))]).length<=274877906944) <|
      J (i++[(ae.mk 1 (Y.getD (ab.mk [] [] false)) (aa.mk [] []) (ah.mk [] [] false false))])
     else
     J i) Q (fun i =>
     a6 i)) fun a8 =>
   call (BO m.2.2.1) fun a9 =>
   forL a9 0 (fun ay D k L az =>
    fc (zp b.2.2.1 D) fun ac =>
    bif !ac.isSome then
     eB ((k++[(ae.mk 6 (ab.mk [] [] false) (aa.mk [] []) (ah.mk D [] false false))]).length<=274877906944) <|
     L (k++[(ae.mk 6 (ab.mk [] [] false) (aa.mk [] []) (ah.mk D [] false false))])
    else
    L k) P (fun k =>
    a8 k)) fun ad =>
  call (BI m.2.1) fun af =>
  forL af 0 (fun aA E l M aB =>
   fc (zp b.2.1 E) fun ag =>
   bif !ag.isSome then
    eB ((l++[(ae.mk 4 (ab.mk [] [] false) (aa.mk E []) (ah.mk [] [] false false))]).length<=274877906944) <|
    M (l++[(ae.mk 4 (ab.mk [] [] false) (aa.mk E []) (ah.mk [] [] false false))])
   else
   M l) O (fun l =>
   ad l)) fun an =>
 call (ya m.1) fun ao =>
 forL ao 0 (fun aC F c N aD =>
  fc (zp b.1 F) fun ap =>
  bif !ap.isSome then
   eB ((c++[(ae.mk 2 (ab.mk F [] false) (aa.mk [] []) (ah.mk [] [] false false))]).length<=274877906944) <|
   N (c++[(ae.mk 2 (ab.mk F [] false) (aa.mk [] []) (ah.mk [] [] false false))])
  else
  N c) [] (fun c =>
  an c)
def ju(c:ai)(f:List ae):Option (List ae×Int) :=
 call (xQ c f) fun b =>
 bif !decide (b.2=0)then
  some ([],b.2)
 else
 call (jw b.1 c) fun g =>
 some (g,0)
def uq(b:eA):Option ae :=
 some (ae.mk 2 (ab.mk b [] false) (aa.mk [] []) (ah.mk [] [] false false))
def FD(f:eA)(u:List aa)(n:List (eA×ab))(v:List (eA×eA))(z:List (eA×ah)):Option (List ae) :=
 jp (S:=Bool×List ae) (fun s=>match s with
  |(j,g) =>
   bif j then
    call (uq f) fun l =>
    eB ((g++[l]).length<=274877906944) <|
    some (g++[l])
   else
   some g) fun o =>
 call (ya n) fun p =>
 forL p 0 (fun B k s i C =>
  match s with
  |(c,b) =>
   bif decide (k=f)then
    i (true,b)
   else
   call (Bh k) fun t =>
   bif t then
    call (uq k) fun m =>
    eB ((b++[m]).length<=274877906944) <|
    i (c,b++[m])
   else
   i (c,b)) (false,[]) (fun s=>match s with
  |(c,b) =>
   o (c,b))
def k7(b:eA)(c:eA):Option ae :=
 some (ae.mk 1 (ab.mk b c false) (aa.mk [] []) (ah.mk [] [] false false))
def GB(f:ai)(j:eA)(b:List ae):Option (List ae×Int) :=
 call (BH f b) fun m =>
 bif !decide (m=0)then
  some ([],m)
 else
 call (uR f) fun c =>
 fc (zp c.1 ([115,116,97,103,101,47,100,111,110,101]:eA)) fun u =>
 fc (zp c.1 ([115,116,97,103,101,47,98,97,99,107]:eA)) fun v =>
 call (jv f) fun z =>
 call (xW j) fun B =>
 bif !B then
  some ([],5)
 else
 bif ((u.isSome||v.isSome)||(decide (z.2=2)))then
  some ([],12)
 else
 call (Cv f) fun C =>
 call (ju C b) fun n =>
 bif !decide (n.2=0)then
  some ([],n.2)
 else
 call (yb (aj.mk j b n.1)) fun o =>
 bif !decide (o.2=0)then
  some ([],o.2)
 else
 call (FD ([115,116,97,103,101,47,106,111,117,114,110,97,108]:eA) c.2.2.2 c.1 c.2.1 c.2.2.1) fun g =>
 call (k7 ([115,116,97,103,101,47,106,111,117,114,110,97,108]:eA) o.1) fun i =>
 eB ((g++[i]).length<=274877906944) <|
 eB (((g++[i])++b).length<=274877906944) <|
 call (k7 ([115,116,97,103,101,47,100,111,110,101]:eA) j) fun p =>
 call (uq ([115,116,97,103,101,47,106,111,117,114,110,97,108]:eA)) fun k =>
 call (uq ([115,116,97,103,101,47,100,111,110,101]:eA)) fun l =>
 eB ((((g++[i])++b)++[p,k,l]).length<=274877906944) <|
 call (xQ f (((g++[i])++b)++[p,k,l])) fun t =>
 bif !decide (t.2=0)then
  some ([],t.2)
 else
 some (((g++[i])++b)++[p,k,l],0)
def Kx(f:ai)(c:eA)(g:List ae):Option (Int×Int) :=
 call (Fj f c g) fun b =>
 some ((b.1.length:Int),b.2)
def Ia(i:List ae)(l:List ae):Option Bool :=
 bif !decide ((i.length:Int)=(l.length:Int))then
  some false
 else
 jp (S:=Unit) (fun _ =>
  some true) fun n =>
 forL i 0 (fun p b s m v =>
  eV l (p:Int) fun c =>
  bif !((decide (b.k=c.k))&&((decide (b.g.a=c.g.a))&&((decide (b.g.q=c.g.q))&&((decide (b.g.r=c.g.r))&&((decide (b.o.e=c.o.e))&&((decide (b.o.Value=c.o.Value))&&((decide (b.f.j=c.f.j))&&((decide (b.f.a=c.f.a))&&((decide (b.f.u=c.f.u))&&(decide (b.f.t=c.f.t)))))))))))then
   some false
  else
  m ()) () (fun _ =>
  n ())
def KG(o:ai)(j:eA)(p:List ae)(k:Bool):Option Bool :=
 call (G4) fun t =>
 bif !t then
  some false
 else
 call (Gl o) fun b =>
 call (CK b p k) fun g =>
 call (BH b g) fun u =>
 call (FO b g) fun v =>
 bif !decide (v=u)then
  some false
 else
 call (Hy b) fun c =>
 call (HE b) fun i =>
 callG (!((!decide (c.2=0))||(!decide (i.2=0)))) (Cv b) (ai.mk [] [] [] []) fun z =>
 callG (!((!decide (c.2=0))||(!decide (i.2=0)))) (A4 c.1 z) false fun n =>
 callG (!(((!decide (c.2=0))||(!decide (i.2=0)))||(!n))) (A4 c.1 b) false fun B =>
 fc (((((!decide (c.2=0))||(!decide (i.2=0)))||(!n))||(decide (i.1=B)))) fun C =>
 bif C then
  some false
 else
 call (Fj b j g) fun l =>
 call (GB b j g) fun f =>
 call (Kx b j g) fun m =>
 callG ((decide (l.2=f.2))&&(decide (m.2=f.2))) (Ia l.1 f.1) false fun D =>
 fc (((((decide (l.2=f.2))&&(decide (m.2=f.2)))&&D)&&(decide (m.1=(f.1.length:Int))))) fun E =>
 some E
end
end Go.Md
