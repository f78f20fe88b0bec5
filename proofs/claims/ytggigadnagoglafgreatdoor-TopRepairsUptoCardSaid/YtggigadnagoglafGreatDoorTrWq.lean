/- The comparisons of sorts, walked in any setting. -/
import Derived.Test.YtggigadnagoglafGreatDoorTrMd
import Derived.Test.YtggigadnagoglafGreatDoorTrTy
set_option linter.unusedSimpArgs false
set_option linter.unusedVariables false
open List
namespace Go.Proofs.YtggigadnagoglafGreatDoor
open Go.Vc Go.Md Go.Proofs
abbrev Lr:Tabs:=⟨fun _=>none,fun _=>false,fun _=>none,True⟩
theorem wB(s:List UInt8)(c:List UInt8):Nv Tryz.prog 168 [.p (.s s),.p (.s c)] (.p (.i .i64 (eI s c))):=Nv.compare Tryz.func168 (by kernel_rfl) (by kernel_rfl) (by kernel_rfl) (by kernel_rfl) s c
set_option maxRecDepth 100000 in
set_option maxHeartbeats 4000000 in
theorem NO[Tabs](hne:∀e,Tabs.nest e=none)(a_1:dX)(b_2:dX)(z:Int)(hm:D1 a_1 b_2=some z):Does Tryz.prog 142 [.p (.s a_1),.p (.s b_2)] [] (fun r X=>r=.p (.i .i64 z)∧X=[]):=by
 unfold D1 at hm
 refine cz 0 8 [.tmp 4] Tryz.func142 rfl (by decide) rfl rfl (Nat.le_of_ble_eq_true rfl) fun B=>?_
 refine cb fun K1 hK1=>?_
 simp only[go_sem,simprocAttr,hne]
 first
  |refine hK1 _ _ ?_
  |refine⟨by first|exact sd,hK1 _ _ ?_⟩
 have hb_3:=kW a_1 b_2
 refine cb fun K2 hK2=>?_
 simp only[go_sem,simprocAttr,hne]
 try refine⟨by first|exact sd,?_⟩
 refine cW (av:=?av3) (g:=true) (fun hg=>wB a_1 b_2) ?ha3 ?hb3 ?hp3 ?hok3 ?hf3 ?cont3
 case ha3 =>
  simp only[go_sem,simprocAttr,hne];exact Is.mk
 case hb3 =>
  simp only[go_sem,simprocAttr,hne];exact Is.mk
 case hp3 =>
  simp only[go_sem,simprocAttr,hne];exact Is.mk
 case hok3 =>
  simp only[go_sem,simprocAttr,hne]
 case hf3 =>
  simp only[go_sem,simprocAttr,hne];exact Is.mk
 intro hv3;simp only[go_sem,simprocAttr,hne]
 first
  |refine hK2 _ _ ?_
  |refine⟨by first|exact sd,hK2 _ _ ?_⟩
 refine Wp.ret ?_;refine vg ?_;cases hm;simp only[go_sem,simprocAttr,hne]
 try simp[eE,zh,fK,fl,zf,zc,zd,zm,z8,zt,zQ,zk,zP,zb,za,map_set,map_replicate]
set_option maxRecDepth 100000 in
set_option maxHeartbeats 4000000 in
theorem KX[Tabs](hne:∀e,Tabs.nest e=none)(a_1:dX)(b_2:dX)(z:Int)(hm:vo a_1 b_2=some z):Does Tryz.prog 100 [.p (.s a_1),.p (.s b_2)] [] (fun r X=>r=.p (.i .i64 z)∧X=[]):=by
 unfold vo at hm
 refine cz 0 8 [.tmp 4] Tryz.func100 rfl (by decide) rfl rfl (Nat.le_of_ble_eq_true rfl) fun B=>?_
 refine cb fun K1 hK1=>?_
 simp only[go_sem,simprocAttr,hne]
 first
  |refine hK1 _ _ ?_
  |refine⟨by first|exact sd,hK1 _ _ ?_⟩
 obtain⟨r_3,hr_3,hm⟩:=ze hm
 refine cb fun K2 hK2=>?_
 simp only[go_sem,simprocAttr,hne]
 try refine⟨by first|exact sd,?_⟩
 refine cP (av:=?av3) (g:=true) (fun hg=>NO hne a_1 b_2 _ hr_3) ?ha3 ?hb3 ?hp3 ?hok3 ?hf3 ?cont3
 case ha3 =>
  simp only[go_sem,simprocAttr,hne];exact Is.mk
 case hb3 =>
  simp only[go_sem,simprocAttr,hne];exact Is.mk
 case hp3 =>
  simp only[go_sem,simprocAttr,hne];exact Is.mk
 case hok3 =>
  simp only[go_sem,simprocAttr,hne]
 case hf3 =>
  simp only[go_sem,simprocAttr,hne];exact Is.mk
 intro hv3;simp only[go_sem,simprocAttr,hne]
 first
  |refine hK2 _ _ ?_
  |refine⟨by first|exact sd,hK2 _ _ ?_⟩
 refine Wp.ret ?_;refine vg ?_;cases hm;simp only[go_sem,simprocAttr,hne]
 try simp[eE,zh,fK,fl,zf,zc,zd,zm,z8,zt,zQ,zk,zP,zb,za,map_set,map_replicate]
set_option maxRecDepth 100000 in
set_option maxHeartbeats 4000000 in
theorem MF[Tabs](hne:∀e,Tabs.nest e=none)(kind_1:Int)(z:Int)(hm:xL kind_1=some z):Does Tryz.prog 53 [.p (.i .i64 kind_1)] [] (fun r X=>r=.p (.i .i64 z)∧X=[]):=by
 unfold xL at hm
 refine cz 0 8 [.tmp 2] Tryz.func53 rfl (by decide) rfl rfl (Nat.le_of_ble_eq_true rfl) fun B=>?_
 refine cb fun K1 hK1=>?_
 simp only[go_sem,simprocAttr,hne]
 first
  |refine hK1 _ _ ?_
  |refine⟨by first|exact sd,hK1 _ _ ?_⟩
 refine ca fun K2 hK2 hW2=>?_
 refine cb fun K3 hK3=>?_
 simp only[go_sem,simprocAttr,hne]
 first
  |refine hK3 _ _ ?_
  |refine⟨by first|exact sd,hK3 _ _ ?_⟩
 refine Wp.block ?_
 refine cb fun K4 hK4=>?_
 simp only[go_sem,simprocAttr,hne]
 first
  |refine hK4 _ _ ?_
  |refine⟨by first|exact sd,hK4 _ _ ?_⟩
 refine Wp.cond rfl ⟨⟩ (fun hc5=>?_) (fun hc5=>?_)
 ·have hm:=Fr hm (by first|exact hc5|simpa using hc5)
  refine cb fun K6 hK6=>?_
  simp only[go_sem,simprocAttr,hne]
  first
   |refine hK6 _ _ ?_
   |refine⟨by first|exact sd,hK6 _ _ ?_⟩
  refine Wp.ret ?_;simp only[zS,zL];refine vg ?_;cases hm;simp only[go_sem,simprocAttr,hne]
  try simp[eE,zh,fK,fl,zf,zc,zd,zm,z8,zt,zQ,zk,zP,zb,za,zp,map_set,map_replicate]
 ·have hm:=Fs hm (by first|exact hc5|simpa using hc5)
  refine cb fun K7 hK7=>?_
  simp only[go_sem,simprocAttr,hne]
  first
   |refine hK7 _ _ ?_
   |refine⟨by first|exact sd,hK7 _ _ ?_⟩
  refine Wp.cond rfl ⟨⟩ (fun hc8=>?_) (fun hc8=>?_)
  ·have hm:=Fr hm (by first|exact hc8|simpa using hc8)
   refine cb fun K9 hK9=>?_
   simp only[go_sem,simprocAttr,hne]
   first
    |refine hK9 _ _ ?_
    |refine⟨by first|exact sd,hK9 _ _ ?_⟩
   refine Wp.ret ?_;simp only[zS,zL];refine vg ?_;cases hm;simp only[go_sem,simprocAttr,hne]
   try simp[eE,zh,fK,fl,zf,zc,zd,zm,z8,zt,zQ,zk,zP,zb,za,zp,map_set,map_replicate]
  ·have hm:=Fs hm (by first|exact hc8|simpa using hc8)
   refine Wp.skip ?_;simp only[zS,zL,↓reduceIte];refine hK2 _ _ ?_
   refine cb fun K10 hK10=>?_
   simp only[go_sem,simprocAttr,hne]
   first
    |refine hK10 _ _ ?_
    |refine⟨by first|exact sd,hK10 _ _ ?_⟩
   refine Wp.ret ?_;refine vg ?_;cases hm;simp only[go_sem,simprocAttr,hne]
   try simp[eE,zh,fK,fl,zf,zc,zd,zm,z8,zt,zQ,zk,zP,zb,za,zp,map_set,map_replicate]
set_option maxRecDepth 100000 in
set_option maxHeartbeats 4000000 in
theorem KY[Tabs](hne:∀e,Tabs.nest e=none)(h_1:ae)(z:al)(hm:zG h_1=some z):Does Tryz.prog 20 [.agg [.p (.s h_1.t),.p (.i .i64 h_1.e),.p (.s h_1.a),.p (.s h_1.x),.p (.s h_1.z)]] [] (fun r X=>r=.agg [.p (.i .i64 z.C),.p (.s z.y)]∧X=[]):=by
 unfold zG at hm
 refine cz 0 9 [.cell 2 73] Tryz.func20 rfl (by decide) rfl rfl (Nat.le_of_ble_eq_true rfl) fun B=>?_
 refine cb fun K1 hK1=>?_
 simp only[go_sem,simprocAttr,hne]
 first
  |refine hK1 _ _ ?_
  |refine⟨by first|exact sd,hK1 _ _ ?_⟩
 obtain⟨r_2,hr_2,hm⟩:=ze hm
 refine cB (plan:=pl [(0,none),(1,none),(2,none),(3,none),(4,none),(5,none),(6,some [])]) (by kernel_rfl) rfl (by kernel_rfl) fun K2 hK2=>?_
 simp only[go_sem,simprocAttr,hne]
 try refine⟨by first|exact sd,?_⟩
 refine Dr.callF (av:=?av3) (g:=true) (o:=?o3) (fun hg=>MF hne h_1.e _ hr_2) ?hk3 ?ha3 ?hb3 ?hp3 ?hok3 ?hf3 ?cont3
 case hk3 =>
  simp only[go_sem,simprocAttr,hne];exact Is.mk
 case ha3 =>
  simp only[go_sem,simprocAttr,hne];exact Is.mk
 case hb3 =>
  simp only[go_sem,simprocAttr,hne];exact Is.mk
 case hp3 =>
  simp only[go_sem,simprocAttr,hne];exact Is.mk
 case hok3 =>
  simp only[go_sem,simprocAttr,hne]
 case hf3 =>
  simp only[go_sem,simprocAttr,hne];exact Is.mk
 simp only[go_sem,simprocAttr,hne]
 first
  |refine hK2 _ _ ?_
  |refine⟨by first|exact sd,hK2 _ _ ?_⟩
 refine Wp.ret ?_;refine vg ?_;cases hm;simp only[go_sem,simprocAttr,hne]
 try simp[eE,zh,fK,fl,zf,zc,zd,zm,z8,zt,zQ,zk,zP,zb,za,zp,map_set,map_replicate]
set_option maxRecDepth 100000 in
set_option maxHeartbeats 4000000 in
theorem MZ[Tabs](hne:∀e,Tabs.nest e=none)(a_1:ae)(b_2:ae)(z:Int)(hm:vm a_1 b_2=some z):Does Tryz.prog 61 [.agg [.p (.s a_1.t),.p (.i .i64 a_1.e),.p (.s a_1.a),.p (.s a_1.x),.p (.s a_1.z)],.agg [.p (.s b_2.t),.p (.i .i64 b_2.e),.p (.s b_2.a),.p (.s b_2.x),.p (.s b_2.z)]] [] (fun r X=>r=.p (.i .i64 z)∧X=[]):=by
 unfold vm at hm
 refine cz 0 35 [.tmp 4] Tryz.func61 rfl (by decide) rfl rfl (Nat.le_of_ble_eq_true rfl) fun B=>?_
 refine cb fun K1 hK1=>?_
 simp only[go_sem,simprocAttr,hne]
 first
  |refine hK1 _ _ ?_
  |refine⟨by first|exact sd,hK1 _ _ ?_⟩
 refine ca fun K2 hK2 hW2=>?_
 obtain⟨r_3,hr_3,hm⟩:=ze hm
 refine cb fun K3 hK3=>?_
 simp only[go_sem,simprocAttr,hne]
 try refine⟨by first|exact sd,?_⟩
 refine cP (av:=?av4) (g:=true) (fun hg=>KX hne a_1.t b_2.t _ hr_3) ?ha4 ?hb4 ?hp4 ?hok4 ?hf4 ?cont4
 case ha4 =>
  simp only[go_sem,simprocAttr,hne];exact Is.mk
 case hb4 =>
  simp only[go_sem,simprocAttr,hne];exact Is.mk
 case hp4 =>
  simp only[go_sem,simprocAttr,hne];exact Is.mk
 case hok4 =>
  simp only[go_sem,simprocAttr,hne]
 case hf4 =>
  simp only[go_sem,simprocAttr,hne];exact Is.mk
 intro hv4;simp only[go_sem,simprocAttr,hne]
 first
  |refine hK3 _ _ ?_
  |refine⟨by first|exact sd,hK3 _ _ ?_⟩
 refine cb fun K5 hK5=>?_
 simp only[go_sem,simprocAttr,hne]
 first
  |refine hK5 _ _ ?_
  |refine⟨by first|exact sd,hK5 _ _ ?_⟩
 refine Wp.cond rfl ⟨⟩ (fun hc6=>?_) (fun hc6=>?_)
 ·have hm:=Fr hm (by first|exact hc6|simpa using hc6)
  refine cb fun K7 hK7=>?_
  simp only[go_sem,simprocAttr,hne]
  first
   |refine hK7 _ _ ?_
   |refine⟨by first|exact sd,hK7 _ _ ?_⟩
  refine Wp.ret ?_;simp only[zS,zL];refine vg ?_;cases hm;simp only[go_sem,simprocAttr,hne]
  try simp[eE,zh,fK,fl,zf,zc,zd,zm,z8,zt,zQ,zk,zP,zb,za,map_set,map_replicate]
 ·have hm:=Fs hm (by first|exact hc6|simpa using hc6)
  refine Wp.skip ?_;simp only[zS,zL,↓reduceIte];refine hK2 _ _ ?_;obtain⟨r_4,hr_4,hm⟩:=ze hm;obtain⟨r_5,hr_5,hm⟩:=ze hm
  refine cV (plan:=(.rd 0 (.rd 1 (.rd 2 (.rd 3 (.fk 4 [0,1,2,3] (.ef 5 [0,1,2,3] (.ef 6 [] (.ef 7 [] .nil))) 5 [0,1,2,3] (.ef 4 [0,1,2,3] (.ef 6 [] (.ef 7 [] .nil))))))))) (by kernel_rfl) rfl (by kernel_rfl) fun K8 hK8 hW8=>?_
  suffices hcont8:K8 [(0,.agg [.p (.s a_1.t),.p (.i .i64 a_1.e),.p (.s a_1.a),.p (.s a_1.x),.p (.s a_1.z)]),(1,.agg [.p (.s b_2.t),.p (.i .i64 b_2.e),.p (.s b_2.a),.p (.s b_2.x),.p (.s b_2.z)]),(2,.ptr 0 0),(3,.ptr 1 0),(4,.p (.i .i64 0)),(5,.p (.i .i64 r_3)),(6,.ptr 2 0),(7,.ptr 3 0),(8,.ptr 0 0),(9,.p (.s a_1.t)),(10,.ptr 1 0),(11,.p (.s b_2.t)),(12,.p (.i .i64 r_3)),(13,.p (.i .i64 r_3)),(14,.p (.b (!decide (r_3=0)))),(16,.agg [.p (.s a_1.t),.p (.i .i64 a_1.e),.p (.s a_1.a),.p (.s a_1.x),.p (.s a_1.z)]),(17,.agg [.p (.i .i64 r_4.C),.p (.s r_4.y)]),(18,.agg [.p (.s b_2.t),.p (.i .i64 b_2.e),.p (.s b_2.a),.p (.s b_2.x),.p (.s b_2.z)]),(19,.agg [.p (.i .i64 r_5.C),.p (.s r_5.y)])] [.cells 76 [.p (.s a_1.t),.p (.i .i64 a_1.e),.p (.s a_1.a),.p (.s a_1.x),.p (.s a_1.z)],.cells 76 [.p (.s b_2.t),.p (.i .i64 b_2.e),.p (.s b_2.a),.p (.s b_2.x),.p (.s b_2.z)],.cells 73 [.p (.i .i64 r_4.C),.p (.s r_4.y)],.cells 73 [.p (.i .i64 r_5.C),.p (.s r_5.y)]]by
   simp only[go_sem,simprocAttr,hne]
   try refine⟨by first|exact sd,?_⟩
   refine Dr.callF (av:=?av9) (g:=true) (o:=?o9) (fun hg=>KY hne a_1 _ hr_4) ?hk9 ?ha9 ?hb9 ?hp9 ?hok9 ?hf9 ?cont9
   case hk9 =>
    simp only[go_sem,simprocAttr,hne];exact Is.mk
   case ha9 =>
    simp only[go_sem,simprocAttr,hne];exact Is.mk
   case hb9 =>
    simp only[go_sem,simprocAttr,hne];exact Is.mk
   case hp9 =>
    simp only[go_sem,simprocAttr,hne];exact Is.mk
   case hok9 =>
    simp only[go_sem,simprocAttr,hne]
   case hf9 =>
    simp only[go_sem,simprocAttr,hne];exact Is.mk
   simp only[go_sem,simprocAttr,hne]
   try refine⟨by first|exact sd,?_⟩
   refine Dr.callF (av:=?av10) (g:=true) (o:=?o10) (fun hg=>KY hne b_2 _ hr_5) ?hk10 ?ha10 ?hb10 ?hp10 ?hok10 ?hf10 ?cont10
   case hk10 =>
    simp only[go_sem,simprocAttr,hne];exact Is.mk
   case ha10 =>
    simp only[go_sem,simprocAttr,hne];exact Is.mk
   case hb10 =>
    simp only[go_sem,simprocAttr,hne];exact Is.mk
   case hp10 =>
    simp only[go_sem,simprocAttr,hne];exact Is.mk
   case hok10 =>
    simp only[go_sem,simprocAttr,hne]
   case hf10 =>
    simp only[go_sem,simprocAttr,hne];exact Is.mk
   simp only[go_sem,simprocAttr,hne]
   try refine⟨by first|exact sd,?_⟩
   refine Dr.fk ?_ ?_
   ·
    refine Br.run (o:=?o11) ?hk11 ?hg11 ?cont11
    case hk11 =>
     simp only[go_sem,simprocAttr,hne];exact Is.mk
    case hg11 =>
     simp only[go_sem,simprocAttr,hne];exact Is.mk
    simp only[go_sem,simprocAttr,hne]
    first
     |refine hW8.weak _ _ _ _ ?_ hcont8
     |refine⟨by first|exact sd,hW8.weak _ _ _ _ ?_ hcont8⟩
    simp only[go_sem,simprocAttr,hne]
    try simp[eE,zh,fK,fl,zf,zc,zd,zm,z8,zt,zQ,zk,zP,zb,za,zp,map_set,map_replicate]
   ·
    refine Br.run (o:=?o12) ?hk12 ?hg12 ?cont12
    case hk12 =>
     simp only[go_sem,simprocAttr,hne];exact Is.mk
    case hg12 =>
     simp only[go_sem,simprocAttr,hne];exact Is.mk
    simp only[go_sem,simprocAttr,hne]
    first
     |refine hW8.swap 2 3 _ _ (by exact Nat.le_of_ble_eq_true rfl) (by exact Nat.le_of_ble_eq_true rfl) (by exact Nat.le_of_ble_eq_true rfl) (by exact Nat.le_of_ble_eq_true rfl) ?_
     |refine⟨by first|exact sd,hW8.swap 2 3 _ _ (by exact Nat.le_of_ble_eq_true rfl) (by exact Nat.le_of_ble_eq_true rfl) (by exact Nat.le_of_ble_eq_true rfl) (by exact Nat.le_of_ble_eq_true rfl) ?_⟩
    simp only[go_sem,simprocAttr,hne];refine hW8.weak _ _ _ _ ?_ hcont8;simp only[go_sem,simprocAttr,hne]
    try simp[eE,zh,fK,fl,zf,zc,zd,zm,z8,zt,zQ,zk,zP,zb,za,zp,map_set,map_replicate]
  refine hK8 _ _ ?_
  refine ca fun K13 hK13 hW13=>?_
  refine cb fun K14 hK14=>?_
  simp only[go_sem,simprocAttr,hne]
  first
   |refine hK14 _ _ ?_
   |refine⟨by first|exact sd,hK14 _ _ ?_⟩
  refine Wp.cond rfl ⟨⟩ (fun hc15=>?_) (fun hc15=>?_)
  ·have hm:=Fr hm (by first|exact hc15|simpa using hc15)
   refine cb fun K16 hK16=>?_
   simp only[go_sem,simprocAttr,hne]
   first
    |refine hK16 _ _ ?_
    |refine⟨by first|exact sd,hK16 _ _ ?_⟩
   refine Wp.ret ?_;simp only[zS,zL];refine vg ?_;cases hm;simp only[go_sem,simprocAttr,hne]
   try simp[eE,zh,fK,fl,zf,zc,zd,zm,z8,zt,zQ,zk,zP,zb,za,zp,map_set,map_replicate]
  ·have hm:=Fs hm (by first|exact hc15|simpa using hc15)
   refine Wp.skip ?_;simp only[zS,zL,↓reduceIte];refine hK13 _ _ ?_;obtain⟨r_6,hr_6,hm⟩:=ze hm
   refine cb fun K17 hK17=>?_
   simp only[go_sem,simprocAttr,hne]
   try refine⟨by first|exact sd,?_⟩
   refine cP (av:=?av18) (g:=true) (fun hg=>KX hne r_4.y r_5.y _ hr_6) ?ha18 ?hb18 ?hp18 ?hok18 ?hf18 ?cont18
   case ha18 =>
    simp only[go_sem,simprocAttr,hne];exact Is.mk
   case hb18 =>
    simp only[go_sem,simprocAttr,hne];exact Is.mk
   case hp18 =>
    simp only[go_sem,simprocAttr,hne];exact Is.mk
   case hok18 =>
    simp only[go_sem,simprocAttr,hne]
   case hf18 =>
    simp only[go_sem,simprocAttr,hne];exact Is.mk
   intro hv18;simp only[go_sem,simprocAttr,hne]
   first
    |refine hK17 _ _ ?_
    |refine⟨by first|exact sd,hK17 _ _ ?_⟩
   refine Wp.ret ?_;refine vg ?_;cases hm;simp only[go_sem,simprocAttr,hne]
   try simp[eE,zh,fK,fl,zf,zc,zd,zm,z8,zt,zQ,zk,zP,zb,za,zp,map_set,map_replicate]
theorem xb(a b:ae):vm a b=some (iR a.t a.e a.a b.t b.e b.a):=by
 have hp:∀h:ae,zG h=some ⟨rk h.e,h.a⟩:=fun h=>by
  unfold zG xL rk
  by_cases h1:h.e=5
  ·simp[h1,call]
  ·by_cases h2:h.e=6 <;> simp[h1,h2,call]
 have hs:∀x y:dX,vo x y=some (eI x y):=fun _ _=>rfl
 unfold vm iR;simp only[hs,hp,call];have r1:=x7 a.e;have r2:=x7 b.e;rw[nL (n:=rk a.e-rk b.e) (by omega) (by omega)]
 by_cases h1:eI a.t b.t=0
 ·by_cases h2:rk a.e=rk b.e <;> simp[h1,h2]
 ·simp[h1]
end Go.Proofs.YtggigadnagoglafGreatDoor
