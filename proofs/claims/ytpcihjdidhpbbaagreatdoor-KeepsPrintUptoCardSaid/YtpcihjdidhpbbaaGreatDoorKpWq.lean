/- The comparisons of sorts, walked in any setting. -/
import Derived.Test.YtpcihjdidhpbbaaGreatDoorKpMd
import Derived.Test.YtpcihjdidhpbbaaGreatDoorKpTy
set_option linter.unusedSimpArgs false
set_option linter.unusedVariables false
open List
namespace Go.Proofs.YtpcihjdidhpbbaaGreatDoor
open Go.Vc Go.Md Go.Proofs
abbrev Tc:Tabs:=⟨fun _=>none,fun _=>false,fun _=>none,True,fun _=>false⟩
theorem Aj(s:List UInt8)(c:List UInt8):Nv Tryz.prog 133 [.p (.s s),.p (.s c)] (.p (.i .i64 (fb s c))):=Nv.compare Tryz.func133 (by kernel_rfl) (by kernel_rfl) (by kernel_rfl) (by kernel_rfl) s c
set_option maxRecDepth 100000 in
set_option maxHeartbeats 4000000 in
theorem Vk[Tabs](a:∀e,Tabs.nest e=none)(b:ev)(c:ev)(z:Int)(hm:IV b c=some z):Does Tryz.prog 94 [.p (.s b),.p (.s c)] [] (fun r X=>r=.p (.i .i64 z)∧X=[]):=by
 unfold IV at hm;refine dn 0 8 [.tmp 4] Tryz.func94 rfl (by decide) rfl rfl (Nat.le_of_ble_eq_true rfl) fun B=>?_;refine db fun k d=>?_;simp only[go_sem,simprocAttr,a];first
  |refine d _ _ ?_
  |refine⟨by first|exact sd,d _ _ ?_⟩
 have h:=mf b c;refine db fun l f=>?_;simp only[go_sem,simprocAttr,a];try refine⟨by first|exact sd,?_⟩
 refine dB (av:=?av3) (g:=true) (fun m=>Aj b c) ?ha3 ?hb3 ?hp3 ?hok3 ?hf3 ?cont3;case ha3 =>
  simp only[go_sem,simprocAttr,a];exact Is.mk
 case hb3 =>
  simp only[go_sem,simprocAttr,a];exact Is.mk
 case hp3 =>
  simp only[go_sem,simprocAttr,a];exact Is.mk
 case hok3 =>
  simp only[go_sem,simprocAttr,a]
 case hf3 =>
  simp only[go_sem,simprocAttr,a];exact Is.mk
 intro j;simp only[go_sem,simprocAttr,a];first
  |refine f _ _ ?_
  |refine⟨by first|exact sd,f _ _ ?_⟩
 refine Wp.ret ?_;refine uH ?_;cases hm;simp only[go_sem,simprocAttr,a];try simp[zl,fP,zA,eU,ex,zD,zi,ze,zc,zj,zC,zs,zy,zb,za,zk,zn,map_set,map_replicate]
set_option maxRecDepth 100000 in
set_option maxHeartbeats 4000000 in
theorem S3[Tabs](a:∀e,Tabs.nest e=none)(b:ev)(c:ev)(z:Int)(hm:uS b c=some z):Does Tryz.prog 24 [.p (.s b),.p (.s c)] [] (fun r X=>r=.p (.i .i64 z)∧X=[]):=by
 unfold uS at hm;refine dn 0 8 [.tmp 4] Tryz.func24 rfl (by decide) rfl rfl (Nat.le_of_ble_eq_true rfl) fun B=>?_;refine db fun l d=>?_;simp only[go_sem,simprocAttr,a];first
  |refine d _ _ ?_
  |refine⟨by first|exact sd,d _ _ ?_⟩
 obtain⟨j,f,hm⟩:=zd hm;refine db fun m h=>?_;simp only[go_sem,simprocAttr,a];try refine⟨by first|exact sd,?_⟩
 refine dy (av:=?av3) (g:=true) (fun n=>Vk a b c _ f) ?ha3 ?hb3 ?hp3 ?hok3 ?hf3 ?cont3;case ha3 =>
  simp only[go_sem,simprocAttr,a];exact Is.mk
 case hb3 =>
  simp only[go_sem,simprocAttr,a];exact Is.mk
 case hp3 =>
  simp only[go_sem,simprocAttr,a];exact Is.mk
 case hok3 =>
  simp only[go_sem,simprocAttr,a]
 case hf3 =>
  simp only[go_sem,simprocAttr,a];exact Is.mk
 intro k;simp only[go_sem,simprocAttr,a];first
  |refine h _ _ ?_
  |refine⟨by first|exact sd,h _ _ ?_⟩
 refine Wp.ret ?_;refine uH ?_;cases hm;simp only[go_sem,simprocAttr,a];try simp[zl,fP,zA,eU,ex,zD,zi,ze,zc,zj,zC,zs,zy,zb,za,zk,zn,map_set,map_replicate]
set_option maxRecDepth 100000 in
set_option maxHeartbeats 4000000 in
theorem Sw[Tabs](a:∀e,Tabs.nest e=none)(b:Int)(z:Int)(hm:ju b=some z):Does Tryz.prog 41 [.p (.i .i64 b)] [] (fun r X=>r=.p (.i .i64 z)∧X=[]):=by
 unfold ju at hm;refine dn 0 8 [.tmp 2] Tryz.func41 rfl (by decide) rfl rfl (Nat.le_of_ble_eq_true rfl) fun B=>?_;refine db fun s g=>?_;simp only[go_sem,simprocAttr,a];first
  |refine g _ _ ?_
  |refine⟨by first|exact sd,g _ _ ?_⟩
 refine da fun t n o=>?_;refine db fun u h=>?_;simp only[go_sem,simprocAttr,a];first
  |refine h _ _ ?_
  |refine⟨by first|exact sd,h _ _ ?_⟩
 refine Wp.block ?_;refine db fun v j=>?_;simp only[go_sem,simprocAttr,a];first
  |refine j _ _ ?_
  |refine⟨by first|exact sd,j _ _ ?_⟩
 refine Wp.cond rfl ⟨⟩ (fun c=>?_) (fun c=>?_)
 ·have hm:=Of hm (by first|exact c|simpa using c)
  refine db fun w k=>?_;simp only[go_sem,simprocAttr,a];first
   |refine k _ _ ?_
   |refine⟨by first|exact sd,k _ _ ?_⟩
  refine Wp.ret ?_;simp only[zz,zw];refine uH ?_;cases hm;simp only[go_sem,simprocAttr,a];try simp[zl,fP,zA,eU,ex,zD,zi,ze,zc,zj,zC,zs,zy,zm,zP,zb,za,zk,zn,map_set,map_replicate]
 ·have hm:=Og hm (by first|exact c|simpa using c)
  refine db fun x l=>?_;simp only[go_sem,simprocAttr,a];first
   |refine l _ _ ?_
   |refine⟨by first|exact sd,l _ _ ?_⟩
  refine Wp.cond rfl ⟨⟩ (fun d=>?_) (fun d=>?_)
  ·have hm:=Of hm (by first|exact d|simpa using d)
   refine db fun y m=>?_;simp only[go_sem,simprocAttr,a];first
    |refine m _ _ ?_
    |refine⟨by first|exact sd,m _ _ ?_⟩
   refine Wp.ret ?_;simp only[zz,zw];refine uH ?_;cases hm;simp only[go_sem,simprocAttr,a];try simp[zl,fP,zA,eU,ex,zD,zi,ze,zc,zj,zC,zs,zy,zm,zP,zb,za,zk,zn,map_set,map_replicate]
  ·have hm:=Og hm (by first|exact d|simpa using d)
   refine Wp.skip ?_;simp only[zz,zw,↓reduceIte];refine n _ _ ?_;refine db fun q f=>?_;simp only[go_sem,simprocAttr,a];first
    |refine f _ _ ?_
    |refine⟨by first|exact sd,f _ _ ?_⟩
   refine Wp.ret ?_;refine uH ?_;cases hm;simp only[go_sem,simprocAttr,a];try simp[zl,fP,zA,eU,ex,zD,zi,ze,zc,zj,zC,zs,zy,zm,zP,zb,za,zk,zn,map_set,map_replicate]
set_option maxRecDepth 100000 in
set_option maxHeartbeats 4000000 in
theorem TR[Tabs](b:∀e,Tabs.nest e=none)(c:List Int)(z:Int)(hm:yI c=some z):Does Tryz.prog 104 [.p (.l (List.map zA c))] [] (fun r X=>r=.p (.i .i64 z)∧X=[]):=by
 unfold yI at hm;refine dn 0 18 [.tmp 2] Tryz.func104 rfl (by decide) rfl rfl (Nat.le_of_ble_eq_true rfl) fun B=>?_;refine db fun U w=>?_;simp only[go_sem,simprocAttr,b];first
  |refine w _ _ ?_
  |refine⟨by first|exact sd,w _ _ ?_⟩
 refine db fun V x=>?_;simp only[go_sem,simprocAttr,b];first
  |refine x _ _ ?_
  |refine⟨by first|exact sd,x _ _ ?_⟩
 refine da fun O y H=>?_;obtain⟨I,n,hm⟩:=zo hm;have u:∀s,I s=some z→O [(3,.p (.i .i64 0))] []:=by
  intro s hs;have hm:=n _ hs;clear hs;try dsimp only at hm
  try dsimp only
  refine y _ _ ?_;refine db fun W A=>?_;simp only[go_sem,simprocAttr,b];first
   |refine A _ _ ?_
   |refine⟨by first|exact sd,A _ _ ?_⟩
  refine Wp.ret ?_;refine uH ?_;cases hm;simp only[go_sem,simprocAttr,b];try simp[zl,fP,zA,eU,ex,zD,zi,ze,zc,zj,zC,zs,zy,zm,zP,zb,za,zk,zn,map_set,map_replicate]
 clear y n;refine db fun Y C=>?_;simp only[go_sem,simprocAttr,b];first
  |refine C _ _ ?_
  |refine⟨by first|exact sd,C _ _ ?_⟩
 refine Wp.block ?_;obtain⟨M,v,hm⟩:=zq hm;refine dA 6 fun f=>?_;replace f:c.length≤274877906944:=by simp only[go_sem,simprocAttr,b,length_map]at f;omega
 refine Wp.forL (fun h s=>[(3,.p (.i .i64 0)),(6,.p (.l (List.map zA c))),(7,.p (.i .i64 (c.length:Int))),(8,.p (.i .i64 (h:Int)))]) (fun h s=>[]) ?_ hm ?_
 ·
  simp only[go_sem,simprocAttr,b];try simp[zl,fP,zA,eU,ex,zD,zi,ze,zc,zj,zC,zs,zy,zm,zP,zb,za,zk,zn,map_set,map_replicate]
 clear hm;intro h s F hm;try dsimp only at hm
 try dsimp only
 refine db fun Z D=>?_;simp only[go_sem,simprocAttr,b];first
  |refine D _ _ ?_
  |refine⟨by first|exact sd,D _ _ ?_⟩
 refine da fun K7 J P=>?_;refine Wp.cond rfl ⟨⟩ (fun j=>?_) (fun j=>?_);rotate_left
 ·refine Wp.exit ?_
  have hm:=v _ (jg hm (ux (by first|exact j|simpa using j)));try dsimp only at hm
  simp only[zz,zw,↓reduceIte];refine H _ _ _ _ ?_ (u () hm);simp only[go_sem,simprocAttr,b];try simp[zl,fP,zA,eU,ex,zD,zi,ze,zc,zj,zC,zs,zy,zm,zP,zb,za,zk,zn,map_set,map_replicate]
 have k:=lw (by first|exact j|simpa using j);have g:=iL k f;obtain⟨N,K,a,G,m,hm⟩:=jj hm k;replace a:=a zA;refine Wp.skip ?_;simp only[zz];refine J _ _ ?_;refine da fun K8 L Q=>?_;refine Wp.block ?_;refine db fun K9 E=>?_;simp only[go_sem,simprocAttr,b,g,a];first
  |refine E _ _ ?_
  |refine⟨by first|exact sd,E _ _ ?_⟩
 refine db fun R o=>?_;simp only[go_sem,simprocAttr,b,g,a];first
  |refine o _ _ ?_
  |refine⟨by first|exact sd,o _ _ ?_⟩
 refine Wp.cond rfl ⟨⟩ (fun d=>?_) (fun d=>?_)
 ·have hm:=Of hm (by first|exact d|simpa using d)
  refine db fun S q=>?_;simp only[go_sem,simprocAttr,b,g,a];first
   |refine q _ _ ?_
   |refine⟨by first|exact sd,q _ _ ?_⟩
  refine Wp.ret ?_;simp only[zz,zw];refine uH ?_;cases hm;simp only[go_sem,simprocAttr,b,g,a];try simp[zl,fP,zA,eU,ex,zD,zi,ze,zc,zj,zC,zs,zy,zm,zP,zb,za,zk,zn,map_set,map_replicate]
 ·have hm:=Og hm (by first|exact d|simpa using d)
  refine Wp.skip ?_;simp only[zz,zw,↓reduceIte];refine L _ _ ?_;refine Wp.region fun T t=>?_;simp only[go_sem,simprocAttr,b,g,a];first
   |refine t _ _ ?_
   |refine⟨by first|exact sd,t _ _ ?_⟩
  simp only[zz,zw,↓reduceIte];refine⟨(),k,m _ hm,?_⟩;simp only[go_sem,simprocAttr,b,g,a];try simp[zl,fP,zA,eU,ex,zD,zi,ze,zc,zj,zC,zs,zy,zm,zP,zb,za,zk,zn,map_set,map_replicate]
set_option maxRecDepth 100000 in
set_option maxHeartbeats 4000000 in
theorem T9[Tabs](b:∀e,Tabs.nest e=none)(c:aa)(d:aa)(z:Int)(hm:uk c d=some z):Does Tryz.prog 40 [.agg [.p (.s c.r),.p (.i .i64 c.g),.p (.s c.a),.p (.s c.y),.p (.s c.A)],.agg [.p (.s d.r),.p (.i .i64 d.g),.p (.s d.a),.p (.s d.y),.p (.s d.A)]] [] (fun r X=>r=.p (.i .i64 z)∧X=[]):=by
 unfold uk at hm;refine dn 0 24 [.tmp 4] Tryz.func40 rfl (by decide) rfl rfl (Nat.le_of_ble_eq_true rfl) fun B=>?_;refine db fun C f=>?_;simp only[go_sem,simprocAttr,b];first
  |refine f _ _ ?_
  |refine⟨by first|exact sd,f _ _ ?_⟩
 obtain⟨t,h,hm⟩:=zd hm;obtain⟨u,j,hm⟩:=zd hm;obtain⟨v,k,hm⟩:=zd hm;obtain⟨w,l,hm⟩:=zd hm;obtain⟨x,m,hm⟩:=zd hm;refine dl (plan:=pl [(0,none),(1,none),(2,none),(3,none),(4,none),(5,none),(6,none),(7,none),(8,none),(9,none),(10,none),(11,none),(12,none),(13,none),(14,none),(15,none),(16,none),(17,some []),(18,none),(19,none)]) (by kernel_rfl) rfl (by kernel_rfl) fun D n=>?_;simp only[go_sem,simprocAttr,b];try refine⟨by first|exact sd,?_⟩
 refine Dr.callF (av:=?av3) (g:=true) (o:=?o3) (fun q=>S3 b c.r d.r _ h) ?hk3 ?ha3 ?hb3 ?hp3 ?hok3 ?hf3 ?cont3;case hk3 =>
  simp only[go_sem,simprocAttr,b];exact Is.mk
 case ha3 =>
  simp only[go_sem,simprocAttr,b];exact Is.mk
 case hb3 =>
  simp only[go_sem,simprocAttr,b];exact Is.mk
 case hp3 =>
  simp only[go_sem,simprocAttr,b];exact Is.mk
 case hok3 =>
  simp only[go_sem,simprocAttr,b]
 case hf3 =>
  simp only[go_sem,simprocAttr,b];exact Is.mk
 simp only[go_sem,simprocAttr,b];try refine⟨by first|exact sd,?_⟩
 refine Dr.callF (av:=?av4) (g:=true) (o:=?o4) (fun q=>Sw b c.g _ j) ?hk4 ?ha4 ?hb4 ?hp4 ?hok4 ?hf4 ?cont4;case hk4 =>
  simp only[go_sem,simprocAttr,b];exact Is.mk
 case ha4 =>
  simp only[go_sem,simprocAttr,b];exact Is.mk
 case hb4 =>
  simp only[go_sem,simprocAttr,b];exact Is.mk
 case hp4 =>
  simp only[go_sem,simprocAttr,b];exact Is.mk
 case hok4 =>
  simp only[go_sem,simprocAttr,b]
 case hf4 =>
  simp only[go_sem,simprocAttr,b];exact Is.mk
 simp only[go_sem,simprocAttr,b];try refine⟨by first|exact sd,?_⟩
 refine Dr.callF (av:=?av5) (g:=true) (o:=?o5) (fun q=>Sw b d.g _ k) ?hk5 ?ha5 ?hb5 ?hp5 ?hok5 ?hf5 ?cont5;case hk5 =>
  simp only[go_sem,simprocAttr,b];exact Is.mk
 case ha5 =>
  simp only[go_sem,simprocAttr,b];exact Is.mk
 case hb5 =>
  simp only[go_sem,simprocAttr,b];exact Is.mk
 case hp5 =>
  simp only[go_sem,simprocAttr,b];exact Is.mk
 case hok5 =>
  simp only[go_sem,simprocAttr,b]
 case hf5 =>
  simp only[go_sem,simprocAttr,b];exact Is.mk
 simp only[go_sem,simprocAttr,b];try refine⟨by first|exact sd,?_⟩
 refine Dr.callF (av:=?av6) (g:=true) (o:=?o6) (fun q=>S3 b c.a d.a _ l) ?hk6 ?ha6 ?hb6 ?hp6 ?hok6 ?hf6 ?cont6;case hk6 =>
  simp only[go_sem,simprocAttr,b];exact Is.mk
 case ha6 =>
  simp only[go_sem,simprocAttr,b];exact Is.mk
 case hb6 =>
  simp only[go_sem,simprocAttr,b];exact Is.mk
 case hp6 =>
  simp only[go_sem,simprocAttr,b];exact Is.mk
 case hok6 =>
  simp only[go_sem,simprocAttr,b]
 case hf6 =>
  simp only[go_sem,simprocAttr,b];exact Is.mk
 simp only[go_sem,simprocAttr,b];try refine⟨by first|exact sd,?_⟩
 refine Dr.callF (av:=?av7) (g:=true) (o:=?o7) (fun q=>TR b [t,IntKind.i64.wrap (u-v),w] _ m) ?hk7 ?ha7 ?hb7 ?hp7 ?hok7 ?hf7 ?cont7;case hk7 =>
  simp only[go_sem,simprocAttr,b];exact Is.mk
 case ha7 =>
  simp only[go_sem,simprocAttr,b];exact Is.mk
 case hb7 =>
  simp only[go_sem,simprocAttr,b];exact Is.mk
 case hp7 =>
  simp only[go_sem,simprocAttr,b];exact Is.mk
 case hok7 =>
  simp only[go_sem,simprocAttr,b]
 case hf7 =>
  simp only[go_sem,simprocAttr,b];exact Is.mk
 simp only[go_sem,simprocAttr,b];first
  |refine n _ _ ?_
  |refine⟨by first|exact sd,n _ _ ?_⟩
 refine Wp.ret ?_;refine uH ?_;cases hm;simp only[go_sem,simprocAttr,b];try simp[zl,fP,zA,eU,ex,zD,zi,ze,zc,zj,zC,zs,zy,zm,zP,zb,za,zk,zn,map_set,map_replicate]
theorem Bb(a b:aa):uk a b=some (gR a.r a.g a.a b.r b.g b.a):=by
 have e:∀k:Int,ju k=some (rk k-1):=fun k=>by
  unfold ju rk;by_cases c:k=5
  ·simp[c]
  ·by_cases d:k=6 <;> simp[c,d]
 have hs:∀x y:ev,uS x y=some (fb x y):=fun _ _=>rfl;have f:∀x y z:Int,yI [x,y,z]=some (if x≠0 then x else if y≠0 then y else z):=fun x y z=>by
  unfold yI jp;simp only[forL];by_cases c:x=0
  ·by_cases d:y=0
   ·by_cases h:z=0 <;> simp[c,d,h]
   ·simp[c,d]
  ·simp[c]
 unfold uk gR;simp only[hs,e,call];have i:=B4 a.g;have j:=B4 b.g;rw[kU (n:=rk a.g-1-(rk b.g-1)) (by omega) (by omega)];simp only[f];by_cases c:fb a.r b.r=0
 ·by_cases d:rk a.g=rk b.g
  ·simp[c,d]
  ·have:rk a.g-1-(rk b.g-1)≠0:=by omega
   simp[c,d,this];omega
 ·simp[c]
end Go.Proofs.YtpcihjdidhpbbaaGreatDoor
