/- That the code does what the models say (part 1). -/
import Derived.Test.YtmnohdgjkcjdeaaGreatDoorLoWk0
set_option linter.unusedSimpArgs false
set_option linter.unusedVariables false
open Go.Proofs Go.Shelf
namespace Go.Proofs.YtmnohdgjkcjdeaaGreatDoor
open Go.Vc Go.Md
set_option maxRecDepth 100000
set_option maxHeartbeats 4000000
theorem zeg (c_1:Int) (z:Bool) (hm:zbH c_1=some z):Does Tryz.prog 59 [.p (.i .u8 c_1)] [] (fun r X=>r=.p (.b z)∧X=[]):=by
 unfold zbH at hm
 refine dW 0 9 [.tmp 2] Tryz.func59 fun B=>?_
 refine qS ?_
 refine qS ?_
 refine Wp.ret ?_
 refine zc ?_
 cases hm
 exact fse1
theorem zeh (c_1:Int) (z:Bool) (hm:zch c_1=some z):Does Tryz.prog 60 [.p (.i .u8 c_1)] [] (fun r X=>r=.p (.b z)∧X=[]):=by
 unfold zch at hm
 refine dW 0 9 [.tmp 2] Tryz.func60 fun B=>?_
 refine qS ?_
 refine qS ?_
 refine Wp.ret ?_
 refine zc ?_
 cases hm
 exact fse1
theorem ok_ver_IsName_1 (c_1:Int) (z:Bool) (hm:zc4 c_1=some z):Does Tryz.prog 58 [.p (.i .u8 c_1)] [] (fun r X=>r=.p (.b z)∧X=[]):=by
 unfold zc4 at hm
 refine dW 0 17 [.tmp 2] Tryz.func58 fun B=>?_
 refine qS ?_
 obtain ⟨r_2,hr_2,hm⟩:=zb hm
 obtain ⟨r_3,hr_3,hm⟩:=zR hm
 refine Wp.seqR fun K2 hK2=>?_
 simp only [go_sem,simprocAttr]
 try refine ⟨sd,?_⟩
 refine Rg.callX (av:=?av3) (g:=true) (fun hg=>zeg c_1 _ hr_2) si si si sg si ?cont3
 intro hv3
 simp only [go_sem,simprocAttr]
 try refine ⟨sd,?_⟩
 refine Rg.callX (av:=?av4) (g:=!r_2) (fun hg=>zeh c_1 _ (hr_3 hg)) si si si sg si ?cont4
 intro hv4
 simp only [go_sem,simprocAttr]
 refine kA hK2 ?_
 refine Wp.ret ?_
 refine zc ?_
 cases hm
 exact fse1
theorem ok_ver_each_i1 (s_1:Str) (most_2:Int) (z:Bool) (hm:zeH s_1 most_2=some z):Does Tryz.prog 57 [.p (.s s_1),.p (.i .i64 most_2),.fn 58 []] [] (fun r X=>r=.p (.b z)∧X=[]):=by
 unfold zeH at hm
 refine dW 0 28 [.tmp 6] Tryz.func57 fun B=>?_
 refine qS ?_
 refine Wp.seqW fun K2 hK2 hW2=>?_
 obtain ⟨k_12,hk_12,hm⟩:=zl hm
 have hcut2:∀ s,k_12 s=some z→K2 [(0,.p (.s s_1)),(1,.p (.i .i64 most_2))] []:=by
  intro s hs
  have hm:=hk_12 _ hs
  clear hs
  try dsimp only at hm
  try dsimp only
  refine hK2 _ _ ?_
  refine qS ?_
  refine Wp.ret ?_
  refine zc ?_
  cases hm
  exact fse1
 clear hK2 hk_12
 refine qS ?_
 refine Wp.block ?_
 obtain ⟨k_16,hk_16,hm⟩:=zQ hm
 refine Wp.fact 0 fun hl_19=>?_
 replace hl_19:s_1.length≤274877906944:=by
  simp only [go_sem,simprocAttr,List.length_map] at hl_19
  omega
 refine Wp.forL (fun i_18 s=>[(0,.p (.s s_1)),(1,.p (.i .i64 most_2)),(2,.fn 58 []),(7,.p (.i .i64 (i_18:Int)))]) (fun i_18 s=>[]) ?_ hm ?_
 ·
  exact fse1
 clear hm
 intro i_18 s hii_18 hm
 try dsimp only at hm
 try dsimp only
 refine Wp.seqW fun K5 hK5 hW5=>?_
 refine qS ?_
 refine Wp.cond rfl ⟨⟩ (fun hc5=>?_) (fun hc5=>?_)
 rotate_left
 ·refine Wp.exit ?_
  have hm:=hk_16 _ (zae hm (zbd (by first | exact hc5 | simpa using hc5)))
  try dsimp only at hm
  refine hW2 _ _ _ _ ?_ (hcut2 () hm)
  exact fse1
 have hlt5:=zbc (by first | exact hc5 | simpa using hc5)
 have hw5:=zO hlt5 hl_19
 obtain ⟨c_20,nx_17,hxc_20,hyc_20,hnx_17,hm⟩:=zP hm hlt5
 clear hxc_20
 refine Wp.skip ?_
 simp only [zk]
 refine hK5 _ _ ?_
 refine Wp.seqW fun K7 hK7 hW7=>?_
 refine Wp.block ?_
 obtain ⟨r_21,hr_21,hm⟩:=zb hm
 refine Wp.seqR fun K8 hK8=>?_
 simp only [go_sem,simprocAttr,hw5,hyc_20]
 try refine ⟨sd,?_⟩
 refine Rg.callX (av:=?av9) (g:=true) (fun hg=>ok_ver_IsName_1 (c_20.toNat:Int) _ hr_21) (by simp only [go_sem,simprocAttr,hw5,hyc_20]; exact Is.mk) (by simp only [go_sem,simprocAttr,hw5,hyc_20]; exact Is.mk) (by simp only [go_sem,simprocAttr,hw5,hyc_20]; exact Is.mk) (by simp only [go_sem,simprocAttr,hw5,hyc_20]) (by simp only [go_sem,simprocAttr,hw5,hyc_20]; exact Is.mk) ?cont9
 intro hv9
 simp only [go_sem,simprocAttr,hw5,hyc_20]
 refine kA hK8 ?_
 refine cM hm (fun hc10 hm=>?_) (fun hc10 hm=>?_)
 ·refine Wp.seqR fun K11 hK11=>?_
  simp only [go_sem,simprocAttr,hw5,hyc_20]
  refine kA hK11 ?_
  refine Wp.ret ?_
  refine zc ?_
  cases hm
  simp only [go_sem,simprocAttr,hw5,hyc_20]
  try exact se1
 ·refine Wp.skip ?_
  refine hK7 _ _ ?_
  refine Wp.region fun K12 hK12=>?_
  simp only [go_sem,simprocAttr,hw5,hyc_20]
  refine kA hK12 ?_
  simp only [zk,zi,↓reduceIte]
  refine ⟨(),hlt5,hnx_17 _ hm,?_⟩
  simp only [go_sem,simprocAttr,hw5,hyc_20]
  try exact se1
theorem ok_ver_IsName (s_1:Str) (z:Bool) (hm:zdy s_1=some z):Does Tryz.prog 26 [.p (.s s_1)] [] (fun r X=>r=.p (.b z)∧X=[]):=by
 unfold zdy at hm
 refine dW 0 10 [.tmp 2] Tryz.func26 fun B=>?_
 refine qS ?_
 obtain ⟨r_2,hr_2,hm⟩:=zb hm
 obtain ⟨c_3,hm⟩:=zf hm
 obtain ⟨r_4,hr_4,hm⟩:=zR hm
 refine Wp.seqR fun K2 hK2=>?_
 simp only [go_sem,simprocAttr]
 try refine ⟨sL,?_⟩
 refine Rg.callX (av:=?av3) (g:=true) (fun hg=>ok_ver_each_i1 s_1 40 _ hr_2) si si si sg si ?cont3
 intro hv3
 simp only [go_sem,simprocAttr]
 try refine ⟨sL,?_⟩
 refine Rg.callX (av:=?av4) (g:=r_2) (fun hg=>zeg ((s_1.getD 0 0).toNat:Int) _ (hr_4 hg)) si si si sg si ?cont4
 intro hv4
 simp only [go_sem,simprocAttr]
 refine kA hK2 ?_
 refine Wp.ret ?_
 refine zc ?_
 cases hm
 exact fse1
theorem ok_Law_landed  (z:Bool) (hm:zeE=some z):Does Tryz.prog 7 [] [] (fun r X=>r=.p (.b z)∧X=[]):=by
 unfold zeE at hm
 refine dW 0 2 [.tmp 0] Tryz.func7 fun B=>?_
 refine qS ?_
 obtain ⟨r_1,hr_1,hm⟩:=zb hm
 refine Wp.seqR fun K2 hK2=>?_
 simp only [go_sem,simprocAttr]
 try refine ⟨sd,?_⟩
 refine Rg.callX (av:=?av3) (g:=true) (fun hg=>ok_ver_IsName ([97]:Str) _ hr_1) si si si sg si ?cont3
 intro hv3
 simp only [go_sem,simprocAttr]
 refine kA hK2 ?_
 refine Wp.ret ?_
 refine zc ?_
 cases hm
 exact fse1
theorem ok_log_newTable  (z:(List (Str × log_had)) × Int) (hm:log_newTable=some z):Does Tryz.prog 27 [] [] (fun r X=>r=.ptr 1 0∧X=[.mp true (zcY Dt.s zq z.1),.cells 99 [.mp 0,.p (.i .i64 z.2)]]):=by
 unfold log_newTable at hm
 refine dW 2 4 [.tmp 0] Tryz.func27 fun B=>?_
 refine qS ?_
 refine qS ?_
 refine Wp.ret ?_
 refine zc ?_
 cases hm
 exact zb5
theorem ok_log_New  (z:(List (Str × log_had)) × Int × Str) (hm:log_New=some z):Does Tryz.prog 8 [] [] (fun r X=>r=.ptr 2 0∧X=[.mp true (zcY Dt.s zq z.1),.cells 99 [.mp 0,.p (.i .i64 z.2.1)],.cells 63 [.nils,.nils,.p (.s z.2.2),.ptr 1 0]]):=by
 unfold log_New at hm
 refine dW 3 4 [.tmp 0] Tryz.func8 fun B=>?_
 refine qS ?_
 obtain ⟨r_2,hr_2,hm⟩:=zb hm
 refine Wp.seqR fun K2 hK2=>?_
 simp only [go_sem,simprocAttr]
 try refine ⟨sd,?_⟩
 refine Rg.callO (av:=?av3) [] (ok_log_newTable  _ hr_2) si si si sg sg ?cont3
 rintro _ _ ⟨rfl,rfl⟩ hv3
 simp only [go_sem,simprocAttr]
 refine kA hK2 ?_
 refine Wp.ret ?_
 refine zc ?_
 cases hm
 exact zb5
theorem zes (bad_1:Bool) (e_2:Int) (z:Int) (hm:R_when bad_1 e_2=some z):Does Tryz.prog 29 [.p (.b bad_1),.p (.i .i64 e_2)] [] (fun r X=>r=.p (.i .i64 z)∧X=[]):=by
 unfold R_when at hm
 refine dW 0 7 [.tmp 4] Tryz.func29 fun B=>?_
 refine qS ?_
 refine Wp.seqW fun K2 hK2 hW2=>?_
 refine qS ?_
 refine cM hm (fun hc4 hm=>?_) (fun hc4 hm=>?_)
 ·refine qS ?_
  refine Wp.ret ?_
  refine zc ?_
  cases hm
  exact zb5
 ·refine Wp.skip ?_
  refine hK2 _ _ ?_
  refine qS ?_
  refine Wp.ret ?_
  refine zc ?_
  cases hm
  exact zb5
theorem ok_R_IsName (s_1:Str) (z:Bool) (hm:R_IsName s_1=some z):Does Tryz.prog 30 [.p (.s s_1)] [] (fun r X=>r=.p (.b z)∧X=[]):=by
 unfold R_IsName at hm
 refine dW 0 54 [.tmp 2] Tryz.func30 fun B=>?_
 refine qS ?_
 refine Wp.seqW fun K2 hK2 hW2=>?_
 obtain ⟨k_9,hk_9,hm⟩:=zl hm
 have hcut2:∀ s,k_9 s=some z→K2 [(0,.p (.s s_1))] []:=by
  intro s hs
  have hm:=hk_9 _ hs
  clear hs
  try dsimp only at hm
  try dsimp only
  refine hK2 _ _ ?_
  refine qS ?_
  refine Wp.ret ?_
  refine zc ?_
  cases hm
  exact zb5
 clear hK2 hk_9
 refine qS ?_
 refine Wp.block ?_
 obtain ⟨k_12,hk_12,hm⟩:=zQ hm
 refine Wp.fact 0 fun hl_15=>?_
 replace hl_15:s_1.length≤274877906944:=by
  simp only [go_sem,simprocAttr,List.length_map] at hl_15
  omega
 refine Wp.forL (fun i_14 s=>[(0,.p (.s s_1)),(7,.p (.i .i64 (s_1.length:Int))),(8,.p (.i .i64 (i_14:Int)))]) (fun i_14 s=>[]) ?_ hm ?_
 ·
  exact zb5
 clear hm
 intro i_14 s hii_14 hm
 try dsimp only at hm
 try dsimp only
 refine qS ?_
 refine Wp.seqW fun K6 hK6 hW6=>?_
 refine Wp.cond rfl ⟨⟩ (fun hc6=>?_) (fun hc6=>?_)
 rotate_left
 ·refine Wp.exit ?_
  have hm:=hk_12 _ (zae hm (zbd (by first | exact hc6 | simpa using hc6)))
  try dsimp only at hm
  refine hW2 _ _ _ _ ?_ (hcut2 () hm)
  exact zb5
 have hlt6:=zbc (by first | exact hc6 | simpa using hc6)
 have hw6:=zO hlt6 hl_15
 obtain ⟨c_16,nx_13,hxc_16,hyc_16,hnx_13,hm⟩:=zP hm hlt6
 clear hxc_16
 refine Wp.skip ?_
 simp only [zk]
 refine hK6 _ _ ?_
 refine Wp.seqW fun K7 hK7 hW7=>?_
 refine Wp.block ?_
 refine Wp.seqR fun K8 hK8=>?_
 simp only [go_sem,simprocAttr,hw6,hyc_16]
 refine kA hK8 ?_
 refine Wp.seqR fun K9 hK9=>?_
 simp only [go_sem,simprocAttr,hw6,hyc_16]
 refine kA hK9 ?_
 refine Wp.seqR fun K10 hK10=>?_
 simp only [go_sem,simprocAttr,hw6,hyc_16]
 refine kA hK10 ?_
 refine Wp.seqR fun K11 hK11=>?_
 simp only [go_sem,simprocAttr,hw6,hyc_16]
 refine kA hK11 ?_
 refine cM hm (fun hc12 hm=>?_) (fun hc12 hm=>?_)
 ·refine Wp.seqR fun K13 hK13=>?_
  simp only [go_sem,simprocAttr,hw6,hyc_16]
  refine kA hK13 ?_
  refine Wp.ret ?_
  refine zc ?_
  cases hm
  simp only [go_sem,simprocAttr,hw6,hyc_16]
  try exact se2
 ·refine Wp.skip ?_
  refine hK7 _ _ ?_
  refine Wp.region fun K14 hK14=>?_
  simp only [go_sem,simprocAttr,hw6,hyc_16]
  refine kA hK14 ?_
  simp only [zk,zi,↓reduceIte]
  refine ⟨(),hlt6,hnx_13 _ hm,?_⟩
  simp only [go_sem,simprocAttr,hw6,hyc_16]
  try exact se2
theorem ok_R_first (l_1:List Int) (z:Int) (hm:R_first l_1=some z):Does Tryz.prog 28 [.p (.l (List.map zaU l_1))] [] (fun r X=>r=.p (.i .i64 z)∧X=[]):=by
 unfold R_first at hm
 refine dW 0 15 [.tmp 2] Tryz.func28 fun B=>?_
 refine qS ?_
 refine Wp.seqW fun K2 hK2 hW2=>?_
 obtain ⟨k_9,hk_9,hm⟩:=zl hm
 have hcut2:∀ s,k_9 s=some z→K2 [] []:=by
  intro s hs
  have hm:=hk_9 _ hs
  clear hs
  try dsimp only at hm
  try dsimp only
  refine hK2 _ _ ?_
  refine qS ?_
  refine Wp.ret ?_
  refine zc ?_
  cases hm
  exact zb5
 clear hK2 hk_9
 refine qS ?_
 refine Wp.block ?_
 obtain ⟨k_12,hk_12,hm⟩:=zQ hm
 refine Wp.fact 5 fun hl_15=>?_
 replace hl_15:l_1.length≤274877906944:=by
  simp only [go_sem,simprocAttr,List.length_map] at hl_15
  omega
 refine Wp.forL (fun i_14 s=>[(5,.p (.l (List.map zaU l_1))),(6,.p (.i .i64 (l_1.length:Int))),(7,.p (.i .i64 (i_14:Int)))]) (fun i_14 s=>[]) ?_ hm ?_
 ·
  exact zb5
 clear hm
 intro i_14 s hii_14 hm
 try dsimp only at hm
 try dsimp only
 refine qS ?_
 refine Wp.seqW fun K6 hK6 hW6=>?_
 refine Wp.cond rfl ⟨⟩ (fun hc6=>?_) (fun hc6=>?_)
 rotate_left
 ·refine Wp.exit ?_
  have hm:=hk_12 _ (zae hm (zbd (by first | exact hc6 | simpa using hc6)))
  try dsimp only at hm
  refine hW2 _ _ _ _ ?_ (hcut2 () hm)
  exact zb5
 have hlt6:=zbc (by first | exact hc6 | simpa using hc6)
 have hw6:=zO hlt6 hl_15
 obtain ⟨e_16,nx_13,hxe_16,hye_16,hnx_13,hm⟩:=zP hm hlt6
 replace hxe_16:=hxe_16 zaU
 refine Wp.skip ?_
 simp only [zk]
 refine hK6 _ _ ?_
 refine Wp.seqW fun K7 hK7 hW7=>?_
 refine Wp.block ?_
 refine Wp.seqR fun K8 hK8=>?_
 simp only [go_sem,simprocAttr,hw6,hxe_16]
 refine kA hK8 ?_
 refine Wp.seqR fun K9 hK9=>?_
 simp only [go_sem,simprocAttr,hw6,hxe_16]
 refine kA hK9 ?_
 refine cM hm (fun hc10 hm=>?_) (fun hc10 hm=>?_)
 ·refine Wp.seqR fun K11 hK11=>?_
  simp only [go_sem,simprocAttr,hw6,hxe_16]
  refine kA hK11 ?_
  refine Wp.ret ?_
  refine zc ?_
  cases hm
  simp only [go_sem,simprocAttr,hw6,hxe_16]
  try exact se2
 ·refine Wp.skip ?_
  refine hK7 _ _ ?_
  refine Wp.region fun K12 hK12=>?_
  simp only [go_sem,simprocAttr,hw6,hxe_16]
  refine kA hK12 ?_
  simp only [zk,zi,↓reduceIte]
  refine ⟨(),hlt6,hnx_13 _ hm,?_⟩
  simp only [go_sem,simprocAttr,hw6,hxe_16]
  try exact se2
theorem ok_R_In (n_1:Int) (low_2:Int) (high_3:Int) (z:Bool) (hm:R_In n_1 low_2 high_3=some z):Does Tryz.prog 61 [.p (.i .i64 n_1),.p (.i .i64 low_2),.p (.i .i64 high_3)] [] (fun r X=>r=.p (.b z)∧X=[]):=by
 unfold R_In at hm
 refine dW 0 15 [.tmp 6] Tryz.func61 fun B=>?_
 refine qS ?_
 refine qS ?_
 refine Wp.ret ?_
 refine zc ?_
 cases hm
 exact zb5
theorem za3 (s_1:Str) (c_2:Int) (z:Int) (hm:zJ s_1 c_2=some z):Does Tryz.prog 159 [.p (.s s_1),.p (.i .u8 c_2)] [] (fun r X=>r=.p (.i .i64 z)∧X=[]):=by
 unfold zJ at hm
 refine dW 0 8 [.tmp 4] Tryz.func159 fun B=>?_
 refine qS ?_
 have hb_3:=ixByte_bd s_1 c_2
 refine Wp.seqR fun K2 hK2=>?_
 simp only [go_sem,simprocAttr]
 try refine ⟨sd,?_⟩
 refine Rg.callN (av:=?av3) (g:=true) (fun hg=>nv_182 s_1 c_2) si si si sg si ?cont3
 intro hv3
 simp only [go_sem,simprocAttr]
 refine kA hK2 ?_
 refine Wp.ret ?_
 refine zc ?_
 cases hm
 exact zb5
theorem zbw (s_1:Str) (substr_2:Str) (z:Int) (hm:zT s_1 substr_2=some z):Does Tryz.prog 119 [.p (.s s_1),.p (.s substr_2)] [] (fun r X=>r=.p (.i .i64 z)∧X=[]):=by
 unfold zT at hm
 refine dW 0 143 [.tmp 4] Tryz.func119 fun B=>?_
 refine qS ?_
 refine qS ?_
 refine Wp.seqW fun K3 hK3 hW3=>?_
 refine Wp.block ?_
 refine qS ?_
 refine cM hm (fun hc5 hm=>?_) (fun hc5 hm=>?_)
 ·refine qS ?_
  refine Wp.ret ?_
  refine zc ?_
  cases hm
  exact zb5
 ·refine qS ?_
  refine cM hm (fun hc8 hm=>?_) (fun hc8 hm=>?_)
  ·obtain ⟨c_3,hbc_3,hxc_3,hm⟩:=zab hm
   replace hxc_3:((substr_2.getD 0 0).toNat:Int)=c_3:=hxc_3
   obtain ⟨r_4,hr_4,hm⟩:=zb hm
   refine Wp.seqR fun K9 hK9=>?_
   simp only [go_sem,simprocAttr,hxc_3]
   try refine ⟨sd,?_⟩
   refine Rg.callX (av:=?av10) (g:=true) (fun hg=>za3 s_1 c_3 _ hr_4) (by simp only [go_sem,simprocAttr,hxc_3]; exact Is.mk) (by simp only [go_sem,simprocAttr,hxc_3]; exact Is.mk) (by simp only [go_sem,simprocAttr,hxc_3]; exact Is.mk) (by simp only [go_sem,simprocAttr,hxc_3]) (by simp only [go_sem,simprocAttr,hxc_3]; exact Is.mk) ?cont10
   intro hv10
   simp only [go_sem,simprocAttr,hxc_3]
   refine kA hK9 ?_
   refine Wp.ret ?_
   refine zc ?_
   cases hm
   simp only [go_sem,simprocAttr,hxc_3]
   try exact se2
  ·refine qS ?_
   refine cM hm (fun hc12 hm=>?_) (fun hc12 hm=>?_)
   ·refine qS ?_
    refine Wp.ret ?_
    refine zc ?_
    cases hm
    exact zb5
   ·cases hm
theorem zcb (s_1:Str) (substr_2:Str) (z:Int) (hm:za0 s_1 substr_2=some z):Does Tryz.prog 125 [.p (.s s_1),.p (.s substr_2)] [] (fun r X=>r=.p (.i .i64 z)∧X=[]):=by
 unfold za0 at hm
 refine dW 0 8 [.tmp 4] Tryz.func125 fun B=>?_
 refine qS ?_
 obtain ⟨r_3,hr_3,hm⟩:=zb hm
 refine Wp.seqR fun K2 hK2=>?_
 simp only [go_sem,simprocAttr]
 try refine ⟨sd,?_⟩
 refine Rg.callX (av:=?av3) (g:=true) (fun hg=>zbw s_1 substr_2 _ hr_3) si si si sg si ?cont3
 intro hv3
 simp only [go_sem,simprocAttr]
 refine kA hK2 ?_
 refine Wp.ret ?_
 refine zc ?_
 cases hm
 exact zb5
theorem ok_strings_Count (s_1:Str) (substr_2:Str) (z:Int) (hm:zcw s_1 substr_2=some z):Does Tryz.prog 131 [.p (.s s_1),.p (.s substr_2)] [] (fun r X=>r=.p (.i .i64 z)∧X=[]):=by
 unfold zcw at hm
 refine dW 0 34 [.tmp 4] Tryz.func131 fun B=>?_
 refine qS ?_
 refine Wp.seqW fun K2 hK2 hW2=>?_
 refine qS ?_
 refine cM hm (fun hc4 hm=>?_) (fun hc4 hm=>?_)
 ·cases hm
 ·refine Wp.skip ?_
  refine hK2 _ _ ?_
  refine Wp.seqW fun K5 hK5 hW5=>?_
  refine qS ?_
  refine cM hm (fun hc7 hm=>?_) (fun hc7 hm=>?_)
  ·obtain ⟨c_3,hbc_3,hxc_3,hm⟩:=zab hm
   replace hxc_3:((substr_2.getD 0 0).toNat:Int)=c_3:=hxc_3
   have hb_4:=cntByte_bd s_1 c_3
   refine Wp.seqR fun K8 hK8=>?_
   simp only [go_sem,simprocAttr,hxc_3]
   try refine ⟨sd,?_⟩
   refine Rg.callN (av:=?av9) (g:=true) (fun hg=>nv_170 s_1 c_3) (by simp only [go_sem,simprocAttr,hxc_3]; exact Is.mk) (by simp only [go_sem,simprocAttr,hxc_3]; exact Is.mk) (by simp only [go_sem,simprocAttr,hxc_3]; exact Is.mk) (by simp only [go_sem,simprocAttr,hxc_3]) (by simp only [go_sem,simprocAttr,hxc_3]; exact Is.mk) ?cont9
   intro hv9
   simp only [go_sem,simprocAttr,hxc_3]
   refine kA hK8 ?_
   refine Wp.ret ?_
   refine zc ?_
   cases hm
   simp only [go_sem,simprocAttr,hxc_3]
   try exact se2
  ·refine Wp.skip ?_
   refine hK5 _ _ ?_
   refine qS ?_
   refine Wp.block ?_
   obtain ⟨k_14,hk_14,hm⟩:=zF hm
   refine Wp.loopN (fun s=>[(0,.p (.s s.1)),(1,.p (.s substr_2)),(4,.p (.i .i64 0)),(5,.p (.i .i64 s.2))]) (fun s=>[]) ?_ hm ?_
   ·
    exact zb5
   clear hm
   intro s nx_15 hm
   obtain ⟨s_10,n_11⟩:=s
   try dsimp only at hm
   try dsimp only
   refine Wp.block ?_
   obtain ⟨r_16,hr_16,hm⟩:=zb hm
   refine Wp.seqR fun K11 hK11=>?_
   simp only [go_sem,simprocAttr]
   try refine ⟨sd,?_⟩
   refine Rg.callX (av:=?av12) (g:=true) (fun hg=>zcb s_10 substr_2 _ hr_16) si si si sg si ?cont12
   intro hv12
   simp only [go_sem,simprocAttr]
   refine kA hK11 ?_
   refine Wp.seqW fun K13 hK13 hW13=>?_
   refine qS ?_
   refine cM hm (fun hc15 hm=>?_) (fun hc15 hm=>?_)
   ·refine qS ?_
    refine Wp.ret ?_
    refine zc ?_
    cases hm
    exact zb5
   ·refine Wp.skip ?_
    refine hK13 _ _ ?_
    refine qS ?_
    obtain ⟨c_17,hm⟩:=zf hm
    refine Wp.region fun K18 hK18=>?_
    simp only [go_sem,simprocAttr]
    refine kA hK18 ?_
    simp only [zk,zi,↓reduceIte]
    refine ⟨(List.drop ((IntKind.i64.wrap (r_16+(substr_2.length:Int))).toNat) s_10,IntKind.i64.wrap (n_11+1)),hm,?_⟩
    exact zb5
theorem zdO (s_1:Str) (sep_2:Str) (sepSave_3:Int) (n_4:Int) (z:List Str) (hm:zat s_1 sep_2 sepSave_3 n_4=some z):Does Tryz.prog 100 [.p (.s s_1),.p (.s sep_2),.p (.i .i64 sepSave_3),.p (.i .i64 n_4)] [] (fun r X=>r=.p (.l (List.map ecS z))∧X=[]):=by
 unfold zat at hm
 refine dW 0 66 [.tmp 8] Tryz.func100 fun B=>?_
 refine qS ?_
 refine Wp.seqW fun K2 hK2 hW2=>?_
 refine qS ?_
 refine cM hm (fun hc4 hm=>?_) (fun hc4 hm=>?_)
 ·refine qS ?_
  refine Wp.ret ?_
  simp only [zk,zi]
  refine retQ_retE ?_
  cases hm
  exact zb5
 ·refine Wp.skip ?_
  refine hK2 _ _ ?_
  refine Wp.seqW fun K6 hK6 hW6=>?_
  refine qS ?_
  refine cM hm (fun hc8 hm=>?_) (fun hc8 hm=>?_)
  ·cases hm
  ·refine Wp.skip ?_
   refine hK6 _ _ ?_
   refine Wp.seqW fun K9 hK9 hW9=>?_
   obtain ⟨k_7,hk_7,hm⟩:=zl hm
   have hcut9:∀ s,k_7 s=some z→K9 [(0,.p (.s s_1)),(1,.p (.s sep_2)),(2,.p (.i .i64 sepSave_3)),(3,.p (.i .i64 s))] []:=by
    intro n_6 hs
    have hm:=hk_7 _ hs
    clear hs
    try dsimp only at hm
    try dsimp only
    refine hK9 _ _ ?_
    refine qS ?_
    obtain ⟨c_8,hm⟩:=zf hm
    refine Wp.seqR fun K11 hK11=>?_
    simp only [go_sem,simprocAttr]
    refine kA hK11 ?_
    refine qS ?_
    refine qS ?_
    refine Wp.seqW fun K14 hK14 hW14=>?_
    obtain ⟨k_31,hk_31,hm⟩:=zl hm
    have hcut14:∀ s,k_31 s=some z→K14 [(0,.p (.s s.1)),(9,.buf 0),(10,.p (.i .i64 s.2.1))] [.buf 9 1 (List.map ecS s.2.2)]:=by
     intro s hs
     have hm:=hk_31 _ hs
     clear hs
     obtain ⟨s_28,i_29,o0_30⟩:=s
     try dsimp only at hm
     try dsimp only
     refine hK14 _ _ ?_
     obtain ⟨c_32,hm⟩:=zf hm
     refine Wp.seqR fun K15 hK15=>?_
     simp only [go_sem,simprocAttr]
     refine kA hK15 ?_
     refine Wp.freeze 0 (by simp only [go_sem,simprocAttr]; exact Is.mk) (by first | (simp only [go_sem,simprocAttr]; done) | (simp only [go_sem,simprocAttr]; omega)) ?_
     simp only [go_sem,simprocAttr]
     obtain ⟨c_33,hm⟩:=zf hm
     refine Wp.seqR fun K16 hK16=>?_
     simp only [go_sem,simprocAttr]
     refine kA hK16 ?_
     refine Wp.ret ?_
     refine zc ?_
     cases hm
     exact zb5
    clear hK14 hk_31
    refine Wp.block ?_
    obtain ⟨k_47,hk_47,hm⟩:=zF hm
    refine Wp.loopN (fun s=>[(0,.p (.s s.1)),(1,.p (.s sep_2)),(2,.p (.i .i64 sepSave_3)),(3,.p (.i .i64 (IntKind.i64.wrap ((min n_6 (IntKind.i64.wrap ((s_1.length:Int)+1))) - 1)))),(9,.buf 0),(10,.p (.i .i64 s.2.1))]) (fun s=>[.buf 9 1 (List.map ecS s.2.2)]) ?_ hm ?_
    ·
     exact zb5
    clear hm
    intro s nx_48 hm
    obtain ⟨s_40,i_41,o0_42⟩:=s
    try dsimp only at hm
    try dsimp only
    refine Wp.seqW fun K17 hK17 hW17=>?_
    refine qS ?_
    refine cM hm (fun hc19 hm=>?_) (fun hc19 hm=>?_)
    ·refine Wp.skip ?_
     refine hK17 _ _ ?_
     refine Wp.block ?_
     obtain ⟨r_49,hr_49,hm⟩:=zb hm
     refine Wp.seqR fun K20 hK20=>?_
     simp only [go_sem,simprocAttr]
     try refine ⟨sd,?_⟩
     refine Rg.callX (av:=?av21) (g:=true) (fun hg=>zcb s_40 sep_2 _ hr_49) si si si sg si ?cont21
     intro hv21
     simp only [go_sem,simprocAttr]
     refine kA hK20 ?_
     refine Wp.seqW fun K22 hK22 hW22=>?_
     refine qS ?_
     refine cM hm (fun hc24 hm=>?_) (fun hc24 hm=>?_)
     ·refine Wp.exit ?_
      simp only [zk,zi,↓reduceIte]
      have hm:=hk_47 _ hm
      try dsimp only at hm
      refine hW14 _ _ _ _ ?_ (hcut14 (s_40,i_41,o0_42) hm)
      exact zb5
     ·refine Wp.skip ?_
      refine hK22 _ _ ?_
      obtain ⟨c_50,hm⟩:=zf hm
      obtain ⟨c_51,hm⟩:=zf hm
      refine Wp.seqR fun K25 hK25=>?_
      simp only [go_sem,simprocAttr]
      refine kA hK25 ?_
      obtain ⟨c_52,hm⟩:=zf hm
      refine Wp.seqR fun K26 hK26=>?_
      simp only [go_sem,simprocAttr]
      refine kA hK26 ?_
      refine qR ?_
      simp only [zk,zi,↓reduceIte]
      refine ⟨(List.drop ((IntKind.i64.wrap (r_49+(sep_2.length:Int))).toNat) s_40,IntKind.i64.wrap (i_41+1),List.set o0_42 i_41.toNat (List.take ((IntKind.i64.wrap (r_49+sepSave_3)).toNat) s_40)),hm,?_⟩
      exact zb5
    ·refine Wp.exit ?_
     simp only [zk,zi,↓reduceIte]
     have hm:=hk_47 _ hm
     try dsimp only at hm
     refine hW14 _ _ _ _ ?_ (hcut14 (s_40,i_41,o0_42) hm)
     exact zb5
   clear hK9 hk_7
   refine qS ?_
   refine cM hm (fun hc29 hm=>?_) (fun hc29 hm=>?_)
   ·obtain ⟨r_53,hr_53,hm⟩:=zb hm
    refine Wp.region fun K30 hK30=>?_
    simp only [go_sem,simprocAttr]
    try refine ⟨sd,?_⟩
    refine Rg.callX (av:=?av31) (g:=true) (fun hg=>ok_strings_Count s_1 sep_2 _ hr_53) si si si sg si ?cont31
    intro hv31
    simp only [go_sem,simprocAttr]
    refine kA hK30 ?_
    refine hW9 _ _ _ _ ?_ (hcut9 (IntKind.i64.wrap (r_53+1)) hm)
    exact zb5
   ·refine Wp.skip ?_
    refine hW9 _ _ _ _ ?_ (hcut9 n_4 hm)
    exact zb5
theorem zaj (s_1:Str) (sep_2:Str) (z:List Str) (hm:zad s_1 sep_2=some z):Does Tryz.prog 62 [.p (.s s_1),.p (.s sep_2)] [] (fun r X=>r=.p (.l (List.map ecS z))∧X=[]):=by
 unfold zad at hm
 refine dW 0 8 [.tmp 4] Tryz.func62 fun B=>?_
 refine qS ?_
 obtain ⟨r_3,hr_3,hm⟩:=zb hm
 refine Wp.seqR fun K2 hK2=>?_
 simp only [go_sem,simprocAttr]
 try refine ⟨sd,?_⟩
 refine Rg.callF (av:=?av3) (zdO s_1 sep_2 0 (-1) _ hr_3) si si sg ?cont3
 intro hv3
 simp only [go_sem,simprocAttr]
 refine kA hK2 ?_
 refine Wp.ret ?_
 refine zc ?_
 cases hm
 exact zb5
theorem ok_strings_Trim (s cut z:Str) (hm:strings_Trim s cut=some z):Does Tryz.prog 101 [.p (.s s),.p (.s cut)] [] (fun r X=>r=.p (.s z)∧X=[]):=by
 obtain ⟨⟨h1,h2⟩,h⟩:=zf hm
 cases h
 exact Does.trim Tryz.trimL (by kernel_rfl) ⟨_,Tryz.func101,by kernel_rfl,by kernel_rfl⟩ s cut (by omega) (fun c hc=>of_decide_eq_true (List.all_eq_true.1 h2 c hc))
theorem zbT (s_1:Str) (c_2:Int) (z:Int) (hm:zaz s_1 c_2=some z):Does Tryz.prog 139 [.p (.s s_1),.p (.i .u8 c_2)] [] (fun r X=>r=.p (.i .i64 z)∧X=[]):=by
 unfold zaz at hm
 refine dW 0 8 [.tmp 4] Tryz.func139 fun B=>?_
 refine qS ?_
 obtain ⟨r_3,hr_3,hm⟩:=zb hm
 refine Wp.seqR fun K2 hK2=>?_
 simp only [go_sem,simprocAttr]
 try refine ⟨sd,?_⟩
 refine Rg.callX (av:=?av3) (g:=true) (fun hg=>za3 s_1 c_2 _ hr_3) si si si sg si ?cont3
 intro hv3
 simp only [go_sem,simprocAttr]
 refine kA hK2 ?_
 refine Wp.ret ?_
 refine zc ?_
 cases hm
 exact zb5
theorem ok_R_inner (s_1:Str) (bytes_2:Str) (z:Bool) (hm:R_inner s_1 bytes_2=some z):Does Tryz.prog 102 [.p (.s s_1),.p (.s bytes_2)] [] (fun r X=>r=.p (.b z)∧X=[]):=by
 unfold R_inner at hm
 refine dW 0 18 [.tmp 4] Tryz.func102 fun B=>?_
 refine qS ?_
 refine Wp.seqW fun K2 hK2 hW2=>?_
 obtain ⟨k_12,hk_12,hm⟩:=zl hm
 have hcut2:∀ s,k_12 s=some z→K2 [] []:=by
  intro s hs
  have hm:=hk_12 _ hs
  clear hs
  try dsimp only at hm
  try dsimp only
  refine hK2 _ _ ?_
  refine qS ?_
  refine Wp.ret ?_
  refine zc ?_
  cases hm
  exact zb5
 clear hK2 hk_12
 refine qS ?_
 refine Wp.block ?_
 obtain ⟨k_16,hk_16,hm⟩:=zQ hm
 refine Wp.fact 0 fun hl_19=>?_
 replace hl_19:s_1.length≤274877906944:=by
  simp only [go_sem,simprocAttr,List.length_map] at hl_19
  omega
 refine Wp.forL (fun i_18 s=>[(0,.p (.s s_1)),(1,.p (.s bytes_2)),(7,.p (.i .i64 (s_1.length:Int))),(8,.p (.i .i64 (i_18:Int)))]) (fun i_18 s=>[]) ?_ hm ?_
 ·
  exact zb5
 clear hm
 intro i_18 s hii_18 hm
 try dsimp only at hm
 try dsimp only
 refine qS ?_
 refine Wp.seqW fun K6 hK6 hW6=>?_
 refine Wp.cond rfl ⟨⟩ (fun hc6=>?_) (fun hc6=>?_)
 rotate_left
 ·refine Wp.exit ?_
  have hm:=hk_16 _ (zae hm (zbd (by first | exact hc6 | simpa using hc6)))
  try dsimp only at hm
  refine hW2 _ _ _ _ ?_ (hcut2 () hm)
  exact zb5
 have hlt6:=zbc (by first | exact hc6 | simpa using hc6)
 have hw6:=zO hlt6 hl_19
 obtain ⟨c_20,nx_17,hxc_20,hyc_20,hnx_17,hm⟩:=zP hm hlt6
 clear hxc_20
 refine Wp.skip ?_
 simp only [zk]
 refine hK6 _ _ ?_
 refine Wp.seqW fun K7 hK7 hW7=>?_
 refine Wp.block ?_
 refine Wp.seqR fun K8 hK8=>?_
 simp only [go_sem,simprocAttr,hw6,hyc_20]
 refine kA hK8 ?_
 obtain ⟨r_21,hr_21,hm⟩:=zb hm
 refine Wp.seqR fun K9 hK9=>?_
 simp only [go_sem,simprocAttr,hw6,hyc_20]
 try refine ⟨sd,?_⟩
 refine Rg.callX (av:=?av10) (g:=true) (fun hg=>zbT bytes_2 (c_20.toNat:Int) _ hr_21) (by simp only [go_sem,simprocAttr,hw6,hyc_20]; exact Is.mk) (by simp only [go_sem,simprocAttr,hw6,hyc_20]; exact Is.mk) (by simp only [go_sem,simprocAttr,hw6,hyc_20]; exact Is.mk) (by simp only [go_sem,simprocAttr,hw6,hyc_20]) (by simp only [go_sem,simprocAttr,hw6,hyc_20]; exact Is.mk) ?cont10
 intro hv10
 simp only [go_sem,simprocAttr,hw6,hyc_20]
 refine kA hK9 ?_
 refine cM hm (fun hc11 hm=>?_) (fun hc11 hm=>?_)
 ·refine Wp.seqR fun K12 hK12=>?_
  simp only [go_sem,simprocAttr,hw6,hyc_20]
  refine kA hK12 ?_
  refine Wp.ret ?_
  refine zc ?_
  cases hm
  simp only [go_sem,simprocAttr,hw6,hyc_20]
  try exact se2
 ·refine Wp.skip ?_
  refine hK7 _ _ ?_
  refine Wp.region fun K13 hK13=>?_
  simp only [go_sem,simprocAttr,hw6,hyc_20]
  refine kA hK13 ?_
  simp only [zk,zi,↓reduceIte]
  refine ⟨(),hlt6,hnx_17 _ hm,?_⟩
  simp only [go_sem,simprocAttr,hw6,hyc_20]
  try exact se2
theorem ok_R_Of (s_1:Str) (bytes_2:Str) (z:Bool) (hm:R_Of s_1 bytes_2=some z):Does Tryz.prog 63 [.p (.s s_1),.p (.s bytes_2)] [] (fun r X=>r=.p (.b z)∧X=[]):=by
 unfold R_Of at hm
 refine dW 0 14 [.tmp 4] Tryz.func63 fun B=>?_
 refine qS ?_
 obtain ⟨r_3,hr_3,hm⟩:=zb hm
 obtain ⟨r_4,hr_4,hm⟩:=zR hm
 refine Wp.seqR fun K2 hK2=>?_
 simp only [go_sem,simprocAttr]
 try refine ⟨sd,?_⟩
 refine Rg.callX (av:=?av3) (g:=true) (fun hg=>ok_strings_Trim s_1 bytes_2 _ hr_3) si si si sg si ?cont3
 intro hv3
 simp only [go_sem,simprocAttr]
 try refine ⟨sd,?_⟩
 refine Rg.callX (av:=?av4) (g:=decide (r_3=[])) (fun hg=>ok_R_inner s_1 bytes_2 _ (hr_4 hg)) si si si sg si ?cont4
 intro hv4
 simp only [go_sem,simprocAttr]
 refine kA hK2 ?_
 refine Wp.ret ?_
 refine zc ?_
 cases hm
 exact zb5
theorem zbl (l_1:List api_Version) (z:Int) (hm:zbb l_1=some z):Does Tryz.prog 31 [.p (.l (List.map zt l_1))] [] (fun r X=>r=.p (.i .i64 z)∧X=[]):=by
 unfold zbb at hm
 refine dW 0 74 [.tmp 2] Tryz.func31 fun B=>?_
 refine qS ?_
 refine Wp.seqW fun K2 hK2 hW2=>?_
 obtain ⟨k_144,hk_144,hm⟩:=zl hm
 have hcut2:∀ s,k_144 s=some z→K2 [] []:=by
  intro s hs
  have hm:=hk_144 _ hs
  clear hs
  try dsimp only at hm
  try dsimp only
  refine hK2 _ _ ?_
  refine qS ?_
  refine Wp.ret ?_
  refine zc ?_
  cases hm
  exact zb5
 clear hK2 hk_144
 refine qS ?_
 refine Wp.block ?_
 obtain ⟨k_215,hk_215,hm⟩:=zQ hm
 refine Wp.fact 9 fun hl_218=>?_
 replace hl_218:l_1.length≤274877906944:=by
  simp only [go_sem,simprocAttr,List.length_map] at hl_218
  omega
 refine Wp.forL (fun i_217 s=>[(9,.p (.l (List.map zt l_1))),(10,.p (.i .i64 (l_1.length:Int))),(11,.p (.i .i64 (i_217:Int)))]) (fun i_217 s=>[]) ?_ hm ?_
 ·
  exact zb5
 clear hm
 intro i_217 s hii_217 hm
 try dsimp only at hm
 try dsimp only
 refine qS ?_
 refine Wp.seqW fun K6 hK6 hW6=>?_
 refine Wp.cond rfl ⟨⟩ (fun hc6=>?_) (fun hc6=>?_)
 rotate_left
 ·refine Wp.exit ?_
  have hm:=hk_215 _ (zae hm (zbd (by first | exact hc6 | simpa using hc6)))
  try dsimp only at hm
  refine hW2 _ _ _ _ ?_ (hcut2 () hm)
  exact zb5
 have hlt6:=zbc (by first | exact hc6 | simpa using hc6)
 have hw6:=zO hlt6 hl_218
 obtain ⟨v_219,nx_216,hxv_219,hyv_219,hnx_216,hm⟩:=zP hm hlt6
 replace hxv_219:=hxv_219 zt
 refine Wp.skip ?_
 simp only [zk]
 refine hK6 _ _ ?_
 refine Wp.seqW fun K7 hK7 hW7=>?_
 obtain ⟨k_253,hk_253,hm⟩:=zl hm
 have hcut7:∀ s,k_253 s=some z→K7 [(9,.p (.l (List.map zt l_1))),(10,.p (.i .i64 (l_1.length:Int))),(11,.p (.i .i64 (i_217:Int)))] []:=by
  intro s hs
  have hm:=hk_253 _ hs
  clear hs
  try dsimp only at hm
  try dsimp only
  refine hK7 _ _ ?_
  refine Wp.region fun K8 hK8=>?_
  simp only [go_sem,simprocAttr,hw6,hxv_219]
  refine kA hK8 ?_
  simp only [zk,zi,↓reduceIte]
  refine ⟨(),hlt6,hnx_216 _ hm,?_⟩
  simp only [go_sem,simprocAttr,hw6,hxv_219]
  try exact se2
 clear hK7 hk_253
 refine Wp.block ?_
 refine Wp.seqR fun K9 hK9=>?_
 simp only [go_sem,simprocAttr,hw6,hxv_219]
 refine kA hK9 ?_
 refine Wp.seqW fun K10 hK10 hW10=>?_
 obtain ⟨k_263,hk_263,hm⟩:=zl hm
 have hcut10:∀ s,k_263 s=some z→K10 [(4,.ptr 0 0),(9,.p (.l (List.map zt l_1))),(10,.p (.i .i64 (l_1.length:Int))),(11,.p (.i .i64 (i_217:Int)))] [.cells 27 [.p (.i .i64 v_219.Major),.p (.i .i64 v_219.Minor),.p (.i .i64 v_219.Patch),.p (.s v_219.Early)]]:=by
  intro s hs
  have hm:=hk_263 _ hs
  clear hs
  try dsimp only at hm
  try dsimp only
  refine hK10 _ _ ?_
  refine Wp.seqW fun K11 hK11 hW11=>?_
  refine Wp.seqR fun K12 hK12=>?_
  simp only [go_sem,simprocAttr,hw6,hxv_219]
  refine kA hK12 ?_
  refine cM hm (fun hc13 hm=>?_) (fun hc13 hm=>?_)
  ·refine Wp.exit ?_
   refine hW7 _ _ _ _ ?_ (hcut7 () hm)
   simp only [go_sem,simprocAttr,hw6,hxv_219]
   try exact se2
  ·refine Wp.skip ?_
   refine hK11 _ _ ?_
   refine Wp.seqW fun K14 hK14 hW14=>?_
   refine Wp.seqR fun K15 hK15=>?_
   simp only [go_sem,simprocAttr,hw6,hxv_219]
   refine kA hK15 ?_
   refine cM hm (fun hc16 hm=>?_) (fun hc16 hm=>?_)
   ·refine Wp.seqR fun K17 hK17=>?_
    simp only [go_sem,simprocAttr,hw6,hxv_219]
    refine kA hK17 ?_
    refine Wp.ret ?_
    refine zc ?_
    cases hm
    simp only [go_sem,simprocAttr,hw6,hxv_219]
    try exact se2
   ·refine Wp.skip ?_
    refine hK14 _ _ ?_
    obtain ⟨r_264,hr_264,hm⟩:=zb hm
    refine Wp.seqR fun K18 hK18=>?_
    simp only [go_sem,simprocAttr,hw6,hxv_219]
    try refine ⟨sd,?_⟩
    refine Rg.callF (av:=?av19) (zaj v_219.Early ([46]:Str) _ hr_264) (by simp only [go_sem,simprocAttr,hw6,hxv_219]; exact Is.mk) (by simp only [go_sem,simprocAttr,hw6,hxv_219]; exact Is.mk) (by simp only [go_sem,simprocAttr,hw6,hxv_219]) ?cont19
    intro hv19
    simp only [go_sem,simprocAttr,hw6,hxv_219]
    refine kA hK18 ?_
    refine Wp.block ?_
    obtain ⟨k_270,hk_270,hm⟩:=zQ hm
    refine Wp.fact 40 fun hl_273=>?_
    replace hl_273:r_264.length≤274877906944:=by
     simp only [go_sem,simprocAttr,List.length_map] at hl_273
     omega
    refine Wp.forL (fun i_272 s=>[(9,.p (.l (List.map zt l_1))),(10,.p (.i .i64 (l_1.length:Int))),(11,.p (.i .i64 (i_217:Int))),(40,.p (.l (List.map ecS r_264))),(41,.p (.i .i64 (r_264.length:Int))),(42,.p (.i .i64 (i_272:Int)))]) (fun i_272 s=>[.cells 27 [.p (.i .i64 v_219.Major),.p (.i .i64 v_219.Minor),.p (.i .i64 v_219.Patch),.p (.s v_219.Early)]]) ?_ hm ?_
    ·
     simp only [go_sem,simprocAttr,hw6,hxv_219]
     try exact se2
    clear hm
    intro i_272 s hii_272 hm
    try dsimp only at hm
    try dsimp only
    refine Wp.seqR fun K20 hK20=>?_
    simp only [go_sem,simprocAttr,hw6,hxv_219]
    refine kA hK20 ?_
    refine Wp.seqW fun K21 hK21 hW21=>?_
    refine Wp.cond rfl ⟨⟩ (fun hc21=>?_) (fun hc21=>?_)
    rotate_left
    ·refine Wp.exit ?_
     have hm:=hk_270 _ (zae hm (zbd (by first | exact hc21 | simpa using hc21)))
     try dsimp only at hm
     refine hW7 _ _ _ _ ?_ (hcut7 () hm)
     simp only [go_sem,simprocAttr,hw6,hxv_219]
     try exact se2
    have hlt21:=zbc (by first | exact hc21 | simpa using hc21)
    have hw21:=zO hlt21 hl_273
    obtain ⟨s_274,nx_271,hxs_274,hys_274,hnx_271,hm⟩:=zP hm hlt21
    replace hxs_274:=hxs_274 ecS
    refine Wp.skip ?_
    simp only [zk]
    refine hK21 _ _ ?_
    refine Wp.seqW fun K22 hK22 hW22=>?_
    refine Wp.block ?_
    refine Wp.seqR fun K23 hK23=>?_
    simp only [go_sem,simprocAttr,hw6,hxv_219,hw21,hxs_274]
    refine kA hK23 ?_
    obtain ⟨r_275,hr_275,hm⟩:=zR hm
    obtain ⟨r_276,hr_276,hm⟩:=zR hm
    obtain ⟨c_277,hm⟩:=zf hm
    refine Wp.seqR fun K24 hK24=>?_
    simp only [go_sem,simprocAttr,hw6,hxv_219,hw21,hxs_274]
    try refine ⟨sL,?_⟩
    refine Rg.callX (av:=?av25) (g:=!((decide (s_274=[])) || (decide (10 < (s_274.length:Int))))) (fun hg=>ok_R_Of s_274 ([97,98,99,100,101,102,103,104,105,106,107,108,109,110,111,112,113,114,115,116,117,118,119,120,121,122,48,49,50,51,52,53,54,55,56,57]:Str) _ (hr_275 hg)) (by simp only [go_sem,simprocAttr,hw6,hxv_219,hw21,hxs_274]; exact Is.mk) (by simp only [go_sem,simprocAttr,hw6,hxv_219,hw21,hxs_274]; exact Is.mk) (by simp only [go_sem,simprocAttr,hw6,hxv_219,hw21,hxs_274]; exact Is.mk) (by simp only [go_sem,simprocAttr,hw6,hxv_219,hw21,hxs_274]) (by simp only [go_sem,simprocAttr,hw6,hxv_219,hw21,hxs_274]; exact Is.mk) ?cont25
    intro hv25
    simp only [go_sem,simprocAttr,hw6,hxv_219,hw21,hxs_274]
    try refine ⟨sL,?_⟩
    refine Rg.callX (av:=?av26) (g:=!(((decide (s_274=[])) || (decide (10 < (s_274.length:Int)))) || (!r_275))) (fun hg=>ok_R_Of s_274 ([48,49,50,51,52,53,54,55,56,57]:Str) _ (hr_276 hg)) (by simp only [go_sem,simprocAttr,hw6,hxv_219,hw21,hxs_274]; exact Is.mk) (by simp only [go_sem,simprocAttr,hw6,hxv_219,hw21,hxs_274]; exact Is.mk) (by simp only [go_sem,simprocAttr,hw6,hxv_219,hw21,hxs_274]; exact Is.mk) (by simp only [go_sem,simprocAttr,hw6,hxv_219,hw21,hxs_274]) (by simp only [go_sem,simprocAttr,hw6,hxv_219,hw21,hxs_274]; exact Is.mk) ?cont26
    intro hv26
    simp only [go_sem,simprocAttr,hw6,hxv_219,hw21,hxs_274]
    refine kA hK24 ?_
    refine cM hm (fun hc27 hm=>?_) (fun hc27 hm=>?_)
    ·refine Wp.seqR fun K28 hK28=>?_
     simp only [go_sem,simprocAttr,hw6,hxv_219,hw21,hxs_274]
     refine kA hK28 ?_
     refine Wp.ret ?_
     refine zc ?_
     cases hm
     simp only [go_sem,simprocAttr,hw6,hxv_219,hw21,hxs_274]
     try exact se2
    ·refine Wp.skip ?_
     refine hK22 _ _ ?_
     refine Wp.region fun K29 hK29=>?_
     simp only [go_sem,simprocAttr,hw6,hxv_219,hw21,hxs_274]
     refine kA hK29 ?_
     simp only [zk,zi,↓reduceIte]
     refine ⟨(),hlt21,hnx_271 _ hm,?_⟩
     simp only [go_sem,simprocAttr,hw6,hxv_219,hw21,hxs_274]
     try exact se2
 clear hK10 hk_263
 refine Wp.seqR fun K30 hK30=>?_
 simp only [go_sem,simprocAttr,hw6,hxv_219]
 refine kA hK30 ?_
 refine Wp.block ?_
 obtain ⟨k_281,hk_281,hm⟩:=zQ hm
 refine Wp.fact 21 fun hl_284=>?_
 replace hl_284:[v_219.Major,v_219.Minor,v_219.Patch].length≤274877906944:=Nat.le_of_ble_eq_true rfl
 refine Wp.forL (fun i_283 s=>[(4,.ptr 0 0),(9,.p (.l (List.map zt l_1))),(10,.p (.i .i64 (l_1.length:Int))),(11,.p (.i .i64 (i_217:Int))),(21,.full (List.map zaU [v_219.Major,v_219.Minor,v_219.Patch])),(22,.p (.i .i64 ([v_219.Major,v_219.Minor,v_219.Patch].length:Int))),(23,.p (.i .i64 (i_283:Int)))]) (fun i_283 s=>[.cells 27 [.p (.i .i64 v_219.Major),.p (.i .i64 v_219.Minor),.p (.i .i64 v_219.Patch),.p (.s v_219.Early)]]) ?_ hm ?_
 ·
  simp only [go_sem,simprocAttr,hw6,hxv_219]
  try exact se2
 clear hm
 intro i_283 s hii_283 hm
 try dsimp only at hm
 try dsimp only
 refine Wp.seqR fun K31 hK31=>?_
 simp only [go_sem,simprocAttr,hw6,hxv_219]
 refine kA hK31 ?_
 refine Wp.seqW fun K32 hK32 hW32=>?_
 refine Wp.cond rfl ⟨⟩ (fun hc32=>?_) (fun hc32=>?_)
 rotate_left
 ·refine Wp.exit ?_
  have hm:=hk_281 _ (zae hm (zbd (by first | exact hc32 | simpa using hc32)))
  try dsimp only at hm
  refine hW10 _ _ _ _ ?_ (hcut10 () hm)
  simp only [go_sem,simprocAttr,hw6,hxv_219]
  try exact se2
 have hlt32:=zbc (by first | exact hc32 | simpa using hc32)
 have hw32:=zO hlt32 hl_284
 obtain ⟨n_285,nx_282,hxn_285,hyn_285,hnx_282,hm⟩:=zP hm hlt32
 replace hxn_285:=hxn_285 zaU
 simp only [List.map_cons,List.map_nil,zaU] at hxn_285
 refine Wp.skip ?_
 simp only [zk]
 refine hK32 _ _ ?_
 refine Wp.seqW fun K33 hK33 hW33=>?_
 refine Wp.block ?_
 refine Wp.seqR fun K34 hK34=>?_
 simp only [go_sem,simprocAttr,hw6,hxv_219,hw32,hxn_285]
 refine kA hK34 ?_
 obtain ⟨r_286,hr_286,hm⟩:=zb hm
 refine Wp.seqR fun K35 hK35=>?_
 simp only [go_sem,simprocAttr,hw6,hxv_219,hw32,hxn_285]
 try refine ⟨sd,?_⟩
 refine Rg.callX (av:=?av36) (g:=true) (fun hg=>ok_R_In n_285 0 999999 _ hr_286) (by simp only [go_sem,simprocAttr,hw6,hxv_219,hw32,hxn_285]; exact Is.mk) (by simp only [go_sem,simprocAttr,hw6,hxv_219,hw32,hxn_285]; exact Is.mk) (by simp only [go_sem,simprocAttr,hw6,hxv_219,hw32,hxn_285]; exact Is.mk) (by simp only [go_sem,simprocAttr,hw6,hxv_219,hw32,hxn_285]) (by simp only [go_sem,simprocAttr,hw6,hxv_219,hw32,hxn_285]; exact Is.mk) ?cont36
 intro hv36
 simp only [go_sem,simprocAttr,hw6,hxv_219,hw32,hxn_285]
 refine kA hK35 ?_
 refine cM hm (fun hc37 hm=>?_) (fun hc37 hm=>?_)
 ·refine Wp.seqR fun K38 hK38=>?_
  simp only [go_sem,simprocAttr,hw6,hxv_219,hw32,hxn_285]
  refine kA hK38 ?_
  refine Wp.ret ?_
  refine zc ?_
  cases hm
  simp only [go_sem,simprocAttr,hw6,hxv_219,hw32,hxn_285]
  try exact se2
 ·refine Wp.skip ?_
  refine hK33 _ _ ?_
  refine Wp.region fun K39 hK39=>?_
  simp only [go_sem,simprocAttr,hw6,hxv_219,hw32,hxn_285]
  refine kA hK39 ?_
  simp only [zk,zi,↓reduceIte]
  refine ⟨(),hlt32,hnx_282 _ hm,?_⟩
  simp only [go_sem,simprocAttr,hw6,hxv_219,hw32,hxn_285]
  try exact se2
theorem ok_cmp_isNaN_int (x_1:Int) (z:Bool) (hm:zcG x_1=some z):Does Tryz.prog 103 [.p (.i .i64 x_1)] [] (fun r X=>r=.p (.b z)∧X=[]):=by
 unfold zcG at hm
 refine dW 0 6 [.tmp 2] Tryz.func103 fun B=>?_
 refine qS ?_
 refine qS ?_
 refine Wp.ret ?_
 refine zc ?_
 cases hm
 exact zb5
theorem zN (x_1:Int) (y_2:Int) (z:Int) (hm:zI x_1 y_2=some z):Does Tryz.prog 65 [.p (.i .i64 x_1),.p (.i .i64 y_2)] [] (fun r X=>r=.p (.i .i64 z)∧X=[]):=by
 unfold zI at hm
 refine dW 0 20 [.tmp 4] Tryz.func65 fun B=>?_
 refine qS ?_
 obtain ⟨r_3,hr_3,hm⟩:=zb hm
 refine Wp.seqR fun K2 hK2=>?_
 simp only [go_sem,simprocAttr]
 try refine ⟨sd,?_⟩
 refine Rg.callX (av:=?av3) (g:=true) (fun hg=>ok_cmp_isNaN_int x_1 _ hr_3) si si si sg si ?cont3
 intro hv3
 simp only [go_sem,simprocAttr]
 refine kA hK2 ?_
 obtain ⟨r_4,hr_4,hm⟩:=zb hm
 refine Wp.seqR fun K4 hK4=>?_
 simp only [go_sem,simprocAttr]
 try refine ⟨sd,?_⟩
 refine Rg.callX (av:=?av5) (g:=true) (fun hg=>ok_cmp_isNaN_int y_2 _ hr_4) si si si sg si ?cont5
 intro hv5
 simp only [go_sem,simprocAttr]
 refine kA hK4 ?_
 refine Wp.seqW fun K6 hK6 hW6=>?_
 refine qS ?_
 refine cM hm (fun hc8 hm=>?_) (fun hc8 hm=>?_)
 ·refine Wp.seqW fun K9 hK9 hW9=>?_
  refine qS ?_
  refine cM hm (fun hc11 hm=>?_) (fun hc11 hm=>?_)
  ·refine qS ?_
   refine Wp.ret ?_
   refine zc ?_
   cases hm
   exact zb5
  ·refine Wp.skip ?_
   refine hK9 _ _ ?_
   refine qS ?_
   refine Wp.ret ?_
   refine zc ?_
   cases hm
   exact zb5
 ·refine Wp.skip ?_
  refine hK6 _ _ ?_
  refine Wp.seqW fun K14 hK14 hW14=>?_
  refine qS ?_
  refine cM hm (fun hc16 hm=>?_) (fun hc16 hm=>?_)
  ·refine qS ?_
   refine Wp.ret ?_
   refine zc ?_
   cases hm
   exact zb5
  ·refine Wp.skip ?_
   refine hK14 _ _ ?_
   refine Wp.seqW fun K18 hK18 hW18=>?_
   refine qS ?_
   refine cM hm (fun hc20 hm=>?_) (fun hc20 hm=>?_)
   ·refine qS ?_
    refine Wp.ret ?_
    refine zc ?_
    cases hm
    exact zb5
   ·refine Wp.skip ?_
    refine hK18 _ _ ?_
    refine Wp.seqW fun K22 hK22 hW22=>?_
    refine qS ?_
    refine cM hm (fun hc24 hm=>?_) (fun hc24 hm=>?_)
    ·refine qS ?_
     refine Wp.ret ?_
     refine zc ?_
     cases hm
     exact zb5
    ·refine Wp.skip ?_
     refine hK22 _ _ ?_
     refine qS ?_
     refine Wp.ret ?_
     refine zc ?_
     cases hm
     exact zb5
end Go.Proofs.YtmnohdgjkcjdeaaGreatDoor
