/- That the code does what the models say (part 3). -/
import Derived.Test.YtbofknpajcdnmaaGreatDoorDmWk0
import Derived.Test.YtbofknpajcdnmaaGreatDoorDmWk1
import Derived.Test.YtbofknpajcdnmaaGreatDoorDmWk2
set_option linter.unusedSimpArgs false
set_option linter.unusedVariables false
open Go.Proofs Go.Shelf
namespace Go.Proofs.YtbofknpajcdnmaaGreatDoor
open Go.Vc Go.Md
set_option maxRecDepth 100000
set_option maxHeartbeats 4000000
theorem ok_disk_above_i1 (path_1:Str) (m1_2:List (Str × Bool)) (z:Bool) (hm:disk_above_i1 path_1 m1_2=some z):Does Tryz.prog 139 [.p (.s path_1),.fn 140 [.ptr 0 0]] [.cells 107 [.mp 1],.mp false (encM Dt.s ecB m1_2)] (fun r X=>r=.p (.b z)∧X=[.cells 107 [.mp 1],.mp false (encM Dt.s ecB m1_2)]):=by
 unfold disk_above_i1 at hm
 refine dW 2 24 [.tmp 4] Tryz.func139 fun B=>?_
 refine qS ?_
 refine Wp.seqW fun K2 hK2 hW2=>?_
 obtain ⟨k_37,hk_37,hm⟩:=jp_elim hm
 have hcut2:∀ s,k_37 s=some z→K2 [] [.cells 107 [.mp 1],.mp false (encM Dt.s ecB m1_2)]:=by
  intro s hs
  have hm:=hk_37 _ hs
  clear hs
  try dsimp only at hm
  try dsimp only
  refine hK2 _ _ ?_
  refine qS ?_
  refine Wp.ret ?_
  refine retQ_ret ?_
  cases hm
  exact fse1
 clear hK2 hk_37
 refine qS ?_
 refine Wp.block ?_
 obtain ⟨k_42,hk_42,hm⟩:=forL_cont hm
 refine Wp.fact 0 fun hl_45=>?_
 replace hl_45:path_1.length≤274877906944:=by
  simp only [go_sem,simprocAttr,List.length_map] at hl_45
  omega
 refine Wp.forL (fun i_44 s=>[(0,.p (.s path_1)),(1,.fn 140 [.ptr 0 0]),(5,.p (.i .i64 (i_44:Int)))]) (fun i_44 s=>[.cells 107 [.mp 1],.mp false (encM Dt.s ecB m1_2)]) ?_ hm ?_
 ·
  exact fse1
 clear hm
 intro i_44 s hii_44 hm
 try dsimp only at hm
 try dsimp only
 refine Wp.seqW fun K5 hK5 hW5=>?_
 refine qS ?_
 refine Wp.cond rfl ⟨⟩ (fun hc5=>?_) (fun hc5=>?_)
 rotate_left
 ·refine Wp.exit ?_
  have hm:=hk_42 _ (forL_end hm (ge_nat (by first | exact hc5 | simpa using hc5)))
  try dsimp only at hm
  refine hW2 _ _ _ _ ?_ (hcut2 () hm)
  exact fse1
 have hlt5:=lt_nat (by first | exact hc5 | simpa using hc5)
 have hw5:=wrap_succ hlt5 hl_45
 obtain ⟨c_46,nx_43,hxc_46,hyc_46,hnx_43,hm⟩:=forL_step hm hlt5
 clear hxc_46
 refine Wp.skip ?_
 simp only [thenQ]
 refine hK5 _ _ ?_
 refine Wp.seqW fun K7 hK7 hW7=>?_
 refine Wp.block ?_
 obtain ⟨c_47,hm⟩:=chk_elim hm
 obtain ⟨r_48,hr_48,hm⟩:=callG_elim hm
 refine Wp.seqR fun K8 hK8=>?_
 simp only [go_sem,simprocAttr,hw5,hyc_46]
 try refine ⟨sL,?_⟩
 refine Rg.callR (av:=?av9) (g:=decide ((c_46.toNat:Int)=47)) [0,1] (fun hg=>ok_disk_Check_2_i1 (List.take i_44 path_1) m1_2 _ (hr_48 hg)) (by simp only [go_sem,simprocAttr,hw5,hyc_46]; exact Is.mk) (by simp only [go_sem,simprocAttr,hw5,hyc_46]; exact Is.mk) (by simp only [go_sem,simprocAttr,hw5,hyc_46]; exact Is.mk) (by simp only [go_sem,simprocAttr,hw5,hyc_46]; exact Is.mk) (by simp only [go_sem,simprocAttr,hw5,hyc_46]) (by simp only [go_sem,simprocAttr,hw5,hyc_46]) (by simp only [go_sem,simprocAttr,hw5,hyc_46]) ?cont9
 simp only [go_sem,simprocAttr,hw5,hyc_46]
 refine kA hK8 ?_
 refine cM hm (fun hc10 hm=>?_) (fun hc10 hm=>?_)
 ·refine Wp.seqR fun K11 hK11=>?_
  simp only [go_sem,simprocAttr,hw5,hyc_46]
  refine kA hK11 ?_
  refine Wp.ret ?_
  refine retQ_ret ?_
  cases hm
  simp only [go_sem,simprocAttr,hw5,hyc_46]
  try exact se1
 ·refine Wp.skip ?_
  refine hK7 _ _ ?_
  refine Wp.region fun K12 hK12=>?_
  simp only [go_sem,simprocAttr,hw5,hyc_46]
  refine kA hK12 ?_
  simp only [thenQ,blockQ,↓reduceIte]
  refine ⟨(),hlt5,hnx_43 _ hm,?_⟩
  simp only [go_sem,simprocAttr,hw5,hyc_46]
  try exact se1
theorem ok_disk_settingFault_i2 (s_1:api_Setting) (z:Int) (hm:disk_settingFault_i2 s_1=some z):Does Tryz.prog 136 [.agg [.p (.s s_1.Key),.p (.s s_1.Value)],.fn 142 []] [] (fun r X=>r=.p (.i .i64 z)∧X=[]):=by
 unfold disk_settingFault_i2 at hm
 refine dW 0 14 [.tmp 4] Tryz.func136 fun B=>?_
 refine qS ?_
 refine Wp.seqW fun K2 hK2 hW2=>?_
 obtain ⟨r_2,hr_2,hm⟩:=call_elim hm
 refine Wp.seqR fun K3 hK3=>?_
 simp only [go_sem,simprocAttr]
 try refine ⟨sd,?_⟩
 refine Rg.callX (av:=?av4) (g:=true) (fun hg=>ok_ver_IsPath s_1.Key _ hr_2) si si si sg si ?cont4
 intro hv4
 simp only [go_sem,simprocAttr]
 refine kA hK3 ?_
 refine cM hm (fun hc5 hm=>?_) (fun hc5 hm=>?_)
 ·refine qS ?_
  refine Wp.ret ?_
  refine retQ_ret ?_
  cases hm
  exact fse1
 ·refine Wp.skip ?_
  refine hK2 _ _ ?_
  refine Wp.seqW fun K7 hK7 hW7=>?_
  obtain ⟨r_3,hr_3,hm⟩:=call_elim hm
  refine Wp.seqR fun K8 hK8=>?_
  simp only [go_sem,simprocAttr]
  try refine ⟨sd,?_⟩
  refine Rg.callX (av:=?av9) (g:=true) (fun hg=>ok_ver_IsValue s_1.Value _ hr_3) si si si sg si ?cont9
  intro hv9
  simp only [go_sem,simprocAttr]
  refine kA hK8 ?_
  refine cM hm (fun hc10 hm=>?_) (fun hc10 hm=>?_)
  ·refine qS ?_
   refine Wp.ret ?_
   refine retQ_ret ?_
   cases hm
   exact fse1
  ·refine Wp.skip ?_
   refine hK7 _ _ ?_
   refine qS ?_
   refine Wp.ret ?_
   refine retQ_ret ?_
   cases hm
   exact fse1
theorem ok_disk_Check_3 (s_1:api_Setting) (z:Int) (hm:disk_Check_3 s_1=some z):Does Tryz.prog 141 [.agg [.p (.s s_1.Key),.p (.s s_1.Value)]] [] (fun r X=>r=.p (.i .i64 z)∧X=[]):=by
 unfold disk_Check_3 at hm
 refine dW 0 5 [.tmp 2] Tryz.func141 fun B=>?_
 refine qS ?_
 obtain ⟨r_2,hr_2,hm⟩:=call_elim hm
 refine Wp.seqR fun K2 hK2=>?_
 simp only [go_sem,simprocAttr]
 try refine ⟨sd,?_⟩
 refine Rg.callX (av:=?av3) (g:=true) (fun hg=>ok_disk_settingFault_i2 s_1 _ hr_2) si si si sg si ?cont3
 intro hv3
 simp only [go_sem,simprocAttr]
 refine kA hK2 ?_
 refine Wp.ret ?_
 refine retQ_ret ?_
 cases hm
 exact fse1
theorem ok_disk_eachFault_api_Setting_i2 (l_1:List api_Setting) (z:Int) (hm:disk_eachFault_api_Setting_i2 l_1=some z):Does Tryz.prog 134 [.p (.l (List.map enc_api_Setting l_1)),.fn 141 [],.fn 137 []] [] (fun r X=>r=.p (.i .i64 z)∧X=[]):=by
 unfold disk_eachFault_api_Setting_i2 at hm
 refine dW 0 39 [.tmp 6] Tryz.func134 fun B=>?_
 refine qS ?_
 refine Wp.seqW fun K2 hK2 hW2=>?_
 obtain ⟨k_19,hk_19,hm⟩:=jp_elim hm
 have hcut2:∀ s,k_19 s=some z→K2 [] []:=by
  intro s hs
  have hm:=hk_19 _ hs
  clear hs
  try dsimp only at hm
  try dsimp only
  refine hK2 _ _ ?_
  refine qS ?_
  refine Wp.ret ?_
  refine retQ_ret ?_
  cases hm
  exact fse1
 clear hK2 hk_19
 refine qS ?_
 refine Wp.block ?_
 obtain ⟨k_27,hk_27,hm⟩:=forL_cont hm
 refine Wp.fact 0 fun hl_30=>?_
 replace hl_30:l_1.length≤274877906944:=by
  simp only [go_sem,simprocAttr,List.length_map] at hl_30
  omega
 refine Wp.forL (fun i_29 s=>[(0,.p (.l (List.map enc_api_Setting l_1))),(1,.fn 141 []),(2,.fn 137 []),(10,.p (.l (List.map enc_api_Setting l_1))),(11,.p (.i .i64 (l_1.length:Int))),(12,.p (.i .i64 (i_29:Int)))]) (fun i_29 s=>[]) ?_ hm ?_
 ·
  exact fse1
 clear hm
 intro i_29 s hii_29 hm
 try dsimp only at hm
 try dsimp only
 refine qS ?_
 refine Wp.seqW fun K6 hK6 hW6=>?_
 refine Wp.cond rfl ⟨⟩ (fun hc6=>?_) (fun hc6=>?_)
 rotate_left
 ·refine Wp.exit ?_
  have hm:=hk_27 _ (forL_end hm (ge_nat (by first | exact hc6 | simpa using hc6)))
  try dsimp only at hm
  refine hW2 _ _ _ _ ?_ (hcut2 () hm)
  exact fse1
 have hlt6:=lt_nat (by first | exact hc6 | simpa using hc6)
 have hw6:=wrap_succ hlt6 hl_30
 obtain ⟨s_31,nx_28,hxs_31,hys_31,hnx_28,hm⟩:=forL_step hm hlt6
 replace hxs_31:=hxs_31 enc_api_Setting
 refine Wp.skip ?_
 simp only [thenQ]
 refine hK6 _ _ ?_
 refine Wp.seqW fun K7 hK7 hW7=>?_
 refine Wp.block ?_
 refine Wp.seqR fun K8 hK8=>?_
 simp only [go_sem,simprocAttr,hw6,hxs_31]
 refine kA hK8 ?_
 refine Wp.seqW fun K9 hK9 hW9=>?_
 obtain ⟨r_32,hr_32,hm⟩:=call_elim hm
 refine Wp.seqR fun K10 hK10=>?_
 simp only [go_sem,simprocAttr,hw6,hxs_31]
 try refine ⟨sd,?_⟩
 refine Rg.callX (av:=?av11) (g:=true) (fun hg=>ok_disk_Check_3 s_31 _ hr_32) (by simp only [go_sem,simprocAttr,hw6,hxs_31]; exact Is.mk) (by simp only [go_sem,simprocAttr,hw6,hxs_31]; exact Is.mk) (by simp only [go_sem,simprocAttr,hw6,hxs_31]; exact Is.mk) (by simp only [go_sem,simprocAttr,hw6,hxs_31]) (by simp only [go_sem,simprocAttr,hw6,hxs_31]; exact Is.mk) ?cont11
 intro hv11
 simp only [go_sem,simprocAttr,hw6,hxs_31]
 refine kA hK10 ?_
 refine Wp.seqR fun K12 hK12=>?_
 simp only [go_sem,simprocAttr,hw6,hxs_31]
 refine kA hK12 ?_
 refine cM hm (fun hc13 hm=>?_) (fun hc13 hm=>?_)
 ·refine Wp.seqR fun K14 hK14=>?_
  simp only [go_sem,simprocAttr,hw6,hxs_31]
  refine kA hK14 ?_
  refine Wp.ret ?_
  refine retQ_ret ?_
  cases hm
  simp only [go_sem,simprocAttr,hw6,hxs_31]
  try exact se1
 ·refine Wp.skip ?_
  refine hK9 _ _ ?_
  obtain ⟨r_33,hr_33,hm⟩:=callG_elim hm
  obtain ⟨c_34,hm⟩:=chk_elim hm
  obtain ⟨r_35,hr_35,hm⟩:=callG_elim hm
  have hr_36:=getD_enc (l:=l_1) (e:=enc_api_Setting) (d:=(api_Setting.mk [] [])) (i:=(IntKind.i64.wrap ((i_29:Int) - 1)).toNat)
  simp only [enc_api_Setting,List.map_nil] at hr_36
  refine Wp.seqD (plan:=pl [(0,none),(1,none),(2,none),(3,none),(4,none),(5,none),(6,none),(7,none),(8,none),(9,none),(10,none),(11,none),(12,none),(13,none),(14,none)]) (by kernel_rfl) rfl (by kernel_rfl) fun K15 hK15=>?_
  simp only [go_sem,simprocAttr,hw6,hxs_31,hr_36]
  try refine ⟨sL,?_⟩
  refine Dr.callF (av:=?av16) (g:=decide (0 < (i_29:Int))) (o:=?o16) (fun hg=>ok_disk_keyOf s_31 _ (hr_33 hg)) (by simp only [go_sem,simprocAttr,hw6,hxs_31,hr_36]; exact Is.mk) (by simp only [go_sem,simprocAttr,hw6,hxs_31,hr_36]; exact Is.mk) (by simp only [go_sem,simprocAttr,hw6,hxs_31,hr_36]; exact Is.mk) (by simp only [go_sem,simprocAttr,hw6,hxs_31,hr_36]; exact Is.mk) (by simp only [go_sem,simprocAttr,hw6,hxs_31,hr_36]) (by simp only [go_sem,simprocAttr,hw6,hxs_31,hr_36]; exact Is.mk) ?cont16
  simp only [go_sem,simprocAttr,hw6,hxs_31,hr_36]
  try refine ⟨sL,?_⟩
  refine Dr.callF (av:=?av17) (g:=decide (0 < (i_29:Int))) (o:=?o17) (fun hg=>ok_disk_keyOf (api_Setting.mk ((l_1.getD ((IntKind.i64.wrap ((i_29:Int) - 1)).toNat) (api_Setting.mk [] [])).Key) ((l_1.getD ((IntKind.i64.wrap ((i_29:Int) - 1)).toNat) (api_Setting.mk [] [])).Value)) _ (hr_35 hg)) (by simp only [go_sem,simprocAttr,hw6,hxs_31,hr_36]; exact Is.mk) (by simp only [go_sem,simprocAttr,hw6,hxs_31,hr_36]; exact Is.mk) (by simp only [go_sem,simprocAttr,hw6,hxs_31,hr_36]; exact Is.mk) (by simp only [go_sem,simprocAttr,hw6,hxs_31,hr_36]; exact Is.mk) (by simp only [go_sem,simprocAttr,hw6,hxs_31,hr_36]) (by simp only [go_sem,simprocAttr,hw6,hxs_31,hr_36]; exact Is.mk) ?cont17
  simp only [go_sem,simprocAttr,hw6,hxs_31,hr_36]
  refine kA hK15 ?_
  refine cM hm (fun hc18 hm=>?_) (fun hc18 hm=>?_)
  ·refine Wp.seqR fun K19 hK19=>?_
   simp only [go_sem,simprocAttr,hw6,hxs_31]
   refine kA hK19 ?_
   refine Wp.ret ?_
   refine retQ_ret ?_
   cases hm
   simp only [go_sem,simprocAttr,hw6,hxs_31]
   try exact se1
  ·refine Wp.skip ?_
   refine hK7 _ _ ?_
   refine Wp.region fun K20 hK20=>?_
   simp only [go_sem,simprocAttr,hw6,hxs_31]
   refine kA hK20 ?_
   simp only [thenQ,blockQ,↓reduceIte]
   refine ⟨(),hlt6,hnx_28 _ hm,?_⟩
   simp only [go_sem,simprocAttr,hw6,hxs_31]
   try exact se1
theorem ok_disk_serviceFault (s_1:api_Service) (z:Int) (hm:disk_serviceFault s_1=some z):Does Tryz.prog 144 [.agg [.p (.s s_1.Name),.p (.s s_1.Path),.p (.b s_1.Auto),.p (.b s_1.On)]] [] (fun r X=>r=.p (.i .i64 z)∧X=[]):=by
 unfold disk_serviceFault at hm
 refine dW 0 13 [.tmp 2] Tryz.func144 fun B=>?_
 refine qS ?_
 refine Wp.seqW fun K2 hK2 hW2=>?_
 obtain ⟨r_2,hr_2,hm⟩:=call_elim hm
 obtain ⟨r_3,hr_3,hm⟩:=callG_elim hm
 refine Wp.seqR fun K3 hK3=>?_
 simp only [go_sem,simprocAttr]
 try refine ⟨sd,?_⟩
 refine Rg.callX (av:=?av4) (g:=true) (fun hg=>ok_ver_IsName s_1.Name _ hr_2) si si si sg si ?cont4
 intro hv4
 simp only [go_sem,simprocAttr]
 try refine ⟨sd,?_⟩
 refine Rg.callX (av:=?av5) (g:=!(!r_2)) (fun hg=>ok_ver_IsPath s_1.Path _ (hr_3 hg)) si si si sg si ?cont5
 intro hv5
 simp only [go_sem,simprocAttr]
 refine kA hK3 ?_
 refine cM hm (fun hc6 hm=>?_) (fun hc6 hm=>?_)
 ·refine qS ?_
  refine Wp.ret ?_
  refine retQ_ret ?_
  cases hm
  exact fse1
 ·refine Wp.skip ?_
  refine hK2 _ _ ?_
  refine qS ?_
  refine Wp.ret ?_
  refine retQ_ret ?_
  cases hm
  exact fse1
theorem ok_disk_nameOf (s_1:api_Service) (z:Str) (hm:disk_nameOf s_1=some z):Does Tryz.prog 145 [.agg [.p (.s s_1.Name),.p (.s s_1.Path),.p (.b s_1.Auto),.p (.b s_1.On)]] [] (fun r X=>r=.p (.s z)∧X=[]):=by
 unfold disk_nameOf at hm
 refine dW 0 5 [.tmp 2] Tryz.func145 fun B=>?_
 refine qS ?_
 refine qS ?_
 refine Wp.ret ?_
 refine retQ_ret ?_
 cases hm
 exact fse1
theorem ok_disk_eachFault_api_Service_i1 (l_1:List api_Service) (z:Int) (hm:disk_eachFault_api_Service_i1 l_1=some z):Does Tryz.prog 143 [.p (.l (List.map enc_api_Service l_1)),.fn 144 [],.fn 145 []] [] (fun r X=>r=.p (.i .i64 z)∧X=[]):=by
 unfold disk_eachFault_api_Service_i1 at hm
 refine dW 0 39 [.tmp 6] Tryz.func143 fun B=>?_
 refine qS ?_
 refine Wp.seqW fun K2 hK2 hW2=>?_
 obtain ⟨k_19,hk_19,hm⟩:=jp_elim hm
 have hcut2:∀ s,k_19 s=some z→K2 [] []:=by
  intro s hs
  have hm:=hk_19 _ hs
  clear hs
  try dsimp only at hm
  try dsimp only
  refine hK2 _ _ ?_
  refine qS ?_
  refine Wp.ret ?_
  refine retQ_ret ?_
  cases hm
  exact fse1
 clear hK2 hk_19
 refine qS ?_
 refine Wp.block ?_
 obtain ⟨k_27,hk_27,hm⟩:=forL_cont hm
 refine Wp.fact 0 fun hl_30=>?_
 replace hl_30:l_1.length≤274877906944:=by
  simp only [go_sem,simprocAttr,List.length_map] at hl_30
  omega
 refine Wp.forL (fun i_29 s=>[(0,.p (.l (List.map enc_api_Service l_1))),(1,.fn 144 []),(2,.fn 145 []),(10,.p (.l (List.map enc_api_Service l_1))),(11,.p (.i .i64 (l_1.length:Int))),(12,.p (.i .i64 (i_29:Int)))]) (fun i_29 s=>[]) ?_ hm ?_
 ·
  exact fse1
 clear hm
 intro i_29 s hii_29 hm
 try dsimp only at hm
 try dsimp only
 refine qS ?_
 refine Wp.seqW fun K6 hK6 hW6=>?_
 refine Wp.cond rfl ⟨⟩ (fun hc6=>?_) (fun hc6=>?_)
 rotate_left
 ·refine Wp.exit ?_
  have hm:=hk_27 _ (forL_end hm (ge_nat (by first | exact hc6 | simpa using hc6)))
  try dsimp only at hm
  refine hW2 _ _ _ _ ?_ (hcut2 () hm)
  exact fse1
 have hlt6:=lt_nat (by first | exact hc6 | simpa using hc6)
 have hw6:=wrap_succ hlt6 hl_30
 obtain ⟨s_31,nx_28,hxs_31,hys_31,hnx_28,hm⟩:=forL_step hm hlt6
 replace hxs_31:=hxs_31 enc_api_Service
 refine Wp.skip ?_
 simp only [thenQ]
 refine hK6 _ _ ?_
 refine Wp.seqW fun K7 hK7 hW7=>?_
 refine Wp.block ?_
 refine Wp.seqR fun K8 hK8=>?_
 simp only [go_sem,simprocAttr,hw6,hxs_31]
 refine kA hK8 ?_
 refine Wp.seqW fun K9 hK9 hW9=>?_
 obtain ⟨r_32,hr_32,hm⟩:=call_elim hm
 refine Wp.seqR fun K10 hK10=>?_
 simp only [go_sem,simprocAttr,hw6,hxs_31]
 try refine ⟨sd,?_⟩
 refine Rg.callX (av:=?av11) (g:=true) (fun hg=>ok_disk_serviceFault s_31 _ hr_32) (by simp only [go_sem,simprocAttr,hw6,hxs_31]; exact Is.mk) (by simp only [go_sem,simprocAttr,hw6,hxs_31]; exact Is.mk) (by simp only [go_sem,simprocAttr,hw6,hxs_31]; exact Is.mk) (by simp only [go_sem,simprocAttr,hw6,hxs_31]) (by simp only [go_sem,simprocAttr,hw6,hxs_31]; exact Is.mk) ?cont11
 intro hv11
 simp only [go_sem,simprocAttr,hw6,hxs_31]
 refine kA hK10 ?_
 refine Wp.seqR fun K12 hK12=>?_
 simp only [go_sem,simprocAttr,hw6,hxs_31]
 refine kA hK12 ?_
 refine cM hm (fun hc13 hm=>?_) (fun hc13 hm=>?_)
 ·refine Wp.seqR fun K14 hK14=>?_
  simp only [go_sem,simprocAttr,hw6,hxs_31]
  refine kA hK14 ?_
  refine Wp.ret ?_
  refine retQ_ret ?_
  cases hm
  simp only [go_sem,simprocAttr,hw6,hxs_31]
  try exact se1
 ·refine Wp.skip ?_
  refine hK9 _ _ ?_
  obtain ⟨r_33,hr_33,hm⟩:=callG_elim hm
  obtain ⟨c_34,hm⟩:=chk_elim hm
  obtain ⟨r_35,hr_35,hm⟩:=callG_elim hm
  have hr_36:=getD_enc (l:=l_1) (e:=enc_api_Service) (d:=(api_Service.mk [] [] false false)) (i:=(IntKind.i64.wrap ((i_29:Int) - 1)).toNat)
  simp only [enc_api_Service,List.map_nil] at hr_36
  refine Wp.seqD (plan:=pl [(0,none),(1,none),(2,none),(3,none),(4,none),(5,none),(6,none),(7,none),(8,none),(9,none),(10,none),(11,none),(12,none),(13,none),(14,none)]) (by kernel_rfl) rfl (by kernel_rfl) fun K15 hK15=>?_
  simp only [go_sem,simprocAttr,hw6,hxs_31,hr_36]
  try refine ⟨sL,?_⟩
  refine Dr.callF (av:=?av16) (g:=decide (0 < (i_29:Int))) (o:=?o16) (fun hg=>ok_disk_nameOf s_31 _ (hr_33 hg)) (by simp only [go_sem,simprocAttr,hw6,hxs_31,hr_36]; exact Is.mk) (by simp only [go_sem,simprocAttr,hw6,hxs_31,hr_36]; exact Is.mk) (by simp only [go_sem,simprocAttr,hw6,hxs_31,hr_36]; exact Is.mk) (by simp only [go_sem,simprocAttr,hw6,hxs_31,hr_36]; exact Is.mk) (by simp only [go_sem,simprocAttr,hw6,hxs_31,hr_36]) (by simp only [go_sem,simprocAttr,hw6,hxs_31,hr_36]; exact Is.mk) ?cont16
  simp only [go_sem,simprocAttr,hw6,hxs_31,hr_36]
  try refine ⟨sL,?_⟩
  refine Dr.callF (av:=?av17) (g:=decide (0 < (i_29:Int))) (o:=?o17) (fun hg=>ok_disk_nameOf (api_Service.mk ((l_1.getD ((IntKind.i64.wrap ((i_29:Int) - 1)).toNat) (api_Service.mk [] [] false false)).Name) ((l_1.getD ((IntKind.i64.wrap ((i_29:Int) - 1)).toNat) (api_Service.mk [] [] false false)).Path) ((l_1.getD ((IntKind.i64.wrap ((i_29:Int) - 1)).toNat) (api_Service.mk [] [] false false)).Auto) ((l_1.getD ((IntKind.i64.wrap ((i_29:Int) - 1)).toNat) (api_Service.mk [] [] false false)).On)) _ (hr_35 hg)) (by simp only [go_sem,simprocAttr,hw6,hxs_31,hr_36]; exact Is.mk) (by simp only [go_sem,simprocAttr,hw6,hxs_31,hr_36]; exact Is.mk) (by simp only [go_sem,simprocAttr,hw6,hxs_31,hr_36]; exact Is.mk) (by simp only [go_sem,simprocAttr,hw6,hxs_31,hr_36]; exact Is.mk) (by simp only [go_sem,simprocAttr,hw6,hxs_31,hr_36]) (by simp only [go_sem,simprocAttr,hw6,hxs_31,hr_36]; exact Is.mk) ?cont17
  simp only [go_sem,simprocAttr,hw6,hxs_31,hr_36]
  refine kA hK15 ?_
  refine cM hm (fun hc18 hm=>?_) (fun hc18 hm=>?_)
  ·refine Wp.seqR fun K19 hK19=>?_
   simp only [go_sem,simprocAttr,hw6,hxs_31]
   refine kA hK19 ?_
   refine Wp.ret ?_
   refine retQ_ret ?_
   cases hm
   simp only [go_sem,simprocAttr,hw6,hxs_31]
   try exact se1
  ·refine Wp.skip ?_
   refine hK7 _ _ ?_
   refine Wp.region fun K20 hK20=>?_
   simp only [go_sem,simprocAttr,hw6,hxs_31]
   refine kA hK20 ?_
   simp only [thenQ,blockQ,↓reduceIte]
   refine ⟨(),hlt6,hnx_28 _ hm,?_⟩
   simp only [go_sem,simprocAttr,hw6,hxs_31]
   try exact se1
theorem ok_disk_Check (m_1:api_Machine) (z:Int) (hm:disk_Check m_1=some z):Does Tryz.prog 65 [.agg [.p (.l (List.map enc_api_Setting m_1.Facts)),.p (.l (List.map enc_api_File m_1.Files)),.p (.l (List.map enc_api_Setting m_1.Settings)),.p (.l (List.map enc_api_Service m_1.Services))]] [] (fun r X=>r=.p (.i .i64 z)∧X=[]):=by
 unfold disk_Check at hm
 refine dW 0 80 [.tmp 2] Tryz.func65 fun B=>?_
 refine qS ?_
 refine Wp.seqW fun K2 hK2 hW2=>?_
 refine qS ?_
 refine cM hm (fun hc4 hm=>?_) (fun hc4 hm=>?_)
 ·refine qS ?_
  refine Wp.ret ?_
  refine retQ_ret ?_
  cases hm
  exact fse1
 ·refine Wp.skip ?_
  refine hK2 _ _ ?_
  refine Wp.seqW fun K6 hK6 hW6=>?_
  obtain ⟨r_2,hr_2,hm⟩:=call_elim hm
  refine Wp.seqR fun K7 hK7=>?_
  simp only [go_sem,simprocAttr]
  try refine ⟨sd,?_⟩
  refine Rg.callX (av:=?av8) (g:=true) (fun hg=>ok_disk_eachFault_api_Setting_i1 m_1.Facts _ hr_2) si si si sg si ?cont8
  intro hv8
  simp only [go_sem,simprocAttr]
  refine kA hK7 ?_
  refine qS ?_
  refine cM hm (fun hc10 hm=>?_) (fun hc10 hm=>?_)
  ·refine qS ?_
   refine Wp.ret ?_
   refine retQ_ret ?_
   cases hm
   exact fse1
  ·refine Wp.skip ?_
   refine hK6 _ _ ?_
   refine qS ?_
   refine qS ?_
   refine Wp.seqW fun K14 hK14 hW14=>?_
   obtain ⟨k_27,hk_27,hm⟩:=jp_elim hm
   have hcut14:∀ s,k_27 s=some z→K14 [(1,.ptr 0 0)] [.cells 26 [.p (.l (List.map enc_api_Setting m_1.Facts)),.p (.l (List.map enc_api_File m_1.Files)),.p (.l (List.map enc_api_Setting m_1.Settings)),.p (.l (List.map enc_api_Service m_1.Services))]]:=by
    intro s hs
    have hm:=hk_27 _ hs
    clear hs
    try dsimp only at hm
    try dsimp only
    refine hK14 _ _ ?_
    refine Wp.seqW fun K15 hK15 hW15=>?_
    obtain ⟨r_28,hr_28,hm⟩:=call_elim hm
    refine Wp.seqR fun K16 hK16=>?_
    simp only [go_sem,simprocAttr]
    try refine ⟨sd,?_⟩
    refine Rg.callX (av:=?av17) (g:=true) (fun hg=>ok_disk_eachFault_api_Setting_i2 m_1.Settings _ hr_28) si si si sg si ?cont17
    intro hv17
    simp only [go_sem,simprocAttr]
    refine kA hK16 ?_
    refine qS ?_
    refine cM hm (fun hc19 hm=>?_) (fun hc19 hm=>?_)
    ·refine qS ?_
     refine Wp.ret ?_
     refine retQ_ret ?_
     cases hm
     exact fse1
    ·refine Wp.skip ?_
     refine hK15 _ _ ?_
     obtain ⟨r_29,hr_29,hm⟩:=call_elim hm
     refine Wp.seqR fun K21 hK21=>?_
     simp only [go_sem,simprocAttr]
     try refine ⟨sd,?_⟩
     refine Rg.callX (av:=?av22) (g:=true) (fun hg=>ok_disk_eachFault_api_Service_i1 m_1.Services _ hr_29) si si si sg si ?cont22
     intro hv22
     simp only [go_sem,simprocAttr]
     refine kA hK21 ?_
     refine Wp.ret ?_
     refine retQ_ret ?_
     cases hm
     exact fse1
   clear hK14 hk_27
   refine qS ?_
   refine Wp.block ?_
   obtain ⟨k_45,hk_45,hm⟩:=forL_cont hm
   refine Wp.fact 40 fun hl_48=>?_
   replace hl_48:m_1.Files.length≤274877906944:=by
    simp only [go_sem,simprocAttr,List.length_map] at hl_48
    omega
   refine Wp.forL (fun i_47 s=>[(1,.ptr 0 0),(4,.p (.s s.1)),(5,.ptr 2 0),(40,.p (.l (List.map enc_api_File m_1.Files))),(41,.p (.i .i64 (m_1.Files.length:Int))),(42,.p (.i .i64 (i_47:Int)))]) (fun i_47 s=>[.cells 26 [.p (.l (List.map enc_api_Setting m_1.Facts)),.p (.l (List.map enc_api_File m_1.Files)),.p (.l (List.map enc_api_Setting m_1.Settings)),.p (.l (List.map enc_api_Service m_1.Services))],.mp false (encM Dt.s ecB s.2),.cells 107 [.mp 1]]) ?_ hm ?_
   ·
    exact fse1
   clear hm
   intro i_47 s hii_47 hm
   obtain ⟨before_37,m1_39⟩:=s
   try dsimp only at hm
   try dsimp only
   refine qS ?_
   refine Wp.seqW fun K25 hK25 hW25=>?_
   refine Wp.cond rfl ⟨⟩ (fun hc25=>?_) (fun hc25=>?_)
   rotate_left
   ·refine Wp.exit ?_
    have hm:=hk_45 _ (forL_end hm (ge_nat (by first | exact hc25 | simpa using hc25)))
    try dsimp only at hm
    refine hW14 _ _ _ _ ?_ (hcut14 () hm)
    exact fse1
   have hlt25:=lt_nat (by first | exact hc25 | simpa using hc25)
   have hw25:=wrap_succ hlt25 hl_48
   obtain ⟨f_49,nx_46,hxf_49,hyf_49,hnx_46,hm⟩:=forL_step hm hlt25
   replace hxf_49:=hxf_49 enc_api_File
   refine Wp.skip ?_
   simp only [thenQ]
   refine hK25 _ _ ?_
   refine Wp.seqW fun K26 hK26 hW26=>?_
   refine Wp.block ?_
   refine Wp.seqR fun K27 hK27=>?_
   simp only [go_sem,simprocAttr,hw25,hxf_49]
   refine kA hK27 ?_
   refine Wp.seqW fun K28 hK28 hW28=>?_
   obtain ⟨r_50,hr_50,hm⟩:=call_elim hm
   refine Wp.seqR fun K29 hK29=>?_
   simp only [go_sem,simprocAttr,hw25,hxf_49]
   try refine ⟨sd,?_⟩
   refine Rg.callX (av:=?av30) (g:=true) (fun hg=>ok_disk_fileFault f_49 _ hr_50) (by simp only [go_sem,simprocAttr,hw25,hxf_49]; exact Is.mk) (by simp only [go_sem,simprocAttr,hw25,hxf_49]; exact Is.mk) (by simp only [go_sem,simprocAttr,hw25,hxf_49]; exact Is.mk) (by simp only [go_sem,simprocAttr,hw25,hxf_49]) (by simp only [go_sem,simprocAttr,hw25,hxf_49]; exact Is.mk) ?cont30
   intro hv30
   simp only [go_sem,simprocAttr,hw25,hxf_49]
   refine kA hK29 ?_
   refine Wp.seqR fun K31 hK31=>?_
   simp only [go_sem,simprocAttr,hw25,hxf_49]
   refine kA hK31 ?_
   refine cM hm (fun hc32 hm=>?_) (fun hc32 hm=>?_)
   ·refine Wp.seqR fun K33 hK33=>?_
    simp only [go_sem,simprocAttr,hw25,hxf_49]
    refine kA hK33 ?_
    refine Wp.ret ?_
    refine retQ_ret ?_
    cases hm
    simp only [go_sem,simprocAttr,hw25,hxf_49]
    try exact se1
   ·refine Wp.skip ?_
    refine hK28 _ _ ?_
    refine Wp.seqW fun K34 hK34 hW34=>?_
    refine Wp.seqR fun K35 hK35=>?_
    simp only [go_sem,simprocAttr,hw25,hxf_49]
    refine kA hK35 ?_
    refine cM hm (fun hc36 hm=>?_) (fun hc36 hm=>?_)
    ·refine Wp.seqR fun K37 hK37=>?_
     simp only [go_sem,simprocAttr,hw25,hxf_49]
     refine kA hK37 ?_
     refine Wp.ret ?_
     refine retQ_ret ?_
     cases hm
     simp only [go_sem,simprocAttr,hw25,hxf_49]
     try exact se1
    ·refine Wp.skip ?_
     refine hK34 _ _ ?_
     refine Wp.seqW fun K38 hK38 hW38=>?_
     obtain ⟨r_51,hr_51,hm⟩:=call_elim hm
     refine Wp.seqR fun K39 hK39=>?_
     simp only [go_sem,simprocAttr,hw25,hxf_49]
     try refine ⟨sd,?_⟩
     refine Rg.callR (av:=?av40) (g:=true) [2,1] (fun hg=>ok_disk_above_i1 f_49.Path m1_39 _ hr_51) (by simp only [go_sem,simprocAttr,hw25,hxf_49]; exact Is.mk) (by simp only [go_sem,simprocAttr,hw25,hxf_49]; exact Is.mk) (by simp only [go_sem,simprocAttr,hw25,hxf_49]; exact Is.mk) (by simp only [go_sem,simprocAttr,hw25,hxf_49]; exact Is.mk) (by simp only [go_sem,simprocAttr,hw25,hxf_49]) (by simp only [go_sem,simprocAttr,hw25,hxf_49]) (by simp only [go_sem,simprocAttr,hw25,hxf_49]) ?cont40
     simp only [go_sem,simprocAttr,hw25,hxf_49]
     refine kA hK39 ?_
     refine cM hm (fun hc41 hm=>?_) (fun hc41 hm=>?_)
     ·refine Wp.seqR fun K42 hK42=>?_
      simp only [go_sem,simprocAttr,hw25,hxf_49]
      refine kA hK42 ?_
      refine Wp.ret ?_
      refine retQ_ret ?_
      cases hm
      simp only [go_sem,simprocAttr,hw25,hxf_49]
      try exact se1
     ·refine Wp.skip ?_
      refine hK38 _ _ ?_
      obtain ⟨c_53,hm⟩:=chk_elim hm
      have hp_52:=mset_enc (e:=ecB) keq_s m1_39 f_49.Path true
      simp only [ecB] at hp_52
      refine Wp.regD (plan:=pl [(0,none),(1,none),(2,none),(3,none),(4,none),(5,none),(6,some [])]) (by kernel_rfl) rfl (by kernel_rfl) fun K43 hK43=>?_
      simp only [go_sem,simprocAttr,hw25,hxf_49,hp_52]
      refine kA hK43 ?_
      refine hK26 _ _ ?_
      refine Wp.region fun K44 hK44=>?_
      simp only [go_sem,simprocAttr,hw25,hxf_49]
      refine kA hK44 ?_
      simp only [thenQ,blockQ,↓reduceIte]
      refine ⟨(f_49.Path,aset m1_39 f_49.Path true),hlt25,hnx_46 _ hm,?_⟩
      simp only [go_sem,simprocAttr,hw25,hxf_49]
      try exact se1
theorem ok_slices_Clone_api_Setting_api_Setting (s_1:List api_Setting) (z:List api_Setting) (hm:slices_Clone_api_Setting_api_Setting s_1=some z):Does Tryz.prog 146 [.p (.l (List.map enc_api_Setting s_1))] [] (fun r X=>r=.p (.l (List.map enc_api_Setting z))∧X=[]):=by
 unfold slices_Clone_api_Setting_api_Setting at hm
 refine dW 0 8 [.tmp 2] Tryz.func146 fun B=>?_
 refine qS ?_
 refine Wp.seqW fun K2 hK2 hW2=>?_
 refine Wp.seqR fun K3 hK3=>?_
 simp only [go_sem,simprocAttr]
 try refine ⟨sd,?_⟩
 refine Rg.isnil (rows:=?rows4) (e:=?e4) (esz:=?esz4) (eb:=?eb4) (ez:=?ez4) Is.mk Is.mk sg sg si si ?cont4
 intro b_2 hb_3
 replace hm:=anyOf_elim hm b_2 (fun h=>List.map_eq_nil_iff.1 (hb_3 h))
 try dsimp only at hm
 simp only [go_sem,simprocAttr]
 refine kA hK3 ?_
 refine cM hm (fun hc5 hm=>?_) (fun hc5 hm=>?_)
 ·refine qS ?_
  refine Wp.ret ?_
  simp only [thenQ,blockQ]
  refine retQ_retE ?_
  cases hm
  exact fse1
 ·refine Wp.skip ?_
  refine hK2 _ _ ?_
  obtain ⟨c_4,hm⟩:=chk_elim hm
  refine Wp.seqR fun K7 hK7=>?_
  simp only [go_sem,simprocAttr]
  refine kA hK7 ?_
  refine Wp.ret ?_
  refine retQ_ret ?_
  cases hm
  exact fse1
theorem ok_disk_bench_count_1_i1 (dir_1:Str) (o1_0_2:List api_Setting) (m2_3:List (Str × api_File)) (m3_4:List (Str × Int)) (m4_5:List (Str × api_Setting)) (m5_6:List (Str × api_Service)) (o6_0_7:Int) (z:Bool × (List (Str × Int))) (hm:disk_bench_count_1_i1 dir_1 o1_0_2 m2_3 m3_4 m4_5 m5_6 o6_0_7=some z):Does Tryz.prog 249 [.p (.s dir_1),.ptr 0 0,.ptr 6 0] [.cells 111 [.ptr 1 0],.cells 193 [.p (.l (List.map enc_api_Setting o1_0_2)),.mp 2,.mp 3,.mp 4,.mp 5],.mp true (encM Dt.s enc_api_File m2_3),.mp false (encM Dt.s ecI_i64 m3_4),.mp true (encM Dt.s enc_api_Setting m4_5),.mp true (encM Dt.s enc_api_Service m5_6),.cells 3 [.p (.i .i64 o6_0_7)]] (fun r X=>r=.p (.b z.1)∧X=[.cells 111 [.ptr 1 0],.cells 193 [.p (.l (List.map enc_api_Setting o1_0_2)),.mp 2,.mp 3,.mp 4,.mp 5],.mp true (encM Dt.s enc_api_File m2_3),.mp false (encM Dt.s ecI_i64 z.2),.mp true (encM Dt.s enc_api_Setting m4_5),.mp true (encM Dt.s enc_api_Service m5_6),.cells 3 [.p (.i .i64 o6_0_7)]]):=by
 unfold disk_bench_count_1_i1 at hm
 refine dW 7 13 [.tmp 4] Tryz.func249 fun B=>?_
 refine qS ?_
 obtain ⟨q_12,hq_13,hm⟩:=letv_elim hm
 have hq_13d:=mlookD_enc (e:=ecI_i64) keq_s m3_4 dir_1 0
 have hq_13s:=mlook_some (e:=ecI_i64) keq_s m3_4 dir_1
 simp only [hq_13,ecI_i64,List.map_nil] at hq_13d hq_13s
 obtain ⟨c_15,hm⟩:=chk_elim hm
 have hp_14:=mset_enc (e:=ecI_i64) keq_s m3_4 dir_1 (IntKind.i64.wrap ((q_12.getD 0)+o6_0_7))
 simp only [ecI_i64] at hp_14
 refine Wp.seqD (plan:=pl [(0,none),(1,none),(2,none),(3,none),(4,none),(5,none),(6,none),(7,none),(8,some [])]) (by kernel_rfl) rfl (by kernel_rfl) fun K2 hK2=>?_
 simp only [go_sem,simprocAttr,hq_13d,hq_13s,hp_14]
 refine kA hK2 ?_
 refine qS ?_
 refine Wp.ret ?_
 refine retQ_ret ?_
 cases hm
 exact fse1
theorem ok_disk_above_i2 (path_1:Str) (o1_0_2:List api_Setting) (m2_3:List (Str × api_File)) (m3_4:List (Str × Int)) (m4_5:List (Str × api_Setting)) (m5_6:List (Str × api_Service)) (o6_0_7:Int) (z:Bool × (List (Str × Int))) (hm:disk_above_i2 path_1 o1_0_2 m2_3 m3_4 m4_5 m5_6 o6_0_7=some z):Does Tryz.prog 139 [.p (.s path_1),.fn 249 [.ptr 0 0,.ptr 6 0]] [.cells 111 [.ptr 1 0],.cells 193 [.p (.l (List.map enc_api_Setting o1_0_2)),.mp 2,.mp 3,.mp 4,.mp 5],.mp true (encM Dt.s enc_api_File m2_3),.mp false (encM Dt.s ecI_i64 m3_4),.mp true (encM Dt.s enc_api_Setting m4_5),.mp true (encM Dt.s enc_api_Service m5_6),.cells 3 [.p (.i .i64 o6_0_7)]] (fun r X=>r=.p (.b z.1)∧X=[.cells 111 [.ptr 1 0],.cells 193 [.p (.l (List.map enc_api_Setting o1_0_2)),.mp 2,.mp 3,.mp 4,.mp 5],.mp true (encM Dt.s enc_api_File m2_3),.mp false (encM Dt.s ecI_i64 z.2),.mp true (encM Dt.s enc_api_Setting m4_5),.mp true (encM Dt.s enc_api_Service m5_6),.cells 3 [.p (.i .i64 o6_0_7)]]):=by
 unfold disk_above_i2 at hm
 refine dW 7 24 [.tmp 4] Tryz.func139 fun B=>?_
 refine qS ?_
 refine Wp.seqW fun K2 hK2 hW2=>?_
 obtain ⟨k_59,hk_59,hm⟩:=jp_elim hm
 have hcut2:∀ s,k_59 s=some z→K2 [] [.cells 111 [.ptr 1 0],.cells 193 [.p (.l (List.map enc_api_Setting o1_0_2)),.mp 2,.mp 3,.mp 4,.mp 5],.mp true (encM Dt.s enc_api_File m2_3),.mp false (encM Dt.s ecI_i64 s),.mp true (encM Dt.s enc_api_Setting m4_5),.mp true (encM Dt.s enc_api_Service m5_6),.cells 3 [.p (.i .i64 o6_0_7)]]:=by
  intro m3_58 hs
  have hm:=hk_59 _ hs
  clear hs
  try dsimp only at hm
  try dsimp only
  refine hK2 _ _ ?_
  refine qS ?_
  refine Wp.ret ?_
  refine retQ_ret ?_
  cases hm
  exact fse1
 clear hK2 hk_59
 refine qS ?_
 refine Wp.block ?_
 obtain ⟨k_69,hk_69,hm⟩:=forL_cont hm
 refine Wp.fact 0 fun hl_72=>?_
 replace hl_72:path_1.length≤274877906944:=by
  simp only [go_sem,simprocAttr,List.length_map] at hl_72
  omega
 refine Wp.forL (fun i_71 s=>[(0,.p (.s path_1)),(1,.fn 249 [.ptr 0 0,.ptr 6 0]),(5,.p (.i .i64 (i_71:Int)))]) (fun i_71 s=>[.cells 111 [.ptr 1 0],.cells 193 [.p (.l (List.map enc_api_Setting o1_0_2)),.mp 2,.mp 3,.mp 4,.mp 5],.mp true (encM Dt.s enc_api_File m2_3),.mp false (encM Dt.s ecI_i64 s),.mp true (encM Dt.s enc_api_Setting m4_5),.mp true (encM Dt.s enc_api_Service m5_6),.cells 3 [.p (.i .i64 o6_0_7)]]) ?_ hm ?_
 ·
  exact fse1
 clear hm
 intro i_71 m3_65 hii_71 hm
 try dsimp only at hm
 try dsimp only
 refine Wp.seqW fun K5 hK5 hW5=>?_
 refine qS ?_
 refine Wp.cond rfl ⟨⟩ (fun hc5=>?_) (fun hc5=>?_)
 rotate_left
 ·refine Wp.exit ?_
  have hm:=hk_69 _ (forL_end hm (ge_nat (by first | exact hc5 | simpa using hc5)))
  try dsimp only at hm
  refine hW2 _ _ _ _ ?_ (hcut2 m3_65 hm)
  exact fse1
 have hlt5:=lt_nat (by first | exact hc5 | simpa using hc5)
 have hw5:=wrap_succ hlt5 hl_72
 obtain ⟨c_73,nx_70,hxc_73,hyc_73,hnx_70,hm⟩:=forL_step hm hlt5
 clear hxc_73
 refine Wp.skip ?_
 simp only [thenQ]
 refine hK5 _ _ ?_
 refine Wp.seqW fun K7 hK7 hW7=>?_
 refine Wp.block ?_
 obtain ⟨c_74,hm⟩:=chk_elim hm
 obtain ⟨r_75,hr_75,hr_75d,hm⟩:=callG_elim2 hm
 refine Wp.seqR fun K8 hK8=>?_
 simp only [go_sem,simprocAttr,hw5,hyc_73]
 try refine ⟨sL,?_⟩
 refine Rg.callGO (av:=?av9) (g:=decide ((c_73.toNat:Int)=47)) [0,1,2,3,4,5,6] (fun hg=>ok_disk_bench_count_1_i1 (List.take i_71 path_1) o1_0_2 m2_3 m3_65 m4_5 m5_6 o6_0_7 _ (hr_75 hg)) (fun hg=>by obtain rfl:=hr_75d hg; rfl) (by simp only [go_sem,simprocAttr,hw5,hyc_73]; exact Is.mk) (by simp only [go_sem,simprocAttr,hw5,hyc_73]; exact Is.mk) (by simp only [go_sem,simprocAttr,hw5,hyc_73]; exact Is.mk) (by simp only [go_sem,simprocAttr,hw5,hyc_73]; exact Is.mk) (by simp only [go_sem,simprocAttr,hw5,hyc_73]) (by simp only [go_sem,simprocAttr,hw5,hyc_73]) ?cont9
 simp only [go_sem,simprocAttr,hw5,hyc_73]
 refine kA hK8 ?_
 refine cM hm (fun hc10 hm=>?_) (fun hc10 hm=>?_)
 ·refine Wp.seqR fun K11 hK11=>?_
  simp only [go_sem,simprocAttr,hw5,hyc_73]
  refine kA hK11 ?_
  refine Wp.ret ?_
  refine retQ_ret ?_
  cases hm
  simp only [go_sem,simprocAttr,hw5,hyc_73]
  try exact se1
 ·refine Wp.skip ?_
  refine hK7 _ _ ?_
  refine Wp.region fun K12 hK12=>?_
  simp only [go_sem,simprocAttr,hw5,hyc_73]
  refine kA hK12 ?_
  simp only [thenQ,blockQ,↓reduceIte]
  refine ⟨r_75.2,hlt5,hnx_70 _ hm,?_⟩
  simp only [go_sem,simprocAttr,hw5,hyc_73]
  try exact se1
theorem ok_disk_bench_count_i1 (path_1:Str) (n_2:Int) (o0_0_3:List api_Setting) (m1_4:List (Str × api_File)) (m2_5:List (Str × Int)) (m3_6:List (Str × api_Setting)) (m4_7:List (Str × api_Service)) (z:(List (Str × Int))) (hm:disk_bench_count_i1 path_1 n_2 o0_0_3 m1_4 m2_5 m3_6 m4_7=some z):Does Tryz.prog 202 [.ptr 0 0,.p (.s path_1),.p (.i .i64 n_2)] [.cells 193 [.p (.l (List.map enc_api_Setting o0_0_3)),.mp 1,.mp 2,.mp 3,.mp 4],.mp true (encM Dt.s enc_api_File m1_4),.mp false (encM Dt.s ecI_i64 m2_5),.mp true (encM Dt.s enc_api_Setting m3_6),.mp true (encM Dt.s enc_api_Service m4_7)] (fun r X=>r=.tup []∧X=[.cells 193 [.p (.l (List.map enc_api_Setting o0_0_3)),.mp 1,.mp 2,.mp 3,.mp 4],.mp true (encM Dt.s enc_api_File m1_4),.mp false (encM Dt.s ecI_i64 z),.mp true (encM Dt.s enc_api_Setting m3_6),.mp true (encM Dt.s enc_api_Service m4_7)]):=by
 unfold disk_bench_count_i1 at hm
 refine dW 5 9 [] Tryz.func202 fun B=>?_
 refine qS ?_
 obtain ⟨r_9,hr_9,hm⟩:=call_elim hm
 refine Wp.region fun K2 hK2=>?_
 simp only [go_sem,simprocAttr]
 try refine ⟨sd,?_⟩
 refine Rg.callO (av:=?av3) [5,0,1,2,3,4,6] (ok_disk_above_i2 path_1 o0_0_3 m1_4 m2_5 m3_6 m4_7 n_2 _ hr_9) si si si sg sg ?cont3
 rintro _ _ ⟨rfl,rfl⟩ hv3
 simp only [go_sem,simprocAttr]
 refine kA hK2 ?_
 refine retQ_normal ?_
 cases hm
 exact fse1
theorem ok_disk_bench_put_i1 (f_1:api_File) (o0_0_2:List api_Setting) (m1_3:List (Str × api_File)) (m2_4:List (Str × Int)) (m3_5:List (Str × api_Setting)) (m4_6:List (Str × api_Service)) (z:(List (Str × api_File)) × (List (Str × Int))) (hm:disk_bench_put_i1 f_1 o0_0_2 m1_3 m2_4 m3_5 m4_6=some z):Does Tryz.prog 147 [.ptr 0 0,.agg [.p (.s f_1.Path),.p (.s f_1.Data),.p (.b f_1.Runs)]] [.cells 193 [.p (.l (List.map enc_api_Setting o0_0_2)),.mp 1,.mp 2,.mp 3,.mp 4],.mp true (encM Dt.s enc_api_File m1_3),.mp false (encM Dt.s ecI_i64 m2_4),.mp true (encM Dt.s enc_api_Setting m3_5),.mp true (encM Dt.s enc_api_Service m4_6)] (fun r X=>r=.tup []∧X=[.cells 193 [.p (.l (List.map enc_api_Setting o0_0_2)),.mp 1,.mp 2,.mp 3,.mp 4],.mp true (encM Dt.s enc_api_File z.1),.mp false (encM Dt.s ecI_i64 z.2),.mp true (encM Dt.s enc_api_Setting m3_5),.mp true (encM Dt.s enc_api_Service m4_6)]):=by
 unfold disk_bench_put_i1 at hm
 refine dW 5 29 [] Tryz.func147 fun B=>?_
 refine qS ?_
 refine Wp.seqW fun K2 hK2 hW2=>?_
 obtain ⟨q_14,hq_15,hm⟩:=letv_elim hm
 have hq_15d:=mlookD_enc (e:=enc_api_File) keq_s m1_3 f_1.Path (api_File.mk [] [] false)
 have hq_15s:=mlook_some (e:=enc_api_File) keq_s m1_3 f_1.Path
 simp only [hq_15,enc_api_File,List.map_nil] at hq_15d hq_15s
 refine Wp.seqD (plan:=pl [(0,none),(1,none),(2,none),(3,none),(4,none),(5,none),(6,none),(7,none),(8,none),(9,none),(10,some [0,1,2,3,4,5,6,7,8,9]),(11,some [9]),(12,none)]) (by kernel_rfl) rfl (by kernel_rfl) fun K3 hK3=>?_
 simp only [go_sem,simprocAttr,hq_15d,hq_15s]
 refine kA hK3 ?_
 refine qS ?_
 refine cM hm (fun hc5 hm=>?_) (fun hc5 hm=>?_)
 ·obtain ⟨r_16,hr_16,hm⟩:=call_elim hm
  refine Wp.region fun K6 hK6=>?_
  simp only [go_sem,simprocAttr]
  try refine ⟨sd,?_⟩
  refine Rg.callO (av:=?av7) [0,1,2,3,4] (ok_disk_bench_count_i1 f_1.Path 1 o0_0_2 m1_3 m2_4 m3_5 m4_6 _ hr_16) si si si sg sg ?cont7
  rintro _ _ ⟨rfl,rfl⟩ hv7
  simp only [go_sem,simprocAttr]
  refine kA hK6 ?_
  refine hK2 _ _ ?_
  obtain ⟨c_18,hm⟩:=chk_elim hm
  have hp_17:=mset_enc (e:=enc_api_File) keq_s m1_3 f_1.Path f_1
  simp only [enc_api_File] at hp_17
  refine Wp.regD (plan:=pl [(0,none),(1,none),(2,none),(3,none),(4,none),(5,none),(6,none),(7,some [])]) (by kernel_rfl) rfl (by kernel_rfl) fun K8 hK8=>?_
  simp only [go_sem,simprocAttr,hp_17]
  refine kA hK8 ?_
  refine retQ_normal ?_
  cases hm
  exact fse1
 ·refine Wp.skip ?_
  refine hK2 _ _ ?_
  obtain ⟨c_20,hm⟩:=chk_elim hm
  have hp_19:=mset_enc (e:=enc_api_File) keq_s m1_3 f_1.Path f_1
  simp only [enc_api_File] at hp_19
  refine Wp.regD (plan:=pl [(0,none),(1,none),(2,none),(3,none),(4,none),(5,none),(6,none),(7,some [])]) (by kernel_rfl) rfl (by kernel_rfl) fun K9 hK9=>?_
  simp only [go_sem,simprocAttr,hp_19]
  refine kA hK9 ?_
  refine retQ_normal ?_
  cases hm
  exact fse1
end Go.Proofs.YtbofknpajcdnmaaGreatDoor
