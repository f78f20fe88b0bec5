/- That the code does what the models say (part 2). -/
import Derived.Test.YtbofknpajcdnmaaGreatDoorJmWk0
import Derived.Test.YtbofknpajcdnmaaGreatDoorJmWk1
set_option linter.unusedSimpArgs false
set_option linter.unusedVariables false
open Go.Proofs Go.Shelf
namespace Go.Proofs.YtbofknpajcdnmaaGreatDoor
open Go.Vc Go.Md
set_option maxRecDepth 100000
set_option maxHeartbeats 4000000
theorem ok_ver_IsPath (s_1:Str) (z:Bool) (hm:ver_IsPath s_1=some z):Does Tryz.prog 142 [.p (.s s_1)] [] (fun r X=>r=.p (.b z)∧X=[]):=by
 unfold ver_IsPath at hm
 refine Does.of_wp 0 19 [.tmp 2] Tryz.func142 rfl (by decide) rfl rfl (Nat.le_of_ble_eq_true rfl) fun B=>?_
 refine qS ?_
 refine Wp.seqW fun K2 hK2 hW2=>?_
 obtain ⟨k_12,hk_12,hm⟩:=jp_elim hm
 have hcut2:∀ s,k_12 s=some z→K2 [(0,.p (.s s_1))] []:=by
  intro s hs
  have hm:=hk_12 _ hs
  clear hs
  try dsimp only at hm
  try dsimp only
  refine hK2 _ _ ?_
  refine qS ?_
  refine Wp.ret ?_
  refine retQ_ret ?_
  cases hm
  exact fse1
 clear hK2 hk_12
 obtain ⟨r_13,hr_13,hm⟩:=call_elim hm
 refine Wp.seqR fun K4 hK4=>?_
 simp only [go_sem,simprocAttr]
 try refine ⟨sd,?_⟩
 refine Rg.callF (av:=?av5) (ok_strings_Split s_1 ([47]:Str) _ hr_13) si si sg ?cont5
 intro hv5
 simp only [go_sem,simprocAttr]
 first | apply hK4 | refine ⟨sd,hK4 _ _ ?_⟩
 refine Wp.block ?_
 obtain ⟨k_17,hk_17,hm⟩:=forL_cont hm
 refine Wp.fact 6 fun hl_20=>?_
 replace hl_20:r_13.length≤274877906944:=by
  simp only [go_sem,simprocAttr,List.length_map] at hl_20
  omega
 refine Wp.forL (fun i_19 s=>[(0,.p (.s s_1)),(6,.p (.l (List.map ecS r_13))),(7,.p (.i .i64 (r_13.length:Int))),(8,.p (.i .i64 (i_19:Int)))]) (fun i_19 s=>[]) ?_ hm ?_
 ·
  exact fse1
 clear hm
 intro i_19 s hii_19 hm
 try dsimp only at hm
 try dsimp only
 refine qS ?_
 refine Wp.seqW fun K7 hK7 hW7=>?_
 refine Wp.cond rfl ⟨⟩ (fun hc7=>?_) (fun hc7=>?_)
 rotate_left
 ·refine Wp.exit ?_
  have hm:=hk_17 _ (forL_end hm (ge_nat (by first | exact hc7 | simpa using hc7)))
  try dsimp only at hm
  refine hW2 _ _ _ _ ?_ (hcut2 () hm)
  exact fse1
 have hlt7:=lt_nat (by first | exact hc7 | simpa using hc7)
 have hw7:=wrap_succ hlt7 hl_20
 obtain ⟨s_21,nx_18,hxs_21,hys_21,hnx_18,hm⟩:=forL_step hm hlt7
 replace hxs_21:=hxs_21 ecS
 refine Wp.skip ?_
 simp only [thenQ]
 refine hK7 _ _ ?_
 refine Wp.seqW fun K8 hK8 hW8=>?_
 refine Wp.block ?_
 refine Wp.seqR fun K9 hK9=>?_
 simp only [go_sem,simprocAttr,hw7,hxs_21]
 first | apply hK9 | refine ⟨sd,hK9 _ _ ?_⟩
 obtain ⟨r_22,hr_22,hm⟩:=call_elim hm
 refine Wp.seqR fun K10 hK10=>?_
 simp only [go_sem,simprocAttr,hw7,hxs_21]
 try refine ⟨sd,?_⟩
 refine Rg.callX (av:=?av11) (g:=true) (fun hg=>ok_ver_isPart s_21 _ hr_22) (by simp only [go_sem,simprocAttr,hw7,hxs_21]; exact Is.mk) (by simp only [go_sem,simprocAttr,hw7,hxs_21]; exact Is.mk) (by simp only [go_sem,simprocAttr,hw7,hxs_21]; exact Is.mk) (by simp only [go_sem,simprocAttr,hw7,hxs_21]) (by simp only [go_sem,simprocAttr,hw7,hxs_21]; exact Is.mk) ?cont11
 intro hv11
 simp only [go_sem,simprocAttr,hw7,hxs_21]
 first | apply hK10 | refine ⟨sd,hK10 _ _ ?_⟩
 refine cM hm (fun hc12 hm=>?_) (fun hc12 hm=>?_)
 ·refine Wp.seqR fun K13 hK13=>?_
  simp only [go_sem,simprocAttr,hw7,hxs_21]
  first | apply hK13 | refine ⟨sd,hK13 _ _ ?_⟩
  refine Wp.ret ?_
  refine retQ_ret ?_
  cases hm
  simp only [go_sem,simprocAttr,hw7,hxs_21]
  try exact se1
 ·refine Wp.skip ?_
  refine hK8 _ _ ?_
  refine Wp.region fun K14 hK14=>?_
  simp only [go_sem,simprocAttr,hw7,hxs_21]
  first | apply hK14 | refine ⟨sd,hK14 _ _ ?_⟩
  simp only [thenQ,blockQ,↓reduceIte]
  refine ⟨(),hlt7,hnx_18 _ hm,?_⟩
  simp only [go_sem,simprocAttr,hw7,hxs_21]
  try exact se1
theorem ok_disk_fileFault (f_1:api_File) (z:Int) (hm:disk_fileFault f_1=some z):Does Tryz.prog 138 [.agg [.p (.s f_1.Path),.p (.s f_1.Data),.p (.b f_1.Runs)]] [] (fun r X=>r=.p (.i .i64 z)∧X=[]):=by
 unfold disk_fileFault at hm
 refine Does.of_wp 0 11 [.tmp 2] Tryz.func138 rfl (by decide) rfl rfl (Nat.le_of_ble_eq_true rfl) fun B=>?_
 refine qS ?_
 refine Wp.seqW fun K2 hK2 hW2=>?_
 obtain ⟨r_2,hr_2,hm⟩:=call_elim hm
 refine Wp.seqR fun K3 hK3=>?_
 simp only [go_sem,simprocAttr]
 try refine ⟨sd,?_⟩
 refine Rg.callX (av:=?av4) (g:=true) (fun hg=>ok_ver_IsPath f_1.Path _ hr_2) si si si sg si ?cont4
 intro hv4
 simp only [go_sem,simprocAttr]
 first | apply hK3 | refine ⟨sd,hK3 _ _ ?_⟩
 refine cM hm (fun hc5 hm=>?_) (fun hc5 hm=>?_)
 ·refine qS ?_
  refine Wp.ret ?_
  refine retQ_ret ?_
  cases hm
  exact fse1
 ·refine Wp.skip ?_
  refine hK2 _ _ ?_
  refine Wp.seqW fun K7 hK7 hW7=>?_
  refine qS ?_
  refine cM hm (fun hc9 hm=>?_) (fun hc9 hm=>?_)
  ·refine qS ?_
   refine Wp.ret ?_
   refine retQ_ret ?_
   cases hm
   exact fse1
  ·refine Wp.skip ?_
   refine hK7 _ _ ?_
   refine qS ?_
   refine Wp.ret ?_
   refine retQ_ret ?_
   cases hm
   exact fse1
theorem ok_disk_settingFault_i2 (s_1:api_Setting) (z:Int) (hm:disk_settingFault_i2 s_1=some z):Does Tryz.prog 136 [.agg [.p (.s s_1.Key),.p (.s s_1.Value)],.fn 142 []] [] (fun r X=>r=.p (.i .i64 z)∧X=[]):=by
 unfold disk_settingFault_i2 at hm
 refine Does.of_wp 0 14 [.tmp 4] Tryz.func136 rfl (by decide) rfl rfl (Nat.le_of_ble_eq_true rfl) fun B=>?_
 refine qS ?_
 refine Wp.seqW fun K2 hK2 hW2=>?_
 obtain ⟨r_2,hr_2,hm⟩:=call_elim hm
 refine Wp.seqR fun K3 hK3=>?_
 simp only [go_sem,simprocAttr]
 try refine ⟨sd,?_⟩
 refine Rg.callX (av:=?av4) (g:=true) (fun hg=>ok_ver_IsPath s_1.Key _ hr_2) si si si sg si ?cont4
 intro hv4
 simp only [go_sem,simprocAttr]
 first | apply hK3 | refine ⟨sd,hK3 _ _ ?_⟩
 refine cM hm (fun hc5 hm=>?_) (fun hc5 hm=>?_)
 ·refine qS ?_
  refine Wp.ret ?_
  refine retQ_ret ?_
  cases hm
  exact fse1
 ·refine Wp.skip ?_
  refine hK2 _ _ ?_
  refine Wp.seqW fun K7 hK7 hW7=>?_
  obtain ⟨r_3,hr_3,hm⟩:=call_elim hm
  refine Wp.seqR fun K8 hK8=>?_
  simp only [go_sem,simprocAttr]
  try refine ⟨sd,?_⟩
  refine Rg.callX (av:=?av9) (g:=true) (fun hg=>ok_ver_IsValue s_1.Value _ hr_3) si si si sg si ?cont9
  intro hv9
  simp only [go_sem,simprocAttr]
  first | apply hK8 | refine ⟨sd,hK8 _ _ ?_⟩
  refine cM hm (fun hc10 hm=>?_) (fun hc10 hm=>?_)
  ·refine qS ?_
   refine Wp.ret ?_
   refine retQ_ret ?_
   cases hm
   exact fse1
  ·refine Wp.skip ?_
   refine hK7 _ _ ?_
   refine qS ?_
   refine Wp.ret ?_
   refine retQ_ret ?_
   cases hm
   exact fse1
theorem ok_disk_serviceFault (s_1:api_Service) (z:Int) (hm:disk_serviceFault s_1=some z):Does Tryz.prog 144 [.agg [.p (.s s_1.Name),.p (.s s_1.Path),.p (.b s_1.Auto),.p (.b s_1.On)]] [] (fun r X=>r=.p (.i .i64 z)∧X=[]):=by
 unfold disk_serviceFault at hm
 refine Does.of_wp 0 13 [.tmp 2] Tryz.func144 rfl (by decide) rfl rfl (Nat.le_of_ble_eq_true rfl) fun B=>?_
 refine qS ?_
 refine Wp.seqW fun K2 hK2 hW2=>?_
 obtain ⟨r_2,hr_2,hm⟩:=call_elim hm
 obtain ⟨r_3,hr_3,hm⟩:=callG_elim hm
 refine Wp.seqR fun K3 hK3=>?_
 simp only [go_sem,simprocAttr]
 try refine ⟨sd,?_⟩
 refine Rg.callX (av:=?av4) (g:=true) (fun hg=>ok_ver_IsName s_1.Name _ hr_2) si si si sg si ?cont4
 intro hv4
 simp only [go_sem,simprocAttr]
 try refine ⟨sd,?_⟩
 refine Rg.callX (av:=?av5) (g:=!(!r_2)) (fun hg=>ok_ver_IsPath s_1.Path _ (hr_3 hg)) si si si sg si ?cont5
 intro hv5
 simp only [go_sem,simprocAttr]
 first | apply hK3 | refine ⟨sd,hK3 _ _ ?_⟩
 refine cM hm (fun hc6 hm=>?_) (fun hc6 hm=>?_)
 ·refine qS ?_
  refine Wp.ret ?_
  refine retQ_ret ?_
  cases hm
  exact fse1
 ·refine Wp.skip ?_
  refine hK2 _ _ ?_
  refine qS ?_
  refine Wp.ret ?_
  refine retQ_ret ?_
  cases hm
  exact fse1
theorem ok_R_ChangeError (c_1:api_Change) (z:Int) (hm:R_ChangeError c_1=some z):Does Tryz.prog 156 [.agg [.p (.i .i64 c_1.Kind),.p (.s c_1.File.Path),.p (.s c_1.File.Data),.p (.b c_1.File.Runs),.p (.s c_1.Setting.Key),.p (.s c_1.Setting.Value),.p (.s c_1.Service.Name),.p (.s c_1.Service.Path),.p (.b c_1.Service.Auto),.p (.b c_1.Service.On)]] [] (fun r X=>r=.p (.i .i64 z)∧X=[]):=by
 unfold R_ChangeError at hm
 refine Does.of_wp 0 67 [.tmp 2] Tryz.func156 rfl (by decide) rfl rfl (Nat.le_of_ble_eq_true rfl) fun B=>?_
 refine qS ?_
 refine qS ?_
 refine qS ?_
 refine Wp.seqW fun K4 hK4 hW4=>?_
 obtain ⟨k_21,hk_21,hm⟩:=jp_elim hm
 have hcut4:∀ s,k_21 s=some z→K4 [(3,.ptr 1 0),(4,.p (.i .i64 s.1))] [.cells 44 [.top,.top,.top,.top,.top,.top,.top,.top,.top,.top],.cells 44 [.p (.i .i64 0),.p (.s s.2.1),.p (.s s.2.2.1),.p (.b s.2.2.2.1),.p (.s s.2.2.2.2.1),.p (.s s.2.2.2.2.2.1),.p (.s s.2.2.2.2.2.2.1),.p (.s s.2.2.2.2.2.2.2.1),.p (.b s.2.2.2.2.2.2.2.2.1),.p (.b s.2.2.2.2.2.2.2.2.2)]]:=by
  intro s hs
  have hm:=hk_21 _ hs
  clear hs
  obtain ⟨e_11,o1_1_12,o1_2_13,o1_3_14,o1_4_15,o1_5_16,o1_6_17,o1_7_18,o1_8_19,o1_9_20⟩:=s
  try dsimp only at hm
  try dsimp only
  refine hK4 _ _ ?_
  obtain ⟨r_22,hr_22,hm⟩:=call_elim hm
  obtain ⟨r_23,hr_23,hm⟩:=call_elim hm
  refine Wp.seqR fun K5 hK5=>?_
  simp only [go_sem,simprocAttr]
  try refine ⟨sd,?_⟩
  refine Rg.callX (av:=?av6) (g:=true) (fun hg=>ok_R_when (!(true && ((decide (o1_1_12=[])) && ((decide (o1_2_13=[])) && ((decide (o1_3_14=false)) && ((decide (o1_4_15=[])) && ((decide (o1_5_16=[])) && ((decide (o1_6_17=[])) && ((decide (o1_7_18=[])) && ((decide (o1_8_19=false)) && (decide (o1_9_20=false)))))))))))) 2 _ hr_22) si si si sg si ?cont6
  intro hv6
  simp only [go_sem,simprocAttr]
  try refine ⟨sd,?_⟩
  refine Rg.callX (av:=?av7) (g:=true) (fun hg=>ok_R_first [e_11,r_22] _ hr_23) si si si sg si ?cont7
  intro hv7
  simp only [go_sem,simprocAttr]
  first | apply hK5 | refine ⟨sd,hK5 _ _ ?_⟩
  refine Wp.ret ?_
  refine retQ_ret ?_
  cases hm
  exact fse1
 clear hK4 hk_21
 refine qS ?_
 refine qS ?_
 refine Wp.block ?_
 refine qS ?_
 refine cM hm (fun hc11 hm=>?_) (fun hc11 hm=>?_)
 ·obtain ⟨r_24,hr_24,hm⟩:=call_elim hm
  refine Wp.region fun K12 hK12=>?_
  simp only [go_sem,simprocAttr]
  try refine ⟨sd,?_⟩
  refine Rg.callX (av:=?av13) (g:=true) (fun hg=>ok_R_fileError c_1.File _ hr_24) si si si sg si ?cont13
  intro hv13
  simp only [go_sem,simprocAttr]
  first | apply hK12 | refine ⟨sd,hK12 _ _ ?_⟩
  refine hW4 _ _ _ _ ?_ (hcut4 (r_24,[],[],false,c_1.Setting.Key,c_1.Setting.Value,c_1.Service.Name,c_1.Service.Path,c_1.Service.Auto,c_1.Service.On) hm)
  exact fse1
 ·refine qS ?_
  refine cM hm (fun hc15 hm=>?_) (fun hc15 hm=>?_)
  ·obtain ⟨r_25,hr_25,hm⟩:=call_elim hm
   obtain ⟨r_26,hr_26,hm⟩:=call_elim hm
   refine Wp.region fun K16 hK16=>?_
   simp only [go_sem,simprocAttr]
   try refine ⟨sd,?_⟩
   refine Rg.callX (av:=?av17) (g:=true) (fun hg=>ok_R_IsPath c_1.File.Path _ hr_25) si si si sg si ?cont17
   intro hv17
   simp only [go_sem,simprocAttr]
   try refine ⟨sd,?_⟩
   refine Rg.callX (av:=?av18) (g:=true) (fun hg=>ok_R_when (!r_25) 5 _ hr_26) si si si sg si ?cont18
   intro hv18
   simp only [go_sem,simprocAttr]
   first | apply hK16 | refine ⟨sd,hK16 _ _ ?_⟩
   refine hW4 _ _ _ _ ?_ (hcut4 (r_26,[],c_1.File.Data,c_1.File.Runs,c_1.Setting.Key,c_1.Setting.Value,c_1.Service.Name,c_1.Service.Path,c_1.Service.Auto,c_1.Service.On) hm)
   exact fse1
  ·refine qS ?_
   refine cM hm (fun hc20 hm=>?_) (fun hc20 hm=>?_)
   ·obtain ⟨r_27,hr_27,hm⟩:=call_elim hm
    refine Wp.region fun K21 hK21=>?_
    simp only [go_sem,simprocAttr]
    try refine ⟨sd,?_⟩
    refine Rg.callX (av:=?av22) (g:=true) (fun hg=>ok_R_settingError c_1.Setting _ hr_27) si si si sg si ?cont22
    intro hv22
    simp only [go_sem,simprocAttr]
    first | apply hK21 | refine ⟨sd,hK21 _ _ ?_⟩
    refine hW4 _ _ _ _ ?_ (hcut4 (r_27,c_1.File.Path,c_1.File.Data,c_1.File.Runs,[],[],c_1.Service.Name,c_1.Service.Path,c_1.Service.Auto,c_1.Service.On) hm)
    exact fse1
   ·refine qS ?_
    refine cM hm (fun hc24 hm=>?_) (fun hc24 hm=>?_)
    ·obtain ⟨r_28,hr_28,hm⟩:=call_elim hm
     obtain ⟨r_29,hr_29,hm⟩:=call_elim hm
     refine Wp.region fun K25 hK25=>?_
     simp only [go_sem,simprocAttr]
     try refine ⟨sd,?_⟩
     refine Rg.callX (av:=?av26) (g:=true) (fun hg=>ok_R_IsPath c_1.Setting.Key _ hr_28) si si si sg si ?cont26
     intro hv26
     simp only [go_sem,simprocAttr]
     try refine ⟨sd,?_⟩
     refine Rg.callX (av:=?av27) (g:=true) (fun hg=>ok_R_when (!r_28) 5 _ hr_29) si si si sg si ?cont27
     intro hv27
     simp only [go_sem,simprocAttr]
     first | apply hK25 | refine ⟨sd,hK25 _ _ ?_⟩
     refine hW4 _ _ _ _ ?_ (hcut4 (r_29,c_1.File.Path,c_1.File.Data,c_1.File.Runs,[],c_1.Setting.Value,c_1.Service.Name,c_1.Service.Path,c_1.Service.Auto,c_1.Service.On) hm)
     exact fse1
    ·refine qS ?_
     refine cM hm (fun hc29 hm=>?_) (fun hc29 hm=>?_)
     ·obtain ⟨r_30,hr_30,hm⟩:=call_elim hm
      refine Wp.region fun K30 hK30=>?_
      simp only [go_sem,simprocAttr]
      try refine ⟨sd,?_⟩
      refine Rg.callX (av:=?av31) (g:=true) (fun hg=>ok_R_serviceError c_1.Service _ hr_30) si si si sg si ?cont31
      intro hv31
      simp only [go_sem,simprocAttr]
      first | apply hK30 | refine ⟨sd,hK30 _ _ ?_⟩
      refine hW4 _ _ _ _ ?_ (hcut4 (r_30,c_1.File.Path,c_1.File.Data,c_1.File.Runs,c_1.Setting.Key,c_1.Setting.Value,[],[],false,false) hm)
      exact fse1
     ·refine qS ?_
      refine cM hm (fun hc33 hm=>?_) (fun hc33 hm=>?_)
      ·obtain ⟨r_31,hr_31,hm⟩:=call_elim hm
       obtain ⟨r_32,hr_32,hm⟩:=call_elim hm
       refine Wp.region fun K34 hK34=>?_
       simp only [go_sem,simprocAttr]
       try refine ⟨sd,?_⟩
       refine Rg.callX (av:=?av35) (g:=true) (fun hg=>ok_R_IsName c_1.Service.Name _ hr_31) si si si sg si ?cont35
       intro hv35
       simp only [go_sem,simprocAttr]
       try refine ⟨sd,?_⟩
       refine Rg.callX (av:=?av36) (g:=true) (fun hg=>ok_R_when (!r_31) 5 _ hr_32) si si si sg si ?cont36
       intro hv36
       simp only [go_sem,simprocAttr]
       first | apply hK34 | refine ⟨sd,hK34 _ _ ?_⟩
       refine hW4 _ _ _ _ ?_ (hcut4 (r_32,c_1.File.Path,c_1.File.Data,c_1.File.Runs,c_1.Setting.Key,c_1.Setting.Value,[],c_1.Service.Path,c_1.Service.Auto,c_1.Service.On) hm)
       exact fse1
      ·refine qS ?_
       refine Wp.ret ?_
       refine retQ_ret ?_
       cases hm
       exact fse1
theorem ok_internal_stringslite_HasPrefix (s_1:Str) (prefix_2:Str) (z:Bool) (hm:internal_stringslite_HasPrefix s_1 prefix_2=some z):Does Tryz.prog 237 [.p (.s s_1),.p (.s prefix_2)] [] (fun r X=>r=.p (.b z)∧X=[]):=by
 unfold internal_stringslite_HasPrefix at hm
 refine Does.of_wp 0 18 [.tmp 4] Tryz.func237 rfl (by decide) rfl rfl (Nat.le_of_ble_eq_true rfl) fun B=>?_
 refine qS ?_
 obtain ⟨c_3,hm⟩:=chk_elim hm
 refine Wp.seqR fun K2 hK2=>?_
 simp only [go_sem,simprocAttr]
 first | apply hK2 | refine ⟨by first | exact sd | ((repeat' apply And.intro) <;> first | assumption | omega | (simp only [List.length_append,List.length_map,List.length_cons,List.length_nil,List.length_set,List.length_replicate] at c_3 ⊢; omega)),hK2 _ _ ?_⟩
 refine Wp.ret ?_
 refine retQ_ret ?_
 cases hm
 exact fse1
theorem ok_strings_HasPrefix (s_1:Str) (prefix_2:Str) (z:Bool) (hm:strings_HasPrefix s_1 prefix_2=some z):Does Tryz.prog 211 [.p (.s s_1),.p (.s prefix_2)] [] (fun r X=>r=.p (.b z)∧X=[]):=by
 unfold strings_HasPrefix at hm
 refine Does.of_wp 0 8 [.tmp 4] Tryz.func211 rfl (by decide) rfl rfl (Nat.le_of_ble_eq_true rfl) fun B=>?_
 refine qS ?_
 obtain ⟨r_3,hr_3,hm⟩:=call_elim hm
 refine Wp.seqR fun K2 hK2=>?_
 simp only [go_sem,simprocAttr]
 try refine ⟨sd,?_⟩
 refine Rg.callX (av:=?av3) (g:=true) (fun hg=>ok_internal_stringslite_HasPrefix s_1 prefix_2 _ hr_3) si si si sg si ?cont3
 intro hv3
 simp only [go_sem,simprocAttr]
 first | apply hK2 | refine ⟨sd,hK2 _ _ ?_⟩
 refine Wp.ret ?_
 refine retQ_ret ?_
 cases hm
 exact fse1
theorem ok_disk_CheckChange (c_1:api_Change) (z:Int) (hm:disk_CheckChange c_1=some z):Does Tryz.prog 150 [.agg [.p (.i .i64 c_1.Kind),.p (.s c_1.File.Path),.p (.s c_1.File.Data),.p (.b c_1.File.Runs),.p (.s c_1.Setting.Key),.p (.s c_1.Setting.Value),.p (.s c_1.Service.Name),.p (.s c_1.Service.Path),.p (.b c_1.Service.Auto),.p (.b c_1.Service.On)]] [] (fun r X=>r=.p (.i .i64 z)∧X=[]):=by
 unfold disk_CheckChange at hm
 refine Does.of_wp 0 78 [.tmp 2] Tryz.func150 rfl (by decide) rfl rfl (Nat.le_of_ble_eq_true rfl) fun B=>?_
 refine qS ?_
 refine qS ?_
 refine qS ?_
 refine Wp.seqW fun K4 hK4 hW4=>?_
 obtain ⟨k_18,hk_18,hm⟩:=jp_elim hm
 have hcut4:∀ s,k_18 s=some z→K4 [(1,.ptr 0 0),(3,.ptr 1 0),(4,.p (.i .i64 s.1))] [.cells 44 [.p (.i .i64 c_1.Kind),.p (.s c_1.File.Path),.p (.s c_1.File.Data),.p (.b c_1.File.Runs),.p (.s c_1.Setting.Key),.p (.s c_1.Setting.Value),.p (.s c_1.Service.Name),.p (.s c_1.Service.Path),.p (.b c_1.Service.Auto),.p (.b c_1.Service.On)],.cells 44 [.p (.i .i64 0),.p (.s s.2.1),.p (.s s.2.2.1),.p (.b s.2.2.2.1),.p (.s s.2.2.2.2.1),.p (.s s.2.2.2.2.2.1),.p (.s s.2.2.2.2.2.2.1),.p (.s s.2.2.2.2.2.2.2.1),.p (.b s.2.2.2.2.2.2.2.2.1),.p (.b s.2.2.2.2.2.2.2.2.2)]]:=by
  intro s hs
  have hm:=hk_18 _ hs
  clear hs
  obtain ⟨e_8,o1_1_9,o1_2_10,o1_3_11,o1_4_12,o1_5_13,o1_6_14,o1_7_15,o1_8_16,o1_9_17⟩:=s
  try dsimp only at hm
  try dsimp only
  refine hK4 _ _ ?_
  refine qS ?_
  refine Wp.seqW fun K6 hK6 hW6=>?_
  refine qS ?_
  refine cM hm (fun hc8 hm=>?_) (fun hc8 hm=>?_)
  ·refine qS ?_
   refine Wp.ret ?_
   refine retQ_ret ?_
   cases hm
   exact fse1
  ·refine Wp.skip ?_
   refine hK6 _ _ ?_
   refine qS ?_
   refine Wp.ret ?_
   refine retQ_ret ?_
   cases hm
   exact fse1
 clear hK4 hk_18
 refine qS ?_
 refine Wp.block ?_
 refine qS ?_
 refine cM hm (fun hc13 hm=>?_) (fun hc13 hm=>?_)
 ·obtain ⟨r_19,hr_19,hm⟩:=call_elim hm
  refine Wp.regD (plan:=pl [(0,none),(1,none),(2,none),(3,none),(4,none),(5,none),(6,some []),(7,none)]) (by kernel_rfl) rfl (by kernel_rfl) fun K14 hK14=>?_
  simp only [go_sem,simprocAttr]
  try refine ⟨sd,?_⟩
  refine Dr.callF (av:=?av15) (g:=true) (o:=?o15) (fun hg=>ok_disk_fileFault c_1.File _ hr_19) si si si si sg si ?cont15
  simp only [go_sem,simprocAttr]
  first | apply hK14 | refine ⟨sd,hK14 _ _ ?_⟩
  refine hW4 _ _ _ _ ?_ (hcut4 (r_19,c_1.File.Path,c_1.File.Data,c_1.File.Runs,[],[],[],[],false,false) hm)
  exact fse1
 ·refine qS ?_
  refine cM hm (fun hc17 hm=>?_) (fun hc17 hm=>?_)
  ·obtain ⟨r_20,hr_20,hm⟩:=call_elim hm
   refine Wp.regD (plan:=pl [(0,none),(1,none),(2,none),(3,none),(4,none),(5,none),(6,none),(7,none),(8,none),(9,none),(10,some []),(11,none)]) (by kernel_rfl) rfl (by kernel_rfl) fun K18 hK18=>?_
   simp only [go_sem,simprocAttr]
   try refine ⟨sd,?_⟩
   refine Dr.callF (av:=?av19) (g:=true) (o:=?o19) (fun hg=>ok_disk_fileFault (api_File.mk c_1.File.Path [] false) _ hr_20) si si si si sg si ?cont19
   simp only [go_sem,simprocAttr]
   first | apply hK18 | refine ⟨sd,hK18 _ _ ?_⟩
   refine hW4 _ _ _ _ ?_ (hcut4 (r_20,c_1.File.Path,[],false,[],[],[],[],false,false) hm)
   exact fse1
  ·refine qS ?_
   refine cM hm (fun hc21 hm=>?_) (fun hc21 hm=>?_)
   ·obtain ⟨r_21,hr_21,hm⟩:=call_elim hm
    refine Wp.regD (plan:=pl [(0,none),(1,none),(2,none),(3,none),(4,none),(5,none),(6,some []),(7,none)]) (by kernel_rfl) rfl (by kernel_rfl) fun K22 hK22=>?_
    simp only [go_sem,simprocAttr]
    try refine ⟨sd,?_⟩
    refine Dr.callF (av:=?av23) (g:=true) (o:=?o23) (fun hg=>ok_disk_settingFault_i2 c_1.Setting _ hr_21) si si si si sg si ?cont23
    simp only [go_sem,simprocAttr]
    first | apply hK22 | refine ⟨sd,hK22 _ _ ?_⟩
    refine hW4 _ _ _ _ ?_ (hcut4 (r_21,[],[],false,c_1.Setting.Key,c_1.Setting.Value,[],[],false,false) hm)
    exact fse1
   ·refine qS ?_
    refine cM hm (fun hc25 hm=>?_) (fun hc25 hm=>?_)
    ·obtain ⟨r_22,hr_22,hm⟩:=call_elim hm
     refine Wp.regD (plan:=pl [(0,none),(1,none),(2,none),(3,none),(4,none),(5,none),(6,none),(7,none),(8,none),(9,none),(10,some []),(11,none)]) (by kernel_rfl) rfl (by kernel_rfl) fun K26 hK26=>?_
     simp only [go_sem,simprocAttr]
     try refine ⟨sd,?_⟩
     refine Dr.callF (av:=?av27) (g:=true) (o:=?o27) (fun hg=>ok_disk_settingFault_i2 (api_Setting.mk c_1.Setting.Key []) _ hr_22) si si si si sg si ?cont27
     simp only [go_sem,simprocAttr]
     first | apply hK26 | refine ⟨sd,hK26 _ _ ?_⟩
     refine hW4 _ _ _ _ ?_ (hcut4 (r_22,[],[],false,c_1.Setting.Key,[],[],[],false,false) hm)
     exact fse1
    ·refine qS ?_
     refine cM hm (fun hc29 hm=>?_) (fun hc29 hm=>?_)
     ·obtain ⟨r_23,hr_23,hm⟩:=call_elim hm
      refine Wp.regD (plan:=pl [(0,none),(1,none),(2,none),(3,none),(4,none),(5,none),(6,some []),(7,none)]) (by kernel_rfl) rfl (by kernel_rfl) fun K30 hK30=>?_
      simp only [go_sem,simprocAttr]
      try refine ⟨sd,?_⟩
      refine Dr.callF (av:=?av31) (g:=true) (o:=?o31) (fun hg=>ok_disk_serviceFault c_1.Service _ hr_23) si si si si sg si ?cont31
      simp only [go_sem,simprocAttr]
      first | apply hK30 | refine ⟨sd,hK30 _ _ ?_⟩
      refine hW4 _ _ _ _ ?_ (hcut4 (r_23,[],[],false,[],[],c_1.Service.Name,c_1.Service.Path,c_1.Service.Auto,c_1.Service.On) hm)
      exact fse1
     ·refine qS ?_
      refine cM hm (fun hc33 hm=>?_) (fun hc33 hm=>?_)
      ·refine qS ?_
       obtain ⟨r_24,hr_24,hm⟩:=call_elim hm
       refine Wp.seqR fun K35 hK35=>?_
       simp only [go_sem,simprocAttr]
       try refine ⟨sd,?_⟩
       refine Rg.callX (av:=?av36) (g:=true) (fun hg=>ok_ver_IsName c_1.Service.Name _ hr_24) si si si sg si ?cont36
       intro hv36
       simp only [go_sem,simprocAttr]
       first | apply hK35 | refine ⟨sd,hK35 _ _ ?_⟩
       refine cM hm (fun hc37 hm=>?_) (fun hc37 hm=>?_)
       ·refine qR ?_
        refine hW4 _ _ _ _ ?_ (hcut4 (5,[],[],false,[],[],c_1.Service.Name,[],false,false) hm)
        exact fse1
       ·refine Wp.skip ?_
        refine hW4 _ _ _ _ ?_ (hcut4 (0,[],[],false,[],[],c_1.Service.Name,[],false,false) hm)
        exact fse1
      ·refine qS ?_
       refine Wp.ret ?_
       refine retQ_ret ?_
       cases hm
       exact fse1
theorem ok_strings_SplitAfter (s_1:Str) (sep_2:Str) (z:List Str) (hm:strings_SplitAfter s_1 sep_2=some z):Does Tryz.prog 109 [.p (.s s_1),.p (.s sep_2)] [] (fun r X=>r=.p (.l (List.map ecS z))∧X=[]):=by
 unfold strings_SplitAfter at hm
 refine Does.of_wp 0 10 [.tmp 4] Tryz.func109 rfl (by decide) rfl rfl (Nat.le_of_ble_eq_true rfl) fun B=>?_
 refine qS ?_
 obtain ⟨r_3,hr_3,hm⟩:=call_elim hm
 refine Wp.seqR fun K2 hK2=>?_
 simp only [go_sem,simprocAttr]
 try refine ⟨sd,?_⟩
 refine Rg.callF (av:=?av3) (ok_strings_genSplit s_1 sep_2 (sep_2.length:Int) (-1) _ hr_3) si si sg ?cont3
 intro hv3
 simp only [go_sem,simprocAttr]
 first | apply hK2 | refine ⟨sd,hK2 _ _ ?_⟩
 refine Wp.ret ?_
 refine retQ_ret ?_
 cases hm
 exact fse2
theorem ok_internal_stringslite_CutPrefix (s_1:Str) (prefix_2:Str) (z:Str × Bool) (hm:internal_stringslite_CutPrefix s_1 prefix_2=some z):Does Tryz.prog 187 [.p (.s s_1),.p (.s prefix_2)] [] (fun r X=>r=.tup [.p (.s z.1),.p (.b z.2)]∧X=[]):=by
 unfold internal_stringslite_CutPrefix at hm
 refine Does.of_wp 0 15 [.tmp 4,.tmp 5] Tryz.func187 rfl (by decide) rfl rfl (Nat.le_of_ble_eq_true rfl) fun B=>?_
 refine qS ?_
 refine Wp.seqW fun K2 hK2 hW2=>?_
 obtain ⟨r_3,hr_3,hm⟩:=call_elim hm
 refine Wp.seqR fun K3 hK3=>?_
 simp only [go_sem,simprocAttr]
 try refine ⟨sd,?_⟩
 refine Rg.callX (av:=?av4) (g:=true) (fun hg=>ok_internal_stringslite_HasPrefix s_1 prefix_2 _ hr_3) si si si sg si ?cont4
 intro hv4
 simp only [go_sem,simprocAttr]
 first | apply hK3 | refine ⟨sd,hK3 _ _ ?_⟩
 refine cM hm (fun hc5 hm=>?_) (fun hc5 hm=>?_)
 ·refine qS ?_
  refine Wp.ret ?_
  refine retQ_ret ?_
  cases hm
  exact fse2
 ·refine Wp.skip ?_
  refine hK2 _ _ ?_
  obtain ⟨c_4,hm⟩:=chk_elim hm
  refine Wp.seqR fun K7 hK7=>?_
  simp only [go_sem,simprocAttr]
  first | apply hK7 | refine ⟨by first | exact sd | ((repeat' apply And.intro) <;> first | assumption | omega | (simp only [List.length_append,List.length_map,List.length_cons,List.length_nil,List.length_set,List.length_replicate] at c_4 ⊢; omega)),hK7 _ _ ?_⟩
  refine Wp.ret ?_
  refine retQ_ret ?_
  cases hm
  exact fse2
theorem ok_strings_CutPrefix (s_1:Str) (prefix_2:Str) (z:Str × Bool) (hm:strings_CutPrefix s_1 prefix_2=some z):Does Tryz.prog 115 [.p (.s s_1),.p (.s prefix_2)] [] (fun r X=>r=.tup [.p (.s z.1),.p (.b z.2)]∧X=[]):=by
 unfold strings_CutPrefix at hm
 refine Does.of_wp 0 11 [.tmp 4,.tmp 5] Tryz.func115 rfl (by decide) rfl rfl (Nat.le_of_ble_eq_true rfl) fun B=>?_
 refine qS ?_
 obtain ⟨r_3,hr_3,hm⟩:=call_elim hm
 refine Wp.seqR fun K2 hK2=>?_
 simp only [go_sem,simprocAttr]
 try refine ⟨sd,?_⟩
 refine Rg.callX (av:=?av3) (g:=true) (fun hg=>ok_internal_stringslite_CutPrefix s_1 prefix_2 _ hr_3) si si si sg si ?cont3
 intro hv3
 simp only [go_sem,simprocAttr]
 first | apply hK2 | refine ⟨sd,hK2 _ _ ?_⟩
 refine Wp.ret ?_
 refine retQ_ret ?_
 cases hm
 exact fse2
theorem ok_internal_stringslite_HasSuffix (s_1:Str) (suffix_2:Str) (z:Bool) (hm:internal_stringslite_HasSuffix s_1 suffix_2=some z):Does Tryz.prog 269 [.p (.s s_1),.p (.s suffix_2)] [] (fun r X=>r=.p (.b z)∧X=[]):=by
 unfold internal_stringslite_HasSuffix at hm
 refine Does.of_wp 0 21 [.tmp 4] Tryz.func269 rfl (by decide) rfl rfl (Nat.le_of_ble_eq_true rfl) fun B=>?_
 refine qS ?_
 obtain ⟨c_3,hm⟩:=chk_elim hm
 refine Wp.seqR fun K2 hK2=>?_
 simp only [go_sem,simprocAttr]
 first | apply hK2 | refine ⟨by first | exact sd | ((repeat' apply And.intro) <;> first | assumption | omega | (simp only [List.length_append,List.length_map,List.length_cons,List.length_nil,List.length_set,List.length_replicate] at c_3 ⊢; omega)),hK2 _ _ ?_⟩
 refine Wp.ret ?_
 refine retQ_ret ?_
 cases hm
 exact fse2
theorem ok_internal_stringslite_CutSuffix (s_1:Str) (suffix_2:Str) (z:Str × Bool) (hm:internal_stringslite_CutSuffix s_1 suffix_2=some z):Does Tryz.prog 233 [.p (.s s_1),.p (.s suffix_2)] [] (fun r X=>r=.tup [.p (.s z.1),.p (.b z.2)]∧X=[]):=by
 unfold internal_stringslite_CutSuffix at hm
 refine Does.of_wp 0 18 [.tmp 4,.tmp 5] Tryz.func233 rfl (by decide) rfl rfl (Nat.le_of_ble_eq_true rfl) fun B=>?_
 refine qS ?_
 refine Wp.seqW fun K2 hK2 hW2=>?_
 obtain ⟨r_3,hr_3,hm⟩:=call_elim hm
 refine Wp.seqR fun K3 hK3=>?_
 simp only [go_sem,simprocAttr]
 try refine ⟨sd,?_⟩
 refine Rg.callX (av:=?av4) (g:=true) (fun hg=>ok_internal_stringslite_HasSuffix s_1 suffix_2 _ hr_3) si si si sg si ?cont4
 intro hv4
 simp only [go_sem,simprocAttr]
 first | apply hK3 | refine ⟨sd,hK3 _ _ ?_⟩
 refine cM hm (fun hc5 hm=>?_) (fun hc5 hm=>?_)
 ·refine qS ?_
  refine Wp.ret ?_
  refine retQ_ret ?_
  cases hm
  exact fse2
 ·refine Wp.skip ?_
  refine hK2 _ _ ?_
  obtain ⟨c_4,hm⟩:=chk_elim hm
  refine Wp.seqR fun K7 hK7=>?_
  simp only [go_sem,simprocAttr]
  first | apply hK7 | refine ⟨by first | exact sd | ((repeat' apply And.intro) <;> first | assumption | omega | (simp only [List.length_append,List.length_map,List.length_cons,List.length_nil,List.length_set,List.length_replicate] at c_4 ⊢; omega)),hK7 _ _ ?_⟩
  refine Wp.ret ?_
  refine retQ_ret ?_
  cases hm
  exact fse2
theorem ok_strings_CutSuffix (s_1:Str) (suffix_2:Str) (z:Str × Bool) (hm:strings_CutSuffix s_1 suffix_2=some z):Does Tryz.prog 183 [.p (.s s_1),.p (.s suffix_2)] [] (fun r X=>r=.tup [.p (.s z.1),.p (.b z.2)]∧X=[]):=by
 unfold strings_CutSuffix at hm
 refine Does.of_wp 0 11 [.tmp 4,.tmp 5] Tryz.func183 rfl (by decide) rfl rfl (Nat.le_of_ble_eq_true rfl) fun B=>?_
 refine qS ?_
 obtain ⟨r_3,hr_3,hm⟩:=call_elim hm
 refine Wp.seqR fun K2 hK2=>?_
 simp only [go_sem,simprocAttr]
 try refine ⟨sd,?_⟩
 refine Rg.callX (av:=?av3) (g:=true) (fun hg=>ok_internal_stringslite_CutSuffix s_1 suffix_2 _ hr_3) si si si sg si ?cont3
 intro hv3
 simp only [go_sem,simprocAttr]
 first | apply hK2 | refine ⟨sd,hK2 _ _ ?_⟩
 refine Wp.ret ?_
 refine retQ_ret ?_
 cases hm
 exact fse2
theorem ok_stage_reader_line_i1 (word_1:Str) (o0_0_2:List Str) (o0_1_3:Bool) (z:Str × Bool × List Str) (hm:stage_reader_line_i1 word_1 o0_0_2 o0_1_3=some z):Does Tryz.prog 110 [.ptr 0 0,.p (.s word_1)] [.cells 159 [.p (.l (List.map ecS o0_0_2)),.p (.b o0_1_3)]] (fun r X=>r=.p (.s z.1)∧X=[.cells 159 [.p (.l (List.map ecS z.2.2)),.p (.b z.2.1)]]):=by
 unfold stage_reader_line_i1 at hm
 refine Does.of_wp 1 58 [.tmp 4] Tryz.func110 rfl (by decide) rfl rfl (Nat.le_of_ble_eq_true rfl) fun B=>?_
 refine qS ?_
 refine Wp.seqW fun K2 hK2 hW2=>?_
 refine qS ?_
 refine cM hm (fun hc4 hm=>?_) (fun hc4 hm=>?_)
 ·refine qS ?_
  refine qS ?_
  refine Wp.ret ?_
  refine retQ_ret ?_
  cases hm
  exact fse2
 ·refine Wp.skip ?_
  refine hK2 _ _ ?_
  obtain ⟨s_9,hbs_9,hxs_9,hys_9,hm⟩:=idx_elim hm
  replace hxs_9:∀ d,(List.map ecS o0_0_2).getD 0 d=ecS s_9:=hxs_9 ecS
  obtain ⟨c_10,hm⟩:=chk_elim hm
  obtain ⟨r_11,hr_11,hm⟩:=call_elim hm
  refine Wp.seqR fun K7 hK7=>?_
  simp only [go_sem,simprocAttr,hxs_9]
  try refine ⟨by first | exact sd | ((repeat' apply And.intro) <;> first | assumption | omega | (simp only [List.length_append,List.length_map,List.length_cons,List.length_nil,List.length_set,List.length_replicate] at c_10 ⊢; omega)),?_⟩
  refine Rg.callX (av:=?av8) (g:=true) (fun hg=>ok_strings_CutPrefix s_9 (word_1++([32]:Str)) _ hr_11) (by simp only [go_sem,simprocAttr,hxs_9]; exact Is.mk) (by simp only [go_sem,simprocAttr,hxs_9]; exact Is.mk) (by simp only [go_sem,simprocAttr,hxs_9]; exact Is.mk) (by simp only [go_sem,simprocAttr,hxs_9]) (by simp only [go_sem,simprocAttr,hxs_9]; exact Is.mk) ?cont8
  intro hv8
  simp only [go_sem,simprocAttr,hxs_9]
  first | apply hK7 | refine ⟨by first | exact sd | ((repeat' apply And.intro) <;> first | assumption | omega | (simp only [List.length_append,List.length_map,List.length_cons,List.length_nil,List.length_set,List.length_replicate] at c_10 ⊢; omega)),hK7 _ _ ?_⟩
  obtain ⟨r_12,hr_12,hm⟩:=call_elim hm
  refine Wp.seqR fun K9 hK9=>?_
  simp only [go_sem,simprocAttr,hxs_9]
  try refine ⟨sd,?_⟩
  refine Rg.callX (av:=?av10) (g:=true) (fun hg=>ok_strings_CutSuffix r_11.1 ([10]:Str) _ hr_12) (by simp only [go_sem,simprocAttr,hxs_9]; exact Is.mk) (by simp only [go_sem,simprocAttr,hxs_9]; exact Is.mk) (by simp only [go_sem,simprocAttr,hxs_9]; exact Is.mk) (by simp only [go_sem,simprocAttr,hxs_9]) (by simp only [go_sem,simprocAttr,hxs_9]; exact Is.mk) ?cont10
  intro hv10
  simp only [go_sem,simprocAttr,hxs_9]
  first | apply hK9 | refine ⟨sd,hK9 _ _ ?_⟩
  obtain ⟨c_13,hm⟩:=chk_elim hm
  refine Wp.seqR fun K11 hK11=>?_
  simp only [go_sem,simprocAttr,hxs_9]
  first | apply hK11 | refine ⟨by first | exact sd | ((repeat' apply And.intro) <;> first | assumption | omega | (simp only [List.length_append,List.length_map,List.length_cons,List.length_nil,List.length_set,List.length_replicate] at c_13 ⊢; omega)),hK11 _ _ ?_⟩
  refine Wp.seqR fun K12 hK12=>?_
  simp only [go_sem,simprocAttr,hxs_9]
  first | apply hK12 | refine ⟨sd,hK12 _ _ ?_⟩
  refine Wp.seqR fun K13 hK13=>?_
  simp only [go_sem,simprocAttr,hxs_9]
  first | apply hK13 | refine ⟨sd,hK13 _ _ ?_⟩
  refine Wp.ret ?_
  refine retQ_ret ?_
  cases hm
  simp only [go_sem,simprocAttr,hxs_9]
  try exact se2
theorem ok_strconv_Atoi (s:Str) (z:Int × Bool) (hm:strconv_Atoi s=some z):Does Tryz.prog 117 [.p (.s s)] [] (fun r X=>r=.tup [.p (.i .i64 z.1),.er z.2]∧X=[]):=by
 cases hm
 exact Does.atoiA Tryz.atoiE ifc_1 ifc_2 ⟨_,Tryz.func117,by kernel_rfl,by kernel_rfl⟩ s
theorem ok_stage_number (s_1:Str) (z:Int × Bool) (hm:stage_number s_1=some z):Does Tryz.prog 184 [.p (.s s_1)] [] (fun r X=>r=.tup [.p (.i .i64 z.1),.p (.b z.2)]∧X=[]):=by
 unfold stage_number at hm
 refine Does.of_wp 0 47 [.tmp 2,.tmp 3] Tryz.func184 rfl (by decide) rfl rfl (Nat.le_of_ble_eq_true rfl) fun B=>?_
 refine qS ?_
 refine Wp.seqW fun K2 hK2 hW2=>?_
 obtain ⟨c_2,hm⟩:=chk_elim hm
 refine Wp.seqR fun K3 hK3=>?_
 simp only [go_sem,simprocAttr]
 first | apply hK3 | refine ⟨by first | exact sd | ((repeat' apply And.intro) <;> first | assumption | omega | (simp only [List.length_append,List.length_map,List.length_cons,List.length_nil,List.length_set,List.length_replicate] at c_2 ⊢; omega)),hK3 _ _ ?_⟩
 refine cM hm (fun hc4 hm=>?_) (fun hc4 hm=>?_)
 ·refine qS ?_
  refine Wp.ret ?_
  refine retQ_ret ?_
  cases hm
  exact fse2
 ·refine Wp.skip ?_
  refine hK2 _ _ ?_
  refine Wp.seqW fun K6 hK6 hW6=>?_
  obtain ⟨k_10,hk_10,hm⟩:=jp_elim hm
  have hcut6:∀ s,k_10 s=some z→K6 [(0,.p (.s s_1))] []:=by
   intro s hs
   have hm:=hk_10 _ hs
   clear hs
   try dsimp only at hm
   try dsimp only
   refine hK6 _ _ ?_
   obtain ⟨r_11,hr_11,hm⟩:=call_elim hm
   refine Wp.seqR fun K7 hK7=>?_
   simp only [go_sem,simprocAttr]
   try refine ⟨sd,?_⟩
   refine Rg.callF (av:=?av8) (ok_strconv_Atoi s_1 _ hr_11) si si sg ?cont8
   intro hv8
   simp only [go_sem,simprocAttr]
   first | apply hK7 | refine ⟨sd,hK7 _ _ ?_⟩
   refine Wp.seqD (plan:=pl [(0,none),(1,none),(2,none),(3,none),(4,none)]) (by kernel_rfl) rfl (by kernel_rfl) fun K9 hK9=>?_
   simp only [go_sem,simprocAttr]
   first | apply hK9 | refine ⟨sd,hK9 _ _ ?_⟩
   refine Wp.ret ?_
   refine retQ_ret ?_
   cases hm
   exact fse2
  clear hK6 hk_10
  refine qS ?_
  refine Wp.block ?_
  obtain ⟨k_14,hk_14,hm⟩:=forL_cont hm
  refine Wp.fact 0 fun hl_17=>?_
  replace hl_17:s_1.length≤274877906944:=by
   simp only [go_sem,simprocAttr,List.length_map] at hl_17
   omega
  refine Wp.forL (fun i_16 s=>[(0,.p (.s s_1)),(4,.p (.i .i64 (i_16:Int)))]) (fun i_16 s=>[]) ?_ hm ?_
  ·
   exact fse2
  clear hm
  intro i_16 s hii_16 hm
  try dsimp only at hm
  try dsimp only
  refine Wp.seqW fun K11 hK11 hW11=>?_
  refine qS ?_
  refine Wp.cond rfl ⟨⟩ (fun hc11=>?_) (fun hc11=>?_)
  rotate_left
  ·refine Wp.exit ?_
   have hm:=hk_14 _ (forL_end hm (ge_nat (by first | exact hc11 | simpa using hc11)))
   try dsimp only at hm
   refine hW6 _ _ _ _ ?_ (hcut6 () hm)
   exact fse2
  have hlt11:=lt_nat (by first | exact hc11 | simpa using hc11)
  have hw11:=wrap_succ hlt11 hl_17
  obtain ⟨c_18,nx_15,hxc_18,hyc_18,hnx_15,hm⟩:=forL_step hm hlt11
  clear hxc_18
  refine Wp.skip ?_
  simp only [thenQ]
  refine hK11 _ _ ?_
  refine Wp.seqW fun K13 hK13 hW13=>?_
  refine Wp.block ?_
  refine Wp.seqR fun K14 hK14=>?_
  simp only [go_sem,simprocAttr,hw11,hyc_18]
  first | apply hK14 | refine ⟨sd,hK14 _ _ ?_⟩
  refine cM hm (fun hc15 hm=>?_) (fun hc15 hm=>?_)
  ·refine Wp.seqR fun K16 hK16=>?_
   simp only [go_sem,simprocAttr,hw11,hyc_18]
   first | apply hK16 | refine ⟨sd,hK16 _ _ ?_⟩
   refine Wp.ret ?_
   refine retQ_ret ?_
   cases hm
   simp only [go_sem,simprocAttr,hw11,hyc_18]
   try exact se2
  ·refine Wp.skip ?_
   refine hK13 _ _ ?_
   refine Wp.region fun K17 hK17=>?_
   simp only [go_sem,simprocAttr,hw11,hyc_18]
   first | apply hK17 | refine ⟨sd,hK17 _ _ ?_⟩
   simp only [thenQ,blockQ,↓reduceIte]
   refine ⟨(),hlt11,hnx_15 _ hm,?_⟩
   simp only [go_sem,simprocAttr,hw11,hyc_18]
   try exact se2
theorem ok_strings_Builder_Grow (n:Int) (o0:Str) (z:Unit) (hm:strings_Builder_Grow n o0=some z):Does Tryz.prog 194 [.ptr 0 0,.p (.i .i64 n)] [.cells 211 [.np 0,.buf 1],.sb 5 o0] (fun r X=>r=.tup []∧X=[.cells 211 [.np 0,.buf 1],.sb 5 o0]):=by
 obtain ⟨h,-⟩:=chk_elim hm
 obtain ⟨k,rfl⟩:=Int.eq_ofNat_of_zero_le h.1
 exact Does.grow growLay growExt k o0 (by omega)
theorem ok_strings_Builder_copyCheck_i1 (o1_1:Str) (z:Unit) (hm:strings_Builder_copyCheck_i1 o1_1=some z):Does Tryz.prog 222 [.ptr 0 0] [.cells 211 [.nil,.buf 1],.sb 5 o1_1] (fun r X=>r=.tup []∧X=[.cells 211 [.ptr 0 0,.buf 1],.sb 5 o1_1]):=by
 unfold strings_Builder_copyCheck_i1 at hm
 refine Does.of_wp 2 20 [] Tryz.func222 rfl (by decide) rfl rfl (Nat.le_of_ble_eq_true rfl) fun B=>?_
 refine qS ?_
 refine Wp.cond rfl ⟨⟩ (fun hc2=>?_) (fun hc2=>?_)
 rotate_left
 ·cases hc2
 refine Wp.region fun K3 hK3=>?_
 simp only [go_sem,simprocAttr]
 try refine ⟨sd,?_⟩
 refine Rg.callI (v:=?av4) (g:=true) nvi_258 si si sg ?cont4
 simp only [go_sem,simprocAttr]
 first | apply hK3 | refine ⟨sd,hK3 _ _ ?_⟩
 refine retQ_normal ?_
 cases hm
 exact fse2
theorem ok_strings_Builder_copyCheck_i2 (o1_1:Str) (z:Unit) (hm:strings_Builder_copyCheck_i2 o1_1=some z):Does Tryz.prog 222 [.ptr 0 0] [.cells 211 [.ptr 0 0,.buf 1],.sb 5 o1_1] (fun r X=>r=.tup []∧X=[.cells 211 [.ptr 0 0,.buf 1],.sb 5 o1_1]):=by
 unfold strings_Builder_copyCheck_i2 at hm
 refine Does.of_wp 2 20 [] Tryz.func222 rfl (by decide) rfl rfl (Nat.le_of_ble_eq_true rfl) fun B=>?_
 refine qS ?_
 refine Wp.cond rfl ⟨⟩ (fun hc2=>?_) (fun hc2=>?_)
 ·cases hc2
 refine qS ?_
 refine Wp.cond rfl ⟨⟩ (fun hc4=>?_) (fun hc4=>?_)
 ·cases hc4
 refine Wp.skip ?_
 refine retQ_normal ?_
 cases hm
 exact fse2
theorem ok_strings_Builder_copyCheck_np (o0:Str) (z:Unit) (hm:strings_Builder_copyCheck_np o0=some z):Does Tryz.prog 222 [.ptr 0 0] [.cells 211 [.np 0,.buf 1],.sb 5 o0] (fun r X=>r=.tup []∧X=[.cells 211 [.np 0,.buf 1],.sb 5 o0]) :=
 Does.np (ok_strings_Builder_copyCheck_i1 o0 () rfl) (ok_strings_Builder_copyCheck_i2 o0 () rfl)
theorem ok_strings_Builder_WriteString_i1 (s_1:Str) (o1_2:Str) (z:Int × Str) (hm:strings_Builder_WriteString_i1 s_1 o1_2=some z):Does Tryz.prog 170 [.ptr 0 0,.p (.s s_1)] [.cells 211 [.np 0,.buf 1],.sb 5 o1_2] (fun r X=>r=.tup [.p (.i .i64 z.1),.raw .nilIface]∧X=[.cells 211 [.np 0,.buf 1],.sb 5 z.2]):=by
 unfold strings_Builder_WriteString_i1 at hm
 refine Does.of_wp 2 19 [.tmp 4,.tmp 5] Tryz.func170 rfl (by decide) rfl rfl (Nat.le_of_ble_eq_true rfl) fun B=>?_
 refine qS ?_
 obtain ⟨r_5,hr_5,hm⟩:=call_elim hm
 refine Wp.seqR fun K2 hK2=>?_
 simp only [go_sem,simprocAttr]
 try refine ⟨sd,?_⟩
 refine Rg.callO (av:=?av3) [0,1] (ok_strings_Builder_copyCheck_np o1_2 _ hr_5) si si si sg sg ?cont3
 rintro _ _ ⟨rfl,rfl⟩ hv3
 simp only [go_sem,simprocAttr]
 first | apply hK2 | refine ⟨sd,hK2 _ _ ?_⟩
 obtain ⟨c_6,hm⟩:=chk_elim hm
 refine Wp.seqR fun K4 hK4=>?_
 simp only [go_sem,simprocAttr]
 first | apply hK4 | refine ⟨by first | exact sd | ((repeat' apply And.intro) <;> first | assumption | omega | (simp only [List.length_append,List.length_map,List.length_cons,List.length_nil,List.length_set,List.length_replicate] at c_6 ⊢; omega)),hK4 _ _ ?_⟩
 refine qS ?_
 refine Wp.ret ?_
 refine retQ_ret ?_
 cases hm
 exact fse2
theorem ok_strings_Builder_String_i1 (o1_1:Str) (z:Str) (hm:strings_Builder_String_i1 o1_1=some z):Does Tryz.prog 175 [.ptr 0 0] [.cells 211 [.np 0,.buf 1],.sb 5 o1_1] (fun r X=>r=.p (.s z)∧X=[.cells 211 [.np 0,.buf 1],.sb 5 o1_1]):=by
 unfold strings_Builder_String_i1 at hm
 refine Does.of_wp 2 14 [.tmp 2] Tryz.func175 rfl (by decide) rfl rfl (Nat.le_of_ble_eq_true rfl) fun B=>?_
 refine qS ?_
 refine Wp.seqD (plan:=pl [(0,none),(1,none),(2,none),(3,none),(5,none),(6,none),(7,none),(8,none),(9,none),(4,some [5,6,7,8,9]),(10,some []),(11,none)]) (by kernel_rfl) rfl (by kernel_rfl) fun K2 hK2=>?_
 simp only [go_sem,simprocAttr]
 first | apply hK2 | refine ⟨sd,hK2 _ _ ?_⟩
 refine Wp.ret ?_
 refine retQ_ret ?_
 cases hm
 exact fse2
end Go.Proofs.YtbofknpajcdnmaaGreatDoor
