/- That the code does what the models say (part 7). -/
import Derived.Test.YtbofknpajcdnmaaGreatDoorDmWk0
import Derived.Test.YtbofknpajcdnmaaGreatDoorDmWk3
import Derived.Test.YtbofknpajcdnmaaGreatDoorDmWk5
import Derived.Test.YtbofknpajcdnmaaGreatDoorDmWk6
set_option linter.unusedSimpArgs false
set_option linter.unusedVariables false
open Go.Proofs Go.Shelf
namespace Go.Proofs.YtbofknpajcdnmaaGreatDoor
open Go.Vc Go.Md
set_option maxRecDepth 100000
set_option maxHeartbeats 4000000
theorem ok_disk_bench_conflict_1_i1 (dir_1:Str) (o1_0_2:List api_Setting) (m2_3:List (Str × api_File)) (m3_4:List (Str × Int)) (m4_5:List (Str × api_Setting)) (m5_6:List (Str × api_Service)) (z:Bool) (hm:disk_bench_conflict_1_i1 dir_1 o1_0_2 m2_3 m3_4 m4_5 m5_6=some z):Does Tryz.prog 251 [.p (.s dir_1),.ptr 0 0] [.cells 111 [.ptr 1 0],.cells 193 [.p (.l (List.map enc_api_Setting o1_0_2)),.mp 2,.mp 3,.mp 4,.mp 5],.mp true (encM Dt.s enc_api_File m2_3),.mp false (encM Dt.s ecI_i64 m3_4),.mp true (encM Dt.s enc_api_Setting m4_5),.mp true (encM Dt.s enc_api_Service m5_6)] (fun r X=>r=.p (.b z)∧X=[.cells 111 [.ptr 1 0],.cells 193 [.p (.l (List.map enc_api_Setting o1_0_2)),.mp 2,.mp 3,.mp 4,.mp 5],.mp true (encM Dt.s enc_api_File m2_3),.mp false (encM Dt.s ecI_i64 m3_4),.mp true (encM Dt.s enc_api_Setting m4_5),.mp true (encM Dt.s enc_api_Service m5_6)]):=by
 unfold disk_bench_conflict_1_i1 at hm
 refine dW 6 17 [.tmp 3] Tryz.func251 fun B=>?_
 refine qS ?_
 obtain ⟨q_9,hq_10,hm⟩:=letv_elim hm
 have hq_10d:=mlookD_enc (e:=enc_api_File) keq_s m2_3 dir_1 (api_File.mk [] [] false)
 have hq_10s:=mlook_some (e:=enc_api_File) keq_s m2_3 dir_1
 simp only [hq_10,enc_api_File,List.map_nil] at hq_10d hq_10s
 refine Wp.seqR fun K2 hK2=>?_
 simp only [go_sem,simprocAttr,hq_10d,hq_10s]
 refine kA hK2 ?_
 refine qS ?_
 refine Wp.ret ?_
 refine retQ_ret ?_
 cases hm
 exact fse1
theorem ok_disk_above_i3 (path_1:Str) (o1_0_2:List api_Setting) (m2_3:List (Str × api_File)) (m3_4:List (Str × Int)) (m4_5:List (Str × api_Setting)) (m5_6:List (Str × api_Service)) (z:Bool) (hm:disk_above_i3 path_1 o1_0_2 m2_3 m3_4 m4_5 m5_6=some z):Does Tryz.prog 139 [.p (.s path_1),.fn 251 [.ptr 0 0]] [.cells 111 [.ptr 1 0],.cells 193 [.p (.l (List.map enc_api_Setting o1_0_2)),.mp 2,.mp 3,.mp 4,.mp 5],.mp true (encM Dt.s enc_api_File m2_3),.mp false (encM Dt.s ecI_i64 m3_4),.mp true (encM Dt.s enc_api_Setting m4_5),.mp true (encM Dt.s enc_api_Service m5_6)] (fun r X=>r=.p (.b z)∧X=[.cells 111 [.ptr 1 0],.cells 193 [.p (.l (List.map enc_api_Setting o1_0_2)),.mp 2,.mp 3,.mp 4,.mp 5],.mp true (encM Dt.s enc_api_File m2_3),.mp false (encM Dt.s ecI_i64 m3_4),.mp true (encM Dt.s enc_api_Setting m4_5),.mp true (encM Dt.s enc_api_Service m5_6)]):=by
 unfold disk_above_i3 at hm
 refine dW 6 24 [.tmp 4] Tryz.func139 fun B=>?_
 refine qS ?_
 refine Wp.seqW fun K2 hK2 hW2=>?_
 obtain ⟨k_41,hk_41,hm⟩:=jp_elim hm
 have hcut2:∀ s,k_41 s=some z→K2 [] [.cells 111 [.ptr 1 0],.cells 193 [.p (.l (List.map enc_api_Setting o1_0_2)),.mp 2,.mp 3,.mp 4,.mp 5],.mp true (encM Dt.s enc_api_File m2_3),.mp false (encM Dt.s ecI_i64 m3_4),.mp true (encM Dt.s enc_api_Setting m4_5),.mp true (encM Dt.s enc_api_Service m5_6)]:=by
  intro s hs
  have hm:=hk_41 _ hs
  clear hs
  try dsimp only at hm
  try dsimp only
  refine hK2 _ _ ?_
  refine qS ?_
  refine Wp.ret ?_
  refine retQ_ret ?_
  cases hm
  exact fse1
 clear hK2 hk_41
 refine qS ?_
 refine Wp.block ?_
 obtain ⟨k_46,hk_46,hm⟩:=forL_cont hm
 refine Wp.fact 0 fun hl_49=>?_
 replace hl_49:path_1.length≤274877906944:=by
  simp only [go_sem,simprocAttr,List.length_map] at hl_49
  omega
 refine Wp.forL (fun i_48 s=>[(0,.p (.s path_1)),(1,.fn 251 [.ptr 0 0]),(5,.p (.i .i64 (i_48:Int)))]) (fun i_48 s=>[.cells 111 [.ptr 1 0],.cells 193 [.p (.l (List.map enc_api_Setting o1_0_2)),.mp 2,.mp 3,.mp 4,.mp 5],.mp true (encM Dt.s enc_api_File m2_3),.mp false (encM Dt.s ecI_i64 m3_4),.mp true (encM Dt.s enc_api_Setting m4_5),.mp true (encM Dt.s enc_api_Service m5_6)]) ?_ hm ?_
 ·
  exact fse1
 clear hm
 intro i_48 s hii_48 hm
 try dsimp only at hm
 try dsimp only
 refine Wp.seqW fun K5 hK5 hW5=>?_
 refine qS ?_
 refine Wp.cond rfl ⟨⟩ (fun hc5=>?_) (fun hc5=>?_)
 rotate_left
 ·refine Wp.exit ?_
  have hm:=hk_46 _ (forL_end hm (ge_nat (by first | exact hc5 | simpa using hc5)))
  try dsimp only at hm
  refine hW2 _ _ _ _ ?_ (hcut2 () hm)
  exact fse1
 have hlt5:=lt_nat (by first | exact hc5 | simpa using hc5)
 have hw5:=wrap_succ hlt5 hl_49
 obtain ⟨c_50,nx_47,hxc_50,hyc_50,hnx_47,hm⟩:=forL_step hm hlt5
 clear hxc_50
 refine Wp.skip ?_
 simp only [thenQ]
 refine hK5 _ _ ?_
 refine Wp.seqW fun K7 hK7 hW7=>?_
 refine Wp.block ?_
 obtain ⟨c_51,hm⟩:=chk_elim hm
 obtain ⟨r_52,hr_52,hm⟩:=callG_elim hm
 refine Wp.seqR fun K8 hK8=>?_
 simp only [go_sem,simprocAttr,hw5,hyc_50]
 try refine ⟨sL,?_⟩
 refine Rg.callR (av:=?av9) (g:=decide ((c_50.toNat:Int)=47)) [0,1,2,3,4,5] (fun hg=>ok_disk_bench_conflict_1_i1 (List.take i_48 path_1) o1_0_2 m2_3 m3_4 m4_5 m5_6 _ (hr_52 hg)) (by simp only [go_sem,simprocAttr,hw5,hyc_50]; exact Is.mk) (by simp only [go_sem,simprocAttr,hw5,hyc_50]; exact Is.mk) (by simp only [go_sem,simprocAttr,hw5,hyc_50]; exact Is.mk) (by simp only [go_sem,simprocAttr,hw5,hyc_50]; exact Is.mk) (by simp only [go_sem,simprocAttr,hw5,hyc_50]) (by simp only [go_sem,simprocAttr,hw5,hyc_50]) (by simp only [go_sem,simprocAttr,hw5,hyc_50]) ?cont9
 simp only [go_sem,simprocAttr,hw5,hyc_50]
 refine kA hK8 ?_
 refine cM hm (fun hc10 hm=>?_) (fun hc10 hm=>?_)
 ·refine Wp.seqR fun K11 hK11=>?_
  simp only [go_sem,simprocAttr,hw5,hyc_50]
  refine kA hK11 ?_
  refine Wp.ret ?_
  refine retQ_ret ?_
  cases hm
  simp only [go_sem,simprocAttr,hw5,hyc_50]
  try exact se1
 ·refine Wp.skip ?_
  refine hK7 _ _ ?_
  refine Wp.region fun K12 hK12=>?_
  simp only [go_sem,simprocAttr,hw5,hyc_50]
  refine kA hK12 ?_
  simp only [thenQ,blockQ,↓reduceIte]
  refine ⟨(),hlt5,hnx_47 _ hm,?_⟩
  simp only [go_sem,simprocAttr,hw5,hyc_50]
  try exact se1
theorem ok_disk_bench_conflict_i1 (path_1:Str) (o0_0_2:List api_Setting) (m1_3:List (Str × api_File)) (m2_4:List (Str × Int)) (m3_5:List (Str × api_Setting)) (m4_6:List (Str × api_Service)) (z:Bool) (hm:disk_bench_conflict_i1 path_1 o0_0_2 m1_3 m2_4 m3_5 m4_6=some z):Does Tryz.prog 206 [.ptr 0 0,.p (.s path_1)] [.cells 193 [.p (.l (List.map enc_api_Setting o0_0_2)),.mp 1,.mp 2,.mp 3,.mp 4],.mp true (encM Dt.s enc_api_File m1_3),.mp false (encM Dt.s ecI_i64 m2_4),.mp true (encM Dt.s enc_api_Setting m3_5),.mp true (encM Dt.s enc_api_Service m4_6)] (fun r X=>r=.p (.b z)∧X=[.cells 193 [.p (.l (List.map enc_api_Setting o0_0_2)),.mp 1,.mp 2,.mp 3,.mp 4],.mp true (encM Dt.s enc_api_File m1_3),.mp false (encM Dt.s ecI_i64 m2_4),.mp true (encM Dt.s enc_api_Setting m3_5),.mp true (encM Dt.s enc_api_Service m4_6)]):=by
 unfold disk_bench_conflict_i1 at hm
 refine dW 5 20 [.tmp 4] Tryz.func206 fun B=>?_
 refine qS ?_
 obtain ⟨r_10,hr_10,hm⟩:=call_elim hm
 refine Wp.seqR fun K2 hK2=>?_
 simp only [go_sem,simprocAttr]
 try refine ⟨sd,?_⟩
 refine Rg.callR (av:=?av3) (g:=true) [5,0,1,2,3,4] (fun hg=>ok_disk_above_i3 path_1 o0_0_2 m1_3 m2_4 m3_5 m4_6 _ hr_10) si si si si sg sg sg ?cont3
 simp only [go_sem,simprocAttr]
 refine kA hK2 ?_
 obtain ⟨q_11,hq_12,hm⟩:=letv_elim hm
 have hq_12d:=mlookD_enc (e:=ecI_i64) keq_s m2_4 path_1 0
 have hq_12s:=mlook_some (e:=ecI_i64) keq_s m2_4 path_1
 simp only [hq_12,ecI_i64,List.map_nil] at hq_12d hq_12s
 refine Wp.seqR fun K4 hK4=>?_
 simp only [go_sem,simprocAttr,hq_12d,hq_12s]
 refine kA hK4 ?_
 refine Wp.ret ?_
 refine retQ_ret ?_
 cases hm
 exact fse1
theorem ok_disk_missing_api_File_i1 (key_1:Str) (m0_2:List (Str × api_File)) (z:Bool) (hm:disk_missing_api_File_i1 key_1 m0_2=some z):Does Tryz.prog 207 [.mp 0,.p (.s key_1)] [.mp true (encM Dt.s enc_api_File m0_2)] (fun r X=>r=.p (.b z)∧X=[.mp true (encM Dt.s enc_api_File m0_2)]):=by
 unfold disk_missing_api_File_i1 at hm
 refine dW 1 15 [.tmp 4] Tryz.func207 fun B=>?_
 refine qS ?_
 obtain ⟨q_5,hq_6,hm⟩:=letv_elim hm
 have hq_6d:=mlookD_enc (e:=enc_api_File) keq_s m0_2 key_1 (api_File.mk [] [] false)
 have hq_6s:=mlook_some (e:=enc_api_File) keq_s m0_2 key_1
 simp only [hq_6,enc_api_File,List.map_nil] at hq_6d hq_6s
 refine Wp.seqR fun K2 hK2=>?_
 simp only [go_sem,simprocAttr,hq_6d,hq_6s]
 refine kA hK2 ?_
 refine qS ?_
 refine Wp.ret ?_
 refine retQ_ret ?_
 cases hm
 exact fse1
theorem ok_disk_missing_api_Setting_i1 (key_1:Str) (m0_2:List (Str × api_Setting)) (z:Bool) (hm:disk_missing_api_Setting_i1 key_1 m0_2=some z):Does Tryz.prog 208 [.mp 0,.p (.s key_1)] [.mp true (encM Dt.s enc_api_Setting m0_2)] (fun r X=>r=.p (.b z)∧X=[.mp true (encM Dt.s enc_api_Setting m0_2)]):=by
 unfold disk_missing_api_Setting_i1 at hm
 refine dW 1 15 [.tmp 4] Tryz.func208 fun B=>?_
 refine qS ?_
 obtain ⟨q_5,hq_6,hm⟩:=letv_elim hm
 have hq_6d:=mlookD_enc (e:=enc_api_Setting) keq_s m0_2 key_1 (api_Setting.mk [] [])
 have hq_6s:=mlook_some (e:=enc_api_Setting) keq_s m0_2 key_1
 simp only [hq_6,enc_api_Setting,List.map_nil] at hq_6d hq_6s
 refine Wp.seqR fun K2 hK2=>?_
 simp only [go_sem,simprocAttr,hq_6d,hq_6s]
 refine kA hK2 ?_
 refine qS ?_
 refine Wp.ret ?_
 refine retQ_ret ?_
 cases hm
 exact fse1
theorem ok_disk_missing_api_Service_i1 (key_1:Str) (m0_2:List (Str × api_Service)) (z:Bool) (hm:disk_missing_api_Service_i1 key_1 m0_2=some z):Does Tryz.prog 209 [.mp 0,.p (.s key_1)] [.mp true (encM Dt.s enc_api_Service m0_2)] (fun r X=>r=.p (.b z)∧X=[.mp true (encM Dt.s enc_api_Service m0_2)]):=by
 unfold disk_missing_api_Service_i1 at hm
 refine dW 1 15 [.tmp 4] Tryz.func209 fun B=>?_
 refine qS ?_
 obtain ⟨q_5,hq_6,hm⟩:=letv_elim hm
 have hq_6d:=mlookD_enc (e:=enc_api_Service) keq_s m0_2 key_1 (api_Service.mk [] [] false false)
 have hq_6s:=mlook_some (e:=enc_api_Service) keq_s m0_2 key_1
 simp only [hq_6,enc_api_Service,List.map_nil] at hq_6d hq_6s
 refine Wp.seqR fun K2 hK2=>?_
 simp only [go_sem,simprocAttr,hq_6d,hq_6s]
 refine kA hK2 ?_
 refine qS ?_
 refine Wp.ret ?_
 refine retQ_ret ?_
 cases hm
 exact fse1
theorem ok_disk_bench_fault_i1 (c_1:api_Change) (o0_0_2:List api_Setting) (m1_3:List (Str × api_File)) (m2_4:List (Str × Int)) (m3_5:List (Str × api_Setting)) (m4_6:List (Str × api_Service)) (z:Int) (hm:disk_bench_fault_i1 c_1 o0_0_2 m1_3 m2_4 m3_5 m4_6=some z):Does Tryz.prog 151 [.ptr 0 0,.agg [.p (.i .i64 c_1.Kind),.p (.s c_1.File.Path),.p (.s c_1.File.Data),.p (.b c_1.File.Runs),.p (.s c_1.Setting.Key),.p (.s c_1.Setting.Value),.p (.s c_1.Service.Name),.p (.s c_1.Service.Path),.p (.b c_1.Service.Auto),.p (.b c_1.Service.On)]] [.cells 193 [.p (.l (List.map enc_api_Setting o0_0_2)),.mp 1,.mp 2,.mp 3,.mp 4],.mp true (encM Dt.s enc_api_File m1_3),.mp false (encM Dt.s ecI_i64 m2_4),.mp true (encM Dt.s enc_api_Setting m3_5),.mp true (encM Dt.s enc_api_Service m4_6)] (fun r X=>r=.p (.i .i64 z)∧X=[.cells 193 [.p (.l (List.map enc_api_Setting o0_0_2)),.mp 1,.mp 2,.mp 3,.mp 4],.mp true (encM Dt.s enc_api_File m1_3),.mp false (encM Dt.s ecI_i64 m2_4),.mp true (encM Dt.s enc_api_Setting m3_5),.mp true (encM Dt.s enc_api_Service m4_6)]):=by
 unfold disk_bench_fault_i1 at hm
 refine dW 5 97 [.tmp 4] Tryz.func151 fun B=>?_
 refine qS ?_
 refine qS ?_
 refine Wp.seqW fun K3 hK3 hW3=>?_
 obtain ⟨k_41,hk_41,hm⟩:=jp_elim hm
 have hcut3:∀ s,k_41 s=some z→K3 [(5,.p (.b s.1)),(6,.p (.i .i64 s.2.1)),(7,.p (.i .i64 s.2.2))] [.cells 193 [.p (.l (List.map enc_api_Setting o0_0_2)),.mp 1,.mp 2,.mp 3,.mp 4],.mp true (encM Dt.s enc_api_File m1_3),.mp false (encM Dt.s ecI_i64 m2_4),.mp true (encM Dt.s enc_api_Setting m3_5),.mp true (encM Dt.s enc_api_Service m4_6)]:=by
  intro s hs
  have hm:=hk_41 _ hs
  clear hs
  obtain ⟨gone_38,many_39,most_40⟩:=s
  try dsimp only at hm
  try dsimp only
  refine hK3 _ _ ?_
  refine Wp.seqW fun K4 hK4 hW4=>?_
  refine qS ?_
  refine cM hm (fun hc6 hm=>?_) (fun hc6 hm=>?_)
  ·refine qS ?_
   refine Wp.ret ?_
   refine retQ_ret ?_
   cases hm
   exact fse1
  ·refine Wp.skip ?_
   refine hK4 _ _ ?_
   refine Wp.seqW fun K8 hK8 hW8=>?_
   refine qS ?_
   refine cM hm (fun hc10 hm=>?_) (fun hc10 hm=>?_)
   ·refine qS ?_
    refine Wp.ret ?_
    refine retQ_ret ?_
    cases hm
    exact fse1
   ·refine Wp.skip ?_
    refine hK8 _ _ ?_
    refine qS ?_
    refine Wp.ret ?_
    refine retQ_ret ?_
    cases hm
    exact fse1
 clear hK3 hk_41
 refine qS ?_
 refine Wp.block ?_
 refine qS ?_
 refine cM hm (fun hc15 hm=>?_) (fun hc15 hm=>?_)
 ·refine Wp.seqW fun K16 hK16 hW16=>?_
  obtain ⟨r_42,hr_42,hm⟩:=call_elim hm
  refine Wp.seqR fun K17 hK17=>?_
  simp only [go_sem,simprocAttr]
  try refine ⟨sd,?_⟩
  refine Rg.callR (av:=?av18) (g:=true) [0,1,2,3,4] (fun hg=>ok_disk_bench_conflict_i1 c_1.File.Path o0_0_2 m1_3 m2_4 m3_5 m4_6 _ hr_42) si si si si sg sg sg ?cont18
  simp only [go_sem,simprocAttr]
  refine kA hK17 ?_
  refine cM hm (fun hc19 hm=>?_) (fun hc19 hm=>?_)
  ·refine qS ?_
   refine Wp.ret ?_
   refine retQ_ret ?_
   cases hm
   exact fse1
  ·refine Wp.skip ?_
   refine hK16 _ _ ?_
   obtain ⟨r_43,hr_43,hm⟩:=call_elim hm
   refine Wp.seqD (plan:=pl [(0,none),(1,none),(2,none),(3,none),(4,none),(5,none),(6,none),(7,some [])]) (by kernel_rfl) rfl (by kernel_rfl) fun K21 hK21=>?_
   simp only [go_sem,simprocAttr]
   try refine ⟨sd,?_⟩
   refine Dr.of_br (Br.callR (av:=?av22) (g:=true) (o:=?o22) [1] (fun hg=>ok_disk_missing_api_File_i1 c_1.File.Path m1_3 _ hr_43) si si si si si sg sg sg sg ?cont22)
   simp only [go_sem,simprocAttr]
   refine kA hK21 ?_
   refine cM hm (fun hc23 hm=>?_) (fun hc23 hm=>?_)
   ·refine qR ?_
    refine hW3 _ _ _ _ ?_ (hcut3 (false,IntKind.i64.wrap ((m1_3.length:Int)+1),2000) hm)
    exact fse1
   ·refine Wp.skip ?_
    refine hW3 _ _ _ _ ?_ (hcut3 (false,0,1) hm)
    exact fse1
 ·refine qS ?_
  refine cM hm (fun hc26 hm=>?_) (fun hc26 hm=>?_)
  ·obtain ⟨r_44,hr_44,hm⟩:=call_elim hm
   refine Wp.regD (plan:=pl [(0,none),(1,none),(2,none),(3,none),(4,none),(5,none),(6,none),(7,some []),(8,none)]) (by kernel_rfl) rfl (by kernel_rfl) fun K27 hK27=>?_
   simp only [go_sem,simprocAttr]
   try refine ⟨sd,?_⟩
   refine Dr.of_br (Br.callR (av:=?av28) (g:=true) (o:=?o28) [1] (fun hg=>ok_disk_missing_api_File_i1 c_1.File.Path m1_3 _ hr_44) si si si si si sg sg sg sg ?cont28)
   simp only [go_sem,simprocAttr]
   refine kA hK27 ?_
   refine hW3 _ _ _ _ ?_ (hcut3 (r_44,0,1) hm)
   exact fse1
  ·refine qS ?_
   refine cM hm (fun hc30 hm=>?_) (fun hc30 hm=>?_)
   ·obtain ⟨r_45,hr_45,hm⟩:=call_elim hm
    refine Wp.seqD (plan:=pl [(0,none),(1,none),(2,none),(3,none),(4,none),(5,none),(6,none),(7,some [])]) (by kernel_rfl) rfl (by kernel_rfl) fun K31 hK31=>?_
    simp only [go_sem,simprocAttr]
    try refine ⟨sd,?_⟩
    refine Dr.of_br (Br.callR (av:=?av32) (g:=true) (o:=?o32) [3] (fun hg=>ok_disk_missing_api_Setting_i1 c_1.Setting.Key m3_5 _ hr_45) si si si si si sg sg sg sg ?cont32)
    simp only [go_sem,simprocAttr]
    refine kA hK31 ?_
    refine cM hm (fun hc33 hm=>?_) (fun hc33 hm=>?_)
    ·refine qR ?_
     refine hW3 _ _ _ _ ?_ (hcut3 (false,IntKind.i64.wrap ((m3_5.length:Int)+1),2000) hm)
     exact fse1
    ·refine Wp.skip ?_
     refine hW3 _ _ _ _ ?_ (hcut3 (false,0,1) hm)
     exact fse1
   ·refine qS ?_
    refine cM hm (fun hc36 hm=>?_) (fun hc36 hm=>?_)
    ·obtain ⟨r_46,hr_46,hm⟩:=call_elim hm
     refine Wp.regD (plan:=pl [(0,none),(1,none),(2,none),(3,none),(4,none),(5,none),(6,none),(7,some []),(8,none)]) (by kernel_rfl) rfl (by kernel_rfl) fun K37 hK37=>?_
     simp only [go_sem,simprocAttr]
     try refine ⟨sd,?_⟩
     refine Dr.of_br (Br.callR (av:=?av38) (g:=true) (o:=?o38) [3] (fun hg=>ok_disk_missing_api_Setting_i1 c_1.Setting.Key m3_5 _ hr_46) si si si si si sg sg sg sg ?cont38)
     simp only [go_sem,simprocAttr]
     refine kA hK37 ?_
     refine hW3 _ _ _ _ ?_ (hcut3 (r_46,0,1) hm)
     exact fse1
    ·refine qS ?_
     refine cM hm (fun hc40 hm=>?_) (fun hc40 hm=>?_)
     ·obtain ⟨r_47,hr_47,hm⟩:=call_elim hm
      refine Wp.seqD (plan:=pl [(0,none),(1,none),(2,none),(3,none),(4,none),(5,none),(6,none),(7,some [])]) (by kernel_rfl) rfl (by kernel_rfl) fun K41 hK41=>?_
      simp only [go_sem,simprocAttr]
      try refine ⟨sd,?_⟩
      refine Dr.of_br (Br.callR (av:=?av42) (g:=true) (o:=?o42) [4] (fun hg=>ok_disk_missing_api_Service_i1 c_1.Service.Name m4_6 _ hr_47) si si si si si sg sg sg sg ?cont42)
      simp only [go_sem,simprocAttr]
      refine kA hK41 ?_
      refine cM hm (fun hc43 hm=>?_) (fun hc43 hm=>?_)
      ·refine qR ?_
       refine hW3 _ _ _ _ ?_ (hcut3 (false,IntKind.i64.wrap ((m4_6.length:Int)+1),100) hm)
       exact fse1
      ·refine Wp.skip ?_
       refine hW3 _ _ _ _ ?_ (hcut3 (false,0,1) hm)
       exact fse1
     ·refine qS ?_
      refine cM hm (fun hc46 hm=>?_) (fun hc46 hm=>?_)
      ·obtain ⟨r_48,hr_48,hm⟩:=call_elim hm
       refine Wp.regD (plan:=pl [(0,none),(1,none),(2,none),(3,none),(4,none),(5,none),(6,none),(7,some []),(8,none)]) (by kernel_rfl) rfl (by kernel_rfl) fun K47 hK47=>?_
       simp only [go_sem,simprocAttr]
       try refine ⟨sd,?_⟩
       refine Dr.of_br (Br.callR (av:=?av48) (g:=true) (o:=?o48) [4] (fun hg=>ok_disk_missing_api_Service_i1 c_1.Service.Name m4_6 _ hr_48) si si si si si sg sg sg sg ?cont48)
       simp only [go_sem,simprocAttr]
       refine kA hK47 ?_
       refine hW3 _ _ _ _ ?_ (hcut3 (r_48,0,1) hm)
       exact fse1
      ·refine Wp.skip ?_
       refine hW3 _ _ _ _ ?_ (hcut3 (false,0,1) hm)
       exact fse1
theorem ok_disk_Disk_lose_i1 (c_1:api_Change) (o0_1_2:Bool) (o0_2_3:Bool) (o0_3_4:Int) (o0_4_5:Bool) (o0_5_6:Int) (o1_0_7:List api_Setting) (m2_8:List (Str × api_File)) (m3_9:List (Str × Int)) (m4_10:List (Str × api_Setting)) (m5_11:List (Str × api_Service)) (z:Int × Bool × Bool × Int × (List (Str × api_File)) × (List (Str × Int))) (hm:disk_Disk_lose_i1 c_1 o0_1_2 o0_2_3 o0_3_4 o0_4_5 o0_5_6 o1_0_7 m2_8 m3_9 m4_10 m5_11=some z):Does Tryz.prog 75 [.ptr 0 0,.agg [.p (.i .i64 c_1.Kind),.p (.s c_1.File.Path),.p (.s c_1.File.Data),.p (.b c_1.File.Runs),.p (.s c_1.Setting.Key),.p (.s c_1.Setting.Value),.p (.s c_1.Service.Name),.p (.s c_1.Service.Path),.p (.b c_1.Service.Auto),.p (.b c_1.Service.On)]] [.cells 114 [.ptr 1 0,.p (.b o0_1_2),.p (.b o0_2_3),.p (.i .i64 o0_3_4),.p (.b o0_4_5),.p (.i .i64 o0_5_6)],.cells 193 [.p (.l (List.map enc_api_Setting o1_0_7)),.mp 2,.mp 3,.mp 4,.mp 5],.mp true (encM Dt.s enc_api_File m2_8),.mp false (encM Dt.s ecI_i64 m3_9),.mp true (encM Dt.s enc_api_Setting m4_10),.mp true (encM Dt.s enc_api_Service m5_11)] (fun r X=>r=.p (.i .i64 z.1)∧X=[.cells 114 [.ptr 1 0,.p (.b z.2.1),.p (.b z.2.2.1),.p (.i .i64 o0_3_4),.p (.b o0_4_5),.p (.i .i64 z.2.2.2.1)],.cells 193 [.p (.l (List.map enc_api_Setting o1_0_7)),.mp 2,.mp 3,.mp 4,.mp 5],.mp true (encM Dt.s enc_api_File z.2.2.2.2.1),.mp false (encM Dt.s ecI_i64 z.2.2.2.2.2),.mp true (encM Dt.s enc_api_Setting m4_10),.mp true (encM Dt.s enc_api_Service m5_11)]):=by
 unfold disk_Disk_lose_i1 at hm
 refine dW 6 61 [.tmp 4] Tryz.func75 fun B=>?_
 refine qS ?_
 refine Wp.seqW fun K2 hK2 hW2=>?_
 obtain ⟨r_19,hr_19,hm⟩:=call_elim hm
 refine Wp.seqR fun K3 hK3=>?_
 simp only [go_sem,simprocAttr]
 try refine ⟨sd,?_⟩
 refine Rg.callX (av:=?av4) (g:=true) (fun hg=>ok_disk_CheckChange c_1 _ hr_19) si si si sg si ?cont4
 intro hv4
 simp only [go_sem,simprocAttr]
 refine kA hK3 ?_
 refine qS ?_
 refine cM hm (fun hc6 hm=>?_) (fun hc6 hm=>?_)
 ·refine qS ?_
  refine Wp.ret ?_
  refine retQ_ret ?_
  cases hm
  exact fse1
 ·refine Wp.skip ?_
  refine hK2 _ _ ?_
  refine Wp.seqW fun K8 hK8 hW8=>?_
  obtain ⟨r_20,hr_20,hm⟩:=call_elim hm
  refine Wp.seqD (plan:=pl [(0,none),(1,none),(2,none),(3,none),(4,none),(5,some []),(6,none)]) (by kernel_rfl) rfl (by kernel_rfl) fun K9 hK9=>?_
  simp only [go_sem,simprocAttr]
  try refine ⟨sd,?_⟩
  refine Dr.of_br (Br.callR (av:=?av10) (g:=true) (o:=?o10) [1,2,3,4,5] (fun hg=>ok_disk_bench_fault_i1 c_1 o1_0_7 m2_8 m3_9 m4_10 m5_11 _ hr_20) si si si si si sg sg sg sg ?cont10)
  simp only [go_sem,simprocAttr]
  refine kA hK9 ?_
  refine qS ?_
  refine cM hm (fun hc12 hm=>?_) (fun hc12 hm=>?_)
  ·refine qS ?_
   refine Wp.ret ?_
   refine retQ_ret ?_
   cases hm
   exact fse1
  ·refine Wp.skip ?_
   refine hK8 _ _ ?_
   refine Wp.seqW fun K14 hK14 hW14=>?_
   refine qS ?_
   refine cM hm (fun hc16 hm=>?_) (fun hc16 hm=>?_)
   ·obtain ⟨c_21,hm⟩:=chk_elim hm
    obtain ⟨c_22,hm⟩:=chk_elim hm
    refine Wp.seqR fun K17 hK17=>?_
    simp only [go_sem,simprocAttr]
    refine kA hK17 ?_
    obtain ⟨r_23,hr_23,hm⟩:=call_elim hm
    refine Wp.seqD (plan:=pl [(0,none),(1,none),(2,none),(3,none),(4,none),(5,none),(6,some [])]) (by kernel_rfl) rfl (by kernel_rfl) fun K18 hK18=>?_
    simp only [go_sem,simprocAttr]
    try refine ⟨sd,?_⟩
    refine Dr.of_br (Br.callE (av:=?av19) (o:=?o19) [1,2,3,4,5] (ok_disk_bench_put_i1 (api_File.mk c_1.File.Path (List.take ((IntKind.i64.wrap (Int.tdiv (c_1.File.Data.length:Int) 2)).toNat) c_1.File.Data) c_1.File.Runs) o1_0_7 m2_8 m3_9 m4_10 m5_11 _ hr_23) si si si si si sg sg sg sg ?cont19)
    simp only [go_sem,simprocAttr]
    refine kA hK18 ?_
    refine qR ?_
    refine hK14 _ _ ?_
    refine qS ?_
    refine qS ?_
    refine Wp.ret ?_
    refine retQ_ret ?_
    cases hm
    exact fse1
   ·refine Wp.skip ?_
    refine hK14 _ _ ?_
    refine qS ?_
    refine qS ?_
    refine Wp.ret ?_
    refine retQ_ret ?_
    cases hm
    exact fse1
theorem ok_disk_bench_remove_i1 (path_1:Str) (o0_0_2:List api_Setting) (m1_3:List (Str × api_File)) (m2_4:List (Str × Int)) (m3_5:List (Str × api_Setting)) (m4_6:List (Str × api_Service)) (z:(List (Str × api_File)) × (List (Str × Int))) (hm:disk_bench_remove_i1 path_1 o0_0_2 m1_3 m2_4 m3_5 m4_6=some z):Does Tryz.prog 152 [.ptr 0 0,.p (.s path_1)] [.cells 193 [.p (.l (List.map enc_api_Setting o0_0_2)),.mp 1,.mp 2,.mp 3,.mp 4],.mp true (encM Dt.s enc_api_File m1_3),.mp false (encM Dt.s ecI_i64 m2_4),.mp true (encM Dt.s enc_api_Setting m3_5),.mp true (encM Dt.s enc_api_Service m4_6)] (fun r X=>r=.tup []∧X=[.cells 193 [.p (.l (List.map enc_api_Setting o0_0_2)),.mp 1,.mp 2,.mp 3,.mp 4],.mp true (encM Dt.s enc_api_File z.1),.mp false (encM Dt.s ecI_i64 z.2),.mp true (encM Dt.s enc_api_Setting m3_5),.mp true (encM Dt.s enc_api_Service m4_6)]):=by
 unfold disk_bench_remove_i1 at hm
 refine dW 5 12 [] Tryz.func152 fun B=>?_
 have hp_9:=mdel_enc (e:=enc_api_File) keq_s m1_3 path_1
 refine Wp.seqR fun K1 hK1=>?_
 simp only [go_sem,simprocAttr,hp_9]
 refine kA hK1 ?_
 obtain ⟨r_10,hr_10,hm⟩:=call_elim hm
 refine Wp.region fun K2 hK2=>?_
 simp only [go_sem,simprocAttr]
 try refine ⟨sd,?_⟩
 refine Rg.callO (av:=?av3) [0,1,2,3,4] (ok_disk_bench_count_i1 path_1 (-1) o0_0_2 (adel m1_3 path_1) m2_4 m3_5 m4_6 _ hr_10) si si si sg sg ?cont3
 rintro _ _ ⟨rfl,rfl⟩ hv3
 simp only [go_sem,simprocAttr]
 refine kA hK2 ?_
 refine retQ_normal ?_
 cases hm
 exact fse1
theorem ok_disk_bench_do_i1 (c_1:api_Change) (o0_0_2:List api_Setting) (m1_3:List (Str × api_File)) (m2_4:List (Str × Int)) (m3_5:List (Str × api_Setting)) (m4_6:List (Str × api_Service)) (z:Int × (List (Str × api_File)) × (List (Str × Int)) × (List (Str × api_Setting)) × (List (Str × api_Service))) (hm:disk_bench_do_i1 c_1 o0_0_2 m1_3 m2_4 m3_5 m4_6=some z):Does Tryz.prog 76 [.ptr 0 0,.agg [.p (.i .i64 c_1.Kind),.p (.s c_1.File.Path),.p (.s c_1.File.Data),.p (.b c_1.File.Runs),.p (.s c_1.Setting.Key),.p (.s c_1.Setting.Value),.p (.s c_1.Service.Name),.p (.s c_1.Service.Path),.p (.b c_1.Service.Auto),.p (.b c_1.Service.On)]] [.cells 193 [.p (.l (List.map enc_api_Setting o0_0_2)),.mp 1,.mp 2,.mp 3,.mp 4],.mp true (encM Dt.s enc_api_File m1_3),.mp false (encM Dt.s ecI_i64 m2_4),.mp true (encM Dt.s enc_api_Setting m3_5),.mp true (encM Dt.s enc_api_Service m4_6)] (fun r X=>r=.p (.i .i64 z.1)∧X=[.cells 193 [.p (.l (List.map enc_api_Setting o0_0_2)),.mp 1,.mp 2,.mp 3,.mp 4],.mp true (encM Dt.s enc_api_File z.2.1),.mp false (encM Dt.s ecI_i64 z.2.2.1),.mp true (encM Dt.s enc_api_Setting z.2.2.2.1),.mp true (encM Dt.s enc_api_Service z.2.2.2.2)]):=by
 unfold disk_bench_do_i1 at hm
 refine dW 5 73 [.tmp 4] Tryz.func76 fun B=>?_
 refine qS ?_
 refine Wp.seqW fun K2 hK2 hW2=>?_
 obtain ⟨r_17,hr_17,hm⟩:=call_elim hm
 refine Wp.seqR fun K3 hK3=>?_
 simp only [go_sem,simprocAttr]
 try refine ⟨sd,?_⟩
 refine Rg.callX (av:=?av4) (g:=true) (fun hg=>ok_disk_CheckChange c_1 _ hr_17) si si si sg si ?cont4
 intro hv4
 simp only [go_sem,simprocAttr]
 refine kA hK3 ?_
 refine qS ?_
 refine cM hm (fun hc6 hm=>?_) (fun hc6 hm=>?_)
 ·refine qS ?_
  refine Wp.ret ?_
  refine retQ_ret ?_
  cases hm
  exact fse1
 ·refine Wp.skip ?_
  refine hK2 _ _ ?_
  refine Wp.seqW fun K8 hK8 hW8=>?_
  obtain ⟨r_18,hr_18,hm⟩:=call_elim hm
  refine Wp.seqR fun K9 hK9=>?_
  simp only [go_sem,simprocAttr]
  try refine ⟨sd,?_⟩
  refine Rg.callR (av:=?av10) (g:=true) [0,1,2,3,4] (fun hg=>ok_disk_bench_fault_i1 c_1 o0_0_2 m1_3 m2_4 m3_5 m4_6 _ hr_18) si si si si sg sg sg ?cont10
  simp only [go_sem,simprocAttr]
  refine kA hK9 ?_
  refine qS ?_
  refine cM hm (fun hc12 hm=>?_) (fun hc12 hm=>?_)
  ·refine qS ?_
   refine Wp.ret ?_
   refine retQ_ret ?_
   cases hm
   exact fse1
  ·refine Wp.skip ?_
   refine hK8 _ _ ?_
   refine Wp.seqW fun K14 hK14 hW14=>?_
   refine qS ?_
   refine Wp.block ?_
   refine qS ?_
   refine cM hm (fun hc17 hm=>?_) (fun hc17 hm=>?_)
   ·obtain ⟨r_19,hr_19,hm⟩:=call_elim hm
    refine Wp.region fun K18 hK18=>?_
    simp only [go_sem,simprocAttr]
    try refine ⟨sd,?_⟩
    refine Rg.callO (av:=?av19) [0,1,2,3,4] (ok_disk_bench_put_i1 c_1.File o0_0_2 m1_3 m2_4 m3_5 m4_6 _ hr_19) si si si sg sg ?cont19
    rintro _ _ ⟨rfl,rfl⟩ hv19
    simp only [go_sem,simprocAttr]
    refine kA hK18 ?_
    refine hK14 _ _ ?_
    refine qS ?_
    refine Wp.ret ?_
    refine retQ_ret ?_
    cases hm
    exact fse1
   ·refine qS ?_
    refine cM hm (fun hc22 hm=>?_) (fun hc22 hm=>?_)
    ·obtain ⟨r_20,hr_20,hm⟩:=call_elim hm
     refine Wp.region fun K23 hK23=>?_
     simp only [go_sem,simprocAttr]
     try refine ⟨sd,?_⟩
     refine Rg.callO (av:=?av24) [0,1,2,3,4] (ok_disk_bench_remove_i1 c_1.File.Path o0_0_2 m1_3 m2_4 m3_5 m4_6 _ hr_20) si si si sg sg ?cont24
     rintro _ _ ⟨rfl,rfl⟩ hv24
     simp only [go_sem,simprocAttr]
     refine kA hK23 ?_
     refine hK14 _ _ ?_
     refine qS ?_
     refine Wp.ret ?_
     refine retQ_ret ?_
     cases hm
     exact fse1
    ·refine qS ?_
     refine cM hm (fun hc27 hm=>?_) (fun hc27 hm=>?_)
     ·obtain ⟨c_22,hm⟩:=chk_elim hm
      have hp_21:=mset_enc (e:=enc_api_Setting) keq_s m3_5 c_1.Setting.Key c_1.Setting
      simp only [enc_api_Setting] at hp_21
      refine Wp.regD (plan:=pl [(0,none),(1,none),(2,none),(3,none),(4,none),(5,none),(6,none),(7,none),(8,none),(9,some [])]) (by kernel_rfl) rfl (by kernel_rfl) fun K28 hK28=>?_
      simp only [go_sem,simprocAttr,hp_21]
      refine kA hK28 ?_
      refine hK14 _ _ ?_
      refine qS ?_
      refine Wp.ret ?_
      refine retQ_ret ?_
      cases hm
      exact fse1
     ·refine qS ?_
      refine cM hm (fun hc31 hm=>?_) (fun hc31 hm=>?_)
      ·have hp_23:=mdel_enc (e:=enc_api_Setting) keq_s m3_5 c_1.Setting.Key
       refine Wp.regD (plan:=pl [(0,none),(1,none),(2,none),(3,none),(4,none),(5,none),(6,none),(7,some [])]) (by kernel_rfl) rfl (by kernel_rfl) fun K32 hK32=>?_
       simp only [go_sem,simprocAttr,hp_23]
       refine kA hK32 ?_
       refine hK14 _ _ ?_
       refine qS ?_
       refine Wp.ret ?_
       refine retQ_ret ?_
       cases hm
       exact fse1
      ·refine qS ?_
       refine cM hm (fun hc35 hm=>?_) (fun hc35 hm=>?_)
       ·obtain ⟨c_25,hm⟩:=chk_elim hm
        have hp_24:=mset_enc (e:=enc_api_Service) keq_s m4_6 c_1.Service.Name c_1.Service
        simp only [enc_api_Service] at hp_24
        refine Wp.regD (plan:=pl [(0,none),(1,none),(2,none),(3,none),(4,none),(5,none),(6,none),(7,none),(8,none),(9,some [])]) (by kernel_rfl) rfl (by kernel_rfl) fun K36 hK36=>?_
        simp only [go_sem,simprocAttr,hp_24]
        refine kA hK36 ?_
        refine hK14 _ _ ?_
        refine qS ?_
        refine Wp.ret ?_
        refine retQ_ret ?_
        cases hm
        exact fse1
       ·refine qS ?_
        refine cM hm (fun hc39 hm=>?_) (fun hc39 hm=>?_)
        ·have hp_26:=mdel_enc (e:=enc_api_Service) keq_s m4_6 c_1.Service.Name
         refine Wp.regD (plan:=pl [(0,none),(1,none),(2,none),(3,none),(4,none),(5,none),(6,none),(7,some [])]) (by kernel_rfl) rfl (by kernel_rfl) fun K40 hK40=>?_
         simp only [go_sem,simprocAttr,hp_26]
         refine kA hK40 ?_
         refine hK14 _ _ ?_
         refine qS ?_
         refine Wp.ret ?_
         refine retQ_ret ?_
         cases hm
         exact fse1
        ·refine Wp.skip ?_
         refine hK14 _ _ ?_
         refine qS ?_
         refine Wp.ret ?_
         refine retQ_ret ?_
         cases hm
         exact fse1
theorem ok_disk_Disk_Do_i1 (c_1:api_Change) (o0_1_2:Bool) (o0_2_3:Bool) (o0_3_4:Int) (o0_4_5:Bool) (o0_5_6:Int) (o1_0_7:List api_Setting) (m2_8:List (Str × api_File)) (m3_9:List (Str × Int)) (m4_10:List (Str × api_Setting)) (m5_11:List (Str × api_Service)) (z:Int × Bool × Bool × Int × Int × (List (Str × api_File)) × (List (Str × Int)) × (List (Str × api_Setting)) × (List (Str × api_Service))) (hm:disk_Disk_Do_i1 c_1 o0_1_2 o0_2_3 o0_3_4 o0_4_5 o0_5_6 o1_0_7 m2_8 m3_9 m4_10 m5_11=some z):Does Tryz.prog 15 [.ptr 0 0,.agg [.p (.i .i64 c_1.Kind),.p (.s c_1.File.Path),.p (.s c_1.File.Data),.p (.b c_1.File.Runs),.p (.s c_1.Setting.Key),.p (.s c_1.Setting.Value),.p (.s c_1.Service.Name),.p (.s c_1.Service.Path),.p (.b c_1.Service.Auto),.p (.b c_1.Service.On)]] [.cells 114 [.ptr 1 0,.p (.b o0_1_2),.p (.b o0_2_3),.p (.i .i64 o0_3_4),.p (.b o0_4_5),.p (.i .i64 o0_5_6)],.cells 193 [.p (.l (List.map enc_api_Setting o1_0_7)),.mp 2,.mp 3,.mp 4,.mp 5],.mp true (encM Dt.s enc_api_File m2_8),.mp false (encM Dt.s ecI_i64 m3_9),.mp true (encM Dt.s enc_api_Setting m4_10),.mp true (encM Dt.s enc_api_Service m5_11)] (fun r X=>r=.p (.i .i64 z.1)∧X=[.cells 114 [.ptr 1 0,.p (.b z.2.1),.p (.b z.2.2.1),.p (.i .i64 z.2.2.2.2.1),.p (.b o0_4_5),.p (.i .i64 z.2.2.2.1)],.cells 193 [.p (.l (List.map enc_api_Setting o1_0_7)),.mp 2,.mp 3,.mp 4,.mp 5],.mp true (encM Dt.s enc_api_File z.2.2.2.2.2.1),.mp false (encM Dt.s ecI_i64 z.2.2.2.2.2.2.1),.mp true (encM Dt.s enc_api_Setting z.2.2.2.2.2.2.2.1),.mp true (encM Dt.s enc_api_Service z.2.2.2.2.2.2.2.2)]):=by
 unfold disk_Disk_Do_i1 at hm
 refine dW 6 51 [.tmp 4] Tryz.func15 fun B=>?_
 refine qS ?_
 refine Wp.seqW fun K2 hK2 hW2=>?_
 refine qS ?_
 refine cM hm (fun hc4 hm=>?_) (fun hc4 hm=>?_)
 ·refine qS ?_
  refine Wp.ret ?_
  refine retQ_ret ?_
  cases hm
  exact fse1
 ·refine Wp.skip ?_
  refine hK2 _ _ ?_
  refine Wp.seqW fun K6 hK6 hW6=>?_
  refine qS ?_
  refine cM hm (fun hc8 hm=>?_) (fun hc8 hm=>?_)
  ·obtain ⟨r_15,hr_15,hm⟩:=call_elim hm
   refine Wp.seqR fun K9 hK9=>?_
   simp only [go_sem,simprocAttr]
   try refine ⟨sd,?_⟩
   refine Rg.callO (av:=?av10) [0,1,2,3,4,5] (ok_disk_Disk_lose_i1 c_1 o0_1_2 o0_2_3 o0_3_4 o0_4_5 o0_5_6 o1_0_7 m2_8 m3_9 m4_10 m5_11 _ hr_15) si si si sg sg ?cont10
   rintro _ _ ⟨rfl,rfl⟩ hv10
   simp only [go_sem,simprocAttr]
   refine kA hK9 ?_
   refine Wp.ret ?_
   refine retQ_ret ?_
   cases hm
   exact fse1
  ·refine Wp.skip ?_
   refine hK6 _ _ ?_
   refine Wp.seqW fun K11 hK11 hW11=>?_
   obtain ⟨r_16,hr_16,hm⟩:=call_elim hm
   refine Wp.seqD (plan:=pl [(0,none),(1,none),(2,none),(3,none),(4,none),(5,some []),(6,none)]) (by kernel_rfl) rfl (by kernel_rfl) fun K12 hK12=>?_
   simp only [go_sem,simprocAttr]
   try refine ⟨sd,?_⟩
   refine Dr.of_br (Br.callE (av:=?av13) (o:=?o13) [1,2,3,4,5] (ok_disk_bench_do_i1 c_1 o1_0_7 m2_8 m3_9 m4_10 m5_11 _ hr_16) si si si si si sg sg sg sg ?cont13)
   simp only [go_sem,simprocAttr]
   refine kA hK12 ?_
   refine qS ?_
   refine cM hm (fun hc15 hm=>?_) (fun hc15 hm=>?_)
   ·refine qS ?_
    refine Wp.ret ?_
    refine retQ_ret ?_
    cases hm
    exact fse1
   ·refine Wp.skip ?_
    refine hK11 _ _ ?_
    refine qS ?_
    refine Wp.seqW fun K18 hK18 hW18=>?_
    refine qS ?_
    refine cM hm (fun hc20 hm=>?_) (fun hc20 hm=>?_)
    ·refine qR ?_
     refine hK18 _ _ ?_
     refine qS ?_
     refine Wp.ret ?_
     refine retQ_ret ?_
     cases hm
     exact fse1
    ·refine Wp.skip ?_
     refine hK18 _ _ ?_
     refine qS ?_
     refine Wp.ret ?_
     refine retQ_ret ?_
     cases hm
     exact fse1
theorem ok_R_Disk_Do_i1 (c_1:api_Change) (o0_1_2:Bool) (o0_2_3:Int) (o0_3_4:Bool) (o0_4_5:Bool) (o0_5_6:Int) (o1_0_7:List api_Setting) (m2_8:List (Str × api_File)) (m3_9:List (Str × Str)) (m4_10:List (Str × api_Service)) (z:Int × Bool × Bool × Int × Int × List api_Setting × (List (Str × api_File)) × (List (Str × Str)) × (List (Str × api_Service))) (hm:R_Disk_Do_i1 c_1 o0_1_2 o0_2_3 o0_3_4 o0_4_5 o0_5_6 o1_0_7 m2_8 m3_9 m4_10=some z):DoesC Tryz.prog 16 [.ptr 0 0,.agg [.p (.i .i64 c_1.Kind),.p (.s c_1.File.Path),.p (.s c_1.File.Data),.p (.b c_1.File.Runs),.p (.s c_1.Setting.Key),.p (.s c_1.Setting.Value),.p (.s c_1.Service.Name),.p (.s c_1.Service.Path),.p (.b c_1.Service.Auto),.p (.b c_1.Service.On)]] [.cells 124 [.ptr 1 0,.p (.b o0_1_2),.p (.i .i64 o0_2_3),.p (.b o0_3_4),.p (.b o0_4_5),.p (.i .i64 o0_5_6)],.cells 129 [.p (.l (List.map enc_api_Setting o1_0_7)),.mp 2,.mp 3,.mp 4],.mp true (encM Dt.s enc_api_File m2_8),.mp false (encM Dt.s ecS m3_9),.mp true (encM Dt.s enc_api_Service m4_10)] [1,2,3,4] (fun r X=>r=.p (.i .i64 z.1)∧X=[.cells 124 [.ptr 1 0,.p (.b z.2.1),.p (.i .i64 z.2.2.2.2.1),.p (.b o0_3_4),.p (.b z.2.2.1),.p (.i .i64 z.2.2.2.1)],.cells 129 [.p (.l (List.map enc_api_Setting z.2.2.2.2.2.1)),.mp 2,.mp 3,.mp 4],.mp true (encM Dt.s enc_api_File z.2.2.2.2.2.2.1),.mp false (encM Dt.s ecS z.2.2.2.2.2.2.2.1),.mp true (encM Dt.s enc_api_Service z.2.2.2.2.2.2.2.2)]):=by
 unfold R_Disk_Do_i1 at hm
 refine DoesC.of_wp [1,2,3,4] 5 98 [.tmp 4] Tryz.func16 rfl (by decide) rfl rfl (Nat.le_of_ble_eq_true rfl) fun B=>?_
 refine qS ?_
 refine Wp.seqW fun K2 hK2 hW2=>?_
 refine qS ?_
 refine cM hm (fun hc4 hm=>?_) (fun hc4 hm=>?_)
 ·refine qS ?_
  refine Wp.ret ?_
  refine retQ_ret ?_
  cases hm
  exact fse1
 ·refine Wp.skip ?_
  refine hK2 _ _ ?_
  obtain ⟨r_19,hr_19,hm⟩:=call_elim hm
  refine Wp.seqR fun K6 hK6=>?_
  simp only [go_sem,simprocAttr]
  try refine ⟨sd,?_⟩
  refine Rg.callR (av:=?av7) (g:=true) [1,2,3,4] (fun hg=>ok_R_world_machine_i1 o1_0_7 m2_8 m3_9 m4_10 _ hr_19) si si si si sg sg sg ?cont7
  simp only [go_sem,simprocAttr]
  refine kA hK6 ?_
  obtain ⟨r_20,hr_20,hm⟩:=call_elim hm
  refine Wp.seqD (plan:=pl [(0,none),(1,none),(2,none),(3,none),(4,none),(5,some []),(6,none)]) (by kernel_rfl) rfl (by kernel_rfl) fun K8 hK8=>?_
  simp only [go_sem,simprocAttr]
  try refine ⟨sd,?_⟩
  refine Dr.of_br (Br.callE (av:=?av9) (o:=?o9) [1,2,3,4] (ok_R_world_do_i1 c_1 o1_0_7 m2_8 m3_9 m4_10 _ hr_20) si si si si si sg sg sg sg ?cont9)
  simp only [go_sem,simprocAttr]
  refine kA hK8 ?_
  refine Wp.seqW fun K10 hK10 hW10=>?_
  refine qS ?_
  refine cM hm (fun hc12 hm=>?_) (fun hc12 hm=>?_)
  ·refine qS ?_
   refine Wp.ret ?_
   refine retQ_ret ?_
   cases hm
   exact fse1
  ·refine Wp.skip ?_
   refine hK10 _ _ ?_
   refine Wp.seqW fun K14 hK14 hW14=>?_
   refine qS ?_
   refine cM hm (fun hc16 hm=>?_) (fun hc16 hm=>?_)
   ·obtain ⟨r_21,hr_21,hm⟩:=call_elim hm
    refine Wp.seqR fun K17 hK17=>?_
    simp only [go_sem,simprocAttr]
    try refine ⟨sd,?_⟩
    refine Rg.callO (av:=?av18) [] (ok_R_worldOf r_19 _ hr_21) si si si sg sg ?cont18
    rintro _ _ ⟨rfl,rfl⟩ hv18
    simp only [go_sem,simprocAttr]
    refine kA hK17 ?_
    refine Wp.seqW fun K19 hK19 hW19=>?_
    refine qS ?_
    refine cM hm (fun hc21 hm=>?_) (fun hc21 hm=>?_)
    ·refine qS ?_
     obtain ⟨c_22,hm⟩:=chk_elim hm
     obtain ⟨c_23,hm⟩:=chk_elim hm
     refine Wp.seqR fun K23 hK23=>?_
     simp only [go_sem,simprocAttr]
     refine kA hK23 ?_
     obtain ⟨c_25,hm⟩:=chk_elim hm
     have hp_24:=mset_enc (e:=enc_api_File) keq_s r_21.1 c_1.File.Path (api_File.mk c_1.File.Path (List.take ((IntKind.i64.wrap (Int.tdiv (c_1.File.Data.length:Int) 2)).toNat) c_1.File.Data) c_1.File.Runs)
     simp only [enc_api_File] at hp_24
     refine Wp.seqD (plan:=pl [(0,none),(1,none),(2,none),(3,none),(4,none),(5,none),(6,none),(7,none),(8,none),(9,none),(10,some [])]) (by kernel_rfl) rfl (by kernel_rfl) fun K24 hK24=>?_
     simp only [go_sem,simprocAttr,hp_24]
     refine kA hK24 ?_
     refine qR ?_
     refine hK19 _ _ ?_
     refine qS ?_
     refine Wp.repl 1 11 rfl rfl (by decide) (by exact Nat.le_of_ble_eq_true rfl) (by exact Nat.le_of_ble_eq_true rfl) ?_
     simp only [go_sem,simprocAttr]
     refine Wp.repl 2 8 rfl rfl (by decide) (by exact Nat.le_of_ble_eq_true rfl) (by exact Nat.le_of_ble_eq_true rfl) ?_
     simp only [go_sem,simprocAttr]
     refine Wp.repl 3 9 rfl rfl (by decide) (by exact Nat.le_of_ble_eq_true rfl) (by exact Nat.le_of_ble_eq_true rfl) ?_
     simp only [go_sem,simprocAttr]
     refine Wp.repl 4 10 rfl rfl (by decide) (by exact Nat.le_of_ble_eq_true rfl) (by exact Nat.le_of_ble_eq_true rfl) ?_
     simp only [go_sem,simprocAttr]
     refine Wp.ret ?_
     refine retQ_ret ?_
     cases hm
     exact fse1
    ·refine Wp.skip ?_
     refine hK19 _ _ ?_
     refine qS ?_
     refine Wp.repl 1 11 rfl rfl (by decide) (by exact Nat.le_of_ble_eq_true rfl) (by exact Nat.le_of_ble_eq_true rfl) ?_
     simp only [go_sem,simprocAttr]
     refine Wp.repl 2 8 rfl rfl (by decide) (by exact Nat.le_of_ble_eq_true rfl) (by exact Nat.le_of_ble_eq_true rfl) ?_
     simp only [go_sem,simprocAttr]
     refine Wp.repl 3 9 rfl rfl (by decide) (by exact Nat.le_of_ble_eq_true rfl) (by exact Nat.le_of_ble_eq_true rfl) ?_
     simp only [go_sem,simprocAttr]
     refine Wp.repl 4 10 rfl rfl (by decide) (by exact Nat.le_of_ble_eq_true rfl) (by exact Nat.le_of_ble_eq_true rfl) ?_
     simp only [go_sem,simprocAttr]
     refine Wp.ret ?_
     refine retQ_ret ?_
     cases hm
     exact fse1
   ·refine Wp.skip ?_
    refine hK14 _ _ ?_
    refine qS ?_
    refine qS ?_
    refine qS ?_
    refine Wp.ret ?_
    refine retQ_ret ?_
    cases hm
    exact fse1
theorem ok_disk_Disk_Cut_i1 (after_1:Int) (torn_2:Bool) (o0_1_3:Bool) (o0_2_4:Bool) (o0_3_5:Int) (o0_4_6:Bool) (o0_5_7:Int) (o1_0_8:List api_Setting) (m2_9:List (Str × api_File)) (m3_10:List (Str × Int)) (m4_11:List (Str × api_Setting)) (m5_12:List (Str × api_Service)) (z:Int × Bool × Int × Bool) (hm:disk_Disk_Cut_i1 after_1 torn_2 o0_1_3 o0_2_4 o0_3_5 o0_4_6 o0_5_7 o1_0_8 m2_9 m3_10 m4_11 m5_12=some z):Does Tryz.prog 17 [.ptr 0 0,.p (.i .i64 after_1),.p (.b torn_2)] [.cells 114 [.ptr 1 0,.p (.b o0_1_3),.p (.b o0_2_4),.p (.i .i64 o0_3_5),.p (.b o0_4_6),.p (.i .i64 o0_5_7)],.cells 193 [.p (.l (List.map enc_api_Setting o1_0_8)),.mp 2,.mp 3,.mp 4,.mp 5],.mp true (encM Dt.s enc_api_File m2_9),.mp false (encM Dt.s ecI_i64 m3_10),.mp true (encM Dt.s enc_api_Setting m4_11),.mp true (encM Dt.s enc_api_Service m5_12)] (fun r X=>r=.p (.i .i64 z.1)∧X=[.cells 114 [.ptr 1 0,.p (.b o0_1_3),.p (.b z.2.1),.p (.i .i64 z.2.2.1),.p (.b z.2.2.2),.p (.i .i64 o0_5_7)],.cells 193 [.p (.l (List.map enc_api_Setting o1_0_8)),.mp 2,.mp 3,.mp 4,.mp 5],.mp true (encM Dt.s enc_api_File m2_9),.mp false (encM Dt.s ecI_i64 m3_10),.mp true (encM Dt.s enc_api_Setting m4_11),.mp true (encM Dt.s enc_api_Service m5_12)]):=by
 unfold disk_Disk_Cut_i1 at hm
 refine dW 6 28 [.tmp 6] Tryz.func17 fun B=>?_
 refine qS ?_
 refine Wp.seqW fun K2 hK2 hW2=>?_
 refine qS ?_
 refine cM hm (fun hc4 hm=>?_) (fun hc4 hm=>?_)
 ·refine qS ?_
  refine Wp.ret ?_
  refine retQ_ret ?_
  cases hm
  exact fse1
 ·refine Wp.skip ?_
  refine hK2 _ _ ?_
  refine Wp.seqW fun K6 hK6 hW6=>?_
  refine qS ?_
  refine cM hm (fun hc8 hm=>?_) (fun hc8 hm=>?_)
  ·refine qS ?_
   refine Wp.ret ?_
   refine retQ_ret ?_
   cases hm
   exact fse1
  ·refine Wp.skip ?_
   refine hK6 _ _ ?_
   refine qS ?_
   refine qS ?_
   refine Wp.ret ?_
   refine retQ_ret ?_
   cases hm
   exact fse1
theorem ok_R_Disk_Cut_i1 (after_1:Int) (torn_2:Bool) (o0_1_3:Bool) (o0_2_4:Int) (o0_3_5:Bool) (o0_4_6:Bool) (o0_5_7:Int) (o1_0_8:List api_Setting) (m2_9:List (Str × api_File)) (m3_10:List (Str × Str)) (m4_11:List (Str × api_Service)) (z:Int × Int × Bool × Bool) (hm:R_Disk_Cut_i1 after_1 torn_2 o0_1_3 o0_2_4 o0_3_5 o0_4_6 o0_5_7 o1_0_8 m2_9 m3_10 m4_11=some z):Does Tryz.prog 18 [.ptr 0 0,.p (.i .i64 after_1),.p (.b torn_2)] [.cells 124 [.ptr 1 0,.p (.b o0_1_3),.p (.i .i64 o0_2_4),.p (.b o0_3_5),.p (.b o0_4_6),.p (.i .i64 o0_5_7)],.cells 129 [.p (.l (List.map enc_api_Setting o1_0_8)),.mp 2,.mp 3,.mp 4],.mp true (encM Dt.s enc_api_File m2_9),.mp false (encM Dt.s ecS m3_10),.mp true (encM Dt.s enc_api_Service m4_11)] (fun r X=>r=.p (.i .i64 z.1)∧X=[.cells 124 [.ptr 1 0,.p (.b o0_1_3),.p (.i .i64 z.2.1),.p (.b z.2.2.1),.p (.b z.2.2.2),.p (.i .i64 o0_5_7)],.cells 129 [.p (.l (List.map enc_api_Setting o1_0_8)),.mp 2,.mp 3,.mp 4],.mp true (encM Dt.s enc_api_File m2_9),.mp false (encM Dt.s ecS m3_10),.mp true (encM Dt.s enc_api_Service m4_11)]):=by
 unfold R_Disk_Cut_i1 at hm
 refine dW 5 30 [.tmp 6] Tryz.func18 fun B=>?_
 refine qS ?_
 refine Wp.seqW fun K2 hK2 hW2=>?_
 refine Wp.block ?_
 refine qS ?_
 refine cM hm (fun hc4 hm=>?_) (fun hc4 hm=>?_)
 ·refine qS ?_
  refine Wp.ret ?_
  refine retQ_ret ?_
  cases hm
  exact fse1
 ·refine qS ?_
  refine cM hm (fun hc7 hm=>?_) (fun hc7 hm=>?_)
  ·refine qS ?_
   refine Wp.ret ?_
   refine retQ_ret ?_
   cases hm
   exact fse1
  ·refine Wp.skip ?_
   refine hK2 _ _ ?_
   refine qS ?_
   refine qS ?_
   refine Wp.ret ?_
   refine retQ_ret ?_
   cases hm
   exact fse1
theorem ok_maps_Keys_map_string_api_File_string_api_File_i1 (m0_1:List (Str × api_File)) (z:Unit) (hm:maps_Keys_map_string_api_File_string_api_File_i1 m0_1=some z):Does Tryz.prog 214 [.mp 0] [.mp true (encM Dt.s enc_api_File m0_1)] (fun r X=>r=.fn 255 [.ptr 1 0]∧X=[.mp true (encM Dt.s enc_api_File m0_1),.cells 125 [.mp 0]]):=by
 unfold maps_Keys_map_string_api_File_string_api_File_i1 at hm
 refine dW 2 4 [.tmp 2] Tryz.func214 fun B=>?_
 refine qS ?_
 refine qS ?_
 refine Wp.ret ?_
 refine retQ_ret ?_
 cases hm
 exact fse1
theorem ok_slices_Sorted_keys_255 (m1:List (Str × api_File)) (z:List Str) (hm:slices_Sorted_keys_255 m1=some z):Does Tryz.prog 213 [.fn 255 [.ptr 0 0]] [.cells 125 [.mp 1],.mp true (encM Dt.s enc_api_File m1)] (fun r X=>r=.p (.l (List.map ecS z))∧X=[.cells 125 [.mp 1],.mp true (encM Dt.s enc_api_File m1)]):=by
 cases hm
 exact Does.sortedKeys Tryz.sortedL Tryz.keys255L ⟨_,Tryz.func213,by kernel_rfl,by kernel_rfl⟩ (fun m=>⟨fun blk off cap ss W hH hblk hsz=>callsIn_wide.2 (AnyM.slices_Sort_string Tryz.sortL blk off cap ss W hH hblk hsz),fun p cap W=>callsIn_wide.2 (AnyM.slices_Sort_string_none Tryz.sortL p cap W)⟩) (enters_of Tryz.func210 (by kernel_rfl) rfl) (enters_of Tryz.func255 (by kernel_rfl) rfl) rfl 125 true enc_api_File m1
theorem ok_disk_inOrder_api_File_i1 (m0_1:List (Str × api_File)) (z:List api_File) (hm:disk_inOrder_api_File_i1 m0_1=some z):Does Tryz.prog 159 [.mp 0] [.mp true (encM Dt.s enc_api_File m0_1)] (fun r X=>r=.p (.l (List.map enc_api_File z))∧X=[.mp true (encM Dt.s enc_api_File m0_1)]):=by
 unfold disk_inOrder_api_File_i1 at hm
 refine dW 1 22 [.tmp 2] Tryz.func159 fun B=>?_
 refine qS ?_
 refine qS ?_
 refine Wp.seqW fun K3 hK3 hW3=>?_
 obtain ⟨k_68,hk_68,hm⟩:=jp_elim hm
 have hcut3:∀ s,k_68 s=some z→K3 [(3,.buf 2)] [.mp true (encM Dt.s enc_api_File m0_1),.cells 125 [.top],.buf 38 3 (List.map enc_api_File s)]:=by
  intro o2_67 hs
  have hm:=hk_68 _ hs
  clear hs
  try dsimp only at hm
  try dsimp only
  refine hK3 _ _ ?_
  refine qS ?_
  refine Wp.ret ?_
  refine retQ_ret ?_
  cases hm
  exact fse1
 clear hK3 hk_68
 obtain ⟨r_69,hr_69,hm⟩:=call_elim hm
 obtain ⟨r_70,hr_70,hm⟩:=call_elim hm
 refine Wp.seqR fun K5 hK5=>?_
 simp only [go_sem,simprocAttr]
 try refine ⟨sd,?_⟩
 refine Rg.callO (av:=?av6) [0] (ok_maps_Keys_map_string_api_File_string_api_File_i1 m0_1 _ hr_69) si si si sg sg ?cont6
 rintro _ _ ⟨rfl,rfl⟩ hv6
 simp only [go_sem,simprocAttr]
 try refine ⟨sd,?_⟩
 refine Rg.callR (av:=?av7) (g:=true) [1,0] (fun hg=>ok_slices_Sorted_keys_255 m0_1 _ hr_70) si si si si sg sg sg ?cont7
 simp only [go_sem,simprocAttr]
 refine kA hK5 ?_
 refine Wp.block ?_
 refine Wp.adopt 3 38 3 rfl ?_
 simp only [go_sem,simprocAttr]
 obtain ⟨k_82,hk_82,hm⟩:=forL_cont hm
 refine Wp.fact 8 fun hl_85=>?_
 replace hl_85:r_70.length≤274877906944:=by
  simp only [go_sem,simprocAttr,List.length_map] at hl_85
  omega
 refine Wp.forL (fun i_84 s=>[(0,.mp 0),(3,.buf 2),(8,.p (.l (List.map ecS r_70))),(9,.p (.i .i64 (r_70.length:Int))),(10,.p (.i .i64 (i_84:Int)))]) (fun i_84 s=>[.mp true (encM Dt.s enc_api_File m0_1),.cells 125 [.mp 0],.buf 38 3 (List.map enc_api_File s)]) ?_ hm ?_
 ·
  exact fse1
 clear hm
 intro i_84 o2_77 hii_84 hm
 try dsimp only at hm
 try dsimp only
 refine qS ?_
 refine Wp.seqW fun K9 hK9 hW9=>?_
 refine Wp.cond rfl ⟨⟩ (fun hc9=>?_) (fun hc9=>?_)
 rotate_left
 ·refine Wp.exit ?_
  have hm:=hk_82 _ (forL_end hm (ge_nat (by first | exact hc9 | simpa using hc9)))
  try dsimp only at hm
  refine hW3 _ _ _ _ ?_ (hcut3 o2_77 hm)
  exact fse1
 have hlt9:=lt_nat (by first | exact hc9 | simpa using hc9)
 have hw9:=wrap_succ hlt9 hl_85
 obtain ⟨s_86,nx_83,hxs_86,hys_86,hnx_83,hm⟩:=forL_step hm hlt9
 replace hxs_86:=hxs_86 ecS
 refine Wp.skip ?_
 simp only [thenQ]
 refine hK9 _ _ ?_
 refine Wp.seqW fun K10 hK10 hW10=>?_
 refine Wp.block ?_
 refine Wp.seqR fun K11 hK11=>?_
 simp only [go_sem,simprocAttr,hw9,hxs_86]
 refine kA hK11 ?_
 obtain ⟨q_87,hq_88,hm⟩:=letv_elim hm
 have hq_88d:=mlookD_enc (e:=enc_api_File) keq_s m0_1 s_86 (api_File.mk [] [] false)
 have hq_88s:=mlook_some (e:=enc_api_File) keq_s m0_1 s_86
 simp only [hq_88,enc_api_File,List.map_nil] at hq_88d hq_88s
 obtain ⟨c_89,hm⟩:=chk_elim hm
 refine Wp.region fun K12 hK12=>?_
 simp only [go_sem,simprocAttr,hw9,hxs_86,hq_88d,hq_88s]
 refine kA hK12 ?_
 refine hK10 _ _ ?_
 refine Wp.region fun K13 hK13=>?_
 simp only [go_sem,simprocAttr,hw9,hxs_86]
 refine kA hK13 ?_
 simp only [thenQ,blockQ,↓reduceIte]
 refine ⟨o2_77++[(q_87.getD (api_File.mk [] [] false))],hlt9,hnx_83 _ hm,?_⟩
 simp only [go_sem,simprocAttr,hw9,hxs_86]
 try exact se1
theorem ok_maps_Keys_map_string_api_Setting_string_api_Setting_i1 (m0_1:List (Str × api_Setting)) (z:Unit) (hm:maps_Keys_map_string_api_Setting_string_api_Setting_i1 m0_1=some z):Does Tryz.prog 215 [.mp 0] [.mp true (encM Dt.s enc_api_Setting m0_1)] (fun r X=>r=.fn 256 [.ptr 1 0]∧X=[.mp true (encM Dt.s enc_api_Setting m0_1),.cells 191 [.mp 0]]):=by
 unfold maps_Keys_map_string_api_Setting_string_api_Setting_i1 at hm
 refine dW 2 4 [.tmp 2] Tryz.func215 fun B=>?_
 refine qS ?_
 refine qS ?_
 refine Wp.ret ?_
 refine retQ_ret ?_
 cases hm
 exact fse1
theorem ok_slices_Sorted_keys_256 (m1:List (Str × api_Setting)) (z:List Str) (hm:slices_Sorted_keys_256 m1=some z):Does Tryz.prog 213 [.fn 256 [.ptr 0 0]] [.cells 191 [.mp 1],.mp true (encM Dt.s enc_api_Setting m1)] (fun r X=>r=.p (.l (List.map ecS z))∧X=[.cells 191 [.mp 1],.mp true (encM Dt.s enc_api_Setting m1)]):=by
 cases hm
 exact Does.sortedKeys Tryz.sortedL Tryz.keys256L ⟨_,Tryz.func213,by kernel_rfl,by kernel_rfl⟩ (fun m=>⟨fun blk off cap ss W hH hblk hsz=>callsIn_wide.2 (AnyM.slices_Sort_string Tryz.sortL blk off cap ss W hH hblk hsz),fun p cap W=>callsIn_wide.2 (AnyM.slices_Sort_string_none Tryz.sortL p cap W)⟩) (enters_of Tryz.func210 (by kernel_rfl) rfl) (enters_of Tryz.func256 (by kernel_rfl) rfl) rfl 191 true enc_api_Setting m1
end Go.Proofs.YtbofknpajcdnmaaGreatDoor
