/- That the code does what the models say (part 8). -/
import Derived.Test.YtbofknpajcdnmaaGreatDoorDmWk0
import Derived.Test.YtbofknpajcdnmaaGreatDoorDmWk3
import Derived.Test.YtbofknpajcdnmaaGreatDoorDmWk4
import Derived.Test.YtbofknpajcdnmaaGreatDoorDmWk5
import Derived.Test.YtbofknpajcdnmaaGreatDoorDmWk6
import Derived.Test.YtbofknpajcdnmaaGreatDoorDmWk7
set_option linter.unusedSimpArgs false
set_option linter.unusedVariables false
open Go.Proofs Go.Shelf
namespace Go.Proofs.YtbofknpajcdnmaaGreatDoor
open Go.Vc Go.Md
set_option maxRecDepth 100000
set_option maxHeartbeats 4000000
theorem ok_disk_inOrder_api_Setting_i1 (m0_1:List (Str × api_Setting)) (z:List api_Setting) (hm:disk_inOrder_api_Setting_i1 m0_1=some z):Does Tryz.prog 160 [.mp 0] [.mp true (encM Dt.s enc_api_Setting m0_1)] (fun r X=>r=.p (.l (List.map enc_api_Setting z))∧X=[.mp true (encM Dt.s enc_api_Setting m0_1)]):=by
 unfold disk_inOrder_api_Setting_i1 at hm
 refine dW 1 22 [.tmp 2] Tryz.func160 fun B=>?_
 refine qS ?_
 refine qS ?_
 refine Wp.seqW fun K3 hK3 hW3=>?_
 obtain ⟨k_68,hk_68,hm⟩:=jp_elim hm
 have hcut3:∀ s,k_68 s=some z→K3 [(3,.buf 2)] [.mp true (encM Dt.s enc_api_Setting m0_1),.cells 191 [.top],.buf 40 2 (List.map enc_api_Setting s)]:=by
  intro o2_67 hs
  have hm:=hk_68 _ hs
  clear hs
  try dsimp only at hm
  try dsimp only
  refine hK3 _ _ ?_
  refine qS ?_
  refine Wp.ret ?_
  refine retQ_ret ?_
  cases hm
  exact fse1
 clear hK3 hk_68
 obtain ⟨r_69,hr_69,hm⟩:=call_elim hm
 obtain ⟨r_70,hr_70,hm⟩:=call_elim hm
 refine Wp.seqR fun K5 hK5=>?_
 simp only [go_sem,simprocAttr]
 try refine ⟨sd,?_⟩
 refine Rg.callO (av:=?av6) [0] (ok_maps_Keys_map_string_api_Setting_string_api_Setting_i1 m0_1 _ hr_69) si si si sg sg ?cont6
 rintro _ _ ⟨rfl,rfl⟩ hv6
 simp only [go_sem,simprocAttr]
 try refine ⟨sd,?_⟩
 refine Rg.callR (av:=?av7) (g:=true) [1,0] (fun hg=>ok_slices_Sorted_keys_256 m0_1 _ hr_70) si si si si sg sg sg ?cont7
 simp only [go_sem,simprocAttr]
 refine kA hK5 ?_
 refine Wp.block ?_
 refine Wp.adopt 3 40 2 rfl ?_
 simp only [go_sem,simprocAttr]
 obtain ⟨k_82,hk_82,hm⟩:=forL_cont hm
 refine Wp.fact 8 fun hl_85=>?_
 replace hl_85:r_70.length≤274877906944:=by
  simp only [go_sem,simprocAttr,List.length_map] at hl_85
  omega
 refine Wp.forL (fun i_84 s=>[(0,.mp 0),(3,.buf 2),(8,.p (.l (List.map ecS r_70))),(9,.p (.i .i64 (r_70.length:Int))),(10,.p (.i .i64 (i_84:Int)))]) (fun i_84 s=>[.mp true (encM Dt.s enc_api_Setting m0_1),.cells 191 [.mp 0],.buf 40 2 (List.map enc_api_Setting s)]) ?_ hm ?_
 ·
  exact fse1
 clear hm
 intro i_84 o2_77 hii_84 hm
 try dsimp only at hm
 try dsimp only
 refine qS ?_
 refine Wp.seqW fun K9 hK9 hW9=>?_
 refine Wp.cond rfl ⟨⟩ (fun hc9=>?_) (fun hc9=>?_)
 rotate_left
 ·refine Wp.exit ?_
  have hm:=hk_82 _ (forL_end hm (ge_nat (by first | exact hc9 | simpa using hc9)))
  try dsimp only at hm
  refine hW3 _ _ _ _ ?_ (hcut3 o2_77 hm)
  exact fse1
 have hlt9:=lt_nat (by first | exact hc9 | simpa using hc9)
 have hw9:=wrap_succ hlt9 hl_85
 obtain ⟨s_86,nx_83,hxs_86,hys_86,hnx_83,hm⟩:=forL_step hm hlt9
 replace hxs_86:=hxs_86 ecS
 refine Wp.skip ?_
 simp only [thenQ]
 refine hK9 _ _ ?_
 refine Wp.seqW fun K10 hK10 hW10=>?_
 refine Wp.block ?_
 refine Wp.seqR fun K11 hK11=>?_
 simp only [go_sem,simprocAttr,hw9,hxs_86]
 refine kA hK11 ?_
 obtain ⟨q_87,hq_88,hm⟩:=letv_elim hm
 have hq_88d:=mlookD_enc (e:=enc_api_Setting) keq_s m0_1 s_86 (api_Setting.mk [] [])
 have hq_88s:=mlook_some (e:=enc_api_Setting) keq_s m0_1 s_86
 simp only [hq_88,enc_api_Setting,List.map_nil] at hq_88d hq_88s
 obtain ⟨c_89,hm⟩:=chk_elim hm
 refine Wp.region fun K12 hK12=>?_
 simp only [go_sem,simprocAttr,hw9,hxs_86,hq_88d,hq_88s]
 refine kA hK12 ?_
 refine hK10 _ _ ?_
 refine Wp.region fun K13 hK13=>?_
 simp only [go_sem,simprocAttr,hw9,hxs_86]
 refine kA hK13 ?_
 simp only [thenQ,blockQ,↓reduceIte]
 refine ⟨o2_77++[(q_87.getD (api_Setting.mk [] []))],hlt9,hnx_83 _ hm,?_⟩
 simp only [go_sem,simprocAttr,hw9,hxs_86]
 try exact se1
theorem ok_maps_Keys_map_string_api_Service_string_api_Service_i1 (m0_1:List (Str × api_Service)) (z:Unit) (hm:maps_Keys_map_string_api_Service_string_api_Service_i1 m0_1=some z):Does Tryz.prog 216 [.mp 0] [.mp true (encM Dt.s enc_api_Service m0_1)] (fun r X=>r=.fn 257 [.ptr 1 0]∧X=[.mp true (encM Dt.s enc_api_Service m0_1),.cells 127 [.mp 0]]):=by
 unfold maps_Keys_map_string_api_Service_string_api_Service_i1 at hm
 refine dW 2 4 [.tmp 2] Tryz.func216 fun B=>?_
 refine qS ?_
 refine qS ?_
 refine Wp.ret ?_
 refine retQ_ret ?_
 cases hm
 exact fse1
theorem ok_slices_Sorted_keys_257 (m1:List (Str × api_Service)) (z:List Str) (hm:slices_Sorted_keys_257 m1=some z):Does Tryz.prog 213 [.fn 257 [.ptr 0 0]] [.cells 127 [.mp 1],.mp true (encM Dt.s enc_api_Service m1)] (fun r X=>r=.p (.l (List.map ecS z))∧X=[.cells 127 [.mp 1],.mp true (encM Dt.s enc_api_Service m1)]):=by
 cases hm
 exact Does.sortedKeys Tryz.sortedL Tryz.keys257L ⟨_,Tryz.func213,by kernel_rfl,by kernel_rfl⟩ (fun m=>⟨fun blk off cap ss W hH hblk hsz=>callsIn_wide.2 (AnyM.slices_Sort_string Tryz.sortL blk off cap ss W hH hblk hsz),fun p cap W=>callsIn_wide.2 (AnyM.slices_Sort_string_none Tryz.sortL p cap W)⟩) (enters_of Tryz.func210 (by kernel_rfl) rfl) (enters_of Tryz.func257 (by kernel_rfl) rfl) rfl 127 true enc_api_Service m1
theorem ok_disk_inOrder_api_Service_i1 (m0_1:List (Str × api_Service)) (z:List api_Service) (hm:disk_inOrder_api_Service_i1 m0_1=some z):Does Tryz.prog 161 [.mp 0] [.mp true (encM Dt.s enc_api_Service m0_1)] (fun r X=>r=.p (.l (List.map enc_api_Service z))∧X=[.mp true (encM Dt.s enc_api_Service m0_1)]):=by
 unfold disk_inOrder_api_Service_i1 at hm
 refine dW 1 22 [.tmp 2] Tryz.func161 fun B=>?_
 refine qS ?_
 refine qS ?_
 refine Wp.seqW fun K3 hK3 hW3=>?_
 obtain ⟨k_68,hk_68,hm⟩:=jp_elim hm
 have hcut3:∀ s,k_68 s=some z→K3 [(3,.buf 2)] [.mp true (encM Dt.s enc_api_Service m0_1),.cells 127 [.top],.buf 42 4 (List.map enc_api_Service s)]:=by
  intro o2_67 hs
  have hm:=hk_68 _ hs
  clear hs
  try dsimp only at hm
  try dsimp only
  refine hK3 _ _ ?_
  refine qS ?_
  refine Wp.ret ?_
  refine retQ_ret ?_
  cases hm
  exact fse1
 clear hK3 hk_68
 obtain ⟨r_69,hr_69,hm⟩:=call_elim hm
 obtain ⟨r_70,hr_70,hm⟩:=call_elim hm
 refine Wp.seqR fun K5 hK5=>?_
 simp only [go_sem,simprocAttr]
 try refine ⟨sd,?_⟩
 refine Rg.callO (av:=?av6) [0] (ok_maps_Keys_map_string_api_Service_string_api_Service_i1 m0_1 _ hr_69) si si si sg sg ?cont6
 rintro _ _ ⟨rfl,rfl⟩ hv6
 simp only [go_sem,simprocAttr]
 try refine ⟨sd,?_⟩
 refine Rg.callR (av:=?av7) (g:=true) [1,0] (fun hg=>ok_slices_Sorted_keys_257 m0_1 _ hr_70) si si si si sg sg sg ?cont7
 simp only [go_sem,simprocAttr]
 refine kA hK5 ?_
 refine Wp.block ?_
 refine Wp.adopt 3 42 4 rfl ?_
 simp only [go_sem,simprocAttr]
 obtain ⟨k_82,hk_82,hm⟩:=forL_cont hm
 refine Wp.fact 8 fun hl_85=>?_
 replace hl_85:r_70.length≤274877906944:=by
  simp only [go_sem,simprocAttr,List.length_map] at hl_85
  omega
 refine Wp.forL (fun i_84 s=>[(0,.mp 0),(3,.buf 2),(8,.p (.l (List.map ecS r_70))),(9,.p (.i .i64 (r_70.length:Int))),(10,.p (.i .i64 (i_84:Int)))]) (fun i_84 s=>[.mp true (encM Dt.s enc_api_Service m0_1),.cells 127 [.mp 0],.buf 42 4 (List.map enc_api_Service s)]) ?_ hm ?_
 ·
  exact fse1
 clear hm
 intro i_84 o2_77 hii_84 hm
 try dsimp only at hm
 try dsimp only
 refine qS ?_
 refine Wp.seqW fun K9 hK9 hW9=>?_
 refine Wp.cond rfl ⟨⟩ (fun hc9=>?_) (fun hc9=>?_)
 rotate_left
 ·refine Wp.exit ?_
  have hm:=hk_82 _ (forL_end hm (ge_nat (by first | exact hc9 | simpa using hc9)))
  try dsimp only at hm
  refine hW3 _ _ _ _ ?_ (hcut3 o2_77 hm)
  exact fse1
 have hlt9:=lt_nat (by first | exact hc9 | simpa using hc9)
 have hw9:=wrap_succ hlt9 hl_85
 obtain ⟨s_86,nx_83,hxs_86,hys_86,hnx_83,hm⟩:=forL_step hm hlt9
 replace hxs_86:=hxs_86 ecS
 refine Wp.skip ?_
 simp only [thenQ]
 refine hK9 _ _ ?_
 refine Wp.seqW fun K10 hK10 hW10=>?_
 refine Wp.block ?_
 refine Wp.seqR fun K11 hK11=>?_
 simp only [go_sem,simprocAttr,hw9,hxs_86]
 refine kA hK11 ?_
 obtain ⟨q_87,hq_88,hm⟩:=letv_elim hm
 have hq_88d:=mlookD_enc (e:=enc_api_Service) keq_s m0_1 s_86 (api_Service.mk [] [] false false)
 have hq_88s:=mlook_some (e:=enc_api_Service) keq_s m0_1 s_86
 simp only [hq_88,enc_api_Service,List.map_nil] at hq_88d hq_88s
 obtain ⟨c_89,hm⟩:=chk_elim hm
 refine Wp.region fun K12 hK12=>?_
 simp only [go_sem,simprocAttr,hw9,hxs_86,hq_88d,hq_88s]
 refine kA hK12 ?_
 refine hK10 _ _ ?_
 refine Wp.region fun K13 hK13=>?_
 simp only [go_sem,simprocAttr,hw9,hxs_86]
 refine kA hK13 ?_
 simp only [thenQ,blockQ,↓reduceIte]
 refine ⟨o2_77++[(q_87.getD (api_Service.mk [] [] false false))],hlt9,hnx_83 _ hm,?_⟩
 simp only [go_sem,simprocAttr,hw9,hxs_86]
 try exact se1
theorem ok_disk_bench_machine_i1 (o0_0_1:List api_Setting) (m1_2:List (Str × api_File)) (m2_3:List (Str × Int)) (m3_4:List (Str × api_Setting)) (m4_5:List (Str × api_Service)) (z:api_Machine) (hm:disk_bench_machine_i1 o0_0_1 m1_2 m2_3 m3_4 m4_5=some z):Does Tryz.prog 80 [.ptr 0 0] [.cells 193 [.p (.l (List.map enc_api_Setting o0_0_1)),.mp 1,.mp 2,.mp 3,.mp 4],.mp true (encM Dt.s enc_api_File m1_2),.mp false (encM Dt.s ecI_i64 m2_3),.mp true (encM Dt.s enc_api_Setting m3_4),.mp true (encM Dt.s enc_api_Service m4_5)] (fun r X=>r=.agg [.p (.l (List.map enc_api_Setting z.Facts)),.p (.l (List.map enc_api_File z.Files)),.p (.l (List.map enc_api_Setting z.Settings)),.p (.l (List.map enc_api_Service z.Services))]∧X=[.cells 193 [.p (.l (List.map enc_api_Setting o0_0_1)),.mp 1,.mp 2,.mp 3,.mp 4],.mp true (encM Dt.s enc_api_File m1_2),.mp false (encM Dt.s ecI_i64 m2_3),.mp true (encM Dt.s enc_api_Setting m3_4),.mp true (encM Dt.s enc_api_Service m4_5)]):=by
 unfold disk_bench_machine_i1 at hm
 refine dW 5 24 [.cell 2 26] Tryz.func80 fun B=>?_
 refine qS ?_
 obtain ⟨r_20,hr_20,hm⟩:=call_elim hm
 obtain ⟨r_21,hr_21,hm⟩:=call_elim hm
 obtain ⟨r_22,hr_22,hm⟩:=call_elim hm
 obtain ⟨r_23,hr_23,hm⟩:=call_elim hm
 refine Wp.seqD (plan:=pl [(0,none),(1,none),(2,none),(3,none),(5,none),(6,none),(7,none),(8,none),(10,none),(11,none),(12,none),(13,none),(15,none),(16,none),(17,none),(18,none),(4,some [5,6,7,8,10,11,12,13,15,16,17,18]),(9,some [10,11,12,13,15,16,17,18]),(14,some [15,16,17,18]),(19,some []),(20,none),(21,some [])]) (by kernel_rfl) rfl (by kernel_rfl) fun K2 hK2=>?_
 simp only [go_sem,simprocAttr]
 try refine ⟨sd,?_⟩
 refine Dr.of_br (Br.callR (av:=?av3) (g:=true) (o:=?o3) [] (fun hg=>ok_slices_Clone_api_Setting_api_Setting o0_0_1 _ hr_20) si si si si si sg sg sg sg ?cont3)
 simp only [go_sem,simprocAttr]
 try refine ⟨sd,?_⟩
 refine Dr.of_br (Br.callR (av:=?av4) (g:=true) (o:=?o4) [1] (fun hg=>ok_disk_inOrder_api_File_i1 m1_2 _ hr_21) si si si si si sg sg sg sg ?cont4)
 simp only [go_sem,simprocAttr]
 try refine ⟨sd,?_⟩
 refine Dr.of_br (Br.callR (av:=?av5) (g:=true) (o:=?o5) [3] (fun hg=>ok_disk_inOrder_api_Setting_i1 m3_4 _ hr_22) si si si si si sg sg sg sg ?cont5)
 simp only [go_sem,simprocAttr]
 try refine ⟨sd,?_⟩
 refine Dr.of_br (Br.callR (av:=?av6) (g:=true) (o:=?o6) [4] (fun hg=>ok_disk_inOrder_api_Service_i1 m4_5 _ hr_23) si si si si si sg sg sg sg ?cont6)
 simp only [go_sem,simprocAttr]
 refine kA hK2 ?_
 refine Wp.ret ?_
 refine retQ_ret ?_
 cases hm
 exact fse1
theorem ok_slices_Clone_api_Setting_api_Setting_new_i2 (s_1:List api_Setting) (z:List api_Setting) (hm:slices_Clone_api_Setting_api_Setting_new_i2 s_1=some z):Does Tryz.prog 146 [.p (.l (List.map enc_api_Setting s_1))] [] (fun r X=>r=.buf 0∧X=[.buf 40 2 (List.map enc_api_Setting z)]):=by
 unfold slices_Clone_api_Setting_api_Setting_new_i2 at hm
 refine dW 1 8 [.tmp 2] Tryz.func146 fun B=>?_
 refine qS ?_
 refine Wp.seqW fun K2 hK2 hW2=>?_
 refine Wp.seqR fun K3 hK3=>?_
 simp only [go_sem,simprocAttr]
 try refine ⟨sd,?_⟩
 refine Rg.isnil (rows:=?rows4) (e:=?e4) (esz:=?esz4) (eb:=?eb4) (ez:=?ez4) Is.mk Is.mk sg sg si si ?cont4
 intro b_5 hb_6
 replace hm:=anyOf_elim hm b_5 (fun h=>List.map_eq_nil_iff.1 (hb_6 h))
 try dsimp only at hm
 simp only [go_sem,simprocAttr]
 refine kA hK3 ?_
 refine cM hm (fun hc5 hm=>?_) (fun hc5 hm=>?_)
 ·refine qS ?_
  refine Wp.adopt 2 40 2 rfl ?_
  simp only [go_sem,simprocAttr]
  refine Wp.ret ?_
  refine retQ_ret ?_
  cases hm
  exact fse1
 ·refine Wp.skip ?_
  refine hK2 _ _ ?_
  obtain ⟨c_7,hm⟩:=chk_elim hm
  refine Wp.seqR fun K7 hK7=>?_
  simp only [go_sem,simprocAttr]
  refine kA hK7 ?_
  refine Wp.ret ?_
  refine retQ_ret ?_
  cases hm
  exact fse1
theorem ok_slices_Clone_api_File_api_File_new (s_1:List api_File) (z:List api_File) (hm:slices_Clone_api_File_api_File_new s_1=some z):Does Tryz.prog 212 [.p (.l (List.map enc_api_File s_1))] [] (fun r X=>r=.buf 0∧X=[.buf 38 3 (List.map enc_api_File z)]):=by
 unfold slices_Clone_api_File_api_File_new at hm
 refine dW 1 8 [.tmp 2] Tryz.func212 fun B=>?_
 refine qS ?_
 refine Wp.seqW fun K2 hK2 hW2=>?_
 refine Wp.seqR fun K3 hK3=>?_
 simp only [go_sem,simprocAttr]
 try refine ⟨sd,?_⟩
 refine Rg.isnil (rows:=?rows4) (e:=?e4) (esz:=?esz4) (eb:=?eb4) (ez:=?ez4) Is.mk Is.mk sg sg si si ?cont4
 intro b_5 hb_6
 replace hm:=anyOf_elim hm b_5 (fun h=>List.map_eq_nil_iff.1 (hb_6 h))
 try dsimp only at hm
 simp only [go_sem,simprocAttr]
 refine kA hK3 ?_
 refine cM hm (fun hc5 hm=>?_) (fun hc5 hm=>?_)
 ·refine qS ?_
  refine Wp.adopt 2 38 3 rfl ?_
  simp only [go_sem,simprocAttr]
  refine Wp.ret ?_
  refine retQ_ret ?_
  cases hm
  exact fse1
 ·refine Wp.skip ?_
  refine hK2 _ _ ?_
  obtain ⟨c_7,hm⟩:=chk_elim hm
  refine Wp.seqR fun K7 hK7=>?_
  simp only [go_sem,simprocAttr]
  refine kA hK7 ?_
  refine Wp.ret ?_
  refine retQ_ret ?_
  cases hm
  exact fse1
theorem ok_slices_Clone_api_Service_api_Service_new (s_1:List api_Service) (z:List api_Service) (hm:slices_Clone_api_Service_api_Service_new s_1=some z):Does Tryz.prog 124 [.p (.l (List.map enc_api_Service s_1))] [] (fun r X=>r=.buf 0∧X=[.buf 42 4 (List.map enc_api_Service z)]):=by
 unfold slices_Clone_api_Service_api_Service_new at hm
 refine dW 1 8 [.tmp 2] Tryz.func124 fun B=>?_
 refine qS ?_
 refine Wp.seqW fun K2 hK2 hW2=>?_
 refine Wp.seqR fun K3 hK3=>?_
 simp only [go_sem,simprocAttr]
 try refine ⟨sd,?_⟩
 refine Rg.isnil (rows:=?rows4) (e:=?e4) (esz:=?esz4) (eb:=?eb4) (ez:=?ez4) Is.mk Is.mk sg sg si si ?cont4
 intro b_5 hb_6
 replace hm:=anyOf_elim hm b_5 (fun h=>List.map_eq_nil_iff.1 (hb_6 h))
 try dsimp only at hm
 simp only [go_sem,simprocAttr]
 refine kA hK3 ?_
 refine cM hm (fun hc5 hm=>?_) (fun hc5 hm=>?_)
 ·refine qS ?_
  refine Wp.adopt 2 42 4 rfl ?_
  simp only [go_sem,simprocAttr]
  refine Wp.ret ?_
  refine retQ_ret ?_
  cases hm
  exact fse1
 ·refine Wp.skip ?_
  refine hK2 _ _ ?_
  obtain ⟨c_7,hm⟩:=chk_elim hm
  refine Wp.seqR fun K7 hK7=>?_
  simp only [go_sem,simprocAttr]
  refine kA hK7 ?_
  refine Wp.ret ?_
  refine retQ_ret ?_
  cases hm
  exact fse1
theorem ok_disk_Clone_new (m_1:api_Machine) (z:List api_Setting × List api_File × List api_Setting × List api_Service × List api_Setting × List api_File × List api_Setting × List api_Service) (hm:disk_Clone_new m_1=some z):Does Tryz.prog 158 [.agg [.p (.l (List.map enc_api_Setting m_1.Facts)),.p (.l (List.map enc_api_File m_1.Files)),.p (.l (List.map enc_api_Setting m_1.Settings)),.p (.l (List.map enc_api_Service m_1.Services))]] [] (fun r X=>r=.agg [.buf 2,.buf 3,.buf 4,.buf 5]∧X=[.cells 26 [.p (.l (List.map enc_api_Setting z.1)),.p (.l (List.map enc_api_File z.2.1)),.p (.l (List.map enc_api_Setting z.2.2.1)),.p (.l (List.map enc_api_Service z.2.2.2.1))],.cells 26 [.buf 2,.buf 3,.buf 4,.buf 5],.buf 40 2 (List.map enc_api_Setting z.2.2.2.2.1),.buf 38 3 (List.map enc_api_File z.2.2.2.2.2.1),.buf 40 2 (List.map enc_api_Setting z.2.2.2.2.2.2.1),.buf 42 4 (List.map enc_api_Service z.2.2.2.2.2.2.2)]):=by
 unfold disk_Clone_new at hm
 refine dW 6 16 [.cell 2 26] Tryz.func158 fun B=>?_
 refine qS ?_
 obtain ⟨r_16,hr_16,hm⟩:=call_elim hm
 obtain ⟨r_17,hr_17,hm⟩:=call_elim hm
 obtain ⟨r_18,hr_18,hm⟩:=call_elim hm
 obtain ⟨r_19,hr_19,hm⟩:=call_elim hm
 refine Wp.seqD (plan:=pl [(0,none),(1,none),(3,none),(4,none),(6,none),(7,none),(9,none),(10,none),(2,some [3,4,6,7,9,10]),(5,some [6,7,9,10]),(8,some [9,10]),(11,some []),(12,none),(13,some [])]) (by kernel_rfl) rfl (by kernel_rfl) fun K2 hK2=>?_
 simp only [go_sem,simprocAttr]
 try refine ⟨sd,?_⟩
 refine Dr.of_br (Br.callE (av:=?av3) (o:=?o3) [] (ok_slices_Clone_api_Setting_api_Setting_new_i2 m_1.Facts _ hr_16) si si si si si sg sg sg sg ?cont3)
 simp only [go_sem,simprocAttr]
 try refine ⟨sd,?_⟩
 refine Dr.of_br (Br.callE (av:=?av4) (o:=?o4) [] (ok_slices_Clone_api_File_api_File_new m_1.Files _ hr_17) si si si si si sg sg sg sg ?cont4)
 simp only [go_sem,simprocAttr]
 try refine ⟨sd,?_⟩
 refine Dr.of_br (Br.callE (av:=?av5) (o:=?o5) [] (ok_slices_Clone_api_Setting_api_Setting_new_i2 m_1.Settings _ hr_18) si si si si si sg sg sg sg ?cont5)
 simp only [go_sem,simprocAttr]
 try refine ⟨sd,?_⟩
 refine Dr.of_br (Br.callE (av:=?av6) (o:=?o6) [] (ok_slices_Clone_api_Service_api_Service_new m_1.Services _ hr_19) si si si si si sg sg sg sg ?cont6)
 simp only [go_sem,simprocAttr]
 refine kA hK2 ?_
 refine Wp.ret ?_
 refine retQ_ret ?_
 cases hm
 exact fse1
theorem ok_disk_boot (m_1:api_Machine) (z:api_Machine) (hm:disk_boot m_1=some z):Does Tryz.prog 79 [.agg [.p (.l (List.map enc_api_Setting m_1.Facts)),.p (.l (List.map enc_api_File m_1.Files)),.p (.l (List.map enc_api_Setting m_1.Settings)),.p (.l (List.map enc_api_Service m_1.Services))]] [] (fun r X=>r=.agg [.p (.l (List.map enc_api_Setting z.Facts)),.p (.l (List.map enc_api_File z.Files)),.p (.l (List.map enc_api_Setting z.Settings)),.p (.l (List.map enc_api_Service z.Services))]∧X=[]):=by
 unfold disk_boot at hm
 refine dW 0 25 [.cell 2 26] Tryz.func79 fun B=>?_
 refine qS ?_
 obtain ⟨r_2,hr_2,hm⟩:=call_elim hm
 refine Wp.seqR fun K2 hK2=>?_
 simp only [go_sem,simprocAttr]
 try refine ⟨sd,?_⟩
 refine Rg.callO (av:=?av3) [] (ok_disk_Clone_new m_1 _ hr_2) si si si sg sg ?cont3
 rintro _ _ ⟨rfl,rfl⟩ hv3
 simp only [go_sem,simprocAttr]
 refine kA hK2 ?_
 refine Wp.seqW fun K4 hK4 hW4=>?_
 obtain ⟨k_18,hk_18,hm⟩:=jp_elim hm
 have hcut4:∀ s,k_18 s=some z→K4 [(1,.ptr 0 0),(2,.ptr 1 0)] [.cells 26 [.buf 4,.buf 5,.buf 6,.buf 7],.cells 26 [.nils,.nils,.nils,.nils],.cells 26 [.top,.top,.top,.top],.cells 26 [.top,.top,.top,.top],.buf 40 2 (List.map enc_api_Setting r_2.2.2.2.2.1),.buf 38 3 (List.map enc_api_File r_2.2.2.2.2.2.1),.buf 40 2 (List.map enc_api_Setting r_2.2.2.2.2.2.2.1),.buf 42 4 (List.map enc_api_Service s)]:=by
  intro o7_17 hs
  have hm:=hk_18 _ hs
  clear hs
  try dsimp only at hm
  try dsimp only
  refine hK4 _ _ ?_
  refine qS ?_
  refine Wp.ret ?_
  refine retQ_ret ?_
  cases hm
  exact fse1
 clear hK4 hk_18
 refine qS ?_
 refine Wp.block ?_
 obtain ⟨k_28,hk_28,hm⟩:=loopN_cont hm
 refine Wp.loopN (fun s=>[(1,.ptr 0 0),(2,.ptr 1 0),(8,.p (.i .i64 (r_2.2.2.2.2.2.2.2.length:Int))),(9,.p (.i .i64 s.1))]) (fun s=>[.cells 26 [.buf 4,.buf 5,.buf 6,.buf 7],.cells 26 [.nils,.nils,.nils,.nils],.cells 26 [.p (.l (List.map enc_api_Setting r_2.1)),.p (.l (List.map enc_api_File r_2.2.1)),.p (.l (List.map enc_api_Setting r_2.2.2.1)),.p (.l (List.map enc_api_Service r_2.2.2.2.1))],.cells 26 [.buf 4,.buf 5,.buf 6,.buf 7],.buf 40 2 (List.map enc_api_Setting r_2.2.2.2.2.1),.buf 38 3 (List.map enc_api_File r_2.2.2.2.2.2.1),.buf 40 2 (List.map enc_api_Setting r_2.2.2.2.2.2.2.1),.buf 42 4 (List.map enc_api_Service s.2)]) ?_ hm ?_
 ·
  exact fse1
 clear hm
 intro s nx_29 hm
 obtain ⟨t9_23,o7_24⟩:=s
 try dsimp only at hm
 try dsimp only
 refine qS ?_
 refine Wp.seqW fun K8 hK8 hW8=>?_
 refine cM hm (fun hc9 hm=>?_) (fun hc9 hm=>?_)
 ·refine Wp.skip ?_
  refine hK8 _ _ ?_
  refine Wp.seqW fun K10 hK10 hW10=>?_
  refine Wp.block ?_
  refine qS ?_
  obtain ⟨c_30,hm⟩:=chk_elim hm
  obtain ⟨c_31,hm⟩:=chk_elim hm
  have hr_32:=fun h=>getD_encB (l:=o7_24) (e:=enc_api_Service) (d:=(api_Service.mk [] [] false false)) (i:=t9_23.toNat) h []
  refine Wp.regD (plan:=pl [(0,none),(1,none),(2,none),(3,none),(4,none),(5,none),(6,none),(7,none),(8,none),(9,none),(10,none),(11,some [])]) (by kernel_rfl) rfl (by kernel_rfl) fun K12 hK12=>?_
  simp only [go_sem,simprocAttr,hr_32 (by omega)]
  refine kA hK12 ?_
  refine hK10 _ _ ?_
  refine qR ?_
  simp only [thenQ,blockQ,↓reduceIte]
  refine ⟨(IntKind.i64.wrap (t9_23+1),List.set o7_24 t9_23.toNat (api_Service.mk ((o7_24.getD t9_23.toNat (api_Service.mk [] [] false false)).Name) ((o7_24.getD t9_23.toNat (api_Service.mk [] [] false false)).Path) ((o7_24.getD t9_23.toNat (api_Service.mk [] [] false false)).Auto) ((o7_24.getD t9_23.toNat (api_Service.mk [] [] false false)).Auto))),hm,?_⟩
  exact fse1
 ·refine Wp.exit ?_
  simp only [thenQ,blockQ,↓reduceIte]
  have hm:=hk_28 _ hm
  try dsimp only at hm
  refine hW4 _ _ _ _ ?_ (hcut4 o7_24 hm)
  exact fse1
theorem ok_disk_Disk_On_i1 (o0_1_1:Bool) (o0_2_2:Bool) (o0_3_3:Int) (o0_4_4:Bool) (o0_5_5:Int) (o1_0_6:List api_Setting) (m2_7:List (Str × api_File)) (m3_8:List (Str × Int)) (m4_9:List (Str × api_Setting)) (m5_10:List (Str × api_Service)) (z:Int × Bool × Bool × List api_Setting × (List (Str × api_File)) × (List (Str × Int)) × (List (Str × api_Setting)) × (List (Str × api_Service))) (hm:disk_Disk_On_i1 o0_1_1 o0_2_2 o0_3_3 o0_4_4 o0_5_5 o1_0_6 m2_7 m3_8 m4_9 m5_10=some z):DoesC Tryz.prog 19 [.ptr 0 0] [.cells 114 [.ptr 1 0,.p (.b o0_1_1),.p (.b o0_2_2),.p (.i .i64 o0_3_3),.p (.b o0_4_4),.p (.i .i64 o0_5_5)],.cells 193 [.p (.l (List.map enc_api_Setting o1_0_6)),.mp 2,.mp 3,.mp 4,.mp 5],.mp true (encM Dt.s enc_api_File m2_7),.mp false (encM Dt.s ecI_i64 m3_8),.mp true (encM Dt.s enc_api_Setting m4_9),.mp true (encM Dt.s enc_api_Service m5_10)] [1,2,3,4,5] (fun r X=>r=.p (.i .i64 z.1)∧X=[.cells 114 [.ptr 1 0,.p (.b z.2.1),.p (.b z.2.2.1),.p (.i .i64 o0_3_3),.p (.b o0_4_4),.p (.i .i64 o0_5_5)],.cells 193 [.p (.l (List.map enc_api_Setting z.2.2.2.1)),.mp 2,.mp 3,.mp 4,.mp 5],.mp true (encM Dt.s enc_api_File z.2.2.2.2.1),.mp false (encM Dt.s ecI_i64 z.2.2.2.2.2.1),.mp true (encM Dt.s enc_api_Setting z.2.2.2.2.2.2.1),.mp true (encM Dt.s enc_api_Service z.2.2.2.2.2.2.2)]):=by
 unfold disk_Disk_On_i1 at hm
 refine DoesC.of_wp [1,2,3,4,5] 6 24 [.tmp 2] Tryz.func19 rfl (by decide) rfl rfl (Nat.le_of_ble_eq_true rfl) fun B=>?_
 refine qS ?_
 refine Wp.seqW fun K2 hK2 hW2=>?_
 refine qS ?_
 refine cM hm (fun hc4 hm=>?_) (fun hc4 hm=>?_)
 ·refine qS ?_
  refine Wp.ret ?_
  refine retQ_ret ?_
  cases hm
  exact fse1
 ·refine Wp.skip ?_
  refine hK2 _ _ ?_
  obtain ⟨r_14,hr_14,hm⟩:=call_elim hm
  obtain ⟨r_15,hr_15,hm⟩:=call_elim hm
  obtain ⟨r_16,hr_16,hm⟩:=call_elim hm
  refine Wp.seqR fun K6 hK6=>?_
  simp only [go_sem,simprocAttr]
  try refine ⟨sd,?_⟩
  refine Rg.callR (av:=?av7) (g:=true) [1,2,3,4,5] (fun hg=>ok_disk_bench_machine_i1 o1_0_6 m2_7 m3_8 m4_9 m5_10 _ hr_14) si si si si sg sg sg ?cont7
  simp only [go_sem,simprocAttr]
  try refine ⟨sd,?_⟩
  refine Rg.callF (av:=?av8) (ok_disk_boot r_14 _ hr_15) si si sg ?cont8
  intro hv8
  simp only [go_sem,simprocAttr]
  try refine ⟨sd,?_⟩
  refine Rg.callO (av:=?av9) [] (ok_disk_benchOf r_15 _ hr_16) si si si sg sg ?cont9
  rintro _ _ ⟨rfl,rfl⟩ hv9
  simp only [go_sem,simprocAttr]
  refine kA hK6 ?_
  refine qS ?_
  refine qS ?_
  refine Wp.repl 1 11 rfl rfl (by decide) (by exact Nat.le_of_ble_eq_true rfl) (by exact Nat.le_of_ble_eq_true rfl) ?_
  simp only [go_sem,simprocAttr]
  refine Wp.repl 2 7 rfl rfl (by decide) (by exact Nat.le_of_ble_eq_true rfl) (by exact Nat.le_of_ble_eq_true rfl) ?_
  simp only [go_sem,simprocAttr]
  refine Wp.repl 3 8 rfl rfl (by decide) (by exact Nat.le_of_ble_eq_true rfl) (by exact Nat.le_of_ble_eq_true rfl) ?_
  simp only [go_sem,simprocAttr]
  refine Wp.repl 4 9 rfl rfl (by decide) (by exact Nat.le_of_ble_eq_true rfl) (by exact Nat.le_of_ble_eq_true rfl) ?_
  simp only [go_sem,simprocAttr]
  refine Wp.repl 5 10 rfl rfl (by decide) (by exact Nat.le_of_ble_eq_true rfl) (by exact Nat.le_of_ble_eq_true rfl) ?_
  simp only [go_sem,simprocAttr]
  refine Wp.ret ?_
  refine retQ_ret ?_
  cases hm
  exact fse1
theorem ok_R_Boot (m_1:api_Machine) (z:api_Machine) (hm:R_Boot m_1=some z):Does Tryz.prog 51 [.agg [.p (.l (List.map enc_api_Setting m_1.Facts)),.p (.l (List.map enc_api_File m_1.Files)),.p (.l (List.map enc_api_Setting m_1.Settings)),.p (.l (List.map enc_api_Service m_1.Services))]] [] (fun r X=>r=.agg [.p (.l (List.map enc_api_Setting z.Facts)),.p (.l (List.map enc_api_File z.Files)),.p (.l (List.map enc_api_Setting z.Settings)),.p (.l (List.map enc_api_Service z.Services))]∧X=[]):=by
 unfold R_Boot at hm
 refine dW 0 27 [.cell 2 26] Tryz.func51 fun B=>?_
 refine qS ?_
 obtain ⟨r_2,hr_2,hm⟩:=call_elim hm
 refine Wp.seqR fun K2 hK2=>?_
 simp only [go_sem,simprocAttr]
 try refine ⟨sd,?_⟩
 refine Rg.callO (av:=?av3) [] (ok_slices_Clone_api_Service_api_Service_new m_1.Services _ hr_2) si si si sg sg ?cont3
 rintro _ _ ⟨rfl,rfl⟩ hv3
 simp only [go_sem,simprocAttr]
 refine kA hK2 ?_
 refine Wp.seqW fun K4 hK4 hW4=>?_
 obtain ⟨k_18,hk_18,hm⟩:=jp_elim hm
 have hcut4:∀ s,k_18 s=some z→K4 [(1,.ptr 0 0),(2,.ptr 1 0)] [.cells 26 [.p (.l (List.map enc_api_Setting m_1.Facts)),.p (.l (List.map enc_api_File m_1.Files)),.p (.l (List.map enc_api_Setting m_1.Settings)),.buf 2],.cells 26 [.nils,.nils,.nils,.nils],.buf 42 4 (List.map enc_api_Service s)]:=by
  intro o2_17 hs
  have hm:=hk_18 _ hs
  clear hs
  try dsimp only at hm
  try dsimp only
  refine hK4 _ _ ?_
  refine qS ?_
  refine Wp.ret ?_
  refine retQ_ret ?_
  cases hm
  exact fse1
 clear hK4 hk_18
 refine qS ?_
 refine Wp.block ?_
 obtain ⟨k_28,hk_28,hm⟩:=loopN_cont hm
 refine Wp.loopN (fun s=>[(1,.ptr 0 0),(2,.ptr 1 0),(10,.p (.i .i64 (r_2.length:Int))),(11,.p (.i .i64 s.1))]) (fun s=>[.cells 26 [.p (.l (List.map enc_api_Setting m_1.Facts)),.p (.l (List.map enc_api_File m_1.Files)),.p (.l (List.map enc_api_Setting m_1.Settings)),.buf 2],.cells 26 [.nils,.nils,.nils,.nils],.buf 42 4 (List.map enc_api_Service s.2)]) ?_ hm ?_
 ·
  exact fse1
 clear hm
 intro s nx_29 hm
 obtain ⟨t11_23,o2_24⟩:=s
 try dsimp only at hm
 try dsimp only
 refine qS ?_
 refine Wp.seqW fun K8 hK8 hW8=>?_
 refine cM hm (fun hc9 hm=>?_) (fun hc9 hm=>?_)
 ·refine Wp.skip ?_
  refine hK8 _ _ ?_
  refine Wp.seqW fun K10 hK10 hW10=>?_
  refine Wp.block ?_
  refine qS ?_
  obtain ⟨c_30,hm⟩:=chk_elim hm
  obtain ⟨c_31,hm⟩:=chk_elim hm
  have hr_32:=fun h=>getD_encB (l:=o2_24) (e:=enc_api_Service) (d:=(api_Service.mk [] [] false false)) (i:=t11_23.toNat) h []
  refine Wp.regD (plan:=pl [(0,none),(1,none),(2,none),(3,none),(4,none),(5,none),(6,none),(7,none),(8,none),(9,none),(10,none),(11,some [])]) (by kernel_rfl) rfl (by kernel_rfl) fun K12 hK12=>?_
  simp only [go_sem,simprocAttr,hr_32 (by omega)]
  refine kA hK12 ?_
  refine hK10 _ _ ?_
  refine qR ?_
  simp only [thenQ,blockQ,↓reduceIte]
  refine ⟨(IntKind.i64.wrap (t11_23+1),List.set o2_24 t11_23.toNat (api_Service.mk ((o2_24.getD t11_23.toNat (api_Service.mk [] [] false false)).Name) ((o2_24.getD t11_23.toNat (api_Service.mk [] [] false false)).Path) ((o2_24.getD t11_23.toNat (api_Service.mk [] [] false false)).Auto) ((o2_24.getD t11_23.toNat (api_Service.mk [] [] false false)).Auto))),hm,?_⟩
  exact fse1
 ·refine Wp.exit ?_
  simp only [thenQ,blockQ,↓reduceIte]
  have hm:=hk_28 _ hm
  try dsimp only at hm
  refine hW4 _ _ _ _ ?_ (hcut4 o2_24 hm)
  exact fse1
theorem ok_R_Disk_On_i1 (o0_1_1:Bool) (o0_2_2:Int) (o0_3_3:Bool) (o0_4_4:Bool) (o0_5_5:Int) (o1_0_6:List api_Setting) (m2_7:List (Str × api_File)) (m3_8:List (Str × Str)) (m4_9:List (Str × api_Service)) (z:Int × Bool × List api_Setting × (List (Str × api_File)) × (List (Str × Str)) × (List (Str × api_Service))) (hm:R_Disk_On_i1 o0_1_1 o0_2_2 o0_3_3 o0_4_4 o0_5_5 o1_0_6 m2_7 m3_8 m4_9=some z):DoesC Tryz.prog 20 [.ptr 0 0] [.cells 124 [.ptr 1 0,.p (.b o0_1_1),.p (.i .i64 o0_2_2),.p (.b o0_3_3),.p (.b o0_4_4),.p (.i .i64 o0_5_5)],.cells 129 [.p (.l (List.map enc_api_Setting o1_0_6)),.mp 2,.mp 3,.mp 4],.mp true (encM Dt.s enc_api_File m2_7),.mp false (encM Dt.s ecS m3_8),.mp true (encM Dt.s enc_api_Service m4_9)] [1,2,3,4] (fun r X=>r=.p (.i .i64 z.1)∧X=[.cells 124 [.ptr 1 0,.p (.b z.2.1),.p (.i .i64 o0_2_2),.p (.b o0_3_3),.p (.b o0_4_4),.p (.i .i64 o0_5_5)],.cells 129 [.p (.l (List.map enc_api_Setting z.2.2.1)),.mp 2,.mp 3,.mp 4],.mp true (encM Dt.s enc_api_File z.2.2.2.1),.mp false (encM Dt.s ecS z.2.2.2.2.1),.mp true (encM Dt.s enc_api_Service z.2.2.2.2.2)]):=by
 unfold R_Disk_On_i1 at hm
 refine DoesC.of_wp [1,2,3,4] 5 21 [.tmp 2] Tryz.func20 rfl (by decide) rfl rfl (Nat.le_of_ble_eq_true rfl) fun B=>?_
 refine qS ?_
 refine Wp.seqW fun K2 hK2 hW2=>?_
 refine qS ?_
 refine cM hm (fun hc4 hm=>?_) (fun hc4 hm=>?_)
 ·refine qS ?_
  refine Wp.ret ?_
  refine retQ_ret ?_
  cases hm
  exact fse1
 ·refine Wp.skip ?_
  refine hK2 _ _ ?_
  refine qS ?_
  obtain ⟨r_13,hr_13,hm⟩:=call_elim hm
  obtain ⟨r_14,hr_14,hm⟩:=call_elim hm
  obtain ⟨r_15,hr_15,hm⟩:=call_elim hm
  refine Wp.seqR fun K7 hK7=>?_
  simp only [go_sem,simprocAttr]
  try refine ⟨sd,?_⟩
  refine Rg.callR (av:=?av8) (g:=true) [1,2,3,4] (fun hg=>ok_R_world_machine_i1 o1_0_6 m2_7 m3_8 m4_9 _ hr_13) si si si si sg sg sg ?cont8
  simp only [go_sem,simprocAttr]
  try refine ⟨sd,?_⟩
  refine Rg.callF (av:=?av9) (ok_R_Boot r_13 _ hr_14) si si sg ?cont9
  intro hv9
  simp only [go_sem,simprocAttr]
  try refine ⟨sd,?_⟩
  refine Rg.callO (av:=?av10) [] (ok_R_worldOf r_14 _ hr_15) si si si sg sg ?cont10
  rintro _ _ ⟨rfl,rfl⟩ hv10
  simp only [go_sem,simprocAttr]
  refine kA hK7 ?_
  refine qS ?_
  refine Wp.repl 1 9 rfl rfl (by decide) (by exact Nat.le_of_ble_eq_true rfl) (by exact Nat.le_of_ble_eq_true rfl) ?_
  simp only [go_sem,simprocAttr]
  refine Wp.repl 2 6 rfl rfl (by decide) (by exact Nat.le_of_ble_eq_true rfl) (by exact Nat.le_of_ble_eq_true rfl) ?_
  simp only [go_sem,simprocAttr]
  refine Wp.repl 3 7 rfl rfl (by decide) (by exact Nat.le_of_ble_eq_true rfl) (by exact Nat.le_of_ble_eq_true rfl) ?_
  simp only [go_sem,simprocAttr]
  refine Wp.repl 4 8 rfl rfl (by decide) (by exact Nat.le_of_ble_eq_true rfl) (by exact Nat.le_of_ble_eq_true rfl) ?_
  simp only [go_sem,simprocAttr]
  refine Wp.ret ?_
  refine retQ_ret ?_
  cases hm
  exact fse1
theorem ok_disk_Disk_Machine_i1 (o0_1_1:Bool) (o0_2_2:Bool) (o0_3_3:Int) (o0_4_4:Bool) (o0_5_5:Int) (o1_0_6:List api_Setting) (m2_7:List (Str × api_File)) (m3_8:List (Str × Int)) (m4_9:List (Str × api_Setting)) (m5_10:List (Str × api_Service)) (z:api_Machine × Int) (hm:disk_Disk_Machine_i1 o0_1_1 o0_2_2 o0_3_3 o0_4_4 o0_5_5 o1_0_6 m2_7 m3_8 m4_9 m5_10=some z):Does Tryz.prog 21 [.ptr 0 0] [.cells 114 [.ptr 1 0,.p (.b o0_1_1),.p (.b o0_2_2),.p (.i .i64 o0_3_3),.p (.b o0_4_4),.p (.i .i64 o0_5_5)],.cells 193 [.p (.l (List.map enc_api_Setting o1_0_6)),.mp 2,.mp 3,.mp 4,.mp 5],.mp true (encM Dt.s enc_api_File m2_7),.mp false (encM Dt.s ecI_i64 m3_8),.mp true (encM Dt.s enc_api_Setting m4_9),.mp true (encM Dt.s enc_api_Service m5_10)] (fun r X=>r=.tup [.agg [.p (.l (List.map enc_api_Setting z.1.Facts)),.p (.l (List.map enc_api_File z.1.Files)),.p (.l (List.map enc_api_Setting z.1.Settings)),.p (.l (List.map enc_api_Service z.1.Services))],.p (.i .i64 z.2)]∧X=[.cells 114 [.ptr 1 0,.p (.b o0_1_1),.p (.b o0_2_2),.p (.i .i64 o0_3_3),.p (.b o0_4_4),.p (.i .i64 o0_5_5)],.cells 193 [.p (.l (List.map enc_api_Setting o1_0_6)),.mp 2,.mp 3,.mp 4,.mp 5],.mp true (encM Dt.s enc_api_File m2_7),.mp false (encM Dt.s ecI_i64 m3_8),.mp true (encM Dt.s enc_api_Setting m4_9),.mp true (encM Dt.s enc_api_Service m5_10)]):=by
 unfold disk_Disk_Machine_i1 at hm
 refine dW 6 14 [.cell 2 26,.tmp 3] Tryz.func21 fun B=>?_
 refine qS ?_
 refine Wp.seqW fun K2 hK2 hW2=>?_
 refine qS ?_
 refine cM hm (fun hc4 hm=>?_) (fun hc4 hm=>?_)
 ·refine qS ?_
  refine Wp.ret ?_
  simp only [thenQ,blockQ]
  refine retQ_retE ?_
  cases hm
  exact fse1
 ·refine Wp.skip ?_
  refine hK2 _ _ ?_
  obtain ⟨r_12,hr_12,hm⟩:=call_elim hm
  refine Wp.seqR fun K6 hK6=>?_
  simp only [go_sem,simprocAttr]
  try refine ⟨sd,?_⟩
  refine Rg.callR (av:=?av7) (g:=true) [1,2,3,4,5] (fun hg=>ok_disk_bench_machine_i1 o1_0_6 m2_7 m3_8 m4_9 m5_10 _ hr_12) si si si si sg sg sg ?cont7
  simp only [go_sem,simprocAttr]
  refine kA hK6 ?_
  refine Wp.ret ?_
  refine retQ_ret ?_
  cases hm
  exact fse1
theorem ok_R_Disk_Machine_i1 (o0_1_1:Bool) (o0_2_2:Int) (o0_3_3:Bool) (o0_4_4:Bool) (o0_5_5:Int) (o1_0_6:List api_Setting) (m2_7:List (Str × api_File)) (m3_8:List (Str × Str)) (m4_9:List (Str × api_Service)) (z:api_Machine × Int) (hm:R_Disk_Machine_i1 o0_1_1 o0_2_2 o0_3_3 o0_4_4 o0_5_5 o1_0_6 m2_7 m3_8 m4_9=some z):Does Tryz.prog 22 [.ptr 0 0] [.cells 124 [.ptr 1 0,.p (.b o0_1_1),.p (.i .i64 o0_2_2),.p (.b o0_3_3),.p (.b o0_4_4),.p (.i .i64 o0_5_5)],.cells 129 [.p (.l (List.map enc_api_Setting o1_0_6)),.mp 2,.mp 3,.mp 4],.mp true (encM Dt.s enc_api_File m2_7),.mp false (encM Dt.s ecS m3_8),.mp true (encM Dt.s enc_api_Service m4_9)] (fun r X=>r=.tup [.agg [.p (.l (List.map enc_api_Setting z.1.Facts)),.p (.l (List.map enc_api_File z.1.Files)),.p (.l (List.map enc_api_Setting z.1.Settings)),.p (.l (List.map enc_api_Service z.1.Services))],.p (.i .i64 z.2)]∧X=[.cells 124 [.ptr 1 0,.p (.b o0_1_1),.p (.i .i64 o0_2_2),.p (.b o0_3_3),.p (.b o0_4_4),.p (.i .i64 o0_5_5)],.cells 129 [.p (.l (List.map enc_api_Setting o1_0_6)),.mp 2,.mp 3,.mp 4],.mp true (encM Dt.s enc_api_File m2_7),.mp false (encM Dt.s ecS m3_8),.mp true (encM Dt.s enc_api_Service m4_9)]):=by
 unfold R_Disk_Machine_i1 at hm
 refine dW 5 14 [.cell 2 26,.tmp 3] Tryz.func22 fun B=>?_
 refine qS ?_
 refine Wp.seqW fun K2 hK2 hW2=>?_
 refine qS ?_
 refine cM hm (fun hc4 hm=>?_) (fun hc4 hm=>?_)
 ·refine qS ?_
  refine Wp.ret ?_
  simp only [thenQ,blockQ]
  refine retQ_retE ?_
  cases hm
  exact fse1
 ·refine Wp.skip ?_
  refine hK2 _ _ ?_
  obtain ⟨r_11,hr_11,hm⟩:=call_elim hm
  refine Wp.seqR fun K6 hK6=>?_
  simp only [go_sem,simprocAttr]
  try refine ⟨sd,?_⟩
  refine Rg.callR (av:=?av7) (g:=true) [1,2,3,4] (fun hg=>ok_R_world_machine_i1 o1_0_6 m2_7 m3_8 m4_9 _ hr_11) si si si si sg sg sg ?cont7
  simp only [go_sem,simprocAttr]
  refine kA hK6 ?_
  refine Wp.ret ?_
  refine retQ_ret ?_
  cases hm
  exact fse1
theorem ok_slices_Equal_api_Setting_api_Setting (s1_1:List api_Setting) (s2_2:List api_Setting) (z:Bool) (hm:slices_Equal_api_Setting_api_Setting s1_1 s2_2=some z):Does Tryz.prog 81 [.p (.l (List.map enc_api_Setting s1_1)),.p (.l (List.map enc_api_Setting s2_2))] [] (fun r X=>r=.p (.b z)∧X=[]):=by
 unfold slices_Equal_api_Setting_api_Setting at hm
 refine dW 0 26 [.tmp 4] Tryz.func81 fun B=>?_
 refine qS ?_
 refine Wp.seqW fun K2 hK2 hW2=>?_
 refine qS ?_
 refine cM hm (fun hc4 hm=>?_) (fun hc4 hm=>?_)
 ·refine qS ?_
  refine Wp.ret ?_
  refine retQ_ret ?_
  cases hm
  exact fse1
 ·refine Wp.skip ?_
  refine hK2 _ _ ?_
  refine Wp.seqW fun K6 hK6 hW6=>?_
  obtain ⟨k_12,hk_12,hm⟩:=jp_elim hm
  have hcut6:∀ s,k_12 s=some z→K6 [] []:=by
   intro s hs
   have hm:=hk_12 _ hs
   clear hs
   try dsimp only at hm
   try dsimp only
   refine hK6 _ _ ?_
   refine qS ?_
   refine Wp.ret ?_
   refine retQ_ret ?_
   cases hm
   exact fse1
  clear hK6 hk_12
  refine qS ?_
  refine Wp.block ?_
  obtain ⟨k_16,hk_16,hm⟩:=forL_cont hm
  refine Wp.fact 0 fun hl_19=>?_
  replace hl_19:s1_1.length≤274877906944:=by
   simp only [go_sem,simprocAttr,List.length_map] at hl_19
   omega
  refine Wp.forL (fun i_18 s=>[(0,.p (.l (List.map enc_api_Setting s1_1))),(1,.p (.l (List.map enc_api_Setting s2_2))),(12,.p (.i .i64 (s1_1.length:Int))),(13,.p (.i .i64 (i_18:Int)))]) (fun i_18 s=>[]) ?_ hm ?_
  ·
   exact fse1
  clear hm
  intro i_18 s hii_18 hm
  try dsimp only at hm
  try dsimp only
  refine qS ?_
  refine Wp.seqW fun K10 hK10 hW10=>?_
  refine Wp.cond rfl ⟨⟩ (fun hc10=>?_) (fun hc10=>?_)
  rotate_left
  ·refine Wp.exit ?_
   have hm:=hk_16 _ (forL_end hm (ge_nat (by first | exact hc10 | simpa using hc10)))
   try dsimp only at hm
   refine hW6 _ _ _ _ ?_ (hcut6 () hm)
   exact fse1
  have hlt10:=lt_nat (by first | exact hc10 | simpa using hc10)
  have hw10:=wrap_succ hlt10 hl_19
  obtain ⟨s_20,nx_17,hxs_20,hys_20,hnx_17,hm⟩:=forL_step hm hlt10
  replace hxs_20:=hxs_20 enc_api_Setting
  refine Wp.skip ?_
  simp only [thenQ]
  refine hK10 _ _ ?_
  refine Wp.seqW fun K11 hK11 hW11=>?_
  refine Wp.block ?_
  refine Wp.seqR fun K12 hK12=>?_
  simp only [go_sem,simprocAttr,hw10,hxs_20]
  refine kA hK12 ?_
  obtain ⟨s_21,hbs_21,hxs_21,hys_21,hm⟩:=idx_elim hm
  replace hxs_21:∀ d,(List.map enc_api_Setting s2_2).getD i_18 d=enc_api_Setting s_21:=hxs_21 enc_api_Setting
  refine Wp.seqD (plan:=pl [(0,none),(1,none),(2,none),(3,none),(4,none),(5,none),(6,none),(7,none),(8,none)]) (by kernel_rfl) rfl (by kernel_rfl) fun K13 hK13=>?_
  simp only [go_sem,simprocAttr,hw10,hxs_20,hxs_21]
  refine kA hK13 ?_
  refine cM hm (fun hc14 hm=>?_) (fun hc14 hm=>?_)
  ·refine Wp.seqR fun K15 hK15=>?_
   simp only [go_sem,simprocAttr,hw10,hxs_20,hxs_21]
   refine kA hK15 ?_
   refine Wp.ret ?_
   refine retQ_ret ?_
   cases hm
   simp only [go_sem,simprocAttr,hw10,hxs_20,hxs_21]
   try exact se1
  ·refine Wp.skip ?_
   refine hK11 _ _ ?_
   refine Wp.region fun K16 hK16=>?_
   simp only [go_sem,simprocAttr,hw10,hxs_20,hxs_21]
   refine kA hK16 ?_
   simp only [thenQ,blockQ,↓reduceIte]
   refine ⟨(),hlt10,hnx_17 _ hm,?_⟩
   simp only [go_sem,simprocAttr,hw10,hxs_20,hxs_21]
   try exact se1
theorem ok_slices_Equal_api_File_api_File (s1_1:List api_File) (s2_2:List api_File) (z:Bool) (hm:slices_Equal_api_File_api_File s1_1 s2_2=some z):Does Tryz.prog 82 [.p (.l (List.map enc_api_File s1_1)),.p (.l (List.map enc_api_File s2_2))] [] (fun r X=>r=.p (.b z)∧X=[]):=by
 unfold slices_Equal_api_File_api_File at hm
 refine dW 0 26 [.tmp 4] Tryz.func82 fun B=>?_
 refine qS ?_
 refine Wp.seqW fun K2 hK2 hW2=>?_
 refine qS ?_
 refine cM hm (fun hc4 hm=>?_) (fun hc4 hm=>?_)
 ·refine qS ?_
  refine Wp.ret ?_
  refine retQ_ret ?_
  cases hm
  exact fse1
 ·refine Wp.skip ?_
  refine hK2 _ _ ?_
  refine Wp.seqW fun K6 hK6 hW6=>?_
  obtain ⟨k_12,hk_12,hm⟩:=jp_elim hm
  have hcut6:∀ s,k_12 s=some z→K6 [] []:=by
   intro s hs
   have hm:=hk_12 _ hs
   clear hs
   try dsimp only at hm
   try dsimp only
   refine hK6 _ _ ?_
   refine qS ?_
   refine Wp.ret ?_
   refine retQ_ret ?_
   cases hm
   exact fse1
  clear hK6 hk_12
  refine qS ?_
  refine Wp.block ?_
  obtain ⟨k_16,hk_16,hm⟩:=forL_cont hm
  refine Wp.fact 0 fun hl_19=>?_
  replace hl_19:s1_1.length≤274877906944:=by
   simp only [go_sem,simprocAttr,List.length_map] at hl_19
   omega
  refine Wp.forL (fun i_18 s=>[(0,.p (.l (List.map enc_api_File s1_1))),(1,.p (.l (List.map enc_api_File s2_2))),(12,.p (.i .i64 (s1_1.length:Int))),(13,.p (.i .i64 (i_18:Int)))]) (fun i_18 s=>[]) ?_ hm ?_
  ·
   exact fse1
  clear hm
  intro i_18 s hii_18 hm
  try dsimp only at hm
  try dsimp only
  refine qS ?_
  refine Wp.seqW fun K10 hK10 hW10=>?_
  refine Wp.cond rfl ⟨⟩ (fun hc10=>?_) (fun hc10=>?_)
  rotate_left
  ·refine Wp.exit ?_
   have hm:=hk_16 _ (forL_end hm (ge_nat (by first | exact hc10 | simpa using hc10)))
   try dsimp only at hm
   refine hW6 _ _ _ _ ?_ (hcut6 () hm)
   exact fse1
  have hlt10:=lt_nat (by first | exact hc10 | simpa using hc10)
  have hw10:=wrap_succ hlt10 hl_19
  obtain ⟨f_20,nx_17,hxf_20,hyf_20,hnx_17,hm⟩:=forL_step hm hlt10
  replace hxf_20:=hxf_20 enc_api_File
  refine Wp.skip ?_
  simp only [thenQ]
  refine hK10 _ _ ?_
  refine Wp.seqW fun K11 hK11 hW11=>?_
  refine Wp.block ?_
  refine Wp.seqR fun K12 hK12=>?_
  simp only [go_sem,simprocAttr,hw10,hxf_20]
  refine kA hK12 ?_
  obtain ⟨f_21,hbf_21,hxf_21,hyf_21,hm⟩:=idx_elim hm
  replace hxf_21:∀ d,(List.map enc_api_File s2_2).getD i_18 d=enc_api_File f_21:=hxf_21 enc_api_File
  refine Wp.seqD (plan:=pl [(0,none),(1,none),(2,none),(3,none),(4,none),(5,none),(6,none),(7,none),(8,none)]) (by kernel_rfl) rfl (by kernel_rfl) fun K13 hK13=>?_
  simp only [go_sem,simprocAttr,hw10,hxf_20,hxf_21]
  refine kA hK13 ?_
  refine cM hm (fun hc14 hm=>?_) (fun hc14 hm=>?_)
  ·refine Wp.seqR fun K15 hK15=>?_
   simp only [go_sem,simprocAttr,hw10,hxf_20,hxf_21]
   refine kA hK15 ?_
   refine Wp.ret ?_
   refine retQ_ret ?_
   cases hm
   simp only [go_sem,simprocAttr,hw10,hxf_20,hxf_21]
   try exact se1
  ·refine Wp.skip ?_
   refine hK11 _ _ ?_
   refine Wp.region fun K16 hK16=>?_
   simp only [go_sem,simprocAttr,hw10,hxf_20,hxf_21]
   refine kA hK16 ?_
   simp only [thenQ,blockQ,↓reduceIte]
   refine ⟨(),hlt10,hnx_17 _ hm,?_⟩
   simp only [go_sem,simprocAttr,hw10,hxf_20,hxf_21]
   try exact se1
theorem ok_slices_Equal_api_Service_api_Service (s1_1:List api_Service) (s2_2:List api_Service) (z:Bool) (hm:slices_Equal_api_Service_api_Service s1_1 s2_2=some z):Does Tryz.prog 83 [.p (.l (List.map enc_api_Service s1_1)),.p (.l (List.map enc_api_Service s2_2))] [] (fun r X=>r=.p (.b z)∧X=[]):=by
 unfold slices_Equal_api_Service_api_Service at hm
 refine dW 0 26 [.tmp 4] Tryz.func83 fun B=>?_
 refine qS ?_
 refine Wp.seqW fun K2 hK2 hW2=>?_
 refine qS ?_
 refine cM hm (fun hc4 hm=>?_) (fun hc4 hm=>?_)
 ·refine qS ?_
  refine Wp.ret ?_
  refine retQ_ret ?_
  cases hm
  exact fse1
 ·refine Wp.skip ?_
  refine hK2 _ _ ?_
  refine Wp.seqW fun K6 hK6 hW6=>?_
  obtain ⟨k_12,hk_12,hm⟩:=jp_elim hm
  have hcut6:∀ s,k_12 s=some z→K6 [] []:=by
   intro s hs
   have hm:=hk_12 _ hs
   clear hs
   try dsimp only at hm
   try dsimp only
   refine hK6 _ _ ?_
   refine qS ?_
   refine Wp.ret ?_
   refine retQ_ret ?_
   cases hm
   exact fse1
  clear hK6 hk_12
  refine qS ?_
  refine Wp.block ?_
  obtain ⟨k_16,hk_16,hm⟩:=forL_cont hm
  refine Wp.fact 0 fun hl_19=>?_
  replace hl_19:s1_1.length≤274877906944:=by
   simp only [go_sem,simprocAttr,List.length_map] at hl_19
   omega
  refine Wp.forL (fun i_18 s=>[(0,.p (.l (List.map enc_api_Service s1_1))),(1,.p (.l (List.map enc_api_Service s2_2))),(12,.p (.i .i64 (s1_1.length:Int))),(13,.p (.i .i64 (i_18:Int)))]) (fun i_18 s=>[]) ?_ hm ?_
  ·
   exact fse1
  clear hm
  intro i_18 s hii_18 hm
  try dsimp only at hm
  try dsimp only
  refine qS ?_
  refine Wp.seqW fun K10 hK10 hW10=>?_
  refine Wp.cond rfl ⟨⟩ (fun hc10=>?_) (fun hc10=>?_)
  rotate_left
  ·refine Wp.exit ?_
   have hm:=hk_16 _ (forL_end hm (ge_nat (by first | exact hc10 | simpa using hc10)))
   try dsimp only at hm
   refine hW6 _ _ _ _ ?_ (hcut6 () hm)
   exact fse1
  have hlt10:=lt_nat (by first | exact hc10 | simpa using hc10)
  have hw10:=wrap_succ hlt10 hl_19
  obtain ⟨s_20,nx_17,hxs_20,hys_20,hnx_17,hm⟩:=forL_step hm hlt10
  replace hxs_20:=hxs_20 enc_api_Service
  refine Wp.skip ?_
  simp only [thenQ]
  refine hK10 _ _ ?_
  refine Wp.seqW fun K11 hK11 hW11=>?_
  refine Wp.block ?_
  refine Wp.seqR fun K12 hK12=>?_
  simp only [go_sem,simprocAttr,hw10,hxs_20]
  refine kA hK12 ?_
  obtain ⟨s_21,hbs_21,hxs_21,hys_21,hm⟩:=idx_elim hm
  replace hxs_21:∀ d,(List.map enc_api_Service s2_2).getD i_18 d=enc_api_Service s_21:=hxs_21 enc_api_Service
  refine Wp.seqD (plan:=pl [(0,none),(1,none),(2,none),(3,none),(4,none),(5,none),(6,none),(7,none),(8,none)]) (by kernel_rfl) rfl (by kernel_rfl) fun K13 hK13=>?_
  simp only [go_sem,simprocAttr,hw10,hxs_20,hxs_21]
  refine kA hK13 ?_
  refine cM hm (fun hc14 hm=>?_) (fun hc14 hm=>?_)
  ·refine Wp.seqR fun K15 hK15=>?_
   simp only [go_sem,simprocAttr,hw10,hxs_20,hxs_21]
   refine kA hK15 ?_
   refine Wp.ret ?_
   refine retQ_ret ?_
   cases hm
   simp only [go_sem,simprocAttr,hw10,hxs_20,hxs_21]
   try exact se1
  ·refine Wp.skip ?_
   refine hK11 _ _ ?_
   refine Wp.region fun K16 hK16=>?_
   simp only [go_sem,simprocAttr,hw10,hxs_20,hxs_21]
   refine kA hK16 ?_
   simp only [thenQ,blockQ,↓reduceIte]
   refine ⟨(),hlt10,hnx_17 _ hm,?_⟩
   simp only [go_sem,simprocAttr,hw10,hxs_20,hxs_21]
   try exact se1
theorem ok_R_Same (a_1:api_Machine) (b_2:api_Machine) (z:Bool) (hm:R_Same a_1 b_2=some z):Does Tryz.prog 23 [.agg [.p (.l (List.map enc_api_Setting a_1.Facts)),.p (.l (List.map enc_api_File a_1.Files)),.p (.l (List.map enc_api_Setting a_1.Settings)),.p (.l (List.map enc_api_Service a_1.Services))],.agg [.p (.l (List.map enc_api_Setting b_2.Facts)),.p (.l (List.map enc_api_File b_2.Files)),.p (.l (List.map enc_api_Setting b_2.Settings)),.p (.l (List.map enc_api_Service b_2.Services))]] [] (fun r X=>r=.p (.b z)∧X=[]):=by
 unfold R_Same at hm
 refine dW 0 31 [.tmp 4] Tryz.func23 fun B=>?_
 refine qS ?_
 obtain ⟨r_3,hr_3,hm⟩:=call_elim hm
 obtain ⟨r_4,hr_4,hm⟩:=callG_elim hm
 obtain ⟨r_5,hr_5,hm⟩:=callG_elim hm
 obtain ⟨r_6,hr_6,hm⟩:=callG_elim hm
 refine Wp.seqR fun K2 hK2=>?_
 simp only [go_sem,simprocAttr]
 try refine ⟨sd,?_⟩
 refine Rg.callX (av:=?av3) (g:=true) (fun hg=>ok_slices_Equal_api_Setting_api_Setting a_1.Facts b_2.Facts _ hr_3) si si si sg si ?cont3
 intro hv3
 simp only [go_sem,simprocAttr]
 try refine ⟨sd,?_⟩
 refine Rg.callX (av:=?av4) (g:=r_3) (fun hg=>ok_slices_Equal_api_File_api_File a_1.Files b_2.Files _ (hr_4 hg)) si si si sg si ?cont4
 intro hv4
 simp only [go_sem,simprocAttr]
 try refine ⟨sd,?_⟩
 refine Rg.callX (av:=?av5) (g:=(r_3 && r_4)) (fun hg=>ok_slices_Equal_api_Setting_api_Setting a_1.Settings b_2.Settings _ (hr_5 hg)) si si si sg si ?cont5
 intro hv5
 simp only [go_sem,simprocAttr]
 try refine ⟨sd,?_⟩
 refine Rg.callX (av:=?av6) (g:=((r_3 && r_4) && r_5)) (fun hg=>ok_slices_Equal_api_Service_api_Service a_1.Services b_2.Services _ (hr_6 hg)) si si si sg si ?cont6
 intro hv6
 simp only [go_sem,simprocAttr]
 refine kA hK2 ?_
 refine Wp.ret ?_
 refine retQ_ret ?_
 cases hm
 exact fse1
theorem ok_disk_Disk_Peek_i1 (o0_1_1:Bool) (o0_2_2:Bool) (o0_3_3:Int) (o0_4_4:Bool) (o0_5_5:Int) (o1_0_6:List api_Setting) (m2_7:List (Str × api_File)) (m3_8:List (Str × Int)) (m4_9:List (Str × api_Setting)) (m5_10:List (Str × api_Service)) (z:api_Machine) (hm:disk_Disk_Peek_i1 o0_1_1 o0_2_2 o0_3_3 o0_4_4 o0_5_5 o1_0_6 m2_7 m3_8 m4_9 m5_10=some z):Does Tryz.prog 24 [.ptr 0 0] [.cells 114 [.ptr 1 0,.p (.b o0_1_1),.p (.b o0_2_2),.p (.i .i64 o0_3_3),.p (.b o0_4_4),.p (.i .i64 o0_5_5)],.cells 193 [.p (.l (List.map enc_api_Setting o1_0_6)),.mp 2,.mp 3,.mp 4,.mp 5],.mp true (encM Dt.s enc_api_File m2_7),.mp false (encM Dt.s ecI_i64 m3_8),.mp true (encM Dt.s enc_api_Setting m4_9),.mp true (encM Dt.s enc_api_Service m5_10)] (fun r X=>r=.agg [.p (.l (List.map enc_api_Setting z.Facts)),.p (.l (List.map enc_api_File z.Files)),.p (.l (List.map enc_api_Setting z.Settings)),.p (.l (List.map enc_api_Service z.Services))]∧X=[.cells 114 [.ptr 1 0,.p (.b o0_1_1),.p (.b o0_2_2),.p (.i .i64 o0_3_3),.p (.b o0_4_4),.p (.i .i64 o0_5_5)],.cells 193 [.p (.l (List.map enc_api_Setting o1_0_6)),.mp 2,.mp 3,.mp 4,.mp 5],.mp true (encM Dt.s enc_api_File m2_7),.mp false (encM Dt.s ecI_i64 m3_8),.mp true (encM Dt.s enc_api_Setting m4_9),.mp true (encM Dt.s enc_api_Service m5_10)]):=by
 unfold disk_Disk_Peek_i1 at hm
 refine dW 6 8 [.cell 2 26] Tryz.func24 fun B=>?_
 refine qS ?_
 obtain ⟨r_12,hr_12,hm⟩:=call_elim hm
 refine Wp.seqR fun K2 hK2=>?_
 simp only [go_sem,simprocAttr]
 try refine ⟨sd,?_⟩
 refine Rg.callR (av:=?av3) (g:=true) [1,2,3,4,5] (fun hg=>ok_disk_bench_machine_i1 o1_0_6 m2_7 m3_8 m4_9 m5_10 _ hr_12) si si si si sg sg sg ?cont3
 simp only [go_sem,simprocAttr]
 refine kA hK2 ?_
 refine Wp.ret ?_
 refine retQ_ret ?_
 cases hm
 exact fse1
end Go.Proofs.YtbofknpajcdnmaaGreatDoor
