/- That the code does what the models say (part 4). -/
import Derived.Test.YtbofknpajcdnmaaGreatDoorDmWk0
import Derived.Test.YtbofknpajcdnmaaGreatDoorDmWk3
set_option linter.unusedSimpArgs false
set_option linter.unusedVariables false
open Go.Proofs Go.Shelf
namespace Go.Proofs.YtbofknpajcdnmaaGreatDoor
open Go.Vc Go.Md
set_option maxRecDepth 100000
set_option maxHeartbeats 4000000
theorem ok_disk_benchOf (m_1:api_Machine) (z:(List (Str × api_File)) × (List (Str × Int)) × (List (Str × api_Setting)) × (List (Str × api_Service)) × List api_Setting) (hm:disk_benchOf m_1=some z):Does Tryz.prog 66 [.agg [.p (.l (List.map enc_api_Setting m_1.Facts)),.p (.l (List.map enc_api_File m_1.Files)),.p (.l (List.map enc_api_Setting m_1.Settings)),.p (.l (List.map enc_api_Service m_1.Services))]] [] (fun r X=>r=.ptr 5 0∧X=[.cells 26 [.top,.top,.top,.top],.mp true (encM Dt.s enc_api_File z.1),.mp false (encM Dt.s ecI_i64 z.2.1),.mp true (encM Dt.s enc_api_Setting z.2.2.1),.mp true (encM Dt.s enc_api_Service z.2.2.2.1),.cells 193 [.p (.l (List.map enc_api_Setting z.2.2.2.2)),.mp 1,.mp 2,.mp 3,.mp 4]]):=by
 unfold disk_benchOf at hm
 refine dW 6 61 [.tmp 2] Tryz.func66 fun B=>?_
 refine qS ?_
 obtain ⟨r_102,hr_102,hm⟩:=call_elim hm
 refine Wp.seqR fun K2 hK2=>?_
 simp only [go_sem,simprocAttr]
 try refine ⟨sd,?_⟩
 refine Rg.callF (av:=?av3) (ok_slices_Clone_api_Setting_api_Setting m_1.Facts _ hr_102) si si sg ?cont3
 intro hv3
 simp only [go_sem,simprocAttr]
 refine kA hK2 ?_
 refine Wp.seqW fun K4 hK4 hW4=>?_
 obtain ⟨k_119,hk_119,hm⟩:=jp_elim hm
 have hcut4:∀ s,k_119 s=some z→K4 [(1,.ptr 0 0),(3,.ptr 5 0)] [.cells 26 [.p (.l (List.map enc_api_Setting m_1.Facts)),.p (.l (List.map enc_api_File m_1.Files)),.p (.l (List.map enc_api_Setting m_1.Settings)),.p (.l (List.map enc_api_Service m_1.Services))],.mp true (encM Dt.s enc_api_File s.1),.mp false (encM Dt.s ecI_i64 s.2),.mp true (encM Dt.s enc_api_Setting []),.mp true (encM Dt.s enc_api_Service []),.cells 193 [.p (.l (List.map enc_api_Setting r_102)),.mp 1,.mp 2,.mp 3,.mp 4]]:=by
  intro s hs
  have hm:=hk_119 _ hs
  clear hs
  obtain ⟨m1_117,m2_118⟩:=s
  try dsimp only at hm
  try dsimp only
  refine hK4 _ _ ?_
  refine Wp.seqW fun K5 hK5 hW5=>?_
  obtain ⟨k_137,hk_137,hm⟩:=jp_elim hm
  have hcut5:∀ s,k_137 s=some z→K5 [(1,.ptr 0 0),(3,.ptr 5 0)] [.cells 26 [.p (.l (List.map enc_api_Setting m_1.Facts)),.p (.l (List.map enc_api_File m_1.Files)),.p (.l (List.map enc_api_Setting m_1.Settings)),.p (.l (List.map enc_api_Service m_1.Services))],.mp true (encM Dt.s enc_api_File m1_117),.mp false (encM Dt.s ecI_i64 m2_118),.mp true (encM Dt.s enc_api_Setting s),.mp true (encM Dt.s enc_api_Service []),.cells 193 [.p (.l (List.map enc_api_Setting r_102)),.mp 1,.mp 2,.mp 3,.mp 4]]:=by
   intro m3_136 hs
   have hm:=hk_137 _ hs
   clear hs
   try dsimp only at hm
   try dsimp only
   refine hK5 _ _ ?_
   refine Wp.seqW fun K6 hK6 hW6=>?_
   obtain ⟨k_155,hk_155,hm⟩:=jp_elim hm
   have hcut6:∀ s,k_155 s=some z→K6 [(3,.ptr 5 0)] [.cells 26 [.top,.top,.top,.top],.mp true (encM Dt.s enc_api_File m1_117),.mp false (encM Dt.s ecI_i64 m2_118),.mp true (encM Dt.s enc_api_Setting m3_136),.mp true (encM Dt.s enc_api_Service s),.cells 193 [.p (.l (List.map enc_api_Setting r_102)),.mp 1,.mp 2,.mp 3,.mp 4]]:=by
    intro m4_154 hs
    have hm:=hk_155 _ hs
    clear hs
    try dsimp only at hm
    try dsimp only
    refine hK6 _ _ ?_
    refine qS ?_
    refine Wp.ret ?_
    refine retQ_ret ?_
    cases hm
    exact fse1
   clear hK6 hk_155
   refine qS ?_
   refine Wp.block ?_
   obtain ⟨k_165,hk_165,hm⟩:=forL_cont hm
   refine Wp.fact 46 fun hl_168=>?_
   replace hl_168:m_1.Services.length≤274877906944:=by
    simp only [go_sem,simprocAttr,List.length_map] at hl_168
    omega
   refine Wp.forL (fun i_167 s=>[(3,.ptr 5 0),(46,.p (.l (List.map enc_api_Service m_1.Services))),(47,.p (.i .i64 (m_1.Services.length:Int))),(48,.p (.i .i64 (i_167:Int)))]) (fun i_167 s=>[.cells 26 [.p (.l (List.map enc_api_Setting m_1.Facts)),.p (.l (List.map enc_api_File m_1.Files)),.p (.l (List.map enc_api_Setting m_1.Settings)),.p (.l (List.map enc_api_Service m_1.Services))],.mp true (encM Dt.s enc_api_File m1_117),.mp false (encM Dt.s ecI_i64 m2_118),.mp true (encM Dt.s enc_api_Setting m3_136),.mp true (encM Dt.s enc_api_Service s),.cells 193 [.p (.l (List.map enc_api_Setting r_102)),.mp 1,.mp 2,.mp 3,.mp 4]]) ?_ hm ?_
   ·
    exact fse1
   clear hm
   intro i_167 m4_161 hii_167 hm
   try dsimp only at hm
   try dsimp only
   refine qS ?_
   refine Wp.seqW fun K10 hK10 hW10=>?_
   refine Wp.cond rfl ⟨⟩ (fun hc10=>?_) (fun hc10=>?_)
   rotate_left
   ·refine Wp.exit ?_
    have hm:=hk_165 _ (forL_end hm (ge_nat (by first | exact hc10 | simpa using hc10)))
    try dsimp only at hm
    refine hW6 _ _ _ _ ?_ (hcut6 m4_161 hm)
    exact fse1
   have hlt10:=lt_nat (by first | exact hc10 | simpa using hc10)
   have hw10:=wrap_succ hlt10 hl_168
   obtain ⟨s_169,nx_166,hxs_169,hys_169,hnx_166,hm⟩:=forL_step hm hlt10
   replace hxs_169:=hxs_169 enc_api_Service
   refine Wp.skip ?_
   simp only [thenQ]
   refine hK10 _ _ ?_
   refine Wp.seqW fun K11 hK11 hW11=>?_
   refine Wp.block ?_
   refine Wp.seqR fun K12 hK12=>?_
   simp only [go_sem,simprocAttr,hw10,hxs_169]
   refine kA hK12 ?_
   obtain ⟨c_171,hm⟩:=chk_elim hm
   have hp_170:=mset_enc (e:=enc_api_Service) keq_s m4_161 s_169.Name s_169
   simp only [enc_api_Service] at hp_170
   refine Wp.regD (plan:=pl [(0,none),(1,none),(2,none),(3,none),(4,none),(5,none),(6,none),(7,some [])]) (by kernel_rfl) rfl (by kernel_rfl) fun K13 hK13=>?_
   simp only [go_sem,simprocAttr,hw10,hxs_169,hp_170]
   refine kA hK13 ?_
   refine hK11 _ _ ?_
   refine Wp.region fun K14 hK14=>?_
   simp only [go_sem,simprocAttr,hw10,hxs_169]
   refine kA hK14 ?_
   simp only [thenQ,blockQ,↓reduceIte]
   refine ⟨aset m4_161 s_169.Name s_169,hlt10,hnx_166 _ hm,?_⟩
   simp only [go_sem,simprocAttr,hw10,hxs_169]
   try exact se1
  clear hK5 hk_137
  refine qS ?_
  refine Wp.block ?_
  obtain ⟨k_181,hk_181,hm⟩:=forL_cont hm
  refine Wp.fact 31 fun hl_184=>?_
  replace hl_184:m_1.Settings.length≤274877906944:=by
   simp only [go_sem,simprocAttr,List.length_map] at hl_184
   omega
  refine Wp.forL (fun i_183 s=>[(1,.ptr 0 0),(3,.ptr 5 0),(31,.p (.l (List.map enc_api_Setting m_1.Settings))),(32,.p (.i .i64 (m_1.Settings.length:Int))),(33,.p (.i .i64 (i_183:Int)))]) (fun i_183 s=>[.cells 26 [.p (.l (List.map enc_api_Setting m_1.Facts)),.p (.l (List.map enc_api_File m_1.Files)),.p (.l (List.map enc_api_Setting m_1.Settings)),.p (.l (List.map enc_api_Service m_1.Services))],.mp true (encM Dt.s enc_api_File m1_117),.mp false (encM Dt.s ecI_i64 m2_118),.mp true (encM Dt.s enc_api_Setting s),.mp true (encM Dt.s enc_api_Service []),.cells 193 [.p (.l (List.map enc_api_Setting r_102)),.mp 1,.mp 2,.mp 3,.mp 4]]) ?_ hm ?_
  ·
   exact fse1
  clear hm
  intro i_183 m3_177 hii_183 hm
  try dsimp only at hm
  try dsimp only
  refine qS ?_
  refine Wp.seqW fun K17 hK17 hW17=>?_
  refine Wp.cond rfl ⟨⟩ (fun hc17=>?_) (fun hc17=>?_)
  rotate_left
  ·refine Wp.exit ?_
   have hm:=hk_181 _ (forL_end hm (ge_nat (by first | exact hc17 | simpa using hc17)))
   try dsimp only at hm
   refine hW5 _ _ _ _ ?_ (hcut5 m3_177 hm)
   exact fse1
  have hlt17:=lt_nat (by first | exact hc17 | simpa using hc17)
  have hw17:=wrap_succ hlt17 hl_184
  obtain ⟨s_185,nx_182,hxs_185,hys_185,hnx_182,hm⟩:=forL_step hm hlt17
  replace hxs_185:=hxs_185 enc_api_Setting
  refine Wp.skip ?_
  simp only [thenQ]
  refine hK17 _ _ ?_
  refine Wp.seqW fun K18 hK18 hW18=>?_
  refine Wp.block ?_
  refine Wp.seqR fun K19 hK19=>?_
  simp only [go_sem,simprocAttr,hw17,hxs_185]
  refine kA hK19 ?_
  obtain ⟨c_187,hm⟩:=chk_elim hm
  have hp_186:=mset_enc (e:=enc_api_Setting) keq_s m3_177 s_185.Key s_185
  simp only [enc_api_Setting] at hp_186
  refine Wp.regD (plan:=pl [(0,none),(1,none),(2,none),(3,none),(4,none),(5,none),(6,none),(7,some [])]) (by kernel_rfl) rfl (by kernel_rfl) fun K20 hK20=>?_
  simp only [go_sem,simprocAttr,hw17,hxs_185,hp_186]
  refine kA hK20 ?_
  refine hK18 _ _ ?_
  refine Wp.region fun K21 hK21=>?_
  simp only [go_sem,simprocAttr,hw17,hxs_185]
  refine kA hK21 ?_
  simp only [thenQ,blockQ,↓reduceIte]
  refine ⟨aset m3_177 s_185.Key s_185,hlt17,hnx_182 _ hm,?_⟩
  simp only [go_sem,simprocAttr,hw17,hxs_185]
  try exact se1
 clear hK4 hk_119
 refine qS ?_
 refine Wp.block ?_
 obtain ⟨k_196,hk_196,hm⟩:=forL_cont hm
 refine Wp.fact 20 fun hl_199=>?_
 replace hl_199:m_1.Files.length≤274877906944:=by
  simp only [go_sem,simprocAttr,List.length_map] at hl_199
  omega
 refine Wp.forL (fun i_198 s=>[(1,.ptr 0 0),(3,.ptr 5 0),(20,.p (.l (List.map enc_api_File m_1.Files))),(21,.p (.i .i64 (m_1.Files.length:Int))),(22,.p (.i .i64 (i_198:Int)))]) (fun i_198 s=>[.cells 26 [.p (.l (List.map enc_api_Setting m_1.Facts)),.p (.l (List.map enc_api_File m_1.Files)),.p (.l (List.map enc_api_Setting m_1.Settings)),.p (.l (List.map enc_api_Service m_1.Services))],.mp true (encM Dt.s enc_api_File s.1),.mp false (encM Dt.s ecI_i64 s.2),.mp true (encM Dt.s enc_api_Setting []),.mp true (encM Dt.s enc_api_Service []),.cells 193 [.p (.l (List.map enc_api_Setting r_102)),.mp 1,.mp 2,.mp 3,.mp 4]]) ?_ hm ?_
 ·
  exact fse1
 clear hm
 intro i_198 s hii_198 hm
 obtain ⟨m1_192,m2_193⟩:=s
 try dsimp only at hm
 try dsimp only
 refine qS ?_
 refine Wp.seqW fun K24 hK24 hW24=>?_
 refine Wp.cond rfl ⟨⟩ (fun hc24=>?_) (fun hc24=>?_)
 rotate_left
 ·refine Wp.exit ?_
  have hm:=hk_196 _ (forL_end hm (ge_nat (by first | exact hc24 | simpa using hc24)))
  try dsimp only at hm
  refine hW4 _ _ _ _ ?_ (hcut4 (m1_192,m2_193) hm)
  exact fse1
 have hlt24:=lt_nat (by first | exact hc24 | simpa using hc24)
 have hw24:=wrap_succ hlt24 hl_199
 obtain ⟨f_200,nx_197,hxf_200,hyf_200,hnx_197,hm⟩:=forL_step hm hlt24
 replace hxf_200:=hxf_200 enc_api_File
 refine Wp.skip ?_
 simp only [thenQ]
 refine hK24 _ _ ?_
 refine Wp.seqW fun K25 hK25 hW25=>?_
 refine Wp.block ?_
 refine Wp.seqR fun K26 hK26=>?_
 simp only [go_sem,simprocAttr,hw24,hxf_200]
 refine kA hK26 ?_
 obtain ⟨r_201,hr_201,hm⟩:=call_elim hm
 refine Wp.region fun K27 hK27=>?_
 simp only [go_sem,simprocAttr,hw24,hxf_200]
 try refine ⟨sd,?_⟩
 refine Rg.callO (av:=?av28) [5,1,2,3,4] (ok_disk_bench_put_i1 f_200 r_102 m1_192 m2_193 [] [] _ hr_201) (by simp only [go_sem,simprocAttr,hw24,hxf_200]; exact Is.mk) (by simp only [go_sem,simprocAttr,hw24,hxf_200]; exact Is.mk) (by simp only [go_sem,simprocAttr,hw24,hxf_200]; exact Is.mk) (by simp only [go_sem,simprocAttr,hw24,hxf_200]) (by simp only [go_sem,simprocAttr,hw24,hxf_200]) ?cont28
 rintro _ _ ⟨rfl,rfl⟩ hv28
 simp only [go_sem,simprocAttr,hw24,hxf_200]
 refine kA hK27 ?_
 refine hK25 _ _ ?_
 refine Wp.region fun K29 hK29=>?_
 simp only [go_sem,simprocAttr,hw24,hxf_200]
 refine kA hK29 ?_
 simp only [thenQ,blockQ,↓reduceIte]
 refine ⟨(r_201.1,r_201.2),hlt24,hnx_197 _ hm,?_⟩
 simp only [go_sem,simprocAttr,hw24,hxf_200]
 try exact se1
theorem ok_disk_NewDisk_nil (m_1:api_Machine) (z:Int) (hm:disk_NewDisk_nil m_1=some z):Does Tryz.prog 12 [.agg [.p (.l (List.map enc_api_Setting m_1.Facts)),.p (.l (List.map enc_api_File m_1.Files)),.p (.l (List.map enc_api_Setting m_1.Settings)),.p (.l (List.map enc_api_Service m_1.Services))]] [] (fun r X=>r=.tup [.nil,.p (.i .i64 z)]∧X=[]):=by
 unfold disk_NewDisk_nil at hm
 refine dW 0 14 [.tmp 2,.tmp 3] Tryz.func12 fun B=>?_
 refine qS ?_
 refine Wp.seqW fun K2 hK2 hW2=>?_
 obtain ⟨r_4,hr_4,hm⟩:=call_elim hm
 refine Wp.seqR fun K3 hK3=>?_
 simp only [go_sem,simprocAttr]
 try refine ⟨sd,?_⟩
 refine Rg.callX (av:=?av4) (g:=true) (fun hg=>ok_disk_Check m_1 _ hr_4) si si si sg si ?cont4
 intro hv4
 simp only [go_sem,simprocAttr]
 refine kA hK3 ?_
 refine qS ?_
 refine cM hm (fun hc6 hm=>?_) (fun hc6 hm=>?_)
 ·refine qS ?_
  refine Wp.ret ?_
  refine retQ_ret ?_
  cases hm
  exact fse1
 ·refine Wp.skip ?_
  refine hK2 _ _ ?_
  obtain ⟨r_5,hr_5,hm⟩:=call_elim hm
  refine Wp.seqR fun K8 hK8=>?_
  simp only [go_sem,simprocAttr]
  try refine ⟨sd,?_⟩
  refine Rg.callO (av:=?av9) [] (ok_disk_benchOf m_1 _ hr_5) si si si sg sg ?cont9
  rintro _ _ ⟨rfl,rfl⟩ hv9
  simp only [go_sem,simprocAttr]
  refine kA hK8 ?_
  refine Wp.ret ?_
  cases hm
theorem ok_internal_bytealg_CompareString (a_1:Str) (b_2:Str) (z:Int) (hm:internal_bytealg_CompareString a_1 b_2=some z):Does Tryz.prog 149 [.p (.s a_1),.p (.s b_2)] [] (fun r X=>r=.p (.i .i64 z)∧X=[]):=by
 unfold internal_bytealg_CompareString at hm
 refine dW 0 8 [.tmp 4] Tryz.func149 fun B=>?_
 refine qS ?_
 have hb_3:=cmpB_bd a_1 b_2
 refine Wp.seqR fun K2 hK2=>?_
 simp only [go_sem,simprocAttr]
 try refine ⟨sd,?_⟩
 refine Rg.callN (av:=?av3) (g:=true) (fun hg=>nv_205 a_1 b_2) si si si sg si ?cont3
 intro hv3
 simp only [go_sem,simprocAttr]
 refine kA hK2 ?_
 refine Wp.ret ?_
 refine retQ_ret ?_
 cases hm
 exact fse1
theorem ok_strings_Compare (a_1:Str) (b_2:Str) (z:Int) (hm:strings_Compare a_1 b_2=some z):Does Tryz.prog 69 [.p (.s a_1),.p (.s b_2)] [] (fun r X=>r=.p (.i .i64 z)∧X=[]):=by
 unfold strings_Compare at hm
 refine dW 0 8 [.tmp 4] Tryz.func69 fun B=>?_
 refine qS ?_
 obtain ⟨r_3,hr_3,hm⟩:=call_elim hm
 refine Wp.seqR fun K2 hK2=>?_
 simp only [go_sem,simprocAttr]
 try refine ⟨sd,?_⟩
 refine Rg.callX (av:=?av3) (g:=true) (fun hg=>ok_internal_bytealg_CompareString a_1 b_2 _ hr_3) si si si sg si ?cont3
 intro hv3
 simp only [go_sem,simprocAttr]
 refine kA hK2 ?_
 refine Wp.ret ?_
 refine retQ_ret ?_
 cases hm
 exact fse1
theorem ok_Law_fit_1 (a_1:api_Setting) (b_2:api_Setting) (z:Int) (hm:Law_fit_1 a_1 b_2=some z):Does Tryz.prog 68 [.agg [.p (.s a_1.Key),.p (.s a_1.Value)],.agg [.p (.s b_2.Key),.p (.s b_2.Value)]] [] (fun r X=>r=.p (.i .i64 z)∧X=[]):=by
 unfold Law_fit_1 at hm
 refine dW 0 10 [.tmp 4] Tryz.func68 fun B=>?_
 refine qS ?_
 obtain ⟨r_3,hr_3,hm⟩:=call_elim hm
 refine Wp.seqR fun K2 hK2=>?_
 simp only [go_sem,simprocAttr]
 try refine ⟨sd,?_⟩
 refine Rg.callX (av:=?av3) (g:=true) (fun hg=>ok_strings_Compare a_1.Key b_2.Key _ hr_3) si si si sg si ?cont3
 intro hv3
 simp only [go_sem,simprocAttr]
 refine kA hK2 ?_
 refine Wp.ret ?_
 refine retQ_ret ?_
 cases hm
 exact fse1
theorem ok_slices_insertionSortCmpFunc_api_Setting_i1 (a_1:Int) (b_2:Int) (o0_3:List api_Setting) (z:List api_Setting) (hm:slices_insertionSortCmpFunc_api_Setting_i1 a_1 b_2 o0_3=some z):Does Tryz.prog 203 [.buf 0,.p (.i .i64 a_1),.p (.i .i64 b_2),.fn 68 []] [.fx 40 2 (List.map enc_api_Setting o0_3)] (fun r X=>r=.tup []∧X=[.fx 40 2 (List.map enc_api_Setting z)]):=by
 unfold slices_insertionSortCmpFunc_api_Setting_i1 at hm
 refine dW 1 53 [] Tryz.func203 fun B=>?_
 refine qS ?_
 refine Wp.block ?_
 obtain ⟨k_672,hk_672,hm⟩:=loopN_cont hm
 refine Wp.loopN (fun s=>[(0,.buf 0),(1,.p (.i .i64 a_1)),(2,.p (.i .i64 b_2)),(3,.fn 68 []),(8,.p (.i .i64 s.1))]) (fun s=>[.fx 40 2 (List.map enc_api_Setting s.2)]) ?_ hm ?_
 ·
  exact fse1
 clear hm
 intro s nx_673 hm
 obtain ⟨i_538,o0_539⟩:=s
 try dsimp only at hm
 try dsimp only
 refine Wp.seqW fun K2 hK2 hW2=>?_
 refine qS ?_
 refine cM hm (fun hc4 hm=>?_) (fun hc4 hm=>?_)
 ·refine Wp.skip ?_
  refine hK2 _ _ ?_
  refine Wp.seqW fun K5 hK5 hW5=>?_
  obtain ⟨k_740,hk_740,hm⟩:=jp_elim hm
  have hcut5:∀ s,k_740 s=some z→K5 [(0,.buf 0),(1,.p (.i .i64 a_1)),(2,.p (.i .i64 b_2)),(3,.fn 68 []),(8,.p (.i .i64 i_538))] [.fx 40 2 (List.map enc_api_Setting s)]:=by
   intro o0_739 hs
   have hm:=hk_740 _ hs
   clear hs
   try dsimp only at hm
   try dsimp only
   refine hK5 _ _ ?_
   refine qR ?_
   simp only [thenQ,blockQ,↓reduceIte]
   refine ⟨(IntKind.i64.wrap (i_538+1),o0_739),hm,?_⟩
   exact fse1
  clear hK5 hk_740
  refine Wp.block ?_
  refine qS ?_
  refine Wp.block ?_
  obtain ⟨k_784,hk_784,hm⟩:=loopN_cont hm
  refine Wp.loopN (fun s=>[(0,.buf 0),(1,.p (.i .i64 a_1)),(2,.p (.i .i64 b_2)),(3,.fn 68 []),(8,.p (.i .i64 i_538)),(9,.p (.i .i64 s.1))]) (fun s=>[.fx 40 2 (List.map enc_api_Setting s.2)]) ?_ hm ?_
  ·
   exact fse1
  clear hm
  intro s nx_785 hm
  obtain ⟨j_762,o0_763⟩:=s
  try dsimp only at hm
  try dsimp only
  refine Wp.seqW fun K8 hK8 hW8=>?_
  obtain ⟨c_786,hm⟩:=chk_elim hm
  obtain ⟨c_787,hm⟩:=chk_elim hm
  obtain ⟨r_788,hr_788,hm⟩:=callG_elim hm
  refine Wp.seqDW (plan:=pl [(0,none),(1,none),(2,none),(3,none),(4,none),(5,none),(6,none),(7,none),(8,none),(9,none),(10,none),(11,none),(12,none),(13,none),(14,none),(15,none),(16,none)]) (by kernel_rfl) rfl (by kernel_rfl) fun K9 hK9 hW9=>?_
  suffices hcont9:K9 [(0,.buf 0),(1,.p (.i .i64 a_1)),(2,.p (.i .i64 b_2)),(3,.fn 68 []),(8,.p (.i .i64 i_538)),(9,.p (.i .i64 j_762)),(34,.p (.b ((decide (a_1 < j_762)) && (decide (r_788 < 0)))))] [.fx 40 2 (List.map enc_api_Setting o0_763)] by
   rcases Bool.eq_false_or_eq_true (decide (a_1 < j_762)) with hg_789 | hg_789
   ·
    have c_790:=c_786 hg_789
    try dsimp only at c_790
    have c_791:=c_787 hg_789
    try dsimp only at c_791
    have hr_792:=fun h=>getD_encB (l:=o0_763) (e:=enc_api_Setting) (d:=(api_Setting.mk [] [])) (i:=j_762.toNat) h []
    have hr_793:=fun h=>getD_encB (l:=o0_763) (e:=enc_api_Setting) (d:=(api_Setting.mk [] [])) (i:=(IntKind.i64.wrap (j_762 - 1)).toNat) h []
    simp only [go_sem,simprocAttr,false_implies,and_true,true_and,bad,hg_789,hr_792 (by omega),hr_793 (by omega)]
    try refine ⟨sL,?_⟩
    refine Dr.callF (av:=?av10) (g:=decide (a_1 < j_762)) (o:=?o10) (fun hg=>ok_Law_fit_1 (api_Setting.mk ((o0_763.getD j_762.toNat (api_Setting.mk [] [])).Key) ((o0_763.getD j_762.toNat (api_Setting.mk [] [])).Value)) (api_Setting.mk ((o0_763.getD ((IntKind.i64.wrap (j_762 - 1)).toNat) (api_Setting.mk [] [])).Key) ((o0_763.getD ((IntKind.i64.wrap (j_762 - 1)).toNat) (api_Setting.mk [] [])).Value)) _ (hr_788 hg)) (by simp only [go_sem,simprocAttr,false_implies,and_true,true_and,bad,hg_789,hr_792 (by omega),hr_793 (by omega)]; exact Is.mk) (by simp only [go_sem,simprocAttr,false_implies,and_true,true_and,bad,hg_789,hr_792 (by omega),hr_793 (by omega)]; exact Is.mk) (by simp only [go_sem,simprocAttr,false_implies,and_true,true_and,bad,hg_789,hr_792 (by omega),hr_793 (by omega)]; exact Is.mk) (by simp only [go_sem,simprocAttr,false_implies,and_true,true_and,bad,hg_789,hr_792 (by omega),hr_793 (by omega)]; exact Is.mk) (by simp only [go_sem,simprocAttr,false_implies,and_true,true_and,bad,hg_789,hr_792 (by omega),hr_793 (by omega)]) (by simp only [go_sem,simprocAttr,false_implies,and_true,true_and,bad,hg_789,hr_792 (by omega),hr_793 (by omega)]; exact Is.mk) ?cont10
    simp only [go_sem,simprocAttr,false_implies,and_true,true_and,bad,hg_789,hr_792 (by omega),hr_793 (by omega)]
    first | refine hW9 _ _ _ _ ?_ hcont9 | refine ⟨sL,hW9 _ _ _ _ ?_ hcont9⟩
    simp only [go_sem,simprocAttr,false_implies,and_true,true_and,bad,hg_789,hr_792 (by omega),hr_793 (by omega)]
    try exact se1
   ·
    rcases Nat.lt_or_ge j_762.toNat o0_763.length with hi_794 | hi_794
    ·
     have hr_795:=getD_encB (l:=o0_763) (e:=enc_api_Setting) (d:=(api_Setting.mk [] [])) (i:=j_762.toNat) hi_794 []
     rcases Nat.lt_or_ge ((IntKind.i64.wrap (j_762 - 1)).toNat) o0_763.length with hi_796 | hi_796
     ·
      have hr_797:=getD_encB (l:=o0_763) (e:=enc_api_Setting) (d:=(api_Setting.mk [] [])) (i:=(IntKind.i64.wrap (j_762 - 1)).toNat) hi_796 []
      simp only [go_sem,simprocAttr,false_implies,and_true,true_and,bad,hg_789,hr_795,hr_797]
      try refine ⟨sL,?_⟩
      refine Dr.skipG (o:=?o11) (v:=.p (.i .i64 r_788)) (gw:=?gw11) (by simp only [go_sem,simprocAttr,false_implies,and_true,true_and,bad,hg_789,hr_795,hr_797]; exact Is.mk) (by simp only [go_sem,simprocAttr,false_implies,and_true,true_and,bad,hg_789,hr_795,hr_797]; exact Is.mk) (by simp only [go_sem,simprocAttr,false_implies,and_true,true_and,bad,hg_789,hr_795,hr_797]; exact Is.mk) (by simp only [go_sem,simprocAttr,false_implies,and_true,true_and,bad,hg_789,hr_795,hr_797]) ?cont11
      simp only [go_sem,simprocAttr,false_implies,and_true,true_and,bad,hg_789,hr_795,hr_797]
      first | refine hW9 _ _ _ _ ?_ hcont9 | refine ⟨sL,hW9 _ _ _ _ ?_ hcont9⟩
      simp only [go_sem,simprocAttr,false_implies,and_true,true_and,bad,hg_789,hr_795,hr_797]
      try exact se1
     ·
      have hr_797:(List.map enc_api_Setting o0_763).getD ((IntKind.i64.wrap (j_762 - 1)).toNat) []=[]:=by rw [List.getD_eq_getElem?_getD,List.getElem?_eq_none (by simpa using hi_796)]; rfl
      simp only [go_sem,simprocAttr,false_implies,and_true,true_and,bad,hg_789,hr_795,hr_797]
      try refine ⟨sL,?_⟩
      refine Dr.skipG (o:=?o12) (v:=.p (.i .i64 r_788)) (gw:=?gw12) (by simp only [go_sem,simprocAttr,false_implies,and_true,true_and,bad,hg_789,hr_795,hr_797]; exact Is.mk) (by simp only [go_sem,simprocAttr,false_implies,and_true,true_and,bad,hg_789,hr_795,hr_797]; exact Is.mk) (by simp only [go_sem,simprocAttr,false_implies,and_true,true_and,bad,hg_789,hr_795,hr_797]; exact Is.mk) (by simp only [go_sem,simprocAttr,false_implies,and_true,true_and,bad,hg_789,hr_795,hr_797]) ?cont12
      simp only [go_sem,simprocAttr,false_implies,and_true,true_and,bad,hg_789,hr_795,hr_797]
      first | refine hW9 _ _ _ _ ?_ hcont9 | refine ⟨sL,hW9 _ _ _ _ ?_ hcont9⟩
      simp only [go_sem,simprocAttr,false_implies,and_true,true_and,bad,hg_789,hr_795,hr_797]
      try exact se1
    ·
     have hr_795:(List.map enc_api_Setting o0_763).getD j_762.toNat []=[]:=by rw [List.getD_eq_getElem?_getD,List.getElem?_eq_none (by simpa using hi_794)]; rfl
     rcases Nat.lt_or_ge ((IntKind.i64.wrap (j_762 - 1)).toNat) o0_763.length with hi_798 | hi_798
     ·
      have hr_799:=getD_encB (l:=o0_763) (e:=enc_api_Setting) (d:=(api_Setting.mk [] [])) (i:=(IntKind.i64.wrap (j_762 - 1)).toNat) hi_798 []
      simp only [go_sem,simprocAttr,false_implies,and_true,true_and,bad,hg_789,hr_795,hr_799]
      try refine ⟨sL,?_⟩
      refine Dr.skipG (o:=?o13) (v:=.p (.i .i64 r_788)) (gw:=?gw13) (by simp only [go_sem,simprocAttr,false_implies,and_true,true_and,bad,hg_789,hr_795,hr_799]; exact Is.mk) (by simp only [go_sem,simprocAttr,false_implies,and_true,true_and,bad,hg_789,hr_795,hr_799]; exact Is.mk) (by simp only [go_sem,simprocAttr,false_implies,and_true,true_and,bad,hg_789,hr_795,hr_799]; exact Is.mk) (by simp only [go_sem,simprocAttr,false_implies,and_true,true_and,bad,hg_789,hr_795,hr_799]) ?cont13
      simp only [go_sem,simprocAttr,false_implies,and_true,true_and,bad,hg_789,hr_795,hr_799]
      first | refine hW9 _ _ _ _ ?_ hcont9 | refine ⟨sL,hW9 _ _ _ _ ?_ hcont9⟩
      simp only [go_sem,simprocAttr,false_implies,and_true,true_and,bad,hg_789,hr_795,hr_799]
      try exact se1
     ·
      have hr_799:(List.map enc_api_Setting o0_763).getD ((IntKind.i64.wrap (j_762 - 1)).toNat) []=[]:=by rw [List.getD_eq_getElem?_getD,List.getElem?_eq_none (by simpa using hi_798)]; rfl
      simp only [go_sem,simprocAttr,false_implies,and_true,true_and,bad,hg_789,hr_795,hr_799]
      try refine ⟨sL,?_⟩
      refine Dr.skipG (o:=?o14) (v:=.p (.i .i64 r_788)) (gw:=?gw14) (by simp only [go_sem,simprocAttr,false_implies,and_true,true_and,bad,hg_789,hr_795,hr_799]; exact Is.mk) (by simp only [go_sem,simprocAttr,false_implies,and_true,true_and,bad,hg_789,hr_795,hr_799]; exact Is.mk) (by simp only [go_sem,simprocAttr,false_implies,and_true,true_and,bad,hg_789,hr_795,hr_799]; exact Is.mk) (by simp only [go_sem,simprocAttr,false_implies,and_true,true_and,bad,hg_789,hr_795,hr_799]) ?cont14
      simp only [go_sem,simprocAttr,false_implies,and_true,true_and,bad,hg_789,hr_795,hr_799]
      first | refine hW9 _ _ _ _ ?_ hcont9 | refine ⟨sL,hW9 _ _ _ _ ?_ hcont9⟩
      simp only [go_sem,simprocAttr,false_implies,and_true,true_and,bad,hg_789,hr_795,hr_799]
      try exact se1
  refine hK9 _ _ ?_
  refine cM hm (fun hc15 hm=>?_) (fun hc15 hm=>?_)
  ·refine Wp.skip ?_
   refine hK8 _ _ ?_
   refine Wp.seqW fun K16 hK16 hW16=>?_
   refine Wp.block ?_
   obtain ⟨c_800,hm⟩:=chk_elim hm
   obtain ⟨c_801,hm⟩:=chk_elim hm
   obtain ⟨c_802,hm⟩:=chk_elim hm
   obtain ⟨c_803,hm⟩:=chk_elim hm
   have hr_804:=fun h=>getD_encB (l:=o0_763) (e:=enc_api_Setting) (d:=(api_Setting.mk [] [])) (i:=(IntKind.i64.wrap (j_762 - 1)).toNat) h []
   have hr_805:=fun h=>getD_encB (l:=o0_763) (e:=enc_api_Setting) (d:=(api_Setting.mk [] [])) (i:=j_762.toNat) h []
   refine Wp.regD (plan:=pl [(0,none),(1,none),(2,none),(3,none),(4,none),(5,none),(6,none),(7,none),(8,none),(9,none),(10,none),(11,none),(12,none),(13,none),(14,none),(15,some [2,3,4]),(16,none),(17,some [])]) (by kernel_rfl) rfl (by kernel_rfl) fun K17 hK17=>?_
   simp only [go_sem,simprocAttr,hr_804 (by omega),hr_805 (by omega)]
   refine kA hK17 ?_
   refine hK16 _ _ ?_
   refine qR ?_
   simp only [thenQ,blockQ,↓reduceIte]
   refine ⟨(IntKind.i64.wrap (j_762 - 1),List.set (List.set o0_763 j_762.toNat (api_Setting.mk ((o0_763.getD ((IntKind.i64.wrap (j_762 - 1)).toNat) (api_Setting.mk [] [])).Key) ((o0_763.getD ((IntKind.i64.wrap (j_762 - 1)).toNat) (api_Setting.mk [] [])).Value))) ((IntKind.i64.wrap (j_762 - 1)).toNat) (api_Setting.mk ((o0_763.getD j_762.toNat (api_Setting.mk [] [])).Key) ((o0_763.getD j_762.toNat (api_Setting.mk [] [])).Value))),hm,?_⟩
   exact fse1
  ·refine Wp.exit ?_
   simp only [thenQ,blockQ,↓reduceIte]
   have hm:=hk_784 _ hm
   try dsimp only at hm
   refine hW5 _ _ _ _ ?_ (hcut5 o0_763 hm)
   exact fse1
 ·refine Wp.exit ?_
  simp only [thenQ,blockQ,↓reduceIte]
  have hm:=hk_672 _ hm
  try dsimp only at hm
  refine retQ_normal ?_
  cases hm
  exact fse1
theorem ok_slices_stableCmpFunc_api_Setting_i1 (n_1:Int) (o0_2:List api_Setting) (z:List api_Setting) (hm:slices_stableCmpFunc_api_Setting_i1 n_1 o0_2=some z):Does Tryz.prog 148 [.buf 0,.p (.i .i64 n_1),.fn 68 []] [.fx 40 2 (List.map enc_api_Setting o0_2)] (fun r X=>r=.tup []∧X=[.fx 40 2 (List.map enc_api_Setting z)]):=by
 unfold slices_stableCmpFunc_api_Setting_i1 at hm
 refine dW 1 63 [] Tryz.func148 fun B=>?_
 refine qS ?_
 refine qS ?_
 refine Wp.seqW fun K3 hK3 hW3=>?_
 obtain ⟨k_60,hk_60,hm⟩:=jp_elim hm
 have hcut3:∀ s,k_60 s=some z→K3 [(0,.buf 0),(1,.p (.i .i64 n_1)),(2,.fn 68 []),(6,.p (.i .i64 20)),(7,.p (.i .i64 s.1))] [.fx 40 2 (List.map enc_api_Setting s.2)]:=by
  intro s hs
  have hm:=hk_60 _ hs
  clear hs
  obtain ⟨a_58,o0_59⟩:=s
  try dsimp only at hm
  try dsimp only
  refine hK3 _ _ ?_
  obtain ⟨r_61,hr_61,hm⟩:=call_elim hm
  refine Wp.seqR fun K4 hK4=>?_
  simp only [go_sem,simprocAttr]
  try refine ⟨sd,?_⟩
  refine Rg.callO (av:=?av5) [0] (ok_slices_insertionSortCmpFunc_api_Setting_i1 a_58 n_1 o0_59 _ hr_61) si si si sg sg ?cont5
  rintro _ _ ⟨rfl,rfl⟩ hv5
  simp only [go_sem,simprocAttr]
  refine kA hK4 ?_
  refine Wp.block ?_
  obtain ⟨k_72,hk_72,hm⟩:=loopN_cont hm
  refine Wp.loopN (fun s=>[(0,.buf 0),(1,.p (.i .i64 n_1)),(2,.fn 68 []),(6,.p (.i .i64 s))]) (fun s=>[.fx 40 2 (List.map enc_api_Setting r_61)]) ?_ hm ?_
  ·
   exact fse1
  clear hm
  intro blockSize_62 nx_73 hm
  try dsimp only at hm
  try dsimp only
  refine Wp.seqW fun K6 hK6 hW6=>?_
  refine qS ?_
  refine cM hm (fun hc8 hm=>?_) (fun hc8 hm=>?_)
  ·refine Wp.skip ?_
   refine hK6 _ _ ?_
   refine Wp.block ?_
   refine qS ?_
   refine Wp.seqW fun K10 hK10 hW10=>?_
   obtain ⟨k_78,hk_78,hm⟩:=jp_elim hm
   have hcut10:∀ s,k_78 s=some z→K10 [(0,.buf 0),(1,.p (.i .i64 n_1)),(2,.fn 68 []),(6,.p (.i .i64 blockSize_62)),(7,.p (.i .i64 0))] [.fx 40 2 (List.map enc_api_Setting r_61)]:=by
    intro s hs
    have hm:=hk_78 _ hs
    clear hs
    try dsimp only at hm
    try dsimp only
    refine hK10 _ _ ?_
    refine Wp.seqW fun K11 hK11 hW11=>?_
    refine qS ?_
    refine qS ?_
    refine cM hm (fun hc14 hm=>?_) (fun hc14 hm=>?_)
    ·cases hm
    ·refine Wp.skip ?_
     refine hK11 _ _ ?_
     refine qR ?_
     simp only [thenQ,blockQ,↓reduceIte]
     refine ⟨IntKind.i64.wrap (blockSize_62 * 2),hm,?_⟩
     exact fse1
   clear hK10 hk_78
   refine Wp.block ?_
   obtain ⟨k_81,hk_81,hm⟩:=loopN_cont hm
   refine Wp.loopN (fun s=>[(0,.buf 0),(1,.p (.i .i64 n_1)),(2,.fn 68 []),(6,.p (.i .i64 blockSize_62)),(7,.p (.i .i64 0)),(8,.p (.i .i64 (IntKind.i64.wrap (2 * blockSize_62))))]) (fun s=>[.fx 40 2 (List.map enc_api_Setting r_61)]) ?_ hm ?_
   ·
    exact fse1
   clear hm
   intro s nx_82 hm
   try dsimp only at hm
   try dsimp only
   refine Wp.seqW fun K16 hK16 hW16=>?_
   refine qS ?_
   refine cM hm (fun hc18 hm=>?_) (fun hc18 hm=>?_)
   ·refine Wp.skip ?_
    refine hK16 _ _ ?_
    refine Wp.block ?_
    cases hm
   ·refine Wp.exit ?_
    simp only [thenQ,blockQ,↓reduceIte]
    have hm:=hk_81 _ hm
    try dsimp only at hm
    refine hW10 _ _ _ _ ?_ (hcut10 () hm)
    exact fse1
  ·refine Wp.exit ?_
   simp only [thenQ,blockQ,↓reduceIte]
   have hm:=hk_72 _ hm
   try dsimp only at hm
   refine retQ_normal ?_
   cases hm
   exact fse1
 clear hK3 hk_60
 refine Wp.block ?_
 obtain ⟨k_90,hk_90,hm⟩:=loopN_cont hm
 refine Wp.loopN (fun s=>[(0,.buf 0),(1,.p (.i .i64 n_1)),(2,.fn 68 []),(6,.p (.i .i64 20)),(7,.p (.i .i64 s.1)),(8,.p (.i .i64 s.2.1))]) (fun s=>[.fx 40 2 (List.map enc_api_Setting s.2.2)]) ?_ hm ?_
 ·
  exact fse1
 clear hm
 intro s nx_91 hm
 obtain ⟨a_86,b_87,o0_88⟩:=s
 try dsimp only at hm
 try dsimp only
 refine Wp.seqW fun K19 hK19 hW19=>?_
 refine qS ?_
 refine cM hm (fun hc21 hm=>?_) (fun hc21 hm=>?_)
 ·refine Wp.skip ?_
  refine hK19 _ _ ?_
  refine Wp.block ?_
  obtain ⟨r_92,hr_92,hm⟩:=call_elim hm
  refine Wp.seqR fun K22 hK22=>?_
  simp only [go_sem,simprocAttr]
  try refine ⟨sd,?_⟩
  refine Rg.callO (av:=?av23) [0] (ok_slices_insertionSortCmpFunc_api_Setting_i1 a_86 b_87 o0_88 _ hr_92) si si si sg sg ?cont23
  rintro _ _ ⟨rfl,rfl⟩ hv23
  simp only [go_sem,simprocAttr]
  refine kA hK22 ?_
  refine qS ?_
  refine qR ?_
  simp only [thenQ,blockQ,↓reduceIte]
  refine ⟨(b_87,IntKind.i64.wrap (b_87+20),r_92),hm,?_⟩
  exact fse1
 ·refine Wp.exit ?_
  simp only [thenQ,blockQ,↓reduceIte]
  have hm:=hk_90 _ hm
  try dsimp only at hm
  refine hW3 _ _ _ _ ?_ (hcut3 (a_86,o0_88) hm)
  exact fse1
theorem ok_slices_SortStableFunc_api_Setting_api_Setting_i1 (o0_1:List api_Setting) (z:List api_Setting) (hm:slices_SortStableFunc_api_Setting_api_Setting_i1 o0_1=some z):Does Tryz.prog 67 [.buf 0,.fn 68 []] [.fx 40 2 (List.map enc_api_Setting o0_1)] (fun r X=>r=.tup []∧X=[.fx 40 2 (List.map enc_api_Setting z)]):=by
 unfold slices_SortStableFunc_api_Setting_api_Setting_i1 at hm
 refine dW 1 9 [] Tryz.func67 fun B=>?_
 obtain ⟨r_3,hr_3,hm⟩:=call_elim hm
 refine Wp.region fun K1 hK1=>?_
 simp only [go_sem,simprocAttr]
 try refine ⟨sd,?_⟩
 refine Rg.callO (av:=?av2) [0] (ok_slices_stableCmpFunc_api_Setting_i1 (o0_1.length:Int) o0_1 _ hr_3) si si si sg sg ?cont2
 rintro _ _ ⟨rfl,rfl⟩ hv2
 simp only [go_sem,simprocAttr]
 refine kA hK1 ?_
 refine retQ_normal ?_
 cases hm
 exact fse1
theorem ok_Law_fit_2 (a_1:api_Setting) (b_2:api_Setting) (z:Bool) (hm:Law_fit_2 a_1 b_2=some z):Does Tryz.prog 71 [.agg [.p (.s a_1.Key),.p (.s a_1.Value)],.agg [.p (.s b_2.Key),.p (.s b_2.Value)]] [] (fun r X=>r=.p (.b z)∧X=[]):=by
 unfold Law_fit_2 at hm
 refine dW 0 10 [.tmp 4] Tryz.func71 fun B=>?_
 refine qS ?_
 refine qS ?_
 refine Wp.ret ?_
 refine retQ_ret ?_
 cases hm
 exact fse1
theorem ok_slices_CompactFunc_api_Setting_api_Setting_i1 (o0_1:List api_Setting) (z:Nat × Nat × List api_Setting) (hm:slices_CompactFunc_api_Setting_api_Setting_i1 o0_1=some z):Does Tryz.prog 70 [.buf 0,.fn 71 []] [.fx 40 2 (List.map enc_api_Setting o0_1)] (fun r X=>r=.vw 0 2 z.1 z.2.1∧X=[.fx 40 2 (List.map enc_api_Setting z.2.2)]):=by
 unfold slices_CompactFunc_api_Setting_api_Setting_i1 at hm
 refine dW 1 66 [.tmp 4] Tryz.func70 fun B=>?_
 refine Wp.toView 0 0 (by simp only [go_sem,simprocAttr]; exact Is.mk) (by simp only [go_sem,simprocAttr]; exact Is.mk) ?_
 simp only [go_sem,simprocAttr]
 refine qS ?_
 refine Wp.seqW fun K2 hK2 hW2=>?_
 refine qS ?_
 refine cM hm (fun hc4 hm=>?_) (fun hc4 hm=>?_)
 ·refine qS ?_
  refine Wp.ret ?_
  refine retQ_ret ?_
  cases hm
  exact fse1
 ·refine Wp.skip ?_
  refine hK2 _ _ ?_
  refine Wp.seqW fun K6 hK6 hW6=>?_
  obtain ⟨k_1158,hk_1158,hm⟩:=jp_elim hm
  have hcut6:∀ s,k_1158 s=some z→K6 [(0,.vw 0 2 0 o0_1.length)] [.fx 40 2 (List.map enc_api_Setting o0_1)]:=by
   intro s hs
   have hm:=hk_1158 _ hs
   clear hs
   try dsimp only at hm
   try dsimp only
   refine hK6 _ _ ?_
   refine qS ?_
   refine Wp.ret ?_
   refine retQ_ret ?_
   cases hm
   exact fse1
  clear hK6 hk_1158
  refine qS ?_
  refine Wp.block ?_
  obtain ⟨k_1351,hk_1351,hm⟩:=loopN_cont hm
  refine Wp.loopN (fun s=>[(0,.vw 0 2 0 o0_1.length),(1,.fn 71 []),(5,.p (.i .i64 s))]) (fun s=>[.fx 40 2 (List.map enc_api_Setting o0_1)]) ?_ hm ?_
  ·
   exact fse1
  clear hm
  intro k_1159 nx_1352 hm
  try dsimp only at hm
  try dsimp only
  refine Wp.seqW fun K9 hK9 hW9=>?_
  refine qS ?_
  refine cM hm (fun hc11 hm=>?_) (fun hc11 hm=>?_)
  ·refine Wp.skip ?_
   refine hK9 _ _ ?_
   refine Wp.seqW fun K12 hK12 hW12=>?_
   obtain ⟨k_1448,hk_1448,hm⟩:=jp_elim hm
   have hcut12:∀ s,k_1448 s=some z→K12 [(0,.vw 0 2 0 o0_1.length),(1,.fn 71 []),(5,.p (.i .i64 k_1159))] [.fx 40 2 (List.map enc_api_Setting o0_1)]:=by
    intro s hs
    have hm:=hk_1448 _ hs
    clear hs
    try dsimp only at hm
    try dsimp only
    refine hK12 _ _ ?_
    refine qR ?_
    simp only [thenQ,blockQ,↓reduceIte]
    refine ⟨IntKind.i64.wrap (k_1159+1),hm,?_⟩
    exact fse1
   clear hK12 hk_1448
   refine Wp.block ?_
   obtain ⟨c_1449,hm⟩:=chk_elim hm
   obtain ⟨c_1450,hm⟩:=chk_elim hm
   obtain ⟨r_1451,hr_1451,hm⟩:=call_elim hm
   have hr_1452:=fun h=>getD_encB (l:=o0_1) (e:=enc_api_Setting) (d:=(api_Setting.mk [] [])) (i:=(k_1159.toNat:Nat)) h []
   have hr_1453:=fun h=>getD_encB (l:=o0_1) (e:=enc_api_Setting) (d:=(api_Setting.mk [] [])) (i:=((IntKind.i64.wrap (k_1159 - 1)).toNat:Nat)) h []
   refine Wp.seqD (plan:=pl [(0,none),(1,none),(2,none),(3,none),(4,none),(5,none),(6,none),(7,none),(8,none),(9,none),(10,none)]) (by kernel_rfl) rfl (by kernel_rfl) fun K14 hK14=>?_
   simp only [go_sem,simprocAttr,hr_1452 (by omega),hr_1453 (by omega)]
   try refine ⟨sL,?_⟩
   refine Dr.callF (av:=?av15) (g:=true) (o:=?o15) (fun hg=>ok_Law_fit_2 (api_Setting.mk ((o0_1.getD (k_1159.toNat:Nat) (api_Setting.mk [] [])).Key) ((o0_1.getD (k_1159.toNat:Nat) (api_Setting.mk [] [])).Value)) (api_Setting.mk ((o0_1.getD ((IntKind.i64.wrap (k_1159 - 1)).toNat:Nat) (api_Setting.mk [] [])).Key) ((o0_1.getD ((IntKind.i64.wrap (k_1159 - 1)).toNat:Nat) (api_Setting.mk [] [])).Value)) _ hr_1451) (by simp only [go_sem,simprocAttr,hr_1452 (by omega),hr_1453 (by omega)]; exact Is.mk) (by simp only [go_sem,simprocAttr,hr_1452 (by omega),hr_1453 (by omega)]; exact Is.mk) (by simp only [go_sem,simprocAttr,hr_1452 (by omega),hr_1453 (by omega)]; exact Is.mk) (by simp only [go_sem,simprocAttr,hr_1452 (by omega),hr_1453 (by omega)]; exact Is.mk) (by simp only [go_sem,simprocAttr,hr_1452 (by omega),hr_1453 (by omega)]) (by simp only [go_sem,simprocAttr,hr_1452 (by omega),hr_1453 (by omega)]; exact Is.mk) ?cont15
   simp only [go_sem,simprocAttr,hr_1452 (by omega),hr_1453 (by omega)]
   refine kA hK14 ?_
   refine cM hm (fun hc16 hm=>?_) (fun hc16 hm=>?_)
   ·obtain ⟨c_1454,hm⟩:=chk_elim hm
    refine Wp.seqR fun K17 hK17=>?_
    simp only [go_sem,simprocAttr]
    refine kA hK17 ?_
    refine Wp.seqW fun K18 hK18 hW18=>?_
    obtain ⟨k_1499,hk_1499,hm⟩:=jp_elim hm
    have hcut18:∀ s,k_1499 s=some z→K18 [(0,.vw 0 2 0 o0_1.length),(5,.p (.i .i64 s.1))] [.fx 40 2 (List.map enc_api_Setting s.2)]:=by
     intro s hs
     have hm:=hk_1499 _ hs
     clear hs
     obtain ⟨k_1497,o0_1498⟩:=s
     try dsimp only at hm
     try dsimp only
     refine hK18 _ _ ?_
     obtain ⟨c_1500,hm⟩:=chk_elim hm
     refine Wp.seqR fun K19 hK19=>?_
     simp only [go_sem,simprocAttr]
     try refine ⟨sL,?_⟩
     refine Rg.clear (i:=?i20) (sz:=?sz20) (a:=?a20) (m:=?m20) (T:=?T20) (rows:=?rows20) (e:=?e20) (eb:=?eb20) (ez:=?ez20) (z:=?z20) (fx:=?fx20) Is.mk Is.mk Is.mk Is.mk Is.mk sg sg si si si si sg sg sg ?cont20
     simp only [go_sem,simprocAttr]
     refine kA hK19 ?_
     obtain ⟨c_1501,hm⟩:=chk_elim hm
     refine Wp.seqR fun K21 hK21=>?_
     simp only [go_sem,simprocAttr]
     refine kA hK21 ?_
     refine Wp.ret ?_
     refine retQ_ret ?_
     cases hm
     exact fse1
    clear hK18 hk_1499
    refine qS ?_
    refine Wp.block ?_
    obtain ⟨k_1530,hk_1530,hm⟩:=loopN_cont hm
    refine Wp.loopN (fun s=>[(0,.vw 0 2 0 o0_1.length),(1,.fn 71 []),(5,.p (.i .i64 s.1)),(6,.vw 0 2 k_1159.toNat (o0_1.length - k_1159.toNat)),(7,.p (.i .i64 s.2.1))]) (fun s=>[.fx 40 2 (List.map enc_api_Setting s.2.2)]) ?_ hm ?_
    ·
     exact fse1
    clear hm
    intro s nx_1531 hm
    obtain ⟨k_1515,k2_1516,o0_1517⟩:=s
    try dsimp only at hm
    try dsimp only
    refine Wp.seqW fun K23 hK23 hW23=>?_
    refine qS ?_
    refine cM hm (fun hc25 hm=>?_) (fun hc25 hm=>?_)
    ·refine Wp.skip ?_
     refine hK23 _ _ ?_
     refine Wp.seqW fun K26 hK26 hW26=>?_
     refine Wp.block ?_
     obtain ⟨c_1532,hm⟩:=chk_elim hm
     obtain ⟨c_1533,hm⟩:=chk_elim hm
     obtain ⟨c_1534,hm⟩:=chk_elim hm
     obtain ⟨c_1535,hm⟩:=chk_elim hm
     obtain ⟨r_1536,hr_1536,hm⟩:=call_elim hm
     have hr_1537:=fun h=>getD_encB (l:=o0_1517) (e:=enc_api_Setting) (d:=(api_Setting.mk [] [])) (i:=(k_1159.toNat+k2_1516.toNat:Nat)) h []
     have hr_1538:=fun h=>getD_encB (l:=o0_1517) (e:=enc_api_Setting) (d:=(api_Setting.mk [] [])) (i:=(k_1159.toNat+((IntKind.i64.wrap (k2_1516 - 1)).toNat):Nat)) h []
     refine Wp.seqD (plan:=pl [(0,none),(1,none),(2,none),(3,none),(4,none),(5,none),(6,none),(7,none),(8,none),(9,none),(10,none),(11,none)]) (by kernel_rfl) rfl (by kernel_rfl) fun K27 hK27=>?_
     simp only [go_sem,simprocAttr,hr_1537 (by omega),hr_1538 (by omega)]
     try refine ⟨sL,?_⟩
     refine Dr.callF (av:=?av28) (g:=true) (o:=?o28) (fun hg=>ok_Law_fit_2 (api_Setting.mk ((o0_1517.getD (k_1159.toNat+k2_1516.toNat:Nat) (api_Setting.mk [] [])).Key) ((o0_1517.getD (k_1159.toNat+k2_1516.toNat:Nat) (api_Setting.mk [] [])).Value)) (api_Setting.mk ((o0_1517.getD (k_1159.toNat+((IntKind.i64.wrap (k2_1516 - 1)).toNat):Nat) (api_Setting.mk [] [])).Key) ((o0_1517.getD (k_1159.toNat+((IntKind.i64.wrap (k2_1516 - 1)).toNat):Nat) (api_Setting.mk [] [])).Value)) _ hr_1536) (by simp only [go_sem,simprocAttr,hr_1537 (by omega),hr_1538 (by omega)]; exact Is.mk) (by simp only [go_sem,simprocAttr,hr_1537 (by omega),hr_1538 (by omega)]; exact Is.mk) (by simp only [go_sem,simprocAttr,hr_1537 (by omega),hr_1538 (by omega)]; exact Is.mk) (by simp only [go_sem,simprocAttr,hr_1537 (by omega),hr_1538 (by omega)]; exact Is.mk) (by simp only [go_sem,simprocAttr,hr_1537 (by omega),hr_1538 (by omega)]) (by simp only [go_sem,simprocAttr,hr_1537 (by omega),hr_1538 (by omega)]; exact Is.mk) ?cont28
     simp only [go_sem,simprocAttr,hr_1537 (by omega),hr_1538 (by omega)]
     refine kA hK27 ?_
     refine cM hm (fun hc29 hm=>?_) (fun hc29 hm=>?_)
     ·obtain ⟨c_1539,hm⟩:=chk_elim hm
      obtain ⟨c_1540,hm⟩:=chk_elim hm
      obtain ⟨c_1541,hm⟩:=chk_elim hm
      obtain ⟨c_1542,hm⟩:=chk_elim hm
      have hr_1543:=fun h=>getD_encB (l:=o0_1517) (e:=enc_api_Setting) (d:=(api_Setting.mk [] [])) (i:=(k_1159.toNat+k2_1516.toNat:Nat)) h []
      refine Wp.seqR fun K30 hK30=>?_
      simp only [go_sem,simprocAttr,hr_1543 (by omega)]
      refine kA hK30 ?_
      refine qR ?_
      refine hK26 _ _ ?_
      refine qR ?_
      simp only [thenQ,blockQ,↓reduceIte]
      refine ⟨(IntKind.i64.wrap (k_1515+1),IntKind.i64.wrap (k2_1516+1),List.set o0_1517 (k_1515.toNat:Nat) (api_Setting.mk ((o0_1517.getD (k_1159.toNat+k2_1516.toNat:Nat) (api_Setting.mk [] [])).Key) ((o0_1517.getD (k_1159.toNat+k2_1516.toNat:Nat) (api_Setting.mk [] [])).Value))),hm,?_⟩
      exact fse1
     ·refine Wp.skip ?_
      refine hK26 _ _ ?_
      refine qR ?_
      simp only [thenQ,blockQ,↓reduceIte]
      refine ⟨(k_1515,IntKind.i64.wrap (k2_1516+1),o0_1517),hm,?_⟩
      exact fse1
    ·refine Wp.exit ?_
     simp only [thenQ,blockQ,↓reduceIte]
     have hm:=hk_1530 _ hm
     try dsimp only at hm
     refine hW18 _ _ _ _ ?_ (hcut18 (k_1515,o0_1517) hm)
     exact fse1
   ·refine Wp.skip ?_
    refine hW12 _ _ _ _ ?_ (hcut12 () hm)
    exact fse1
  ·refine Wp.exit ?_
   simp only [thenQ,blockQ,↓reduceIte]
   have hm:=hk_1351 _ hm
   try dsimp only at hm
   refine hW6 _ _ _ _ ?_ (hcut6 () hm)
   exact fse1
end Go.Proofs.YtbofknpajcdnmaaGreatDoor
