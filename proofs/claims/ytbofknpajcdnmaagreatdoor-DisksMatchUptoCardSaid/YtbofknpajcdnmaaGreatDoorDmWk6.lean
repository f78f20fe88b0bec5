/- That the code does what the models say (part 6). -/
import Derived.Test.YtbofknpajcdnmaaGreatDoorDmWk0
import Derived.Test.YtbofknpajcdnmaaGreatDoorDmWk1
import Derived.Test.YtbofknpajcdnmaaGreatDoorDmWk2
import Derived.Test.YtbofknpajcdnmaaGreatDoorDmWk3
import Derived.Test.YtbofknpajcdnmaaGreatDoorDmWk4
import Derived.Test.YtbofknpajcdnmaaGreatDoorDmWk5
set_option linter.unusedSimpArgs false
set_option linter.unusedVariables false
open Go.Proofs Go.Shelf
namespace Go.Proofs.YtbofknpajcdnmaaGreatDoor
open Go.Vc Go.Md
set_option maxRecDepth 100000
set_option maxHeartbeats 4000000
theorem ok_R_world_machine_i1 (o0_0_1:List api_Setting) (m1_2:List (Str × api_File)) (m2_3:List (Str × Str)) (m3_4:List (Str × api_Service)) (z:api_Machine) (hm:R_world_machine_i1 o0_0_1 m1_2 m2_3 m3_4=some z):Does Tryz.prog 77 [.ptr 0 0] [.cells 129 [.p (.l (List.map enc_api_Setting o0_0_1)),.mp 1,.mp 2,.mp 3],.mp true (encM Dt.s enc_api_File m1_2),.mp false (encM Dt.s ecS m2_3),.mp true (encM Dt.s enc_api_Service m3_4)] (fun r X=>r=.agg [.p (.l (List.map enc_api_Setting z.Facts)),.p (.l (List.map enc_api_File z.Files)),.p (.l (List.map enc_api_Setting z.Settings)),.p (.l (List.map enc_api_Service z.Services))]∧X=[.cells 129 [.p (.l (List.map enc_api_Setting o0_0_1)),.mp 1,.mp 2,.mp 3],.mp true (encM Dt.s enc_api_File m1_2),.mp false (encM Dt.s ecS m2_3),.mp true (encM Dt.s enc_api_Service m3_4)]):=by
 unfold R_world_machine_i1 at hm
 refine dW 4 85 [.cell 2 26] Tryz.func77 fun B=>?_
 refine qS ?_
 obtain ⟨r_162,hr_162,hm⟩:=call_elim hm
 refine Wp.seqR fun K2 hK2=>?_
 simp only [go_sem,simprocAttr]
 try refine ⟨sd,?_⟩
 refine Rg.callF (av:=?av3) (ok_slices_Clone_api_Setting_api_Setting o0_0_1 _ hr_162) si si sg ?cont3
 intro hv3
 simp only [go_sem,simprocAttr]
 refine kA hK2 ?_
 refine Wp.seqW fun K4 hK4 hW4=>?_
 obtain ⟨k_189,hk_189,hm⟩:=jp_elim hm
 have hcut4:∀ s,k_189 s=some z→K4 [(0,.ptr 0 0),(2,.ptr 4 0),(3,.ptr 5 0)] [.cells 129 [.p (.l (List.map enc_api_Setting o0_0_1)),.mp 1,.mp 2,.mp 3],.mp true (encM Dt.s enc_api_File m1_2),.mp false (encM Dt.s ecS m2_3),.mp true (encM Dt.s enc_api_Service m3_4),.cells 26 [.nils,.nils,.nils,.nils],.cells 26 [.p (.l (List.map enc_api_Setting r_162)),.buf 6,.nils,.nils],.buf 38 3 (List.map enc_api_File s)]:=by
  intro o6_188 hs
  have hm:=hk_189 _ hs
  clear hs
  try dsimp only at hm
  try dsimp only
  refine hK4 _ _ ?_
  refine Wp.seqW fun K5 hK5 hW5=>?_
  obtain ⟨k_216,hk_216,hm⟩:=jp_elim hm
  have hcut5:∀ s,k_216 s=some z→K5 [(0,.ptr 0 0),(2,.ptr 4 0),(3,.ptr 5 0)] [.cells 129 [.p (.l (List.map enc_api_Setting o0_0_1)),.mp 1,.mp 2,.mp 3],.mp true (encM Dt.s enc_api_File m1_2),.mp false (encM Dt.s ecS m2_3),.mp true (encM Dt.s enc_api_Service m3_4),.cells 26 [.nils,.nils,.nils,.nils],.cells 26 [.p (.l (List.map enc_api_Setting r_162)),.buf 6,.buf 7,.nils],.buf 38 3 (List.map enc_api_File o6_188),.buf 40 2 (List.map enc_api_Setting s)]:=by
   intro o7_215 hs
   have hm:=hk_216 _ hs
   clear hs
   try dsimp only at hm
   try dsimp only
   refine hK5 _ _ ?_
   refine Wp.seqW fun K6 hK6 hW6=>?_
   obtain ⟨k_243,hk_243,hm⟩:=jp_elim hm
   have hcut6:∀ s,k_243 s=some z→K6 [(2,.ptr 4 0),(3,.ptr 5 0)] [.cells 129 [.p (.l (List.map enc_api_Setting o0_0_1)),.mp 1,.mp 2,.mp 3],.mp true (encM Dt.s enc_api_File m1_2),.mp false (encM Dt.s ecS m2_3),.mp true (encM Dt.s enc_api_Service m3_4),.cells 26 [.nils,.nils,.nils,.nils],.cells 26 [.p (.l (List.map enc_api_Setting r_162)),.buf 6,.buf 7,.buf 8],.buf 38 3 (List.map enc_api_File o6_188),.buf 40 2 (List.map enc_api_Setting o7_215),.buf 42 4 (List.map enc_api_Service s)]:=by
    intro o8_242 hs
    have hm:=hk_243 _ hs
    clear hs
    try dsimp only at hm
    try dsimp only
    refine hK6 _ _ ?_
    refine qS ?_
    refine Wp.ret ?_
    refine retQ_ret ?_
    cases hm
    exact fse1
   clear hK6 hk_243
   obtain ⟨r_244,hr_244,hm⟩:=call_elim hm
   refine Wp.seqR fun K8 hK8=>?_
   simp only [go_sem,simprocAttr]
   try refine ⟨sd,?_⟩
   refine Rg.callR (av:=?av9) (g:=true) [3] (fun hg=>ok_R_keys_api_Service_i1 m3_4 _ hr_244) si si si si sg sg sg ?cont9
   simp only [go_sem,simprocAttr]
   refine kA hK8 ?_
   refine Wp.block ?_
   refine Wp.adoptO 5 3 42 4 rfl rfl ?_
   simp only [go_sem,simprocAttr]
   obtain ⟨k_261,hk_261,hm⟩:=forL_cont hm
   refine Wp.fact 66 fun hl_264=>?_
   replace hl_264:r_244.length≤274877906944:=by
    simp only [go_sem,simprocAttr,List.length_map] at hl_264
    omega
   refine Wp.forL (fun i_263 s=>[(0,.ptr 0 0),(2,.ptr 4 0),(3,.ptr 5 0),(66,.p (.l (List.map ecS r_244))),(67,.p (.i .i64 (r_244.length:Int))),(68,.p (.i .i64 (i_263:Int)))]) (fun i_263 s=>[.cells 129 [.p (.l (List.map enc_api_Setting o0_0_1)),.mp 1,.mp 2,.mp 3],.mp true (encM Dt.s enc_api_File m1_2),.mp false (encM Dt.s ecS m2_3),.mp true (encM Dt.s enc_api_Service m3_4),.cells 26 [.nils,.nils,.nils,.nils],.cells 26 [.p (.l (List.map enc_api_Setting r_162)),.buf 6,.buf 7,.buf 8],.buf 38 3 (List.map enc_api_File o6_188),.buf 40 2 (List.map enc_api_Setting o7_215),.buf 42 4 (List.map enc_api_Service s)]) ?_ hm ?_
   ·
    exact fse1
   clear hm
   intro i_263 o8_256 hii_263 hm
   try dsimp only at hm
   try dsimp only
   refine qS ?_
   refine Wp.seqW fun K11 hK11 hW11=>?_
   refine Wp.cond rfl ⟨⟩ (fun hc11=>?_) (fun hc11=>?_)
   rotate_left
   ·refine Wp.exit ?_
    have hm:=hk_261 _ (forL_end hm (ge_nat (by first | exact hc11 | simpa using hc11)))
    try dsimp only at hm
    refine hW6 _ _ _ _ ?_ (hcut6 o8_256 hm)
    exact fse1
   have hlt11:=lt_nat (by first | exact hc11 | simpa using hc11)
   have hw11:=wrap_succ hlt11 hl_264
   obtain ⟨s_265,nx_262,hxs_265,hys_265,hnx_262,hm⟩:=forL_step hm hlt11
   replace hxs_265:=hxs_265 ecS
   refine Wp.skip ?_
   simp only [thenQ]
   refine hK11 _ _ ?_
   refine Wp.seqW fun K12 hK12 hW12=>?_
   refine Wp.block ?_
   refine Wp.seqR fun K13 hK13=>?_
   simp only [go_sem,simprocAttr,hw11,hxs_265]
   refine kA hK13 ?_
   obtain ⟨q_266,hq_267,hm⟩:=letv_elim hm
   have hq_267d:=mlookD_enc (e:=enc_api_Service) keq_s m3_4 s_265 (api_Service.mk [] [] false false)
   have hq_267s:=mlook_some (e:=enc_api_Service) keq_s m3_4 s_265
   simp only [hq_267,enc_api_Service,List.map_nil] at hq_267d hq_267s
   obtain ⟨c_268,hm⟩:=chk_elim hm
   refine Wp.regD (plan:=pl [(0,none),(1,none),(2,none),(3,none),(4,none),(5,none),(6,none),(7,none),(8,some [0,1]),(9,some []),(10,none),(11,some [])]) (by kernel_rfl) rfl (by kernel_rfl) fun K14 hK14=>?_
   simp only [go_sem,simprocAttr,hw11,hxs_265,hq_267d,hq_267s]
   refine kA hK14 ?_
   refine hK12 _ _ ?_
   refine Wp.region fun K15 hK15=>?_
   simp only [go_sem,simprocAttr,hw11,hxs_265]
   refine kA hK15 ?_
   simp only [thenQ,blockQ,↓reduceIte]
   refine ⟨o8_256++[(q_266.getD (api_Service.mk [] [] false false))],hlt11,hnx_262 _ hm,?_⟩
   simp only [go_sem,simprocAttr,hw11,hxs_265]
   try exact se1
  clear hK5 hk_216
  obtain ⟨r_269,hr_269,hm⟩:=call_elim hm
  refine Wp.seqR fun K16 hK16=>?_
  simp only [go_sem,simprocAttr]
  try refine ⟨sd,?_⟩
  refine Rg.callR (av:=?av17) (g:=true) [2] (fun hg=>ok_R_keys_string_i1 m2_3 _ hr_269) si si si si sg sg sg ?cont17
  simp only [go_sem,simprocAttr]
  refine kA hK16 ?_
  refine Wp.block ?_
  refine Wp.adoptO 5 2 40 2 rfl rfl ?_
  simp only [go_sem,simprocAttr]
  obtain ⟨k_286,hk_286,hm⟩:=forL_cont hm
  refine Wp.fact 42 fun hl_289=>?_
  replace hl_289:r_269.length≤274877906944:=by
   simp only [go_sem,simprocAttr,List.length_map] at hl_289
   omega
  refine Wp.forL (fun i_288 s=>[(0,.ptr 0 0),(2,.ptr 4 0),(3,.ptr 5 0),(42,.p (.l (List.map ecS r_269))),(43,.p (.i .i64 (r_269.length:Int))),(44,.p (.i .i64 (i_288:Int)))]) (fun i_288 s=>[.cells 129 [.p (.l (List.map enc_api_Setting o0_0_1)),.mp 1,.mp 2,.mp 3],.mp true (encM Dt.s enc_api_File m1_2),.mp false (encM Dt.s ecS m2_3),.mp true (encM Dt.s enc_api_Service m3_4),.cells 26 [.nils,.nils,.nils,.nils],.cells 26 [.p (.l (List.map enc_api_Setting r_162)),.buf 6,.buf 7,.nils],.buf 38 3 (List.map enc_api_File o6_188),.buf 40 2 (List.map enc_api_Setting s)]) ?_ hm ?_
  ·
   exact fse1
  clear hm
  intro i_288 o7_281 hii_288 hm
  try dsimp only at hm
  try dsimp only
  refine qS ?_
  refine Wp.seqW fun K19 hK19 hW19=>?_
  refine Wp.cond rfl ⟨⟩ (fun hc19=>?_) (fun hc19=>?_)
  rotate_left
  ·refine Wp.exit ?_
   have hm:=hk_286 _ (forL_end hm (ge_nat (by first | exact hc19 | simpa using hc19)))
   try dsimp only at hm
   refine hW5 _ _ _ _ ?_ (hcut5 o7_281 hm)
   exact fse1
  have hlt19:=lt_nat (by first | exact hc19 | simpa using hc19)
  have hw19:=wrap_succ hlt19 hl_289
  obtain ⟨s_290,nx_287,hxs_290,hys_290,hnx_287,hm⟩:=forL_step hm hlt19
  replace hxs_290:=hxs_290 ecS
  refine Wp.skip ?_
  simp only [thenQ]
  refine hK19 _ _ ?_
  refine Wp.seqW fun K20 hK20 hW20=>?_
  refine Wp.block ?_
  refine Wp.seqR fun K21 hK21=>?_
  simp only [go_sem,simprocAttr,hw19,hxs_290]
  refine kA hK21 ?_
  obtain ⟨q_291,hq_292,hm⟩:=letv_elim hm
  have hq_292d:=mlookD_enc (e:=ecS) keq_s m2_3 s_290 []
  have hq_292s:=mlook_some (e:=ecS) keq_s m2_3 s_290
  simp only [hq_292,ecS,List.map_nil] at hq_292d hq_292s
  obtain ⟨c_293,hm⟩:=chk_elim hm
  refine Wp.regD (plan:=pl [(0,none),(1,none),(2,none),(3,none),(4,none),(5,none),(6,none),(7,none),(8,none),(9,none),(10,some [0,1]),(11,some []),(12,none),(13,some [])]) (by kernel_rfl) rfl (by kernel_rfl) fun K22 hK22=>?_
  simp only [go_sem,simprocAttr,hw19,hxs_290,hq_292d,hq_292s]
  refine kA hK22 ?_
  refine hK20 _ _ ?_
  refine Wp.region fun K23 hK23=>?_
  simp only [go_sem,simprocAttr,hw19,hxs_290]
  refine kA hK23 ?_
  simp only [thenQ,blockQ,↓reduceIte]
  refine ⟨o7_281++[(api_Setting.mk s_290 (q_291.getD []))],hlt19,hnx_287 _ hm,?_⟩
  simp only [go_sem,simprocAttr,hw19,hxs_290]
  try exact se1
 clear hK4 hk_189
 obtain ⟨r_294,hr_294,hm⟩:=call_elim hm
 refine Wp.seqR fun K24 hK24=>?_
 simp only [go_sem,simprocAttr]
 try refine ⟨sd,?_⟩
 refine Rg.callR (av:=?av25) (g:=true) [1] (fun hg=>ok_R_keys_api_File_i1 m1_2 _ hr_294) si si si si sg sg sg ?cont25
 simp only [go_sem,simprocAttr]
 refine kA hK24 ?_
 refine Wp.block ?_
 refine Wp.adoptO 5 1 38 3 rfl rfl ?_
 simp only [go_sem,simprocAttr]
 obtain ⟨k_311,hk_311,hm⟩:=forL_cont hm
 refine Wp.fact 20 fun hl_314=>?_
 replace hl_314:r_294.length≤274877906944:=by
  simp only [go_sem,simprocAttr,List.length_map] at hl_314
  omega
 refine Wp.forL (fun i_313 s=>[(0,.ptr 0 0),(2,.ptr 4 0),(3,.ptr 5 0),(20,.p (.l (List.map ecS r_294))),(21,.p (.i .i64 (r_294.length:Int))),(22,.p (.i .i64 (i_313:Int)))]) (fun i_313 s=>[.cells 129 [.p (.l (List.map enc_api_Setting o0_0_1)),.mp 1,.mp 2,.mp 3],.mp true (encM Dt.s enc_api_File m1_2),.mp false (encM Dt.s ecS m2_3),.mp true (encM Dt.s enc_api_Service m3_4),.cells 26 [.nils,.nils,.nils,.nils],.cells 26 [.p (.l (List.map enc_api_Setting r_162)),.buf 6,.nils,.nils],.buf 38 3 (List.map enc_api_File s)]) ?_ hm ?_
 ·
  exact fse1
 clear hm
 intro i_313 o6_306 hii_313 hm
 try dsimp only at hm
 try dsimp only
 refine qS ?_
 refine Wp.seqW fun K27 hK27 hW27=>?_
 refine Wp.cond rfl ⟨⟩ (fun hc27=>?_) (fun hc27=>?_)
 rotate_left
 ·refine Wp.exit ?_
  have hm:=hk_311 _ (forL_end hm (ge_nat (by first | exact hc27 | simpa using hc27)))
  try dsimp only at hm
  refine hW4 _ _ _ _ ?_ (hcut4 o6_306 hm)
  exact fse1
 have hlt27:=lt_nat (by first | exact hc27 | simpa using hc27)
 have hw27:=wrap_succ hlt27 hl_314
 obtain ⟨s_315,nx_312,hxs_315,hys_315,hnx_312,hm⟩:=forL_step hm hlt27
 replace hxs_315:=hxs_315 ecS
 refine Wp.skip ?_
 simp only [thenQ]
 refine hK27 _ _ ?_
 refine Wp.seqW fun K28 hK28 hW28=>?_
 refine Wp.block ?_
 refine Wp.seqR fun K29 hK29=>?_
 simp only [go_sem,simprocAttr,hw27,hxs_315]
 refine kA hK29 ?_
 obtain ⟨q_316,hq_317,hm⟩:=letv_elim hm
 have hq_317d:=mlookD_enc (e:=enc_api_File) keq_s m1_2 s_315 (api_File.mk [] [] false)
 have hq_317s:=mlook_some (e:=enc_api_File) keq_s m1_2 s_315
 simp only [hq_317,enc_api_File,List.map_nil] at hq_317d hq_317s
 obtain ⟨c_318,hm⟩:=chk_elim hm
 refine Wp.regD (plan:=pl [(0,none),(1,none),(2,none),(3,none),(4,none),(5,none),(6,none),(7,none),(8,some [0,1]),(9,some []),(10,none),(11,some [])]) (by kernel_rfl) rfl (by kernel_rfl) fun K30 hK30=>?_
 simp only [go_sem,simprocAttr,hw27,hxs_315,hq_317d,hq_317s]
 refine kA hK30 ?_
 refine hK28 _ _ ?_
 refine Wp.region fun K31 hK31=>?_
 simp only [go_sem,simprocAttr,hw27,hxs_315]
 refine kA hK31 ?_
 simp only [thenQ,blockQ,↓reduceIte]
 refine ⟨o6_306++[(q_316.getD (api_File.mk [] [] false))],hlt27,hnx_312 _ hm,?_⟩
 simp only [go_sem,simprocAttr,hw27,hxs_315]
 try exact se1
theorem ok_R_Apply (m_1:api_Machine) (l_2:List api_Change) (z:api_Machine × Int) (hm:R_Apply m_1 l_2=some z):Does Tryz.prog 73 [.agg [.p (.l (List.map enc_api_Setting m_1.Facts)),.p (.l (List.map enc_api_File m_1.Files)),.p (.l (List.map enc_api_Setting m_1.Settings)),.p (.l (List.map enc_api_Service m_1.Services))],.p (.l (List.map enc_api_Change l_2))] [] (fun r X=>r=.tup [.agg [.p (.l (List.map enc_api_Setting z.1.Facts)),.p (.l (List.map enc_api_File z.1.Files)),.p (.l (List.map enc_api_Setting z.1.Settings)),.p (.l (List.map enc_api_Service z.1.Services))],.p (.i .i64 z.2)]∧X=[]):=by
 unfold R_Apply at hm
 refine dW 0 35 [.cell 4 26,.tmp 5] Tryz.func73 fun B=>?_
 refine qS ?_
 refine Wp.seqW fun K2 hK2 hW2=>?_
 obtain ⟨r_3,hr_3,hm⟩:=call_elim hm
 refine Wp.seqR fun K3 hK3=>?_
 simp only [go_sem,simprocAttr]
 try refine ⟨sd,?_⟩
 refine Rg.callX (av:=?av4) (g:=true) (fun hg=>ok_R_Check m_1 _ hr_3) si si si sg si ?cont4
 intro hv4
 simp only [go_sem,simprocAttr]
 refine kA hK3 ?_
 refine qS ?_
 refine cM hm (fun hc6 hm=>?_) (fun hc6 hm=>?_)
 ·refine qS ?_
  refine Wp.ret ?_
  simp only [thenQ,blockQ]
  refine retQ_retE ?_
  cases hm
  exact fse1
 ·refine Wp.skip ?_
  refine hK2 _ _ ?_
  obtain ⟨r_4,hr_4,hm⟩:=call_elim hm
  refine Wp.seqR fun K8 hK8=>?_
  simp only [go_sem,simprocAttr]
  try refine ⟨sd,?_⟩
  refine Rg.callO (av:=?av9) [] (ok_R_worldOf m_1 _ hr_4) si si si sg sg ?cont9
  rintro _ _ ⟨rfl,rfl⟩ hv9
  simp only [go_sem,simprocAttr]
  refine kA hK8 ?_
  refine Wp.seqW fun K10 hK10 hW10=>?_
  obtain ⟨k_23,hk_23,hm⟩:=jp_elim hm
  have hcut10:∀ s,k_23 s=some z→K10 [(4,.ptr 1 0),(7,.ptr 6 0)] [.cells 26 [.top,.top,.top,.top],.cells 26 [.nils,.nils,.nils,.nils],.cells 26 [.top,.top,.top,.top],.mp true (encM Dt.s enc_api_File s.1),.mp false (encM Dt.s ecS s.2.1),.mp true (encM Dt.s enc_api_Service s.2.2),.cells 129 [.p (.l (List.map enc_api_Setting r_4.2.2.2)),.mp 3,.mp 4,.mp 5]]:=by
   intro s hs
   have hm:=hk_23 _ hs
   clear hs
   obtain ⟨m3_20,m4_21,m5_22⟩:=s
   try dsimp only at hm
   try dsimp only
   refine hK10 _ _ ?_
   obtain ⟨r_24,hr_24,hm⟩:=call_elim hm
   refine Wp.seqR fun K11 hK11=>?_
   simp only [go_sem,simprocAttr]
   try refine ⟨sd,?_⟩
   refine Rg.callR (av:=?av12) (g:=true) [6,3,4,5] (fun hg=>ok_R_world_machine_i1 r_4.2.2.2 m3_20 m4_21 m5_22 _ hr_24) si si si si sg sg sg ?cont12
   simp only [go_sem,simprocAttr]
   refine kA hK11 ?_
   refine Wp.ret ?_
   refine retQ_ret ?_
   cases hm
   exact fse1
  clear hK10 hk_23
  refine qS ?_
  refine Wp.block ?_
  obtain ⟨k_34,hk_34,hm⟩:=forL_cont hm
  refine Wp.fact 19 fun hl_37=>?_
  replace hl_37:l_2.length≤274877906944:=by
   simp only [go_sem,simprocAttr,List.length_map] at hl_37
   omega
  refine Wp.forL (fun i_36 s=>[(4,.ptr 1 0),(7,.ptr 6 0),(19,.p (.l (List.map enc_api_Change l_2))),(20,.p (.i .i64 (l_2.length:Int))),(21,.p (.i .i64 (i_36:Int)))]) (fun i_36 s=>[.cells 26 [.p (.l (List.map enc_api_Setting m_1.Facts)),.p (.l (List.map enc_api_File m_1.Files)),.p (.l (List.map enc_api_Setting m_1.Settings)),.p (.l (List.map enc_api_Service m_1.Services))],.cells 26 [.nils,.nils,.nils,.nils],.cells 26 [.top,.top,.top,.top],.mp true (encM Dt.s enc_api_File s.1),.mp false (encM Dt.s ecS s.2.1),.mp true (encM Dt.s enc_api_Service s.2.2),.cells 129 [.p (.l (List.map enc_api_Setting r_4.2.2.2)),.mp 3,.mp 4,.mp 5]]) ?_ hm ?_
  ·
   exact fse1
  clear hm
  intro i_36 s hii_36 hm
  obtain ⟨m3_29,m4_30,m5_31⟩:=s
  try dsimp only at hm
  try dsimp only
  refine qS ?_
  refine Wp.seqW fun K15 hK15 hW15=>?_
  refine Wp.cond rfl ⟨⟩ (fun hc15=>?_) (fun hc15=>?_)
  rotate_left
  ·refine Wp.exit ?_
   have hm:=hk_34 _ (forL_end hm (ge_nat (by first | exact hc15 | simpa using hc15)))
   try dsimp only at hm
   refine hW10 _ _ _ _ ?_ (hcut10 (m3_29,m4_30,m5_31) hm)
   exact fse1
  have hlt15:=lt_nat (by first | exact hc15 | simpa using hc15)
  have hw15:=wrap_succ hlt15 hl_37
  obtain ⟨c_38,nx_35,hxc_38,hyc_38,hnx_35,hm⟩:=forL_step hm hlt15
  replace hxc_38:=hxc_38 enc_api_Change
  refine Wp.skip ?_
  simp only [thenQ]
  refine hK15 _ _ ?_
  refine Wp.seqW fun K16 hK16 hW16=>?_
  refine Wp.block ?_
  refine Wp.seqR fun K17 hK17=>?_
  simp only [go_sem,simprocAttr,hw15,hxc_38]
  refine kA hK17 ?_
  obtain ⟨r_39,hr_39,hm⟩:=call_elim hm
  refine Wp.seqR fun K18 hK18=>?_
  simp only [go_sem,simprocAttr,hw15,hxc_38]
  try refine ⟨sd,?_⟩
  refine Rg.callO (av:=?av19) [6,3,4,5] (ok_R_world_do_i1 c_38 r_4.2.2.2 m3_29 m4_30 m5_31 _ hr_39) (by simp only [go_sem,simprocAttr,hw15,hxc_38]; exact Is.mk) (by simp only [go_sem,simprocAttr,hw15,hxc_38]; exact Is.mk) (by simp only [go_sem,simprocAttr,hw15,hxc_38]; exact Is.mk) (by simp only [go_sem,simprocAttr,hw15,hxc_38]) (by simp only [go_sem,simprocAttr,hw15,hxc_38]) ?cont19
  rintro _ _ ⟨rfl,rfl⟩ hv19
  simp only [go_sem,simprocAttr,hw15,hxc_38]
  refine kA hK18 ?_
  refine Wp.seqR fun K20 hK20=>?_
  simp only [go_sem,simprocAttr,hw15,hxc_38]
  refine kA hK20 ?_
  refine cM hm (fun hc21 hm=>?_) (fun hc21 hm=>?_)
  ·refine Wp.seqR fun K22 hK22=>?_
   simp only [go_sem,simprocAttr,hw15,hxc_38]
   refine kA hK22 ?_
   refine Wp.ret ?_
   simp only [thenQ,blockQ]
   refine retQ_retE ?_
   cases hm
   simp only [go_sem,simprocAttr,hw15,hxc_38]
   try exact se1
  ·refine Wp.skip ?_
   refine hK16 _ _ ?_
   refine Wp.region fun K23 hK23=>?_
   simp only [go_sem,simprocAttr,hw15,hxc_38]
   refine kA hK23 ?_
   simp only [thenQ,blockQ,↓reduceIte]
   refine ⟨(r_39.2.1,r_39.2.2.1,r_39.2.2.2),hlt15,hnx_35 _ hm,?_⟩
   simp only [go_sem,simprocAttr,hw15,hxc_38]
   try exact se1
theorem ok_Law_fit_3_i1 (c_1:api_Change) (o0_0_2:List api_Setting) (z:List api_Setting × List api_File × List api_Setting × List api_Service) (hm:Law_fit_3_i1 c_1 o0_0_2=some z):Does Tryz.prog 72 [.agg [.p (.i .i64 c_1.Kind),.p (.s c_1.File.Path),.p (.s c_1.File.Data),.p (.b c_1.File.Runs),.p (.s c_1.Setting.Key),.p (.s c_1.Setting.Value),.p (.s c_1.Service.Name),.p (.s c_1.Service.Path),.p (.b c_1.Service.Auto),.p (.b c_1.Service.On)],.ptr 0 0] [.cells 26 [.p (.l (List.map enc_api_Setting o0_0_2)),.nils,.nils,.nils]] (fun r X=>r=.tup []∧X=[.cells 26 [.p (.l (List.map enc_api_Setting z.1)),.p (.l (List.map enc_api_File z.2.1)),.p (.l (List.map enc_api_Setting z.2.2.1)),.p (.l (List.map enc_api_Service z.2.2.2))]]):=by
 unfold Law_fit_3_i1 at hm
 refine dW 1 15 [] Tryz.func72 fun B=>?_
 refine qS ?_
 obtain ⟨r_4,hr_4,hm⟩:=call_elim hm
 refine Wp.seqR fun K2 hK2=>?_
 simp only [go_sem,simprocAttr]
 try refine ⟨sd,?_⟩
 refine Rg.callF (av:=?av3) (ok_R_Apply (api_Machine.mk o0_0_2 [] [] []) [c_1] _ hr_4) si si sg ?cont3
 intro hv3
 simp only [go_sem,simprocAttr]
 refine kA hK2 ?_
 refine qS ?_
 refine cM hm (fun hc5 hm=>?_) (fun hc5 hm=>?_)
 ·refine qR ?_
  refine retQ_normal ?_
  cases hm
  exact fse1
 ·refine Wp.skip ?_
  refine retQ_normalE ?_
  cases hm
  exact fse1
theorem ok_Law_fit_3_i2 (c_1:api_Change) (o0_0_2:List api_Setting) (o0_1_3:List api_File) (o0_2_4:List api_Setting) (o0_3_5:List api_Service) (z:List api_Setting × List api_File × List api_Setting × List api_Service) (hm:Law_fit_3_i2 c_1 o0_0_2 o0_1_3 o0_2_4 o0_3_5=some z):Does Tryz.prog 72 [.agg [.p (.i .i64 c_1.Kind),.p (.s c_1.File.Path),.p (.s c_1.File.Data),.p (.b c_1.File.Runs),.p (.s c_1.Setting.Key),.p (.s c_1.Setting.Value),.p (.s c_1.Service.Name),.p (.s c_1.Service.Path),.p (.b c_1.Service.Auto),.p (.b c_1.Service.On)],.ptr 0 0] [.cells 26 [.p (.l (List.map enc_api_Setting o0_0_2)),.p (.l (List.map enc_api_File o0_1_3)),.p (.l (List.map enc_api_Setting o0_2_4)),.p (.l (List.map enc_api_Service o0_3_5))]] (fun r X=>r=.tup []∧X=[.cells 26 [.p (.l (List.map enc_api_Setting z.1)),.p (.l (List.map enc_api_File z.2.1)),.p (.l (List.map enc_api_Setting z.2.2.1)),.p (.l (List.map enc_api_Service z.2.2.2))]]):=by
 unfold Law_fit_3_i2 at hm
 refine dW 1 15 [] Tryz.func72 fun B=>?_
 refine qS ?_
 obtain ⟨r_7,hr_7,hm⟩:=call_elim hm
 refine Wp.seqR fun K2 hK2=>?_
 simp only [go_sem,simprocAttr]
 try refine ⟨sd,?_⟩
 refine Rg.callF (av:=?av3) (ok_R_Apply (api_Machine.mk o0_0_2 o0_1_3 o0_2_4 o0_3_5) [c_1] _ hr_7) si si sg ?cont3
 intro hv3
 simp only [go_sem,simprocAttr]
 refine kA hK2 ?_
 refine qS ?_
 refine cM hm (fun hc5 hm=>?_) (fun hc5 hm=>?_)
 ·refine qR ?_
  refine retQ_normal ?_
  cases hm
  exact fse1
 ·refine Wp.skip ?_
  refine retQ_normal ?_
  cases hm
  exact fse1
theorem ok_Law_fit (m_1:api_Machine) (z:api_Machine) (hm:Law_fit m_1=some z):Does Tryz.prog 13 [.agg [.p (.l (List.map enc_api_Setting m_1.Facts)),.p (.l (List.map enc_api_File m_1.Files)),.p (.l (List.map enc_api_Setting m_1.Settings)),.p (.l (List.map enc_api_Service m_1.Services))]] [] (fun r X=>r=.agg [.p (.l (List.map enc_api_Setting z.Facts)),.p (.l (List.map enc_api_File z.Files)),.p (.l (List.map enc_api_Setting z.Settings)),.p (.l (List.map enc_api_Service z.Services))]∧X=[]):=by
 unfold Law_fit at hm
 refine dW 0 110 [.cell 2 26] Tryz.func13 fun B=>?_
 refine qS ?_
 refine qS ?_
 refine Wp.seqW fun K3 hK3 hW3=>?_
 obtain ⟨k_27,hk_27,hm⟩:=jp_elim hm
 have hcut3:∀ s,k_27 s=some z→K3 [(1,.ptr 0 0),(2,.ptr 1 0),(3,.ptr 2 0)] [.cells 26 [.p (.l (List.map enc_api_Setting m_1.Facts)),.p (.l (List.map enc_api_File m_1.Files)),.p (.l (List.map enc_api_Setting m_1.Settings)),.p (.l (List.map enc_api_Service m_1.Services))],.cells 26 [.nils,.nils,.nils,.nils],.cells 26 [.buf 3,.nils,.nils,.nils],.buf 40 2 (List.map enc_api_Setting s)]:=by
  intro o3_26 hs
  have hm:=hk_27 _ hs
  clear hs
  try dsimp only at hm
  try dsimp only
  refine hK3 _ _ ?_
  refine Wp.toFix 3 (by simp only [go_sem,simprocAttr]; exact Is.mk) (by simp only [go_sem,simprocAttr]) ?_
  simp only [go_sem,simprocAttr]
  obtain ⟨r_28,hr_28,hm⟩:=call_elim hm
  refine Wp.seqR fun K4 hK4=>?_
  simp only [go_sem,simprocAttr]
  try refine ⟨sd,?_⟩
  refine Rg.callO (av:=?av5) [3] (ok_slices_SortStableFunc_api_Setting_api_Setting_i1 o3_26 _ hr_28) si si si sg sg ?cont5
  rintro _ _ ⟨rfl,rfl⟩ hv5
  simp only [go_sem,simprocAttr]
  refine kA hK4 ?_
  refine Wp.toBuf 3 (by simp only [go_sem,simprocAttr]; exact Is.mk) (by simp only [go_sem,simprocAttr]) ?_
  simp only [go_sem,simprocAttr]
  refine Wp.toFix 3 (by simp only [go_sem,simprocAttr]; exact Is.mk) (by simp only [go_sem,simprocAttr]) ?_
  simp only [go_sem,simprocAttr]
  obtain ⟨r_29,hr_29,hm⟩:=call_elim hm
  refine Wp.seqR fun K6 hK6=>?_
  simp only [go_sem,simprocAttr]
  try refine ⟨sd,?_⟩
  refine Rg.callO (av:=?av7) [3] (ok_slices_CompactFunc_api_Setting_api_Setting_i1 r_28 _ hr_29) si si si sg sg ?cont7
  rintro _ _ ⟨rfl,rfl⟩ hv7
  simp only [go_sem,simprocAttr]
  refine kA hK6 ?_
  refine Wp.toBuf 3 (by simp only [go_sem,simprocAttr]; exact Is.mk) (by simp only [go_sem,simprocAttr]) ?_
  simp only [go_sem,simprocAttr]
  refine qS ?_
  refine Wp.seqW fun K9 hK9 hW9=>?_
  obtain ⟨k_58,hk_58,hm⟩:=jp_elim hm
  have hcut9:∀ s,k_58 s=some z→K9 [(1,.ptr 0 0),(2,.ptr 1 0),(3,.ptr 2 0),(6,.fn 72 [.ptr 2 0])] [.cells 26 [.p (.l (List.map enc_api_Setting m_1.Facts)),.p (.l (List.map enc_api_File m_1.Files)),.p (.l (List.map enc_api_Setting m_1.Settings)),.p (.l (List.map enc_api_Service m_1.Services))],.cells 26 [.nils,.nils,.nils,.nils],.cells 26 [.p (.l (List.map enc_api_Setting s.1)),.p (.l (List.map enc_api_File s.2.1)),.p (.l (List.map enc_api_Setting s.2.2.1)),.p (.l (List.map enc_api_Service s.2.2.2))]]:=by
   intro s hs
   have hm:=hk_58 _ hs
   clear hs
   obtain ⟨o2_0_54,o2_1_55,o2_2_56,o2_3_57⟩:=s
   try dsimp only at hm
   try dsimp only
   refine hK9 _ _ ?_
   refine Wp.seqW fun K10 hK10 hW10=>?_
   obtain ⟨k_80,hk_80,hm⟩:=jp_elim hm
   have hcut10:∀ s,k_80 s=some z→K10 [(1,.ptr 0 0),(2,.ptr 1 0),(3,.ptr 2 0),(6,.fn 72 [.ptr 2 0])] [.cells 26 [.p (.l (List.map enc_api_Setting m_1.Facts)),.p (.l (List.map enc_api_File m_1.Files)),.p (.l (List.map enc_api_Setting m_1.Settings)),.p (.l (List.map enc_api_Service m_1.Services))],.cells 26 [.nils,.nils,.nils,.nils],.cells 26 [.p (.l (List.map enc_api_Setting s.1)),.p (.l (List.map enc_api_File s.2.1)),.p (.l (List.map enc_api_Setting s.2.2.1)),.p (.l (List.map enc_api_Service s.2.2.2))]]:=by
    intro s hs
    have hm:=hk_80 _ hs
    clear hs
    obtain ⟨o2_0_76,o2_1_77,o2_2_78,o2_3_79⟩:=s
    try dsimp only at hm
    try dsimp only
    refine hK10 _ _ ?_
    refine Wp.seqW fun K11 hK11 hW11=>?_
    obtain ⟨k_102,hk_102,hm⟩:=jp_elim hm
    have hcut11:∀ s,k_102 s=some z→K11 [(2,.ptr 1 0),(3,.ptr 2 0)] [.cells 26 [.top,.top,.top,.top],.cells 26 [.nils,.nils,.nils,.nils],.cells 26 [.p (.l (List.map enc_api_Setting s.1)),.p (.l (List.map enc_api_File s.2.1)),.p (.l (List.map enc_api_Setting s.2.2.1)),.p (.l (List.map enc_api_Service s.2.2.2))]]:=by
     intro s hs
     have hm:=hk_102 _ hs
     clear hs
     obtain ⟨o2_0_98,o2_1_99,o2_2_100,o2_3_101⟩:=s
     try dsimp only at hm
     try dsimp only
     refine hK11 _ _ ?_
     refine qS ?_
     refine Wp.ret ?_
     refine retQ_ret ?_
     cases hm
     exact fse1
    clear hK11 hk_102
    obtain ⟨c_103,hm⟩:=chk_elim hm
    refine Wp.seqR fun K13 hK13=>?_
    simp only [go_sem,simprocAttr]
    refine kA hK13 ?_
    refine Wp.block ?_
    obtain ⟨k_114,hk_114,hm⟩:=forL_cont hm
    refine Wp.fact 98 fun hl_117=>?_
    replace hl_117:(List.take ((min (m_1.Services.length:Int) 40).toNat) m_1.Services).length≤274877906944:=by
     simp only [go_sem,simprocAttr,List.length_map] at hl_117
     omega
    refine Wp.forL (fun i_116 s=>[(2,.ptr 1 0),(3,.ptr 2 0),(6,.fn 72 [.ptr 2 0]),(98,.p (.l (List.map enc_api_Service (List.take ((min (m_1.Services.length:Int) 40).toNat) m_1.Services)))),(99,.p (.i .i64 ((List.take ((min (m_1.Services.length:Int) 40).toNat) m_1.Services).length:Int))),(100,.p (.i .i64 (i_116:Int)))]) (fun i_116 s=>[.cells 26 [.p (.l (List.map enc_api_Setting m_1.Facts)),.p (.l (List.map enc_api_File m_1.Files)),.p (.l (List.map enc_api_Setting m_1.Settings)),.p (.l (List.map enc_api_Service m_1.Services))],.cells 26 [.nils,.nils,.nils,.nils],.cells 26 [.p (.l (List.map enc_api_Setting s.1)),.p (.l (List.map enc_api_File s.2.1)),.p (.l (List.map enc_api_Setting s.2.2.1)),.p (.l (List.map enc_api_Service s.2.2.2))]]) ?_ hm ?_
    ·
     exact fse1
    clear hm
    intro i_116 s hii_116 hm
    obtain ⟨o2_0_108,o2_1_109,o2_2_110,o2_3_111⟩:=s
    try dsimp only at hm
    try dsimp only
    refine qS ?_
    refine Wp.seqW fun K15 hK15 hW15=>?_
    refine Wp.cond rfl ⟨⟩ (fun hc15=>?_) (fun hc15=>?_)
    rotate_left
    ·refine Wp.exit ?_
     have hm:=hk_114 _ (forL_end hm (ge_nat (by first | exact hc15 | simpa using hc15)))
     try dsimp only at hm
     refine hW11 _ _ _ _ ?_ (hcut11 (o2_0_108,o2_1_109,o2_2_110,o2_3_111) hm)
     exact fse1
    have hlt15:=lt_nat (by first | exact hc15 | simpa using hc15)
    have hw15:=wrap_succ hlt15 hl_117
    obtain ⟨s_118,nx_115,hxs_118,hys_118,hnx_115,hm⟩:=forL_step hm hlt15
    replace hxs_118:=hxs_118 enc_api_Service
    refine Wp.skip ?_
    simp only [thenQ]
    refine hK15 _ _ ?_
    refine Wp.seqW fun K16 hK16 hW16=>?_
    refine Wp.block ?_
    refine Wp.seqR fun K17 hK17=>?_
    simp only [go_sem,simprocAttr,hw15,hxs_118]
    refine kA hK17 ?_
    obtain ⟨r_119,hr_119,hm⟩:=call_elim hm
    refine Wp.region fun K18 hK18=>?_
    simp only [go_sem,simprocAttr,hw15,hxs_118]
    try refine ⟨sd,?_⟩
    refine Rg.callO (av:=?av19) [2] (ok_Law_fit_3_i2 (api_Change.mk 5 (api_File.mk [] [] false) (api_Setting.mk [] []) s_118) o2_0_108 o2_1_109 o2_2_110 o2_3_111 _ hr_119) (by simp only [go_sem,simprocAttr,hw15,hxs_118]; exact Is.mk) (by simp only [go_sem,simprocAttr,hw15,hxs_118]; exact Is.mk) (by simp only [go_sem,simprocAttr,hw15,hxs_118]; exact Is.mk) (by simp only [go_sem,simprocAttr,hw15,hxs_118]) (by simp only [go_sem,simprocAttr,hw15,hxs_118]) ?cont19
    rintro _ _ ⟨rfl,rfl⟩ hv19
    simp only [go_sem,simprocAttr,hw15,hxs_118]
    refine kA hK18 ?_
    refine hK16 _ _ ?_
    refine Wp.region fun K20 hK20=>?_
    simp only [go_sem,simprocAttr,hw15,hxs_118]
    refine kA hK20 ?_
    simp only [thenQ,blockQ,↓reduceIte]
    refine ⟨(r_119.1,r_119.2.1,r_119.2.2.1,r_119.2.2.2),hlt15,hnx_115 _ hm,?_⟩
    simp only [go_sem,simprocAttr,hw15,hxs_118]
    try exact se1
   clear hK10 hk_80
   obtain ⟨c_120,hm⟩:=chk_elim hm
   refine Wp.seqR fun K21 hK21=>?_
   simp only [go_sem,simprocAttr]
   refine kA hK21 ?_
   refine Wp.block ?_
   obtain ⟨k_131,hk_131,hm⟩:=forL_cont hm
   refine Wp.fact 81 fun hl_134=>?_
   replace hl_134:(List.take ((min (m_1.Settings.length:Int) 40).toNat) m_1.Settings).length≤274877906944:=by
    simp only [go_sem,simprocAttr,List.length_map] at hl_134
    omega
   refine Wp.forL (fun i_133 s=>[(1,.ptr 0 0),(2,.ptr 1 0),(3,.ptr 2 0),(6,.fn 72 [.ptr 2 0]),(81,.p (.l (List.map enc_api_Setting (List.take ((min (m_1.Settings.length:Int) 40).toNat) m_1.Settings)))),(82,.p (.i .i64 ((List.take ((min (m_1.Settings.length:Int) 40).toNat) m_1.Settings).length:Int))),(83,.p (.i .i64 (i_133:Int)))]) (fun i_133 s=>[.cells 26 [.p (.l (List.map enc_api_Setting m_1.Facts)),.p (.l (List.map enc_api_File m_1.Files)),.p (.l (List.map enc_api_Setting m_1.Settings)),.p (.l (List.map enc_api_Service m_1.Services))],.cells 26 [.nils,.nils,.nils,.nils],.cells 26 [.p (.l (List.map enc_api_Setting s.1)),.p (.l (List.map enc_api_File s.2.1)),.p (.l (List.map enc_api_Setting s.2.2.1)),.p (.l (List.map enc_api_Service s.2.2.2))]]) ?_ hm ?_
   ·
    exact fse1
   clear hm
   intro i_133 s hii_133 hm
   obtain ⟨o2_0_125,o2_1_126,o2_2_127,o2_3_128⟩:=s
   try dsimp only at hm
   try dsimp only
   refine qS ?_
   refine Wp.seqW fun K23 hK23 hW23=>?_
   refine Wp.cond rfl ⟨⟩ (fun hc23=>?_) (fun hc23=>?_)
   rotate_left
   ·refine Wp.exit ?_
    have hm:=hk_131 _ (forL_end hm (ge_nat (by first | exact hc23 | simpa using hc23)))
    try dsimp only at hm
    refine hW10 _ _ _ _ ?_ (hcut10 (o2_0_125,o2_1_126,o2_2_127,o2_3_128) hm)
    exact fse1
   have hlt23:=lt_nat (by first | exact hc23 | simpa using hc23)
   have hw23:=wrap_succ hlt23 hl_134
   obtain ⟨s_135,nx_132,hxs_135,hys_135,hnx_132,hm⟩:=forL_step hm hlt23
   replace hxs_135:=hxs_135 enc_api_Setting
   refine Wp.skip ?_
   simp only [thenQ]
   refine hK23 _ _ ?_
   refine Wp.seqW fun K24 hK24 hW24=>?_
   refine Wp.block ?_
   refine Wp.seqR fun K25 hK25=>?_
   simp only [go_sem,simprocAttr,hw23,hxs_135]
   refine kA hK25 ?_
   obtain ⟨r_136,hr_136,hm⟩:=call_elim hm
   refine Wp.region fun K26 hK26=>?_
   simp only [go_sem,simprocAttr,hw23,hxs_135]
   try refine ⟨sd,?_⟩
   refine Rg.callO (av:=?av27) [2] (ok_Law_fit_3_i2 (api_Change.mk 3 (api_File.mk [] [] false) s_135 (api_Service.mk [] [] false false)) o2_0_125 o2_1_126 o2_2_127 o2_3_128 _ hr_136) (by simp only [go_sem,simprocAttr,hw23,hxs_135]; exact Is.mk) (by simp only [go_sem,simprocAttr,hw23,hxs_135]; exact Is.mk) (by simp only [go_sem,simprocAttr,hw23,hxs_135]; exact Is.mk) (by simp only [go_sem,simprocAttr,hw23,hxs_135]) (by simp only [go_sem,simprocAttr,hw23,hxs_135]) ?cont27
   rintro _ _ ⟨rfl,rfl⟩ hv27
   simp only [go_sem,simprocAttr,hw23,hxs_135]
   refine kA hK26 ?_
   refine hK24 _ _ ?_
   refine Wp.region fun K28 hK28=>?_
   simp only [go_sem,simprocAttr,hw23,hxs_135]
   refine kA hK28 ?_
   simp only [thenQ,blockQ,↓reduceIte]
   refine ⟨(r_136.1,r_136.2.1,r_136.2.2.1,r_136.2.2.2),hlt23,hnx_132 _ hm,?_⟩
   simp only [go_sem,simprocAttr,hw23,hxs_135]
   try exact se1
  clear hK9 hk_58
  obtain ⟨c_137,hm⟩:=chk_elim hm
  refine Wp.seqR fun K29 hK29=>?_
  simp only [go_sem,simprocAttr]
  refine kA hK29 ?_
  refine Wp.block ?_
  refine Wp.freeze 3 (by simp only [go_sem,simprocAttr]; exact Is.mk) (by first | (simp only [go_sem,simprocAttr]; done) | (simp only [go_sem,simprocAttr]; omega)) ?_
  simp only [go_sem,simprocAttr]
  obtain ⟨k_154,hk_154,hm⟩:=forL_cont hm
  refine Wp.fact 56 fun hl_157=>?_
  replace hl_157:(List.take ((min (m_1.Files.length:Int) 40).toNat) m_1.Files).length≤274877906944:=by
   simp only [go_sem,simprocAttr,List.length_map] at hl_157
   omega
  refine Wp.forL (fun i_156 s=>[(1,.ptr 0 0),(2,.ptr 1 0),(3,.ptr 2 0),(6,.fn 72 [.ptr 2 0]),(56,.p (.l (List.map enc_api_File (List.take ((min (m_1.Files.length:Int) 40).toNat) m_1.Files)))),(57,.p (.i .i64 ((List.take ((min (m_1.Files.length:Int) 40).toNat) m_1.Files).length:Int))),(58,.p (.i .i64 (i_156:Int)))]) (fun i_156 s=>[.cells 26 [.p (.l (List.map enc_api_Setting m_1.Facts)),.p (.l (List.map enc_api_File m_1.Files)),.p (.l (List.map enc_api_Setting m_1.Settings)),.p (.l (List.map enc_api_Service m_1.Services))],.cells 26 [.nils,.nils,.nils,.nils],.cells 26 [.p (.l (List.map enc_api_Setting s.1)),.p (.l (List.map enc_api_File s.2.1)),.p (.l (List.map enc_api_Setting s.2.2.1)),.p (.l (List.map enc_api_Service s.2.2.2))],.gone]) ?_ hm ?_
  ·
   exact fse1
  clear hm
  intro i_156 s hii_156 hm
  obtain ⟨o2_0_147,o2_1_148,o2_2_149,o2_3_150⟩:=s
  try dsimp only at hm
  try dsimp only
  refine qS ?_
  refine Wp.seqW fun K31 hK31 hW31=>?_
  refine Wp.cond rfl ⟨⟩ (fun hc31=>?_) (fun hc31=>?_)
  rotate_left
  ·refine Wp.exit ?_
   have hm:=hk_154 _ (forL_end hm (ge_nat (by first | exact hc31 | simpa using hc31)))
   try dsimp only at hm
   refine hW9 _ _ _ _ ?_ (hcut9 (o2_0_147,o2_1_148,o2_2_149,o2_3_150) hm)
   exact fse1
  have hlt31:=lt_nat (by first | exact hc31 | simpa using hc31)
  have hw31:=wrap_succ hlt31 hl_157
  obtain ⟨f_158,nx_155,hxf_158,hyf_158,hnx_155,hm⟩:=forL_step hm hlt31
  replace hxf_158:=hxf_158 enc_api_File
  refine Wp.skip ?_
  simp only [thenQ]
  refine hK31 _ _ ?_
  refine Wp.seqW fun K32 hK32 hW32=>?_
  refine Wp.block ?_
  refine Wp.seqR fun K33 hK33=>?_
  simp only [go_sem,simprocAttr,hw31,hxf_158]
  refine kA hK33 ?_
  obtain ⟨c_159,hm⟩:=chk_elim hm
  refine Wp.seqR fun K34 hK34=>?_
  simp only [go_sem,simprocAttr,hw31,hxf_158]
  refine kA hK34 ?_
  obtain ⟨r_160,hr_160,hm⟩:=call_elim hm
  refine Wp.region fun K35 hK35=>?_
  simp only [go_sem,simprocAttr,hw31,hxf_158]
  try refine ⟨sd,?_⟩
  refine Rg.callO (av:=?av36) [2] (ok_Law_fit_3_i2 (api_Change.mk 1 (api_File.mk f_158.Path (List.take ((min (f_158.Data.length:Int) 3000).toNat) f_158.Data) f_158.Runs) (api_Setting.mk [] []) (api_Service.mk [] [] false false)) o2_0_147 o2_1_148 o2_2_149 o2_3_150 _ hr_160) (by simp only [go_sem,simprocAttr,hw31,hxf_158]; exact Is.mk) (by simp only [go_sem,simprocAttr,hw31,hxf_158]; exact Is.mk) (by simp only [go_sem,simprocAttr,hw31,hxf_158]; exact Is.mk) (by simp only [go_sem,simprocAttr,hw31,hxf_158]) (by simp only [go_sem,simprocAttr,hw31,hxf_158]) ?cont36
  rintro _ _ ⟨rfl,rfl⟩ hv36
  simp only [go_sem,simprocAttr,hw31,hxf_158]
  refine kA hK35 ?_
  refine hK32 _ _ ?_
  refine Wp.region fun K37 hK37=>?_
  simp only [go_sem,simprocAttr,hw31,hxf_158]
  refine kA hK37 ?_
  simp only [thenQ,blockQ,↓reduceIte]
  refine ⟨(r_160.1,r_160.2.1,r_160.2.2.1,r_160.2.2.2),hlt31,hnx_155 _ hm,?_⟩
  simp only [go_sem,simprocAttr,hw31,hxf_158]
  try exact se1
 clear hK3 hk_27
 refine qS ?_
 refine Wp.block ?_
 refine Wp.adoptO 2 0 40 2 rfl rfl ?_
 simp only [go_sem,simprocAttr]
 obtain ⟨k_177,hk_177,hm⟩:=forL_cont hm
 refine Wp.fact 15 fun hl_180=>?_
 replace hl_180:m_1.Facts.length≤274877906944:=by
  simp only [go_sem,simprocAttr,List.length_map] at hl_180
  omega
 refine Wp.forL (fun i_179 s=>[(1,.ptr 0 0),(2,.ptr 1 0),(3,.ptr 2 0),(15,.p (.l (List.map enc_api_Setting m_1.Facts))),(16,.p (.i .i64 (m_1.Facts.length:Int))),(17,.p (.i .i64 (i_179:Int)))]) (fun i_179 s=>[.cells 26 [.p (.l (List.map enc_api_Setting m_1.Facts)),.p (.l (List.map enc_api_File m_1.Files)),.p (.l (List.map enc_api_Setting m_1.Settings)),.p (.l (List.map enc_api_Service m_1.Services))],.cells 26 [.nils,.nils,.nils,.nils],.cells 26 [.buf 3,.nils,.nils,.nils],.buf 40 2 (List.map enc_api_Setting s)]) ?_ hm ?_
 ·
  exact fse1
 clear hm
 intro i_179 o3_172 hii_179 hm
 try dsimp only at hm
 try dsimp only
 refine qS ?_
 refine Wp.seqW fun K40 hK40 hW40=>?_
 refine Wp.cond rfl ⟨⟩ (fun hc40=>?_) (fun hc40=>?_)
 rotate_left
 ·refine Wp.exit ?_
  have hm:=hk_177 _ (forL_end hm (ge_nat (by first | exact hc40 | simpa using hc40)))
  try dsimp only at hm
  refine hW3 _ _ _ _ ?_ (hcut3 o3_172 hm)
  exact fse1
 have hlt40:=lt_nat (by first | exact hc40 | simpa using hc40)
 have hw40:=wrap_succ hlt40 hl_180
 obtain ⟨s_181,nx_178,hxs_181,hys_181,hnx_178,hm⟩:=forL_step hm hlt40
 replace hxs_181:=hxs_181 enc_api_Setting
 refine Wp.skip ?_
 simp only [thenQ]
 refine hK40 _ _ ?_
 refine Wp.seqW fun K41 hK41 hW41=>?_
 refine Wp.block ?_
 refine Wp.seqR fun K42 hK42=>?_
 simp only [go_sem,simprocAttr,hw40,hxs_181]
 refine kA hK42 ?_
 obtain ⟨r_182,hr_182,hm⟩:=call_elim hm
 obtain ⟨r_183,hr_183,hm⟩:=callG_elim hm
 refine Wp.seqR fun K43 hK43=>?_
 simp only [go_sem,simprocAttr,hw40,hxs_181]
 try refine ⟨sd,?_⟩
 refine Rg.callX (av:=?av44) (g:=true) (fun hg=>ok_R_IsName s_181.Key _ hr_182) (by simp only [go_sem,simprocAttr,hw40,hxs_181]; exact Is.mk) (by simp only [go_sem,simprocAttr,hw40,hxs_181]; exact Is.mk) (by simp only [go_sem,simprocAttr,hw40,hxs_181]; exact Is.mk) (by simp only [go_sem,simprocAttr,hw40,hxs_181]) (by simp only [go_sem,simprocAttr,hw40,hxs_181]; exact Is.mk) ?cont44
 intro hv44
 simp only [go_sem,simprocAttr,hw40,hxs_181]
 try refine ⟨sd,?_⟩
 refine Rg.callX (av:=?av45) (g:=r_182) (fun hg=>ok_R_IsValue s_181.Value _ (hr_183 hg)) (by simp only [go_sem,simprocAttr,hw40,hxs_181]; exact Is.mk) (by simp only [go_sem,simprocAttr,hw40,hxs_181]; exact Is.mk) (by simp only [go_sem,simprocAttr,hw40,hxs_181]; exact Is.mk) (by simp only [go_sem,simprocAttr,hw40,hxs_181]) (by simp only [go_sem,simprocAttr,hw40,hxs_181]; exact Is.mk) ?cont45
 intro hv45
 simp only [go_sem,simprocAttr,hw40,hxs_181]
 refine kA hK43 ?_
 refine cM hm (fun hc46 hm=>?_) (fun hc46 hm=>?_)
 ·obtain ⟨c_184,hm⟩:=chk_elim hm
  refine Wp.region fun K47 hK47=>?_
  simp only [go_sem,simprocAttr,hw40,hxs_181]
  refine kA hK47 ?_
  refine hK41 _ _ ?_
  refine Wp.region fun K48 hK48=>?_
  simp only [go_sem,simprocAttr,hw40,hxs_181]
  refine kA hK48 ?_
  simp only [thenQ,blockQ,↓reduceIte]
  refine ⟨o3_172++[s_181],hlt40,hnx_178 _ hm,?_⟩
  simp only [go_sem,simprocAttr,hw40,hxs_181]
  try exact se1
 ·refine Wp.skip ?_
  refine hK41 _ _ ?_
  refine Wp.region fun K49 hK49=>?_
  simp only [go_sem,simprocAttr,hw40,hxs_181]
  refine kA hK49 ?_
  simp only [thenQ,blockQ,↓reduceIte]
  refine ⟨o3_172,hlt40,hnx_178 _ hm,?_⟩
  simp only [go_sem,simprocAttr,hw40,hxs_181]
  try exact se1
theorem ok_disk_NewDisk_i2 (m_1:api_Machine) (z:Int × List api_Setting × List api_File × List api_Setting × List api_Service × (List (Str × api_File)) × (List (Str × Int)) × (List (Str × api_Setting)) × (List (Str × api_Service)) × List api_Setting × Bool × Bool × Int × Bool × Int) (hm:disk_NewDisk_i2 m_1=some z):Does Tryz.prog 12 [.agg [.p (.l (List.map enc_api_Setting m_1.Facts)),.p (.l (List.map enc_api_File m_1.Files)),.p (.l (List.map enc_api_Setting m_1.Settings)),.p (.l (List.map enc_api_Service m_1.Services))]] [] (fun r X=>r=.tup [.ptr 7 0,.p (.i .i64 z.1)]∧X=[.cells 26 [.p (.l (List.map enc_api_Setting z.2.1)),.p (.l (List.map enc_api_File z.2.2.1)),.p (.l (List.map enc_api_Setting z.2.2.2.1)),.p (.l (List.map enc_api_Service z.2.2.2.2.1))],.cells 26 [.top,.top,.top,.top],.mp true (encM Dt.s enc_api_File z.2.2.2.2.2.1),.mp false (encM Dt.s ecI_i64 z.2.2.2.2.2.2.1),.mp true (encM Dt.s enc_api_Setting z.2.2.2.2.2.2.2.1),.mp true (encM Dt.s enc_api_Service z.2.2.2.2.2.2.2.2.1),.cells 193 [.p (.l (List.map enc_api_Setting z.2.2.2.2.2.2.2.2.2.1)),.mp 2,.mp 3,.mp 4,.mp 5],.cells 114 [.ptr 6 0,.p (.b z.2.2.2.2.2.2.2.2.2.2.1),.p (.b z.2.2.2.2.2.2.2.2.2.2.2.1),.p (.i .i64 z.2.2.2.2.2.2.2.2.2.2.2.2.1),.p (.b z.2.2.2.2.2.2.2.2.2.2.2.2.2.1),.p (.i .i64 z.2.2.2.2.2.2.2.2.2.2.2.2.2.2)]]):=by
 unfold disk_NewDisk_i2 at hm
 refine dW 8 14 [.tmp 2,.tmp 3] Tryz.func12 fun B=>?_
 refine qS ?_
 refine Wp.seqW fun K2 hK2 hW2=>?_
 obtain ⟨r_4,hr_4,hm⟩:=call_elim hm
 refine Wp.seqR fun K3 hK3=>?_
 simp only [go_sem,simprocAttr]
 try refine ⟨sd,?_⟩
 refine Rg.callX (av:=?av4) (g:=true) (fun hg=>ok_disk_Check m_1 _ hr_4) si si si sg si ?cont4
 intro hv4
 simp only [go_sem,simprocAttr]
 refine kA hK3 ?_
 refine qS ?_
 refine cM hm (fun hc6 hm=>?_) (fun hc6 hm=>?_)
 ·refine qS ?_
  refine Wp.ret ?_
  simp only [thenQ,blockQ]
  cases hm
 ·refine Wp.skip ?_
  refine hK2 _ _ ?_
  obtain ⟨r_5,hr_5,hm⟩:=call_elim hm
  refine Wp.seqR fun K8 hK8=>?_
  simp only [go_sem,simprocAttr]
  try refine ⟨sd,?_⟩
  refine Rg.callO (av:=?av9) [] (ok_disk_benchOf m_1 _ hr_5) si si si sg sg ?cont9
  rintro _ _ ⟨rfl,rfl⟩ hv9
  simp only [go_sem,simprocAttr]
  refine kA hK8 ?_
  refine Wp.ret ?_
  refine retQ_ret ?_
  cases hm
  exact fse1
theorem ok_R_NewDisk (m_1:api_Machine) (z:List api_Setting × List api_File × List api_Setting × List api_Service × (List (Str × api_File)) × (List (Str × Str)) × (List (Str × api_Service)) × List api_Setting × Bool × Int × Bool × Bool × Int) (hm:R_NewDisk m_1=some z):Does Tryz.prog 14 [.agg [.p (.l (List.map enc_api_Setting m_1.Facts)),.p (.l (List.map enc_api_File m_1.Files)),.p (.l (List.map enc_api_Setting m_1.Settings)),.p (.l (List.map enc_api_Service m_1.Services))]] [] (fun r X=>r=.ptr 6 0∧X=[.cells 26 [.p (.l (List.map enc_api_Setting z.1)),.p (.l (List.map enc_api_File z.2.1)),.p (.l (List.map enc_api_Setting z.2.2.1)),.p (.l (List.map enc_api_Service z.2.2.2.1))],.cells 26 [.top,.top,.top,.top],.mp true (encM Dt.s enc_api_File z.2.2.2.2.1),.mp false (encM Dt.s ecS z.2.2.2.2.2.1),.mp true (encM Dt.s enc_api_Service z.2.2.2.2.2.2.1),.cells 129 [.p (.l (List.map enc_api_Setting z.2.2.2.2.2.2.2.1)),.mp 2,.mp 3,.mp 4],.cells 124 [.ptr 5 0,.p (.b z.2.2.2.2.2.2.2.2.1),.p (.i .i64 z.2.2.2.2.2.2.2.2.2.1),.p (.b z.2.2.2.2.2.2.2.2.2.2.1),.p (.b z.2.2.2.2.2.2.2.2.2.2.2.1),.p (.i .i64 z.2.2.2.2.2.2.2.2.2.2.2.2)]]):=by
 unfold R_NewDisk at hm
 refine dW 7 7 [.tmp 2] Tryz.func14 fun B=>?_
 refine qS ?_
 obtain ⟨r_3,hr_3,hm⟩:=call_elim hm
 refine Wp.seqR fun K2 hK2=>?_
 simp only [go_sem,simprocAttr]
 try refine ⟨sd,?_⟩
 refine Rg.callO (av:=?av3) [] (ok_R_worldOf m_1 _ hr_3) si si si sg sg ?cont3
 rintro _ _ ⟨rfl,rfl⟩ hv3
 simp only [go_sem,simprocAttr]
 refine kA hK2 ?_
 refine Wp.ret ?_
 refine retQ_ret ?_
 cases hm
 exact fse1
theorem ok_disk_CheckChange (c_1:api_Change) (z:Int) (hm:disk_CheckChange c_1=some z):Does Tryz.prog 150 [.agg [.p (.i .i64 c_1.Kind),.p (.s c_1.File.Path),.p (.s c_1.File.Data),.p (.b c_1.File.Runs),.p (.s c_1.Setting.Key),.p (.s c_1.Setting.Value),.p (.s c_1.Service.Name),.p (.s c_1.Service.Path),.p (.b c_1.Service.Auto),.p (.b c_1.Service.On)]] [] (fun r X=>r=.p (.i .i64 z)∧X=[]):=by
 unfold disk_CheckChange at hm
 refine dW 0 78 [.tmp 2] Tryz.func150 fun B=>?_
 refine qS ?_
 refine qS ?_
 refine qS ?_
 refine Wp.seqW fun K4 hK4 hW4=>?_
 obtain ⟨k_18,hk_18,hm⟩:=jp_elim hm
 have hcut4:∀ s,k_18 s=some z→K4 [(1,.ptr 0 0),(3,.ptr 1 0),(4,.p (.i .i64 s.1))] [.cells 44 [.p (.i .i64 c_1.Kind),.p (.s c_1.File.Path),.p (.s c_1.File.Data),.p (.b c_1.File.Runs),.p (.s c_1.Setting.Key),.p (.s c_1.Setting.Value),.p (.s c_1.Service.Name),.p (.s c_1.Service.Path),.p (.b c_1.Service.Auto),.p (.b c_1.Service.On)],.cells 44 [.p (.i .i64 0),.p (.s s.2.1),.p (.s s.2.2.1),.p (.b s.2.2.2.1),.p (.s s.2.2.2.2.1),.p (.s s.2.2.2.2.2.1),.p (.s s.2.2.2.2.2.2.1),.p (.s s.2.2.2.2.2.2.2.1),.p (.b s.2.2.2.2.2.2.2.2.1),.p (.b s.2.2.2.2.2.2.2.2.2)]]:=by
  intro s hs
  have hm:=hk_18 _ hs
  clear hs
  obtain ⟨e_8,o1_1_9,o1_2_10,o1_3_11,o1_4_12,o1_5_13,o1_6_14,o1_7_15,o1_8_16,o1_9_17⟩:=s
  try dsimp only at hm
  try dsimp only
  refine hK4 _ _ ?_
  refine qS ?_
  refine Wp.seqW fun K6 hK6 hW6=>?_
  refine qS ?_
  refine cM hm (fun hc8 hm=>?_) (fun hc8 hm=>?_)
  ·refine qS ?_
   refine Wp.ret ?_
   refine retQ_ret ?_
   cases hm
   exact fse1
  ·refine Wp.skip ?_
   refine hK6 _ _ ?_
   refine qS ?_
   refine Wp.ret ?_
   refine retQ_ret ?_
   cases hm
   exact fse1
 clear hK4 hk_18
 refine qS ?_
 refine Wp.block ?_
 refine qS ?_
 refine cM hm (fun hc13 hm=>?_) (fun hc13 hm=>?_)
 ·obtain ⟨r_19,hr_19,hm⟩:=call_elim hm
  refine Wp.regD (plan:=pl [(0,none),(1,none),(2,none),(3,none),(4,none),(5,none),(6,some []),(7,none)]) (by kernel_rfl) rfl (by kernel_rfl) fun K14 hK14=>?_
  simp only [go_sem,simprocAttr]
  try refine ⟨sd,?_⟩
  refine Dr.callF (av:=?av15) (g:=true) (o:=?o15) (fun hg=>ok_disk_fileFault c_1.File _ hr_19) si si si si sg si ?cont15
  simp only [go_sem,simprocAttr]
  refine kA hK14 ?_
  refine hW4 _ _ _ _ ?_ (hcut4 (r_19,c_1.File.Path,c_1.File.Data,c_1.File.Runs,[],[],[],[],false,false) hm)
  exact fse1
 ·refine qS ?_
  refine cM hm (fun hc17 hm=>?_) (fun hc17 hm=>?_)
  ·obtain ⟨r_20,hr_20,hm⟩:=call_elim hm
   refine Wp.regD (plan:=pl [(0,none),(1,none),(2,none),(3,none),(4,none),(5,none),(6,none),(7,none),(8,none),(9,none),(10,some []),(11,none)]) (by kernel_rfl) rfl (by kernel_rfl) fun K18 hK18=>?_
   simp only [go_sem,simprocAttr]
   try refine ⟨sd,?_⟩
   refine Dr.callF (av:=?av19) (g:=true) (o:=?o19) (fun hg=>ok_disk_fileFault (api_File.mk c_1.File.Path [] false) _ hr_20) si si si si sg si ?cont19
   simp only [go_sem,simprocAttr]
   refine kA hK18 ?_
   refine hW4 _ _ _ _ ?_ (hcut4 (r_20,c_1.File.Path,[],false,[],[],[],[],false,false) hm)
   exact fse1
  ·refine qS ?_
   refine cM hm (fun hc21 hm=>?_) (fun hc21 hm=>?_)
   ·obtain ⟨r_21,hr_21,hm⟩:=call_elim hm
    refine Wp.regD (plan:=pl [(0,none),(1,none),(2,none),(3,none),(4,none),(5,none),(6,some []),(7,none)]) (by kernel_rfl) rfl (by kernel_rfl) fun K22 hK22=>?_
    simp only [go_sem,simprocAttr]
    try refine ⟨sd,?_⟩
    refine Dr.callF (av:=?av23) (g:=true) (o:=?o23) (fun hg=>ok_disk_settingFault_i2 c_1.Setting _ hr_21) si si si si sg si ?cont23
    simp only [go_sem,simprocAttr]
    refine kA hK22 ?_
    refine hW4 _ _ _ _ ?_ (hcut4 (r_21,[],[],false,c_1.Setting.Key,c_1.Setting.Value,[],[],false,false) hm)
    exact fse1
   ·refine qS ?_
    refine cM hm (fun hc25 hm=>?_) (fun hc25 hm=>?_)
    ·obtain ⟨r_22,hr_22,hm⟩:=call_elim hm
     refine Wp.regD (plan:=pl [(0,none),(1,none),(2,none),(3,none),(4,none),(5,none),(6,none),(7,none),(8,none),(9,none),(10,some []),(11,none)]) (by kernel_rfl) rfl (by kernel_rfl) fun K26 hK26=>?_
     simp only [go_sem,simprocAttr]
     try refine ⟨sd,?_⟩
     refine Dr.callF (av:=?av27) (g:=true) (o:=?o27) (fun hg=>ok_disk_settingFault_i2 (api_Setting.mk c_1.Setting.Key []) _ hr_22) si si si si sg si ?cont27
     simp only [go_sem,simprocAttr]
     refine kA hK26 ?_
     refine hW4 _ _ _ _ ?_ (hcut4 (r_22,[],[],false,c_1.Setting.Key,[],[],[],false,false) hm)
     exact fse1
    ·refine qS ?_
     refine cM hm (fun hc29 hm=>?_) (fun hc29 hm=>?_)
     ·obtain ⟨r_23,hr_23,hm⟩:=call_elim hm
      refine Wp.regD (plan:=pl [(0,none),(1,none),(2,none),(3,none),(4,none),(5,none),(6,some []),(7,none)]) (by kernel_rfl) rfl (by kernel_rfl) fun K30 hK30=>?_
      simp only [go_sem,simprocAttr]
      try refine ⟨sd,?_⟩
      refine Dr.callF (av:=?av31) (g:=true) (o:=?o31) (fun hg=>ok_disk_serviceFault c_1.Service _ hr_23) si si si si sg si ?cont31
      simp only [go_sem,simprocAttr]
      refine kA hK30 ?_
      refine hW4 _ _ _ _ ?_ (hcut4 (r_23,[],[],false,[],[],c_1.Service.Name,c_1.Service.Path,c_1.Service.Auto,c_1.Service.On) hm)
      exact fse1
     ·refine qS ?_
      refine cM hm (fun hc33 hm=>?_) (fun hc33 hm=>?_)
      ·refine qS ?_
       obtain ⟨r_24,hr_24,hm⟩:=call_elim hm
       refine Wp.seqR fun K35 hK35=>?_
       simp only [go_sem,simprocAttr]
       try refine ⟨sd,?_⟩
       refine Rg.callX (av:=?av36) (g:=true) (fun hg=>ok_ver_IsName c_1.Service.Name _ hr_24) si si si sg si ?cont36
       intro hv36
       simp only [go_sem,simprocAttr]
       refine kA hK35 ?_
       refine cM hm (fun hc37 hm=>?_) (fun hc37 hm=>?_)
       ·refine qR ?_
        refine hW4 _ _ _ _ ?_ (hcut4 (5,[],[],false,[],[],c_1.Service.Name,[],false,false) hm)
        exact fse1
       ·refine Wp.skip ?_
        refine hW4 _ _ _ _ ?_ (hcut4 (0,[],[],false,[],[],c_1.Service.Name,[],false,false) hm)
        exact fse1
      ·refine qS ?_
       refine Wp.ret ?_
       refine retQ_ret ?_
       cases hm
       exact fse1
end Go.Proofs.YtbofknpajcdnmaaGreatDoor
