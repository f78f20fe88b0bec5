/- That the code does what the models say (part 2). -/
import Derived.Test.YtbofknpajcdnmaaGreatDoorDmWk0
import Derived.Test.YtbofknpajcdnmaaGreatDoorDmWk1
set_option linter.unusedSimpArgs false
set_option linter.unusedVariables false
open Go.Proofs Go.Shelf
namespace Go.Proofs.YtbofknpajcdnmaaGreatDoor
open Go.Vc Go.Md
set_option maxRecDepth 100000
set_option maxHeartbeats 4000000
theorem ok_R_Check (m_1:api_Machine) (z:Int) (hm:R_Check m_1=some z):Does Tryz.prog 11 [.agg [.p (.l (List.map enc_api_Setting m_1.Facts)),.p (.l (List.map enc_api_File m_1.Files)),.p (.l (List.map enc_api_Setting m_1.Settings)),.p (.l (List.map enc_api_Service m_1.Services))]] [] (fun r X=>r=.p (.i .i64 z)∧X=[]):=by
 unfold R_Check at hm
 refine dW 0 160 [.tmp 2] Tryz.func11 fun B=>?_
 refine qS ?_
 refine Wp.seqW fun K2 hK2 hW2=>?_
 refine qS ?_
 refine cM hm (fun hc4 hm=>?_) (fun hc4 hm=>?_)
 ·refine qS ?_
  refine Wp.ret ?_
  refine retQ_ret ?_
  cases hm
  exact fse1
 ·refine Wp.skip ?_
  refine hK2 _ _ ?_
  refine qS ?_
  refine qS ?_
  refine Wp.seqW fun K8 hK8 hW8=>?_
  obtain ⟨k_36,hk_36,hm⟩:=jp_elim hm
  have hcut8:∀ s,k_36 s=some z→K8 [(1,.ptr 0 0),(4,.fn 58 [.ptr 1 0])] [.cells 26 [.p (.l (List.map enc_api_Setting m_1.Facts)),.p (.l (List.map enc_api_File m_1.Files)),.p (.l (List.map enc_api_Setting m_1.Settings)),.p (.l (List.map enc_api_Service m_1.Services))],.cells 9 [.p (.s s)]]:=by
   intro o1_0_35 hs
   have hm:=hk_36 _ hs
   clear hs
   try dsimp only at hm
   try dsimp only
   refine hK8 _ _ ?_
   refine qS ?_
   refine Wp.seqW fun K10 hK10 hW10=>?_
   obtain ⟨k_247,hk_247,hm⟩:=jp_elim hm
   have hcut10:∀ s,k_247 s=some z→K10 [(1,.ptr 0 0),(4,.fn 58 [.ptr 1 0])] [.cells 26 [.p (.l (List.map enc_api_Setting m_1.Facts)),.p (.l (List.map enc_api_File m_1.Files)),.p (.l (List.map enc_api_Setting m_1.Settings)),.p (.l (List.map enc_api_Service m_1.Services))],.cells 9 [.p (.s s)]]:=by
    intro o1_0_246 hs
    have hm:=hk_247 _ hs
    clear hs
    try dsimp only at hm
    try dsimp only
    refine hK10 _ _ ?_
    refine Wp.seqW fun K11 hK11 hW11=>?_
    obtain ⟨k_270,hk_270,hm⟩:=jp_elim hm
    have hcut11:∀ s,k_270 s=some z→K11 [(1,.ptr 0 0),(4,.fn 58 [.ptr 1 0])] [.cells 26 [.p (.l (List.map enc_api_Setting m_1.Facts)),.p (.l (List.map enc_api_File m_1.Files)),.p (.l (List.map enc_api_Setting m_1.Settings)),.p (.l (List.map enc_api_Service m_1.Services))],.cells 9 [.p (.s s)]]:=by
     intro o1_0_269 hs
     have hm:=hk_270 _ hs
     clear hs
     try dsimp only at hm
     try dsimp only
     refine hK11 _ _ ?_
     refine Wp.seqW fun K12 hK12 hW12=>?_
     obtain ⟨k_292,hk_292,hm⟩:=jp_elim hm
     have hcut12:∀ s,k_292 s=some z→K12 [] []:=by
      intro s hs
      have hm:=hk_292 _ hs
      clear hs
      try dsimp only at hm
      try dsimp only
      refine hK12 _ _ ?_
      refine qS ?_
      refine Wp.ret ?_
      refine retQ_ret ?_
      cases hm
      exact fse1
     clear hK12 hk_292
     refine qS ?_
     refine Wp.block ?_
     obtain ⟨k_304,hk_304,hm⟩:=forL_cont hm
     refine Wp.fact 140 fun hl_307=>?_
     replace hl_307:m_1.Services.length≤274877906944:=by
      simp only [go_sem,simprocAttr,List.length_map] at hl_307
      omega
     refine Wp.forL (fun i_306 s=>[(4,.fn 58 [.ptr 1 0]),(140,.p (.l (List.map enc_api_Service m_1.Services))),(141,.p (.i .i64 (m_1.Services.length:Int))),(142,.p (.i .i64 (i_306:Int)))]) (fun i_306 s=>[.cells 26 [.p (.l (List.map enc_api_Setting m_1.Facts)),.p (.l (List.map enc_api_File m_1.Files)),.p (.l (List.map enc_api_Setting m_1.Settings)),.p (.l (List.map enc_api_Service m_1.Services))],.cells 9 [.p (.s s)]]) ?_ hm ?_
     ·
      exact fse1
     clear hm
     intro i_306 o1_0_299 hii_306 hm
     try dsimp only at hm
     try dsimp only
     refine qS ?_
     refine Wp.seqW fun K16 hK16 hW16=>?_
     refine Wp.cond rfl ⟨⟩ (fun hc16=>?_) (fun hc16=>?_)
     rotate_left
     ·refine Wp.exit ?_
      have hm:=hk_304 _ (forL_end hm (ge_nat (by first | exact hc16 | simpa using hc16)))
      try dsimp only at hm
      refine hW12 _ _ _ _ ?_ (hcut12 () hm)
      exact fse1
     have hlt16:=lt_nat (by first | exact hc16 | simpa using hc16)
     have hw16:=wrap_succ hlt16 hl_307
     obtain ⟨s_308,nx_305,hxs_308,hys_308,hnx_305,hm⟩:=forL_step hm hlt16
     replace hxs_308:=hxs_308 enc_api_Service
     refine Wp.skip ?_
     simp only [thenQ]
     refine hK16 _ _ ?_
     refine Wp.seqW fun K17 hK17 hW17=>?_
     refine Wp.block ?_
     refine Wp.seqR fun K18 hK18=>?_
     simp only [go_sem,simprocAttr,hw16,hxs_308]
     refine kA hK18 ?_
     obtain ⟨r_309,hr_309,hm⟩:=call_elim hm
     obtain ⟨r_310,hr_310,hm⟩:=call_elim hm
     obtain ⟨r_311,hr_311,hm⟩:=call_elim hm
     refine Wp.seqD (plan:=pl [(0,none),(1,none),(2,none),(3,none),(4,none),(5,none),(6,some []),(7,some []),(8,none),(9,none)]) (by kernel_rfl) rfl (by kernel_rfl) fun K19 hK19=>?_
     simp only [go_sem,simprocAttr,hw16,hxs_308]
     try refine ⟨sd,?_⟩
     refine Dr.callF (av:=?av20) (g:=true) (o:=?o20) (fun hg=>ok_R_serviceError s_308 _ hr_309) (by simp only [go_sem,simprocAttr,hw16,hxs_308]; exact Is.mk) (by simp only [go_sem,simprocAttr,hw16,hxs_308]; exact Is.mk) (by simp only [go_sem,simprocAttr,hw16,hxs_308]; exact Is.mk) (by simp only [go_sem,simprocAttr,hw16,hxs_308]; exact Is.mk) (by simp only [go_sem,simprocAttr,hw16,hxs_308]) (by simp only [go_sem,simprocAttr,hw16,hxs_308]; exact Is.mk) ?cont20
     simp only [go_sem,simprocAttr,hw16,hxs_308]
     try refine ⟨sd,?_⟩
     refine Dr.of_br (Br.callE (av:=?av21) (o:=?o21) [1] (ok_R_Check_1_i1 (i_306:Int) s_308.Name o1_0_299 _ hr_310) (by simp only [go_sem,simprocAttr,hw16,hxs_308]; exact Is.mk) (by simp only [go_sem,simprocAttr,hw16,hxs_308]; exact Is.mk) (by simp only [go_sem,simprocAttr,hw16,hxs_308]; exact Is.mk) (by simp only [go_sem,simprocAttr,hw16,hxs_308]; exact Is.mk) (by simp only [go_sem,simprocAttr,hw16,hxs_308]; exact Is.mk) (by simp only [go_sem,simprocAttr,hw16,hxs_308]) (by simp only [go_sem,simprocAttr,hw16,hxs_308]) (by simp only [go_sem,simprocAttr,hw16,hxs_308]) (by simp only [go_sem,simprocAttr,hw16,hxs_308]) ?cont21)
     simp only [go_sem,simprocAttr,hw16,hxs_308]
     try refine ⟨sd,?_⟩
     refine Dr.callF (av:=?av22) (g:=true) (o:=?o22) (fun hg=>ok_R_first [r_309,r_310.1] _ hr_311) (by simp only [go_sem,simprocAttr,hw16,hxs_308]; exact Is.mk) (by simp only [go_sem,simprocAttr,hw16,hxs_308]; exact Is.mk) (by simp only [go_sem,simprocAttr,hw16,hxs_308]; exact Is.mk) (by simp only [go_sem,simprocAttr,hw16,hxs_308]; exact Is.mk) (by simp only [go_sem,simprocAttr,hw16,hxs_308]) (by simp only [go_sem,simprocAttr,hw16,hxs_308]; exact Is.mk) ?cont22
     simp only [go_sem,simprocAttr,hw16,hxs_308]
     refine kA hK19 ?_
     refine Wp.seqR fun K23 hK23=>?_
     simp only [go_sem,simprocAttr,hw16,hxs_308]
     refine kA hK23 ?_
     refine cM hm (fun hc24 hm=>?_) (fun hc24 hm=>?_)
     ·refine Wp.seqR fun K25 hK25=>?_
      simp only [go_sem,simprocAttr,hw16,hxs_308]
      refine kA hK25 ?_
      refine Wp.ret ?_
      refine retQ_ret ?_
      cases hm
      simp only [go_sem,simprocAttr,hw16,hxs_308]
      try exact se1
     ·refine Wp.skip ?_
      refine hK17 _ _ ?_
      refine Wp.region fun K26 hK26=>?_
      simp only [go_sem,simprocAttr,hw16,hxs_308]
      refine kA hK26 ?_
      simp only [thenQ,blockQ,↓reduceIte]
      refine ⟨r_310.2,hlt16,hnx_305 _ hm,?_⟩
      simp only [go_sem,simprocAttr,hw16,hxs_308]
      try exact se1
    clear hK11 hk_270
    refine qS ?_
    refine Wp.block ?_
    obtain ⟨k_323,hk_323,hm⟩:=forL_cont hm
    refine Wp.fact 119 fun hl_326=>?_
    replace hl_326:m_1.Settings.length≤274877906944:=by
     simp only [go_sem,simprocAttr,List.length_map] at hl_326
     omega
    refine Wp.forL (fun i_325 s=>[(1,.ptr 0 0),(4,.fn 58 [.ptr 1 0]),(119,.p (.l (List.map enc_api_Setting m_1.Settings))),(120,.p (.i .i64 (m_1.Settings.length:Int))),(121,.p (.i .i64 (i_325:Int)))]) (fun i_325 s=>[.cells 26 [.p (.l (List.map enc_api_Setting m_1.Facts)),.p (.l (List.map enc_api_File m_1.Files)),.p (.l (List.map enc_api_Setting m_1.Settings)),.p (.l (List.map enc_api_Service m_1.Services))],.cells 9 [.p (.s s)]]) ?_ hm ?_
    ·
     exact fse1
    clear hm
    intro i_325 o1_0_318 hii_325 hm
    try dsimp only at hm
    try dsimp only
    refine qS ?_
    refine Wp.seqW fun K29 hK29 hW29=>?_
    refine Wp.cond rfl ⟨⟩ (fun hc29=>?_) (fun hc29=>?_)
    rotate_left
    ·refine Wp.exit ?_
     have hm:=hk_323 _ (forL_end hm (ge_nat (by first | exact hc29 | simpa using hc29)))
     try dsimp only at hm
     refine hW11 _ _ _ _ ?_ (hcut11 o1_0_318 hm)
     exact fse1
    have hlt29:=lt_nat (by first | exact hc29 | simpa using hc29)
    have hw29:=wrap_succ hlt29 hl_326
    obtain ⟨s_327,nx_324,hxs_327,hys_327,hnx_324,hm⟩:=forL_step hm hlt29
    replace hxs_327:=hxs_327 enc_api_Setting
    refine Wp.skip ?_
    simp only [thenQ]
    refine hK29 _ _ ?_
    refine Wp.seqW fun K30 hK30 hW30=>?_
    refine Wp.block ?_
    refine Wp.seqR fun K31 hK31=>?_
    simp only [go_sem,simprocAttr,hw29,hxs_327]
    refine kA hK31 ?_
    obtain ⟨r_328,hr_328,hm⟩:=call_elim hm
    obtain ⟨r_329,hr_329,hm⟩:=call_elim hm
    obtain ⟨r_330,hr_330,hm⟩:=call_elim hm
    refine Wp.seqD (plan:=pl [(0,none),(1,none),(2,none),(3,none),(4,none),(5,none),(6,some []),(7,some []),(8,none),(9,none)]) (by kernel_rfl) rfl (by kernel_rfl) fun K32 hK32=>?_
    simp only [go_sem,simprocAttr,hw29,hxs_327]
    try refine ⟨sd,?_⟩
    refine Dr.callF (av:=?av33) (g:=true) (o:=?o33) (fun hg=>ok_R_settingError s_327 _ hr_328) (by simp only [go_sem,simprocAttr,hw29,hxs_327]; exact Is.mk) (by simp only [go_sem,simprocAttr,hw29,hxs_327]; exact Is.mk) (by simp only [go_sem,simprocAttr,hw29,hxs_327]; exact Is.mk) (by simp only [go_sem,simprocAttr,hw29,hxs_327]; exact Is.mk) (by simp only [go_sem,simprocAttr,hw29,hxs_327]) (by simp only [go_sem,simprocAttr,hw29,hxs_327]; exact Is.mk) ?cont33
    simp only [go_sem,simprocAttr,hw29,hxs_327]
    try refine ⟨sd,?_⟩
    refine Dr.of_br (Br.callE (av:=?av34) (o:=?o34) [1] (ok_R_Check_1_i1 (i_325:Int) s_327.Key o1_0_318 _ hr_329) (by simp only [go_sem,simprocAttr,hw29,hxs_327]; exact Is.mk) (by simp only [go_sem,simprocAttr,hw29,hxs_327]; exact Is.mk) (by simp only [go_sem,simprocAttr,hw29,hxs_327]; exact Is.mk) (by simp only [go_sem,simprocAttr,hw29,hxs_327]; exact Is.mk) (by simp only [go_sem,simprocAttr,hw29,hxs_327]; exact Is.mk) (by simp only [go_sem,simprocAttr,hw29,hxs_327]) (by simp only [go_sem,simprocAttr,hw29,hxs_327]) (by simp only [go_sem,simprocAttr,hw29,hxs_327]) (by simp only [go_sem,simprocAttr,hw29,hxs_327]) ?cont34)
    simp only [go_sem,simprocAttr,hw29,hxs_327]
    try refine ⟨sd,?_⟩
    refine Dr.callF (av:=?av35) (g:=true) (o:=?o35) (fun hg=>ok_R_first [r_328,r_329.1] _ hr_330) (by simp only [go_sem,simprocAttr,hw29,hxs_327]; exact Is.mk) (by simp only [go_sem,simprocAttr,hw29,hxs_327]; exact Is.mk) (by simp only [go_sem,simprocAttr,hw29,hxs_327]; exact Is.mk) (by simp only [go_sem,simprocAttr,hw29,hxs_327]; exact Is.mk) (by simp only [go_sem,simprocAttr,hw29,hxs_327]) (by simp only [go_sem,simprocAttr,hw29,hxs_327]; exact Is.mk) ?cont35
    simp only [go_sem,simprocAttr,hw29,hxs_327]
    refine kA hK32 ?_
    refine Wp.seqR fun K36 hK36=>?_
    simp only [go_sem,simprocAttr,hw29,hxs_327]
    refine kA hK36 ?_
    refine cM hm (fun hc37 hm=>?_) (fun hc37 hm=>?_)
    ·refine Wp.seqR fun K38 hK38=>?_
     simp only [go_sem,simprocAttr,hw29,hxs_327]
     refine kA hK38 ?_
     refine Wp.ret ?_
     refine retQ_ret ?_
     cases hm
     simp only [go_sem,simprocAttr,hw29,hxs_327]
     try exact se1
    ·refine Wp.skip ?_
     refine hK30 _ _ ?_
     refine Wp.region fun K39 hK39=>?_
     simp only [go_sem,simprocAttr,hw29,hxs_327]
     refine kA hK39 ?_
     simp only [thenQ,blockQ,↓reduceIte]
     refine ⟨r_329.2,hlt29,hnx_324 _ hm,?_⟩
     simp only [go_sem,simprocAttr,hw29,hxs_327]
     try exact se1
   clear hK10 hk_247
   refine qS ?_
   refine Wp.block ?_
   obtain ⟨k_469,hk_469,hm⟩:=forL_cont hm
   refine Wp.fact 73 fun hl_472=>?_
   replace hl_472:m_1.Files.length≤274877906944:=by
    simp only [go_sem,simprocAttr,List.length_map] at hl_472
    omega
   refine Wp.forL (fun i_471 s=>[(1,.ptr 0 0),(4,.fn 58 [.ptr 1 0]),(8,.mp 2),(73,.p (.l (List.map enc_api_File m_1.Files))),(74,.p (.i .i64 (m_1.Files.length:Int))),(75,.p (.i .i64 (i_471:Int)))]) (fun i_471 s=>[.cells 26 [.p (.l (List.map enc_api_Setting m_1.Facts)),.p (.l (List.map enc_api_File m_1.Files)),.p (.l (List.map enc_api_Setting m_1.Settings)),.p (.l (List.map enc_api_Service m_1.Services))],.cells 9 [.p (.s s.1)],.mp false (encM Dt.s ecB s.2)]) ?_ hm ?_
   ·
    exact fse1
   clear hm
   intro i_471 s hii_471 hm
   obtain ⟨o1_0_400,m2_401⟩:=s
   try dsimp only at hm
   try dsimp only
   refine qS ?_
   refine Wp.seqW fun K42 hK42 hW42=>?_
   refine Wp.cond rfl ⟨⟩ (fun hc42=>?_) (fun hc42=>?_)
   rotate_left
   ·refine Wp.exit ?_
    have hm:=hk_469 _ (forL_end hm (ge_nat (by first | exact hc42 | simpa using hc42)))
    try dsimp only at hm
    refine hW10 _ _ _ _ ?_ (hcut10 o1_0_400 hm)
    exact fse1
   have hlt42:=lt_nat (by first | exact hc42 | simpa using hc42)
   have hw42:=wrap_succ hlt42 hl_472
   obtain ⟨f_473,nx_470,hxf_473,hyf_473,hnx_470,hm⟩:=forL_step hm hlt42
   replace hxf_473:=hxf_473 enc_api_File
   refine Wp.skip ?_
   simp only [thenQ]
   refine hK42 _ _ ?_
   refine Wp.seqW fun K43 hK43 hW43=>?_
   obtain ⟨k_506,hk_506,hm⟩:=jp_elim hm
   have hcut43:∀ s,k_506 s=some z→K43 [(1,.ptr 0 0),(4,.fn 58 [.ptr 1 0]),(8,.mp 2),(73,.p (.l (List.map enc_api_File m_1.Files))),(74,.p (.i .i64 (m_1.Files.length:Int))),(75,.p (.i .i64 (i_471:Int)))] [.cells 26 [.p (.l (List.map enc_api_Setting m_1.Facts)),.p (.l (List.map enc_api_File m_1.Files)),.p (.l (List.map enc_api_Setting m_1.Settings)),.p (.l (List.map enc_api_Service m_1.Services))],.cells 9 [.p (.s s)],.mp false (encM Dt.s ecB (aset m2_401 f_473.Path true))]:=by
    intro o1_0_505 hs
    have hm:=hk_506 _ hs
    clear hs
    try dsimp only at hm
    try dsimp only
    refine hK43 _ _ ?_
    refine Wp.region fun K44 hK44=>?_
    simp only [go_sem,simprocAttr,hw42,hxf_473]
    refine kA hK44 ?_
    simp only [thenQ,blockQ,↓reduceIte]
    refine ⟨(o1_0_505,aset m2_401 f_473.Path true),hlt42,hnx_470 _ hm,?_⟩
    simp only [go_sem,simprocAttr,hw42,hxf_473]
    try exact se1
   clear hK43 hk_506
   refine Wp.block ?_
   refine Wp.seqR fun K45 hK45=>?_
   simp only [go_sem,simprocAttr,hw42,hxf_473]
   refine kA hK45 ?_
   obtain ⟨r_507,hr_507,hm⟩:=call_elim hm
   obtain ⟨r_508,hr_508,hm⟩:=call_elim hm
   obtain ⟨r_509,hr_509,hm⟩:=call_elim hm
   refine Wp.seqD (plan:=pl [(0,none),(1,none),(2,none),(3,none),(4,none),(5,none),(6,some []),(7,some []),(8,none),(9,none)]) (by kernel_rfl) rfl (by kernel_rfl) fun K46 hK46=>?_
   simp only [go_sem,simprocAttr,hw42,hxf_473]
   try refine ⟨sd,?_⟩
   refine Dr.callF (av:=?av47) (g:=true) (o:=?o47) (fun hg=>ok_R_fileError f_473 _ hr_507) (by simp only [go_sem,simprocAttr,hw42,hxf_473]; exact Is.mk) (by simp only [go_sem,simprocAttr,hw42,hxf_473]; exact Is.mk) (by simp only [go_sem,simprocAttr,hw42,hxf_473]; exact Is.mk) (by simp only [go_sem,simprocAttr,hw42,hxf_473]; exact Is.mk) (by simp only [go_sem,simprocAttr,hw42,hxf_473]) (by simp only [go_sem,simprocAttr,hw42,hxf_473]; exact Is.mk) ?cont47
   simp only [go_sem,simprocAttr,hw42,hxf_473]
   try refine ⟨sd,?_⟩
   refine Dr.of_br (Br.callE (av:=?av48) (o:=?o48) [1] (ok_R_Check_1_i1 (i_471:Int) f_473.Path o1_0_400 _ hr_508) (by simp only [go_sem,simprocAttr,hw42,hxf_473]; exact Is.mk) (by simp only [go_sem,simprocAttr,hw42,hxf_473]; exact Is.mk) (by simp only [go_sem,simprocAttr,hw42,hxf_473]; exact Is.mk) (by simp only [go_sem,simprocAttr,hw42,hxf_473]; exact Is.mk) (by simp only [go_sem,simprocAttr,hw42,hxf_473]; exact Is.mk) (by simp only [go_sem,simprocAttr,hw42,hxf_473]) (by simp only [go_sem,simprocAttr,hw42,hxf_473]) (by simp only [go_sem,simprocAttr,hw42,hxf_473]) (by simp only [go_sem,simprocAttr,hw42,hxf_473]) ?cont48)
   simp only [go_sem,simprocAttr,hw42,hxf_473]
   try refine ⟨sd,?_⟩
   refine Dr.callF (av:=?av49) (g:=true) (o:=?o49) (fun hg=>ok_R_first [r_507,r_508.1] _ hr_509) (by simp only [go_sem,simprocAttr,hw42,hxf_473]; exact Is.mk) (by simp only [go_sem,simprocAttr,hw42,hxf_473]; exact Is.mk) (by simp only [go_sem,simprocAttr,hw42,hxf_473]; exact Is.mk) (by simp only [go_sem,simprocAttr,hw42,hxf_473]; exact Is.mk) (by simp only [go_sem,simprocAttr,hw42,hxf_473]) (by simp only [go_sem,simprocAttr,hw42,hxf_473]; exact Is.mk) ?cont49
   simp only [go_sem,simprocAttr,hw42,hxf_473]
   refine kA hK46 ?_
   refine Wp.seqW fun K50 hK50 hW50=>?_
   obtain ⟨k_523,hk_523,hm⟩:=jp_elim hm
   have hcut50:∀ s,k_523 s=some z→K50 [(1,.ptr 0 0),(4,.fn 58 [.ptr 1 0]),(8,.mp 2),(10,.ptr 3 0),(11,.p (.i .i64 s)),(73,.p (.l (List.map enc_api_File m_1.Files))),(74,.p (.i .i64 (m_1.Files.length:Int))),(75,.p (.i .i64 (i_471:Int)))] [.cells 26 [.p (.l (List.map enc_api_Setting m_1.Facts)),.p (.l (List.map enc_api_File m_1.Files)),.p (.l (List.map enc_api_Setting m_1.Settings)),.p (.l (List.map enc_api_Service m_1.Services))],.cells 9 [.p (.s r_508.2)],.mp false (encM Dt.s ecB m2_401),.cells 38 [.p (.s f_473.Path),.p (.s f_473.Data),.p (.b f_473.Runs)]]:=by
    intro e_522 hs
    have hm:=hk_523 _ hs
    clear hs
    try dsimp only at hm
    try dsimp only
    refine hK50 _ _ ?_
    refine Wp.seqW fun K51 hK51 hW51=>?_
    refine Wp.seqR fun K52 hK52=>?_
    simp only [go_sem,simprocAttr,hw42,hxf_473]
    refine kA hK52 ?_
    refine cM hm (fun hc53 hm=>?_) (fun hc53 hm=>?_)
    ·refine Wp.seqR fun K54 hK54=>?_
     simp only [go_sem,simprocAttr,hw42,hxf_473]
     refine kA hK54 ?_
     refine Wp.ret ?_
     refine retQ_ret ?_
     cases hm
     simp only [go_sem,simprocAttr,hw42,hxf_473]
     try exact se1
    ·refine Wp.skip ?_
     refine hK51 _ _ ?_
     obtain ⟨c_525,hm⟩:=chk_elim hm
     have hp_524:=mset_enc (e:=ecB) keq_s m2_401 f_473.Path true
     simp only [ecB] at hp_524
     refine Wp.region fun K55 hK55=>?_
     simp only [go_sem,simprocAttr,hw42,hxf_473,hp_524]
     refine kA hK55 ?_
     refine hW43 _ _ _ _ ?_ (hcut43 r_508.2 hm)
     simp only [go_sem,simprocAttr,hw42,hxf_473]
     try exact se1
   clear hK50 hk_523
   refine Wp.seqR fun K56 hK56=>?_
   simp only [go_sem,simprocAttr,hw42,hxf_473]
   refine kA hK56 ?_
   refine cM hm (fun hc57 hm=>?_) (fun hc57 hm=>?_)
   ·refine Wp.seqR fun K58 hK58=>?_
    simp only [go_sem,simprocAttr,hw42,hxf_473]
    refine kA hK58 ?_
    refine Wp.block ?_
    obtain ⟨k_532,hk_532,hm⟩:=loopN_cont hm
    refine Wp.loopN (fun s=>[(1,.ptr 0 0),(4,.fn 58 [.ptr 1 0]),(8,.mp 2),(10,.ptr 3 0),(11,.p (.i .i64 s.1)),(73,.p (.l (List.map enc_api_File m_1.Files))),(74,.p (.i .i64 (m_1.Files.length:Int))),(75,.p (.i .i64 (i_471:Int))),(93,.p (.i .i64 (f_473.Path.length:Int))),(94,.p (.i .i64 s.2))]) (fun s=>[.cells 26 [.p (.l (List.map enc_api_Setting m_1.Facts)),.p (.l (List.map enc_api_File m_1.Files)),.p (.l (List.map enc_api_Setting m_1.Settings)),.p (.l (List.map enc_api_Service m_1.Services))],.cells 9 [.p (.s r_508.2)],.mp false (encM Dt.s ecB m2_401),.cells 38 [.p (.s f_473.Path),.p (.s f_473.Data),.p (.b f_473.Runs)]]) ?_ hm ?_
    ·
     simp only [go_sem,simprocAttr,hw42,hxf_473]
     try exact se1
    clear hm
    intro s nx_533 hm
    obtain ⟨e_526,t94_527⟩:=s
    try dsimp only at hm
    try dsimp only
    refine Wp.seqR fun K59 hK59=>?_
    simp only [go_sem,simprocAttr,hw42,hxf_473]
    refine kA hK59 ?_
    refine Wp.seqW fun K60 hK60 hW60=>?_
    refine cM hm (fun hc61 hm=>?_) (fun hc61 hm=>?_)
    ·refine Wp.skip ?_
     refine hK60 _ _ ?_
     refine Wp.seqW fun K62 hK62 hW62=>?_
     refine Wp.block ?_
     refine Wp.seqR fun K63 hK63=>?_
     simp only [go_sem,simprocAttr,hw42,hxf_473]
     refine kA hK63 ?_
     obtain ⟨c_534,hbc_534,hxc_534,hm⟩:=idxS_elim hm
     replace hxc_534:((f_473.Path.getD t94_527.toNat 0).toNat:Int)=c_534:=hxc_534
     obtain ⟨c_535,hm⟩:=chk_elim hm
     obtain ⟨q_536,hq_537,hm⟩:=letv_elim hm
     have hq_537d:=mlookD_enc (e:=ecB) keq_s m2_401 (List.take t94_527.toNat f_473.Path) false
     have hq_537s:=mlook_some (e:=ecB) keq_s m2_401 (List.take t94_527.toNat f_473.Path)
     simp only [hq_537,ecB,List.map_nil] at hq_537d hq_537s
     refine Wp.seqR fun K64 hK64=>?_
     simp only [go_sem,simprocAttr,hw42,hxf_473,hxc_534,hq_537d,hq_537s]
     refine kA hK64 ?_
     refine cM hm (fun hc65 hm=>?_) (fun hc65 hm=>?_)
     ·refine Wp.region fun K66 hK66=>?_
      simp only [go_sem,simprocAttr,hw42,hxf_473,hxc_534]
      refine kA hK66 ?_
      refine hK62 _ _ ?_
      refine Wp.region fun K67 hK67=>?_
      simp only [go_sem,simprocAttr,hw42,hxf_473,hxc_534]
      refine kA hK67 ?_
      simp only [thenQ,blockQ,↓reduceIte]
      refine ⟨(11,IntKind.i64.wrap (t94_527+1)),hm,?_⟩
      simp only [go_sem,simprocAttr,hw42,hxf_473,hxc_534]
      try exact se1
     ·refine Wp.skip ?_
      refine hK62 _ _ ?_
      refine Wp.region fun K68 hK68=>?_
      simp only [go_sem,simprocAttr,hw42,hxf_473,hxc_534]
      refine kA hK68 ?_
      simp only [thenQ,blockQ,↓reduceIte]
      refine ⟨(e_526,IntKind.i64.wrap (t94_527+1)),hm,?_⟩
      simp only [go_sem,simprocAttr,hw42,hxf_473,hxc_534]
      try exact se1
    ·refine Wp.exit ?_
     simp only [thenQ,blockQ,↓reduceIte]
     have hm:=hk_532 _ hm
     try dsimp only at hm
     refine hW50 _ _ _ _ ?_ (hcut50 e_526 hm)
     simp only [go_sem,simprocAttr,hw42,hxf_473]
     try exact se1
   ·refine Wp.skip ?_
    refine hW50 _ _ _ _ ?_ (hcut50 r_509 hm)
    simp only [go_sem,simprocAttr,hw42,hxf_473]
    try exact se1
  clear hK8 hk_36
  refine qS ?_
  refine Wp.block ?_
  obtain ⟨k_555,hk_555,hm⟩:=forL_cont hm
  refine Wp.fact 43 fun hl_558=>?_
  replace hl_558:m_1.Facts.length≤274877906944:=by
   simp only [go_sem,simprocAttr,List.length_map] at hl_558
   omega
  refine Wp.forL (fun i_557 s=>[(1,.ptr 0 0),(4,.fn 58 [.ptr 1 0]),(43,.p (.l (List.map enc_api_Setting m_1.Facts))),(44,.p (.i .i64 (m_1.Facts.length:Int))),(45,.p (.i .i64 (i_557:Int)))]) (fun i_557 s=>[.cells 26 [.p (.l (List.map enc_api_Setting m_1.Facts)),.p (.l (List.map enc_api_File m_1.Files)),.p (.l (List.map enc_api_Setting m_1.Settings)),.p (.l (List.map enc_api_Service m_1.Services))],.cells 9 [.p (.s s)]]) ?_ hm ?_
  ·
   exact fse1
  clear hm
  intro i_557 o1_0_547 hii_557 hm
  try dsimp only at hm
  try dsimp only
  refine qS ?_
  refine Wp.seqW fun K71 hK71 hW71=>?_
  refine Wp.cond rfl ⟨⟩ (fun hc71=>?_) (fun hc71=>?_)
  rotate_left
  ·refine Wp.exit ?_
   have hm:=hk_555 _ (forL_end hm (ge_nat (by first | exact hc71 | simpa using hc71)))
   try dsimp only at hm
   refine hW8 _ _ _ _ ?_ (hcut8 o1_0_547 hm)
   exact fse1
  have hlt71:=lt_nat (by first | exact hc71 | simpa using hc71)
  have hw71:=wrap_succ hlt71 hl_558
  obtain ⟨s_559,nx_556,hxs_559,hys_559,hnx_556,hm⟩:=forL_step hm hlt71
  replace hxs_559:=hxs_559 enc_api_Setting
  refine Wp.skip ?_
  simp only [thenQ]
  refine hK71 _ _ ?_
  refine Wp.seqW fun K72 hK72 hW72=>?_
  refine Wp.block ?_
  refine Wp.seqR fun K73 hK73=>?_
  simp only [go_sem,simprocAttr,hw71,hxs_559]
  refine kA hK73 ?_
  obtain ⟨r_560,hr_560,hm⟩:=call_elim hm
  obtain ⟨r_561,hr_561,hm⟩:=call_elim hm
  obtain ⟨r_562,hr_562,hm⟩:=call_elim hm
  obtain ⟨r_563,hr_563,hm⟩:=call_elim hm
  obtain ⟨r_564,hr_564,hm⟩:=call_elim hm
  obtain ⟨r_565,hr_565,hm⟩:=call_elim hm
  refine Wp.seqD (plan:=pl [(0,none),(1,none),(2,none),(3,none),(4,none),(5,none),(6,none),(7,none),(8,none),(9,none),(10,none),(11,none),(12,none),(13,none),(14,some []),(15,some []),(16,none),(17,none)]) (by kernel_rfl) rfl (by kernel_rfl) fun K74 hK74=>?_
  simp only [go_sem,simprocAttr,hw71,hxs_559]
  try refine ⟨sd,?_⟩
  refine Dr.callF (av:=?av75) (g:=true) (o:=?o75) (fun hg=>ok_R_IsName s_559.Key _ hr_560) (by simp only [go_sem,simprocAttr,hw71,hxs_559]; exact Is.mk) (by simp only [go_sem,simprocAttr,hw71,hxs_559]; exact Is.mk) (by simp only [go_sem,simprocAttr,hw71,hxs_559]; exact Is.mk) (by simp only [go_sem,simprocAttr,hw71,hxs_559]; exact Is.mk) (by simp only [go_sem,simprocAttr,hw71,hxs_559]) (by simp only [go_sem,simprocAttr,hw71,hxs_559]; exact Is.mk) ?cont75
  simp only [go_sem,simprocAttr,hw71,hxs_559]
  try refine ⟨sd,?_⟩
  refine Dr.callF (av:=?av76) (g:=true) (o:=?o76) (fun hg=>ok_R_when (!r_560) 5 _ hr_561) (by simp only [go_sem,simprocAttr,hw71,hxs_559]; exact Is.mk) (by simp only [go_sem,simprocAttr,hw71,hxs_559]; exact Is.mk) (by simp only [go_sem,simprocAttr,hw71,hxs_559]; exact Is.mk) (by simp only [go_sem,simprocAttr,hw71,hxs_559]; exact Is.mk) (by simp only [go_sem,simprocAttr,hw71,hxs_559]) (by simp only [go_sem,simprocAttr,hw71,hxs_559]; exact Is.mk) ?cont76
  simp only [go_sem,simprocAttr,hw71,hxs_559]
  try refine ⟨sd,?_⟩
  refine Dr.callF (av:=?av77) (g:=true) (o:=?o77) (fun hg=>ok_R_IsValue s_559.Value _ hr_562) (by simp only [go_sem,simprocAttr,hw71,hxs_559]; exact Is.mk) (by simp only [go_sem,simprocAttr,hw71,hxs_559]; exact Is.mk) (by simp only [go_sem,simprocAttr,hw71,hxs_559]; exact Is.mk) (by simp only [go_sem,simprocAttr,hw71,hxs_559]; exact Is.mk) (by simp only [go_sem,simprocAttr,hw71,hxs_559]) (by simp only [go_sem,simprocAttr,hw71,hxs_559]; exact Is.mk) ?cont77
  simp only [go_sem,simprocAttr,hw71,hxs_559]
  try refine ⟨sd,?_⟩
  refine Dr.callF (av:=?av78) (g:=true) (o:=?o78) (fun hg=>ok_R_when (!r_562) 2 _ hr_563) (by simp only [go_sem,simprocAttr,hw71,hxs_559]; exact Is.mk) (by simp only [go_sem,simprocAttr,hw71,hxs_559]; exact Is.mk) (by simp only [go_sem,simprocAttr,hw71,hxs_559]; exact Is.mk) (by simp only [go_sem,simprocAttr,hw71,hxs_559]; exact Is.mk) (by simp only [go_sem,simprocAttr,hw71,hxs_559]) (by simp only [go_sem,simprocAttr,hw71,hxs_559]; exact Is.mk) ?cont78
  simp only [go_sem,simprocAttr,hw71,hxs_559]
  try refine ⟨sd,?_⟩
  refine Dr.of_br (Br.callE (av:=?av79) (o:=?o79) [1] (ok_R_Check_1_i1 (i_557:Int) s_559.Key o1_0_547 _ hr_564) (by simp only [go_sem,simprocAttr,hw71,hxs_559]; exact Is.mk) (by simp only [go_sem,simprocAttr,hw71,hxs_559]; exact Is.mk) (by simp only [go_sem,simprocAttr,hw71,hxs_559]; exact Is.mk) (by simp only [go_sem,simprocAttr,hw71,hxs_559]; exact Is.mk) (by simp only [go_sem,simprocAttr,hw71,hxs_559]; exact Is.mk) (by simp only [go_sem,simprocAttr,hw71,hxs_559]) (by simp only [go_sem,simprocAttr,hw71,hxs_559]) (by simp only [go_sem,simprocAttr,hw71,hxs_559]) (by simp only [go_sem,simprocAttr,hw71,hxs_559]) ?cont79)
  simp only [go_sem,simprocAttr,hw71,hxs_559]
  try refine ⟨sd,?_⟩
  refine Dr.callF (av:=?av80) (g:=true) (o:=?o80) (fun hg=>ok_R_first [r_561,r_563,r_564.1] _ hr_565) (by simp only [go_sem,simprocAttr,hw71,hxs_559]; exact Is.mk) (by simp only [go_sem,simprocAttr,hw71,hxs_559]; exact Is.mk) (by simp only [go_sem,simprocAttr,hw71,hxs_559]; exact Is.mk) (by simp only [go_sem,simprocAttr,hw71,hxs_559]; exact Is.mk) (by simp only [go_sem,simprocAttr,hw71,hxs_559]) (by simp only [go_sem,simprocAttr,hw71,hxs_559]; exact Is.mk) ?cont80
  simp only [go_sem,simprocAttr,hw71,hxs_559]
  refine kA hK74 ?_
  refine Wp.seqR fun K81 hK81=>?_
  simp only [go_sem,simprocAttr,hw71,hxs_559]
  refine kA hK81 ?_
  refine cM hm (fun hc82 hm=>?_) (fun hc82 hm=>?_)
  ·refine Wp.seqR fun K83 hK83=>?_
   simp only [go_sem,simprocAttr,hw71,hxs_559]
   refine kA hK83 ?_
   refine Wp.ret ?_
   refine retQ_ret ?_
   cases hm
   simp only [go_sem,simprocAttr,hw71,hxs_559]
   try exact se1
  ·refine Wp.skip ?_
   refine hK72 _ _ ?_
   refine Wp.region fun K84 hK84=>?_
   simp only [go_sem,simprocAttr,hw71,hxs_559]
   refine kA hK84 ?_
   simp only [thenQ,blockQ,↓reduceIte]
   refine ⟨r_564.2,hlt71,hnx_556 _ hm,?_⟩
   simp only [go_sem,simprocAttr,hw71,hxs_559]
   try exact se1
theorem ok_ver_IsValue_1 (c_1:Int) (z:Bool) (hm:ver_IsValue_1 c_1=some z):Does Tryz.prog 247 [.p (.i .u8 c_1)] [] (fun r X=>r=.p (.b z)∧X=[]):=by
 unfold ver_IsValue_1 at hm
 refine dW 0 9 [.tmp 2] Tryz.func247 fun B=>?_
 refine qS ?_
 refine qS ?_
 refine Wp.ret ?_
 refine retQ_ret ?_
 cases hm
 exact fse1
theorem ok_ver_each_i2 (s_1:Str) (most_2:Int) (z:Bool) (hm:ver_each_i2 s_1 most_2=some z):Does Tryz.prog 129 [.p (.s s_1),.p (.i .i64 most_2),.fn 247 []] [] (fun r X=>r=.p (.b z)∧X=[]):=by
 unfold ver_each_i2 at hm
 refine dW 0 28 [.tmp 6] Tryz.func129 fun B=>?_
 refine qS ?_
 refine Wp.seqW fun K2 hK2 hW2=>?_
 obtain ⟨k_12,hk_12,hm⟩:=jp_elim hm
 have hcut2:∀ s,k_12 s=some z→K2 [(0,.p (.s s_1)),(1,.p (.i .i64 most_2))] []:=by
  intro s hs
  have hm:=hk_12 _ hs
  clear hs
  try dsimp only at hm
  try dsimp only
  refine hK2 _ _ ?_
  refine qS ?_
  refine Wp.ret ?_
  refine retQ_ret ?_
  cases hm
  exact fse1
 clear hK2 hk_12
 refine qS ?_
 refine Wp.block ?_
 obtain ⟨k_16,hk_16,hm⟩:=forL_cont hm
 refine Wp.fact 0 fun hl_19=>?_
 replace hl_19:s_1.length≤274877906944:=by
  simp only [go_sem,simprocAttr,List.length_map] at hl_19
  omega
 refine Wp.forL (fun i_18 s=>[(0,.p (.s s_1)),(1,.p (.i .i64 most_2)),(2,.fn 247 []),(7,.p (.i .i64 (i_18:Int)))]) (fun i_18 s=>[]) ?_ hm ?_
 ·
  exact fse1
 clear hm
 intro i_18 s hii_18 hm
 try dsimp only at hm
 try dsimp only
 refine Wp.seqW fun K5 hK5 hW5=>?_
 refine qS ?_
 refine Wp.cond rfl ⟨⟩ (fun hc5=>?_) (fun hc5=>?_)
 rotate_left
 ·refine Wp.exit ?_
  have hm:=hk_16 _ (forL_end hm (ge_nat (by first | exact hc5 | simpa using hc5)))
  try dsimp only at hm
  refine hW2 _ _ _ _ ?_ (hcut2 () hm)
  exact fse1
 have hlt5:=lt_nat (by first | exact hc5 | simpa using hc5)
 have hw5:=wrap_succ hlt5 hl_19
 obtain ⟨c_20,nx_17,hxc_20,hyc_20,hnx_17,hm⟩:=forL_step hm hlt5
 clear hxc_20
 refine Wp.skip ?_
 simp only [thenQ]
 refine hK5 _ _ ?_
 refine Wp.seqW fun K7 hK7 hW7=>?_
 refine Wp.block ?_
 obtain ⟨r_21,hr_21,hm⟩:=call_elim hm
 refine Wp.seqR fun K8 hK8=>?_
 simp only [go_sem,simprocAttr,hw5,hyc_20]
 try refine ⟨sd,?_⟩
 refine Rg.callX (av:=?av9) (g:=true) (fun hg=>ok_ver_IsValue_1 (c_20.toNat:Int) _ hr_21) (by simp only [go_sem,simprocAttr,hw5,hyc_20]; exact Is.mk) (by simp only [go_sem,simprocAttr,hw5,hyc_20]; exact Is.mk) (by simp only [go_sem,simprocAttr,hw5,hyc_20]; exact Is.mk) (by simp only [go_sem,simprocAttr,hw5,hyc_20]) (by simp only [go_sem,simprocAttr,hw5,hyc_20]; exact Is.mk) ?cont9
 intro hv9
 simp only [go_sem,simprocAttr,hw5,hyc_20]
 refine kA hK8 ?_
 refine cM hm (fun hc10 hm=>?_) (fun hc10 hm=>?_)
 ·refine Wp.seqR fun K11 hK11=>?_
  simp only [go_sem,simprocAttr,hw5,hyc_20]
  refine kA hK11 ?_
  refine Wp.ret ?_
  refine retQ_ret ?_
  cases hm
  simp only [go_sem,simprocAttr,hw5,hyc_20]
  try exact se1
 ·refine Wp.skip ?_
  refine hK7 _ _ ?_
  refine Wp.region fun K12 hK12=>?_
  simp only [go_sem,simprocAttr,hw5,hyc_20]
  refine kA hK12 ?_
  simp only [thenQ,blockQ,↓reduceIte]
  refine ⟨(),hlt5,hnx_17 _ hm,?_⟩
  simp only [go_sem,simprocAttr,hw5,hyc_20]
  try exact se1
theorem ok_ver_IsValue (s_1:Str) (z:Bool) (hm:ver_IsValue s_1=some z):Does Tryz.prog 200 [.p (.s s_1)] [] (fun r X=>r=.p (.b z)∧X=[]):=by
 unfold ver_IsValue at hm
 refine dW 0 9 [.tmp 2] Tryz.func200 fun B=>?_
 refine qS ?_
 obtain ⟨r_2,hr_2,hm⟩:=callG_elim hm
 refine Wp.seqR fun K2 hK2=>?_
 simp only [go_sem,simprocAttr]
 try refine ⟨sd,?_⟩
 refine Rg.callX (av:=?av3) (g:=!(decide (s_1=[]))) (fun hg=>ok_ver_each_i2 s_1 1000 _ (hr_2 hg)) si si si sg si ?cont3
 intro hv3
 simp only [go_sem,simprocAttr]
 refine kA hK2 ?_
 refine Wp.ret ?_
 refine retQ_ret ?_
 cases hm
 exact fse1
theorem ok_disk_settingFault_i1 (s_1:api_Setting) (z:Int) (hm:disk_settingFault_i1 s_1=some z):Does Tryz.prog 136 [.agg [.p (.s s_1.Key),.p (.s s_1.Value)],.fn 57 []] [] (fun r X=>r=.p (.i .i64 z)∧X=[]):=by
 unfold disk_settingFault_i1 at hm
 refine dW 0 14 [.tmp 4] Tryz.func136 fun B=>?_
 refine qS ?_
 refine Wp.seqW fun K2 hK2 hW2=>?_
 obtain ⟨r_2,hr_2,hm⟩:=call_elim hm
 refine Wp.seqR fun K3 hK3=>?_
 simp only [go_sem,simprocAttr]
 try refine ⟨sd,?_⟩
 refine Rg.callX (av:=?av4) (g:=true) (fun hg=>ok_ver_IsName s_1.Key _ hr_2) si si si sg si ?cont4
 intro hv4
 simp only [go_sem,simprocAttr]
 refine kA hK3 ?_
 refine cM hm (fun hc5 hm=>?_) (fun hc5 hm=>?_)
 ·refine qS ?_
  refine Wp.ret ?_
  refine retQ_ret ?_
  cases hm
  exact fse1
 ·refine Wp.skip ?_
  refine hK2 _ _ ?_
  refine Wp.seqW fun K7 hK7 hW7=>?_
  obtain ⟨r_3,hr_3,hm⟩:=call_elim hm
  refine Wp.seqR fun K8 hK8=>?_
  simp only [go_sem,simprocAttr]
  try refine ⟨sd,?_⟩
  refine Rg.callX (av:=?av9) (g:=true) (fun hg=>ok_ver_IsValue s_1.Value _ hr_3) si si si sg si ?cont9
  intro hv9
  simp only [go_sem,simprocAttr]
  refine kA hK8 ?_
  refine cM hm (fun hc10 hm=>?_) (fun hc10 hm=>?_)
  ·refine qS ?_
   refine Wp.ret ?_
   refine retQ_ret ?_
   cases hm
   exact fse1
  ·refine Wp.skip ?_
   refine hK7 _ _ ?_
   refine qS ?_
   refine Wp.ret ?_
   refine retQ_ret ?_
   cases hm
   exact fse1
theorem ok_disk_Check_1 (s_1:api_Setting) (z:Int) (hm:disk_Check_1 s_1=some z):Does Tryz.prog 135 [.agg [.p (.s s_1.Key),.p (.s s_1.Value)]] [] (fun r X=>r=.p (.i .i64 z)∧X=[]):=by
 unfold disk_Check_1 at hm
 refine dW 0 5 [.tmp 2] Tryz.func135 fun B=>?_
 refine qS ?_
 obtain ⟨r_2,hr_2,hm⟩:=call_elim hm
 refine Wp.seqR fun K2 hK2=>?_
 simp only [go_sem,simprocAttr]
 try refine ⟨sd,?_⟩
 refine Rg.callX (av:=?av3) (g:=true) (fun hg=>ok_disk_settingFault_i1 s_1 _ hr_2) si si si sg si ?cont3
 intro hv3
 simp only [go_sem,simprocAttr]
 refine kA hK2 ?_
 refine Wp.ret ?_
 refine retQ_ret ?_
 cases hm
 exact fse1
theorem ok_disk_keyOf (s_1:api_Setting) (z:Str) (hm:disk_keyOf s_1=some z):Does Tryz.prog 137 [.agg [.p (.s s_1.Key),.p (.s s_1.Value)]] [] (fun r X=>r=.p (.s z)∧X=[]):=by
 unfold disk_keyOf at hm
 refine dW 0 5 [.tmp 2] Tryz.func137 fun B=>?_
 refine qS ?_
 refine qS ?_
 refine Wp.ret ?_
 refine retQ_ret ?_
 cases hm
 exact fse1
theorem ok_disk_eachFault_api_Setting_i1 (l_1:List api_Setting) (z:Int) (hm:disk_eachFault_api_Setting_i1 l_1=some z):Does Tryz.prog 134 [.p (.l (List.map enc_api_Setting l_1)),.fn 135 [],.fn 137 []] [] (fun r X=>r=.p (.i .i64 z)∧X=[]):=by
 unfold disk_eachFault_api_Setting_i1 at hm
 refine dW 0 39 [.tmp 6] Tryz.func134 fun B=>?_
 refine qS ?_
 refine Wp.seqW fun K2 hK2 hW2=>?_
 obtain ⟨k_19,hk_19,hm⟩:=jp_elim hm
 have hcut2:∀ s,k_19 s=some z→K2 [] []:=by
  intro s hs
  have hm:=hk_19 _ hs
  clear hs
  try dsimp only at hm
  try dsimp only
  refine hK2 _ _ ?_
  refine qS ?_
  refine Wp.ret ?_
  refine retQ_ret ?_
  cases hm
  exact fse1
 clear hK2 hk_19
 refine qS ?_
 refine Wp.block ?_
 obtain ⟨k_27,hk_27,hm⟩:=forL_cont hm
 refine Wp.fact 0 fun hl_30=>?_
 replace hl_30:l_1.length≤274877906944:=by
  simp only [go_sem,simprocAttr,List.length_map] at hl_30
  omega
 refine Wp.forL (fun i_29 s=>[(0,.p (.l (List.map enc_api_Setting l_1))),(1,.fn 135 []),(2,.fn 137 []),(10,.p (.l (List.map enc_api_Setting l_1))),(11,.p (.i .i64 (l_1.length:Int))),(12,.p (.i .i64 (i_29:Int)))]) (fun i_29 s=>[]) ?_ hm ?_
 ·
  exact fse1
 clear hm
 intro i_29 s hii_29 hm
 try dsimp only at hm
 try dsimp only
 refine qS ?_
 refine Wp.seqW fun K6 hK6 hW6=>?_
 refine Wp.cond rfl ⟨⟩ (fun hc6=>?_) (fun hc6=>?_)
 rotate_left
 ·refine Wp.exit ?_
  have hm:=hk_27 _ (forL_end hm (ge_nat (by first | exact hc6 | simpa using hc6)))
  try dsimp only at hm
  refine hW2 _ _ _ _ ?_ (hcut2 () hm)
  exact fse1
 have hlt6:=lt_nat (by first | exact hc6 | simpa using hc6)
 have hw6:=wrap_succ hlt6 hl_30
 obtain ⟨s_31,nx_28,hxs_31,hys_31,hnx_28,hm⟩:=forL_step hm hlt6
 replace hxs_31:=hxs_31 enc_api_Setting
 refine Wp.skip ?_
 simp only [thenQ]
 refine hK6 _ _ ?_
 refine Wp.seqW fun K7 hK7 hW7=>?_
 refine Wp.block ?_
 refine Wp.seqR fun K8 hK8=>?_
 simp only [go_sem,simprocAttr,hw6,hxs_31]
 refine kA hK8 ?_
 refine Wp.seqW fun K9 hK9 hW9=>?_
 obtain ⟨r_32,hr_32,hm⟩:=call_elim hm
 refine Wp.seqR fun K10 hK10=>?_
 simp only [go_sem,simprocAttr,hw6,hxs_31]
 try refine ⟨sd,?_⟩
 refine Rg.callX (av:=?av11) (g:=true) (fun hg=>ok_disk_Check_1 s_31 _ hr_32) (by simp only [go_sem,simprocAttr,hw6,hxs_31]; exact Is.mk) (by simp only [go_sem,simprocAttr,hw6,hxs_31]; exact Is.mk) (by simp only [go_sem,simprocAttr,hw6,hxs_31]; exact Is.mk) (by simp only [go_sem,simprocAttr,hw6,hxs_31]) (by simp only [go_sem,simprocAttr,hw6,hxs_31]; exact Is.mk) ?cont11
 intro hv11
 simp only [go_sem,simprocAttr,hw6,hxs_31]
 refine kA hK10 ?_
 refine Wp.seqR fun K12 hK12=>?_
 simp only [go_sem,simprocAttr,hw6,hxs_31]
 refine kA hK12 ?_
 refine cM hm (fun hc13 hm=>?_) (fun hc13 hm=>?_)
 ·refine Wp.seqR fun K14 hK14=>?_
  simp only [go_sem,simprocAttr,hw6,hxs_31]
  refine kA hK14 ?_
  refine Wp.ret ?_
  refine retQ_ret ?_
  cases hm
  simp only [go_sem,simprocAttr,hw6,hxs_31]
  try exact se1
 ·refine Wp.skip ?_
  refine hK9 _ _ ?_
  obtain ⟨r_33,hr_33,hm⟩:=callG_elim hm
  obtain ⟨c_34,hm⟩:=chk_elim hm
  obtain ⟨r_35,hr_35,hm⟩:=callG_elim hm
  have hr_36:=getD_enc (l:=l_1) (e:=enc_api_Setting) (d:=(api_Setting.mk [] [])) (i:=(IntKind.i64.wrap ((i_29:Int) - 1)).toNat)
  simp only [enc_api_Setting,List.map_nil] at hr_36
  refine Wp.seqD (plan:=pl [(0,none),(1,none),(2,none),(3,none),(4,none),(5,none),(6,none),(7,none),(8,none),(9,none),(10,none),(11,none),(12,none),(13,none),(14,none)]) (by kernel_rfl) rfl (by kernel_rfl) fun K15 hK15=>?_
  simp only [go_sem,simprocAttr,hw6,hxs_31,hr_36]
  try refine ⟨sL,?_⟩
  refine Dr.callF (av:=?av16) (g:=decide (0 < (i_29:Int))) (o:=?o16) (fun hg=>ok_disk_keyOf s_31 _ (hr_33 hg)) (by simp only [go_sem,simprocAttr,hw6,hxs_31,hr_36]; exact Is.mk) (by simp only [go_sem,simprocAttr,hw6,hxs_31,hr_36]; exact Is.mk) (by simp only [go_sem,simprocAttr,hw6,hxs_31,hr_36]; exact Is.mk) (by simp only [go_sem,simprocAttr,hw6,hxs_31,hr_36]; exact Is.mk) (by simp only [go_sem,simprocAttr,hw6,hxs_31,hr_36]) (by simp only [go_sem,simprocAttr,hw6,hxs_31,hr_36]; exact Is.mk) ?cont16
  simp only [go_sem,simprocAttr,hw6,hxs_31,hr_36]
  try refine ⟨sL,?_⟩
  refine Dr.callF (av:=?av17) (g:=decide (0 < (i_29:Int))) (o:=?o17) (fun hg=>ok_disk_keyOf (api_Setting.mk ((l_1.getD ((IntKind.i64.wrap ((i_29:Int) - 1)).toNat) (api_Setting.mk [] [])).Key) ((l_1.getD ((IntKind.i64.wrap ((i_29:Int) - 1)).toNat) (api_Setting.mk [] [])).Value)) _ (hr_35 hg)) (by simp only [go_sem,simprocAttr,hw6,hxs_31,hr_36]; exact Is.mk) (by simp only [go_sem,simprocAttr,hw6,hxs_31,hr_36]; exact Is.mk) (by simp only [go_sem,simprocAttr,hw6,hxs_31,hr_36]; exact Is.mk) (by simp only [go_sem,simprocAttr,hw6,hxs_31,hr_36]; exact Is.mk) (by simp only [go_sem,simprocAttr,hw6,hxs_31,hr_36]) (by simp only [go_sem,simprocAttr,hw6,hxs_31,hr_36]; exact Is.mk) ?cont17
  simp only [go_sem,simprocAttr,hw6,hxs_31,hr_36]
  refine kA hK15 ?_
  refine cM hm (fun hc18 hm=>?_) (fun hc18 hm=>?_)
  ·refine Wp.seqR fun K19 hK19=>?_
   simp only [go_sem,simprocAttr,hw6,hxs_31]
   refine kA hK19 ?_
   refine Wp.ret ?_
   refine retQ_ret ?_
   cases hm
   simp only [go_sem,simprocAttr,hw6,hxs_31]
   try exact se1
  ·refine Wp.skip ?_
   refine hK7 _ _ ?_
   refine Wp.region fun K20 hK20=>?_
   simp only [go_sem,simprocAttr,hw6,hxs_31]
   refine kA hK20 ?_
   simp only [thenQ,blockQ,↓reduceIte]
   refine ⟨(),hlt6,hnx_28 _ hm,?_⟩
   simp only [go_sem,simprocAttr,hw6,hxs_31]
   try exact se1
theorem ok_ver_isPart_1 (c_1:Int) (z:Bool) (hm:ver_isPart_1 c_1=some z):Does Tryz.prog 248 [.p (.i .u8 c_1)] [] (fun r X=>r=.p (.b z)∧X=[]):=by
 unfold ver_isPart_1 at hm
 refine dW 0 29 [.tmp 2] Tryz.func248 fun B=>?_
 refine qS ?_
 obtain ⟨r_2,hr_2,hm⟩:=call_elim hm
 obtain ⟨r_3,hr_3,hm⟩:=callG_elim hm
 refine Wp.seqR fun K2 hK2=>?_
 simp only [go_sem,simprocAttr]
 try refine ⟨sd,?_⟩
 refine Rg.callX (av:=?av3) (g:=true) (fun hg=>ok_ver_isSmall c_1 _ hr_2) si si si sg si ?cont3
 intro hv3
 simp only [go_sem,simprocAttr]
 try refine ⟨sd,?_⟩
 refine Rg.callX (av:=?av4) (g:=!(r_2 || ((decide (65≤c_1)) && (decide (c_1≤90))))) (fun hg=>ok_ver_isDigit c_1 _ (hr_3 hg)) si si si sg si ?cont4
 intro hv4
 simp only [go_sem,simprocAttr]
 refine kA hK2 ?_
 refine Wp.ret ?_
 refine retQ_ret ?_
 cases hm
 exact fse1
theorem ok_ver_each_i3 (s_1:Str) (most_2:Int) (z:Bool) (hm:ver_each_i3 s_1 most_2=some z):Does Tryz.prog 129 [.p (.s s_1),.p (.i .i64 most_2),.fn 248 []] [] (fun r X=>r=.p (.b z)∧X=[]):=by
 unfold ver_each_i3 at hm
 refine dW 0 28 [.tmp 6] Tryz.func129 fun B=>?_
 refine qS ?_
 refine Wp.seqW fun K2 hK2 hW2=>?_
 obtain ⟨k_12,hk_12,hm⟩:=jp_elim hm
 have hcut2:∀ s,k_12 s=some z→K2 [(0,.p (.s s_1)),(1,.p (.i .i64 most_2))] []:=by
  intro s hs
  have hm:=hk_12 _ hs
  clear hs
  try dsimp only at hm
  try dsimp only
  refine hK2 _ _ ?_
  refine qS ?_
  refine Wp.ret ?_
  refine retQ_ret ?_
  cases hm
  exact fse1
 clear hK2 hk_12
 refine qS ?_
 refine Wp.block ?_
 obtain ⟨k_16,hk_16,hm⟩:=forL_cont hm
 refine Wp.fact 0 fun hl_19=>?_
 replace hl_19:s_1.length≤274877906944:=by
  simp only [go_sem,simprocAttr,List.length_map] at hl_19
  omega
 refine Wp.forL (fun i_18 s=>[(0,.p (.s s_1)),(1,.p (.i .i64 most_2)),(2,.fn 248 []),(7,.p (.i .i64 (i_18:Int)))]) (fun i_18 s=>[]) ?_ hm ?_
 ·
  exact fse1
 clear hm
 intro i_18 s hii_18 hm
 try dsimp only at hm
 try dsimp only
 refine Wp.seqW fun K5 hK5 hW5=>?_
 refine qS ?_
 refine Wp.cond rfl ⟨⟩ (fun hc5=>?_) (fun hc5=>?_)
 rotate_left
 ·refine Wp.exit ?_
  have hm:=hk_16 _ (forL_end hm (ge_nat (by first | exact hc5 | simpa using hc5)))
  try dsimp only at hm
  refine hW2 _ _ _ _ ?_ (hcut2 () hm)
  exact fse1
 have hlt5:=lt_nat (by first | exact hc5 | simpa using hc5)
 have hw5:=wrap_succ hlt5 hl_19
 obtain ⟨c_20,nx_17,hxc_20,hyc_20,hnx_17,hm⟩:=forL_step hm hlt5
 clear hxc_20
 refine Wp.skip ?_
 simp only [thenQ]
 refine hK5 _ _ ?_
 refine Wp.seqW fun K7 hK7 hW7=>?_
 refine Wp.block ?_
 obtain ⟨r_21,hr_21,hm⟩:=call_elim hm
 refine Wp.seqR fun K8 hK8=>?_
 simp only [go_sem,simprocAttr,hw5,hyc_20]
 try refine ⟨sd,?_⟩
 refine Rg.callX (av:=?av9) (g:=true) (fun hg=>ok_ver_isPart_1 (c_20.toNat:Int) _ hr_21) (by simp only [go_sem,simprocAttr,hw5,hyc_20]; exact Is.mk) (by simp only [go_sem,simprocAttr,hw5,hyc_20]; exact Is.mk) (by simp only [go_sem,simprocAttr,hw5,hyc_20]; exact Is.mk) (by simp only [go_sem,simprocAttr,hw5,hyc_20]) (by simp only [go_sem,simprocAttr,hw5,hyc_20]; exact Is.mk) ?cont9
 intro hv9
 simp only [go_sem,simprocAttr,hw5,hyc_20]
 refine kA hK8 ?_
 refine cM hm (fun hc10 hm=>?_) (fun hc10 hm=>?_)
 ·refine Wp.seqR fun K11 hK11=>?_
  simp only [go_sem,simprocAttr,hw5,hyc_20]
  refine kA hK11 ?_
  refine Wp.ret ?_
  refine retQ_ret ?_
  cases hm
  simp only [go_sem,simprocAttr,hw5,hyc_20]
  try exact se1
 ·refine Wp.skip ?_
  refine hK7 _ _ ?_
  refine Wp.region fun K12 hK12=>?_
  simp only [go_sem,simprocAttr,hw5,hyc_20]
  refine kA hK12 ?_
  simp only [thenQ,blockQ,↓reduceIte]
  refine ⟨(),hlt5,hnx_17 _ hm,?_⟩
  simp only [go_sem,simprocAttr,hw5,hyc_20]
  try exact se1
theorem ok_ver_isPart (s_1:Str) (z:Bool) (hm:ver_isPart s_1=some z):Does Tryz.prog 201 [.p (.s s_1)] [] (fun r X=>r=.p (.b z)∧X=[]):=by
 unfold ver_isPart at hm
 refine dW 0 15 [.tmp 2] Tryz.func201 fun B=>?_
 refine qS ?_
 refine qS ?_
 obtain ⟨r_2,hr_2,hm⟩:=call_elim hm
 refine Wp.seqR fun K3 hK3=>?_
 simp only [go_sem,simprocAttr]
 try refine ⟨sd,?_⟩
 refine Rg.callX (av:=?av4) (g:=true) (fun hg=>ok_ver_each_i3 s_1 40 _ hr_2) si si si sg si ?cont4
 intro hv4
 simp only [go_sem,simprocAttr]
 refine kA hK3 ?_
 refine Wp.ret ?_
 refine retQ_ret ?_
 cases hm
 exact fse1
theorem ok_ver_IsPath (s_1:Str) (z:Bool) (hm:ver_IsPath s_1=some z):Does Tryz.prog 142 [.p (.s s_1)] [] (fun r X=>r=.p (.b z)∧X=[]):=by
 unfold ver_IsPath at hm
 refine dW 0 19 [.tmp 2] Tryz.func142 fun B=>?_
 refine qS ?_
 refine Wp.seqW fun K2 hK2 hW2=>?_
 obtain ⟨k_12,hk_12,hm⟩:=jp_elim hm
 have hcut2:∀ s,k_12 s=some z→K2 [(0,.p (.s s_1))] []:=by
  intro s hs
  have hm:=hk_12 _ hs
  clear hs
  try dsimp only at hm
  try dsimp only
  refine hK2 _ _ ?_
  refine qS ?_
  refine Wp.ret ?_
  refine retQ_ret ?_
  cases hm
  exact fse1
 clear hK2 hk_12
 obtain ⟨r_13,hr_13,hm⟩:=call_elim hm
 refine Wp.seqR fun K4 hK4=>?_
 simp only [go_sem,simprocAttr]
 try refine ⟨sd,?_⟩
 refine Rg.callF (av:=?av5) (ok_strings_Split s_1 ([47]:Str) _ hr_13) si si sg ?cont5
 intro hv5
 simp only [go_sem,simprocAttr]
 refine kA hK4 ?_
 refine Wp.block ?_
 obtain ⟨k_17,hk_17,hm⟩:=forL_cont hm
 refine Wp.fact 6 fun hl_20=>?_
 replace hl_20:r_13.length≤274877906944:=by
  simp only [go_sem,simprocAttr,List.length_map] at hl_20
  omega
 refine Wp.forL (fun i_19 s=>[(0,.p (.s s_1)),(6,.p (.l (List.map ecS r_13))),(7,.p (.i .i64 (r_13.length:Int))),(8,.p (.i .i64 (i_19:Int)))]) (fun i_19 s=>[]) ?_ hm ?_
 ·
  exact fse1
 clear hm
 intro i_19 s hii_19 hm
 try dsimp only at hm
 try dsimp only
 refine qS ?_
 refine Wp.seqW fun K7 hK7 hW7=>?_
 refine Wp.cond rfl ⟨⟩ (fun hc7=>?_) (fun hc7=>?_)
 rotate_left
 ·refine Wp.exit ?_
  have hm:=hk_17 _ (forL_end hm (ge_nat (by first | exact hc7 | simpa using hc7)))
  try dsimp only at hm
  refine hW2 _ _ _ _ ?_ (hcut2 () hm)
  exact fse1
 have hlt7:=lt_nat (by first | exact hc7 | simpa using hc7)
 have hw7:=wrap_succ hlt7 hl_20
 obtain ⟨s_21,nx_18,hxs_21,hys_21,hnx_18,hm⟩:=forL_step hm hlt7
 replace hxs_21:=hxs_21 ecS
 refine Wp.skip ?_
 simp only [thenQ]
 refine hK7 _ _ ?_
 refine Wp.seqW fun K8 hK8 hW8=>?_
 refine Wp.block ?_
 refine Wp.seqR fun K9 hK9=>?_
 simp only [go_sem,simprocAttr,hw7,hxs_21]
 refine kA hK9 ?_
 obtain ⟨r_22,hr_22,hm⟩:=call_elim hm
 refine Wp.seqR fun K10 hK10=>?_
 simp only [go_sem,simprocAttr,hw7,hxs_21]
 try refine ⟨sd,?_⟩
 refine Rg.callX (av:=?av11) (g:=true) (fun hg=>ok_ver_isPart s_21 _ hr_22) (by simp only [go_sem,simprocAttr,hw7,hxs_21]; exact Is.mk) (by simp only [go_sem,simprocAttr,hw7,hxs_21]; exact Is.mk) (by simp only [go_sem,simprocAttr,hw7,hxs_21]; exact Is.mk) (by simp only [go_sem,simprocAttr,hw7,hxs_21]) (by simp only [go_sem,simprocAttr,hw7,hxs_21]; exact Is.mk) ?cont11
 intro hv11
 simp only [go_sem,simprocAttr,hw7,hxs_21]
 refine kA hK10 ?_
 refine cM hm (fun hc12 hm=>?_) (fun hc12 hm=>?_)
 ·refine Wp.seqR fun K13 hK13=>?_
  simp only [go_sem,simprocAttr,hw7,hxs_21]
  refine kA hK13 ?_
  refine Wp.ret ?_
  refine retQ_ret ?_
  cases hm
  simp only [go_sem,simprocAttr,hw7,hxs_21]
  try exact se1
 ·refine Wp.skip ?_
  refine hK8 _ _ ?_
  refine Wp.region fun K14 hK14=>?_
  simp only [go_sem,simprocAttr,hw7,hxs_21]
  refine kA hK14 ?_
  simp only [thenQ,blockQ,↓reduceIte]
  refine ⟨(),hlt7,hnx_18 _ hm,?_⟩
  simp only [go_sem,simprocAttr,hw7,hxs_21]
  try exact se1
theorem ok_disk_fileFault (f_1:api_File) (z:Int) (hm:disk_fileFault f_1=some z):Does Tryz.prog 138 [.agg [.p (.s f_1.Path),.p (.s f_1.Data),.p (.b f_1.Runs)]] [] (fun r X=>r=.p (.i .i64 z)∧X=[]):=by
 unfold disk_fileFault at hm
 refine dW 0 11 [.tmp 2] Tryz.func138 fun B=>?_
 refine qS ?_
 refine Wp.seqW fun K2 hK2 hW2=>?_
 obtain ⟨r_2,hr_2,hm⟩:=call_elim hm
 refine Wp.seqR fun K3 hK3=>?_
 simp only [go_sem,simprocAttr]
 try refine ⟨sd,?_⟩
 refine Rg.callX (av:=?av4) (g:=true) (fun hg=>ok_ver_IsPath f_1.Path _ hr_2) si si si sg si ?cont4
 intro hv4
 simp only [go_sem,simprocAttr]
 refine kA hK3 ?_
 refine cM hm (fun hc5 hm=>?_) (fun hc5 hm=>?_)
 ·refine qS ?_
  refine Wp.ret ?_
  refine retQ_ret ?_
  cases hm
  exact fse1
 ·refine Wp.skip ?_
  refine hK2 _ _ ?_
  refine Wp.seqW fun K7 hK7 hW7=>?_
  refine qS ?_
  refine cM hm (fun hc9 hm=>?_) (fun hc9 hm=>?_)
  ·refine qS ?_
   refine Wp.ret ?_
   refine retQ_ret ?_
   cases hm
   exact fse1
  ·refine Wp.skip ?_
   refine hK7 _ _ ?_
   refine qS ?_
   refine Wp.ret ?_
   refine retQ_ret ?_
   cases hm
   exact fse1
theorem ok_disk_Check_2_i1 (dir_1:Str) (m1_2:List (Str × Bool)) (z:Bool) (hm:disk_Check_2_i1 dir_1 m1_2=some z):Does Tryz.prog 140 [.p (.s dir_1),.ptr 0 0] [.cells 107 [.mp 1],.mp false (encM Dt.s ecB m1_2)] (fun r X=>r=.p (.b z)∧X=[.cells 107 [.mp 1],.mp false (encM Dt.s ecB m1_2)]):=by
 unfold disk_Check_2_i1 at hm
 refine dW 2 8 [.tmp 3] Tryz.func140 fun B=>?_
 refine qS ?_
 obtain ⟨q_5,hq_6,hm⟩:=letv_elim hm
 have hq_6d:=mlookD_enc (e:=ecB) keq_s m1_2 dir_1 false
 have hq_6s:=mlook_some (e:=ecB) keq_s m1_2 dir_1
 simp only [hq_6,ecB,List.map_nil] at hq_6d hq_6s
 refine Wp.seqR fun K2 hK2=>?_
 simp only [go_sem,simprocAttr,hq_6d,hq_6s]
 refine kA hK2 ?_
 refine Wp.ret ?_
 refine retQ_ret ?_
 cases hm
 exact fse1
end Go.Proofs.YtbofknpajcdnmaaGreatDoor
