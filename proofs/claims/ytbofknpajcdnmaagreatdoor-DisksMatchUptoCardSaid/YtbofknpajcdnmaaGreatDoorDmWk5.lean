/- That the code does what the models say (part 5). -/
import Derived.Test.YtbofknpajcdnmaaGreatDoorDmWk0
import Derived.Test.YtbofknpajcdnmaaGreatDoorDmWk1
set_option linter.unusedSimpArgs false
set_option linter.unusedVariables false
open Go.Proofs Go.Shelf
namespace Go.Proofs.YtbofknpajcdnmaaGreatDoor
open Go.Vc Go.Md
set_option maxRecDepth 100000
set_option maxHeartbeats 4000000
theorem ok_R_worldOf (m_1:api_Machine) (z:(List (Str × api_File)) × (List (Str × Str)) × (List (Str × api_Service)) × List api_Setting) (hm:R_worldOf m_1=some z):Does Tryz.prog 74 [.agg [.p (.l (List.map enc_api_Setting m_1.Facts)),.p (.l (List.map enc_api_File m_1.Files)),.p (.l (List.map enc_api_Setting m_1.Settings)),.p (.l (List.map enc_api_Service m_1.Services))]] [] (fun r X=>r=.ptr 4 0∧X=[.cells 26 [.top,.top,.top,.top],.mp true (encM Dt.s enc_api_File z.1),.mp false (encM Dt.s ecS z.2.1),.mp true (encM Dt.s enc_api_Service z.2.2.1),.cells 129 [.p (.l (List.map enc_api_Setting z.2.2.2)),.mp 1,.mp 2,.mp 3]]):=by
 unfold R_worldOf at hm
 refine dW 5 64 [.tmp 2] Tryz.func74 fun B=>?_
 refine qS ?_
 refine qS ?_
 refine Wp.seqW fun K3 hK3 hW3=>?_
 obtain ⟨k_121,hk_121,hm⟩:=jp_elim hm
 have hcut3:∀ s,k_121 s=some z→K3 [(1,.ptr 0 0),(3,.ptr 4 0)] [.cells 26 [.p (.l (List.map enc_api_Setting m_1.Facts)),.p (.l (List.map enc_api_File m_1.Files)),.p (.l (List.map enc_api_Setting m_1.Settings)),.p (.l (List.map enc_api_Service m_1.Services))],.mp true (encM Dt.s enc_api_File s),.mp false (encM Dt.s ecS []),.mp true (encM Dt.s enc_api_Service []),.cells 129 [.p (.l (List.map enc_api_Setting m_1.Facts)),.mp 1,.mp 2,.mp 3]]:=by
  intro m1_120 hs
  have hm:=hk_121 _ hs
  clear hs
  try dsimp only at hm
  try dsimp only
  refine hK3 _ _ ?_
  refine Wp.seqW fun K4 hK4 hW4=>?_
  obtain ⟨k_139,hk_139,hm⟩:=jp_elim hm
  have hcut4:∀ s,k_139 s=some z→K4 [(1,.ptr 0 0),(3,.ptr 4 0)] [.cells 26 [.p (.l (List.map enc_api_Setting m_1.Facts)),.p (.l (List.map enc_api_File m_1.Files)),.p (.l (List.map enc_api_Setting m_1.Settings)),.p (.l (List.map enc_api_Service m_1.Services))],.mp true (encM Dt.s enc_api_File m1_120),.mp false (encM Dt.s ecS s),.mp true (encM Dt.s enc_api_Service []),.cells 129 [.p (.l (List.map enc_api_Setting m_1.Facts)),.mp 1,.mp 2,.mp 3]]:=by
   intro m2_138 hs
   have hm:=hk_139 _ hs
   clear hs
   try dsimp only at hm
   try dsimp only
   refine hK4 _ _ ?_
   refine Wp.seqW fun K5 hK5 hW5=>?_
   obtain ⟨k_157,hk_157,hm⟩:=jp_elim hm
   have hcut5:∀ s,k_157 s=some z→K5 [(3,.ptr 4 0)] [.cells 26 [.top,.top,.top,.top],.mp true (encM Dt.s enc_api_File m1_120),.mp false (encM Dt.s ecS m2_138),.mp true (encM Dt.s enc_api_Service s),.cells 129 [.p (.l (List.map enc_api_Setting m_1.Facts)),.mp 1,.mp 2,.mp 3]]:=by
    intro m3_156 hs
    have hm:=hk_157 _ hs
    clear hs
    try dsimp only at hm
    try dsimp only
    refine hK5 _ _ ?_
    refine qS ?_
    refine Wp.ret ?_
    refine retQ_ret ?_
    cases hm
    exact fse1
   clear hK5 hk_157
   refine qS ?_
   refine Wp.block ?_
   obtain ⟨k_167,hk_167,hm⟩:=forL_cont hm
   refine Wp.fact 49 fun hl_170=>?_
   replace hl_170:m_1.Services.length≤274877906944:=by
    simp only [go_sem,simprocAttr,List.length_map] at hl_170
    omega
   refine Wp.forL (fun i_169 s=>[(3,.ptr 4 0),(49,.p (.l (List.map enc_api_Service m_1.Services))),(50,.p (.i .i64 (m_1.Services.length:Int))),(51,.p (.i .i64 (i_169:Int)))]) (fun i_169 s=>[.cells 26 [.p (.l (List.map enc_api_Setting m_1.Facts)),.p (.l (List.map enc_api_File m_1.Files)),.p (.l (List.map enc_api_Setting m_1.Settings)),.p (.l (List.map enc_api_Service m_1.Services))],.mp true (encM Dt.s enc_api_File m1_120),.mp false (encM Dt.s ecS m2_138),.mp true (encM Dt.s enc_api_Service s),.cells 129 [.p (.l (List.map enc_api_Setting m_1.Facts)),.mp 1,.mp 2,.mp 3]]) ?_ hm ?_
   ·
    exact fse1
   clear hm
   intro i_169 m3_163 hii_169 hm
   try dsimp only at hm
   try dsimp only
   refine qS ?_
   refine Wp.seqW fun K9 hK9 hW9=>?_
   refine Wp.cond rfl ⟨⟩ (fun hc9=>?_) (fun hc9=>?_)
   rotate_left
   ·refine Wp.exit ?_
    have hm:=hk_167 _ (forL_end hm (ge_nat (by first | exact hc9 | simpa using hc9)))
    try dsimp only at hm
    refine hW5 _ _ _ _ ?_ (hcut5 m3_163 hm)
    exact fse1
   have hlt9:=lt_nat (by first | exact hc9 | simpa using hc9)
   have hw9:=wrap_succ hlt9 hl_170
   obtain ⟨s_171,nx_168,hxs_171,hys_171,hnx_168,hm⟩:=forL_step hm hlt9
   replace hxs_171:=hxs_171 enc_api_Service
   refine Wp.skip ?_
   simp only [thenQ]
   refine hK9 _ _ ?_
   refine Wp.seqW fun K10 hK10 hW10=>?_
   refine Wp.block ?_
   refine Wp.seqR fun K11 hK11=>?_
   simp only [go_sem,simprocAttr,hw9,hxs_171]
   refine kA hK11 ?_
   obtain ⟨c_173,hm⟩:=chk_elim hm
   have hp_172:=mset_enc (e:=enc_api_Service) keq_s m3_163 s_171.Name s_171
   simp only [enc_api_Service] at hp_172
   refine Wp.regD (plan:=pl [(0,none),(1,none),(2,none),(3,none),(4,none),(5,none),(6,none),(7,some [])]) (by kernel_rfl) rfl (by kernel_rfl) fun K12 hK12=>?_
   simp only [go_sem,simprocAttr,hw9,hxs_171,hp_172]
   refine kA hK12 ?_
   refine hK10 _ _ ?_
   refine Wp.region fun K13 hK13=>?_
   simp only [go_sem,simprocAttr,hw9,hxs_171]
   refine kA hK13 ?_
   simp only [thenQ,blockQ,↓reduceIte]
   refine ⟨aset m3_163 s_171.Name s_171,hlt9,hnx_168 _ hm,?_⟩
   simp only [go_sem,simprocAttr,hw9,hxs_171]
   try exact se1
  clear hK4 hk_139
  refine qS ?_
  refine Wp.block ?_
  obtain ⟨k_183,hk_183,hm⟩:=forL_cont hm
  refine Wp.fact 33 fun hl_186=>?_
  replace hl_186:m_1.Settings.length≤274877906944:=by
   simp only [go_sem,simprocAttr,List.length_map] at hl_186
   omega
  refine Wp.forL (fun i_185 s=>[(1,.ptr 0 0),(3,.ptr 4 0),(33,.p (.l (List.map enc_api_Setting m_1.Settings))),(34,.p (.i .i64 (m_1.Settings.length:Int))),(35,.p (.i .i64 (i_185:Int)))]) (fun i_185 s=>[.cells 26 [.p (.l (List.map enc_api_Setting m_1.Facts)),.p (.l (List.map enc_api_File m_1.Files)),.p (.l (List.map enc_api_Setting m_1.Settings)),.p (.l (List.map enc_api_Service m_1.Services))],.mp true (encM Dt.s enc_api_File m1_120),.mp false (encM Dt.s ecS s),.mp true (encM Dt.s enc_api_Service []),.cells 129 [.p (.l (List.map enc_api_Setting m_1.Facts)),.mp 1,.mp 2,.mp 3]]) ?_ hm ?_
  ·
   exact fse1
  clear hm
  intro i_185 m2_179 hii_185 hm
  try dsimp only at hm
  try dsimp only
  refine qS ?_
  refine Wp.seqW fun K16 hK16 hW16=>?_
  refine Wp.cond rfl ⟨⟩ (fun hc16=>?_) (fun hc16=>?_)
  rotate_left
  ·refine Wp.exit ?_
   have hm:=hk_183 _ (forL_end hm (ge_nat (by first | exact hc16 | simpa using hc16)))
   try dsimp only at hm
   refine hW4 _ _ _ _ ?_ (hcut4 m2_179 hm)
   exact fse1
  have hlt16:=lt_nat (by first | exact hc16 | simpa using hc16)
  have hw16:=wrap_succ hlt16 hl_186
  obtain ⟨s_187,nx_184,hxs_187,hys_187,hnx_184,hm⟩:=forL_step hm hlt16
  replace hxs_187:=hxs_187 enc_api_Setting
  refine Wp.skip ?_
  simp only [thenQ]
  refine hK16 _ _ ?_
  refine Wp.seqW fun K17 hK17 hW17=>?_
  refine Wp.block ?_
  refine Wp.seqR fun K18 hK18=>?_
  simp only [go_sem,simprocAttr,hw16,hxs_187]
  refine kA hK18 ?_
  obtain ⟨c_189,hm⟩:=chk_elim hm
  have hp_188:=mset_enc (e:=ecS) keq_s m2_179 s_187.Key s_187.Value
  simp only [ecS] at hp_188
  refine Wp.regD (plan:=pl [(0,none),(1,none),(2,none),(3,none),(4,none),(5,none),(6,none),(7,none),(8,some [])]) (by kernel_rfl) rfl (by kernel_rfl) fun K19 hK19=>?_
  simp only [go_sem,simprocAttr,hw16,hxs_187,hp_188]
  refine kA hK19 ?_
  refine hK17 _ _ ?_
  refine Wp.region fun K20 hK20=>?_
  simp only [go_sem,simprocAttr,hw16,hxs_187]
  refine kA hK20 ?_
  simp only [thenQ,blockQ,↓reduceIte]
  refine ⟨aset m2_179 s_187.Key s_187.Value,hlt16,hnx_184 _ hm,?_⟩
  simp only [go_sem,simprocAttr,hw16,hxs_187]
  try exact se1
 clear hK3 hk_121
 refine qS ?_
 refine Wp.block ?_
 obtain ⟨k_199,hk_199,hm⟩:=forL_cont hm
 refine Wp.fact 18 fun hl_202=>?_
 replace hl_202:m_1.Files.length≤274877906944:=by
  simp only [go_sem,simprocAttr,List.length_map] at hl_202
  omega
 refine Wp.forL (fun i_201 s=>[(1,.ptr 0 0),(3,.ptr 4 0),(18,.p (.l (List.map enc_api_File m_1.Files))),(19,.p (.i .i64 (m_1.Files.length:Int))),(20,.p (.i .i64 (i_201:Int)))]) (fun i_201 s=>[.cells 26 [.p (.l (List.map enc_api_Setting m_1.Facts)),.p (.l (List.map enc_api_File m_1.Files)),.p (.l (List.map enc_api_Setting m_1.Settings)),.p (.l (List.map enc_api_Service m_1.Services))],.mp true (encM Dt.s enc_api_File s),.mp false (encM Dt.s ecS []),.mp true (encM Dt.s enc_api_Service []),.cells 129 [.p (.l (List.map enc_api_Setting m_1.Facts)),.mp 1,.mp 2,.mp 3]]) ?_ hm ?_
 ·
  exact fse1
 clear hm
 intro i_201 m1_195 hii_201 hm
 try dsimp only at hm
 try dsimp only
 refine qS ?_
 refine Wp.seqW fun K23 hK23 hW23=>?_
 refine Wp.cond rfl ⟨⟩ (fun hc23=>?_) (fun hc23=>?_)
 rotate_left
 ·refine Wp.exit ?_
  have hm:=hk_199 _ (forL_end hm (ge_nat (by first | exact hc23 | simpa using hc23)))
  try dsimp only at hm
  refine hW3 _ _ _ _ ?_ (hcut3 m1_195 hm)
  exact fse1
 have hlt23:=lt_nat (by first | exact hc23 | simpa using hc23)
 have hw23:=wrap_succ hlt23 hl_202
 obtain ⟨f_203,nx_200,hxf_203,hyf_203,hnx_200,hm⟩:=forL_step hm hlt23
 replace hxf_203:=hxf_203 enc_api_File
 refine Wp.skip ?_
 simp only [thenQ]
 refine hK23 _ _ ?_
 refine Wp.seqW fun K24 hK24 hW24=>?_
 refine Wp.block ?_
 refine Wp.seqR fun K25 hK25=>?_
 simp only [go_sem,simprocAttr,hw23,hxf_203]
 refine kA hK25 ?_
 obtain ⟨c_205,hm⟩:=chk_elim hm
 have hp_204:=mset_enc (e:=enc_api_File) keq_s m1_195 f_203.Path f_203
 simp only [enc_api_File] at hp_204
 refine Wp.regD (plan:=pl [(0,none),(1,none),(2,none),(3,none),(4,none),(5,none),(6,none),(7,some [])]) (by kernel_rfl) rfl (by kernel_rfl) fun K26 hK26=>?_
 simp only [go_sem,simprocAttr,hw23,hxf_203,hp_204]
 refine kA hK26 ?_
 refine hK24 _ _ ?_
 refine Wp.region fun K27 hK27=>?_
 simp only [go_sem,simprocAttr,hw23,hxf_203]
 refine kA hK27 ?_
 simp only [thenQ,blockQ,↓reduceIte]
 refine ⟨aset m1_195 f_203.Path f_203,hlt23,hnx_200 _ hm,?_⟩
 simp only [go_sem,simprocAttr,hw23,hxf_203]
 try exact se1
theorem ok_R_ChangeError (c_1:api_Change) (z:Int) (hm:R_ChangeError c_1=some z):Does Tryz.prog 156 [.agg [.p (.i .i64 c_1.Kind),.p (.s c_1.File.Path),.p (.s c_1.File.Data),.p (.b c_1.File.Runs),.p (.s c_1.Setting.Key),.p (.s c_1.Setting.Value),.p (.s c_1.Service.Name),.p (.s c_1.Service.Path),.p (.b c_1.Service.Auto),.p (.b c_1.Service.On)]] [] (fun r X=>r=.p (.i .i64 z)∧X=[]):=by
 unfold R_ChangeError at hm
 refine dW 0 67 [.tmp 2] Tryz.func156 fun B=>?_
 refine qS ?_
 refine qS ?_
 refine qS ?_
 refine Wp.seqW fun K4 hK4 hW4=>?_
 obtain ⟨k_21,hk_21,hm⟩:=jp_elim hm
 have hcut4:∀ s,k_21 s=some z→K4 [(3,.ptr 1 0),(4,.p (.i .i64 s.1))] [.cells 44 [.top,.top,.top,.top,.top,.top,.top,.top,.top,.top],.cells 44 [.p (.i .i64 0),.p (.s s.2.1),.p (.s s.2.2.1),.p (.b s.2.2.2.1),.p (.s s.2.2.2.2.1),.p (.s s.2.2.2.2.2.1),.p (.s s.2.2.2.2.2.2.1),.p (.s s.2.2.2.2.2.2.2.1),.p (.b s.2.2.2.2.2.2.2.2.1),.p (.b s.2.2.2.2.2.2.2.2.2)]]:=by
  intro s hs
  have hm:=hk_21 _ hs
  clear hs
  obtain ⟨e_11,o1_1_12,o1_2_13,o1_3_14,o1_4_15,o1_5_16,o1_6_17,o1_7_18,o1_8_19,o1_9_20⟩:=s
  try dsimp only at hm
  try dsimp only
  refine hK4 _ _ ?_
  obtain ⟨r_22,hr_22,hm⟩:=call_elim hm
  obtain ⟨r_23,hr_23,hm⟩:=call_elim hm
  refine Wp.seqR fun K5 hK5=>?_
  simp only [go_sem,simprocAttr]
  try refine ⟨sd,?_⟩
  refine Rg.callX (av:=?av6) (g:=true) (fun hg=>ok_R_when (!(true && ((decide (o1_1_12=[])) && ((decide (o1_2_13=[])) && ((decide (o1_3_14=false)) && ((decide (o1_4_15=[])) && ((decide (o1_5_16=[])) && ((decide (o1_6_17=[])) && ((decide (o1_7_18=[])) && ((decide (o1_8_19=false)) && (decide (o1_9_20=false)))))))))))) 2 _ hr_22) si si si sg si ?cont6
  intro hv6
  simp only [go_sem,simprocAttr]
  try refine ⟨sd,?_⟩
  refine Rg.callX (av:=?av7) (g:=true) (fun hg=>ok_R_first [e_11,r_22] _ hr_23) si si si sg si ?cont7
  intro hv7
  simp only [go_sem,simprocAttr]
  refine kA hK5 ?_
  refine Wp.ret ?_
  refine retQ_ret ?_
  cases hm
  exact fse1
 clear hK4 hk_21
 refine qS ?_
 refine qS ?_
 refine Wp.block ?_
 refine qS ?_
 refine cM hm (fun hc11 hm=>?_) (fun hc11 hm=>?_)
 ·obtain ⟨r_24,hr_24,hm⟩:=call_elim hm
  refine Wp.region fun K12 hK12=>?_
  simp only [go_sem,simprocAttr]
  try refine ⟨sd,?_⟩
  refine Rg.callX (av:=?av13) (g:=true) (fun hg=>ok_R_fileError c_1.File _ hr_24) si si si sg si ?cont13
  intro hv13
  simp only [go_sem,simprocAttr]
  refine kA hK12 ?_
  refine hW4 _ _ _ _ ?_ (hcut4 (r_24,[],[],false,c_1.Setting.Key,c_1.Setting.Value,c_1.Service.Name,c_1.Service.Path,c_1.Service.Auto,c_1.Service.On) hm)
  exact fse1
 ·refine qS ?_
  refine cM hm (fun hc15 hm=>?_) (fun hc15 hm=>?_)
  ·obtain ⟨r_25,hr_25,hm⟩:=call_elim hm
   obtain ⟨r_26,hr_26,hm⟩:=call_elim hm
   refine Wp.region fun K16 hK16=>?_
   simp only [go_sem,simprocAttr]
   try refine ⟨sd,?_⟩
   refine Rg.callX (av:=?av17) (g:=true) (fun hg=>ok_R_IsPath c_1.File.Path _ hr_25) si si si sg si ?cont17
   intro hv17
   simp only [go_sem,simprocAttr]
   try refine ⟨sd,?_⟩
   refine Rg.callX (av:=?av18) (g:=true) (fun hg=>ok_R_when (!r_25) 5 _ hr_26) si si si sg si ?cont18
   intro hv18
   simp only [go_sem,simprocAttr]
   refine kA hK16 ?_
   refine hW4 _ _ _ _ ?_ (hcut4 (r_26,[],c_1.File.Data,c_1.File.Runs,c_1.Setting.Key,c_1.Setting.Value,c_1.Service.Name,c_1.Service.Path,c_1.Service.Auto,c_1.Service.On) hm)
   exact fse1
  ·refine qS ?_
   refine cM hm (fun hc20 hm=>?_) (fun hc20 hm=>?_)
   ·obtain ⟨r_27,hr_27,hm⟩:=call_elim hm
    refine Wp.region fun K21 hK21=>?_
    simp only [go_sem,simprocAttr]
    try refine ⟨sd,?_⟩
    refine Rg.callX (av:=?av22) (g:=true) (fun hg=>ok_R_settingError c_1.Setting _ hr_27) si si si sg si ?cont22
    intro hv22
    simp only [go_sem,simprocAttr]
    refine kA hK21 ?_
    refine hW4 _ _ _ _ ?_ (hcut4 (r_27,c_1.File.Path,c_1.File.Data,c_1.File.Runs,[],[],c_1.Service.Name,c_1.Service.Path,c_1.Service.Auto,c_1.Service.On) hm)
    exact fse1
   ·refine qS ?_
    refine cM hm (fun hc24 hm=>?_) (fun hc24 hm=>?_)
    ·obtain ⟨r_28,hr_28,hm⟩:=call_elim hm
     obtain ⟨r_29,hr_29,hm⟩:=call_elim hm
     refine Wp.region fun K25 hK25=>?_
     simp only [go_sem,simprocAttr]
     try refine ⟨sd,?_⟩
     refine Rg.callX (av:=?av26) (g:=true) (fun hg=>ok_R_IsPath c_1.Setting.Key _ hr_28) si si si sg si ?cont26
     intro hv26
     simp only [go_sem,simprocAttr]
     try refine ⟨sd,?_⟩
     refine Rg.callX (av:=?av27) (g:=true) (fun hg=>ok_R_when (!r_28) 5 _ hr_29) si si si sg si ?cont27
     intro hv27
     simp only [go_sem,simprocAttr]
     refine kA hK25 ?_
     refine hW4 _ _ _ _ ?_ (hcut4 (r_29,c_1.File.Path,c_1.File.Data,c_1.File.Runs,[],c_1.Setting.Value,c_1.Service.Name,c_1.Service.Path,c_1.Service.Auto,c_1.Service.On) hm)
     exact fse1
    ·refine qS ?_
     refine cM hm (fun hc29 hm=>?_) (fun hc29 hm=>?_)
     ·obtain ⟨r_30,hr_30,hm⟩:=call_elim hm
      refine Wp.region fun K30 hK30=>?_
      simp only [go_sem,simprocAttr]
      try refine ⟨sd,?_⟩
      refine Rg.callX (av:=?av31) (g:=true) (fun hg=>ok_R_serviceError c_1.Service _ hr_30) si si si sg si ?cont31
      intro hv31
      simp only [go_sem,simprocAttr]
      refine kA hK30 ?_
      refine hW4 _ _ _ _ ?_ (hcut4 (r_30,c_1.File.Path,c_1.File.Data,c_1.File.Runs,c_1.Setting.Key,c_1.Setting.Value,[],[],false,false) hm)
      exact fse1
     ·refine qS ?_
      refine cM hm (fun hc33 hm=>?_) (fun hc33 hm=>?_)
      ·obtain ⟨r_31,hr_31,hm⟩:=call_elim hm
       obtain ⟨r_32,hr_32,hm⟩:=call_elim hm
       refine Wp.region fun K34 hK34=>?_
       simp only [go_sem,simprocAttr]
       try refine ⟨sd,?_⟩
       refine Rg.callX (av:=?av35) (g:=true) (fun hg=>ok_R_IsName c_1.Service.Name _ hr_31) si si si sg si ?cont35
       intro hv35
       simp only [go_sem,simprocAttr]
       try refine ⟨sd,?_⟩
       refine Rg.callX (av:=?av36) (g:=true) (fun hg=>ok_R_when (!r_31) 5 _ hr_32) si si si sg si ?cont36
       intro hv36
       simp only [go_sem,simprocAttr]
       refine kA hK34 ?_
       refine hW4 _ _ _ _ ?_ (hcut4 (r_32,c_1.File.Path,c_1.File.Data,c_1.File.Runs,c_1.Setting.Key,c_1.Setting.Value,[],c_1.Service.Path,c_1.Service.Auto,c_1.Service.On) hm)
       exact fse1
      ·refine qS ?_
       refine Wp.ret ?_
       refine retQ_ret ?_
       cases hm
       exact fse1
theorem ok_internal_stringslite_HasPrefix (s_1:Str) (prefix_2:Str) (z:Bool) (hm:internal_stringslite_HasPrefix s_1 prefix_2=some z):Does Tryz.prog 237 [.p (.s s_1),.p (.s prefix_2)] [] (fun r X=>r=.p (.b z)∧X=[]):=by
 unfold internal_stringslite_HasPrefix at hm
 refine dW 0 18 [.tmp 4] Tryz.func237 fun B=>?_
 refine qS ?_
 obtain ⟨c_3,hm⟩:=chk_elim hm
 refine Wp.seqR fun K2 hK2=>?_
 simp only [go_sem,simprocAttr]
 refine kA hK2 ?_
 refine Wp.ret ?_
 refine retQ_ret ?_
 cases hm
 exact fse1
theorem ok_strings_HasPrefix (s_1:Str) (prefix_2:Str) (z:Bool) (hm:strings_HasPrefix s_1 prefix_2=some z):Does Tryz.prog 211 [.p (.s s_1),.p (.s prefix_2)] [] (fun r X=>r=.p (.b z)∧X=[]):=by
 unfold strings_HasPrefix at hm
 refine dW 0 8 [.tmp 4] Tryz.func211 fun B=>?_
 refine qS ?_
 obtain ⟨r_3,hr_3,hm⟩:=call_elim hm
 refine Wp.seqR fun K2 hK2=>?_
 simp only [go_sem,simprocAttr]
 try refine ⟨sd,?_⟩
 refine Rg.callX (av:=?av3) (g:=true) (fun hg=>ok_internal_stringslite_HasPrefix s_1 prefix_2 _ hr_3) si si si sg si ?cont3
 intro hv3
 simp only [go_sem,simprocAttr]
 refine kA hK2 ?_
 refine Wp.ret ?_
 refine retQ_ret ?_
 cases hm
 exact fse1
theorem ok_R_under (path_1:Str) (dir_2:Str) (z:Bool) (hm:R_under path_1 dir_2=some z):Does Tryz.prog 157 [.p (.s path_1),.p (.s dir_2)] [] (fun r X=>r=.p (.b z)∧X=[]):=by
 unfold R_under at hm
 refine dW 0 9 [.tmp 4] Tryz.func157 fun B=>?_
 refine qS ?_
 obtain ⟨c_3,hm⟩:=chk_elim hm
 obtain ⟨r_4,hr_4,hm⟩:=call_elim hm
 refine Wp.seqR fun K2 hK2=>?_
 simp only [go_sem,simprocAttr]
 try refine ⟨sL,?_⟩
 refine Rg.callX (av:=?av3) (g:=true) (fun hg=>ok_strings_HasPrefix path_1 (dir_2++([47]:Str)) _ hr_4) si si si sg si ?cont3
 intro hv3
 simp only [go_sem,simprocAttr]
 refine kA hK2 ?_
 refine Wp.ret ?_
 refine retQ_ret ?_
 cases hm
 exact fse1
theorem ok_R_world_do_i1 (c_1:api_Change) (o0_0_2:List api_Setting) (m1_3:List (Str × api_File)) (m2_4:List (Str × Str)) (m3_5:List (Str × api_Service)) (z:Int × (List (Str × api_File)) × (List (Str × Str)) × (List (Str × api_Service))) (hm:R_world_do_i1 c_1 o0_0_2 m1_3 m2_4 m3_5=some z):Does Tryz.prog 78 [.ptr 0 0,.agg [.p (.i .i64 c_1.Kind),.p (.s c_1.File.Path),.p (.s c_1.File.Data),.p (.b c_1.File.Runs),.p (.s c_1.Setting.Key),.p (.s c_1.Setting.Value),.p (.s c_1.Service.Name),.p (.s c_1.Service.Path),.p (.b c_1.Service.Auto),.p (.b c_1.Service.On)]] [.cells 129 [.p (.l (List.map enc_api_Setting o0_0_2)),.mp 1,.mp 2,.mp 3],.mp true (encM Dt.s enc_api_File m1_3),.mp false (encM Dt.s ecS m2_4),.mp true (encM Dt.s enc_api_Service m3_5)] (fun r X=>r=.p (.i .i64 z.1)∧X=[.cells 129 [.p (.l (List.map enc_api_Setting o0_0_2)),.mp 1,.mp 2,.mp 3],.mp true (encM Dt.s enc_api_File z.2.1),.mp false (encM Dt.s ecS z.2.2.1),.mp true (encM Dt.s enc_api_Service z.2.2.2)]):=by
 unfold R_world_do_i1 at hm
 refine dW 4 208 [.tmp 4] Tryz.func78 fun B=>?_
 refine qS ?_
 refine Wp.seqW fun K2 hK2 hW2=>?_
 obtain ⟨r_139,hr_139,hm⟩:=call_elim hm
 refine Wp.seqR fun K3 hK3=>?_
 simp only [go_sem,simprocAttr]
 try refine ⟨sd,?_⟩
 refine Rg.callX (av:=?av4) (g:=true) (fun hg=>ok_R_ChangeError c_1 _ hr_139) si si si sg si ?cont4
 intro hv4
 simp only [go_sem,simprocAttr]
 refine kA hK3 ?_
 refine qS ?_
 refine cM hm (fun hc6 hm=>?_) (fun hc6 hm=>?_)
 ·refine qS ?_
  refine Wp.ret ?_
  refine retQ_ret ?_
  cases hm
  exact fse1
 ·refine Wp.skip ?_
  refine hK2 _ _ ?_
  refine Wp.seqW fun K8 hK8 hW8=>?_
  obtain ⟨k_207,hk_207,hm⟩:=jp_elim hm
  have hcut8:∀ s,k_207 s=some z→K8 [] [.cells 129 [.p (.l (List.map enc_api_Setting o0_0_2)),.mp 1,.mp 2,.mp 3],.mp true (encM Dt.s enc_api_File s.1),.mp false (encM Dt.s ecS s.2.1),.mp true (encM Dt.s enc_api_Service s.2.2)]:=by
   intro s hs
   have hm:=hk_207 _ hs
   clear hs
   obtain ⟨m1_204,m2_205,m3_206⟩:=s
   try dsimp only at hm
   try dsimp only
   refine hK8 _ _ ?_
   refine qS ?_
   refine Wp.ret ?_
   refine retQ_ret ?_
   cases hm
   exact fse1
  clear hK8 hk_207
  refine qS ?_
  refine Wp.block ?_
  refine qS ?_
  refine cM hm (fun hc12 hm=>?_) (fun hc12 hm=>?_)
  ·refine Wp.seqW fun K13 hK13 hW13=>?_
   obtain ⟨q_208,hq_209,hm⟩:=letv_elim hm
   have hq_209d:=mlookD_enc (e:=enc_api_File) keq_s m1_3 c_1.File.Path (api_File.mk [] [] false)
   have hq_209s:=mlook_some (e:=enc_api_File) keq_s m1_3 c_1.File.Path
   simp only [hq_209,enc_api_File,List.map_nil] at hq_209d hq_209s
   refine Wp.seqD (plan:=pl [(0,none),(1,none),(2,none),(3,none),(4,none),(5,none),(6,none),(7,none),(8,none),(9,none),(10,none),(11,some [0,1,2,3,4,5,6,7,8,9,10]),(12,some [10]),(13,none)]) (by kernel_rfl) rfl (by kernel_rfl) fun K14 hK14=>?_
   simp only [go_sem,simprocAttr,hq_209d,hq_209s]
   refine kA hK14 ?_
   refine qS ?_
   refine cM hm (fun hc16 hm=>?_) (fun hc16 hm=>?_)
   ·refine qS ?_
    refine Wp.ret ?_
    refine retQ_ret ?_
    cases hm
    exact fse1
   ·refine Wp.skip ?_
    refine hK13 _ _ ?_
    have hp_210:=mdel_enc (e:=enc_api_File) keq_s m1_3 c_1.File.Path
    refine Wp.regD (plan:=pl [(0,none),(1,none),(2,none),(3,none),(4,none),(5,none),(6,none),(7,some [])]) (by kernel_rfl) rfl (by kernel_rfl) fun K18 hK18=>?_
    simp only [go_sem,simprocAttr,hp_210]
    refine kA hK18 ?_
    refine hW8 _ _ _ _ ?_ (hcut8 (adel m1_3 c_1.File.Path,m2_4,m3_5) hm)
    exact fse1
  ·refine qS ?_
   refine cM hm (fun hc20 hm=>?_) (fun hc20 hm=>?_)
   ·refine Wp.seqW fun K21 hK21 hW21=>?_
    obtain ⟨q_211,hq_212,hm⟩:=letv_elim hm
    have hq_212d:=mlookD_enc (e:=ecS) keq_s m2_4 c_1.Setting.Key []
    have hq_212s:=mlook_some (e:=ecS) keq_s m2_4 c_1.Setting.Key
    simp only [hq_212,ecS,List.map_nil] at hq_212d hq_212s
    refine Wp.seqD (plan:=pl [(0,none),(1,none),(2,none),(3,none),(4,none),(5,none),(6,none),(7,none),(8,none),(9,none),(10,none),(11,none),(12,none)]) (by kernel_rfl) rfl (by kernel_rfl) fun K22 hK22=>?_
    simp only [go_sem,simprocAttr,hq_212d,hq_212s]
    refine kA hK22 ?_
    refine qS ?_
    refine cM hm (fun hc24 hm=>?_) (fun hc24 hm=>?_)
    ·refine qS ?_
     refine Wp.ret ?_
     refine retQ_ret ?_
     cases hm
     exact fse1
    ·refine Wp.skip ?_
     refine hK21 _ _ ?_
     have hp_213:=mdel_enc (e:=ecS) keq_s m2_4 c_1.Setting.Key
     refine Wp.regD (plan:=pl [(0,none),(1,none),(2,none),(3,none),(4,none),(5,none),(6,none),(7,some [])]) (by kernel_rfl) rfl (by kernel_rfl) fun K26 hK26=>?_
     simp only [go_sem,simprocAttr,hp_213]
     refine kA hK26 ?_
     refine hW8 _ _ _ _ ?_ (hcut8 (m1_3,adel m2_4 c_1.Setting.Key,m3_5) hm)
     exact fse1
   ·refine qS ?_
    refine cM hm (fun hc28 hm=>?_) (fun hc28 hm=>?_)
    ·refine Wp.seqW fun K29 hK29 hW29=>?_
     obtain ⟨q_214,hq_215,hm⟩:=letv_elim hm
     have hq_215d:=mlookD_enc (e:=enc_api_Service) keq_s m3_5 c_1.Service.Name (api_Service.mk [] [] false false)
     have hq_215s:=mlook_some (e:=enc_api_Service) keq_s m3_5 c_1.Service.Name
     simp only [hq_215,enc_api_Service,List.map_nil] at hq_215d hq_215s
     refine Wp.seqD (plan:=pl [(0,none),(1,none),(2,none),(3,none),(4,none),(5,none),(6,none),(7,none),(8,none),(9,none),(10,none),(11,some [0,1,2,3,4,5,6,7,8,9,10]),(12,some [10]),(13,none)]) (by kernel_rfl) rfl (by kernel_rfl) fun K30 hK30=>?_
     simp only [go_sem,simprocAttr,hq_215d,hq_215s]
     refine kA hK30 ?_
     refine qS ?_
     refine cM hm (fun hc32 hm=>?_) (fun hc32 hm=>?_)
     ·refine qS ?_
      refine Wp.ret ?_
      refine retQ_ret ?_
      cases hm
      exact fse1
     ·refine Wp.skip ?_
      refine hK29 _ _ ?_
      have hp_216:=mdel_enc (e:=enc_api_Service) keq_s m3_5 c_1.Service.Name
      refine Wp.regD (plan:=pl [(0,none),(1,none),(2,none),(3,none),(4,none),(5,none),(6,none),(7,some [])]) (by kernel_rfl) rfl (by kernel_rfl) fun K34 hK34=>?_
      simp only [go_sem,simprocAttr,hp_216]
      refine kA hK34 ?_
      refine hW8 _ _ _ _ ?_ (hcut8 (m1_3,m2_4,adel m3_5 c_1.Service.Name) hm)
      exact fse1
    ·refine qS ?_
     refine cM hm (fun hc36 hm=>?_) (fun hc36 hm=>?_)
     ·refine Wp.seqW fun K37 hK37 hW37=>?_
      obtain ⟨k_238,hk_238,hm⟩:=jp_elim hm
      have hcut37:∀ s,k_238 s=some z→K37 [(0,.ptr 0 0),(3,.ptr 4 0)] [.cells 129 [.p (.l (List.map enc_api_Setting o0_0_2)),.mp 1,.mp 2,.mp 3],.mp true (encM Dt.s enc_api_File m1_3),.mp false (encM Dt.s ecS m2_4),.mp true (encM Dt.s enc_api_Service m3_5),.cells 44 [.p (.i .i64 c_1.Kind),.p (.s c_1.File.Path),.p (.s c_1.File.Data),.p (.b c_1.File.Runs),.p (.s c_1.Setting.Key),.p (.s c_1.Setting.Value),.p (.s c_1.Service.Name),.p (.s c_1.Service.Path),.p (.b c_1.Service.Auto),.p (.b c_1.Service.On)]]:=by
       intro s hs
       have hm:=hk_238 _ hs
       clear hs
       try dsimp only at hm
       try dsimp only
       refine hK37 _ _ ?_
       refine Wp.seqW fun K38 hK38 hW38=>?_
       obtain ⟨q_239,hq_240,hm⟩:=letv_elim hm
       have hq_240d:=mlookD_enc (e:=enc_api_File) keq_s m1_3 c_1.File.Path (api_File.mk [] [] false)
       have hq_240s:=mlook_some (e:=enc_api_File) keq_s m1_3 c_1.File.Path
       simp only [hq_240,enc_api_File,List.map_nil] at hq_240d hq_240s
       refine Wp.seqD (plan:=pl [(0,none),(1,none),(2,none),(3,none),(4,none),(5,none),(6,none),(7,none),(8,none),(9,none),(10,none),(11,some [0,1,2,3,4,5,6,7,8,9,10]),(12,some [10]),(13,none)]) (by kernel_rfl) rfl (by kernel_rfl) fun K39 hK39=>?_
       simp only [go_sem,simprocAttr,hq_240d,hq_240s]
       refine kA hK39 ?_
       refine qS ?_
       refine cM hm (fun hc41 hm=>?_) (fun hc41 hm=>?_)
       ·refine qS ?_
        refine Wp.ret ?_
        refine retQ_ret ?_
        cases hm
        exact fse1
       ·refine Wp.skip ?_
        refine hK38 _ _ ?_
        obtain ⟨c_242,hm⟩:=chk_elim hm
        have hp_241:=mset_enc (e:=enc_api_File) keq_s m1_3 c_1.File.Path c_1.File
        simp only [enc_api_File] at hp_241
        refine Wp.regD (plan:=pl [(0,none),(1,none),(2,none),(3,none),(4,none),(5,none),(6,none),(7,none),(8,none),(9,some [])]) (by kernel_rfl) rfl (by kernel_rfl) fun K43 hK43=>?_
        simp only [go_sem,simprocAttr,hp_241]
        refine kA hK43 ?_
        refine hW8 _ _ _ _ ?_ (hcut8 (aset m1_3 c_1.File.Path c_1.File,m2_4,m3_5) hm)
        exact fse1
      clear hK37 hk_238
      refine Wp.seqR fun K44 hK44=>?_
      simp only [go_sem,simprocAttr]
      try refine ⟨sd,?_⟩
      refine Rg.range (i:=1) (ag:=?ag45) (es:=?es45) (kt:=?kt45) (et:=?et45) Is.mk Is.mk sg sg si si si ?cont45
      intro bs_243 cl_244 hb_245 hn_246 hl_247
      replace hb_245:=encM_bs hb_245
      simp only [go_sem,simprocAttr]
      refine kA hK44 ?_
      refine Wp.block ?_
      obtain ⟨k_253,hk_253,hm⟩:=forM_cont hm
      refine Wp.forM (bs:=bs_243) (fun sn_255 s=>[(0,.ptr 0 0),(3,.ptr 4 0),(128,.ptr 5 0)]) (fun sn_255 s=>[.cells 129 [.p (.l (List.map enc_api_Setting o0_0_2)),.mp 1,.mp 2,.mp 3],.mpb true (encM Dt.s enc_api_File m1_3) bs_243 cl_244,.mp false (encM Dt.s ecS m2_4),.mp true (encM Dt.s enc_api_Service m3_5),.cells 44 [.p (.i .i64 c_1.Kind),.p (.s c_1.File.Path),.p (.s c_1.File.Data),.p (.b c_1.File.Runs),.p (.s c_1.Setting.Key),.p (.s c_1.Setting.Value),.p (.s c_1.Service.Name),.p (.s c_1.Service.Path),.p (.b c_1.Service.Auto),.p (.b c_1.Service.On)],.it 1 cl_244 sn_255]) hb_245 ?_ hm ?_
      ·
       exact fse1
      clear hm
      intro sn_255 s hm
      try dsimp only at hm
      try dsimp only
      refine Wp.seqR fun K46 hK46=>?_
      simp only [go_sem,simprocAttr]
      try refine ⟨by exact sd,?_⟩
      refine Rg.next (q:=5) (i:=1) (cl:=cl_244) (bs:=bs_243) (seen:=sn_255) (ag:=?ag46) (es:=?es46) Is.mk Is.mk sg sg si si si sg ?hb46 hn_246 hl_247 ?he46 ?hs46
      case hb46=>rw [encM_len]; exact hb_245
      case he46 =>
       intro hend
       simp only [go_sem,simprocAttr]
       first | apply hK46 | refine ⟨by exact sd,hK46 _ _ ?_⟩
       refine Wp.seqW fun K47 hK47 hW47=>?_
       refine Wp.cond rfl ⟨⟩ (fun h=>?_) (fun h=>?_)
       ·cases h
       refine Wp.endM 1 5 (by simp only [go_sem,simprocAttr]; exact Is.mk) (by simp only [go_sem,simprocAttr]; exact Is.mk) (by simp only [go_sem,simprocAttr]) ?_
       simp only [go_sem,simprocAttr]
       refine Wp.exit ?_
       have hm:=hk_253 _ (forM_end hm ((left_length (m:=bs_243) hb_245 rfl).trans hend))
       try dsimp only at hm
       refine hW37 _ _ _ _ ?_ (hcut37 () hm)
       exact fse1
      case hs46 =>
       intro j_256 p_257 st_258 hok_259
       simp only [go_sem,simprocAttr]
       first | apply hK46 | refine ⟨by exact sd,hK46 _ _ ?_⟩
       refine Wp.seqW fun K47 hK47 hW47=>?_
       refine Wp.cond rfl ⟨⟩ (fun h=>?_) (fun h=>?_)
       rotate_left
       ·cases h
       refine Wp.skip ?_
       simp only [thenQ]
       refine hK47 _ _ ?_
       obtain ⟨e_260,nx_254,hx_261,hnx_254,hm⟩:=forM_step hm (hok_259.er _ hb_245).1
       replace hx_261:=(hok_259.er _ hb_245).2.2.symm.trans hx_261
       refine Wp.block ?_
       refine Wp.seqR fun K48 hK48=>?_
       simp only [go_sem,simprocAttr]
       try refine ⟨sd,?_⟩
       refine Rg.entry (q:=5) (i:=1) (cl:=cl_244) (bs:=bs_243) (seen:=sn_255) (ag:=?ag49) (es:=?es49) (d:=?d49) (row:=?row49) Is.mk Is.mk sg sg si si si hn_246 hok_259.hp ?he49 ?cont49
       case he49=>exact encM_get hx_261
       simp only [go_sem,simprocAttr]
       refine kA hK48 ?_
       obtain ⟨r_262,hr_262,hm⟩:=call_elim hm
       obtain ⟨r_263,hr_263,hm⟩:=callG_elim hm
       refine Wp.seqR fun K50 hK50=>?_
       simp only [go_sem,simprocAttr]
       try refine ⟨sd,?_⟩
       refine Rg.callX (av:=?av51) (g:=true) (fun hg=>ok_R_under e_260.1 c_1.File.Path _ hr_262) si si si sg si ?cont51
       intro hv51
       simp only [go_sem,simprocAttr]
       try refine ⟨sd,?_⟩
       refine Rg.callX (av:=?av52) (g:=!r_262) (fun hg=>ok_R_under c_1.File.Path e_260.1 _ (hr_263 hg)) si si si sg si ?cont52
       intro hv52
       simp only [go_sem,simprocAttr]
       refine kA hK50 ?_
       refine cM hm (fun hc53 hm=>?_) (fun hc53 hm=>?_)
       ·refine qS ?_
        refine Wp.endM 1 5 (by simp only [go_sem,simprocAttr]; exact Is.mk) (by simp only [go_sem,simprocAttr]; exact Is.mk) (by simp only [go_sem,simprocAttr]) ?_
        simp only [go_sem,simprocAttr]
        refine Wp.ret ?_
        refine retQ_ret ?_
        cases hm
        exact fse1
       ·refine Wp.skip ?_
        simp only [thenQ,blockQ,↓reduceIte]
        refine ⟨_,(),(forM_next hok_259 hb_245 (hnx_254 _ hm)).1,(forM_next hok_259 hb_245 (hnx_254 _ hm)).2,?_⟩
        exact fse1
     ·refine qS ?_
      refine cM hm (fun hc56 hm=>?_) (fun hc56 hm=>?_)
      ·refine Wp.seqW fun K57 hK57 hW57=>?_
       obtain ⟨q_264,hq_265,hm⟩:=letv_elim hm
       have hq_265d:=mlookD_enc (e:=ecS) keq_s m2_4 c_1.Setting.Key []
       have hq_265s:=mlook_some (e:=ecS) keq_s m2_4 c_1.Setting.Key
       simp only [hq_265,ecS,List.map_nil] at hq_265d hq_265s
       refine Wp.seqD (plan:=pl [(0,none),(1,none),(2,none),(3,none),(4,none),(5,none),(6,none),(7,none),(8,none),(9,none),(10,none),(11,none),(12,none)]) (by kernel_rfl) rfl (by kernel_rfl) fun K58 hK58=>?_
       simp only [go_sem,simprocAttr,hq_265d,hq_265s]
       refine kA hK58 ?_
       refine qS ?_
       refine cM hm (fun hc60 hm=>?_) (fun hc60 hm=>?_)
       ·refine qS ?_
        refine Wp.ret ?_
        refine retQ_ret ?_
        cases hm
        exact fse1
       ·refine Wp.skip ?_
        refine hK57 _ _ ?_
        obtain ⟨c_267,hm⟩:=chk_elim hm
        have hp_266:=mset_enc (e:=ecS) keq_s m2_4 c_1.Setting.Key c_1.Setting.Value
        simp only [ecS] at hp_266
        refine Wp.regD (plan:=pl [(0,none),(1,none),(2,none),(3,none),(4,none),(5,none),(6,none),(7,none),(8,none),(9,none),(10,some [])]) (by kernel_rfl) rfl (by kernel_rfl) fun K62 hK62=>?_
        simp only [go_sem,simprocAttr,hp_266]
        refine kA hK62 ?_
        refine hW8 _ _ _ _ ?_ (hcut8 (m1_3,aset m2_4 c_1.Setting.Key c_1.Setting.Value,m3_5) hm)
        exact fse1
      ·refine Wp.seqW fun K63 hK63 hW63=>?_
       obtain ⟨q_268,hq_269,hm⟩:=letv_elim hm
       have hq_269d:=mlookD_enc (e:=enc_api_Service) keq_s m3_5 c_1.Service.Name (api_Service.mk [] [] false false)
       have hq_269s:=mlook_some (e:=enc_api_Service) keq_s m3_5 c_1.Service.Name
       simp only [hq_269,enc_api_Service,List.map_nil] at hq_269d hq_269s
       refine Wp.seqD (plan:=pl [(0,none),(1,none),(2,none),(3,none),(4,none),(5,none),(6,none),(7,none),(8,none),(9,none),(10,none),(11,some [0,1,2,3,4,5,6,7,8,9,10]),(12,some [10]),(13,none)]) (by kernel_rfl) rfl (by kernel_rfl) fun K64 hK64=>?_
       simp only [go_sem,simprocAttr,hq_269d,hq_269s]
       refine kA hK64 ?_
       refine qS ?_
       refine cM hm (fun hc66 hm=>?_) (fun hc66 hm=>?_)
       ·refine qS ?_
        refine Wp.ret ?_
        refine retQ_ret ?_
        cases hm
        exact fse1
       ·refine Wp.skip ?_
        refine hK63 _ _ ?_
        obtain ⟨c_271,hm⟩:=chk_elim hm
        have hp_270:=mset_enc (e:=enc_api_Service) keq_s m3_5 c_1.Service.Name c_1.Service
        simp only [enc_api_Service] at hp_270
        refine Wp.regD (plan:=pl [(0,none),(1,none),(2,none),(3,none),(4,none),(5,none),(6,none),(7,none),(8,none),(9,some [])]) (by kernel_rfl) rfl (by kernel_rfl) fun K68 hK68=>?_
        simp only [go_sem,simprocAttr,hp_270]
        refine kA hK68 ?_
        refine hW8 _ _ _ _ ?_ (hcut8 (m1_3,m2_4,aset m3_5 c_1.Service.Name c_1.Service) hm)
        exact fse1
theorem ok_slices_Sort_str (o0 z:List Str) (hm:slices_Sort_str o0=some z):Does Tryz.prog 210 [.buf 0] [.fx 9 1 (List.map ecS o0)] (fun r X=>r=.tup []∧X=[.fx 9 1 (List.map ecS z)]):=by
 cases hm
 exact Does.sortS Tryz.sortL ⟨_,Tryz.func210,by kernel_rfl,by kernel_rfl⟩ 9 o0
theorem ok_R_keys_api_File_i1 (m0_1:List (Str × api_File)) (z:List Str) (hm:R_keys_api_File_i1 m0_1=some z):Does Tryz.prog 153 [.mp 0] [.mp true (encM Dt.s enc_api_File m0_1)] (fun r X=>r=.p (.l (List.map ecS z))∧X=[.mp true (encM Dt.s enc_api_File m0_1)]):=by
 unfold R_keys_api_File_i1 at hm
 refine dW 1 18 [.tmp 2] Tryz.func153 fun B=>?_
 refine qS ?_
 refine qS ?_
 refine Wp.seqW fun K3 hK3 hW3=>?_
 obtain ⟨k_75,hk_75,hm⟩:=jp_elim hm
 have hcut3:∀ s,k_75 s=some z→K3 [(3,.buf 2)] [.mp true (encM Dt.s enc_api_File m0_1),.gone,.buf 9 1 (List.map ecS s)]:=by
  intro o2_74 hs
  have hm:=hk_75 _ hs
  clear hs
  try dsimp only at hm
  try dsimp only
  refine hK3 _ _ ?_
  refine Wp.toFix 2 (by simp only [go_sem,simprocAttr]; exact Is.mk) (by simp only [go_sem,simprocAttr]) ?_
  simp only [go_sem,simprocAttr]
  obtain ⟨r_76,hr_76,hm⟩:=call_elim hm
  refine Wp.seqR fun K4 hK4=>?_
  simp only [go_sem,simprocAttr]
  try refine ⟨sd,?_⟩
  refine Rg.callO (av:=?av5) [2] (ok_slices_Sort_str o2_74 _ hr_76) si si si sg sg ?cont5
  rintro _ _ ⟨rfl,rfl⟩ hv5
  simp only [go_sem,simprocAttr]
  refine kA hK4 ?_
  refine Wp.toBuf 2 (by simp only [go_sem,simprocAttr]; exact Is.mk) (by simp only [go_sem,simprocAttr]) ?_
  simp only [go_sem,simprocAttr]
  refine qS ?_
  refine Wp.ret ?_
  refine retQ_ret ?_
  cases hm
  exact fse1
 clear hK3 hk_75
 refine Wp.seqR fun K7 hK7=>?_
 simp only [go_sem,simprocAttr]
 try refine ⟨sd,?_⟩
 refine Rg.range (i:=0) (ag:=?ag8) (es:=?es8) (kt:=?kt8) (et:=?et8) Is.mk Is.mk sg sg si si si ?cont8
 intro bs_77 cl_78 hb_79 hn_80 hl_81
 replace hb_79:=encM_bs hb_79
 simp only [go_sem,simprocAttr]
 refine kA hK7 ?_
 refine Wp.block ?_
 refine Wp.adopt 3 9 1 rfl ?_
 simp only [go_sem,simprocAttr]
 obtain ⟨k_90,hk_90,hm⟩:=forM_cont hm
 refine Wp.forM (bs:=bs_77) (fun sn_92 s=>[(3,.buf 2),(6,.ptr 1 0)]) (fun sn_92 s=>[.mpb true (encM Dt.s enc_api_File m0_1) bs_77 cl_78,.it 0 cl_78 sn_92,.buf 9 1 (List.map ecS s)]) hb_79 ?_ hm ?_
 ·
  exact fse1
 clear hm
 intro sn_92 o2_85 hm
 try dsimp only at hm
 try dsimp only
 refine Wp.seqR fun K9 hK9=>?_
 simp only [go_sem,simprocAttr]
 try refine ⟨by exact sd,?_⟩
 refine Rg.next (q:=1) (i:=0) (cl:=cl_78) (bs:=bs_77) (seen:=sn_92) (ag:=?ag9) (es:=?es9) Is.mk Is.mk sg sg si si si sg ?hb9 hn_80 hl_81 ?he9 ?hs9
 case hb9=>rw [encM_len]; exact hb_79
 case he9 =>
  intro hend
  simp only [go_sem,simprocAttr]
  first | apply hK9 | refine ⟨by exact sd,hK9 _ _ ?_⟩
  refine Wp.seqW fun K10 hK10 hW10=>?_
  refine Wp.cond rfl ⟨⟩ (fun h=>?_) (fun h=>?_)
  ·cases h
  refine Wp.endM 0 1 (by simp only [go_sem,simprocAttr]; exact Is.mk) (by simp only [go_sem,simprocAttr]; exact Is.mk) (by simp only [go_sem,simprocAttr]) ?_
  simp only [go_sem,simprocAttr]
  refine Wp.exit ?_
  have hm:=hk_90 _ (forM_end hm ((left_length (m:=bs_77) hb_79 rfl).trans hend))
  try dsimp only at hm
  refine hW3 _ _ _ _ ?_ (hcut3 o2_85 hm)
  exact fse1
 case hs9 =>
  intro j_93 p_94 st_95 hok_96
  simp only [go_sem,simprocAttr]
  first | apply hK9 | refine ⟨by exact sd,hK9 _ _ ?_⟩
  refine Wp.seqW fun K10 hK10 hW10=>?_
  refine Wp.cond rfl ⟨⟩ (fun h=>?_) (fun h=>?_)
  rotate_left
  ·cases h
  refine Wp.skip ?_
  simp only [thenQ]
  refine hK10 _ _ ?_
  obtain ⟨e_97,nx_91,hx_98,hnx_91,hm⟩:=forM_step hm (hok_96.er _ hb_79).1
  replace hx_98:=(hok_96.er _ hb_79).2.2.symm.trans hx_98
  refine Wp.block ?_
  refine Wp.seqR fun K11 hK11=>?_
  simp only [go_sem,simprocAttr]
  try refine ⟨sd,?_⟩
  refine Rg.entry (q:=1) (i:=0) (cl:=cl_78) (bs:=bs_77) (seen:=sn_92) (ag:=?ag12) (es:=?es12) (d:=?d12) (row:=?row12) Is.mk Is.mk sg sg si si si hn_80 hok_96.hp ?he12 ?cont12
  case he12=>exact encM_get hx_98
  simp only [go_sem,simprocAttr]
  refine kA hK11 ?_
  obtain ⟨c_99,hm⟩:=chk_elim hm
  refine Wp.region fun K13 hK13=>?_
  simp only [go_sem,simprocAttr]
  refine kA hK13 ?_
  simp only [thenQ,blockQ,↓reduceIte]
  refine ⟨_,o2_85++[e_97.1],(forM_next hok_96 hb_79 (hnx_91 _ hm)).1,(forM_next hok_96 hb_79 (hnx_91 _ hm)).2,?_⟩
  exact fse1
theorem ok_R_keys_string_i1 (m0_1:List (Str × Str)) (z:List Str) (hm:R_keys_string_i1 m0_1=some z):Does Tryz.prog 154 [.mp 0] [.mp false (encM Dt.s ecS m0_1)] (fun r X=>r=.p (.l (List.map ecS z))∧X=[.mp false (encM Dt.s ecS m0_1)]):=by
 unfold R_keys_string_i1 at hm
 refine dW 1 18 [.tmp 2] Tryz.func154 fun B=>?_
 refine qS ?_
 refine qS ?_
 refine Wp.seqW fun K3 hK3 hW3=>?_
 obtain ⟨k_75,hk_75,hm⟩:=jp_elim hm
 have hcut3:∀ s,k_75 s=some z→K3 [(3,.buf 2)] [.mp false (encM Dt.s ecS m0_1),.gone,.buf 9 1 (List.map ecS s)]:=by
  intro o2_74 hs
  have hm:=hk_75 _ hs
  clear hs
  try dsimp only at hm
  try dsimp only
  refine hK3 _ _ ?_
  refine Wp.toFix 2 (by simp only [go_sem,simprocAttr]; exact Is.mk) (by simp only [go_sem,simprocAttr]) ?_
  simp only [go_sem,simprocAttr]
  obtain ⟨r_76,hr_76,hm⟩:=call_elim hm
  refine Wp.seqR fun K4 hK4=>?_
  simp only [go_sem,simprocAttr]
  try refine ⟨sd,?_⟩
  refine Rg.callO (av:=?av5) [2] (ok_slices_Sort_str o2_74 _ hr_76) si si si sg sg ?cont5
  rintro _ _ ⟨rfl,rfl⟩ hv5
  simp only [go_sem,simprocAttr]
  refine kA hK4 ?_
  refine Wp.toBuf 2 (by simp only [go_sem,simprocAttr]; exact Is.mk) (by simp only [go_sem,simprocAttr]) ?_
  simp only [go_sem,simprocAttr]
  refine qS ?_
  refine Wp.ret ?_
  refine retQ_ret ?_
  cases hm
  exact fse1
 clear hK3 hk_75
 refine Wp.seqR fun K7 hK7=>?_
 simp only [go_sem,simprocAttr]
 try refine ⟨sd,?_⟩
 refine Rg.range (i:=0) (ag:=?ag8) (es:=?es8) (kt:=?kt8) (et:=?et8) Is.mk Is.mk sg sg si si si ?cont8
 intro bs_77 cl_78 hb_79 hn_80 hl_81
 replace hb_79:=encM_bs hb_79
 simp only [go_sem,simprocAttr]
 refine kA hK7 ?_
 refine Wp.block ?_
 refine Wp.adopt 3 9 1 rfl ?_
 simp only [go_sem,simprocAttr]
 obtain ⟨k_90,hk_90,hm⟩:=forM_cont hm
 refine Wp.forM (bs:=bs_77) (fun sn_92 s=>[(3,.buf 2),(6,.ptr 1 0)]) (fun sn_92 s=>[.mpb false (encM Dt.s ecS m0_1) bs_77 cl_78,.it 0 cl_78 sn_92,.buf 9 1 (List.map ecS s)]) hb_79 ?_ hm ?_
 ·
  exact fse1
 clear hm
 intro sn_92 o2_85 hm
 try dsimp only at hm
 try dsimp only
 refine Wp.seqR fun K9 hK9=>?_
 simp only [go_sem,simprocAttr]
 try refine ⟨by exact sd,?_⟩
 refine Rg.next (q:=1) (i:=0) (cl:=cl_78) (bs:=bs_77) (seen:=sn_92) (ag:=?ag9) (es:=?es9) Is.mk Is.mk sg sg si si si sg ?hb9 hn_80 hl_81 ?he9 ?hs9
 case hb9=>rw [encM_len]; exact hb_79
 case he9 =>
  intro hend
  simp only [go_sem,simprocAttr]
  first | apply hK9 | refine ⟨by exact sd,hK9 _ _ ?_⟩
  refine Wp.seqW fun K10 hK10 hW10=>?_
  refine Wp.cond rfl ⟨⟩ (fun h=>?_) (fun h=>?_)
  ·cases h
  refine Wp.endM 0 1 (by simp only [go_sem,simprocAttr]; exact Is.mk) (by simp only [go_sem,simprocAttr]; exact Is.mk) (by simp only [go_sem,simprocAttr]) ?_
  simp only [go_sem,simprocAttr]
  refine Wp.exit ?_
  have hm:=hk_90 _ (forM_end hm ((left_length (m:=bs_77) hb_79 rfl).trans hend))
  try dsimp only at hm
  refine hW3 _ _ _ _ ?_ (hcut3 o2_85 hm)
  exact fse1
 case hs9 =>
  intro j_93 p_94 st_95 hok_96
  simp only [go_sem,simprocAttr]
  first | apply hK9 | refine ⟨by exact sd,hK9 _ _ ?_⟩
  refine Wp.seqW fun K10 hK10 hW10=>?_
  refine Wp.cond rfl ⟨⟩ (fun h=>?_) (fun h=>?_)
  rotate_left
  ·cases h
  refine Wp.skip ?_
  simp only [thenQ]
  refine hK10 _ _ ?_
  obtain ⟨e_97,nx_91,hx_98,hnx_91,hm⟩:=forM_step hm (hok_96.er _ hb_79).1
  replace hx_98:=(hok_96.er _ hb_79).2.2.symm.trans hx_98
  refine Wp.block ?_
  refine Wp.seqR fun K11 hK11=>?_
  simp only [go_sem,simprocAttr]
  try refine ⟨sd,?_⟩
  refine Rg.entry (q:=1) (i:=0) (cl:=cl_78) (bs:=bs_77) (seen:=sn_92) (ag:=?ag12) (es:=?es12) (d:=?d12) (row:=?row12) Is.mk Is.mk sg sg si si si hn_80 hok_96.hp ?he12 ?cont12
  case he12=>exact encM_get hx_98
  simp only [go_sem,simprocAttr]
  refine kA hK11 ?_
  obtain ⟨c_99,hm⟩:=chk_elim hm
  refine Wp.region fun K13 hK13=>?_
  simp only [go_sem,simprocAttr]
  refine kA hK13 ?_
  simp only [thenQ,blockQ,↓reduceIte]
  refine ⟨_,o2_85++[e_97.1],(forM_next hok_96 hb_79 (hnx_91 _ hm)).1,(forM_next hok_96 hb_79 (hnx_91 _ hm)).2,?_⟩
  exact fse1
theorem ok_R_keys_api_Service_i1 (m0_1:List (Str × api_Service)) (z:List Str) (hm:R_keys_api_Service_i1 m0_1=some z):Does Tryz.prog 155 [.mp 0] [.mp true (encM Dt.s enc_api_Service m0_1)] (fun r X=>r=.p (.l (List.map ecS z))∧X=[.mp true (encM Dt.s enc_api_Service m0_1)]):=by
 unfold R_keys_api_Service_i1 at hm
 refine dW 1 18 [.tmp 2] Tryz.func155 fun B=>?_
 refine qS ?_
 refine qS ?_
 refine Wp.seqW fun K3 hK3 hW3=>?_
 obtain ⟨k_75,hk_75,hm⟩:=jp_elim hm
 have hcut3:∀ s,k_75 s=some z→K3 [(3,.buf 2)] [.mp true (encM Dt.s enc_api_Service m0_1),.gone,.buf 9 1 (List.map ecS s)]:=by
  intro o2_74 hs
  have hm:=hk_75 _ hs
  clear hs
  try dsimp only at hm
  try dsimp only
  refine hK3 _ _ ?_
  refine Wp.toFix 2 (by simp only [go_sem,simprocAttr]; exact Is.mk) (by simp only [go_sem,simprocAttr]) ?_
  simp only [go_sem,simprocAttr]
  obtain ⟨r_76,hr_76,hm⟩:=call_elim hm
  refine Wp.seqR fun K4 hK4=>?_
  simp only [go_sem,simprocAttr]
  try refine ⟨sd,?_⟩
  refine Rg.callO (av:=?av5) [2] (ok_slices_Sort_str o2_74 _ hr_76) si si si sg sg ?cont5
  rintro _ _ ⟨rfl,rfl⟩ hv5
  simp only [go_sem,simprocAttr]
  refine kA hK4 ?_
  refine Wp.toBuf 2 (by simp only [go_sem,simprocAttr]; exact Is.mk) (by simp only [go_sem,simprocAttr]) ?_
  simp only [go_sem,simprocAttr]
  refine qS ?_
  refine Wp.ret ?_
  refine retQ_ret ?_
  cases hm
  exact fse1
 clear hK3 hk_75
 refine Wp.seqR fun K7 hK7=>?_
 simp only [go_sem,simprocAttr]
 try refine ⟨sd,?_⟩
 refine Rg.range (i:=0) (ag:=?ag8) (es:=?es8) (kt:=?kt8) (et:=?et8) Is.mk Is.mk sg sg si si si ?cont8
 intro bs_77 cl_78 hb_79 hn_80 hl_81
 replace hb_79:=encM_bs hb_79
 simp only [go_sem,simprocAttr]
 refine kA hK7 ?_
 refine Wp.block ?_
 refine Wp.adopt 3 9 1 rfl ?_
 simp only [go_sem,simprocAttr]
 obtain ⟨k_90,hk_90,hm⟩:=forM_cont hm
 refine Wp.forM (bs:=bs_77) (fun sn_92 s=>[(3,.buf 2),(6,.ptr 1 0)]) (fun sn_92 s=>[.mpb true (encM Dt.s enc_api_Service m0_1) bs_77 cl_78,.it 0 cl_78 sn_92,.buf 9 1 (List.map ecS s)]) hb_79 ?_ hm ?_
 ·
  exact fse1
 clear hm
 intro sn_92 o2_85 hm
 try dsimp only at hm
 try dsimp only
 refine Wp.seqR fun K9 hK9=>?_
 simp only [go_sem,simprocAttr]
 try refine ⟨by exact sd,?_⟩
 refine Rg.next (q:=1) (i:=0) (cl:=cl_78) (bs:=bs_77) (seen:=sn_92) (ag:=?ag9) (es:=?es9) Is.mk Is.mk sg sg si si si sg ?hb9 hn_80 hl_81 ?he9 ?hs9
 case hb9=>rw [encM_len]; exact hb_79
 case he9 =>
  intro hend
  simp only [go_sem,simprocAttr]
  first | apply hK9 | refine ⟨by exact sd,hK9 _ _ ?_⟩
  refine Wp.seqW fun K10 hK10 hW10=>?_
  refine Wp.cond rfl ⟨⟩ (fun h=>?_) (fun h=>?_)
  ·cases h
  refine Wp.endM 0 1 (by simp only [go_sem,simprocAttr]; exact Is.mk) (by simp only [go_sem,simprocAttr]; exact Is.mk) (by simp only [go_sem,simprocAttr]) ?_
  simp only [go_sem,simprocAttr]
  refine Wp.exit ?_
  have hm:=hk_90 _ (forM_end hm ((left_length (m:=bs_77) hb_79 rfl).trans hend))
  try dsimp only at hm
  refine hW3 _ _ _ _ ?_ (hcut3 o2_85 hm)
  exact fse1
 case hs9 =>
  intro j_93 p_94 st_95 hok_96
  simp only [go_sem,simprocAttr]
  first | apply hK9 | refine ⟨by exact sd,hK9 _ _ ?_⟩
  refine Wp.seqW fun K10 hK10 hW10=>?_
  refine Wp.cond rfl ⟨⟩ (fun h=>?_) (fun h=>?_)
  rotate_left
  ·cases h
  refine Wp.skip ?_
  simp only [thenQ]
  refine hK10 _ _ ?_
  obtain ⟨e_97,nx_91,hx_98,hnx_91,hm⟩:=forM_step hm (hok_96.er _ hb_79).1
  replace hx_98:=(hok_96.er _ hb_79).2.2.symm.trans hx_98
  refine Wp.block ?_
  refine Wp.seqR fun K11 hK11=>?_
  simp only [go_sem,simprocAttr]
  try refine ⟨sd,?_⟩
  refine Rg.entry (q:=1) (i:=0) (cl:=cl_78) (bs:=bs_77) (seen:=sn_92) (ag:=?ag12) (es:=?es12) (d:=?d12) (row:=?row12) Is.mk Is.mk sg sg si si si hn_80 hok_96.hp ?he12 ?cont12
  case he12=>exact encM_get hx_98
  simp only [go_sem,simprocAttr]
  refine kA hK11 ?_
  obtain ⟨c_99,hm⟩:=chk_elim hm
  refine Wp.region fun K13 hK13=>?_
  simp only [go_sem,simprocAttr]
  refine kA hK13 ?_
  simp only [thenQ,blockQ,↓reduceIte]
  refine ⟨_,o2_85++[e_97.1],(forM_next hok_96 hb_79 (hnx_91 _ hm)).1,(forM_next hok_96 hb_79 (hnx_91 _ hm)).2,?_⟩
  exact fse1
end Go.Proofs.YtbofknpajcdnmaaGreatDoor
