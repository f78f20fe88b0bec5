/- That the code does what the models say (part 9). -/
import Derived.Test.YtbofknpajcdnmaaGreatDoorDmWk0
import Derived.Test.YtbofknpajcdnmaaGreatDoorDmWk1
import Derived.Test.YtbofknpajcdnmaaGreatDoorDmWk2
import Derived.Test.YtbofknpajcdnmaaGreatDoorDmWk4
import Derived.Test.YtbofknpajcdnmaaGreatDoorDmWk6
import Derived.Test.YtbofknpajcdnmaaGreatDoorDmWk7
import Derived.Test.YtbofknpajcdnmaaGreatDoorDmWk8
set_option linter.unusedSimpArgs false
set_option linter.unusedVariables false
open Go.Proofs Go.Shelf
namespace Go.Proofs.YtbofknpajcdnmaaGreatDoor
open Go.Vc Go.Md
set_option maxRecDepth 100000
set_option maxHeartbeats 4000000
theorem ok_R_Disk_Peek_i1 (o0_1_1:Bool) (o0_2_2:Int) (o0_3_3:Bool) (o0_4_4:Bool) (o0_5_5:Int) (o1_0_6:List api_Setting) (m2_7:List (Str × api_File)) (m3_8:List (Str × Str)) (m4_9:List (Str × api_Service)) (z:api_Machine) (hm:R_Disk_Peek_i1 o0_1_1 o0_2_2 o0_3_3 o0_4_4 o0_5_5 o1_0_6 m2_7 m3_8 m4_9=some z):Does Tryz.prog 25 [.ptr 0 0] [.cells 124 [.ptr 1 0,.p (.b o0_1_1),.p (.i .i64 o0_2_2),.p (.b o0_3_3),.p (.b o0_4_4),.p (.i .i64 o0_5_5)],.cells 129 [.p (.l (List.map enc_api_Setting o1_0_6)),.mp 2,.mp 3,.mp 4],.mp true (encM Dt.s enc_api_File m2_7),.mp false (encM Dt.s ecS m3_8),.mp true (encM Dt.s enc_api_Service m4_9)] (fun r X=>r=.agg [.p (.l (List.map enc_api_Setting z.Facts)),.p (.l (List.map enc_api_File z.Files)),.p (.l (List.map enc_api_Setting z.Settings)),.p (.l (List.map enc_api_Service z.Services))]∧X=[.cells 124 [.ptr 1 0,.p (.b o0_1_1),.p (.i .i64 o0_2_2),.p (.b o0_3_3),.p (.b o0_4_4),.p (.i .i64 o0_5_5)],.cells 129 [.p (.l (List.map enc_api_Setting o1_0_6)),.mp 2,.mp 3,.mp 4],.mp true (encM Dt.s enc_api_File m2_7),.mp false (encM Dt.s ecS m3_8),.mp true (encM Dt.s enc_api_Service m4_9)]):=by
 unfold R_Disk_Peek_i1 at hm
 refine dW 5 8 [.cell 2 26] Tryz.func25 fun B=>?_
 refine qS ?_
 obtain ⟨r_11,hr_11,hm⟩:=call_elim hm
 refine Wp.seqR fun K2 hK2=>?_
 simp only [go_sem,simprocAttr]
 try refine ⟨sd,?_⟩
 refine Rg.callR (av:=?av3) (g:=true) [1,2,3,4] (fun hg=>ok_R_world_machine_i1 o1_0_6 m2_7 m3_8 m4_9 _ hr_11) si si si si sg sg sg ?cont3
 simp only [go_sem,simprocAttr]
 refine kA hK2 ?_
 refine Wp.ret ?_
 refine retQ_ret ?_
 cases hm
 exact fse1
theorem ok_disk_Disk_Writes_i1 (o0_1_1:Bool) (o0_2_2:Bool) (o0_3_3:Int) (o0_4_4:Bool) (o0_5_5:Int) (o1_0_6:List api_Setting) (m2_7:List (Str × api_File)) (m3_8:List (Str × Int)) (m4_9:List (Str × api_Setting)) (m5_10:List (Str × api_Service)) (z:Int) (hm:disk_Disk_Writes_i1 o0_1_1 o0_2_2 o0_3_3 o0_4_4 o0_5_5 o1_0_6 m2_7 m3_8 m4_9 m5_10=some z):Does Tryz.prog 26 [.ptr 0 0] [.cells 114 [.ptr 1 0,.p (.b o0_1_1),.p (.b o0_2_2),.p (.i .i64 o0_3_3),.p (.b o0_4_4),.p (.i .i64 o0_5_5)],.cells 193 [.p (.l (List.map enc_api_Setting o1_0_6)),.mp 2,.mp 3,.mp 4,.mp 5],.mp true (encM Dt.s enc_api_File m2_7),.mp false (encM Dt.s ecI_i64 m3_8),.mp true (encM Dt.s enc_api_Setting m4_9),.mp true (encM Dt.s enc_api_Service m5_10)] (fun r X=>r=.p (.i .i64 z)∧X=[.cells 114 [.ptr 1 0,.p (.b o0_1_1),.p (.b o0_2_2),.p (.i .i64 o0_3_3),.p (.b o0_4_4),.p (.i .i64 o0_5_5)],.cells 193 [.p (.l (List.map enc_api_Setting o1_0_6)),.mp 2,.mp 3,.mp 4,.mp 5],.mp true (encM Dt.s enc_api_File m2_7),.mp false (encM Dt.s ecI_i64 m3_8),.mp true (encM Dt.s enc_api_Setting m4_9),.mp true (encM Dt.s enc_api_Service m5_10)]):=by
 unfold disk_Disk_Writes_i1 at hm
 refine dW 6 7 [.tmp 2] Tryz.func26 fun B=>?_
 refine qS ?_
 refine qS ?_
 refine Wp.ret ?_
 refine retQ_ret ?_
 cases hm
 exact fse1
theorem ok_R_Disk_Writes_i1 (o0_1_1:Bool) (o0_2_2:Int) (o0_3_3:Bool) (o0_4_4:Bool) (o0_5_5:Int) (o1_0_6:List api_Setting) (m2_7:List (Str × api_File)) (m3_8:List (Str × Str)) (m4_9:List (Str × api_Service)) (z:Int) (hm:R_Disk_Writes_i1 o0_1_1 o0_2_2 o0_3_3 o0_4_4 o0_5_5 o1_0_6 m2_7 m3_8 m4_9=some z):Does Tryz.prog 27 [.ptr 0 0] [.cells 124 [.ptr 1 0,.p (.b o0_1_1),.p (.i .i64 o0_2_2),.p (.b o0_3_3),.p (.b o0_4_4),.p (.i .i64 o0_5_5)],.cells 129 [.p (.l (List.map enc_api_Setting o1_0_6)),.mp 2,.mp 3,.mp 4],.mp true (encM Dt.s enc_api_File m2_7),.mp false (encM Dt.s ecS m3_8),.mp true (encM Dt.s enc_api_Service m4_9)] (fun r X=>r=.p (.i .i64 z)∧X=[.cells 124 [.ptr 1 0,.p (.b o0_1_1),.p (.i .i64 o0_2_2),.p (.b o0_3_3),.p (.b o0_4_4),.p (.i .i64 o0_5_5)],.cells 129 [.p (.l (List.map enc_api_Setting o1_0_6)),.mp 2,.mp 3,.mp 4],.mp true (encM Dt.s enc_api_File m2_7),.mp false (encM Dt.s ecS m3_8),.mp true (encM Dt.s enc_api_Service m4_9)]):=by
 unfold R_Disk_Writes_i1 at hm
 refine dW 5 7 [.tmp 2] Tryz.func27 fun B=>?_
 refine qS ?_
 refine qS ?_
 refine Wp.ret ?_
 refine retQ_ret ?_
 cases hm
 exact fse1
theorem ok_Law_DisksMatch (m_1:api_Machine) (l_2:List outlaw1_Act) (z:Bool) (hm:Law_DisksMatch m_1 l_2=some z):Does Tryz.prog 3 [.agg [.p (.l (List.map enc_api_Setting m_1.Facts)),.p (.l (List.map enc_api_File m_1.Files)),.p (.l (List.map enc_api_Setting m_1.Settings)),.p (.l (List.map enc_api_Service m_1.Services))],.p (.l (List.map enc_outlaw1_Act l_2))] [] (fun r X=>r=.p (.b z)∧X=[]):=by
 unfold Law_DisksMatch at hm
 refine dW 0 131 [.tmp 4] Tryz.func3 fun B=>?_
 refine qS ?_
 refine Wp.seqW fun K2 hK2 hW2=>?_
 obtain ⟨r_3,hr_3,hm⟩:=call_elim hm
 refine Wp.seqR fun K3 hK3=>?_
 simp only [go_sem,simprocAttr]
 try refine ⟨sd,?_⟩
 refine Rg.callX (av:=?av4) (g:=true) (fun hg=>ok_Law_landed  _ hr_3) si si si sg si ?cont4
 intro hv4
 simp only [go_sem,simprocAttr]
 refine kA hK3 ?_
 refine cM hm (fun hc5 hm=>?_) (fun hc5 hm=>?_)
 ·refine qS ?_
  refine Wp.ret ?_
  refine retQ_ret ?_
  cases hm
  exact fse1
 ·refine Wp.skip ?_
  refine hK2 _ _ ?_
  refine Wp.seqW fun K7 hK7 hW7=>?_
  obtain ⟨k_6,hk_6,hm⟩:=jp_elim hm
  have hcut7:∀ s,k_6 s=some z→K7 [(1,.p (.l (List.map enc_outlaw1_Act l_2))),(2,.ptr 0 0)] [.cells 26 [.p (.l (List.map enc_api_Setting m_1.Facts)),.p (.l (List.map enc_api_File m_1.Files)),.p (.l (List.map enc_api_Setting m_1.Settings)),.p (.l (List.map enc_api_Service m_1.Services))]]:=by
   intro s hs
   have hm:=hk_6 _ hs
   clear hs
   try dsimp only at hm
   try dsimp only
   refine hK7 _ _ ?_
   obtain ⟨r_7,hr_7,hm⟩:=call_elim hm
   refine Wp.seqR fun K8 hK8=>?_
   simp only [go_sem,simprocAttr]
   try refine ⟨sd,?_⟩
   refine Rg.callF (av:=?av9) (ok_Law_fit m_1 _ hr_7) si si sg ?cont9
   intro hv9
   simp only [go_sem,simprocAttr]
   refine kA hK8 ?_
   obtain ⟨r_8,hr_8,hm⟩:=call_elim hm
   refine Wp.seqR fun K10 hK10=>?_
   simp only [go_sem,simprocAttr]
   try refine ⟨sd,?_⟩
   refine Rg.callO (av:=?av11) [] (ok_disk_NewDisk_i2 r_7 _ hr_8) si si si sg sg ?cont11
   rintro _ _ ⟨rfl,rfl⟩ hv11
   simp only [go_sem,simprocAttr]
   refine kA hK10 ?_
   refine Wp.seqW fun K12 hK12 hW12=>?_
   refine qS ?_
   refine cM hm (fun hc14 hm=>?_) (fun hc14 hm=>?_)
   ·refine qS ?_
    refine Wp.ret ?_
    refine retQ_ret ?_
    cases hm
    exact fse1
   ·refine Wp.skip ?_
    refine hK12 _ _ ?_
    obtain ⟨r_9,hr_9,hm⟩:=call_elim hm
    refine Wp.seqR fun K16 hK16=>?_
    simp only [go_sem,simprocAttr]
    try refine ⟨sd,?_⟩
    refine Rg.callO (av:=?av17) [] (ok_R_NewDisk r_7 _ hr_9) si si si sg sg ?cont17
    rintro _ _ ⟨rfl,rfl⟩ hv17
    simp only [go_sem,simprocAttr]
    refine kA hK16 ?_
    refine Wp.seqW fun K18 hK18 hW18=>?_
    obtain ⟨k_714,hk_714,hm⟩:=jp_elim hm
    have hcut18:∀ s,k_714 s=some z→K18 [] []:=by
     intro s hs
     have hm:=hk_714 _ hs
     clear hs
     try dsimp only at hm
     try dsimp only
     refine hK18 _ _ ?_
     refine qS ?_
     refine Wp.ret ?_
     refine retQ_ret ?_
     cases hm
     exact fse1
    clear hK18 hk_714
    obtain ⟨c_715,hm⟩:=chk_elim hm
    refine Wp.seqR fun K20 hK20=>?_
    simp only [go_sem,simprocAttr]
    refine kA hK20 ?_
    refine Wp.block ?_
    obtain ⟨k_1365,hk_1365,hm⟩:=forL_cont hm
    refine Wp.fact 51 fun hl_1368=>?_
    replace hl_1368:(List.take ((min (l_2.length:Int) 30).toNat) l_2).length≤274877906944:=by
     simp only [go_sem,simprocAttr,List.length_map] at hl_1368
     omega
    refine Wp.forL (fun i_1367 s=>[(8,.ptr 8 0),(10,.ptr 15 0),(51,.p (.l (List.map enc_outlaw1_Act (List.take ((min (l_2.length:Int) 30).toNat) l_2)))),(52,.p (.i .i64 ((List.take ((min (l_2.length:Int) 30).toNat) l_2).length:Int))),(53,.p (.i .i64 (i_1367:Int)))]) (fun i_1367 s=>[.cells 26 [.top,.top,.top,.top],.cells 26 [.top,.top,.top,.top],.cells 26 [.top,.top,.top,.top],.mp true (encM Dt.s enc_api_File s.1),.mp false (encM Dt.s ecI_i64 s.2.1),.mp true (encM Dt.s enc_api_Setting s.2.2.1),.mp true (encM Dt.s enc_api_Service s.2.2.2.1),.cells 193 [.p (.l (List.map enc_api_Setting s.2.2.2.2.1)),.mp 3,.mp 4,.mp 5,.mp 6],.cells 114 [.ptr 7 0,.p (.b s.2.2.2.2.2.1),.p (.b s.2.2.2.2.2.2.1),.p (.i .i64 s.2.2.2.2.2.2.2.1),.p (.b s.2.2.2.2.2.2.2.2.1),.p (.i .i64 s.2.2.2.2.2.2.2.2.2.1)],.cells 26 [.top,.top,.top,.top],.cells 26 [.top,.top,.top,.top],.mp true (encM Dt.s enc_api_File s.2.2.2.2.2.2.2.2.2.2.1),.mp false (encM Dt.s ecS s.2.2.2.2.2.2.2.2.2.2.2.1),.mp true (encM Dt.s enc_api_Service s.2.2.2.2.2.2.2.2.2.2.2.2.1),.cells 129 [.p (.l (List.map enc_api_Setting s.2.2.2.2.2.2.2.2.2.2.2.2.2.1)),.mp 11,.mp 12,.mp 13],.cells 124 [.ptr 14 0,.p (.b s.2.2.2.2.2.2.2.2.2.2.2.2.2.2.1),.p (.i .i64 s.2.2.2.2.2.2.2.2.2.2.2.2.2.2.2.1),.p (.b s.2.2.2.2.2.2.2.2.2.2.2.2.2.2.2.2.1),.p (.b s.2.2.2.2.2.2.2.2.2.2.2.2.2.2.2.2.2.1),.p (.i .i64 s.2.2.2.2.2.2.2.2.2.2.2.2.2.2.2.2.2.2)]]) ?_ hm ?_
    ·
     exact fse1
    clear hm
    intro i_1367 s hii_1367 hm
    obtain ⟨m3_1302,m4_1303,m5_1304,m6_1305,o7_0_1306,o8_1_1307,o8_2_1308,o8_3_1309,o8_4_1310,o8_5_1311,m11_1312,m12_1313,m13_1314,o14_0_1315,o15_1_1316,o15_2_1317,o15_3_1318,o15_4_1319,o15_5_1320⟩:=s
    try dsimp only at hm
    try dsimp only
    refine qS ?_
    refine Wp.seqW fun K22 hK22 hW22=>?_
    refine Wp.cond rfl ⟨⟩ (fun hc22=>?_) (fun hc22=>?_)
    rotate_left
    ·refine Wp.exit ?_
     have hm:=hk_1365 _ (forL_end hm (ge_nat (by first | exact hc22 | simpa using hc22)))
     try dsimp only at hm
     refine hW18 _ _ _ _ ?_ (hcut18 () hm)
     exact fse1
    have hlt22:=lt_nat (by first | exact hc22 | simpa using hc22)
    have hw22:=wrap_succ hlt22 hl_1368
    obtain ⟨a_1369,nx_1366,hxa_1369,hya_1369,hnx_1366,hm⟩:=forL_step hm hlt22
    replace hxa_1369:=hxa_1369 enc_outlaw1_Act
    refine Wp.skip ?_
    simp only [thenQ]
    refine hK22 _ _ ?_
    refine Wp.seqW fun K23 hK23 hW23=>?_
    refine Wp.block ?_
    refine Wp.seqR fun K24 hK24=>?_
    simp only [go_sem,simprocAttr,hw22,hxa_1369]
    refine kA hK24 ?_
    refine Wp.seqR fun K25 hK25=>?_
    simp only [go_sem,simprocAttr,hw22,hxa_1369]
    refine kA hK25 ?_
    refine Wp.seqW fun K26 hK26 hW26=>?_
    obtain ⟨k_1396,hk_1396,hm⟩:=jp_elim hm
    have hcut26:∀ s,k_1396 s=some z→K26 [(8,.ptr 8 0),(10,.ptr 15 0),(13,.p (.b s.1)),(51,.p (.l (List.map enc_outlaw1_Act (List.take ((min (l_2.length:Int) 30).toNat) l_2)))),(52,.p (.i .i64 ((List.take ((min (l_2.length:Int) 30).toNat) l_2).length:Int))),(53,.p (.i .i64 (i_1367:Int)))] [.cells 26 [.top,.top,.top,.top],.cells 26 [.top,.top,.top,.top],.cells 26 [.top,.top,.top,.top],.mp true (encM Dt.s enc_api_File s.2.1),.mp false (encM Dt.s ecI_i64 s.2.2.1),.mp true (encM Dt.s enc_api_Setting s.2.2.2.1),.mp true (encM Dt.s enc_api_Service s.2.2.2.2.1),.cells 193 [.p (.l (List.map enc_api_Setting s.2.2.2.2.2.1)),.mp 3,.mp 4,.mp 5,.mp 6],.cells 114 [.ptr 7 0,.p (.b s.2.2.2.2.2.2.1),.p (.b s.2.2.2.2.2.2.2.1),.p (.i .i64 s.2.2.2.2.2.2.2.2.1),.p (.b s.2.2.2.2.2.2.2.2.2.1),.p (.i .i64 s.2.2.2.2.2.2.2.2.2.2.1)],.cells 26 [.top,.top,.top,.top],.cells 26 [.top,.top,.top,.top],.mp true (encM Dt.s enc_api_File s.2.2.2.2.2.2.2.2.2.2.2.1),.mp false (encM Dt.s ecS s.2.2.2.2.2.2.2.2.2.2.2.2.1),.mp true (encM Dt.s enc_api_Service s.2.2.2.2.2.2.2.2.2.2.2.2.2.1),.cells 129 [.p (.l (List.map enc_api_Setting s.2.2.2.2.2.2.2.2.2.2.2.2.2.2.1)),.mp 11,.mp 12,.mp 13],.cells 124 [.ptr 14 0,.p (.b s.2.2.2.2.2.2.2.2.2.2.2.2.2.2.2.1),.p (.i .i64 s.2.2.2.2.2.2.2.2.2.2.2.2.2.2.2.2.1),.p (.b s.2.2.2.2.2.2.2.2.2.2.2.2.2.2.2.2.2.1),.p (.b s.2.2.2.2.2.2.2.2.2.2.2.2.2.2.2.2.2.2.1),.p (.i .i64 s.2.2.2.2.2.2.2.2.2.2.2.2.2.2.2.2.2.2.2)]]:=by
     intro s hs
     have hm:=hk_1396 _ hs
     clear hs
     obtain ⟨ok_1376,m3_1377,m4_1378,m5_1379,m6_1380,o7_0_1381,o8_1_1382,o8_2_1383,o8_3_1384,o8_4_1385,o8_5_1386,m11_1387,m12_1388,m13_1389,o14_0_1390,o15_1_1391,o15_2_1392,o15_3_1393,o15_4_1394,o15_5_1395⟩:=s
     try dsimp only at hm
     try dsimp only
     refine hK26 _ _ ?_
     obtain ⟨r_1397,hr_1397,hm⟩:=call_elim hm
     refine Wp.seqR fun K27 hK27=>?_
     simp only [go_sem,simprocAttr,hw22,hxa_1369]
     try refine ⟨sd,?_⟩
     refine Rg.callR (av:=?av28) (g:=true) [8,7,3,4,5,6] (fun hg=>ok_disk_Disk_Machine_i1 o8_1_1382 o8_2_1383 o8_3_1384 o8_4_1385 o8_5_1386 o7_0_1381 m3_1377 m4_1378 m5_1379 m6_1380 _ hr_1397) (by simp only [go_sem,simprocAttr,hw22,hxa_1369]; exact Is.mk) (by simp only [go_sem,simprocAttr,hw22,hxa_1369]; exact Is.mk) (by simp only [go_sem,simprocAttr,hw22,hxa_1369]; exact Is.mk) (by simp only [go_sem,simprocAttr,hw22,hxa_1369]; exact Is.mk) (by simp only [go_sem,simprocAttr,hw22,hxa_1369]) (by simp only [go_sem,simprocAttr,hw22,hxa_1369]) (by simp only [go_sem,simprocAttr,hw22,hxa_1369]) ?cont28
     simp only [go_sem,simprocAttr,hw22,hxa_1369]
     refine kA hK27 ?_
     obtain ⟨r_1398,hr_1398,hm⟩:=call_elim hm
     refine Wp.seqR fun K29 hK29=>?_
     simp only [go_sem,simprocAttr,hw22,hxa_1369]
     try refine ⟨sd,?_⟩
     refine Rg.callR (av:=?av30) (g:=true) [15,14,11,12,13] (fun hg=>ok_R_Disk_Machine_i1 o15_1_1391 o15_2_1392 o15_3_1393 o15_4_1394 o15_5_1395 o14_0_1390 m11_1387 m12_1388 m13_1389 _ hr_1398) (by simp only [go_sem,simprocAttr,hw22,hxa_1369]; exact Is.mk) (by simp only [go_sem,simprocAttr,hw22,hxa_1369]; exact Is.mk) (by simp only [go_sem,simprocAttr,hw22,hxa_1369]; exact Is.mk) (by simp only [go_sem,simprocAttr,hw22,hxa_1369]; exact Is.mk) (by simp only [go_sem,simprocAttr,hw22,hxa_1369]) (by simp only [go_sem,simprocAttr,hw22,hxa_1369]) (by simp only [go_sem,simprocAttr,hw22,hxa_1369]) ?cont30
     simp only [go_sem,simprocAttr,hw22,hxa_1369]
     refine kA hK29 ?_
     obtain ⟨r_1399,hr_1399,hm⟩:=callG_elim hm
     obtain ⟨r_1400,hr_1400,hm⟩:=callG_elim hm
     obtain ⟨r_1401,hr_1401,hm⟩:=callG_elim hm
     obtain ⟨r_1402,hr_1402,hm⟩:=callG_elim hm
     obtain ⟨r_1403,hr_1403,hm⟩:=callG_elim hm
     obtain ⟨r_1404,hr_1404,hm⟩:=callG_elim hm
     obtain ⟨v_1405,hv_1406,hm⟩:=letv_elim hm
     refine Wp.seqR fun K31 hK31=>?_
     simp only [go_sem,simprocAttr,hw22,hxa_1369,hv_1406]
     try refine ⟨sd,?_⟩
     refine Rg.callX (av:=?av32) (g:=!((!ok_1376) || (!decide (r_1397.2=r_1398.2)))) (fun hg=>ok_R_Same r_1397.1 r_1398.1 _ (hr_1399 hg)) (by simp only [go_sem,simprocAttr,hw22,hxa_1369,hv_1406]; exact Is.mk) (by simp only [go_sem,simprocAttr,hw22,hxa_1369,hv_1406]; exact Is.mk) (by simp only [go_sem,simprocAttr,hw22,hxa_1369,hv_1406]; exact Is.mk) (by simp only [go_sem,simprocAttr,hw22,hxa_1369,hv_1406]) (by simp only [go_sem,simprocAttr,hw22,hxa_1369,hv_1406]; exact Is.mk) ?cont32
     intro hv32
     simp only [go_sem,simprocAttr,hw22,hxa_1369,hv_1406]
     try refine ⟨sd,?_⟩
     refine Rg.callR (av:=?av33) (g:=!(((!ok_1376) || (!decide (r_1397.2=r_1398.2))) || (!r_1399))) [8,7,3,4,5,6] (fun hg=>ok_disk_Disk_Peek_i1 o8_1_1382 o8_2_1383 o8_3_1384 o8_4_1385 o8_5_1386 o7_0_1381 m3_1377 m4_1378 m5_1379 m6_1380 _ (hr_1400 hg)) (by simp only [go_sem,simprocAttr,hw22,hxa_1369,hv_1406]; exact Is.mk) (by simp only [go_sem,simprocAttr,hw22,hxa_1369,hv_1406]; exact Is.mk) (by simp only [go_sem,simprocAttr,hw22,hxa_1369,hv_1406]; exact Is.mk) (by simp only [go_sem,simprocAttr,hw22,hxa_1369,hv_1406]; exact Is.mk) (by simp only [go_sem,simprocAttr,hw22,hxa_1369,hv_1406]) (by simp only [go_sem,simprocAttr,hw22,hxa_1369,hv_1406]) (by simp only [go_sem,simprocAttr,hw22,hxa_1369,hv_1406]) ?cont33
     simp only [go_sem,simprocAttr,hw22,hxa_1369,hv_1406]
     try refine ⟨sd,?_⟩
     refine Rg.callR (av:=?av34) (g:=!(((!ok_1376) || (!decide (r_1397.2=r_1398.2))) || (!r_1399))) [15,14,11,12,13] (fun hg=>ok_R_Disk_Peek_i1 o15_1_1391 o15_2_1392 o15_3_1393 o15_4_1394 o15_5_1395 o14_0_1390 m11_1387 m12_1388 m13_1389 _ (hr_1401 hg)) (by simp only [go_sem,simprocAttr,hw22,hxa_1369,hv_1406]; exact Is.mk) (by simp only [go_sem,simprocAttr,hw22,hxa_1369,hv_1406]; exact Is.mk) (by simp only [go_sem,simprocAttr,hw22,hxa_1369,hv_1406]; exact Is.mk) (by simp only [go_sem,simprocAttr,hw22,hxa_1369,hv_1406]; exact Is.mk) (by simp only [go_sem,simprocAttr,hw22,hxa_1369,hv_1406]) (by simp only [go_sem,simprocAttr,hw22,hxa_1369,hv_1406]) (by simp only [go_sem,simprocAttr,hw22,hxa_1369,hv_1406]) ?cont34
     simp only [go_sem,simprocAttr,hw22,hxa_1369,hv_1406]
     try refine ⟨sd,?_⟩
     refine Rg.callX (av:=?av35) (g:=!(((!ok_1376) || (!decide (r_1397.2=r_1398.2))) || (!r_1399))) (fun hg=>ok_R_Same r_1400 r_1401 _ (hr_1402 hg)) (by simp only [go_sem,simprocAttr,hw22,hxa_1369,hv_1406]; exact Is.mk) (by simp only [go_sem,simprocAttr,hw22,hxa_1369,hv_1406]; exact Is.mk) (by simp only [go_sem,simprocAttr,hw22,hxa_1369,hv_1406]; exact Is.mk) (by simp only [go_sem,simprocAttr,hw22,hxa_1369,hv_1406]) (by simp only [go_sem,simprocAttr,hw22,hxa_1369,hv_1406]; exact Is.mk) ?cont35
     intro hv35
     simp only [go_sem,simprocAttr,hw22,hxa_1369,hv_1406]
     try refine ⟨sd,?_⟩
     refine Rg.callR (av:=?av36) (g:=!((((!ok_1376) || (!decide (r_1397.2=r_1398.2))) || (!r_1399)) || (!r_1402))) [8,7,3,4,5,6] (fun hg=>ok_disk_Disk_Writes_i1 o8_1_1382 o8_2_1383 o8_3_1384 o8_4_1385 o8_5_1386 o7_0_1381 m3_1377 m4_1378 m5_1379 m6_1380 _ (hr_1403 hg)) (by simp only [go_sem,simprocAttr,hw22,hxa_1369,hv_1406]; exact Is.mk) (by simp only [go_sem,simprocAttr,hw22,hxa_1369,hv_1406]; exact Is.mk) (by simp only [go_sem,simprocAttr,hw22,hxa_1369,hv_1406]; exact Is.mk) (by simp only [go_sem,simprocAttr,hw22,hxa_1369,hv_1406]; exact Is.mk) (by simp only [go_sem,simprocAttr,hw22,hxa_1369,hv_1406]) (by simp only [go_sem,simprocAttr,hw22,hxa_1369,hv_1406]) (by simp only [go_sem,simprocAttr,hw22,hxa_1369,hv_1406]) ?cont36
     simp only [go_sem,simprocAttr,hw22,hxa_1369,hv_1406]
     try refine ⟨sd,?_⟩
     refine Rg.callR (av:=?av37) (g:=!((((!ok_1376) || (!decide (r_1397.2=r_1398.2))) || (!r_1399)) || (!r_1402))) [15,14,11,12,13] (fun hg=>ok_R_Disk_Writes_i1 o15_1_1391 o15_2_1392 o15_3_1393 o15_4_1394 o15_5_1395 o14_0_1390 m11_1387 m12_1388 m13_1389 _ (hr_1404 hg)) (by simp only [go_sem,simprocAttr,hw22,hxa_1369,hv_1406]; exact Is.mk) (by simp only [go_sem,simprocAttr,hw22,hxa_1369,hv_1406]; exact Is.mk) (by simp only [go_sem,simprocAttr,hw22,hxa_1369,hv_1406]; exact Is.mk) (by simp only [go_sem,simprocAttr,hw22,hxa_1369,hv_1406]; exact Is.mk) (by simp only [go_sem,simprocAttr,hw22,hxa_1369,hv_1406]) (by simp only [go_sem,simprocAttr,hw22,hxa_1369,hv_1406]) (by simp only [go_sem,simprocAttr,hw22,hxa_1369,hv_1406]) ?cont37
     simp only [go_sem,simprocAttr,hw22,hxa_1369,hv_1406]
     refine kA hK31 ?_
     refine cM hm (fun hc38 hm=>?_) (fun hc38 hm=>?_)
     ·refine Wp.seqR fun K39 hK39=>?_
      simp only [go_sem,simprocAttr,hw22,hxa_1369,hv_1406]
      refine kA hK39 ?_
      refine Wp.ret ?_
      refine retQ_ret ?_
      cases hm
      simp only [go_sem,simprocAttr,hw22,hxa_1369,hv_1406]
      try exact se1
     ·refine Wp.skip ?_
      refine hK23 _ _ ?_
      refine Wp.region fun K40 hK40=>?_
      simp only [go_sem,simprocAttr,hw22,hxa_1369,hv_1406]
      refine kA hK40 ?_
      simp only [thenQ,blockQ,↓reduceIte]
      refine ⟨(m3_1377,m4_1378,m5_1379,m6_1380,o7_0_1381,o8_1_1382,o8_2_1383,o8_3_1384,o8_4_1385,o8_5_1386,m11_1387,m12_1388,m13_1389,o14_0_1390,o15_1_1391,o15_2_1392,o15_3_1393,o15_4_1394,o15_5_1395),hlt22,hnx_1366 _ hm,?_⟩
      simp only [go_sem,simprocAttr,hw22,hxa_1369,hv_1406]
      try exact se1
    clear hK26 hk_1396
    refine Wp.seqR fun K41 hK41=>?_
    simp only [go_sem,simprocAttr,hw22,hxa_1369]
    refine kA hK41 ?_
    refine Wp.block ?_
    refine Wp.seqR fun K42 hK42=>?_
    simp only [go_sem,simprocAttr,hw22,hxa_1369]
    refine kA hK42 ?_
    refine cM hm (fun hc43 hm=>?_) (fun hc43 hm=>?_)
    ·obtain ⟨r_1407,hr_1407,hm⟩:=call_elim hm
     obtain ⟨r_1408,hr_1408,hm⟩:=call_elim hm
     refine Wp.regD (plan:=pl [(0,none),(1,none),(2,none),(4,none),(5,none),(6,none),(3,some [4,5,6]),(7,some []),(8,none),(9,none)]) (by kernel_rfl) rfl (by kernel_rfl) fun K44 hK44=>?_
     simp only [go_sem,simprocAttr,hw22,hxa_1369]
     try refine ⟨sd,?_⟩
     refine Dr.of_br (Br.callE (av:=?av45) (o:=?o45) [8,7,3,4,5,6] (ok_disk_Disk_Do_i1 a_1369.Change o8_1_1307 o8_2_1308 o8_3_1309 o8_4_1310 o8_5_1311 o7_0_1306 m3_1302 m4_1303 m5_1304 m6_1305 _ hr_1407) (by simp only [go_sem,simprocAttr,hw22,hxa_1369]; exact Is.mk) (by simp only [go_sem,simprocAttr,hw22,hxa_1369]; exact Is.mk) (by simp only [go_sem,simprocAttr,hw22,hxa_1369]; exact Is.mk) (by simp only [go_sem,simprocAttr,hw22,hxa_1369]; exact Is.mk) (by simp only [go_sem,simprocAttr,hw22,hxa_1369]; exact Is.mk) (by simp only [go_sem,simprocAttr,hw22,hxa_1369]) (by simp only [go_sem,simprocAttr,hw22,hxa_1369]) (by simp only [go_sem,simprocAttr,hw22,hxa_1369]) (by simp only [go_sem,simprocAttr,hw22,hxa_1369]) ?cont45)
     simp only [go_sem,simprocAttr,hw22,hxa_1369]
     try refine ⟨sd,?_⟩
     refine Dr.of_br (Br.callCG (av:=?av46) (o:=?o46) [15,14,11,12,13] [14,11,12,13] (ok_R_Disk_Do_i1 a_1369.Change o15_1_1316 o15_2_1317 o15_3_1318 o15_4_1319 o15_5_1320 o14_0_1315 m11_1312 m12_1313 m13_1314 _ hr_1408) (by simp only [go_sem,simprocAttr,hw22,hxa_1369]; exact Is.mk) (by simp only [go_sem,simprocAttr,hw22,hxa_1369]; exact Is.mk) (by simp only [go_sem,simprocAttr,hw22,hxa_1369]; exact Is.mk) (by simp only [go_sem,simprocAttr,hw22,hxa_1369]; exact Is.mk) (by simp only [go_sem,simprocAttr,hw22,hxa_1369]; exact Is.mk) ?hids46 ?hch46 ?hfr46 ?hok46 ?hag46 ?cont46)
     case hch46=>rfl
     case hfr46=>rfl
     case hids46=>simp only [go_sem,simprocAttr,hw22,hxa_1369]
     case hok46=>simp only [go_sem,simprocAttr,hw22,hxa_1369]
     case hag46=>first | (simp only [go_sem,simprocAttr,hw22,hxa_1369]; done) | (simp only [go_sem,simprocAttr,hw22,hxa_1369]; exact sd)
     simp only [go_sem,simprocAttr,hw22,hxa_1369]
     refine kA hK44 ?_
     refine hW26 _ _ _ _ ?_ (hcut26 (decide (r_1407.1=r_1408.1),r_1407.2.2.2.2.2.1,r_1407.2.2.2.2.2.2.1,r_1407.2.2.2.2.2.2.2.1,r_1407.2.2.2.2.2.2.2.2,o7_0_1306,r_1407.2.1,r_1407.2.2.1,r_1407.2.2.2.2.1,o8_4_1310,r_1407.2.2.2.1,r_1408.2.2.2.2.2.2.1,r_1408.2.2.2.2.2.2.2.1,r_1408.2.2.2.2.2.2.2.2,r_1408.2.2.2.2.2.1,r_1408.2.1,r_1408.2.2.2.2.1,o15_3_1318,r_1408.2.2.1,r_1408.2.2.2.1) hm)
     simp only [go_sem,simprocAttr,hw22,hxa_1369]
     try exact se1
    ·refine Wp.seqR fun K47 hK47=>?_
     simp only [go_sem,simprocAttr,hw22,hxa_1369]
     refine kA hK47 ?_
     refine cM hm (fun hc48 hm=>?_) (fun hc48 hm=>?_)
     ·obtain ⟨r_1409,hr_1409,hm⟩:=call_elim hm
      obtain ⟨r_1410,hr_1410,hm⟩:=call_elim hm
      refine Wp.regD (plan:=pl [(0,none),(1,none),(2,none),(3,none),(4,none),(6,none),(7,none),(8,none),(9,none),(10,none),(5,some [6,7,8,9,10]),(11,some []),(12,none),(13,none)]) (by kernel_rfl) rfl (by kernel_rfl) fun K49 hK49=>?_
      simp only [go_sem,simprocAttr,hw22,hxa_1369]
      try refine ⟨sd,?_⟩
      refine Dr.of_br (Br.callE (av:=?av50) (o:=?o50) [8,7,3,4,5,6] (ok_disk_Disk_Cut_i1 a_1369.After a_1369.Torn o8_1_1307 o8_2_1308 o8_3_1309 o8_4_1310 o8_5_1311 o7_0_1306 m3_1302 m4_1303 m5_1304 m6_1305 _ hr_1409) (by simp only [go_sem,simprocAttr,hw22,hxa_1369]; exact Is.mk) (by simp only [go_sem,simprocAttr,hw22,hxa_1369]; exact Is.mk) (by simp only [go_sem,simprocAttr,hw22,hxa_1369]; exact Is.mk) (by simp only [go_sem,simprocAttr,hw22,hxa_1369]; exact Is.mk) (by simp only [go_sem,simprocAttr,hw22,hxa_1369]; exact Is.mk) (by simp only [go_sem,simprocAttr,hw22,hxa_1369]) (by simp only [go_sem,simprocAttr,hw22,hxa_1369]) (by simp only [go_sem,simprocAttr,hw22,hxa_1369]) (by simp only [go_sem,simprocAttr,hw22,hxa_1369]) ?cont50)
      simp only [go_sem,simprocAttr,hw22,hxa_1369]
      try refine ⟨sd,?_⟩
      refine Dr.of_br (Br.callE (av:=?av51) (o:=?o51) [15,14,11,12,13] (ok_R_Disk_Cut_i1 a_1369.After a_1369.Torn o15_1_1316 o15_2_1317 o15_3_1318 o15_4_1319 o15_5_1320 o14_0_1315 m11_1312 m12_1313 m13_1314 _ hr_1410) (by simp only [go_sem,simprocAttr,hw22,hxa_1369]; exact Is.mk) (by simp only [go_sem,simprocAttr,hw22,hxa_1369]; exact Is.mk) (by simp only [go_sem,simprocAttr,hw22,hxa_1369]; exact Is.mk) (by simp only [go_sem,simprocAttr,hw22,hxa_1369]; exact Is.mk) (by simp only [go_sem,simprocAttr,hw22,hxa_1369]; exact Is.mk) (by simp only [go_sem,simprocAttr,hw22,hxa_1369]) (by simp only [go_sem,simprocAttr,hw22,hxa_1369]) (by simp only [go_sem,simprocAttr,hw22,hxa_1369]) (by simp only [go_sem,simprocAttr,hw22,hxa_1369]) ?cont51)
      simp only [go_sem,simprocAttr,hw22,hxa_1369]
      refine kA hK49 ?_
      refine hW26 _ _ _ _ ?_ (hcut26 (decide (r_1409.1=r_1410.1),m3_1302,m4_1303,m5_1304,m6_1305,o7_0_1306,o8_1_1307,r_1409.2.1,r_1409.2.2.1,r_1409.2.2.2,o8_5_1311,m11_1312,m12_1313,m13_1314,o14_0_1315,o15_1_1316,r_1410.2.1,r_1410.2.2.1,r_1410.2.2.2,o15_5_1320) hm)
      simp only [go_sem,simprocAttr,hw22,hxa_1369]
      try exact se1
     ·refine Wp.seqR fun K52 hK52=>?_
      simp only [go_sem,simprocAttr,hw22,hxa_1369]
      refine kA hK52 ?_
      refine cM hm (fun hc53 hm=>?_) (fun hc53 hm=>?_)
      ·obtain ⟨r_1411,hr_1411,hm⟩:=call_elim hm
       obtain ⟨r_1412,hr_1412,hm⟩:=call_elim hm
       refine Wp.region fun K54 hK54=>?_
       simp only [go_sem,simprocAttr,hw22,hxa_1369]
       try refine ⟨sd,?_⟩
       refine Rg.callC (av:=?av55) [8,7,3,4,5,6] [7,3,4,5,6] (ok_disk_Disk_On_i1 o8_1_1307 o8_2_1308 o8_3_1309 o8_4_1310 o8_5_1311 o7_0_1306 m3_1302 m4_1303 m5_1304 m6_1305 _ hr_1411) (by simp only [go_sem,simprocAttr,hw22,hxa_1369]; exact Is.mk) (by simp only [go_sem,simprocAttr,hw22,hxa_1369]; exact Is.mk) (by simp only [go_sem,simprocAttr,hw22,hxa_1369]; exact Is.mk) ?hids55 ?hch55 ?hfr55 ?hok55 ?cont55
       case hch55=>rfl
       case hfr55=>rfl
       case hids55=>simp only [go_sem,simprocAttr,hw22,hxa_1369]
       case hok55=>simp only [go_sem,simprocAttr,hw22,hxa_1369]
       rintro _ _ ⟨rfl,rfl⟩ hv55
       simp only [go_sem,simprocAttr,hw22,hxa_1369]
       try refine ⟨sd,?_⟩
       refine Rg.callC (av:=?av56) [15,14,11,12,13] [14,11,12,13] (ok_R_Disk_On_i1 o15_1_1316 o15_2_1317 o15_3_1318 o15_4_1319 o15_5_1320 o14_0_1315 m11_1312 m12_1313 m13_1314 _ hr_1412) (by simp only [go_sem,simprocAttr,hw22,hxa_1369]; exact Is.mk) (by simp only [go_sem,simprocAttr,hw22,hxa_1369]; exact Is.mk) (by simp only [go_sem,simprocAttr,hw22,hxa_1369]; exact Is.mk) ?hids56 ?hch56 ?hfr56 ?hok56 ?cont56
       case hch56=>rfl
       case hfr56=>rfl
       case hids56=>simp only [go_sem,simprocAttr,hw22,hxa_1369]
       case hok56=>simp only [go_sem,simprocAttr,hw22,hxa_1369]
       rintro _ _ ⟨rfl,rfl⟩ hv56
       simp only [go_sem,simprocAttr,hw22,hxa_1369]
       refine kA hK54 ?_
       refine hW26 _ _ _ _ ?_ (hcut26 (decide (r_1411.1=r_1412.1),r_1411.2.2.2.2.1,r_1411.2.2.2.2.2.1,r_1411.2.2.2.2.2.2.1,r_1411.2.2.2.2.2.2.2,r_1411.2.2.2.1,r_1411.2.1,r_1411.2.2.1,o8_3_1309,o8_4_1310,o8_5_1311,r_1412.2.2.2.1,r_1412.2.2.2.2.1,r_1412.2.2.2.2.2,r_1412.2.2.1,r_1412.2.1,o15_2_1317,o15_3_1318,o15_4_1319,o15_5_1320) hm)
       simp only [go_sem,simprocAttr,hw22,hxa_1369]
       try exact se1
      ·refine Wp.skip ?_
       refine hW26 _ _ _ _ ?_ (hcut26 (true,m3_1302,m4_1303,m5_1304,m6_1305,o7_0_1306,o8_1_1307,o8_2_1308,o8_3_1309,o8_4_1310,o8_5_1311,m11_1312,m12_1313,m13_1314,o14_0_1315,o15_1_1316,o15_2_1317,o15_3_1318,o15_4_1319,o15_5_1320) hm)
       simp only [go_sem,simprocAttr,hw22,hxa_1369]
       try exact se1
  clear hK7 hk_6
  obtain ⟨r_1413,hr_1413,hm⟩:=call_elim hm
  refine Wp.seqR fun K57 hK57=>?_
  simp only [go_sem,simprocAttr]
  try refine ⟨sd,?_⟩
  refine Rg.callX (av:=?av58) (g:=true) (fun hg=>ok_R_Check m_1 _ hr_1413) si si si sg si ?cont58
  intro hv58
  simp only [go_sem,simprocAttr]
  refine kA hK57 ?_
  refine qS ?_
  refine cM hm (fun hc60 hm=>?_) (fun hc60 hm=>?_)
  ·obtain ⟨r_1414,hr_1414,hm⟩:=call_elim hm
   refine Wp.seqR fun K61 hK61=>?_
   simp only [go_sem,simprocAttr]
   try refine ⟨sd,?_⟩
   refine Rg.callF (av:=?av62) (ok_disk_NewDisk_nil m_1 _ hr_1414) si si sg ?cont62
   intro hv62
   simp only [go_sem,simprocAttr]
   refine kA hK61 ?_
   refine qS ?_
   refine cM hm (fun hc64 hm=>?_) (fun hc64 hm=>?_)
   ·refine qS ?_
    refine Wp.ret ?_
    refine retQ_ret ?_
    cases hm
    exact fse1
   ·refine Wp.skip ?_
    refine hW7 _ _ _ _ ?_ (hcut7 () hm)
    exact fse1
  ·refine Wp.skip ?_
   refine hW7 _ _ _ _ ?_ (hcut7 () hm)
   exact fse1
end Go.Proofs.YtbofknpajcdnmaaGreatDoor
