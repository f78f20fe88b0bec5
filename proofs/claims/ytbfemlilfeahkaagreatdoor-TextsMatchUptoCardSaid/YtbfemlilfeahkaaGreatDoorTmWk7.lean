/- That the code does what the models say (part 7). -/
import Derived.Test.YtbfemlilfeahkaaGreatDoorTmWk0
import Derived.Test.YtbfemlilfeahkaaGreatDoorTmWk1
import Derived.Test.YtbfemlilfeahkaaGreatDoorTmWk2
import Derived.Test.YtbfemlilfeahkaaGreatDoorTmWk5
import Derived.Test.YtbfemlilfeahkaaGreatDoorTmWk6
set_option linter.unusedSimpArgs false
set_option linter.unusedVariables false
open Go.Proofs Go.Shelf
namespace Go.Proofs.YtbfemlilfeahkaaGreatDoor
open Go.Vc Go.Md
set_option maxRecDepth 100000
set_option maxHeartbeats 4000000
theorem ok_disk_machineText (m_1 : api_Machine) (z : Str) (hm : disk_machineText m_1 = some z) : Does Tryz.prog 91 [.agg [.p (.l (List.map enc_api_Setting m_1.Facts)), .p (.l (List.map enc_api_File m_1.Files)), .p (.l (List.map enc_api_Setting m_1.Settings)), .p (.l (List.map enc_api_Service m_1.Services))]] [] (fun r X => r = .p (.s z) ∧ X = []) := by
 unfold disk_machineText at hm
 refine Does.of_wp 0 57 [.tmp 2] Tryz.func91 rfl (by decide) rfl rfl (Nat.le_of_ble_eq_true rfl) fun B => ?_
 refine qS ?_
 refine qS ?_
 refine Wp.adoptB 1 5 rfl ?_
 simp only [go_sem, simprocAttr]
 refine Wp.seqW fun K3 hK3 hW3 => ?_
 obtain ⟨k_19, hk_19, hm⟩ := jp_elim hm
 have hcut3 : ∀ s, k_19 s = some z → K3 [(1, .ptr 0 0), (3, .ptr 1 0)] [.cells 26 [.p (.l (List.map enc_api_Setting m_1.Facts)), .p (.l (List.map enc_api_File m_1.Files)), .p (.l (List.map enc_api_Setting m_1.Settings)), .p (.l (List.map enc_api_Service m_1.Services))], .cells 122 [.np 1, .buf 2], .sb 5 s] := by
  intro o2_18 hs
  have hm := hk_19 _ hs
  clear hs
  try dsimp only at hm
  try dsimp only
  refine hK3 _ _ ?_
  refine Wp.seqW fun K4 hK4 hW4 => ?_
  obtain ⟨k_37, hk_37, hm⟩ := jp_elim hm
  have hcut4 : ∀ s, k_37 s = some z → K4 [(1, .ptr 0 0), (3, .ptr 1 0)] [.cells 26 [.p (.l (List.map enc_api_Setting m_1.Facts)), .p (.l (List.map enc_api_File m_1.Files)), .p (.l (List.map enc_api_Setting m_1.Settings)), .p (.l (List.map enc_api_Service m_1.Services))], .cells 122 [.np 1, .buf 2], .sb 5 s] := by
   intro o2_36 hs
   have hm := hk_37 _ hs
   clear hs
   try dsimp only at hm
   try dsimp only
   refine hK4 _ _ ?_
   refine Wp.seqW fun K5 hK5 hW5 => ?_
   obtain ⟨k_55, hk_55, hm⟩ := jp_elim hm
   have hcut5 : ∀ s, k_55 s = some z → K5 [(1, .ptr 0 0), (3, .ptr 1 0)] [.cells 26 [.p (.l (List.map enc_api_Setting m_1.Facts)), .p (.l (List.map enc_api_File m_1.Files)), .p (.l (List.map enc_api_Setting m_1.Settings)), .p (.l (List.map enc_api_Service m_1.Services))], .cells 122 [.np 1, .buf 2], .sb 5 s] := by
    intro o2_54 hs
    have hm := hk_55 _ hs
    clear hs
    try dsimp only at hm
    try dsimp only
    refine hK5 _ _ ?_
    refine Wp.seqW fun K6 hK6 hW6 => ?_
    obtain ⟨k_73, hk_73, hm⟩ := jp_elim hm
    have hcut6 : ∀ s, k_73 s = some z → K6 [(3, .ptr 1 0)] [.cells 26 [.top, .top, .top, .top], .cells 122 [.np 1, .buf 2], .sb 5 s] := by
     intro o2_72 hs
     have hm := hk_73 _ hs
     clear hs
     try dsimp only at hm
     try dsimp only
     refine hK6 _ _ ?_
     obtain ⟨r_74, hr_74, hm⟩ := call_elim hm
     refine Wp.seqR fun K7 hK7 => ?_
     simp only [go_sem, simprocAttr]
     try refine ⟨sd, ?_⟩
     refine Rg.callO (av := ?av8) [1, 2] (ok_strings_Builder_String_i1 o2_72 _ hr_74) si si si sg sg ?cont8
     rintro _ _ ⟨rfl, rfl⟩ hv8
     simp only [go_sem, simprocAttr]
     first | apply hK7 | refine ⟨sd, hK7 _ _ ?_⟩
     refine Wp.ret ?_
     refine retQ_ret ?_
     cases hm
     exact fse2
    clear hK6 hk_73
    refine qS ?_
    refine Wp.block ?_
    obtain ⟨k_84, hk_84, hm⟩ := forL_cont hm
    refine Wp.fact 46 fun hl_87 => ?_
    replace hl_87 : m_1.Services.length ≤ 274877906944 := by
     simp only [go_sem, simprocAttr, List.length_map] at hl_87
     omega
    refine Wp.forL (fun i_86 s => [(3, .ptr 1 0), (46, .p (.l (List.map enc_api_Service m_1.Services))), (47, .p (.i .i64 (m_1.Services.length : Int))), (48, .p (.i .i64 (i_86 : Int)))]) (fun i_86 s => [.cells 26 [.p (.l (List.map enc_api_Setting m_1.Facts)), .p (.l (List.map enc_api_File m_1.Files)), .p (.l (List.map enc_api_Setting m_1.Settings)), .p (.l (List.map enc_api_Service m_1.Services))], .cells 122 [.np 1, .buf 2], .sb 5 s]) ?_ hm ?_
    ·
     exact fse2
    clear hm
    intro i_86 o2_80 hii_86 hm
    try dsimp only at hm
    try dsimp only
    refine qS ?_
    refine Wp.seqW fun K11 hK11 hW11 => ?_
    refine Wp.cond rfl ⟨⟩ (fun hc11 => ?_) (fun hc11 => ?_)
    rotate_left
    ·refine Wp.exit ?_
     have hm := hk_84 _ (forL_end hm (ge_nat (by first | exact hc11 | simpa using hc11)))
     try dsimp only at hm
     refine hW6 _ _ _ _ ?_ (hcut6 o2_80 hm)
     exact fse2
    have hlt11 := lt_nat (by first | exact hc11 | simpa using hc11)
    have hw11 := wrap_succ hlt11 hl_87
    obtain ⟨s_88, nx_85, hxs_88, hys_88, hnx_85, hm⟩ := forL_step hm hlt11
    replace hxs_88 := hxs_88 enc_api_Service
    refine Wp.skip ?_
    simp only [thenQ]
    refine hK11 _ _ ?_
    refine Wp.seqW fun K12 hK12 hW12 => ?_
    refine Wp.block ?_
    refine Wp.seqR fun K13 hK13 => ?_
    simp only [go_sem, simprocAttr, hw11, hxs_88]
    first | apply hK13 | refine ⟨sd, hK13 _ _ ?_⟩
    obtain ⟨r_89, hr_89, hm⟩ := call_elim hm
    obtain ⟨r_90, hr_90, hm⟩ := call_elim hm
    refine Wp.region fun K14 hK14 => ?_
    simp only [go_sem, simprocAttr, hw11, hxs_88]
    try refine ⟨sd, ?_⟩
    refine Rg.callX (av := ?av15) (g := true) (fun hg => ok_disk_serviceLine s_88 _ hr_89) (by simp only [go_sem, simprocAttr, hw11, hxs_88]; exact Is.mk) (by simp only [go_sem, simprocAttr, hw11, hxs_88]; exact Is.mk) (by simp only [go_sem, simprocAttr, hw11, hxs_88]; exact Is.mk) (by simp only [go_sem, simprocAttr, hw11, hxs_88]) (by simp only [go_sem, simprocAttr, hw11, hxs_88]; exact Is.mk) ?cont15
    intro hv15
    simp only [go_sem, simprocAttr, hw11, hxs_88]
    try refine ⟨sd, ?_⟩
    refine Rg.callO (av := ?av16) [1, 2] (ok_strings_Builder_WriteString_i1 r_89 o2_80 _ hr_90) (by simp only [go_sem, simprocAttr, hw11, hxs_88]; exact Is.mk) (by simp only [go_sem, simprocAttr, hw11, hxs_88]; exact Is.mk) (by simp only [go_sem, simprocAttr, hw11, hxs_88]; exact Is.mk) (by simp only [go_sem, simprocAttr, hw11, hxs_88]) (by simp only [go_sem, simprocAttr, hw11, hxs_88]) ?cont16
    rintro _ _ ⟨rfl, rfl⟩ hv16
    simp only [go_sem, simprocAttr, hw11, hxs_88]
    first | apply hK14 | refine ⟨sd, hK14 _ _ ?_⟩
    refine hK12 _ _ ?_
    refine Wp.region fun K17 hK17 => ?_
    simp only [go_sem, simprocAttr, hw11, hxs_88]
    first | apply hK17 | refine ⟨sd, hK17 _ _ ?_⟩
    simp only [thenQ, blockQ, ↓reduceIte]
    refine ⟨r_90.2, hlt11, hnx_85 _ hm, ?_⟩
    simp only [go_sem, simprocAttr, hw11, hxs_88]
    try exact se2
   clear hK5 hk_55
   refine qS ?_
   refine Wp.block ?_
   obtain ⟨k_100, hk_100, hm⟩ := forL_cont hm
   refine Wp.fact 35 fun hl_103 => ?_
   replace hl_103 : m_1.Settings.length ≤ 274877906944 := by
    simp only [go_sem, simprocAttr, List.length_map] at hl_103
    omega
   refine Wp.forL (fun i_102 s => [(1, .ptr 0 0), (3, .ptr 1 0), (35, .p (.l (List.map enc_api_Setting m_1.Settings))), (36, .p (.i .i64 (m_1.Settings.length : Int))), (37, .p (.i .i64 (i_102 : Int)))]) (fun i_102 s => [.cells 26 [.p (.l (List.map enc_api_Setting m_1.Facts)), .p (.l (List.map enc_api_File m_1.Files)), .p (.l (List.map enc_api_Setting m_1.Settings)), .p (.l (List.map enc_api_Service m_1.Services))], .cells 122 [.np 1, .buf 2], .sb 5 s]) ?_ hm ?_
   ·
    exact fse2
   clear hm
   intro i_102 o2_96 hii_102 hm
   try dsimp only at hm
   try dsimp only
   refine qS ?_
   refine Wp.seqW fun K20 hK20 hW20 => ?_
   refine Wp.cond rfl ⟨⟩ (fun hc20 => ?_) (fun hc20 => ?_)
   rotate_left
   ·refine Wp.exit ?_
    have hm := hk_100 _ (forL_end hm (ge_nat (by first | exact hc20 | simpa using hc20)))
    try dsimp only at hm
    refine hW5 _ _ _ _ ?_ (hcut5 o2_96 hm)
    exact fse2
   have hlt20 := lt_nat (by first | exact hc20 | simpa using hc20)
   have hw20 := wrap_succ hlt20 hl_103
   obtain ⟨s_104, nx_101, hxs_104, hys_104, hnx_101, hm⟩ := forL_step hm hlt20
   replace hxs_104 := hxs_104 enc_api_Setting
   refine Wp.skip ?_
   simp only [thenQ]
   refine hK20 _ _ ?_
   refine Wp.seqW fun K21 hK21 hW21 => ?_
   refine Wp.block ?_
   refine Wp.seqR fun K22 hK22 => ?_
   simp only [go_sem, simprocAttr, hw20, hxs_104]
   first | apply hK22 | refine ⟨sd, hK22 _ _ ?_⟩
   obtain ⟨r_105, hr_105, hm⟩ := call_elim hm
   obtain ⟨r_106, hr_106, hm⟩ := call_elim hm
   refine Wp.region fun K23 hK23 => ?_
   simp only [go_sem, simprocAttr, hw20, hxs_104]
   try refine ⟨sd, ?_⟩
   refine Rg.callX (av := ?av24) (g := true) (fun hg => ok_disk_settingLine ([115, 101, 116] : Str) s_104 _ hr_105) (by simp only [go_sem, simprocAttr, hw20, hxs_104]; exact Is.mk) (by simp only [go_sem, simprocAttr, hw20, hxs_104]; exact Is.mk) (by simp only [go_sem, simprocAttr, hw20, hxs_104]; exact Is.mk) (by simp only [go_sem, simprocAttr, hw20, hxs_104]) (by simp only [go_sem, simprocAttr, hw20, hxs_104]; exact Is.mk) ?cont24
   intro hv24
   simp only [go_sem, simprocAttr, hw20, hxs_104]
   try refine ⟨sd, ?_⟩
   refine Rg.callO (av := ?av25) [1, 2] (ok_strings_Builder_WriteString_i1 r_105 o2_96 _ hr_106) (by simp only [go_sem, simprocAttr, hw20, hxs_104]; exact Is.mk) (by simp only [go_sem, simprocAttr, hw20, hxs_104]; exact Is.mk) (by simp only [go_sem, simprocAttr, hw20, hxs_104]; exact Is.mk) (by simp only [go_sem, simprocAttr, hw20, hxs_104]) (by simp only [go_sem, simprocAttr, hw20, hxs_104]) ?cont25
   rintro _ _ ⟨rfl, rfl⟩ hv25
   simp only [go_sem, simprocAttr, hw20, hxs_104]
   first | apply hK23 | refine ⟨sd, hK23 _ _ ?_⟩
   refine hK21 _ _ ?_
   refine Wp.region fun K26 hK26 => ?_
   simp only [go_sem, simprocAttr, hw20, hxs_104]
   first | apply hK26 | refine ⟨sd, hK26 _ _ ?_⟩
   simp only [thenQ, blockQ, ↓reduceIte]
   refine ⟨r_106.2, hlt20, hnx_101 _ hm, ?_⟩
   simp only [go_sem, simprocAttr, hw20, hxs_104]
   try exact se2
  clear hK4 hk_37
  refine qS ?_
  refine Wp.block ?_
  obtain ⟨k_116, hk_116, hm⟩ := forL_cont hm
  refine Wp.fact 24 fun hl_119 => ?_
  replace hl_119 : m_1.Files.length ≤ 274877906944 := by
   simp only [go_sem, simprocAttr, List.length_map] at hl_119
   omega
  refine Wp.forL (fun i_118 s => [(1, .ptr 0 0), (3, .ptr 1 0), (24, .p (.l (List.map enc_api_File m_1.Files))), (25, .p (.i .i64 (m_1.Files.length : Int))), (26, .p (.i .i64 (i_118 : Int)))]) (fun i_118 s => [.cells 26 [.p (.l (List.map enc_api_Setting m_1.Facts)), .p (.l (List.map enc_api_File m_1.Files)), .p (.l (List.map enc_api_Setting m_1.Settings)), .p (.l (List.map enc_api_Service m_1.Services))], .cells 122 [.np 1, .buf 2], .sb 5 s]) ?_ hm ?_
  ·
   exact fse2
  clear hm
  intro i_118 o2_112 hii_118 hm
  try dsimp only at hm
  try dsimp only
  refine qS ?_
  refine Wp.seqW fun K29 hK29 hW29 => ?_
  refine Wp.cond rfl ⟨⟩ (fun hc29 => ?_) (fun hc29 => ?_)
  rotate_left
  ·refine Wp.exit ?_
   have hm := hk_116 _ (forL_end hm (ge_nat (by first | exact hc29 | simpa using hc29)))
   try dsimp only at hm
   refine hW4 _ _ _ _ ?_ (hcut4 o2_112 hm)
   exact fse2
  have hlt29 := lt_nat (by first | exact hc29 | simpa using hc29)
  have hw29 := wrap_succ hlt29 hl_119
  obtain ⟨f_120, nx_117, hxf_120, hyf_120, hnx_117, hm⟩ := forL_step hm hlt29
  replace hxf_120 := hxf_120 enc_api_File
  refine Wp.skip ?_
  simp only [thenQ]
  refine hK29 _ _ ?_
  refine Wp.seqW fun K30 hK30 hW30 => ?_
  refine Wp.block ?_
  refine Wp.seqR fun K31 hK31 => ?_
  simp only [go_sem, simprocAttr, hw29, hxf_120]
  first | apply hK31 | refine ⟨sd, hK31 _ _ ?_⟩
  obtain ⟨r_121, hr_121, hm⟩ := call_elim hm
  obtain ⟨r_122, hr_122, hm⟩ := call_elim hm
  refine Wp.region fun K32 hK32 => ?_
  simp only [go_sem, simprocAttr, hw29, hxf_120]
  try refine ⟨sd, ?_⟩
  refine Rg.callX (av := ?av33) (g := true) (fun hg => ok_disk_fileLine ([102, 105, 108, 101] : Str) ([114, 117, 110] : Str) f_120 _ hr_121) (by simp only [go_sem, simprocAttr, hw29, hxf_120]; exact Is.mk) (by simp only [go_sem, simprocAttr, hw29, hxf_120]; exact Is.mk) (by simp only [go_sem, simprocAttr, hw29, hxf_120]; exact Is.mk) (by simp only [go_sem, simprocAttr, hw29, hxf_120]) (by simp only [go_sem, simprocAttr, hw29, hxf_120]; exact Is.mk) ?cont33
  intro hv33
  simp only [go_sem, simprocAttr, hw29, hxf_120]
  try refine ⟨sd, ?_⟩
  refine Rg.callO (av := ?av34) [1, 2] (ok_strings_Builder_WriteString_i1 r_121 o2_112 _ hr_122) (by simp only [go_sem, simprocAttr, hw29, hxf_120]; exact Is.mk) (by simp only [go_sem, simprocAttr, hw29, hxf_120]; exact Is.mk) (by simp only [go_sem, simprocAttr, hw29, hxf_120]; exact Is.mk) (by simp only [go_sem, simprocAttr, hw29, hxf_120]) (by simp only [go_sem, simprocAttr, hw29, hxf_120]) ?cont34
  rintro _ _ ⟨rfl, rfl⟩ hv34
  simp only [go_sem, simprocAttr, hw29, hxf_120]
  first | apply hK32 | refine ⟨sd, hK32 _ _ ?_⟩
  refine hK30 _ _ ?_
  refine Wp.region fun K35 hK35 => ?_
  simp only [go_sem, simprocAttr, hw29, hxf_120]
  first | apply hK35 | refine ⟨sd, hK35 _ _ ?_⟩
  simp only [thenQ, blockQ, ↓reduceIte]
  refine ⟨r_122.2, hlt29, hnx_117 _ hm, ?_⟩
  simp only [go_sem, simprocAttr, hw29, hxf_120]
  try exact se2
 clear hK3 hk_19
 refine qS ?_
 refine Wp.block ?_
 obtain ⟨k_132, hk_132, hm⟩ := forL_cont hm
 refine Wp.fact 13 fun hl_135 => ?_
 replace hl_135 : m_1.Facts.length ≤ 274877906944 := by
  simp only [go_sem, simprocAttr, List.length_map] at hl_135
  omega
 refine Wp.forL (fun i_134 s => [(1, .ptr 0 0), (3, .ptr 1 0), (13, .p (.l (List.map enc_api_Setting m_1.Facts))), (14, .p (.i .i64 (m_1.Facts.length : Int))), (15, .p (.i .i64 (i_134 : Int)))]) (fun i_134 s => [.cells 26 [.p (.l (List.map enc_api_Setting m_1.Facts)), .p (.l (List.map enc_api_File m_1.Files)), .p (.l (List.map enc_api_Setting m_1.Settings)), .p (.l (List.map enc_api_Service m_1.Services))], .cells 122 [.np 1, .buf 2], .sb 5 s]) ?_ hm ?_
 ·
  exact fse2
 clear hm
 intro i_134 o2_128 hii_134 hm
 try dsimp only at hm
 try dsimp only
 refine qS ?_
 refine Wp.seqW fun K38 hK38 hW38 => ?_
 refine Wp.cond rfl ⟨⟩ (fun hc38 => ?_) (fun hc38 => ?_)
 rotate_left
 ·refine Wp.exit ?_
  have hm := hk_132 _ (forL_end hm (ge_nat (by first | exact hc38 | simpa using hc38)))
  try dsimp only at hm
  refine hW3 _ _ _ _ ?_ (hcut3 o2_128 hm)
  exact fse2
 have hlt38 := lt_nat (by first | exact hc38 | simpa using hc38)
 have hw38 := wrap_succ hlt38 hl_135
 obtain ⟨s_136, nx_133, hxs_136, hys_136, hnx_133, hm⟩ := forL_step hm hlt38
 replace hxs_136 := hxs_136 enc_api_Setting
 refine Wp.skip ?_
 simp only [thenQ]
 refine hK38 _ _ ?_
 refine Wp.seqW fun K39 hK39 hW39 => ?_
 refine Wp.block ?_
 refine Wp.seqR fun K40 hK40 => ?_
 simp only [go_sem, simprocAttr, hw38, hxs_136]
 first | apply hK40 | refine ⟨sd, hK40 _ _ ?_⟩
 obtain ⟨r_137, hr_137, hm⟩ := call_elim hm
 obtain ⟨r_138, hr_138, hm⟩ := call_elim hm
 refine Wp.region fun K41 hK41 => ?_
 simp only [go_sem, simprocAttr, hw38, hxs_136]
 try refine ⟨sd, ?_⟩
 refine Rg.callX (av := ?av42) (g := true) (fun hg => ok_disk_settingLine ([102, 97, 99, 116] : Str) s_136 _ hr_137) (by simp only [go_sem, simprocAttr, hw38, hxs_136]; exact Is.mk) (by simp only [go_sem, simprocAttr, hw38, hxs_136]; exact Is.mk) (by simp only [go_sem, simprocAttr, hw38, hxs_136]; exact Is.mk) (by simp only [go_sem, simprocAttr, hw38, hxs_136]) (by simp only [go_sem, simprocAttr, hw38, hxs_136]; exact Is.mk) ?cont42
 intro hv42
 simp only [go_sem, simprocAttr, hw38, hxs_136]
 try refine ⟨sd, ?_⟩
 refine Rg.callO (av := ?av43) [1, 2] (ok_strings_Builder_WriteString_i1 r_137 o2_128 _ hr_138) (by simp only [go_sem, simprocAttr, hw38, hxs_136]; exact Is.mk) (by simp only [go_sem, simprocAttr, hw38, hxs_136]; exact Is.mk) (by simp only [go_sem, simprocAttr, hw38, hxs_136]; exact Is.mk) (by simp only [go_sem, simprocAttr, hw38, hxs_136]) (by simp only [go_sem, simprocAttr, hw38, hxs_136]) ?cont43
 rintro _ _ ⟨rfl, rfl⟩ hv43
 simp only [go_sem, simprocAttr, hw38, hxs_136]
 first | apply hK41 | refine ⟨sd, hK41 _ _ ?_⟩
 refine hK39 _ _ ?_
 refine Wp.region fun K44 hK44 => ?_
 simp only [go_sem, simprocAttr, hw38, hxs_136]
 first | apply hK44 | refine ⟨sd, hK44 _ _ ?_⟩
 simp only [thenQ, blockQ, ↓reduceIte]
 refine ⟨r_138.2, hlt38, hnx_133 _ hm, ?_⟩
 simp only [go_sem, simprocAttr, hw38, hxs_136]
 try exact se2
theorem ok_disk_sized (s_1 : Str) (z : Str × Int) (hm : disk_sized s_1 = some z) : Does Tryz.prog 90 [.p (.s s_1)] [] (fun r X => r = .tup [.p (.s z.1), .p (.i .i64 z.2)] ∧ X = []) := by
 unfold disk_sized at hm
 refine Does.of_wp 0 8 [.tmp 2, .tmp 3] Tryz.func90 rfl (by decide) rfl rfl (Nat.le_of_ble_eq_true rfl) fun B => ?_
 refine qS ?_
 refine Wp.seqW fun K2 hK2 hW2 => ?_
 refine qS ?_
 refine cM hm (fun hc4 hm => ?_) (fun hc4 hm => ?_)
 ·refine qS ?_
  refine Wp.ret ?_
  refine retQ_ret ?_
  cases hm
  exact fse2
 ·refine Wp.skip ?_
  refine hK2 _ _ ?_
  refine qS ?_
  refine Wp.ret ?_
  refine retQ_ret ?_
  cases hm
  exact fse2
theorem ok_disk_Print (m_1 : api_Machine) (z : Str × Int) (hm : disk_Print m_1 = some z) : Does Tryz.prog 32 [.agg [.p (.l (List.map enc_api_Setting m_1.Facts)), .p (.l (List.map enc_api_File m_1.Files)), .p (.l (List.map enc_api_Setting m_1.Settings)), .p (.l (List.map enc_api_Service m_1.Services))]] [] (fun r X => r = .tup [.p (.s z.1), .p (.i .i64 z.2)] ∧ X = []) := by
 unfold disk_Print at hm
 refine Does.of_wp 0 15 [.tmp 2, .tmp 3] Tryz.func32 rfl (by decide) rfl rfl (Nat.le_of_ble_eq_true rfl) fun B => ?_
 refine qS ?_
 refine Wp.seqW fun K2 hK2 hW2 => ?_
 obtain ⟨r_2, hr_2, hm⟩ := call_elim hm
 refine Wp.seqR fun K3 hK3 => ?_
 simp only [go_sem, simprocAttr]
 try refine ⟨sd, ?_⟩
 refine Rg.callX (av := ?av4) (g := true) (fun hg => ok_disk_Check m_1 _ hr_2) si si si sg si ?cont4
 intro hv4
 simp only [go_sem, simprocAttr]
 first | apply hK3 | refine ⟨sd, hK3 _ _ ?_⟩
 refine qS ?_
 refine cM hm (fun hc6 hm => ?_) (fun hc6 hm => ?_)
 ·refine qS ?_
  refine Wp.ret ?_
  refine retQ_ret ?_
  cases hm
  exact fse2
 ·refine Wp.skip ?_
  refine hK2 _ _ ?_
  obtain ⟨r_3, hr_3, hm⟩ := call_elim hm
  obtain ⟨r_4, hr_4, hm⟩ := call_elim hm
  refine Wp.seqR fun K8 hK8 => ?_
  simp only [go_sem, simprocAttr]
  try refine ⟨sd, ?_⟩
  refine Rg.callX (av := ?av9) (g := true) (fun hg => ok_disk_machineText m_1 _ hr_3) si si si sg si ?cont9
  intro hv9
  simp only [go_sem, simprocAttr]
  try refine ⟨sd, ?_⟩
  refine Rg.callX (av := ?av10) (g := true) (fun hg => ok_disk_sized r_3 _ hr_4) si si si sg si ?cont10
  intro hv10
  simp only [go_sem, simprocAttr]
  first | apply hK8 | refine ⟨sd, hK8 _ _ ?_⟩
  refine Wp.ret ?_
  refine retQ_ret ?_
  cases hm
  exact fse2
theorem ok_internal_stringslite_Cut (s_1 : Str) (sep_2 : Str) (z : Str × Str × Bool) (hm : internal_stringslite_Cut s_1 sep_2 = some z) : Does Tryz.prog 186 [.p (.s s_1), .p (.s sep_2)] [] (fun r X => r = .tup [.p (.s z.1), .p (.s z.2.1), .p (.b z.2.2)] ∧ X = []) := by
 unfold internal_stringslite_Cut at hm
 refine Does.of_wp 0 23 [.tmp 4, .tmp 5, .tmp 6] Tryz.func186 rfl (by decide) rfl rfl (Nat.le_of_ble_eq_true rfl) fun B => ?_
 refine qS ?_
 refine Wp.seqW fun K2 hK2 hW2 => ?_
 obtain ⟨r_3, hr_3, hm⟩ := call_elim hm
 refine Wp.seqR fun K3 hK3 => ?_
 simp only [go_sem, simprocAttr]
 try refine ⟨sd, ?_⟩
 refine Rg.callX (av := ?av4) (g := true) (fun hg => ok_internal_stringslite_Index s_1 sep_2 _ hr_3) si si si sg si ?cont4
 intro hv4
 simp only [go_sem, simprocAttr]
 first | apply hK3 | refine ⟨sd, hK3 _ _ ?_⟩
 refine qS ?_
 refine cM hm (fun hc6 hm => ?_) (fun hc6 hm => ?_)
 ·obtain ⟨c_4, hm⟩ := chk_elim hm
  obtain ⟨c_5, hm⟩ := chk_elim hm
  refine Wp.seqD (plan := [(0, none), (1, none), (2, none), (3, none), (4, none), (5, none), (6, none), (7, none), (8, none), (9, none), (10, none), (11, none)]) (by kernel_rfl) rfl (by kernel_rfl) fun K7 hK7 => ?_
  simp only [go_sem, simprocAttr]
  first | apply hK7 | refine ⟨by first | exact sd | ((repeat' apply And.intro) <;> first | assumption | omega | (simp only [List.length_append, List.length_map, List.length_cons, List.length_nil, List.length_set, List.length_replicate] at c_4 c_5 ⊢; omega)), hK7 _ _ ?_⟩
  refine Wp.ret ?_
  refine retQ_ret ?_
  cases hm
  exact fse2
 ·refine Wp.skip ?_
  refine hK2 _ _ ?_
  refine qS ?_
  refine Wp.ret ?_
  refine retQ_ret ?_
  cases hm
  exact fse2
theorem ok_strings_Cut (s_1 : Str) (sep_2 : Str) (z : Str × Str × Bool) (hm : strings_Cut s_1 sep_2 = some z) : Does Tryz.prog 147 [.p (.s s_1), .p (.s sep_2)] [] (fun r X => r = .tup [.p (.s z.1), .p (.s z.2.1), .p (.b z.2.2)] ∧ X = []) := by
 unfold strings_Cut at hm
 refine Does.of_wp 0 13 [.tmp 4, .tmp 5, .tmp 6] Tryz.func147 rfl (by decide) rfl rfl (Nat.le_of_ble_eq_true rfl) fun B => ?_
 refine qS ?_
 obtain ⟨r_3, hr_3, hm⟩ := call_elim hm
 refine Wp.seqR fun K2 hK2 => ?_
 simp only [go_sem, simprocAttr]
 try refine ⟨sd, ?_⟩
 refine Rg.callX (av := ?av3) (g := true) (fun hg => ok_internal_stringslite_Cut s_1 sep_2 _ hr_3) si si si sg si ?cont3
 intro hv3
 simp only [go_sem, simprocAttr]
 first | apply hK2 | refine ⟨sd, hK2 _ _ ?_⟩
 refine Wp.ret ?_
 refine retQ_ret ?_
 cases hm
 exact fse2
theorem ok_disk_isBit (s_1 : Str) (z : Bool) (hm : disk_isBit s_1 = some z) : Does Tryz.prog 187 [.p (.s s_1)] [] (fun r X => r = .p (.b z) ∧ X = []) := by
 unfold disk_isBit at hm
 refine Does.of_wp 0 9 [.tmp 2] Tryz.func187 rfl (by decide) rfl rfl (Nat.le_of_ble_eq_true rfl) fun B => ?_
 refine qS ?_
 refine qS ?_
 refine Wp.ret ?_
 refine retQ_ret ?_
 cases hm
 exact fse3
theorem ok_disk_readLine (s_1 : Str) (z : disk_line × Bool) (hm : disk_readLine s_1 = some z) : Does Tryz.prog 148 [.p (.s s_1)] [] (fun r X => r = .tup [.agg [.p (.s z.1.word), .p (.s z.1.file.Path), .p (.s z.1.file.Data), .p (.b z.1.file.Runs), .p (.s z.1.setting.Key), .p (.s z.1.setting.Value), .p (.s z.1.service.Name), .p (.s z.1.service.Path), .p (.b z.1.service.Auto), .p (.b z.1.service.On)], .p (.b z.2)] ∧ X = []) := by
 unfold disk_readLine at hm
 refine Does.of_wp 0 147 [.cell 2 117, .tmp 3] Tryz.func148 rfl (by decide) rfl rfl (Nat.le_of_ble_eq_true rfl) fun B => ?_
 refine qS ?_
 obtain ⟨r_2, hr_2, hm⟩ := call_elim hm
 refine Wp.seqR fun K2 hK2 => ?_
 simp only [go_sem, simprocAttr]
 try refine ⟨sd, ?_⟩
 refine Rg.callX (av := ?av3) (g := true) (fun hg => ok_strings_Cut s_1 ([32] : Str) _ hr_2) si si si sg si ?cont3
 intro hv3
 simp only [go_sem, simprocAttr]
 first | apply hK2 | refine ⟨sd, hK2 _ _ ?_⟩
 obtain ⟨r_3, hr_3, hm⟩ := call_elim hm
 refine Wp.seqR fun K4 hK4 => ?_
 simp only [go_sem, simprocAttr]
 try refine ⟨sd, ?_⟩
 refine Rg.callX (av := ?av5) (g := true) (fun hg => ok_strings_Cut r_2.2.1 ([32] : Str) _ hr_3) si si si sg si ?cont5
 intro hv5
 simp only [go_sem, simprocAttr]
 first | apply hK4 | refine ⟨sd, hK4 _ _ ?_⟩
 refine Wp.seqW fun K6 hK6 hW6 => ?_
 refine qS ?_
 refine cM hm (fun hc8 hm => ?_) (fun hc8 hm => ?_)
 ·refine qS ?_
  refine Wp.ret ?_
  refine retQ_ret ?_
  cases hm
  exact fse3
 ·refine Wp.skip ?_
  refine hK6 _ _ ?_
  refine qS ?_
  refine Wp.seqW fun K11 hK11 hW11 => ?_
  refine qS ?_
  refine Wp.block ?_
  refine Wp.seqW fun K13 hK13 hW13 => ?_
  obtain ⟨k_5, hk_5, hm⟩ := jp_elim hm
  have hcut13 : ∀ s, k_5 s = some z → K13 [(2, .ptr 0 0), (4, .p (.s r_2.1)), (7, .p (.s r_3.1)), (8, .p (.s r_3.2.1)), (9, .p (.b r_3.2.2)), (10, .ptr 1 0), (37, .p (.s r_2.1)), (38, .p (.b s))] [.cells 117 [.p (.s []), .p (.s []), .p (.s []), .p (.b false), .p (.s []), .p (.s []), .p (.s []), .p (.s []), .p (.b false), .p (.b false)], .cells 117 [.p (.s r_2.1), .p (.s []), .p (.s []), .p (.b false), .p (.s []), .p (.s []), .p (.s []), .p (.s []), .p (.b false), .p (.b false)]] := by
   intro t38_4 hs
   have hm := hk_5 _ hs
   clear hs
   try dsimp only at hm
   try dsimp only
   refine hK13 _ _ ?_
   refine cM hm (fun hc14 hm => ?_) (fun hc14 hm => ?_)
   ·obtain ⟨r_6, hr_6, hm⟩ := call_elim hm
    refine Wp.seqR fun K15 hK15 => ?_
    simp only [go_sem, simprocAttr]
    try refine ⟨sd, ?_⟩
    refine Rg.callX (av := ?av16) (g := true) (fun hg => ok_disk_Unquote r_3.2.1 _ hr_6) si si si sg si ?cont16
    intro hv16
    simp only [go_sem, simprocAttr]
    first | apply hK15 | refine ⟨sd, hK15 _ _ ?_⟩
    refine qS ?_
    refine qS ?_
    refine Wp.ret ?_
    refine retQ_ret ?_
    cases hm
    exact fse3
   ·refine Wp.seqW fun K19 hK19 hW19 => ?_
    obtain ⟨k_8, hk_8, hm⟩ := jp_elim hm
    have hcut19 : ∀ s, k_8 s = some z → K19 [(2, .ptr 0 0), (4, .p (.s r_2.1)), (7, .p (.s r_3.1)), (8, .p (.s r_3.2.1)), (9, .p (.b r_3.2.2)), (10, .ptr 1 0), (37, .p (.s r_2.1)), (56, .p (.b s))] [.cells 117 [.p (.s []), .p (.s []), .p (.s []), .p (.b false), .p (.s []), .p (.s []), .p (.s []), .p (.s []), .p (.b false), .p (.b false)], .cells 117 [.p (.s r_2.1), .p (.s []), .p (.s []), .p (.b false), .p (.s []), .p (.s []), .p (.s []), .p (.s []), .p (.b false), .p (.b false)]] := by
     intro t56_7 hs
     have hm := hk_8 _ hs
     clear hs
     try dsimp only at hm
     try dsimp only
     refine hK19 _ _ ?_
     refine cM hm (fun hc20 hm => ?_) (fun hc20 hm => ?_)
     ·obtain ⟨r_9, hr_9, hm⟩ := call_elim hm
      refine Wp.seqR fun K21 hK21 => ?_
      simp only [go_sem, simprocAttr]
      try refine ⟨sd, ?_⟩
      refine Rg.callX (av := ?av22) (g := true) (fun hg => ok_disk_Unquote r_3.2.1 _ hr_9) si si si sg si ?cont22
      intro hv22
      simp only [go_sem, simprocAttr]
      first | apply hK21 | refine ⟨sd, hK21 _ _ ?_⟩
      refine qS ?_
      refine qS ?_
      refine Wp.ret ?_
      refine retQ_ret ?_
      cases hm
      exact fse3
     ·refine qS ?_
      refine cM hm (fun hc26 hm => ?_) (fun hc26 hm => ?_)
      ·obtain ⟨r_10, hr_10, hm⟩ := call_elim hm
       refine Wp.seqR fun K27 hK27 => ?_
       simp only [go_sem, simprocAttr]
       try refine ⟨sd, ?_⟩
       refine Rg.callF (av := ?av28) (ok_strings_Split r_3.2.1 ([32] : Str) _ hr_10) si si sg ?cont28
       intro hv28
       simp only [go_sem, simprocAttr]
       first | apply hK27 | refine ⟨sd, hK27 _ _ ?_⟩
       refine Wp.seqW fun K29 hK29 hW29 => ?_
       obtain ⟨c_11, hm⟩ := chk_elim hm
       obtain ⟨c_12, hm⟩ := chk_elim hm
       obtain ⟨r_13, hr_13, hm⟩ := callG_elim hm
       obtain ⟨c_14, hm⟩ := chk_elim hm
       obtain ⟨r_15, hr_15, hm⟩ := callG_elim hm
       have hr_16 := getD_enc (l := r_10) (e := ecS) (d := []) (i := 0)
       simp only [ecS, List.map_nil] at hr_16
       have hr_17 := getD_enc (l := r_10) (e := ecS) (d := []) (i := 1)
       simp only [ecS, List.map_nil] at hr_17
       have hr_18 := getD_enc (l := r_10) (e := ecS) (d := []) (i := 2)
       simp only [ecS, List.map_nil] at hr_18
       refine Wp.seqR fun K30 hK30 => ?_
       simp only [go_sem, simprocAttr, hr_16, hr_17, hr_18]
       try refine ⟨by first | exact sd | ((repeat' apply And.intro) <;> first | assumption | omega | (simp only [List.length_append, List.length_map, List.length_cons, List.length_nil, List.length_set, List.length_replicate] at c_11 c_12 c_14 ⊢; omega)), ?_⟩
       refine Rg.callX (av := ?av31) (g := !(((!r_3.2.2) || (!decide ((r_10.length : Int) = 3))) || (decide ((r_10.getD 0 []) = [])))) (fun hg => ok_disk_isBit (r_10.getD 1 []) _ (hr_13 hg)) (by simp only [go_sem, simprocAttr, hr_16, hr_17, hr_18]; exact Is.mk) (by simp only [go_sem, simprocAttr, hr_16, hr_17, hr_18]; exact Is.mk) (by simp only [go_sem, simprocAttr, hr_16, hr_17, hr_18]; exact Is.mk) (by simp only [go_sem, simprocAttr, hr_16, hr_17, hr_18]) (by simp only [go_sem, simprocAttr, hr_16, hr_17, hr_18]; exact Is.mk) ?cont31
       intro hv31
       simp only [go_sem, simprocAttr, hr_16, hr_17, hr_18]
       try refine ⟨by first | exact sd | ((repeat' apply And.intro) <;> first | assumption | omega | (simp only [List.length_append, List.length_map, List.length_cons, List.length_nil, List.length_set, List.length_replicate] at c_11 c_12 c_14 ⊢; omega)), ?_⟩
       refine Rg.callX (av := ?av32) (g := !((((!r_3.2.2) || (!decide ((r_10.length : Int) = 3))) || (decide ((r_10.getD 0 []) = []))) || (!r_13))) (fun hg => ok_disk_isBit (r_10.getD 2 []) _ (hr_15 hg)) (by simp only [go_sem, simprocAttr, hr_16, hr_17, hr_18]; exact Is.mk) (by simp only [go_sem, simprocAttr, hr_16, hr_17, hr_18]; exact Is.mk) (by simp only [go_sem, simprocAttr, hr_16, hr_17, hr_18]; exact Is.mk) (by simp only [go_sem, simprocAttr, hr_16, hr_17, hr_18]) (by simp only [go_sem, simprocAttr, hr_16, hr_17, hr_18]; exact Is.mk) ?cont32
       intro hv32
       simp only [go_sem, simprocAttr, hr_16, hr_17, hr_18]
       first | apply hK30 | refine ⟨by first | exact sd | ((repeat' apply And.intro) <;> first | assumption | omega | (simp only [List.length_append, List.length_map, List.length_cons, List.length_nil, List.length_set, List.length_replicate] at c_11 c_12 c_14 ⊢; omega)), hK30 _ _ ?_⟩
       refine cM hm (fun hc33 hm => ?_) (fun hc33 hm => ?_)
       ·refine qS ?_
        refine Wp.ret ?_
        refine retQ_ret ?_
        cases hm
        exact fse3
       ·refine Wp.skip ?_
        refine hK29 _ _ ?_
        obtain ⟨s_19, hbs_19, hxs_19, hys_19, hm⟩ := idx_elim hm
        replace hxs_19 : ∀ d, (List.map ecS r_10).getD 0 d = ecS s_19 := hxs_19 ecS
        obtain ⟨s_20, hbs_20, hxs_20, hys_20, hm⟩ := idx_elim hm
        replace hxs_20 : ∀ d, (List.map ecS r_10).getD 1 d = ecS s_20 := hxs_20 ecS
        obtain ⟨s_21, hbs_21, hxs_21, hys_21, hm⟩ := idx_elim hm
        replace hxs_21 : ∀ d, (List.map ecS r_10).getD 2 d = ecS s_21 := hxs_21 ecS
        refine Wp.seqD (plan := [(0, none), (1, none), (2, none), (3, none), (4, none), (5, none), (6, none), (7, none), (8, none), (9, none), (10, none), (11, none), (12, none), (13, none), (14, some [])]) (by kernel_rfl) rfl (by kernel_rfl) fun K35 hK35 => ?_
        simp only [go_sem, simprocAttr, hxs_19, hxs_20, hxs_21]
        first | apply hK35 | refine ⟨sd, hK35 _ _ ?_⟩
        refine Wp.seqR fun K36 hK36 => ?_
        simp only [go_sem, simprocAttr, hxs_19, hxs_20, hxs_21]
        first | apply hK36 | refine ⟨sd, hK36 _ _ ?_⟩
        refine Wp.ret ?_
        refine retQ_ret ?_
        cases hm
        simp only [go_sem, simprocAttr, hxs_19, hxs_20, hxs_21]
        try exact se3
      ·refine qS ?_
       refine cM hm (fun hc38 hm => ?_) (fun hc38 hm => ?_)
       ·refine qR ?_
        refine hK11 _ _ ?_
        refine qS ?_
        refine Wp.ret ?_
        refine retQ_ret ?_
        cases hm
        exact fse3
       ·refine qS ?_
        refine cM hm (fun hc42 hm => ?_) (fun hc42 hm => ?_)
        ·refine qR ?_
         refine hK11 _ _ ?_
         refine qS ?_
         refine Wp.ret ?_
         refine retQ_ret ?_
         cases hm
         exact fse3
        ·refine qS ?_
         refine cM hm (fun hc46 hm => ?_) (fun hc46 hm => ?_)
         ·refine qR ?_
          refine hK11 _ _ ?_
          refine qS ?_
          refine Wp.ret ?_
          refine retQ_ret ?_
          cases hm
          exact fse3
         ·refine Wp.skip ?_
          refine hK11 _ _ ?_
          refine qS ?_
          refine Wp.ret ?_
          refine retQ_ret ?_
          cases hm
          exact fse3
    clear hK19 hk_8
    refine qS ?_
    refine cM hm (fun hc51 hm => ?_) (fun hc51 hm => ?_)
    ·refine Wp.skip ?_
     refine hW19 _ _ _ _ ?_ (hcut19 (decide (r_2.1 = ([102, 105, 108, 101] : Str))) hm)
     exact fse3
    ·refine qS ?_
     refine cM hm (fun hc53 hm => ?_) (fun hc53 hm => ?_)
     ·refine Wp.skip ?_
      refine hW19 _ _ _ _ ?_ (hcut19 (decide (r_2.1 = ([114, 117, 110] : Str))) hm)
      exact fse3
     ·refine qS ?_
      refine cM hm (fun hc55 hm => ?_) (fun hc55 hm => ?_)
      ·refine Wp.skip ?_
       refine hW19 _ _ _ _ ?_ (hcut19 (decide (r_2.1 = ([112, 117, 116] : Str))) hm)
       exact fse3
      ·refine qR ?_
       refine hW19 _ _ _ _ ?_ (hcut19 (decide (r_2.1 = ([112, 117, 116, 114, 117, 110] : Str))) hm)
       exact fse3
  clear hK13 hk_5
  refine qS ?_
  refine cM hm (fun hc58 hm => ?_) (fun hc58 hm => ?_)
  ·refine Wp.skip ?_
   refine hW13 _ _ _ _ ?_ (hcut13 (decide (r_2.1 = ([102, 97, 99, 116] : Str))) hm)
   exact fse3
  ·refine qR ?_
   refine hW13 _ _ _ _ ?_ (hcut13 (decide (r_2.1 = ([115, 101, 116] : Str))) hm)
   exact fse3
theorem ok_disk_rank (word_1 : Str) (z : Int) (hm : disk_rank word_1 = some z) : Does Tryz.prog 94 [.p (.s word_1)] [] (fun r X => r = .p (.i .i64 z) ∧ X = []) := by
 unfold disk_rank at hm
 refine Does.of_wp 0 13 [.tmp 2] Tryz.func94 rfl (by decide) rfl rfl (Nat.le_of_ble_eq_true rfl) fun B => ?_
 refine qS ?_
 refine Wp.seqW fun K2 hK2 hW2 => ?_
 refine qS ?_
 refine Wp.block ?_
 refine qS ?_
 refine cM hm (fun hc5 hm => ?_) (fun hc5 hm => ?_)
 ·refine qS ?_
  refine Wp.ret ?_
  refine retQ_ret ?_
  cases hm
  exact fse3
 ·refine Wp.seqW fun K7 hK7 hW7 => ?_
  obtain ⟨k_3, hk_3, hm⟩ := jp_elim hm
  have hcut7 : ∀ s, k_3 s = some z → K7 [(3, .p (.s word_1)), (6, .p (.b s))] [] := by
   intro t6_2 hs
   have hm := hk_3 _ hs
   clear hs
   try dsimp only at hm
   try dsimp only
   refine hK7 _ _ ?_
   refine cM hm (fun hc8 hm => ?_) (fun hc8 hm => ?_)
   ·refine qS ?_
    refine Wp.ret ?_
    refine retQ_ret ?_
    cases hm
    exact fse3
   ·refine qS ?_
    refine cM hm (fun hc11 hm => ?_) (fun hc11 hm => ?_)
    ·refine qS ?_
     refine Wp.ret ?_
     refine retQ_ret ?_
     cases hm
     exact fse3
    ·refine qS ?_
     refine cM hm (fun hc14 hm => ?_) (fun hc14 hm => ?_)
     ·refine qS ?_
      refine Wp.ret ?_
      refine retQ_ret ?_
      cases hm
      exact fse3
     ·refine Wp.skip ?_
      refine hK2 _ _ ?_
      refine qS ?_
      refine Wp.ret ?_
      refine retQ_ret ?_
      cases hm
      exact fse3
  clear hK7 hk_3
  refine qS ?_
  refine cM hm (fun hc18 hm => ?_) (fun hc18 hm => ?_)
  ·refine Wp.skip ?_
   refine hW7 _ _ _ _ ?_ (hcut7 (decide (word_1 = ([102, 105, 108, 101] : Str))) hm)
   exact fse3
  ·refine qR ?_
   refine hW7 _ _ _ _ ?_ (hcut7 (decide (word_1 = ([114, 117, 110] : Str))) hm)
   exact fse3
theorem ok_disk_Parse_1_i1 (x_1 : disk_line) (o0_0_2 : Int) (o2_3 : List api_Setting) (o3_4 : List api_File) (o4_5 : List api_Setting) (o5_6 : List api_Service) (z : Bool × Int × List api_Setting × List api_File × List api_Setting × List api_Service) (hm : disk_Parse_1_i1 x_1 o0_0_2 o2_3 o3_4 o4_5 o5_6 = some z) : Does Tryz.prog 93 [.agg [.p (.s x_1.word), .p (.s x_1.file.Path), .p (.s x_1.file.Data), .p (.b x_1.file.Runs), .p (.s x_1.setting.Key), .p (.s x_1.setting.Value), .p (.s x_1.service.Name), .p (.s x_1.service.Path), .p (.b x_1.service.Auto), .p (.b x_1.service.On)], .ptr 0 0, .ptr 1 0] [.cells 3 [.p (.i .i64 o0_0_2)], .cells 26 [.buf 2, .buf 3, .buf 4, .buf 5], .buf 33 2 (List.map enc_api_Setting o2_3), .buf 37 3 (List.map enc_api_File o3_4), .buf 33 2 (List.map enc_api_Setting o4_5), .buf 41 4 (List.map enc_api_Service o5_6)] (fun r X => r = .p (.b z.1) ∧ X = [.cells 3 [.p (.i .i64 z.2.1)], .cells 26 [.buf 2, .buf 3, .buf 4, .buf 5], .buf 33 2 (List.map enc_api_Setting z.2.2.1), .buf 37 3 (List.map enc_api_File z.2.2.2.1), .buf 33 2 (List.map enc_api_Setting z.2.2.2.2.1), .buf 41 4 (List.map enc_api_Service z.2.2.2.2.2)]) := by
 unfold disk_Parse_1_i1 at hm
 refine Does.of_wp 6 48 [.tmp 4] Tryz.func93 rfl (by decide) rfl rfl (Nat.le_of_ble_eq_true rfl) fun B => ?_
 refine qS ?_
 obtain ⟨r_12, hr_12, hm⟩ := call_elim hm
 refine Wp.seqR fun K2 hK2 => ?_
 simp only [go_sem, simprocAttr]
 try refine ⟨sd, ?_⟩
 refine Rg.callX (av := ?av3) (g := true) (fun hg => ok_disk_rank x_1.word _ hr_12) si si si sg si ?cont3
 intro hv3
 simp only [go_sem, simprocAttr]
 first | apply hK2 | refine ⟨sd, hK2 _ _ ?_⟩
 refine Wp.seqW fun K4 hK4 hW4 => ?_
 refine qS ?_
 refine cM hm (fun hc6 hm => ?_) (fun hc6 hm => ?_)
 ·refine qS ?_
  refine Wp.ret ?_
  refine retQ_ret ?_
  cases hm
  exact fse3
 ·refine Wp.skip ?_
  refine hK4 _ _ ?_
  refine qS ?_
  refine Wp.seqW fun K9 hK9 hW9 => ?_
  refine qS ?_
  refine Wp.block ?_
  refine qS ?_
  refine cM hm (fun hc12 hm => ?_) (fun hc12 hm => ?_)
  ·obtain ⟨c_13, hm⟩ := chk_elim hm
   refine Wp.region fun K13 hK13 => ?_
   simp only [go_sem, simprocAttr]
   first | apply hK13 | refine ⟨by first | exact sd | ((repeat' apply And.intro) <;> first | assumption | omega | (simp only [List.length_append, List.length_map, List.length_cons, List.length_nil, List.length_set, List.length_replicate] at c_13 ⊢; omega)), hK13 _ _ ?_⟩
   refine hK9 _ _ ?_
   refine qS ?_
   refine Wp.ret ?_
   refine retQ_ret ?_
   cases hm
   exact fse3
  ·refine qS ?_
   refine cM hm (fun hc16 hm => ?_) (fun hc16 hm => ?_)
   ·obtain ⟨c_14, hm⟩ := chk_elim hm
    refine Wp.region fun K17 hK17 => ?_
    simp only [go_sem, simprocAttr]
    first | apply hK17 | refine ⟨by first | exact sd | ((repeat' apply And.intro) <;> first | assumption | omega | (simp only [List.length_append, List.length_map, List.length_cons, List.length_nil, List.length_set, List.length_replicate] at c_14 ⊢; omega)), hK17 _ _ ?_⟩
    refine hK9 _ _ ?_
    refine qS ?_
    refine Wp.ret ?_
    refine retQ_ret ?_
    cases hm
    exact fse3
   ·refine qS ?_
    refine cM hm (fun hc20 hm => ?_) (fun hc20 hm => ?_)
    ·obtain ⟨c_15, hm⟩ := chk_elim hm
     refine Wp.region fun K21 hK21 => ?_
     simp only [go_sem, simprocAttr]
     first | apply hK21 | refine ⟨by first | exact sd | ((repeat' apply And.intro) <;> first | assumption | omega | (simp only [List.length_append, List.length_map, List.length_cons, List.length_nil, List.length_set, List.length_replicate] at c_15 ⊢; omega)), hK21 _ _ ?_⟩
     refine hK9 _ _ ?_
     refine qS ?_
     refine Wp.ret ?_
     refine retQ_ret ?_
     cases hm
     exact fse3
    ·obtain ⟨c_16, hm⟩ := chk_elim hm
     refine Wp.region fun K23 hK23 => ?_
     simp only [go_sem, simprocAttr]
     first | apply hK23 | refine ⟨by first | exact sd | ((repeat' apply And.intro) <;> first | assumption | omega | (simp only [List.length_append, List.length_map, List.length_cons, List.length_nil, List.length_set, List.length_replicate] at c_16 ⊢; omega)), hK23 _ _ ?_⟩
     refine hK9 _ _ ?_
     refine qS ?_
     refine Wp.ret ?_
     refine retQ_ret ?_
     cases hm
     exact fse3
theorem ok_disk_eachLine_i1 (text_1 : Str) (o0_0_2 : Int) (o2_3 : List api_Setting) (o3_4 : List api_File) (o4_5 : List api_Setting) (o5_6 : List api_Service) (z : Int × Int × List api_Setting × List api_File × List api_Setting × List api_Service) (hm : disk_eachLine_i1 text_1 o0_0_2 o2_3 o3_4 o4_5 o5_6 = some z) : Does Tryz.prog 92 [.p (.s text_1), .fn 93 [.ptr 0 0, .ptr 1 0]] [.cells 3 [.p (.i .i64 o0_0_2)], .cells 26 [.buf 2, .buf 3, .buf 4, .buf 5], .buf 33 2 (List.map enc_api_Setting o2_3), .buf 37 3 (List.map enc_api_File o3_4), .buf 33 2 (List.map enc_api_Setting o4_5), .buf 41 4 (List.map enc_api_Service o5_6)] (fun r X => r = .p (.i .i64 z.1) ∧ X = [.cells 3 [.p (.i .i64 z.2.1)], .cells 26 [.buf 2, .buf 3, .buf 4, .buf 5], .buf 33 2 (List.map enc_api_Setting z.2.2.1), .buf 37 3 (List.map enc_api_File z.2.2.2.1), .buf 33 2 (List.map enc_api_Setting z.2.2.2.2.1), .buf 41 4 (List.map enc_api_Service z.2.2.2.2.2)]) := by
 unfold disk_eachLine_i1 at hm
 refine Does.of_wp 6 40 [.tmp 4] Tryz.func92 rfl (by decide) rfl rfl (Nat.le_of_ble_eq_true rfl) fun B => ?_
 refine qS ?_
 refine Wp.seqW fun K2 hK2 hW2 => ?_
 obtain ⟨k_78, hk_78, hm⟩ := jp_elim hm
 have hcut2 : ∀ s, k_78 s = some z → K2 [] [.cells 3 [.p (.i .i64 s.1)], .cells 26 [.buf 2, .buf 3, .buf 4, .buf 5], .buf 33 2 (List.map enc_api_Setting s.2.1), .buf 37 3 (List.map enc_api_File s.2.2.1), .buf 33 2 (List.map enc_api_Setting s.2.2.2.1), .buf 41 4 (List.map enc_api_Service s.2.2.2.2)] := by
  intro s hs
  have hm := hk_78 _ hs
  clear hs
  obtain ⟨o0_0_73, o2_74, o3_75, o4_76, o5_77⟩ := s
  try dsimp only at hm
  try dsimp only
  refine hK2 _ _ ?_
  refine qS ?_
  refine Wp.ret ?_
  refine retQ_ret ?_
  cases hm
  exact fse3
 clear hK2 hk_78
 refine qS ?_
 refine Wp.block ?_
 obtain ⟨k_94, hk_94, hm⟩ := loopN_cont hm
 refine Wp.loopN (fun s => [(0, .p (.s s.1)), (1, .fn 93 [.ptr 0 0, .ptr 1 0]), (5, .p (.i .i64 s.2.1))]) (fun s => [.cells 3 [.p (.i .i64 s.2.2.1)], .cells 26 [.buf 2, .buf 3, .buf 4, .buf 5], .buf 33 2 (List.map enc_api_Setting s.2.2.2.1), .buf 37 3 (List.map enc_api_File s.2.2.2.2.1), .buf 33 2 (List.map enc_api_Setting s.2.2.2.2.2.1), .buf 41 4 (List.map enc_api_Service s.2.2.2.2.2.2)]) ?_ hm ?_
 ·
  exact fse3
 clear hm
 intro s nx_95 hm
 obtain ⟨text_84, n_85, o0_0_86, o2_87, o3_88, o4_89, o5_90⟩ := s
 try dsimp only at hm
 try dsimp only
 refine Wp.seqW fun K5 hK5 hW5 => ?_
 refine qS ?_
 refine cM hm (fun hc7 hm => ?_) (fun hc7 hm => ?_)
 ·refine Wp.skip ?_
  refine hK5 _ _ ?_
  refine Wp.seqW fun K8 hK8 hW8 => ?_
  refine Wp.block ?_
  obtain ⟨r_96, hr_96, hm⟩ := call_elim hm
  refine Wp.seqR fun K9 hK9 => ?_
  simp only [go_sem, simprocAttr]
  try refine ⟨sd, ?_⟩
  refine Rg.callX (av := ?av10) (g := true) (fun hg => ok_strings_Cut text_84 ([10] : Str) _ hr_96) si si si sg si ?cont10
  intro hv10
  simp only [go_sem, simprocAttr]
  first | apply hK9 | refine ⟨sd, hK9 _ _ ?_⟩
  obtain ⟨r_97, hr_97, hm⟩ := call_elim hm
  refine Wp.seqR fun K11 hK11 => ?_
  simp only [go_sem, simprocAttr]
  try refine ⟨sd, ?_⟩
  refine Rg.callX (av := ?av12) (g := true) (fun hg => ok_disk_readLine r_96.1 _ hr_97) si si si sg si ?cont12
  intro hv12
  simp only [go_sem, simprocAttr]
  first | apply hK11 | refine ⟨sd, hK11 _ _ ?_⟩
  refine Wp.seqW fun K13 hK13 hW13 => ?_
  obtain ⟨r_98, hr_98, hr_98d, hm⟩ := callG_elim2 hm
  refine Wp.seqR fun K14 hK14 => ?_
  simp only [go_sem, simprocAttr]
  try refine ⟨sd, ?_⟩
  refine Rg.callGO (av := ?av15) (g := !((!r_96.2.2) || (!r_97.2))) [0, 1, 2, 3, 4, 5] (fun hg => ok_disk_Parse_1_i1 r_97.1 o0_0_86 o2_87 o3_88 o4_89 o5_90 _ (hr_98 hg)) (fun hg => by obtain rfl := hr_98d hg; rfl) si si si si sg sg ?cont15
  simp only [go_sem, simprocAttr]
  first | apply hK14 | refine ⟨sd, hK14 _ _ ?_⟩
  refine cM hm (fun hc16 hm => ?_) (fun hc16 hm => ?_)
  ·refine qS ?_
   refine Wp.ret ?_
   refine retQ_ret ?_
   cases hm
   exact fse3
  ·refine Wp.skip ?_
   refine hK13 _ _ ?_
   refine qR ?_
   refine hK8 _ _ ?_
   refine qR ?_
   simp only [thenQ, blockQ, ↓reduceIte]
   refine ⟨(r_96.2.1, IntKind.i64.wrap (n_85 + 1), r_98.2.1, r_98.2.2.1, r_98.2.2.2.1, r_98.2.2.2.2.1, r_98.2.2.2.2.2), hm, ?_⟩
   exact fse3
 ·refine Wp.exit ?_
  simp only [thenQ, blockQ, ↓reduceIte]
  have hm := hk_94 _ hm
  try dsimp only at hm
  refine hW2 _ _ _ _ ?_ (hcut2 (o0_0_86, o2_87, o3_88, o4_89, o5_90) hm)
  exact fse3
theorem ok_disk_Parse (text_1 : Str) (z : api_Machine × Int × Int) (hm : disk_Parse text_1 = some z) : Does Tryz.prog 33 [.p (.s text_1)] [] (fun r X => r = .tup [.agg [.p (.l (List.map enc_api_Setting z.1.Facts)), .p (.l (List.map enc_api_File z.1.Files)), .p (.l (List.map enc_api_Setting z.1.Settings)), .p (.l (List.map enc_api_Service z.1.Services))], .p (.i .i64 z.2.1), .p (.i .i64 z.2.2)] ∧ X = []) := by
 unfold disk_Parse at hm
 refine Does.of_wp 0 28 [.cell 2 26, .tmp 3, .tmp 4] Tryz.func33 rfl (by decide) rfl rfl (Nat.le_of_ble_eq_true rfl) fun B => ?_
 refine qS ?_
 refine Wp.seqW fun K2 hK2 hW2 => ?_
 refine qS ?_
 refine cM hm (fun hc4 hm => ?_) (fun hc4 hm => ?_)
 ·refine qS ?_
  refine Wp.ret ?_
  simp only [thenQ, blockQ]
  refine retQ_retE ?_
  cases hm
  exact fse2
 ·refine Wp.skip ?_
  refine hK2 _ _ ?_
  refine qS ?_
  refine Wp.adoptO 1 0 33 2 rfl rfl ?_
  simp only [go_sem, simprocAttr]
  refine Wp.adoptO 1 1 37 3 rfl rfl ?_
  simp only [go_sem, simprocAttr]
  refine Wp.adoptO 1 2 33 2 rfl rfl ?_
  simp only [go_sem, simprocAttr]
  refine Wp.adoptO 1 3 41 4 rfl rfl ?_
  simp only [go_sem, simprocAttr]
  obtain ⟨r_2, hr_2, hm⟩ := call_elim hm
  refine Wp.seqR fun K7 hK7 => ?_
  simp only [go_sem, simprocAttr]
  try refine ⟨sd, ?_⟩
  refine Rg.callO (av := ?av8) [2, 1, 3, 4, 5, 6] (ok_disk_eachLine_i1 text_1 0 [] [] [] [] _ hr_2) si si si sg sg ?cont8
  rintro _ _ ⟨rfl, rfl⟩ hv8
  simp only [go_sem, simprocAttr]
  first | apply hK7 | refine ⟨sd, hK7 _ _ ?_⟩
  refine Wp.seqW fun K9 hK9 hW9 => ?_
  refine qS ?_
  refine cM hm (fun hc11 hm => ?_) (fun hc11 hm => ?_)
  ·refine qS ?_
   refine Wp.ret ?_
   simp only [thenQ, blockQ]
   refine retQ_retE ?_
   cases hm
   exact fse3
  ·refine Wp.skip ?_
   refine hK9 _ _ ?_
   refine Wp.seqW fun K13 hK13 hW13 => ?_
   obtain ⟨r_3, hr_3, hm⟩ := call_elim hm
   refine Wp.seqR fun K14 hK14 => ?_
   simp only [go_sem, simprocAttr]
   try refine ⟨sd, ?_⟩
   refine Rg.callX (av := ?av15) (g := true) (fun hg => ok_disk_Check (api_Machine.mk r_2.2.2.1 r_2.2.2.2.1 r_2.2.2.2.2.1 r_2.2.2.2.2.2) _ hr_3) si si si sg si ?cont15
   intro hv15
   simp only [go_sem, simprocAttr]
   first | apply hK14 | refine ⟨sd, hK14 _ _ ?_⟩
   refine qS ?_
   refine cM hm (fun hc17 hm => ?_) (fun hc17 hm => ?_)
   ·refine qS ?_
    refine Wp.ret ?_
    simp only [thenQ, blockQ]
    refine retQ_retE ?_
    cases hm
    exact fse3
   ·refine Wp.skip ?_
    refine hK13 _ _ ?_
    refine qS ?_
    refine Wp.ret ?_
    refine retQ_ret ?_
    cases hm
    exact fse3
theorem ok_R_bit (b_1 : Bool) (z : Str) (hm : R_bit b_1 = some z) : Does Tryz.prog 150 [.p (.b b_1)] [] (fun r X => r = .p (.s z) ∧ X = []) := by
 unfold R_bit at hm
 refine Does.of_wp 0 4 [.tmp 2] Tryz.func150 rfl (by decide) rfl rfl (Nat.le_of_ble_eq_true rfl) fun B => ?_
 refine qS ?_
 refine Wp.seqW fun K2 hK2 hW2 => ?_
 refine qS ?_
 refine cM hm (fun hc4 hm => ?_) (fun hc4 hm => ?_)
 ·refine qS ?_
  refine Wp.ret ?_
  refine retQ_ret ?_
  cases hm
  exact fse3
 ·refine Wp.skip ?_
  refine hK2 _ _ ?_
  refine qS ?_
  refine Wp.ret ?_
  refine retQ_ret ?_
  cases hm
  exact fse3
theorem ok_R_serviceWords (s_1 : api_Service) (z : Str) (hm : R_serviceWords s_1 = some z) : Does Tryz.prog 96 [.agg [.p (.s s_1.Name), .p (.s s_1.Path), .p (.b s_1.Auto), .p (.b s_1.On)]] [] (fun r X => r = .p (.s z) ∧ X = []) := by
 unfold R_serviceWords at hm
 refine Does.of_wp 0 19 [.tmp 2] Tryz.func96 rfl (by decide) rfl rfl (Nat.le_of_ble_eq_true rfl) fun B => ?_
 refine qS ?_
 obtain ⟨c_2, hm⟩ := chk_elim hm
 obtain ⟨c_3, hm⟩ := chk_elim hm
 obtain ⟨c_4, hm⟩ := chk_elim hm
 obtain ⟨r_5, hr_5, hm⟩ := call_elim hm
 obtain ⟨c_6, hm⟩ := chk_elim hm
 obtain ⟨c_7, hm⟩ := chk_elim hm
 obtain ⟨r_8, hr_8, hm⟩ := call_elim hm
 obtain ⟨c_9, hm⟩ := chk_elim hm
 refine Wp.seqD (plan := [(0, none), (1, none), (2, none), (3, none), (4, none), (5, none), (6, none), (7, none), (8, none), (9, none), (10, none), (11, none), (12, none), (13, none), (14, none), (15, none), (16, none)]) (by kernel_rfl) rfl (by kernel_rfl) fun K2 hK2 => ?_
 simp only [go_sem, simprocAttr]
 try refine ⟨by first | exact sd | ((repeat' apply And.intro) <;> first | assumption | omega | (simp only [List.length_append, List.length_map, List.length_cons, List.length_nil, List.length_set, List.length_replicate] at c_2 c_3 c_4 c_6 c_7 c_9 ⊢; omega)), ?_⟩
 refine Dr.callF (av := ?av3) (g := true) (o := ?o3) (fun hg => ok_R_bit s_1.Auto _ hr_5) si si si si sg si ?cont3
 simp only [go_sem, simprocAttr]
 try refine ⟨by first | exact sd | ((repeat' apply And.intro) <;> first | assumption | omega | (simp only [List.length_append, List.length_map, List.length_cons, List.length_nil, List.length_set, List.length_replicate] at c_2 c_3 c_4 c_6 c_7 c_9 ⊢; omega)), ?_⟩
 refine Dr.callF (av := ?av4) (g := true) (o := ?o4) (fun hg => ok_R_bit s_1.On _ hr_8) si si si si sg si ?cont4
 simp only [go_sem, simprocAttr]
 first | apply hK2 | refine ⟨by first | exact sd | ((repeat' apply And.intro) <;> first | assumption | omega | (simp only [List.length_append, List.length_map, List.length_cons, List.length_nil, List.length_set, List.length_replicate] at c_2 c_3 c_4 c_6 c_7 c_9 ⊢; omega)), hK2 _ _ ?_⟩
 refine Wp.ret ?_
 refine retQ_ret ?_
 cases hm
 exact fse3
end Go.Proofs.YtbfemlilfeahkaaGreatDoor
