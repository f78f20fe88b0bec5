/- That the code does what the models say (part 8). -/
import Derived.Test.YtbfemlilfeahkaaGreatDoorTmWk0
import Derived.Test.YtbfemlilfeahkaaGreatDoorTmWk1
import Derived.Test.YtbfemlilfeahkaaGreatDoorTmWk4
import Derived.Test.YtbfemlilfeahkaaGreatDoorTmWk6
import Derived.Test.YtbfemlilfeahkaaGreatDoorTmWk7
set_option linter.unusedSimpArgs false
set_option linter.unusedVariables false
open Go.Proofs Go.Shelf
namespace Go.Proofs.YtbfemlilfeahkaaGreatDoor
open Go.Vc Go.Md
set_option maxRecDepth 100000
set_option maxHeartbeats 4000000
theorem ok_R_Print (m_1 : api_Machine) (z : Str) (hm : R_Print m_1 = some z) : Does Tryz.prog 34 [.agg [.p (.l (List.map enc_api_Setting m_1.Facts)), .p (.l (List.map enc_api_File m_1.Files)), .p (.l (List.map enc_api_Setting m_1.Settings)), .p (.l (List.map enc_api_Service m_1.Services))]] [] (fun r X => r = .p (.s z) ∧ X = []) := by
 unfold R_Print at hm
 refine Does.of_wp 0 84 [.tmp 2] Tryz.func34 rfl (by decide) rfl rfl (Nat.le_of_ble_eq_true rfl) fun B => ?_
 refine qS ?_
 refine qS ?_
 refine Wp.adoptB 1 5 rfl ?_
 simp only [go_sem, simprocAttr]
 refine Wp.seqW fun K3 hK3 hW3 => ?_
 obtain ⟨k_37, hk_37, hm⟩ := jp_elim hm
 have hcut3 : ∀ s, k_37 s = some z → K3 [(1, .ptr 0 0), (3, .ptr 1 0)] [.cells 26 [.p (.l (List.map enc_api_Setting m_1.Facts)), .p (.l (List.map enc_api_File m_1.Files)), .p (.l (List.map enc_api_Setting m_1.Settings)), .p (.l (List.map enc_api_Service m_1.Services))], .cells 122 [.np 1, .buf 2], .sb 5 s] := by
  intro o2_36 hs
  have hm := hk_37 _ hs
  clear hs
  try dsimp only at hm
  try dsimp only
  refine hK3 _ _ ?_
  refine Wp.seqW fun K4 hK4 hW4 => ?_
  obtain ⟨k_79, hk_79, hm⟩ := jp_elim hm
  have hcut4 : ∀ s, k_79 s = some z → K4 [(1, .ptr 0 0), (3, .ptr 1 0)] [.cells 26 [.p (.l (List.map enc_api_Setting m_1.Facts)), .p (.l (List.map enc_api_File m_1.Files)), .p (.l (List.map enc_api_Setting m_1.Settings)), .p (.l (List.map enc_api_Service m_1.Services))], .cells 122 [.np 1, .buf 2], .sb 5 s] := by
   intro o2_78 hs
   have hm := hk_79 _ hs
   clear hs
   try dsimp only at hm
   try dsimp only
   refine hK4 _ _ ?_
   refine Wp.seqW fun K5 hK5 hW5 => ?_
   obtain ⟨k_115, hk_115, hm⟩ := jp_elim hm
   have hcut5 : ∀ s, k_115 s = some z → K5 [(1, .ptr 0 0), (3, .ptr 1 0)] [.cells 26 [.p (.l (List.map enc_api_Setting m_1.Facts)), .p (.l (List.map enc_api_File m_1.Files)), .p (.l (List.map enc_api_Setting m_1.Settings)), .p (.l (List.map enc_api_Service m_1.Services))], .cells 122 [.np 1, .buf 2], .sb 5 s] := by
    intro o2_114 hs
    have hm := hk_115 _ hs
    clear hs
    try dsimp only at hm
    try dsimp only
    refine hK5 _ _ ?_
    refine Wp.seqW fun K6 hK6 hW6 => ?_
    obtain ⟨k_139, hk_139, hm⟩ := jp_elim hm
    have hcut6 : ∀ s, k_139 s = some z → K6 [(3, .ptr 1 0)] [.cells 26 [.top, .top, .top, .top], .cells 122 [.np 1, .buf 2], .sb 5 s] := by
     intro o2_138 hs
     have hm := hk_139 _ hs
     clear hs
     try dsimp only at hm
     try dsimp only
     refine hK6 _ _ ?_
     obtain ⟨r_140, hr_140, hm⟩ := call_elim hm
     refine Wp.seqR fun K7 hK7 => ?_
     simp only [go_sem, simprocAttr]
     try refine ⟨sd, ?_⟩
     refine Rg.callO (av := ?av8) [1, 2] (ok_strings_Builder_String_i1 o2_138 _ hr_140) si si si sg sg ?cont8
     rintro _ _ ⟨rfl, rfl⟩ hv8
     simp only [go_sem, simprocAttr]
     first | apply hK7 | refine ⟨sd, hK7 _ _ ?_⟩
     refine Wp.ret ?_
     refine retQ_ret ?_
     cases hm
     exact fse3
    clear hK6 hk_139
    refine qS ?_
    refine Wp.block ?_
    obtain ⟨k_154, hk_154, hm⟩ := forL_cont hm
    refine Wp.fact 71 fun hl_157 => ?_
    replace hl_157 : m_1.Services.length ≤ 274877906944 := by
     simp only [go_sem, simprocAttr, List.length_map] at hl_157
     omega
    refine Wp.forL (fun i_156 s => [(3, .ptr 1 0), (71, .p (.l (List.map enc_api_Service m_1.Services))), (72, .p (.i .i64 (m_1.Services.length : Int))), (73, .p (.i .i64 (i_156 : Int)))]) (fun i_156 s => [.cells 26 [.p (.l (List.map enc_api_Setting m_1.Facts)), .p (.l (List.map enc_api_File m_1.Files)), .p (.l (List.map enc_api_Setting m_1.Settings)), .p (.l (List.map enc_api_Service m_1.Services))], .cells 122 [.np 1, .buf 2], .sb 5 s]) ?_ hm ?_
    ·
     exact fse3
    clear hm
    intro i_156 o2_148 hii_156 hm
    try dsimp only at hm
    try dsimp only
    refine qS ?_
    refine Wp.seqW fun K11 hK11 hW11 => ?_
    refine Wp.cond rfl ⟨⟩ (fun hc11 => ?_) (fun hc11 => ?_)
    rotate_left
    ·refine Wp.exit ?_
     have hm := hk_154 _ (forL_end hm (ge_nat (by first | exact hc11 | simpa using hc11)))
     try dsimp only at hm
     refine hW6 _ _ _ _ ?_ (hcut6 o2_148 hm)
     exact fse3
    have hlt11 := lt_nat (by first | exact hc11 | simpa using hc11)
    have hw11 := wrap_succ hlt11 hl_157
    obtain ⟨s_158, nx_155, hxs_158, hys_158, hnx_155, hm⟩ := forL_step hm hlt11
    replace hxs_158 := hxs_158 enc_api_Service
    refine Wp.skip ?_
    simp only [thenQ]
    refine hK11 _ _ ?_
    refine Wp.seqW fun K12 hK12 hW12 => ?_
    refine Wp.block ?_
    refine Wp.seqR fun K13 hK13 => ?_
    simp only [go_sem, simprocAttr, hw11, hxs_158]
    first | apply hK13 | refine ⟨sd, hK13 _ _ ?_⟩
    obtain ⟨r_159, hr_159, hm⟩ := call_elim hm
    obtain ⟨c_160, hm⟩ := chk_elim hm
    obtain ⟨c_161, hm⟩ := chk_elim hm
    obtain ⟨r_162, hr_162, hm⟩ := call_elim hm
    refine Wp.region fun K14 hK14 => ?_
    simp only [go_sem, simprocAttr, hw11, hxs_158]
    try refine ⟨by first | exact sd | ((repeat' apply And.intro) <;> first | assumption | omega | (simp only [List.length_append, List.length_map, List.length_cons, List.length_nil, List.length_set, List.length_replicate] at c_160 c_161 ⊢; omega)), ?_⟩
    refine Rg.callX (av := ?av15) (g := true) (fun hg => ok_R_serviceWords s_158 _ hr_159) (by simp only [go_sem, simprocAttr, hw11, hxs_158]; exact Is.mk) (by simp only [go_sem, simprocAttr, hw11, hxs_158]; exact Is.mk) (by simp only [go_sem, simprocAttr, hw11, hxs_158]; exact Is.mk) (by simp only [go_sem, simprocAttr, hw11, hxs_158]) (by simp only [go_sem, simprocAttr, hw11, hxs_158]; exact Is.mk) ?cont15
    intro hv15
    simp only [go_sem, simprocAttr, hw11, hxs_158]
    try refine ⟨by first | exact sd | ((repeat' apply And.intro) <;> first | assumption | omega | (simp only [List.length_append, List.length_map, List.length_cons, List.length_nil, List.length_set, List.length_replicate] at c_160 c_161 ⊢; omega)), ?_⟩
    refine Rg.callO (av := ?av16) [1, 2] (ok_strings_Builder_WriteString_i1 ((([115, 101, 114, 118, 105, 99, 101, 32] : Str) ++ r_159) ++ ([10] : Str)) o2_148 _ hr_162) (by simp only [go_sem, simprocAttr, hw11, hxs_158]; exact Is.mk) (by simp only [go_sem, simprocAttr, hw11, hxs_158]; exact Is.mk) (by simp only [go_sem, simprocAttr, hw11, hxs_158]; exact Is.mk) (by simp only [go_sem, simprocAttr, hw11, hxs_158]) (by simp only [go_sem, simprocAttr, hw11, hxs_158]) ?cont16
    rintro _ _ ⟨rfl, rfl⟩ hv16
    simp only [go_sem, simprocAttr, hw11, hxs_158]
    first | apply hK14 | refine ⟨by first | exact sd | ((repeat' apply And.intro) <;> first | assumption | omega | (simp only [List.length_append, List.length_map, List.length_cons, List.length_nil, List.length_set, List.length_replicate] at c_160 c_161 ⊢; omega)), hK14 _ _ ?_⟩
    refine hK12 _ _ ?_
    refine Wp.region fun K17 hK17 => ?_
    simp only [go_sem, simprocAttr, hw11, hxs_158]
    first | apply hK17 | refine ⟨sd, hK17 _ _ ?_⟩
    simp only [thenQ, blockQ, ↓reduceIte]
    refine ⟨r_162.2, hlt11, hnx_155 _ hm, ?_⟩
    simp only [go_sem, simprocAttr, hw11, hxs_158]
    try exact se3
   clear hK5 hk_115
   refine qS ?_
   refine Wp.block ?_
   obtain ⟨k_180, hk_180, hm⟩ := forL_cont hm
   refine Wp.fact 53 fun hl_183 => ?_
   replace hl_183 : m_1.Settings.length ≤ 274877906944 := by
    simp only [go_sem, simprocAttr, List.length_map] at hl_183
    omega
   refine Wp.forL (fun i_182 s => [(1, .ptr 0 0), (3, .ptr 1 0), (53, .p (.l (List.map enc_api_Setting m_1.Settings))), (54, .p (.i .i64 (m_1.Settings.length : Int))), (55, .p (.i .i64 (i_182 : Int)))]) (fun i_182 s => [.cells 26 [.p (.l (List.map enc_api_Setting m_1.Facts)), .p (.l (List.map enc_api_File m_1.Files)), .p (.l (List.map enc_api_Setting m_1.Settings)), .p (.l (List.map enc_api_Service m_1.Services))], .cells 122 [.np 1, .buf 2], .sb 5 s]) ?_ hm ?_
   ·
    exact fse3
   clear hm
   intro i_182 o2_172 hii_182 hm
   try dsimp only at hm
   try dsimp only
   refine qS ?_
   refine Wp.seqW fun K20 hK20 hW20 => ?_
   refine Wp.cond rfl ⟨⟩ (fun hc20 => ?_) (fun hc20 => ?_)
   rotate_left
   ·refine Wp.exit ?_
    have hm := hk_180 _ (forL_end hm (ge_nat (by first | exact hc20 | simpa using hc20)))
    try dsimp only at hm
    refine hW5 _ _ _ _ ?_ (hcut5 o2_172 hm)
    exact fse3
   have hlt20 := lt_nat (by first | exact hc20 | simpa using hc20)
   have hw20 := wrap_succ hlt20 hl_183
   obtain ⟨s_184, nx_181, hxs_184, hys_184, hnx_181, hm⟩ := forL_step hm hlt20
   replace hxs_184 := hxs_184 enc_api_Setting
   refine Wp.skip ?_
   simp only [thenQ]
   refine hK20 _ _ ?_
   refine Wp.seqW fun K21 hK21 hW21 => ?_
   refine Wp.block ?_
   refine Wp.seqR fun K22 hK22 => ?_
   simp only [go_sem, simprocAttr, hw20, hxs_184]
   first | apply hK22 | refine ⟨sd, hK22 _ _ ?_⟩
   obtain ⟨c_185, hm⟩ := chk_elim hm
   obtain ⟨c_186, hm⟩ := chk_elim hm
   obtain ⟨r_187, hr_187, hm⟩ := call_elim hm
   obtain ⟨c_188, hm⟩ := chk_elim hm
   obtain ⟨c_189, hm⟩ := chk_elim hm
   obtain ⟨r_190, hr_190, hm⟩ := call_elim hm
   refine Wp.regD (plan := [(0, none), (1, none), (2, none), (3, none), (4, none), (5, none), (6, none), (7, none), (8, none), (9, some [])]) (by kernel_rfl) rfl (by kernel_rfl) fun K23 hK23 => ?_
   simp only [go_sem, simprocAttr, hw20, hxs_184]
   try refine ⟨by first | exact sd | ((repeat' apply And.intro) <;> first | assumption | omega | (simp only [List.length_append, List.length_map, List.length_cons, List.length_nil, List.length_set, List.length_replicate] at c_185 c_186 c_188 c_189 ⊢; omega)), ?_⟩
   refine Dr.callF (av := ?av24) (g := true) (o := ?o24) (fun hg => ok_R_Quote s_184.Value _ hr_187) (by simp only [go_sem, simprocAttr, hw20, hxs_184]; exact Is.mk) (by simp only [go_sem, simprocAttr, hw20, hxs_184]; exact Is.mk) (by simp only [go_sem, simprocAttr, hw20, hxs_184]; exact Is.mk) (by simp only [go_sem, simprocAttr, hw20, hxs_184]; exact Is.mk) (by simp only [go_sem, simprocAttr, hw20, hxs_184]) (by simp only [go_sem, simprocAttr, hw20, hxs_184]; exact Is.mk) ?cont24
   simp only [go_sem, simprocAttr, hw20, hxs_184]
   try refine ⟨by first | exact sd | ((repeat' apply And.intro) <;> first | assumption | omega | (simp only [List.length_append, List.length_map, List.length_cons, List.length_nil, List.length_set, List.length_replicate] at c_185 c_186 c_188 c_189 ⊢; omega)), ?_⟩
   refine Dr.callS (av := ?av25) (o := ?o25) 2 [1, 2] (ok_strings_Builder_WriteString_i1 ((((([115, 101, 116, 32] : Str) ++ s_184.Key) ++ ([32] : Str)) ++ r_187) ++ ([10] : Str)) o2_172 _ hr_190) (by simp only [go_sem, simprocAttr, hw20, hxs_184]; exact Is.mk) (by simp only [go_sem, simprocAttr, hw20, hxs_184]; exact Is.mk) (by simp only [go_sem, simprocAttr, hw20, hxs_184]; exact Is.mk) (by simp only [go_sem, simprocAttr, hw20, hxs_184]; exact Is.mk) (by simp only [go_sem, simprocAttr, hw20, hxs_184]; exact Is.mk) (by simp only [go_sem, simprocAttr, hw20, hxs_184]) (by simp only [go_sem, simprocAttr, hw20, hxs_184]) (by simp only [go_sem, simprocAttr, hw20, hxs_184]) (by simp only [go_sem, simprocAttr, hw20, hxs_184]) ?cont25
   simp only [go_sem, simprocAttr, hw20, hxs_184]
   first | apply hK23 | refine ⟨by first | exact sd | ((repeat' apply And.intro) <;> first | assumption | omega | (simp only [List.length_append, List.length_map, List.length_cons, List.length_nil, List.length_set, List.length_replicate] at c_185 c_186 c_188 c_189 ⊢; omega)), hK23 _ _ ?_⟩
   refine hK21 _ _ ?_
   refine Wp.region fun K26 hK26 => ?_
   simp only [go_sem, simprocAttr, hw20, hxs_184]
   first | apply hK26 | refine ⟨sd, hK26 _ _ ?_⟩
   simp only [thenQ, blockQ, ↓reduceIte]
   refine ⟨r_190.2, hlt20, hnx_181 _ hm, ?_⟩
   simp only [go_sem, simprocAttr, hw20, hxs_184]
   try exact se3
  clear hK4 hk_79
  refine qS ?_
  refine Wp.block ?_
  obtain ⟨k_212, hk_212, hm⟩ := forL_cont hm
  refine Wp.fact 32 fun hl_215 => ?_
  replace hl_215 : m_1.Files.length ≤ 274877906944 := by
   simp only [go_sem, simprocAttr, List.length_map] at hl_215
   omega
  refine Wp.forL (fun i_214 s => [(1, .ptr 0 0), (3, .ptr 1 0), (32, .p (.l (List.map enc_api_File m_1.Files))), (33, .p (.i .i64 (m_1.Files.length : Int))), (34, .p (.i .i64 (i_214 : Int)))]) (fun i_214 s => [.cells 26 [.p (.l (List.map enc_api_Setting m_1.Facts)), .p (.l (List.map enc_api_File m_1.Files)), .p (.l (List.map enc_api_Setting m_1.Settings)), .p (.l (List.map enc_api_Service m_1.Services))], .cells 122 [.np 1, .buf 2], .sb 5 s]) ?_ hm ?_
  ·
   exact fse3
  clear hm
  intro i_214 o2_202 hii_214 hm
  try dsimp only at hm
  try dsimp only
  refine qS ?_
  refine Wp.seqW fun K29 hK29 hW29 => ?_
  refine Wp.cond rfl ⟨⟩ (fun hc29 => ?_) (fun hc29 => ?_)
  rotate_left
  ·refine Wp.exit ?_
   have hm := hk_212 _ (forL_end hm (ge_nat (by first | exact hc29 | simpa using hc29)))
   try dsimp only at hm
   refine hW4 _ _ _ _ ?_ (hcut4 o2_202 hm)
   exact fse3
  have hlt29 := lt_nat (by first | exact hc29 | simpa using hc29)
  have hw29 := wrap_succ hlt29 hl_215
  obtain ⟨f_216, nx_213, hxf_216, hyf_216, hnx_213, hm⟩ := forL_step hm hlt29
  replace hxf_216 := hxf_216 enc_api_File
  refine Wp.skip ?_
  simp only [thenQ]
  refine hK29 _ _ ?_
  refine Wp.seqW fun K30 hK30 hW30 => ?_
  refine Wp.block ?_
  refine Wp.seqR fun K31 hK31 => ?_
  simp only [go_sem, simprocAttr, hw29, hxf_216]
  first | apply hK31 | refine ⟨sd, hK31 _ _ ?_⟩
  refine Wp.seqR fun K32 hK32 => ?_
  simp only [go_sem, simprocAttr, hw29, hxf_216]
  first | apply hK32 | refine ⟨sd, hK32 _ _ ?_⟩
  refine Wp.seqW fun K33 hK33 hW33 => ?_
  obtain ⟨k_218, hk_218, hm⟩ := jp_elim hm
  have hcut33 : ∀ s, k_218 s = some z → K33 [(1, .ptr 0 0), (3, .ptr 1 0), (7, .ptr 3 0), (8, .p (.s s)), (32, .p (.l (List.map enc_api_File m_1.Files))), (33, .p (.i .i64 (m_1.Files.length : Int))), (34, .p (.i .i64 (i_214 : Int)))] [.cells 26 [.p (.l (List.map enc_api_Setting m_1.Facts)), .p (.l (List.map enc_api_File m_1.Files)), .p (.l (List.map enc_api_Setting m_1.Settings)), .p (.l (List.map enc_api_Service m_1.Services))], .cells 122 [.np 1, .buf 2], .sb 5 o2_202, .cells 37 [.p (.s f_216.Path), .p (.s f_216.Data), .p (.b f_216.Runs)]] := by
   intro word_217 hs
   have hm := hk_218 _ hs
   clear hs
   try dsimp only at hm
   try dsimp only
   refine hK33 _ _ ?_
   obtain ⟨c_219, hm⟩ := chk_elim hm
   obtain ⟨c_220, hm⟩ := chk_elim hm
   obtain ⟨r_221, hr_221, hm⟩ := call_elim hm
   obtain ⟨c_222, hm⟩ := chk_elim hm
   obtain ⟨c_223, hm⟩ := chk_elim hm
   obtain ⟨r_224, hr_224, hm⟩ := call_elim hm
   refine Wp.regD (plan := [(0, none), (1, none), (2, none), (3, none), (4, none), (5, none), (6, none), (7, none), (8, none), (9, none), (10, some [])]) (by kernel_rfl) rfl (by kernel_rfl) fun K34 hK34 => ?_
   simp only [go_sem, simprocAttr, hw29, hxf_216]
   try refine ⟨by first | exact sd | ((repeat' apply And.intro) <;> first | assumption | omega | (simp only [List.length_append, List.length_map, List.length_cons, List.length_nil, List.length_set, List.length_replicate] at c_219 c_220 c_222 c_223 ⊢; omega)), ?_⟩
   refine Dr.callF (av := ?av35) (g := true) (o := ?o35) (fun hg => ok_R_Quote f_216.Data _ hr_221) (by simp only [go_sem, simprocAttr, hw29, hxf_216]; exact Is.mk) (by simp only [go_sem, simprocAttr, hw29, hxf_216]; exact Is.mk) (by simp only [go_sem, simprocAttr, hw29, hxf_216]; exact Is.mk) (by simp only [go_sem, simprocAttr, hw29, hxf_216]; exact Is.mk) (by simp only [go_sem, simprocAttr, hw29, hxf_216]) (by simp only [go_sem, simprocAttr, hw29, hxf_216]; exact Is.mk) ?cont35
   simp only [go_sem, simprocAttr, hw29, hxf_216]
   try refine ⟨by first | exact sd | ((repeat' apply And.intro) <;> first | assumption | omega | (simp only [List.length_append, List.length_map, List.length_cons, List.length_nil, List.length_set, List.length_replicate] at c_219 c_220 c_222 c_223 ⊢; omega)), ?_⟩
   refine Dr.callS (av := ?av36) (o := ?o36) 2 [1, 2] (ok_strings_Builder_WriteString_i1 ((((word_217 ++ f_216.Path) ++ ([32] : Str)) ++ r_221) ++ ([10] : Str)) o2_202 _ hr_224) (by simp only [go_sem, simprocAttr, hw29, hxf_216]; exact Is.mk) (by simp only [go_sem, simprocAttr, hw29, hxf_216]; exact Is.mk) (by simp only [go_sem, simprocAttr, hw29, hxf_216]; exact Is.mk) (by simp only [go_sem, simprocAttr, hw29, hxf_216]; exact Is.mk) (by simp only [go_sem, simprocAttr, hw29, hxf_216]; exact Is.mk) (by simp only [go_sem, simprocAttr, hw29, hxf_216]) (by simp only [go_sem, simprocAttr, hw29, hxf_216]) (by simp only [go_sem, simprocAttr, hw29, hxf_216]) (by simp only [go_sem, simprocAttr, hw29, hxf_216]) ?cont36
   simp only [go_sem, simprocAttr, hw29, hxf_216]
   first | apply hK34 | refine ⟨by first | exact sd | ((repeat' apply And.intro) <;> first | assumption | omega | (simp only [List.length_append, List.length_map, List.length_cons, List.length_nil, List.length_set, List.length_replicate] at c_219 c_220 c_222 c_223 ⊢; omega)), hK34 _ _ ?_⟩
   refine hK30 _ _ ?_
   refine Wp.region fun K37 hK37 => ?_
   simp only [go_sem, simprocAttr, hw29, hxf_216]
   first | apply hK37 | refine ⟨sd, hK37 _ _ ?_⟩
   simp only [thenQ, blockQ, ↓reduceIte]
   refine ⟨r_224.2, hlt29, hnx_213 _ hm, ?_⟩
   simp only [go_sem, simprocAttr, hw29, hxf_216]
   try exact se3
  clear hK33 hk_218
  refine Wp.seqR fun K38 hK38 => ?_
  simp only [go_sem, simprocAttr, hw29, hxf_216]
  first | apply hK38 | refine ⟨sd, hK38 _ _ ?_⟩
  refine cM hm (fun hc39 hm => ?_) (fun hc39 hm => ?_)
  ·refine Wp.region fun K40 hK40 => ?_
   simp only [go_sem, simprocAttr, hw29, hxf_216]
   first | apply hK40 | refine ⟨sd, hK40 _ _ ?_⟩
   refine hW33 _ _ _ _ ?_ (hcut33 ([114, 117, 110, 32] : Str) hm)
   simp only [go_sem, simprocAttr, hw29, hxf_216]
   try exact se3
  ·refine Wp.skip ?_
   refine hW33 _ _ _ _ ?_ (hcut33 ([102, 105, 108, 101, 32] : Str) hm)
   simp only [go_sem, simprocAttr, hw29, hxf_216]
   try exact se3
 clear hK3 hk_37
 refine qS ?_
 refine Wp.block ?_
 obtain ⟨k_242, hk_242, hm⟩ := forL_cont hm
 refine Wp.fact 14 fun hl_245 => ?_
 replace hl_245 : m_1.Facts.length ≤ 274877906944 := by
  simp only [go_sem, simprocAttr, List.length_map] at hl_245
  omega
 refine Wp.forL (fun i_244 s => [(1, .ptr 0 0), (3, .ptr 1 0), (14, .p (.l (List.map enc_api_Setting m_1.Facts))), (15, .p (.i .i64 (m_1.Facts.length : Int))), (16, .p (.i .i64 (i_244 : Int)))]) (fun i_244 s => [.cells 26 [.p (.l (List.map enc_api_Setting m_1.Facts)), .p (.l (List.map enc_api_File m_1.Files)), .p (.l (List.map enc_api_Setting m_1.Settings)), .p (.l (List.map enc_api_Service m_1.Services))], .cells 122 [.np 1, .buf 2], .sb 5 s]) ?_ hm ?_
 ·
  exact fse3
 clear hm
 intro i_244 o2_234 hii_244 hm
 try dsimp only at hm
 try dsimp only
 refine qS ?_
 refine Wp.seqW fun K43 hK43 hW43 => ?_
 refine Wp.cond rfl ⟨⟩ (fun hc43 => ?_) (fun hc43 => ?_)
 rotate_left
 ·refine Wp.exit ?_
  have hm := hk_242 _ (forL_end hm (ge_nat (by first | exact hc43 | simpa using hc43)))
  try dsimp only at hm
  refine hW3 _ _ _ _ ?_ (hcut3 o2_234 hm)
  exact fse3
 have hlt43 := lt_nat (by first | exact hc43 | simpa using hc43)
 have hw43 := wrap_succ hlt43 hl_245
 obtain ⟨s_246, nx_243, hxs_246, hys_246, hnx_243, hm⟩ := forL_step hm hlt43
 replace hxs_246 := hxs_246 enc_api_Setting
 refine Wp.skip ?_
 simp only [thenQ]
 refine hK43 _ _ ?_
 refine Wp.seqW fun K44 hK44 hW44 => ?_
 refine Wp.block ?_
 refine Wp.seqR fun K45 hK45 => ?_
 simp only [go_sem, simprocAttr, hw43, hxs_246]
 first | apply hK45 | refine ⟨sd, hK45 _ _ ?_⟩
 obtain ⟨c_247, hm⟩ := chk_elim hm
 obtain ⟨c_248, hm⟩ := chk_elim hm
 obtain ⟨r_249, hr_249, hm⟩ := call_elim hm
 obtain ⟨c_250, hm⟩ := chk_elim hm
 obtain ⟨c_251, hm⟩ := chk_elim hm
 obtain ⟨r_252, hr_252, hm⟩ := call_elim hm
 refine Wp.regD (plan := [(0, none), (1, none), (2, none), (3, none), (4, none), (5, none), (6, none), (7, none), (8, none), (9, some [])]) (by kernel_rfl) rfl (by kernel_rfl) fun K46 hK46 => ?_
 simp only [go_sem, simprocAttr, hw43, hxs_246]
 try refine ⟨by first | exact sd | ((repeat' apply And.intro) <;> first | assumption | omega | (simp only [List.length_append, List.length_map, List.length_cons, List.length_nil, List.length_set, List.length_replicate] at c_247 c_248 c_250 c_251 ⊢; omega)), ?_⟩
 refine Dr.callF (av := ?av47) (g := true) (o := ?o47) (fun hg => ok_R_Quote s_246.Value _ hr_249) (by simp only [go_sem, simprocAttr, hw43, hxs_246]; exact Is.mk) (by simp only [go_sem, simprocAttr, hw43, hxs_246]; exact Is.mk) (by simp only [go_sem, simprocAttr, hw43, hxs_246]; exact Is.mk) (by simp only [go_sem, simprocAttr, hw43, hxs_246]; exact Is.mk) (by simp only [go_sem, simprocAttr, hw43, hxs_246]) (by simp only [go_sem, simprocAttr, hw43, hxs_246]; exact Is.mk) ?cont47
 simp only [go_sem, simprocAttr, hw43, hxs_246]
 try refine ⟨by first | exact sd | ((repeat' apply And.intro) <;> first | assumption | omega | (simp only [List.length_append, List.length_map, List.length_cons, List.length_nil, List.length_set, List.length_replicate] at c_247 c_248 c_250 c_251 ⊢; omega)), ?_⟩
 refine Dr.callS (av := ?av48) (o := ?o48) 2 [1, 2] (ok_strings_Builder_WriteString_i1 ((((([102, 97, 99, 116, 32] : Str) ++ s_246.Key) ++ ([32] : Str)) ++ r_249) ++ ([10] : Str)) o2_234 _ hr_252) (by simp only [go_sem, simprocAttr, hw43, hxs_246]; exact Is.mk) (by simp only [go_sem, simprocAttr, hw43, hxs_246]; exact Is.mk) (by simp only [go_sem, simprocAttr, hw43, hxs_246]; exact Is.mk) (by simp only [go_sem, simprocAttr, hw43, hxs_246]; exact Is.mk) (by simp only [go_sem, simprocAttr, hw43, hxs_246]; exact Is.mk) (by simp only [go_sem, simprocAttr, hw43, hxs_246]) (by simp only [go_sem, simprocAttr, hw43, hxs_246]) (by simp only [go_sem, simprocAttr, hw43, hxs_246]) (by simp only [go_sem, simprocAttr, hw43, hxs_246]) ?cont48
 simp only [go_sem, simprocAttr, hw43, hxs_246]
 first | apply hK46 | refine ⟨by first | exact sd | ((repeat' apply And.intro) <;> first | assumption | omega | (simp only [List.length_append, List.length_map, List.length_cons, List.length_nil, List.length_set, List.length_replicate] at c_247 c_248 c_250 c_251 ⊢; omega)), hK46 _ _ ?_⟩
 refine hK44 _ _ ?_
 refine Wp.region fun K49 hK49 => ?_
 simp only [go_sem, simprocAttr, hw43, hxs_246]
 first | apply hK49 | refine ⟨sd, hK49 _ _ ?_⟩
 simp only [thenQ, blockQ, ↓reduceIte]
 refine ⟨r_252.2, hlt43, hnx_243 _ hm, ?_⟩
 simp only [go_sem, simprocAttr, hw43, hxs_246]
 try exact se3
theorem ok_slices_Equal_api_Setting_api_Setting (s1_1 : List api_Setting) (s2_2 : List api_Setting) (z : Bool) (hm : slices_Equal_api_Setting_api_Setting s1_1 s2_2 = some z) : Does Tryz.prog 59 [.p (.l (List.map enc_api_Setting s1_1)), .p (.l (List.map enc_api_Setting s2_2))] [] (fun r X => r = .p (.b z) ∧ X = []) := by
 unfold slices_Equal_api_Setting_api_Setting at hm
 refine Does.of_wp 0 26 [.tmp 4] Tryz.func59 rfl (by decide) rfl rfl (Nat.le_of_ble_eq_true rfl) fun B => ?_
 refine qS ?_
 refine Wp.seqW fun K2 hK2 hW2 => ?_
 refine qS ?_
 refine cM hm (fun hc4 hm => ?_) (fun hc4 hm => ?_)
 ·refine qS ?_
  refine Wp.ret ?_
  refine retQ_ret ?_
  cases hm
  exact fse3
 ·refine Wp.skip ?_
  refine hK2 _ _ ?_
  refine Wp.seqW fun K6 hK6 hW6 => ?_
  obtain ⟨k_12, hk_12, hm⟩ := jp_elim hm
  have hcut6 : ∀ s, k_12 s = some z → K6 [] [] := by
   intro s hs
   have hm := hk_12 _ hs
   clear hs
   try dsimp only at hm
   try dsimp only
   refine hK6 _ _ ?_
   refine qS ?_
   refine Wp.ret ?_
   refine retQ_ret ?_
   cases hm
   exact fse3
  clear hK6 hk_12
  refine qS ?_
  refine Wp.block ?_
  obtain ⟨k_16, hk_16, hm⟩ := forL_cont hm
  refine Wp.fact 0 fun hl_19 => ?_
  replace hl_19 : s1_1.length ≤ 274877906944 := by
   simp only [go_sem, simprocAttr, List.length_map] at hl_19
   omega
  refine Wp.forL (fun i_18 s => [(0, .p (.l (List.map enc_api_Setting s1_1))), (1, .p (.l (List.map enc_api_Setting s2_2))), (12, .p (.i .i64 (s1_1.length : Int))), (13, .p (.i .i64 (i_18 : Int)))]) (fun i_18 s => []) ?_ hm ?_
  ·
   exact fse3
  clear hm
  intro i_18 s hii_18 hm
  try dsimp only at hm
  try dsimp only
  refine qS ?_
  refine Wp.seqW fun K10 hK10 hW10 => ?_
  refine Wp.cond rfl ⟨⟩ (fun hc10 => ?_) (fun hc10 => ?_)
  rotate_left
  ·refine Wp.exit ?_
   have hm := hk_16 _ (forL_end hm (ge_nat (by first | exact hc10 | simpa using hc10)))
   try dsimp only at hm
   refine hW6 _ _ _ _ ?_ (hcut6 () hm)
   exact fse3
  have hlt10 := lt_nat (by first | exact hc10 | simpa using hc10)
  have hw10 := wrap_succ hlt10 hl_19
  obtain ⟨s_20, nx_17, hxs_20, hys_20, hnx_17, hm⟩ := forL_step hm hlt10
  replace hxs_20 := hxs_20 enc_api_Setting
  refine Wp.skip ?_
  simp only [thenQ]
  refine hK10 _ _ ?_
  refine Wp.seqW fun K11 hK11 hW11 => ?_
  refine Wp.block ?_
  refine Wp.seqR fun K12 hK12 => ?_
  simp only [go_sem, simprocAttr, hw10, hxs_20]
  first | apply hK12 | refine ⟨sd, hK12 _ _ ?_⟩
  obtain ⟨s_21, hbs_21, hxs_21, hys_21, hm⟩ := idx_elim hm
  replace hxs_21 : ∀ d, (List.map enc_api_Setting s2_2).getD i_18 d = enc_api_Setting s_21 := hxs_21 enc_api_Setting
  refine Wp.seqD (plan := [(0, none), (1, none), (2, none), (3, none), (4, none), (5, none), (6, none), (7, none), (8, none)]) (by kernel_rfl) rfl (by kernel_rfl) fun K13 hK13 => ?_
  simp only [go_sem, simprocAttr, hw10, hxs_20, hxs_21]
  first | apply hK13 | refine ⟨sd, hK13 _ _ ?_⟩
  refine cM hm (fun hc14 hm => ?_) (fun hc14 hm => ?_)
  ·refine Wp.seqR fun K15 hK15 => ?_
   simp only [go_sem, simprocAttr, hw10, hxs_20, hxs_21]
   first | apply hK15 | refine ⟨sd, hK15 _ _ ?_⟩
   refine Wp.ret ?_
   refine retQ_ret ?_
   cases hm
   simp only [go_sem, simprocAttr, hw10, hxs_20, hxs_21]
   try exact se3
  ·refine Wp.skip ?_
   refine hK11 _ _ ?_
   refine Wp.region fun K16 hK16 => ?_
   simp only [go_sem, simprocAttr, hw10, hxs_20, hxs_21]
   first | apply hK16 | refine ⟨sd, hK16 _ _ ?_⟩
   simp only [thenQ, blockQ, ↓reduceIte]
   refine ⟨(), hlt10, hnx_17 _ hm, ?_⟩
   simp only [go_sem, simprocAttr, hw10, hxs_20, hxs_21]
   try exact se3
theorem ok_slices_Equal_api_File_api_File (s1_1 : List api_File) (s2_2 : List api_File) (z : Bool) (hm : slices_Equal_api_File_api_File s1_1 s2_2 = some z) : Does Tryz.prog 98 [.p (.l (List.map enc_api_File s1_1)), .p (.l (List.map enc_api_File s2_2))] [] (fun r X => r = .p (.b z) ∧ X = []) := by
 unfold slices_Equal_api_File_api_File at hm
 refine Does.of_wp 0 26 [.tmp 4] Tryz.func98 rfl (by decide) rfl rfl (Nat.le_of_ble_eq_true rfl) fun B => ?_
 refine qS ?_
 refine Wp.seqW fun K2 hK2 hW2 => ?_
 refine qS ?_
 refine cM hm (fun hc4 hm => ?_) (fun hc4 hm => ?_)
 ·refine qS ?_
  refine Wp.ret ?_
  refine retQ_ret ?_
  cases hm
  exact fse3
 ·refine Wp.skip ?_
  refine hK2 _ _ ?_
  refine Wp.seqW fun K6 hK6 hW6 => ?_
  obtain ⟨k_12, hk_12, hm⟩ := jp_elim hm
  have hcut6 : ∀ s, k_12 s = some z → K6 [] [] := by
   intro s hs
   have hm := hk_12 _ hs
   clear hs
   try dsimp only at hm
   try dsimp only
   refine hK6 _ _ ?_
   refine qS ?_
   refine Wp.ret ?_
   refine retQ_ret ?_
   cases hm
   exact fse3
  clear hK6 hk_12
  refine qS ?_
  refine Wp.block ?_
  obtain ⟨k_16, hk_16, hm⟩ := forL_cont hm
  refine Wp.fact 0 fun hl_19 => ?_
  replace hl_19 : s1_1.length ≤ 274877906944 := by
   simp only [go_sem, simprocAttr, List.length_map] at hl_19
   omega
  refine Wp.forL (fun i_18 s => [(0, .p (.l (List.map enc_api_File s1_1))), (1, .p (.l (List.map enc_api_File s2_2))), (12, .p (.i .i64 (s1_1.length : Int))), (13, .p (.i .i64 (i_18 : Int)))]) (fun i_18 s => []) ?_ hm ?_
  ·
   exact fse3
  clear hm
  intro i_18 s hii_18 hm
  try dsimp only at hm
  try dsimp only
  refine qS ?_
  refine Wp.seqW fun K10 hK10 hW10 => ?_
  refine Wp.cond rfl ⟨⟩ (fun hc10 => ?_) (fun hc10 => ?_)
  rotate_left
  ·refine Wp.exit ?_
   have hm := hk_16 _ (forL_end hm (ge_nat (by first | exact hc10 | simpa using hc10)))
   try dsimp only at hm
   refine hW6 _ _ _ _ ?_ (hcut6 () hm)
   exact fse3
  have hlt10 := lt_nat (by first | exact hc10 | simpa using hc10)
  have hw10 := wrap_succ hlt10 hl_19
  obtain ⟨f_20, nx_17, hxf_20, hyf_20, hnx_17, hm⟩ := forL_step hm hlt10
  replace hxf_20 := hxf_20 enc_api_File
  refine Wp.skip ?_
  simp only [thenQ]
  refine hK10 _ _ ?_
  refine Wp.seqW fun K11 hK11 hW11 => ?_
  refine Wp.block ?_
  refine Wp.seqR fun K12 hK12 => ?_
  simp only [go_sem, simprocAttr, hw10, hxf_20]
  first | apply hK12 | refine ⟨sd, hK12 _ _ ?_⟩
  obtain ⟨f_21, hbf_21, hxf_21, hyf_21, hm⟩ := idx_elim hm
  replace hxf_21 : ∀ d, (List.map enc_api_File s2_2).getD i_18 d = enc_api_File f_21 := hxf_21 enc_api_File
  refine Wp.seqD (plan := [(0, none), (1, none), (2, none), (3, none), (4, none), (5, none), (6, none), (7, none), (8, none)]) (by kernel_rfl) rfl (by kernel_rfl) fun K13 hK13 => ?_
  simp only [go_sem, simprocAttr, hw10, hxf_20, hxf_21]
  first | apply hK13 | refine ⟨sd, hK13 _ _ ?_⟩
  refine cM hm (fun hc14 hm => ?_) (fun hc14 hm => ?_)
  ·refine Wp.seqR fun K15 hK15 => ?_
   simp only [go_sem, simprocAttr, hw10, hxf_20, hxf_21]
   first | apply hK15 | refine ⟨sd, hK15 _ _ ?_⟩
   refine Wp.ret ?_
   refine retQ_ret ?_
   cases hm
   simp only [go_sem, simprocAttr, hw10, hxf_20, hxf_21]
   try exact se3
  ·refine Wp.skip ?_
   refine hK11 _ _ ?_
   refine Wp.region fun K16 hK16 => ?_
   simp only [go_sem, simprocAttr, hw10, hxf_20, hxf_21]
   first | apply hK16 | refine ⟨sd, hK16 _ _ ?_⟩
   simp only [thenQ, blockQ, ↓reduceIte]
   refine ⟨(), hlt10, hnx_17 _ hm, ?_⟩
   simp only [go_sem, simprocAttr, hw10, hxf_20, hxf_21]
   try exact se3
theorem ok_slices_Equal_api_Service_api_Service (s1_1 : List api_Service) (s2_2 : List api_Service) (z : Bool) (hm : slices_Equal_api_Service_api_Service s1_1 s2_2 = some z) : Does Tryz.prog 99 [.p (.l (List.map enc_api_Service s1_1)), .p (.l (List.map enc_api_Service s2_2))] [] (fun r X => r = .p (.b z) ∧ X = []) := by
 unfold slices_Equal_api_Service_api_Service at hm
 refine Does.of_wp 0 26 [.tmp 4] Tryz.func99 rfl (by decide) rfl rfl (Nat.le_of_ble_eq_true rfl) fun B => ?_
 refine qS ?_
 refine Wp.seqW fun K2 hK2 hW2 => ?_
 refine qS ?_
 refine cM hm (fun hc4 hm => ?_) (fun hc4 hm => ?_)
 ·refine qS ?_
  refine Wp.ret ?_
  refine retQ_ret ?_
  cases hm
  exact fse3
 ·refine Wp.skip ?_
  refine hK2 _ _ ?_
  refine Wp.seqW fun K6 hK6 hW6 => ?_
  obtain ⟨k_12, hk_12, hm⟩ := jp_elim hm
  have hcut6 : ∀ s, k_12 s = some z → K6 [] [] := by
   intro s hs
   have hm := hk_12 _ hs
   clear hs
   try dsimp only at hm
   try dsimp only
   refine hK6 _ _ ?_
   refine qS ?_
   refine Wp.ret ?_
   refine retQ_ret ?_
   cases hm
   exact fse3
  clear hK6 hk_12
  refine qS ?_
  refine Wp.block ?_
  obtain ⟨k_16, hk_16, hm⟩ := forL_cont hm
  refine Wp.fact 0 fun hl_19 => ?_
  replace hl_19 : s1_1.length ≤ 274877906944 := by
   simp only [go_sem, simprocAttr, List.length_map] at hl_19
   omega
  refine Wp.forL (fun i_18 s => [(0, .p (.l (List.map enc_api_Service s1_1))), (1, .p (.l (List.map enc_api_Service s2_2))), (12, .p (.i .i64 (s1_1.length : Int))), (13, .p (.i .i64 (i_18 : Int)))]) (fun i_18 s => []) ?_ hm ?_
  ·
   exact fse3
  clear hm
  intro i_18 s hii_18 hm
  try dsimp only at hm
  try dsimp only
  refine qS ?_
  refine Wp.seqW fun K10 hK10 hW10 => ?_
  refine Wp.cond rfl ⟨⟩ (fun hc10 => ?_) (fun hc10 => ?_)
  rotate_left
  ·refine Wp.exit ?_
   have hm := hk_16 _ (forL_end hm (ge_nat (by first | exact hc10 | simpa using hc10)))
   try dsimp only at hm
   refine hW6 _ _ _ _ ?_ (hcut6 () hm)
   exact fse3
  have hlt10 := lt_nat (by first | exact hc10 | simpa using hc10)
  have hw10 := wrap_succ hlt10 hl_19
  obtain ⟨s_20, nx_17, hxs_20, hys_20, hnx_17, hm⟩ := forL_step hm hlt10
  replace hxs_20 := hxs_20 enc_api_Service
  refine Wp.skip ?_
  simp only [thenQ]
  refine hK10 _ _ ?_
  refine Wp.seqW fun K11 hK11 hW11 => ?_
  refine Wp.block ?_
  refine Wp.seqR fun K12 hK12 => ?_
  simp only [go_sem, simprocAttr, hw10, hxs_20]
  first | apply hK12 | refine ⟨sd, hK12 _ _ ?_⟩
  obtain ⟨s_21, hbs_21, hxs_21, hys_21, hm⟩ := idx_elim hm
  replace hxs_21 : ∀ d, (List.map enc_api_Service s2_2).getD i_18 d = enc_api_Service s_21 := hxs_21 enc_api_Service
  refine Wp.seqD (plan := [(0, none), (1, none), (2, none), (3, none), (4, none), (5, none), (6, none), (7, none), (8, none)]) (by kernel_rfl) rfl (by kernel_rfl) fun K13 hK13 => ?_
  simp only [go_sem, simprocAttr, hw10, hxs_20, hxs_21]
  first | apply hK13 | refine ⟨sd, hK13 _ _ ?_⟩
  refine cM hm (fun hc14 hm => ?_) (fun hc14 hm => ?_)
  ·refine Wp.seqR fun K15 hK15 => ?_
   simp only [go_sem, simprocAttr, hw10, hxs_20, hxs_21]
   first | apply hK15 | refine ⟨sd, hK15 _ _ ?_⟩
   refine Wp.ret ?_
   refine retQ_ret ?_
   cases hm
   simp only [go_sem, simprocAttr, hw10, hxs_20, hxs_21]
   try exact se3
  ·refine Wp.skip ?_
   refine hK11 _ _ ?_
   refine Wp.region fun K16 hK16 => ?_
   simp only [go_sem, simprocAttr, hw10, hxs_20, hxs_21]
   first | apply hK16 | refine ⟨sd, hK16 _ _ ?_⟩
   simp only [thenQ, blockQ, ↓reduceIte]
   refine ⟨(), hlt10, hnx_17 _ hm, ?_⟩
   simp only [go_sem, simprocAttr, hw10, hxs_20, hxs_21]
   try exact se3
theorem ok_R_Same (a_1 : api_Machine) (b_2 : api_Machine) (z : Bool) (hm : R_Same a_1 b_2 = some z) : Does Tryz.prog 35 [.agg [.p (.l (List.map enc_api_Setting a_1.Facts)), .p (.l (List.map enc_api_File a_1.Files)), .p (.l (List.map enc_api_Setting a_1.Settings)), .p (.l (List.map enc_api_Service a_1.Services))], .agg [.p (.l (List.map enc_api_Setting b_2.Facts)), .p (.l (List.map enc_api_File b_2.Files)), .p (.l (List.map enc_api_Setting b_2.Settings)), .p (.l (List.map enc_api_Service b_2.Services))]] [] (fun r X => r = .p (.b z) ∧ X = []) := by
 unfold R_Same at hm
 refine Does.of_wp 0 31 [.tmp 4] Tryz.func35 rfl (by decide) rfl rfl (Nat.le_of_ble_eq_true rfl) fun B => ?_
 refine qS ?_
 obtain ⟨r_3, hr_3, hm⟩ := call_elim hm
 obtain ⟨r_4, hr_4, hm⟩ := callG_elim hm
 obtain ⟨r_5, hr_5, hm⟩ := callG_elim hm
 obtain ⟨r_6, hr_6, hm⟩ := callG_elim hm
 refine Wp.seqR fun K2 hK2 => ?_
 simp only [go_sem, simprocAttr]
 try refine ⟨sd, ?_⟩
 refine Rg.callX (av := ?av3) (g := true) (fun hg => ok_slices_Equal_api_Setting_api_Setting a_1.Facts b_2.Facts _ hr_3) si si si sg si ?cont3
 intro hv3
 simp only [go_sem, simprocAttr]
 try refine ⟨sd, ?_⟩
 refine Rg.callX (av := ?av4) (g := r_3) (fun hg => ok_slices_Equal_api_File_api_File a_1.Files b_2.Files _ (hr_4 hg)) si si si sg si ?cont4
 intro hv4
 simp only [go_sem, simprocAttr]
 try refine ⟨sd, ?_⟩
 refine Rg.callX (av := ?av5) (g := (r_3 && r_4)) (fun hg => ok_slices_Equal_api_Setting_api_Setting a_1.Settings b_2.Settings _ (hr_5 hg)) si si si sg si ?cont5
 intro hv5
 simp only [go_sem, simprocAttr]
 try refine ⟨sd, ?_⟩
 refine Rg.callX (av := ?av6) (g := ((r_3 && r_4) && r_5)) (fun hg => ok_slices_Equal_api_Service_api_Service a_1.Services b_2.Services _ (hr_6 hg)) si si si sg si ?cont6
 intro hv6
 simp only [go_sem, simprocAttr]
 first | apply hK2 | refine ⟨sd, hK2 _ _ ?_⟩
 refine Wp.ret ?_
 refine retQ_ret ?_
 cases hm
 exact fse3
theorem ok_Law_TextsMatch (s_1 : Str) (text_2 : Str) (m_3 : api_Machine) (z : Bool) (hm : Law_TextsMatch s_1 text_2 m_3 = some z) : Does Tryz.prog 4 [.p (.s s_1), .p (.s text_2), .agg [.p (.l (List.map enc_api_Setting m_3.Facts)), .p (.l (List.map enc_api_File m_3.Files)), .p (.l (List.map enc_api_Setting m_3.Settings)), .p (.l (List.map enc_api_Service m_3.Services))]] [] (fun r X => r = .p (.b z) ∧ X = []) := by
 unfold Law_TextsMatch at hm
 refine Does.of_wp 0 89 [.tmp 6] Tryz.func4 rfl (by decide) rfl rfl (Nat.le_of_ble_eq_true rfl) fun B => ?_
 refine qS ?_
 refine Wp.seqW fun K2 hK2 hW2 => ?_
 obtain ⟨r_4, hr_4, hm⟩ := call_elim hm
 refine Wp.seqR fun K3 hK3 => ?_
 simp only [go_sem, simprocAttr]
 try refine ⟨sd, ?_⟩
 refine Rg.callX (av := ?av4) (g := true) (fun hg => ok_Law_landed  _ hr_4) si si si sg si ?cont4
 intro hv4
 simp only [go_sem, simprocAttr]
 first | apply hK3 | refine ⟨sd, hK3 _ _ ?_⟩
 refine cM hm (fun hc5 hm => ?_) (fun hc5 hm => ?_)
 ·refine qS ?_
  refine Wp.ret ?_
  refine retQ_ret ?_
  cases hm
  exact fse2
 ·refine Wp.skip ?_
  refine hK2 _ _ ?_
  obtain ⟨r_5, hr_5, hm⟩ := call_elim hm
  refine Wp.seqR fun K7 hK7 => ?_
  simp only [go_sem, simprocAttr]
  try refine ⟨sd, ?_⟩
  refine Rg.callX (av := ?av8) (g := true) (fun hg => ok_disk_Quote s_1 _ hr_5) si si si sg si ?cont8
  intro hv8
  simp only [go_sem, simprocAttr]
  first | apply hK7 | refine ⟨sd, hK7 _ _ ?_⟩
  obtain ⟨r_6, hr_6, hm⟩ := call_elim hm
  refine Wp.seqR fun K9 hK9 => ?_
  simp only [go_sem, simprocAttr]
  try refine ⟨sd, ?_⟩
  refine Rg.callX (av := ?av10) (g := true) (fun hg => ok_disk_Unquote r_5 _ hr_6) si si si sg si ?cont10
  intro hv10
  simp only [go_sem, simprocAttr]
  first | apply hK9 | refine ⟨sd, hK9 _ _ ?_⟩
  refine Wp.seqW fun K11 hK11 hW11 => ?_
  obtain ⟨r_7, hr_7, hm⟩ := call_elim hm
  refine Wp.seqR fun K12 hK12 => ?_
  simp only [go_sem, simprocAttr]
  try refine ⟨sd, ?_⟩
  refine Rg.callX (av := ?av13) (g := true) (fun hg => ok_R_Quote s_1 _ hr_7) si si si sg si ?cont13
  intro hv13
  simp only [go_sem, simprocAttr]
  first | apply hK12 | refine ⟨sd, hK12 _ _ ?_⟩
  refine cM hm (fun hc14 hm => ?_) (fun hc14 hm => ?_)
  ·refine qS ?_
   refine Wp.ret ?_
   refine retQ_ret ?_
   cases hm
   exact fse2
  ·refine Wp.skip ?_
   refine hK11 _ _ ?_
   obtain ⟨r_8, hr_8, hm⟩ := call_elim hm
   refine Wp.seqR fun K16 hK16 => ?_
   simp only [go_sem, simprocAttr]
   try refine ⟨sd, ?_⟩
   refine Rg.callX (av := ?av17) (g := true) (fun hg => ok_disk_Unquote text_2 _ hr_8) si si si sg si ?cont17
   intro hv17
   simp only [go_sem, simprocAttr]
   first | apply hK16 | refine ⟨sd, hK16 _ _ ?_⟩
   obtain ⟨r_9, hr_9, hm⟩ := call_elim hm
   refine Wp.seqR fun K18 hK18 => ?_
   simp only [go_sem, simprocAttr]
   try refine ⟨sd, ?_⟩
   refine Rg.callX (av := ?av19) (g := true) (fun hg => ok_R_Unquote text_2 _ hr_9) si si si sg si ?cont19
   intro hv19
   simp only [go_sem, simprocAttr]
   first | apply hK18 | refine ⟨sd, hK18 _ _ ?_⟩
   refine Wp.seqW fun K20 hK20 hW20 => ?_
   refine qS ?_
   refine cM hm (fun hc22 hm => ?_) (fun hc22 hm => ?_)
   ·refine qS ?_
    refine Wp.ret ?_
    refine retQ_ret ?_
    cases hm
    exact fse2
   ·refine Wp.skip ?_
    refine hK20 _ _ ?_
    obtain ⟨r_10, hr_10, hm⟩ := call_elim hm
    refine Wp.seqR fun K24 hK24 => ?_
    simp only [go_sem, simprocAttr]
    try refine ⟨sd, ?_⟩
    refine Rg.callF (av := ?av25) (ok_Law_fit m_3 _ hr_10) si si sg ?cont25
    intro hv25
    simp only [go_sem, simprocAttr]
    first | apply hK24 | refine ⟨sd, hK24 _ _ ?_⟩
    obtain ⟨r_11, hr_11, hm⟩ := call_elim hm
    refine Wp.seqR fun K26 hK26 => ?_
    simp only [go_sem, simprocAttr]
    try refine ⟨sd, ?_⟩
    refine Rg.callX (av := ?av27) (g := true) (fun hg => ok_disk_Print r_10 _ hr_11) si si si sg si ?cont27
    intro hv27
    simp only [go_sem, simprocAttr]
    first | apply hK26 | refine ⟨sd, hK26 _ _ ?_⟩
    obtain ⟨r_12, hr_12, hm⟩ := call_elim hm
    refine Wp.seqR fun K28 hK28 => ?_
    simp only [go_sem, simprocAttr]
    try refine ⟨sd, ?_⟩
    refine Rg.callF (av := ?av29) (ok_disk_Parse r_11.1 _ hr_12) si si sg ?cont29
    intro hv29
    simp only [go_sem, simprocAttr]
    first | apply hK28 | refine ⟨sd, hK28 _ _ ?_⟩
    obtain ⟨r_13, hr_13, hm⟩ := callG_elim hm
    obtain ⟨r_14, hr_14, hm⟩ := callG_elim hm
    refine Wp.seqR fun K30 hK30 => ?_
    simp only [go_sem, simprocAttr]
    try refine ⟨sd, ?_⟩
    refine Rg.callX (av := ?av31) (g := decide (r_11.2 = 0)) (fun hg => ok_R_Print r_10 _ (hr_13 hg)) si si si sg si ?cont31
    intro hv31
    simp only [go_sem, simprocAttr]
    try refine ⟨sd, ?_⟩
    refine Rg.callX (av := ?av32) (g := ((((decide (r_11.2 = 0)) && (decide (r_11.1 = r_13))) && (decide (r_12.2.2 = 0))) && (decide (r_12.2.1 = 0)))) (fun hg => ok_R_Same r_12.1 r_10 _ (hr_14 hg)) si si si sg si ?cont32
    intro hv32
    simp only [go_sem, simprocAttr]
    first | apply hK30 | refine ⟨sd, hK30 _ _ ?_⟩
    refine Wp.ret ?_
    refine retQ_ret ?_
    cases hm
    exact fse3
end Go.Proofs.YtbfemlilfeahkaaGreatDoor
