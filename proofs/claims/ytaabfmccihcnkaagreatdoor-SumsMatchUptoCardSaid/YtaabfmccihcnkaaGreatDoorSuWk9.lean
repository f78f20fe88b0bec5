/- That the code does what the models say (part 9). -/
import Derived.Test.YtaabfmccihcnkaaGreatDoorSuWk0
import Derived.Test.YtaabfmccihcnkaaGreatDoorSuWk1
import Derived.Test.YtaabfmccihcnkaaGreatDoorSuWk2
import Derived.Test.YtaabfmccihcnkaaGreatDoorSuWk6
import Derived.Test.YtaabfmccihcnkaaGreatDoorSuWk8
set_option linter.unusedSimpArgs false
set_option linter.unusedVariables false
open Go.Proofs Go.Shelf
namespace Go.Proofs.YtaabfmccihcnkaaGreatDoor
open Go.Vc Go.Md
set_option maxRecDepth 100000
set_option maxHeartbeats 4000000
theorem ok_R_Quote (s_1 : Str) (z : Str) (hm : R_Quote s_1 = some z) : Does Tryz.prog 116 [.p (.s s_1)] [] (fun r X => r = .p (.s z) ∧ X = []) := by
 unfold R_Quote at hm
 refine Does.of_wp 0 67 [.tmp 2] Tryz.func116 rfl (by decide) rfl rfl (Nat.le_of_ble_eq_true rfl) fun B => ?_
 refine qS ?_
 refine qS ?_
 refine Wp.seqW fun K3 hK3 hW3 => ?_
 obtain ⟨k_33, hk_33, hm⟩ := jp_elim hm
 have hcut3 : ∀ s, k_33 s = some z → K3 [(3, .p (.s s))] [] := by
  intro out_32 hs
  have hm := hk_33 _ hs
  clear hs
  try dsimp only at hm
  try dsimp only
  refine hK3 _ _ ?_
  obtain ⟨c_34, hm⟩ := chk_elim hm
  refine Wp.seqR fun K4 hK4 => ?_
  simp only [go_sem, simprocAttr]
  first | apply hK4 | refine ⟨by first | exact sd | ((repeat' apply And.intro) <;> first | assumption | omega | (simp only [List.length_append, List.length_map, List.length_cons, List.length_nil, List.length_set, List.length_replicate] at c_34 ⊢; omega)), hK4 _ _ ?_⟩
  refine Wp.ret ?_
  refine retQ_ret ?_
  cases hm
  exact fse2
 clear hK3 hk_33
 refine qS ?_
 refine Wp.block ?_
 obtain ⟨k_49, hk_49, hm⟩ := forL_cont hm
 refine Wp.fact 0 fun hl_52 => ?_
 replace hl_52 : s_1.length ≤ 274877906944 := by
  simp only [go_sem, simprocAttr, List.length_map] at hl_52
  omega
 refine Wp.forL (fun i_51 s => [(0, .p (.s s_1)), (3, .p (.s s)), (7, .p (.i .i64 (s_1.length : Int))), (8, .p (.i .i64 (i_51 : Int)))]) (fun i_51 s => []) ?_ hm ?_
 ·
  exact fse2
 clear hm
 intro i_51 out_35 hii_51 hm
 try dsimp only at hm
 try dsimp only
 refine qS ?_
 refine Wp.seqW fun K7 hK7 hW7 => ?_
 refine Wp.cond rfl ⟨⟩ (fun hc7 => ?_) (fun hc7 => ?_)
 rotate_left
 ·refine Wp.exit ?_
  have hm := hk_49 _ (forL_end hm (ge_nat (by first | exact hc7 | simpa using hc7)))
  try dsimp only at hm
  refine hW3 _ _ _ _ ?_ (hcut3 out_35 hm)
  exact fse2
 have hlt7 := lt_nat (by first | exact hc7 | simpa using hc7)
 have hw7 := wrap_succ hlt7 hl_52
 obtain ⟨c_53, nx_50, hxc_53, hyc_53, hnx_50, hm⟩ := forL_step hm hlt7
 clear hxc_53
 refine Wp.skip ?_
 simp only [thenQ]
 refine hK7 _ _ ?_
 refine Wp.seqW fun K8 hK8 hW8 => ?_
 refine Wp.block ?_
 refine Wp.seqR fun K9 hK9 => ?_
 simp only [go_sem, simprocAttr, hw7, hyc_53]
 first | apply hK9 | refine ⟨sd, hK9 _ _ ?_⟩
 refine Wp.seqR fun K10 hK10 => ?_
 simp only [go_sem, simprocAttr, hw7, hyc_53]
 first | apply hK10 | refine ⟨sd, hK10 _ _ ?_⟩
 refine Wp.block ?_
 refine Wp.seqR fun K11 hK11 => ?_
 simp only [go_sem, simprocAttr, hw7, hyc_53]
 first | apply hK11 | refine ⟨sd, hK11 _ _ ?_⟩
 refine cM hm (fun hc12 hm => ?_) (fun hc12 hm => ?_)
 ·obtain ⟨c_54, hm⟩ := chk_elim hm
  obtain ⟨c_55, hm⟩ := chk_elim hm
  obtain ⟨c_56, hm⟩ := chk_elim hm
  refine Wp.region fun K13 hK13 => ?_
  simp only [go_sem, simprocAttr, hw7, hyc_53]
  first | apply hK13 | refine ⟨by first | exact sd | ((repeat' apply And.intro) <;> first | assumption | omega | (simp only [List.length_append, List.length_map, List.length_cons, List.length_nil, List.length_set, List.length_replicate] at c_54 c_55 c_56 ⊢; omega)), hK13 _ _ ?_⟩
  refine hK8 _ _ ?_
  refine Wp.region fun K14 hK14 => ?_
  simp only [go_sem, simprocAttr, hw7, hyc_53]
  first | apply hK14 | refine ⟨sd, hK14 _ _ ?_⟩
  simp only [thenQ, blockQ, ↓reduceIte]
  refine ⟨out_35 ++ (([92] : Str) ++ (List.take ((IntKind.i64.wrap ((i_51 : Int) + 1)).toNat - i_51) (List.drop i_51 s_1))), hlt7, hnx_50 _ hm, ?_⟩
  simp only [go_sem, simprocAttr, hw7, hyc_53]
  try exact se2
 ·refine Wp.seqR fun K15 hK15 => ?_
  simp only [go_sem, simprocAttr, hw7, hyc_53]
  first | apply hK15 | refine ⟨sd, hK15 _ _ ?_⟩
  refine cM hm (fun hc16 hm => ?_) (fun hc16 hm => ?_)
  ·obtain ⟨c_57, hm⟩ := chk_elim hm
   refine Wp.region fun K17 hK17 => ?_
   simp only [go_sem, simprocAttr, hw7, hyc_53]
   first | apply hK17 | refine ⟨by first | exact sd | ((repeat' apply And.intro) <;> first | assumption | omega | (simp only [List.length_append, List.length_map, List.length_cons, List.length_nil, List.length_set, List.length_replicate] at c_57 ⊢; omega)), hK17 _ _ ?_⟩
   refine hK8 _ _ ?_
   refine Wp.region fun K18 hK18 => ?_
   simp only [go_sem, simprocAttr, hw7, hyc_53]
   first | apply hK18 | refine ⟨sd, hK18 _ _ ?_⟩
   simp only [thenQ, blockQ, ↓reduceIte]
   refine ⟨out_35 ++ ([92, 110] : Str), hlt7, hnx_50 _ hm, ?_⟩
   simp only [go_sem, simprocAttr, hw7, hyc_53]
   try exact se2
  ·refine Wp.seqR fun K19 hK19 => ?_
   simp only [go_sem, simprocAttr, hw7, hyc_53]
   first | apply hK19 | refine ⟨sd, hK19 _ _ ?_⟩
   refine cM hm (fun hc20 hm => ?_) (fun hc20 hm => ?_)
   ·obtain ⟨c_58, hm⟩ := chk_elim hm
    obtain ⟨c_59, hm⟩ := chk_elim hm
    obtain ⟨c_60, hm⟩ := chk_elim hm
    obtain ⟨c_61, hm⟩ := chk_elim hm
    obtain ⟨c_62, hm⟩ := chk_elim hm
    refine Wp.regD (plan := pl [(0, none), (1, none), (2, none), (3, none), (4, none), (5, none), (6, none), (7, none), (8, none), (9, none), (10, none), (11, none), (12, none), (13, none), (14, none), (15, none), (16, none)]) (by kernel_rfl) rfl (by kernel_rfl) fun K21 hK21 => ?_
    simp only [go_sem, simprocAttr, hw7, hyc_53]
    first | apply hK21 | refine ⟨by first | exact sd | ((repeat' apply And.intro) <;> first | assumption | omega | (simp only [List.length_append, List.length_map, List.length_cons, List.length_nil, List.length_set, List.length_replicate] at c_58 c_59 c_60 c_61 c_62 ⊢; omega)), hK21 _ _ ?_⟩
    refine hK8 _ _ ?_
    refine Wp.region fun K22 hK22 => ?_
    simp only [go_sem, simprocAttr, hw7, hyc_53]
    first | apply hK22 | refine ⟨sd, hK22 _ _ ?_⟩
    simp only [thenQ, blockQ, ↓reduceIte]
    refine ⟨out_35 ++ ((([92, 120] : Str) ++ (List.take ((IntKind.u8.wrap ((Int.fdiv (c_53.toNat : Int) (2 ^ (shI .u8 4))) + 1)).toNat - (Int.fdiv (c_53.toNat : Int) (2 ^ (shI .u8 4))).toNat) (List.drop ((Int.fdiv (c_53.toNat : Int) (2 ^ (shI .u8 4))).toNat) ([48, 49, 50, 51, 52, 53, 54, 55, 56, 57, 97, 98, 99, 100, 101, 102] : Str)))) ++ (List.take ((IntKind.u8.wrap ((bitsI .and .u8 (c_53.toNat : Int) 15) + 1)).toNat - (bitsI .and .u8 (c_53.toNat : Int) 15).toNat) (List.drop ((bitsI .and .u8 (c_53.toNat : Int) 15).toNat) ([48, 49, 50, 51, 52, 53, 54, 55, 56, 57, 97, 98, 99, 100, 101, 102] : Str)))), hlt7, hnx_50 _ hm, ?_⟩
    simp only [go_sem, simprocAttr, hw7, hyc_53]
    try exact se2
   ·obtain ⟨c_63, hm⟩ := chk_elim hm
    obtain ⟨c_64, hm⟩ := chk_elim hm
    refine Wp.region fun K23 hK23 => ?_
    simp only [go_sem, simprocAttr, hw7, hyc_53]
    first | apply hK23 | refine ⟨by first | exact sd | ((repeat' apply And.intro) <;> first | assumption | omega | (simp only [List.length_append, List.length_map, List.length_cons, List.length_nil, List.length_set, List.length_replicate] at c_63 c_64 ⊢; omega)), hK23 _ _ ?_⟩
    refine hK8 _ _ ?_
    refine Wp.region fun K24 hK24 => ?_
    simp only [go_sem, simprocAttr, hw7, hyc_53]
    first | apply hK24 | refine ⟨sd, hK24 _ _ ?_⟩
    simp only [thenQ, blockQ, ↓reduceIte]
    refine ⟨out_35 ++ (List.take ((IntKind.i64.wrap ((i_51 : Int) + 1)).toNat - i_51) (List.drop i_51 s_1)), hlt7, hnx_50 _ hm, ?_⟩
    simp only [go_sem, simprocAttr, hw7, hyc_53]
    try exact se2
theorem ok_R_bit (b_1 : Bool) (z : Str) (hm : R_bit b_1 = some z) : Does Tryz.prog 235 [.p (.b b_1)] [] (fun r X => r = .p (.s z) ∧ X = []) := by
 unfold R_bit at hm
 refine Does.of_wp 0 4 [.tmp 2] Tryz.func235 rfl (by decide) rfl rfl (Nat.le_of_ble_eq_true rfl) fun B => ?_
 refine qS ?_
 refine Wp.seqW fun K2 hK2 hW2 => ?_
 refine qS ?_
 refine cM hm (fun hc4 hm => ?_) (fun hc4 hm => ?_)
 ·refine qS ?_
  refine Wp.ret ?_
  refine retQ_ret ?_
  cases hm
  exact fse2
 ·refine Wp.skip ?_
  refine hK2 _ _ ?_
  refine qS ?_
  refine Wp.ret ?_
  refine retQ_ret ?_
  cases hm
  exact fse2
theorem ok_R_serviceWords (s_1 : api_Service) (z : Str) (hm : R_serviceWords s_1 = some z) : Does Tryz.prog 117 [.agg [.p (.s s_1.Name), .p (.s s_1.Path), .p (.b s_1.Auto), .p (.b s_1.On)]] [] (fun r X => r = .p (.s z) ∧ X = []) := by
 unfold R_serviceWords at hm
 refine Does.of_wp 0 19 [.tmp 2] Tryz.func117 rfl (by decide) rfl rfl (Nat.le_of_ble_eq_true rfl) fun B => ?_
 refine qS ?_
 obtain ⟨c_2, hm⟩ := chk_elim hm
 obtain ⟨c_3, hm⟩ := chk_elim hm
 obtain ⟨c_4, hm⟩ := chk_elim hm
 obtain ⟨r_5, hr_5, hm⟩ := call_elim hm
 obtain ⟨c_6, hm⟩ := chk_elim hm
 obtain ⟨c_7, hm⟩ := chk_elim hm
 obtain ⟨r_8, hr_8, hm⟩ := call_elim hm
 obtain ⟨c_9, hm⟩ := chk_elim hm
 refine Wp.seqD (plan := pl [(0, none), (1, none), (2, none), (3, none), (4, none), (5, none), (6, none), (7, none), (8, none), (9, none), (10, none), (11, none), (12, none), (13, none), (14, none), (15, none), (16, none)]) (by kernel_rfl) rfl (by kernel_rfl) fun K2 hK2 => ?_
 simp only [go_sem, simprocAttr]
 try refine ⟨by first | exact sd | ((repeat' apply And.intro) <;> first | assumption | omega | (simp only [List.length_append, List.length_map, List.length_cons, List.length_nil, List.length_set, List.length_replicate] at c_2 c_3 c_4 c_6 c_7 c_9 ⊢; omega)), ?_⟩
 refine Dr.callF (av := ?av3) (g := true) (o := ?o3) (fun hg => ok_R_bit s_1.Auto _ hr_5) si si si si sg si ?cont3
 simp only [go_sem, simprocAttr]
 try refine ⟨by first | exact sd | ((repeat' apply And.intro) <;> first | assumption | omega | (simp only [List.length_append, List.length_map, List.length_cons, List.length_nil, List.length_set, List.length_replicate] at c_2 c_3 c_4 c_6 c_7 c_9 ⊢; omega)), ?_⟩
 refine Dr.callF (av := ?av4) (g := true) (o := ?o4) (fun hg => ok_R_bit s_1.On _ hr_8) si si si si sg si ?cont4
 simp only [go_sem, simprocAttr]
 first | apply hK2 | refine ⟨by first | exact sd | ((repeat' apply And.intro) <;> first | assumption | omega | (simp only [List.length_append, List.length_map, List.length_cons, List.length_nil, List.length_set, List.length_replicate] at c_2 c_3 c_4 c_6 c_7 c_9 ⊢; omega)), hK2 _ _ ?_⟩
 refine Wp.ret ?_
 refine retQ_ret ?_
 cases hm
 exact fse2
theorem ok_R_Print (m_1 : api_Machine) (z : Str) (hm : R_Print m_1 = some z) : Does Tryz.prog 38 [.agg [.p (.l (List.map enc_api_Setting m_1.Facts)), .p (.l (List.map enc_api_File m_1.Files)), .p (.l (List.map enc_api_Setting m_1.Settings)), .p (.l (List.map enc_api_Service m_1.Services))]] [] (fun r X => r = .p (.s z) ∧ X = []) := by
 unfold R_Print at hm
 refine Does.of_wp 0 84 [.tmp 2] Tryz.func38 rfl (by decide) rfl rfl (Nat.le_of_ble_eq_true rfl) fun B => ?_
 refine qS ?_
 refine qS ?_
 refine Wp.adoptB 1 5 rfl ?_
 simp only [go_sem, simprocAttr]
 refine Wp.seqW fun K3 hK3 hW3 => ?_
 obtain ⟨k_37, hk_37, hm⟩ := jp_elim hm
 have hcut3 : ∀ s, k_37 s = some z → K3 [(1, .ptr 0 0), (3, .ptr 1 0)] [.cells 26 [.p (.l (List.map enc_api_Setting m_1.Facts)), .p (.l (List.map enc_api_File m_1.Files)), .p (.l (List.map enc_api_Setting m_1.Settings)), .p (.l (List.map enc_api_Service m_1.Services))], .cells 170 [.np 1, .buf 2], .sb 5 s] := by
  intro o2_36 hs
  have hm := hk_37 _ hs
  clear hs
  try dsimp only at hm
  try dsimp only
  refine hK3 _ _ ?_
  refine Wp.seqW fun K4 hK4 hW4 => ?_
  obtain ⟨k_79, hk_79, hm⟩ := jp_elim hm
  have hcut4 : ∀ s, k_79 s = some z → K4 [(1, .ptr 0 0), (3, .ptr 1 0)] [.cells 26 [.p (.l (List.map enc_api_Setting m_1.Facts)), .p (.l (List.map enc_api_File m_1.Files)), .p (.l (List.map enc_api_Setting m_1.Settings)), .p (.l (List.map enc_api_Service m_1.Services))], .cells 170 [.np 1, .buf 2], .sb 5 s] := by
   intro o2_78 hs
   have hm := hk_79 _ hs
   clear hs
   try dsimp only at hm
   try dsimp only
   refine hK4 _ _ ?_
   refine Wp.seqW fun K5 hK5 hW5 => ?_
   obtain ⟨k_115, hk_115, hm⟩ := jp_elim hm
   have hcut5 : ∀ s, k_115 s = some z → K5 [(1, .ptr 0 0), (3, .ptr 1 0)] [.cells 26 [.p (.l (List.map enc_api_Setting m_1.Facts)), .p (.l (List.map enc_api_File m_1.Files)), .p (.l (List.map enc_api_Setting m_1.Settings)), .p (.l (List.map enc_api_Service m_1.Services))], .cells 170 [.np 1, .buf 2], .sb 5 s] := by
    intro o2_114 hs
    have hm := hk_115 _ hs
    clear hs
    try dsimp only at hm
    try dsimp only
    refine hK5 _ _ ?_
    refine Wp.seqW fun K6 hK6 hW6 => ?_
    obtain ⟨k_139, hk_139, hm⟩ := jp_elim hm
    have hcut6 : ∀ s, k_139 s = some z → K6 [(3, .ptr 1 0)] [.cells 26 [.top, .top, .top, .top], .cells 170 [.np 1, .buf 2], .sb 5 s] := by
     intro o2_138 hs
     have hm := hk_139 _ hs
     clear hs
     try dsimp only at hm
     try dsimp only
     refine hK6 _ _ ?_
     obtain ⟨r_140, hr_140, hm⟩ := call_elim hm
     refine Wp.seqR fun K7 hK7 => ?_
     simp only [go_sem, simprocAttr]
     try refine ⟨sd, ?_⟩
     refine Rg.callO (av := ?av8) [1, 2] (ok_strings_Builder_String_i1 o2_138 _ hr_140) si si si sg sg ?cont8
     rintro _ _ ⟨rfl, rfl⟩ hv8
     simp only [go_sem, simprocAttr]
     first | apply hK7 | refine ⟨sd, hK7 _ _ ?_⟩
     refine Wp.ret ?_
     refine retQ_ret ?_
     cases hm
     exact fse2
    clear hK6 hk_139
    refine qS ?_
    refine Wp.block ?_
    obtain ⟨k_154, hk_154, hm⟩ := forL_cont hm
    refine Wp.fact 71 fun hl_157 => ?_
    replace hl_157 : m_1.Services.length ≤ 274877906944 := by
     simp only [go_sem, simprocAttr, List.length_map] at hl_157
     omega
    refine Wp.forL (fun i_156 s => [(3, .ptr 1 0), (71, .p (.l (List.map enc_api_Service m_1.Services))), (72, .p (.i .i64 (m_1.Services.length : Int))), (73, .p (.i .i64 (i_156 : Int)))]) (fun i_156 s => [.cells 26 [.p (.l (List.map enc_api_Setting m_1.Facts)), .p (.l (List.map enc_api_File m_1.Files)), .p (.l (List.map enc_api_Setting m_1.Settings)), .p (.l (List.map enc_api_Service m_1.Services))], .cells 170 [.np 1, .buf 2], .sb 5 s]) ?_ hm ?_
    ·
     exact fse2
    clear hm
    intro i_156 o2_148 hii_156 hm
    try dsimp only at hm
    try dsimp only
    refine qS ?_
    refine Wp.seqW fun K11 hK11 hW11 => ?_
    refine Wp.cond rfl ⟨⟩ (fun hc11 => ?_) (fun hc11 => ?_)
    rotate_left
    ·refine Wp.exit ?_
     have hm := hk_154 _ (forL_end hm (ge_nat (by first | exact hc11 | simpa using hc11)))
     try dsimp only at hm
     refine hW6 _ _ _ _ ?_ (hcut6 o2_148 hm)
     exact fse2
    have hlt11 := lt_nat (by first | exact hc11 | simpa using hc11)
    have hw11 := wrap_succ hlt11 hl_157
    obtain ⟨s_158, nx_155, hxs_158, hys_158, hnx_155, hm⟩ := forL_step hm hlt11
    replace hxs_158 := hxs_158 enc_api_Service
    refine Wp.skip ?_
    simp only [thenQ]
    refine hK11 _ _ ?_
    refine Wp.seqW fun K12 hK12 hW12 => ?_
    refine Wp.block ?_
    refine Wp.seqR fun K13 hK13 => ?_
    simp only [go_sem, simprocAttr, hw11, hxs_158]
    first | apply hK13 | refine ⟨sd, hK13 _ _ ?_⟩
    obtain ⟨r_159, hr_159, hm⟩ := call_elim hm
    obtain ⟨c_160, hm⟩ := chk_elim hm
    obtain ⟨c_161, hm⟩ := chk_elim hm
    obtain ⟨r_162, hr_162, hm⟩ := call_elim hm
    refine Wp.region fun K14 hK14 => ?_
    simp only [go_sem, simprocAttr, hw11, hxs_158]
    try refine ⟨by first | exact sd | ((repeat' apply And.intro) <;> first | assumption | omega | (simp only [List.length_append, List.length_map, List.length_cons, List.length_nil, List.length_set, List.length_replicate] at c_160 c_161 ⊢; omega)), ?_⟩
    refine Rg.callX (av := ?av15) (g := true) (fun hg => ok_R_serviceWords s_158 _ hr_159) (by simp only [go_sem, simprocAttr, hw11, hxs_158]; exact Is.mk) (by simp only [go_sem, simprocAttr, hw11, hxs_158]; exact Is.mk) (by simp only [go_sem, simprocAttr, hw11, hxs_158]; exact Is.mk) (by simp only [go_sem, simprocAttr, hw11, hxs_158]) (by simp only [go_sem, simprocAttr, hw11, hxs_158]; exact Is.mk) ?cont15
    intro hv15
    simp only [go_sem, simprocAttr, hw11, hxs_158]
    try refine ⟨by first | exact sd | ((repeat' apply And.intro) <;> first | assumption | omega | (simp only [List.length_append, List.length_map, List.length_cons, List.length_nil, List.length_set, List.length_replicate] at c_160 c_161 ⊢; omega)), ?_⟩
    refine Rg.callO (av := ?av16) [1, 2] (ok_strings_Builder_WriteString_i1 ((([115, 101, 114, 118, 105, 99, 101, 32] : Str) ++ r_159) ++ ([10] : Str)) o2_148 _ hr_162) (by simp only [go_sem, simprocAttr, hw11, hxs_158]; exact Is.mk) (by simp only [go_sem, simprocAttr, hw11, hxs_158]; exact Is.mk) (by simp only [go_sem, simprocAttr, hw11, hxs_158]; first | exact Is.mk | (simp only [List.map_append, List.map_cons, List.map_nil, ecB, ecI_i64, ecI_u8, ecS, enc_api_File, enc_api_Machine, enc_api_Service, enc_api_Setting]; exact Is.mk)) (by simp only [go_sem, simprocAttr, hw11, hxs_158]) (by simp only [go_sem, simprocAttr, hw11, hxs_158]) ?cont16
    rintro _ _ ⟨rfl, rfl⟩ hv16
    simp only [go_sem, simprocAttr, hw11, hxs_158]
    first | apply hK14 | refine ⟨by first | exact sd | ((repeat' apply And.intro) <;> first | assumption | omega | (simp only [List.length_append, List.length_map, List.length_cons, List.length_nil, List.length_set, List.length_replicate] at c_160 c_161 ⊢; omega)), hK14 _ _ ?_⟩
    refine hK12 _ _ ?_
    refine Wp.region fun K17 hK17 => ?_
    simp only [go_sem, simprocAttr, hw11, hxs_158]
    first | apply hK17 | refine ⟨sd, hK17 _ _ ?_⟩
    simp only [thenQ, blockQ, ↓reduceIte]
    refine ⟨r_162.2, hlt11, hnx_155 _ hm, ?_⟩
    simp only [go_sem, simprocAttr, hw11, hxs_158]
    try exact se2
   clear hK5 hk_115
   refine qS ?_
   refine Wp.block ?_
   obtain ⟨k_180, hk_180, hm⟩ := forL_cont hm
   refine Wp.fact 53 fun hl_183 => ?_
   replace hl_183 : m_1.Settings.length ≤ 274877906944 := by
    simp only [go_sem, simprocAttr, List.length_map] at hl_183
    omega
   refine Wp.forL (fun i_182 s => [(1, .ptr 0 0), (3, .ptr 1 0), (53, .p (.l (List.map enc_api_Setting m_1.Settings))), (54, .p (.i .i64 (m_1.Settings.length : Int))), (55, .p (.i .i64 (i_182 : Int)))]) (fun i_182 s => [.cells 26 [.p (.l (List.map enc_api_Setting m_1.Facts)), .p (.l (List.map enc_api_File m_1.Files)), .p (.l (List.map enc_api_Setting m_1.Settings)), .p (.l (List.map enc_api_Service m_1.Services))], .cells 170 [.np 1, .buf 2], .sb 5 s]) ?_ hm ?_
   ·
    exact fse2
   clear hm
   intro i_182 o2_172 hii_182 hm
   try dsimp only at hm
   try dsimp only
   refine qS ?_
   refine Wp.seqW fun K20 hK20 hW20 => ?_
   refine Wp.cond rfl ⟨⟩ (fun hc20 => ?_) (fun hc20 => ?_)
   rotate_left
   ·refine Wp.exit ?_
    have hm := hk_180 _ (forL_end hm (ge_nat (by first | exact hc20 | simpa using hc20)))
    try dsimp only at hm
    refine hW5 _ _ _ _ ?_ (hcut5 o2_172 hm)
    exact fse2
   have hlt20 := lt_nat (by first | exact hc20 | simpa using hc20)
   have hw20 := wrap_succ hlt20 hl_183
   obtain ⟨s_184, nx_181, hxs_184, hys_184, hnx_181, hm⟩ := forL_step hm hlt20
   replace hxs_184 := hxs_184 enc_api_Setting
   refine Wp.skip ?_
   simp only [thenQ]
   refine hK20 _ _ ?_
   refine Wp.seqW fun K21 hK21 hW21 => ?_
   refine Wp.block ?_
   refine Wp.seqR fun K22 hK22 => ?_
   simp only [go_sem, simprocAttr, hw20, hxs_184]
   first | apply hK22 | refine ⟨sd, hK22 _ _ ?_⟩
   obtain ⟨c_185, hm⟩ := chk_elim hm
   obtain ⟨c_186, hm⟩ := chk_elim hm
   obtain ⟨r_187, hr_187, hm⟩ := call_elim hm
   obtain ⟨c_188, hm⟩ := chk_elim hm
   obtain ⟨c_189, hm⟩ := chk_elim hm
   obtain ⟨r_190, hr_190, hm⟩ := call_elim hm
   refine Wp.regD (plan := pl [(0, none), (1, none), (2, none), (3, none), (4, none), (5, none), (6, none), (7, none), (8, none), (9, some [])]) (by kernel_rfl) rfl (by kernel_rfl) fun K23 hK23 => ?_
   simp only [go_sem, simprocAttr, hw20, hxs_184]
   try refine ⟨by first | exact sd | ((repeat' apply And.intro) <;> first | assumption | omega | (simp only [List.length_append, List.length_map, List.length_cons, List.length_nil, List.length_set, List.length_replicate] at c_185 c_186 c_188 c_189 ⊢; omega)), ?_⟩
   refine Dr.callF (av := ?av24) (g := true) (o := ?o24) (fun hg => ok_R_Quote s_184.Value _ hr_187) (by simp only [go_sem, simprocAttr, hw20, hxs_184]; exact Is.mk) (by simp only [go_sem, simprocAttr, hw20, hxs_184]; exact Is.mk) (by simp only [go_sem, simprocAttr, hw20, hxs_184]; exact Is.mk) (by simp only [go_sem, simprocAttr, hw20, hxs_184]; exact Is.mk) (by simp only [go_sem, simprocAttr, hw20, hxs_184]) (by simp only [go_sem, simprocAttr, hw20, hxs_184]; exact Is.mk) ?cont24
   simp only [go_sem, simprocAttr, hw20, hxs_184]
   try refine ⟨by first | exact sd | ((repeat' apply And.intro) <;> first | assumption | omega | (simp only [List.length_append, List.length_map, List.length_cons, List.length_nil, List.length_set, List.length_replicate] at c_185 c_186 c_188 c_189 ⊢; omega)), ?_⟩
   refine Dr.of_br (Br.callS (av := ?av25) (o := ?o25) 2 [1, 2] (ok_strings_Builder_WriteString_i1 ((((([115, 101, 116, 32] : Str) ++ s_184.Key) ++ ([32] : Str)) ++ r_187) ++ ([10] : Str)) o2_172 _ hr_190) (by simp only [go_sem, simprocAttr, hw20, hxs_184]; exact Is.mk) (by simp only [go_sem, simprocAttr, hw20, hxs_184]; exact Is.mk) (by simp only [go_sem, simprocAttr, hw20, hxs_184]; exact Is.mk) (by simp only [go_sem, simprocAttr, hw20, hxs_184]; exact Is.mk) (by simp only [go_sem, simprocAttr, hw20, hxs_184]; first | exact Is.mk | (simp only [List.map_append, List.map_cons, List.map_nil, ecB, ecI_i64, ecI_u8, ecS, enc_api_File, enc_api_Machine, enc_api_Service, enc_api_Setting]; exact Is.mk)) (by simp only [go_sem, simprocAttr, hw20, hxs_184]) (by simp only [go_sem, simprocAttr, hw20, hxs_184]) (by simp only [go_sem, simprocAttr, hw20, hxs_184]) (by simp only [go_sem, simprocAttr, hw20, hxs_184]) ?cont25)
   simp only [go_sem, simprocAttr, hw20, hxs_184]
   first | apply hK23 | refine ⟨by first | exact sd | ((repeat' apply And.intro) <;> first | assumption | omega | (simp only [List.length_append, List.length_map, List.length_cons, List.length_nil, List.length_set, List.length_replicate] at c_185 c_186 c_188 c_189 ⊢; omega)), hK23 _ _ ?_⟩
   refine hK21 _ _ ?_
   refine Wp.region fun K26 hK26 => ?_
   simp only [go_sem, simprocAttr, hw20, hxs_184]
   first | apply hK26 | refine ⟨sd, hK26 _ _ ?_⟩
   simp only [thenQ, blockQ, ↓reduceIte]
   refine ⟨r_190.2, hlt20, hnx_181 _ hm, ?_⟩
   simp only [go_sem, simprocAttr, hw20, hxs_184]
   try exact se2
  clear hK4 hk_79
  refine qS ?_
  refine Wp.block ?_
  obtain ⟨k_212, hk_212, hm⟩ := forL_cont hm
  refine Wp.fact 32 fun hl_215 => ?_
  replace hl_215 : m_1.Files.length ≤ 274877906944 := by
   simp only [go_sem, simprocAttr, List.length_map] at hl_215
   omega
  refine Wp.forL (fun i_214 s => [(1, .ptr 0 0), (3, .ptr 1 0), (32, .p (.l (List.map enc_api_File m_1.Files))), (33, .p (.i .i64 (m_1.Files.length : Int))), (34, .p (.i .i64 (i_214 : Int)))]) (fun i_214 s => [.cells 26 [.p (.l (List.map enc_api_Setting m_1.Facts)), .p (.l (List.map enc_api_File m_1.Files)), .p (.l (List.map enc_api_Setting m_1.Settings)), .p (.l (List.map enc_api_Service m_1.Services))], .cells 170 [.np 1, .buf 2], .sb 5 s]) ?_ hm ?_
  ·
   exact fse2
  clear hm
  intro i_214 o2_202 hii_214 hm
  try dsimp only at hm
  try dsimp only
  refine qS ?_
  refine Wp.seqW fun K29 hK29 hW29 => ?_
  refine Wp.cond rfl ⟨⟩ (fun hc29 => ?_) (fun hc29 => ?_)
  rotate_left
  ·refine Wp.exit ?_
   have hm := hk_212 _ (forL_end hm (ge_nat (by first | exact hc29 | simpa using hc29)))
   try dsimp only at hm
   refine hW4 _ _ _ _ ?_ (hcut4 o2_202 hm)
   exact fse2
  have hlt29 := lt_nat (by first | exact hc29 | simpa using hc29)
  have hw29 := wrap_succ hlt29 hl_215
  obtain ⟨f_216, nx_213, hxf_216, hyf_216, hnx_213, hm⟩ := forL_step hm hlt29
  replace hxf_216 := hxf_216 enc_api_File
  refine Wp.skip ?_
  simp only [thenQ]
  refine hK29 _ _ ?_
  refine Wp.seqW fun K30 hK30 hW30 => ?_
  refine Wp.block ?_
  refine Wp.seqR fun K31 hK31 => ?_
  simp only [go_sem, simprocAttr, hw29, hxf_216]
  first | apply hK31 | refine ⟨sd, hK31 _ _ ?_⟩
  refine Wp.seqR fun K32 hK32 => ?_
  simp only [go_sem, simprocAttr, hw29, hxf_216]
  first | apply hK32 | refine ⟨sd, hK32 _ _ ?_⟩
  refine Wp.seqW fun K33 hK33 hW33 => ?_
  obtain ⟨k_218, hk_218, hm⟩ := jp_elim hm
  have hcut33 : ∀ s, k_218 s = some z → K33 [(1, .ptr 0 0), (3, .ptr 1 0), (7, .ptr 3 0), (8, .p (.s s)), (32, .p (.l (List.map enc_api_File m_1.Files))), (33, .p (.i .i64 (m_1.Files.length : Int))), (34, .p (.i .i64 (i_214 : Int)))] [.cells 26 [.p (.l (List.map enc_api_Setting m_1.Facts)), .p (.l (List.map enc_api_File m_1.Files)), .p (.l (List.map enc_api_Setting m_1.Settings)), .p (.l (List.map enc_api_Service m_1.Services))], .cells 170 [.np 1, .buf 2], .sb 5 o2_202, .cells 38 [.p (.s f_216.Path), .p (.s f_216.Data), .p (.b f_216.Runs)]] := by
   intro word_217 hs
   have hm := hk_218 _ hs
   clear hs
   try dsimp only at hm
   try dsimp only
   refine hK33 _ _ ?_
   obtain ⟨c_219, hm⟩ := chk_elim hm
   obtain ⟨c_220, hm⟩ := chk_elim hm
   obtain ⟨r_221, hr_221, hm⟩ := call_elim hm
   obtain ⟨c_222, hm⟩ := chk_elim hm
   obtain ⟨c_223, hm⟩ := chk_elim hm
   obtain ⟨r_224, hr_224, hm⟩ := call_elim hm
   refine Wp.regD (plan := pl [(0, none), (1, none), (2, none), (3, none), (4, none), (5, none), (6, none), (7, none), (8, none), (9, none), (10, some [])]) (by kernel_rfl) rfl (by kernel_rfl) fun K34 hK34 => ?_
   simp only [go_sem, simprocAttr, hw29, hxf_216]
   try refine ⟨by first | exact sd | ((repeat' apply And.intro) <;> first | assumption | omega | (simp only [List.length_append, List.length_map, List.length_cons, List.length_nil, List.length_set, List.length_replicate] at c_219 c_220 c_222 c_223 ⊢; omega)), ?_⟩
   refine Dr.callF (av := ?av35) (g := true) (o := ?o35) (fun hg => ok_R_Quote f_216.Data _ hr_221) (by simp only [go_sem, simprocAttr, hw29, hxf_216]; exact Is.mk) (by simp only [go_sem, simprocAttr, hw29, hxf_216]; exact Is.mk) (by simp only [go_sem, simprocAttr, hw29, hxf_216]; exact Is.mk) (by simp only [go_sem, simprocAttr, hw29, hxf_216]; exact Is.mk) (by simp only [go_sem, simprocAttr, hw29, hxf_216]) (by simp only [go_sem, simprocAttr, hw29, hxf_216]; exact Is.mk) ?cont35
   simp only [go_sem, simprocAttr, hw29, hxf_216]
   try refine ⟨by first | exact sd | ((repeat' apply And.intro) <;> first | assumption | omega | (simp only [List.length_append, List.length_map, List.length_cons, List.length_nil, List.length_set, List.length_replicate] at c_219 c_220 c_222 c_223 ⊢; omega)), ?_⟩
   refine Dr.of_br (Br.callS (av := ?av36) (o := ?o36) 2 [1, 2] (ok_strings_Builder_WriteString_i1 ((((word_217 ++ f_216.Path) ++ ([32] : Str)) ++ r_221) ++ ([10] : Str)) o2_202 _ hr_224) (by simp only [go_sem, simprocAttr, hw29, hxf_216]; exact Is.mk) (by simp only [go_sem, simprocAttr, hw29, hxf_216]; exact Is.mk) (by simp only [go_sem, simprocAttr, hw29, hxf_216]; exact Is.mk) (by simp only [go_sem, simprocAttr, hw29, hxf_216]; exact Is.mk) (by simp only [go_sem, simprocAttr, hw29, hxf_216]; first | exact Is.mk | (simp only [List.map_append, List.map_cons, List.map_nil, ecB, ecI_i64, ecI_u8, ecS, enc_api_File, enc_api_Machine, enc_api_Service, enc_api_Setting]; exact Is.mk)) (by simp only [go_sem, simprocAttr, hw29, hxf_216]) (by simp only [go_sem, simprocAttr, hw29, hxf_216]) (by simp only [go_sem, simprocAttr, hw29, hxf_216]) (by simp only [go_sem, simprocAttr, hw29, hxf_216]) ?cont36)
   simp only [go_sem, simprocAttr, hw29, hxf_216]
   first | apply hK34 | refine ⟨by first | exact sd | ((repeat' apply And.intro) <;> first | assumption | omega | (simp only [List.length_append, List.length_map, List.length_cons, List.length_nil, List.length_set, List.length_replicate] at c_219 c_220 c_222 c_223 ⊢; omega)), hK34 _ _ ?_⟩
   refine hK30 _ _ ?_
   refine Wp.region fun K37 hK37 => ?_
   simp only [go_sem, simprocAttr, hw29, hxf_216]
   first | apply hK37 | refine ⟨sd, hK37 _ _ ?_⟩
   simp only [thenQ, blockQ, ↓reduceIte]
   refine ⟨r_224.2, hlt29, hnx_213 _ hm, ?_⟩
   simp only [go_sem, simprocAttr, hw29, hxf_216]
   try exact se2
  clear hK33 hk_218
  refine Wp.seqR fun K38 hK38 => ?_
  simp only [go_sem, simprocAttr, hw29, hxf_216]
  first | apply hK38 | refine ⟨sd, hK38 _ _ ?_⟩
  refine cM hm (fun hc39 hm => ?_) (fun hc39 hm => ?_)
  ·refine Wp.region fun K40 hK40 => ?_
   simp only [go_sem, simprocAttr, hw29, hxf_216]
   first | apply hK40 | refine ⟨sd, hK40 _ _ ?_⟩
   refine hW33 _ _ _ _ ?_ (hcut33 ([114, 117, 110, 32] : Str) hm)
   simp only [go_sem, simprocAttr, hw29, hxf_216]
   try exact se2
  ·refine Wp.skip ?_
   refine hW33 _ _ _ _ ?_ (hcut33 ([102, 105, 108, 101, 32] : Str) hm)
   simp only [go_sem, simprocAttr, hw29, hxf_216]
   try exact se2
 clear hK3 hk_37
 refine qS ?_
 refine Wp.block ?_
 obtain ⟨k_242, hk_242, hm⟩ := forL_cont hm
 refine Wp.fact 14 fun hl_245 => ?_
 replace hl_245 : m_1.Facts.length ≤ 274877906944 := by
  simp only [go_sem, simprocAttr, List.length_map] at hl_245
  omega
 refine Wp.forL (fun i_244 s => [(1, .ptr 0 0), (3, .ptr 1 0), (14, .p (.l (List.map enc_api_Setting m_1.Facts))), (15, .p (.i .i64 (m_1.Facts.length : Int))), (16, .p (.i .i64 (i_244 : Int)))]) (fun i_244 s => [.cells 26 [.p (.l (List.map enc_api_Setting m_1.Facts)), .p (.l (List.map enc_api_File m_1.Files)), .p (.l (List.map enc_api_Setting m_1.Settings)), .p (.l (List.map enc_api_Service m_1.Services))], .cells 170 [.np 1, .buf 2], .sb 5 s]) ?_ hm ?_
 ·
  exact fse2
 clear hm
 intro i_244 o2_234 hii_244 hm
 try dsimp only at hm
 try dsimp only
 refine qS ?_
 refine Wp.seqW fun K43 hK43 hW43 => ?_
 refine Wp.cond rfl ⟨⟩ (fun hc43 => ?_) (fun hc43 => ?_)
 rotate_left
 ·refine Wp.exit ?_
  have hm := hk_242 _ (forL_end hm (ge_nat (by first | exact hc43 | simpa using hc43)))
  try dsimp only at hm
  refine hW3 _ _ _ _ ?_ (hcut3 o2_234 hm)
  exact fse2
 have hlt43 := lt_nat (by first | exact hc43 | simpa using hc43)
 have hw43 := wrap_succ hlt43 hl_245
 obtain ⟨s_246, nx_243, hxs_246, hys_246, hnx_243, hm⟩ := forL_step hm hlt43
 replace hxs_246 := hxs_246 enc_api_Setting
 refine Wp.skip ?_
 simp only [thenQ]
 refine hK43 _ _ ?_
 refine Wp.seqW fun K44 hK44 hW44 => ?_
 refine Wp.block ?_
 refine Wp.seqR fun K45 hK45 => ?_
 simp only [go_sem, simprocAttr, hw43, hxs_246]
 first | apply hK45 | refine ⟨sd, hK45 _ _ ?_⟩
 obtain ⟨c_247, hm⟩ := chk_elim hm
 obtain ⟨c_248, hm⟩ := chk_elim hm
 obtain ⟨r_249, hr_249, hm⟩ := call_elim hm
 obtain ⟨c_250, hm⟩ := chk_elim hm
 obtain ⟨c_251, hm⟩ := chk_elim hm
 obtain ⟨r_252, hr_252, hm⟩ := call_elim hm
 refine Wp.regD (plan := pl [(0, none), (1, none), (2, none), (3, none), (4, none), (5, none), (6, none), (7, none), (8, none), (9, some [])]) (by kernel_rfl) rfl (by kernel_rfl) fun K46 hK46 => ?_
 simp only [go_sem, simprocAttr, hw43, hxs_246]
 try refine ⟨by first | exact sd | ((repeat' apply And.intro) <;> first | assumption | omega | (simp only [List.length_append, List.length_map, List.length_cons, List.length_nil, List.length_set, List.length_replicate] at c_247 c_248 c_250 c_251 ⊢; omega)), ?_⟩
 refine Dr.callF (av := ?av47) (g := true) (o := ?o47) (fun hg => ok_R_Quote s_246.Value _ hr_249) (by simp only [go_sem, simprocAttr, hw43, hxs_246]; exact Is.mk) (by simp only [go_sem, simprocAttr, hw43, hxs_246]; exact Is.mk) (by simp only [go_sem, simprocAttr, hw43, hxs_246]; exact Is.mk) (by simp only [go_sem, simprocAttr, hw43, hxs_246]; exact Is.mk) (by simp only [go_sem, simprocAttr, hw43, hxs_246]) (by simp only [go_sem, simprocAttr, hw43, hxs_246]; exact Is.mk) ?cont47
 simp only [go_sem, simprocAttr, hw43, hxs_246]
 try refine ⟨by first | exact sd | ((repeat' apply And.intro) <;> first | assumption | omega | (simp only [List.length_append, List.length_map, List.length_cons, List.length_nil, List.length_set, List.length_replicate] at c_247 c_248 c_250 c_251 ⊢; omega)), ?_⟩
 refine Dr.of_br (Br.callS (av := ?av48) (o := ?o48) 2 [1, 2] (ok_strings_Builder_WriteString_i1 ((((([102, 97, 99, 116, 32] : Str) ++ s_246.Key) ++ ([32] : Str)) ++ r_249) ++ ([10] : Str)) o2_234 _ hr_252) (by simp only [go_sem, simprocAttr, hw43, hxs_246]; exact Is.mk) (by simp only [go_sem, simprocAttr, hw43, hxs_246]; exact Is.mk) (by simp only [go_sem, simprocAttr, hw43, hxs_246]; exact Is.mk) (by simp only [go_sem, simprocAttr, hw43, hxs_246]; exact Is.mk) (by simp only [go_sem, simprocAttr, hw43, hxs_246]; first | exact Is.mk | (simp only [List.map_append, List.map_cons, List.map_nil, ecB, ecI_i64, ecI_u8, ecS, enc_api_File, enc_api_Machine, enc_api_Service, enc_api_Setting]; exact Is.mk)) (by simp only [go_sem, simprocAttr, hw43, hxs_246]) (by simp only [go_sem, simprocAttr, hw43, hxs_246]) (by simp only [go_sem, simprocAttr, hw43, hxs_246]) (by simp only [go_sem, simprocAttr, hw43, hxs_246]) ?cont48)
 simp only [go_sem, simprocAttr, hw43, hxs_246]
 first | apply hK46 | refine ⟨by first | exact sd | ((repeat' apply And.intro) <;> first | assumption | omega | (simp only [List.length_append, List.length_map, List.length_cons, List.length_nil, List.length_set, List.length_replicate] at c_247 c_248 c_250 c_251 ⊢; omega)), hK46 _ _ ?_⟩
 refine hK44 _ _ ?_
 refine Wp.region fun K49 hK49 => ?_
 simp only [go_sem, simprocAttr, hw43, hxs_246]
 first | apply hK49 | refine ⟨sd, hK49 _ _ ?_⟩
 simp only [thenQ, blockQ, ↓reduceIte]
 refine ⟨r_252.2, hlt43, hnx_243 _ hm, ?_⟩
 simp only [go_sem, simprocAttr, hw43, hxs_246]
 try exact se2
theorem ok_R_Boot (m_1 : api_Machine) (z : api_Machine) (hm : R_Boot m_1 = some z) : Does Tryz.prog 39 [.agg [.p (.l (List.map enc_api_Setting m_1.Facts)), .p (.l (List.map enc_api_File m_1.Files)), .p (.l (List.map enc_api_Setting m_1.Settings)), .p (.l (List.map enc_api_Service m_1.Services))]] [] (fun r X => r = .agg [.p (.l (List.map enc_api_Setting z.Facts)), .p (.l (List.map enc_api_File z.Files)), .p (.l (List.map enc_api_Setting z.Settings)), .p (.l (List.map enc_api_Service z.Services))] ∧ X = []) := by
 unfold R_Boot at hm
 refine Does.of_wp 0 27 [.cell 2 26] Tryz.func39 rfl (by decide) rfl rfl (Nat.le_of_ble_eq_true rfl) fun B => ?_
 refine qS ?_
 obtain ⟨r_2, hr_2, hm⟩ := call_elim hm
 refine Wp.seqR fun K2 hK2 => ?_
 simp only [go_sem, simprocAttr]
 try refine ⟨sd, ?_⟩
 refine Rg.callO (av := ?av3) [] (ok_slices_Clone_api_Service_api_Service_new m_1.Services _ hr_2) si si si sg sg ?cont3
 rintro _ _ ⟨rfl, rfl⟩ hv3
 simp only [go_sem, simprocAttr]
 first | apply hK2 | refine ⟨sd, hK2 _ _ ?_⟩
 refine Wp.seqW fun K4 hK4 hW4 => ?_
 obtain ⟨k_18, hk_18, hm⟩ := jp_elim hm
 have hcut4 : ∀ s, k_18 s = some z → K4 [(1, .ptr 0 0), (2, .ptr 1 0)] [.cells 26 [.p (.l (List.map enc_api_Setting m_1.Facts)), .p (.l (List.map enc_api_File m_1.Files)), .p (.l (List.map enc_api_Setting m_1.Settings)), .buf 2], .cells 26 [.nils, .nils, .nils, .nils], .buf 42 4 (List.map enc_api_Service s)] := by
  intro o2_17 hs
  have hm := hk_18 _ hs
  clear hs
  try dsimp only at hm
  try dsimp only
  refine hK4 _ _ ?_
  refine qS ?_
  refine Wp.ret ?_
  refine retQ_ret ?_
  cases hm
  exact fse2
 clear hK4 hk_18
 refine qS ?_
 refine Wp.block ?_
 obtain ⟨k_28, hk_28, hm⟩ := loopN_cont hm
 refine Wp.loopN (fun s => [(1, .ptr 0 0), (2, .ptr 1 0), (10, .p (.i .i64 (r_2.length : Int))), (11, .p (.i .i64 s.1))]) (fun s => [.cells 26 [.p (.l (List.map enc_api_Setting m_1.Facts)), .p (.l (List.map enc_api_File m_1.Files)), .p (.l (List.map enc_api_Setting m_1.Settings)), .buf 2], .cells 26 [.nils, .nils, .nils, .nils], .buf 42 4 (List.map enc_api_Service s.2)]) ?_ hm ?_
 ·
  exact fse2
 clear hm
 intro s nx_29 hm
 obtain ⟨t11_23, o2_24⟩ := s
 try dsimp only at hm
 try dsimp only
 refine qS ?_
 refine Wp.seqW fun K8 hK8 hW8 => ?_
 refine cM hm (fun hc9 hm => ?_) (fun hc9 hm => ?_)
 ·refine Wp.skip ?_
  refine hK8 _ _ ?_
  refine Wp.seqW fun K10 hK10 hW10 => ?_
  refine Wp.block ?_
  refine qS ?_
  obtain ⟨c_30, hm⟩ := chk_elim hm
  obtain ⟨c_31, hm⟩ := chk_elim hm
  have hr_32 := fun h => getD_encB (l := o2_24) (e := enc_api_Service) (d := (api_Service.mk [] [] false false)) (i := t11_23.toNat) h []
  refine Wp.regD (plan := pl [(0, none), (1, none), (2, none), (3, none), (4, none), (5, none), (6, none), (7, none), (8, none), (9, none), (10, none), (11, some [])]) (by kernel_rfl) rfl (by kernel_rfl) fun K12 hK12 => ?_
  simp only [go_sem, simprocAttr, hr_32 (by omega)]
  first | apply hK12 | refine ⟨by first | exact sd | ((repeat' apply And.intro) <;> first | assumption | omega | (simp only [List.length_append, List.length_map, List.length_cons, List.length_nil, List.length_set, List.length_replicate] at c_30 c_31 ⊢; omega)), hK12 _ _ ?_⟩
  refine hK10 _ _ ?_
  refine qR ?_
  simp only [thenQ, blockQ, ↓reduceIte]
  refine ⟨(IntKind.i64.wrap (t11_23 + 1), List.set o2_24 t11_23.toNat (api_Service.mk ((o2_24.getD t11_23.toNat (api_Service.mk [] [] false false)).Name) ((o2_24.getD t11_23.toNat (api_Service.mk [] [] false false)).Path) ((o2_24.getD t11_23.toNat (api_Service.mk [] [] false false)).Auto) ((o2_24.getD t11_23.toNat (api_Service.mk [] [] false false)).Auto))), hm, ?_⟩
  exact fse2
 ·refine Wp.exit ?_
  simp only [thenQ, blockQ, ↓reduceIte]
  have hm := hk_28 _ hm
  try dsimp only at hm
  refine hW4 _ _ _ _ ?_ (hcut4 o2_24 hm)
  exact fse2
theorem ok_Law_SumsMatch (text_1 : Str) (a_2 : api_Machine) (b_3 : api_Machine) (z : Bool) (hm : Law_SumsMatch text_1 a_2 b_3 = some z) : Does Tryz.prog 4 [.p (.s text_1), .agg [.p (.l (List.map enc_api_Setting a_2.Facts)), .p (.l (List.map enc_api_File a_2.Files)), .p (.l (List.map enc_api_Setting a_2.Settings)), .p (.l (List.map enc_api_Service a_2.Services))], .agg [.p (.l (List.map enc_api_Setting b_3.Facts)), .p (.l (List.map enc_api_File b_3.Files)), .p (.l (List.map enc_api_Setting b_3.Settings)), .p (.l (List.map enc_api_Service b_3.Services))]] [] (fun r X => r = .p (.b z) ∧ X = []) := by
 unfold Law_SumsMatch at hm
 refine Does.of_wp 0 96 [.tmp 6] Tryz.func4 rfl (by decide) rfl rfl (Nat.le_of_ble_eq_true rfl) fun B => ?_
 refine qS ?_
 refine Wp.seqW fun K2 hK2 hW2 => ?_
 obtain ⟨r_4, hr_4, hm⟩ := call_elim hm
 refine Wp.seqR fun K3 hK3 => ?_
 simp only [go_sem, simprocAttr]
 try refine ⟨sd, ?_⟩
 refine Rg.callX (av := ?av4) (g := true) (fun hg => ok_Law_landed  _ hr_4) si si si sg si ?cont4
 intro hv4
 simp only [go_sem, simprocAttr]
 first | apply hK3 | refine ⟨sd, hK3 _ _ ?_⟩
 refine cM hm (fun hc5 hm => ?_) (fun hc5 hm => ?_)
 ·refine qS ?_
  refine Wp.ret ?_
  refine retQ_ret ?_
  cases hm
  exact fse1
 ·refine Wp.skip ?_
  refine hK2 _ _ ?_
  refine Wp.seqW fun K7 hK7 hW7 => ?_
  obtain ⟨r_5, hr_5, hm⟩ := call_elim hm
  obtain ⟨r_6, hr_6, hm⟩ := call_elim hm
  obtain ⟨r_7, hr_7, hm⟩ := callG_elim hm
  obtain ⟨r_8, hr_8, hm⟩ := callG_elim hm
  obtain ⟨r_9, hr_9, hm⟩ := callG_elim hm
  refine Wp.seqD (plan := pl [(0, none), (1, none), (2, none), (3, none), (4, none), (5, none), (6, none), (7, none), (8, none), (9, none), (10, none), (11, none), (12, none), (13, none), (14, none), (15, none), (16, none), (17, none), (18, none), (19, none)]) (by kernel_rfl) rfl (by kernel_rfl) fun K8 hK8 => ?_
  simp only [go_sem, simprocAttr]
  try refine ⟨sd, ?_⟩
  refine Dr.callF (av := ?av9) (g := true) (o := ?o9) (fun hg => ok_disk_SumOf text_1 _ hr_5) si si si si sg si ?cont9
  simp only [go_sem, simprocAttr]
  try refine ⟨sd, ?_⟩
  refine Dr.callF (av := ?av10) (g := true) (o := ?o10) (fun hg => ok_R_SumOf text_1 _ hr_6) si si si si sg si ?cont10
  simp only [go_sem, simprocAttr]
  try refine ⟨sd, ?_⟩
  refine Dr.callF (av := ?av11) (g := !(!decide (r_5 = r_6))) (o := ?o11) (fun hg => ok_disk_Same a_2 b_3 _ (hr_7 hg)) si si si si sg si ?cont11
  simp only [go_sem, simprocAttr]
  try refine ⟨sd, ?_⟩
  refine Dr.callF (av := ?av12) (g := !(!decide (r_5 = r_6))) (o := ?o12) (fun hg => ok_R_Same a_2 b_3 _ (hr_8 hg)) si si si si sg si ?cont12
  simp only [go_sem, simprocAttr]
  try refine ⟨sd, ?_⟩
  refine Dr.callF (av := ?av13) (g := !((!decide (r_5 = r_6)) || (!decide (r_7 = r_8)))) (o := ?o13) (fun hg => ok_disk_Same a_2 a_2 _ (hr_9 hg)) si si si si sg si ?cont13
  simp only [go_sem, simprocAttr]
  first | apply hK8 | refine ⟨sd, hK8 _ _ ?_⟩
  refine cM hm (fun hc14 hm => ?_) (fun hc14 hm => ?_)
  ·refine qS ?_
   refine Wp.ret ?_
   refine retQ_ret ?_
   cases hm
   exact fse1
  ·refine Wp.skip ?_
   refine hK7 _ _ ?_
   obtain ⟨r_10, hr_10, hm⟩ := call_elim hm
   refine Wp.seqR fun K16 hK16 => ?_
   simp only [go_sem, simprocAttr]
   try refine ⟨sd, ?_⟩
   refine Rg.callF (av := ?av17) (ok_Law_fit a_2 _ hr_10) si si sg ?cont17
   intro hv17
   simp only [go_sem, simprocAttr]
   first | apply hK16 | refine ⟨sd, hK16 _ _ ?_⟩
   obtain ⟨r_11, hr_11, hm⟩ := call_elim hm
   refine Wp.seqR fun K18 hK18 => ?_
   simp only [go_sem, simprocAttr]
   try refine ⟨sd, ?_⟩
   refine Rg.callX (av := ?av19) (g := true) (fun hg => ok_disk_Sum r_10 _ hr_11) si si si sg si ?cont19
   intro hv19
   simp only [go_sem, simprocAttr]
   first | apply hK18 | refine ⟨sd, hK18 _ _ ?_⟩
   obtain ⟨r_12, hr_12, hm⟩ := call_elim hm
   refine Wp.seqR fun K20 hK20 => ?_
   simp only [go_sem, simprocAttr]
   try refine ⟨sd, ?_⟩
   refine Rg.callX (av := ?av21) (g := true) (fun hg => ok_disk_Size r_10 _ hr_12) si si si sg si ?cont21
   intro hv21
   simp only [go_sem, simprocAttr]
   first | apply hK20 | refine ⟨sd, hK20 _ _ ?_⟩
   obtain ⟨r_13, hr_13, hm⟩ := call_elim hm
   refine Wp.seqR fun K22 hK22 => ?_
   simp only [go_sem, simprocAttr]
   try refine ⟨sd, ?_⟩
   refine Rg.callF (av := ?av23) (ok_disk_Boot r_10 _ hr_13) si si sg ?cont23
   intro hv23
   simp only [go_sem, simprocAttr]
   first | apply hK22 | refine ⟨sd, hK22 _ _ ?_⟩
   refine qS ?_
   refine Wp.seqW fun K25 hK25 hW25 => ?_
   obtain ⟨k_23, hk_23, hm⟩ := jp_elim hm
   have hcut25 : ∀ s, k_23 s = some z → K25 [(4, .ptr 0 0), (7, .p (.s r_11.1)), (8, .p (.i .i64 r_11.2)), (9, .p (.i .i64 r_12.1)), (10, .p (.i .i64 r_12.2)), (11, .ptr 2 0), (12, .p (.i .i64 r_13.2)), (13, .p (.i .i64 s))] [.cells 26 [.p (.l (List.map enc_api_Setting r_10.Facts)), .p (.l (List.map enc_api_File r_10.Files)), .p (.l (List.map enc_api_Setting r_10.Settings)), .p (.l (List.map enc_api_Service r_10.Services))], .cells 26 [.top, .top, .top, .top], .cells 26 [.p (.l (List.map enc_api_Setting r_13.1.Facts)), .p (.l (List.map enc_api_File r_13.1.Files)), .p (.l (List.map enc_api_Setting r_13.1.Settings)), .p (.l (List.map enc_api_Service r_13.1.Services))]] := by
    intro size_22 hs
    have hm := hk_23 _ hs
    clear hs
    try dsimp only at hm
    try dsimp only
    refine hK25 _ _ ?_
    obtain ⟨r_29, hr_29, hm⟩ := callG_elim hm
    obtain ⟨r_30, hr_30, hm⟩ := callG_elim hm
    obtain ⟨v_31, hv_32, hm⟩ := letv_elim hm
    obtain ⟨r_33, hr_33, hm⟩ := callG_elim hm
    obtain ⟨r_34, hr_34, hm⟩ := callG_elim hm
    refine Wp.seqD (plan := pl [(0, none), (1, none), (2, none), (3, none), (4, none), (5, none), (6, none), (7, none), (8, none), (9, none), (10, none), (11, none), (12, none), (13, none), (14, none), (15, none), (16, none), (17, none), (18, none), (19, none), (20, none), (21, none), (22, none), (23, none), (24, none), (25, some [23]), (26, none), (27, none), (28, none)]) (by kernel_rfl) rfl (by kernel_rfl) fun K26 hK26 => ?_
    simp only [go_sem, simprocAttr, hv_32]
    try refine ⟨sd, ?_⟩
    refine Dr.callF (av := ?av27) (g := decide (r_11.2 = 0)) (o := ?o27) (fun hg => ok_R_Print r_10 _ (hr_29 hg)) (by simp only [go_sem, simprocAttr, hv_32]; exact Is.mk) (by simp only [go_sem, simprocAttr, hv_32]; exact Is.mk) (by simp only [go_sem, simprocAttr, hv_32]; exact Is.mk) (by simp only [go_sem, simprocAttr, hv_32]; exact Is.mk) (by simp only [go_sem, simprocAttr, hv_32]) (by simp only [go_sem, simprocAttr, hv_32]; exact Is.mk) ?cont27
    simp only [go_sem, simprocAttr, hv_32]
    try refine ⟨sd, ?_⟩
    refine Dr.callF (av := ?av28) (g := decide (r_11.2 = 0)) (o := ?o28) (fun hg => ok_R_SumOf r_29 _ (hr_30 hg)) (by simp only [go_sem, simprocAttr, hv_32]; exact Is.mk) (by simp only [go_sem, simprocAttr, hv_32]; exact Is.mk) (by simp only [go_sem, simprocAttr, hv_32]; exact Is.mk) (by simp only [go_sem, simprocAttr, hv_32]; exact Is.mk) (by simp only [go_sem, simprocAttr, hv_32]) (by simp only [go_sem, simprocAttr, hv_32]; exact Is.mk) ?cont28
    simp only [go_sem, simprocAttr, hv_32]
    try refine ⟨sd, ?_⟩
    refine Dr.of_br (Br.callR (av := ?av29) (g := (v_31 && (decide (r_13.2 = 0)))) (o := ?o29) [] (fun hg => ok_R_Boot r_10 _ (hr_33 hg)) (by simp only [go_sem, simprocAttr, hv_32]; exact Is.mk) (by simp only [go_sem, simprocAttr, hv_32]; exact Is.mk) (by simp only [go_sem, simprocAttr, hv_32]; exact Is.mk) (by simp only [go_sem, simprocAttr, hv_32]; exact Is.mk) (by simp only [go_sem, simprocAttr, hv_32]; exact Is.mk) (by simp only [go_sem, simprocAttr, hv_32]) (by simp only [go_sem, simprocAttr, hv_32]) (by simp only [go_sem, simprocAttr, hv_32]) (by simp only [go_sem, simprocAttr, hv_32]) ?cont29)
    simp only [go_sem, simprocAttr, hv_32]
    try refine ⟨sd, ?_⟩
    refine Dr.callF (av := ?av30) (g := (v_31 && (decide (r_13.2 = 0)))) (o := ?o30) (fun hg => ok_R_Same r_13.1 r_33 _ (hr_34 hg)) (by simp only [go_sem, simprocAttr, hv_32]; exact Is.mk) (by simp only [go_sem, simprocAttr, hv_32]; exact Is.mk) (by simp only [go_sem, simprocAttr, hv_32]; exact Is.mk) (by simp only [go_sem, simprocAttr, hv_32]; exact Is.mk) (by simp only [go_sem, simprocAttr, hv_32]) (by simp only [go_sem, simprocAttr, hv_32]; exact Is.mk) ?cont30
    simp only [go_sem, simprocAttr, hv_32]
    first | apply hK26 | refine ⟨sd, hK26 _ _ ?_⟩
    refine Wp.ret ?_
    refine retQ_ret ?_
    cases hm
    simp only [go_sem, simprocAttr, hv_32]
    try exact se2
   clear hK25 hk_23
   refine qS ?_
   refine Wp.block ?_
   obtain ⟨k_38, hk_38, hm⟩ := forL_cont hm
   refine Wp.fact 56 fun hl_41 => ?_
   replace hl_41 : r_10.Files.length ≤ 274877906944 := by
    simp only [go_sem, simprocAttr, List.length_map] at hl_41
    omega
   refine Wp.forL (fun i_40 s => [(4, .ptr 0 0), (7, .p (.s r_11.1)), (8, .p (.i .i64 r_11.2)), (9, .p (.i .i64 r_12.1)), (10, .p (.i .i64 r_12.2)), (11, .ptr 2 0), (12, .p (.i .i64 r_13.2)), (13, .p (.i .i64 s)), (56, .p (.l (List.map enc_api_File r_10.Files))), (57, .p (.i .i64 (r_10.Files.length : Int))), (58, .p (.i .i64 (i_40 : Int)))]) (fun i_40 s => [.cells 26 [.p (.l (List.map enc_api_Setting r_10.Facts)), .p (.l (List.map enc_api_File r_10.Files)), .p (.l (List.map enc_api_Setting r_10.Settings)), .p (.l (List.map enc_api_Service r_10.Services))], .cells 26 [.p (.l (List.map enc_api_Setting b_3.Facts)), .p (.l (List.map enc_api_File b_3.Files)), .p (.l (List.map enc_api_Setting b_3.Settings)), .p (.l (List.map enc_api_Service b_3.Services))], .cells 26 [.p (.l (List.map enc_api_Setting r_13.1.Facts)), .p (.l (List.map enc_api_File r_13.1.Files)), .p (.l (List.map enc_api_Setting r_13.1.Settings)), .p (.l (List.map enc_api_Service r_13.1.Services))]]) ?_ hm ?_
   ·
    exact fse2
   clear hm
   intro i_40 size_35 hii_40 hm
   try dsimp only at hm
   try dsimp only
   refine qS ?_
   refine Wp.seqW fun K33 hK33 hW33 => ?_
   refine Wp.cond rfl ⟨⟩ (fun hc33 => ?_) (fun hc33 => ?_)
   rotate_left
   ·refine Wp.exit ?_
    have hm := hk_38 _ (forL_end hm (ge_nat (by first | exact hc33 | simpa using hc33)))
    try dsimp only at hm
    refine hW25 _ _ _ _ ?_ (hcut25 size_35 hm)
    exact fse2
   have hlt33 := lt_nat (by first | exact hc33 | simpa using hc33)
   have hw33 := wrap_succ hlt33 hl_41
   obtain ⟨f_42, nx_39, hxf_42, hyf_42, hnx_39, hm⟩ := forL_step hm hlt33
   replace hxf_42 := hxf_42 enc_api_File
   refine Wp.skip ?_
   simp only [thenQ]
   refine hK33 _ _ ?_
   refine Wp.seqW fun K34 hK34 hW34 => ?_
   refine Wp.block ?_
   refine Wp.seqR fun K35 hK35 => ?_
   simp only [go_sem, simprocAttr, hw33, hxf_42]
   first | apply hK35 | refine ⟨sd, hK35 _ _ ?_⟩
   refine Wp.region fun K36 hK36 => ?_
   simp only [go_sem, simprocAttr, hw33, hxf_42]
   first | apply hK36 | refine ⟨sd, hK36 _ _ ?_⟩
   refine hK34 _ _ ?_
   refine Wp.region fun K37 hK37 => ?_
   simp only [go_sem, simprocAttr, hw33, hxf_42]
   first | apply hK37 | refine ⟨sd, hK37 _ _ ?_⟩
   simp only [thenQ, blockQ, ↓reduceIte]
   refine ⟨IntKind.i64.wrap (size_35 + (f_42.Data.length : Int)), hlt33, hnx_39 _ hm, ?_⟩
   simp only [go_sem, simprocAttr, hw33, hxf_42]
   try exact se2
end Go.Proofs.YtaabfmccihcnkaaGreatDoor
