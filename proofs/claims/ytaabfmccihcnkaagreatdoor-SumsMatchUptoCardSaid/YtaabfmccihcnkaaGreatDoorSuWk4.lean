/- That the code does what the models say (part 4). -/
import Derived.Test.YtaabfmccihcnkaaGreatDoorSuWk0
import Derived.Test.YtaabfmccihcnkaaGreatDoorSuWk2
import Derived.Test.YtaabfmccihcnkaaGreatDoorSuWk3
set_option linter.unusedSimpArgs false
set_option linter.unusedVariables false
open Go.Proofs Go.Shelf
namespace Go.Proofs.YtaabfmccihcnkaaGreatDoor
open Go.Vc Go.Md
set_option maxRecDepth 100000
set_option maxHeartbeats 4000000
theorem ok_R_isPart (s_1 : Str) (z : Bool) (hm : R_isPart s_1 = some z) : Does Tryz.prog 283 [.p (.s s_1)] [] (fun r X => r = .p (.b z) ∧ X = []) := by
 unfold R_isPart at hm
 refine Does.of_wp 0 63 [.tmp 2] Tryz.func283 rfl (by decide) rfl rfl (Nat.le_of_ble_eq_true rfl) fun B => ?_
 refine qS ?_
 refine Wp.seqW fun K2 hK2 hW2 => ?_
 obtain ⟨k_9, hk_9, hm⟩ := jp_elim hm
 have hcut2 : ∀ s, k_9 s = some z → K2 [(0, .p (.s s_1))] [] := by
  intro s hs
  have hm := hk_9 _ hs
  clear hs
  try dsimp only at hm
  try dsimp only
  refine hK2 _ _ ?_
  refine qS ?_
  refine Wp.ret ?_
  refine retQ_ret ?_
  cases hm
  exact fse2
 clear hK2 hk_9
 refine qS ?_
 refine Wp.block ?_
 obtain ⟨k_12, hk_12, hm⟩ := forL_cont hm
 refine Wp.fact 0 fun hl_15 => ?_
 replace hl_15 : s_1.length ≤ 274877906944 := by
  simp only [go_sem, simprocAttr, List.length_map] at hl_15
  omega
 refine Wp.forL (fun i_14 s => [(0, .p (.s s_1)), (6, .p (.i .i64 (s_1.length : Int))), (7, .p (.i .i64 (i_14 : Int)))]) (fun i_14 s => []) ?_ hm ?_
 ·
  exact fse2
 clear hm
 intro i_14 s hii_14 hm
 try dsimp only at hm
 try dsimp only
 refine qS ?_
 refine Wp.seqW fun K6 hK6 hW6 => ?_
 refine Wp.cond rfl ⟨⟩ (fun hc6 => ?_) (fun hc6 => ?_)
 rotate_left
 ·refine Wp.exit ?_
  have hm := hk_12 _ (forL_end hm (ge_nat (by first | exact hc6 | simpa using hc6)))
  try dsimp only at hm
  refine hW2 _ _ _ _ ?_ (hcut2 () hm)
  exact fse2
 have hlt6 := lt_nat (by first | exact hc6 | simpa using hc6)
 have hw6 := wrap_succ hlt6 hl_15
 obtain ⟨c_16, nx_13, hxc_16, hyc_16, hnx_13, hm⟩ := forL_step hm hlt6
 clear hxc_16
 refine Wp.skip ?_
 simp only [thenQ]
 refine hK6 _ _ ?_
 refine Wp.seqW fun K7 hK7 hW7 => ?_
 refine Wp.block ?_
 refine Wp.seqR fun K8 hK8 => ?_
 simp only [go_sem, simprocAttr, hw6, hyc_16]
 first | apply hK8 | refine ⟨sd, hK8 _ _ ?_⟩
 refine Wp.seqR fun K9 hK9 => ?_
 simp only [go_sem, simprocAttr, hw6, hyc_16]
 first | apply hK9 | refine ⟨sd, hK9 _ _ ?_⟩
 refine Wp.seqR fun K10 hK10 => ?_
 simp only [go_sem, simprocAttr, hw6, hyc_16]
 first | apply hK10 | refine ⟨sd, hK10 _ _ ?_⟩
 refine cM hm (fun hc11 hm => ?_) (fun hc11 hm => ?_)
 ·refine Wp.seqR fun K12 hK12 => ?_
  simp only [go_sem, simprocAttr, hw6, hyc_16]
  first | apply hK12 | refine ⟨sd, hK12 _ _ ?_⟩
  refine Wp.ret ?_
  refine retQ_ret ?_
  cases hm
  simp only [go_sem, simprocAttr, hw6, hyc_16]
  try exact se2
 ·refine Wp.skip ?_
  refine hK7 _ _ ?_
  refine Wp.region fun K13 hK13 => ?_
  simp only [go_sem, simprocAttr, hw6, hyc_16]
  first | apply hK13 | refine ⟨sd, hK13 _ _ ?_⟩
  simp only [thenQ, blockQ, ↓reduceIte]
  refine ⟨(), hlt6, hnx_13 _ hm, ?_⟩
  simp only [go_sem, simprocAttr, hw6, hyc_16]
  try exact se2
theorem ok_R_IsPath (s_1 : Str) (z : Bool) (hm : R_IsPath s_1 = some z) : Does Tryz.prog 198 [.p (.s s_1)] [] (fun r X => r = .p (.b z) ∧ X = []) := by
 unfold R_IsPath at hm
 refine Does.of_wp 0 19 [.tmp 2] Tryz.func198 rfl (by decide) rfl rfl (Nat.le_of_ble_eq_true rfl) fun B => ?_
 refine qS ?_
 refine Wp.seqW fun K2 hK2 hW2 => ?_
 obtain ⟨k_12, hk_12, hm⟩ := jp_elim hm
 have hcut2 : ∀ s, k_12 s = some z → K2 [(0, .p (.s s_1))] [] := by
  intro s hs
  have hm := hk_12 _ hs
  clear hs
  try dsimp only at hm
  try dsimp only
  refine hK2 _ _ ?_
  refine qS ?_
  refine Wp.ret ?_
  refine retQ_ret ?_
  cases hm
  exact fse2
 clear hK2 hk_12
 obtain ⟨r_13, hr_13, hm⟩ := call_elim hm
 refine Wp.seqR fun K4 hK4 => ?_
 simp only [go_sem, simprocAttr]
 try refine ⟨sd, ?_⟩
 refine Rg.callF (av := ?av5) (ok_strings_Split s_1 ([47] : Str) _ hr_13) si si sg ?cont5
 intro hv5
 simp only [go_sem, simprocAttr]
 first | apply hK4 | refine ⟨sd, hK4 _ _ ?_⟩
 refine Wp.block ?_
 obtain ⟨k_17, hk_17, hm⟩ := forL_cont hm
 refine Wp.fact 6 fun hl_20 => ?_
 replace hl_20 : r_13.length ≤ 274877906944 := by
  simp only [go_sem, simprocAttr, List.length_map] at hl_20
  omega
 refine Wp.forL (fun i_19 s => [(0, .p (.s s_1)), (6, .p (.l (List.map ecS r_13))), (7, .p (.i .i64 (r_13.length : Int))), (8, .p (.i .i64 (i_19 : Int)))]) (fun i_19 s => []) ?_ hm ?_
 ·
  exact fse2
 clear hm
 intro i_19 s hii_19 hm
 try dsimp only at hm
 try dsimp only
 refine qS ?_
 refine Wp.seqW fun K7 hK7 hW7 => ?_
 refine Wp.cond rfl ⟨⟩ (fun hc7 => ?_) (fun hc7 => ?_)
 rotate_left
 ·refine Wp.exit ?_
  have hm := hk_17 _ (forL_end hm (ge_nat (by first | exact hc7 | simpa using hc7)))
  try dsimp only at hm
  refine hW2 _ _ _ _ ?_ (hcut2 () hm)
  exact fse2
 have hlt7 := lt_nat (by first | exact hc7 | simpa using hc7)
 have hw7 := wrap_succ hlt7 hl_20
 obtain ⟨s_21, nx_18, hxs_21, hys_21, hnx_18, hm⟩ := forL_step hm hlt7
 replace hxs_21 := hxs_21 ecS
 refine Wp.skip ?_
 simp only [thenQ]
 refine hK7 _ _ ?_
 refine Wp.seqW fun K8 hK8 hW8 => ?_
 refine Wp.block ?_
 refine Wp.seqR fun K9 hK9 => ?_
 simp only [go_sem, simprocAttr, hw7, hxs_21]
 first | apply hK9 | refine ⟨sd, hK9 _ _ ?_⟩
 obtain ⟨r_22, hr_22, hm⟩ := call_elim hm
 refine Wp.seqR fun K10 hK10 => ?_
 simp only [go_sem, simprocAttr, hw7, hxs_21]
 try refine ⟨sd, ?_⟩
 refine Rg.callX (av := ?av11) (g := true) (fun hg => ok_R_isPart s_21 _ hr_22) (by simp only [go_sem, simprocAttr, hw7, hxs_21]; exact Is.mk) (by simp only [go_sem, simprocAttr, hw7, hxs_21]; exact Is.mk) (by simp only [go_sem, simprocAttr, hw7, hxs_21]; exact Is.mk) (by simp only [go_sem, simprocAttr, hw7, hxs_21]) (by simp only [go_sem, simprocAttr, hw7, hxs_21]; exact Is.mk) ?cont11
 intro hv11
 simp only [go_sem, simprocAttr, hw7, hxs_21]
 first | apply hK10 | refine ⟨sd, hK10 _ _ ?_⟩
 refine cM hm (fun hc12 hm => ?_) (fun hc12 hm => ?_)
 ·refine Wp.seqR fun K13 hK13 => ?_
  simp only [go_sem, simprocAttr, hw7, hxs_21]
  first | apply hK13 | refine ⟨sd, hK13 _ _ ?_⟩
  refine Wp.ret ?_
  refine retQ_ret ?_
  cases hm
  simp only [go_sem, simprocAttr, hw7, hxs_21]
  try exact se2
 ·refine Wp.skip ?_
  refine hK8 _ _ ?_
  refine Wp.region fun K14 hK14 => ?_
  simp only [go_sem, simprocAttr, hw7, hxs_21]
  first | apply hK14 | refine ⟨sd, hK14 _ _ ?_⟩
  simp only [thenQ, blockQ, ↓reduceIte]
  refine ⟨(), hlt7, hnx_18 _ hm, ?_⟩
  simp only [go_sem, simprocAttr, hw7, hxs_21]
  try exact se2
theorem ok_R_fileError (f_1 : api_File) (z : Int) (hm : R_fileError f_1 = some z) : Does Tryz.prog 90 [.agg [.p (.s f_1.Path), .p (.s f_1.Data), .p (.b f_1.Runs)]] [] (fun r X => r = .p (.i .i64 z) ∧ X = []) := by
 unfold R_fileError at hm
 refine Does.of_wp 0 15 [.tmp 2] Tryz.func90 rfl (by decide) rfl rfl (Nat.le_of_ble_eq_true rfl) fun B => ?_
 refine qS ?_
 obtain ⟨r_2, hr_2, hm⟩ := call_elim hm
 obtain ⟨r_3, hr_3, hm⟩ := call_elim hm
 obtain ⟨r_4, hr_4, hm⟩ := call_elim hm
 obtain ⟨r_5, hr_5, hm⟩ := call_elim hm
 refine Wp.seqD (plan := pl [(0, none), (1, none), (2, none), (3, none), (4, none), (5, none), (6, none), (7, none), (8, none), (9, none), (10, some []), (11, none), (12, none)]) (by kernel_rfl) rfl (by kernel_rfl) fun K2 hK2 => ?_
 simp only [go_sem, simprocAttr]
 try refine ⟨sd, ?_⟩
 refine Dr.callF (av := ?av3) (g := true) (o := ?o3) (fun hg => ok_R_IsPath f_1.Path _ hr_2) si si si si sg si ?cont3
 simp only [go_sem, simprocAttr]
 try refine ⟨sd, ?_⟩
 refine Dr.callF (av := ?av4) (g := true) (o := ?o4) (fun hg => ok_R_when (!r_2) 5 _ hr_3) si si si si sg si ?cont4
 simp only [go_sem, simprocAttr]
 try refine ⟨sd, ?_⟩
 refine Dr.callF (av := ?av5) (g := true) (o := ?o5) (fun hg => ok_R_when (decide (65536 < (f_1.Data.length : Int))) 4 _ hr_4) si si si si sg si ?cont5
 simp only [go_sem, simprocAttr]
 try refine ⟨sd, ?_⟩
 refine Dr.callF (av := ?av6) (g := true) (o := ?o6) (fun hg => ok_R_first [r_3, r_4] _ hr_5) si si si si sg si ?cont6
 simp only [go_sem, simprocAttr]
 first | apply hK2 | refine ⟨sd, hK2 _ _ ?_⟩
 refine Wp.ret ?_
 refine retQ_ret ?_
 cases hm
 exact fse2
theorem ok_R_settingError (s_1 : api_Setting) (z : Int) (hm : R_settingError s_1 = some z) : Does Tryz.prog 91 [.agg [.p (.s s_1.Key), .p (.s s_1.Value)]] [] (fun r X => r = .p (.i .i64 z) ∧ X = []) := by
 unfold R_settingError at hm
 refine Does.of_wp 0 15 [.tmp 2] Tryz.func91 rfl (by decide) rfl rfl (Nat.le_of_ble_eq_true rfl) fun B => ?_
 refine qS ?_
 obtain ⟨r_2, hr_2, hm⟩ := call_elim hm
 obtain ⟨r_3, hr_3, hm⟩ := call_elim hm
 obtain ⟨r_4, hr_4, hm⟩ := call_elim hm
 obtain ⟨r_5, hr_5, hm⟩ := call_elim hm
 obtain ⟨r_6, hr_6, hm⟩ := call_elim hm
 refine Wp.seqD (plan := pl [(0, none), (1, none), (2, none), (3, none), (4, none), (5, none), (6, none), (7, none), (8, none), (9, none), (10, some []), (11, none), (12, none)]) (by kernel_rfl) rfl (by kernel_rfl) fun K2 hK2 => ?_
 simp only [go_sem, simprocAttr]
 try refine ⟨sd, ?_⟩
 refine Dr.callF (av := ?av3) (g := true) (o := ?o3) (fun hg => ok_R_IsPath s_1.Key _ hr_2) si si si si sg si ?cont3
 simp only [go_sem, simprocAttr]
 try refine ⟨sd, ?_⟩
 refine Dr.callF (av := ?av4) (g := true) (o := ?o4) (fun hg => ok_R_when (!r_2) 5 _ hr_3) si si si si sg si ?cont4
 simp only [go_sem, simprocAttr]
 try refine ⟨sd, ?_⟩
 refine Dr.callF (av := ?av5) (g := true) (o := ?o5) (fun hg => ok_R_IsValue s_1.Value _ hr_4) si si si si sg si ?cont5
 simp only [go_sem, simprocAttr]
 try refine ⟨sd, ?_⟩
 refine Dr.callF (av := ?av6) (g := true) (o := ?o6) (fun hg => ok_R_when (!r_4) 2 _ hr_5) si si si si sg si ?cont6
 simp only [go_sem, simprocAttr]
 try refine ⟨sd, ?_⟩
 refine Dr.callF (av := ?av7) (g := true) (o := ?o7) (fun hg => ok_R_first [r_3, r_5] _ hr_6) si si si si sg si ?cont7
 simp only [go_sem, simprocAttr]
 first | apply hK2 | refine ⟨sd, hK2 _ _ ?_⟩
 refine Wp.ret ?_
 refine retQ_ret ?_
 cases hm
 exact fse2
theorem ok_R_serviceError (s_1 : api_Service) (z : Int) (hm : R_serviceError s_1 = some z) : Does Tryz.prog 92 [.agg [.p (.s s_1.Name), .p (.s s_1.Path), .p (.b s_1.Auto), .p (.b s_1.On)]] [] (fun r X => r = .p (.i .i64 z) ∧ X = []) := by
 unfold R_serviceError at hm
 refine Does.of_wp 0 14 [.tmp 2] Tryz.func92 rfl (by decide) rfl rfl (Nat.le_of_ble_eq_true rfl) fun B => ?_
 refine qS ?_
 obtain ⟨r_2, hr_2, hm⟩ := call_elim hm
 obtain ⟨r_3, hr_3, hm⟩ := callG_elim hm
 obtain ⟨r_4, hr_4, hm⟩ := call_elim hm
 refine Wp.seqR fun K2 hK2 => ?_
 simp only [go_sem, simprocAttr]
 try refine ⟨sd, ?_⟩
 refine Rg.callX (av := ?av3) (g := true) (fun hg => ok_R_IsName s_1.Name _ hr_2) si si si sg si ?cont3
 intro hv3
 simp only [go_sem, simprocAttr]
 try refine ⟨sd, ?_⟩
 refine Rg.callX (av := ?av4) (g := !(!r_2)) (fun hg => ok_R_IsPath s_1.Path _ (hr_3 hg)) si si si sg si ?cont4
 intro hv4
 simp only [go_sem, simprocAttr]
 try refine ⟨sd, ?_⟩
 refine Rg.callX (av := ?av5) (g := true) (fun hg => ok_R_when ((!r_2) || (!r_3)) 5 _ hr_4) si si si sg si ?cont5
 intro hv5
 simp only [go_sem, simprocAttr]
 first | apply hK2 | refine ⟨sd, hK2 _ _ ?_⟩
 refine Wp.ret ?_
 refine retQ_ret ?_
 cases hm
 exact fse2
theorem ok_R_Check (m_1 : api_Machine) (z : Int) (hm : R_Check m_1 = some z) : Does Tryz.prog 15 [.agg [.p (.l (List.map enc_api_Setting m_1.Facts)), .p (.l (List.map enc_api_File m_1.Files)), .p (.l (List.map enc_api_Setting m_1.Settings)), .p (.l (List.map enc_api_Service m_1.Services))]] [] (fun r X => r = .p (.i .i64 z) ∧ X = []) := by
 unfold R_Check at hm
 refine Does.of_wp 0 160 [.tmp 2] Tryz.func15 rfl (by decide) rfl rfl (Nat.le_of_ble_eq_true rfl) fun B => ?_
 refine qS ?_
 refine Wp.seqW fun K2 hK2 hW2 => ?_
 refine qS ?_
 refine cM hm (fun hc4 hm => ?_) (fun hc4 hm => ?_)
 ·refine qS ?_
  refine Wp.ret ?_
  refine retQ_ret ?_
  cases hm
  exact fse2
 ·refine Wp.skip ?_
  refine hK2 _ _ ?_
  refine qS ?_
  refine qS ?_
  refine Wp.seqW fun K8 hK8 hW8 => ?_
  obtain ⟨k_36, hk_36, hm⟩ := jp_elim hm
  have hcut8 : ∀ s, k_36 s = some z → K8 [(1, .ptr 0 0), (4, .fn 86 [.ptr 1 0])] [.cells 26 [.p (.l (List.map enc_api_Setting m_1.Facts)), .p (.l (List.map enc_api_File m_1.Files)), .p (.l (List.map enc_api_Setting m_1.Settings)), .p (.l (List.map enc_api_Service m_1.Services))], .cells 9 [.p (.s s)]] := by
   intro o1_0_35 hs
   have hm := hk_36 _ hs
   clear hs
   try dsimp only at hm
   try dsimp only
   refine hK8 _ _ ?_
   refine qS ?_
   refine Wp.seqW fun K10 hK10 hW10 => ?_
   obtain ⟨k_247, hk_247, hm⟩ := jp_elim hm
   have hcut10 : ∀ s, k_247 s = some z → K10 [(1, .ptr 0 0), (4, .fn 86 [.ptr 1 0])] [.cells 26 [.p (.l (List.map enc_api_Setting m_1.Facts)), .p (.l (List.map enc_api_File m_1.Files)), .p (.l (List.map enc_api_Setting m_1.Settings)), .p (.l (List.map enc_api_Service m_1.Services))], .cells 9 [.p (.s s)]] := by
    intro o1_0_246 hs
    have hm := hk_247 _ hs
    clear hs
    try dsimp only at hm
    try dsimp only
    refine hK10 _ _ ?_
    refine Wp.seqW fun K11 hK11 hW11 => ?_
    obtain ⟨k_270, hk_270, hm⟩ := jp_elim hm
    have hcut11 : ∀ s, k_270 s = some z → K11 [(1, .ptr 0 0), (4, .fn 86 [.ptr 1 0])] [.cells 26 [.p (.l (List.map enc_api_Setting m_1.Facts)), .p (.l (List.map enc_api_File m_1.Files)), .p (.l (List.map enc_api_Setting m_1.Settings)), .p (.l (List.map enc_api_Service m_1.Services))], .cells 9 [.p (.s s)]] := by
     intro o1_0_269 hs
     have hm := hk_270 _ hs
     clear hs
     try dsimp only at hm
     try dsimp only
     refine hK11 _ _ ?_
     refine Wp.seqW fun K12 hK12 hW12 => ?_
     obtain ⟨k_292, hk_292, hm⟩ := jp_elim hm
     have hcut12 : ∀ s, k_292 s = some z → K12 [] [] := by
      intro s hs
      have hm := hk_292 _ hs
      clear hs
      try dsimp only at hm
      try dsimp only
      refine hK12 _ _ ?_
      refine qS ?_
      refine Wp.ret ?_
      refine retQ_ret ?_
      cases hm
      exact fse2
     clear hK12 hk_292
     refine qS ?_
     refine Wp.block ?_
     obtain ⟨k_304, hk_304, hm⟩ := forL_cont hm
     refine Wp.fact 140 fun hl_307 => ?_
     replace hl_307 : m_1.Services.length ≤ 274877906944 := by
      simp only [go_sem, simprocAttr, List.length_map] at hl_307
      omega
     refine Wp.forL (fun i_306 s => [(4, .fn 86 [.ptr 1 0]), (140, .p (.l (List.map enc_api_Service m_1.Services))), (141, .p (.i .i64 (m_1.Services.length : Int))), (142, .p (.i .i64 (i_306 : Int)))]) (fun i_306 s => [.cells 26 [.p (.l (List.map enc_api_Setting m_1.Facts)), .p (.l (List.map enc_api_File m_1.Files)), .p (.l (List.map enc_api_Setting m_1.Settings)), .p (.l (List.map enc_api_Service m_1.Services))], .cells 9 [.p (.s s)]]) ?_ hm ?_
     ·
      exact fse2
     clear hm
     intro i_306 o1_0_299 hii_306 hm
     try dsimp only at hm
     try dsimp only
     refine qS ?_
     refine Wp.seqW fun K16 hK16 hW16 => ?_
     refine Wp.cond rfl ⟨⟩ (fun hc16 => ?_) (fun hc16 => ?_)
     rotate_left
     ·refine Wp.exit ?_
      have hm := hk_304 _ (forL_end hm (ge_nat (by first | exact hc16 | simpa using hc16)))
      try dsimp only at hm
      refine hW12 _ _ _ _ ?_ (hcut12 () hm)
      exact fse2
     have hlt16 := lt_nat (by first | exact hc16 | simpa using hc16)
     have hw16 := wrap_succ hlt16 hl_307
     obtain ⟨s_308, nx_305, hxs_308, hys_308, hnx_305, hm⟩ := forL_step hm hlt16
     replace hxs_308 := hxs_308 enc_api_Service
     refine Wp.skip ?_
     simp only [thenQ]
     refine hK16 _ _ ?_
     refine Wp.seqW fun K17 hK17 hW17 => ?_
     refine Wp.block ?_
     refine Wp.seqR fun K18 hK18 => ?_
     simp only [go_sem, simprocAttr, hw16, hxs_308]
     first | apply hK18 | refine ⟨sd, hK18 _ _ ?_⟩
     obtain ⟨r_309, hr_309, hm⟩ := call_elim hm
     obtain ⟨r_310, hr_310, hm⟩ := call_elim hm
     obtain ⟨r_311, hr_311, hm⟩ := call_elim hm
     refine Wp.seqD (plan := pl [(0, none), (1, none), (2, none), (3, none), (4, none), (5, none), (6, some []), (7, some []), (8, none), (9, none)]) (by kernel_rfl) rfl (by kernel_rfl) fun K19 hK19 => ?_
     simp only [go_sem, simprocAttr, hw16, hxs_308]
     try refine ⟨sd, ?_⟩
     refine Dr.callF (av := ?av20) (g := true) (o := ?o20) (fun hg => ok_R_serviceError s_308 _ hr_309) (by simp only [go_sem, simprocAttr, hw16, hxs_308]; exact Is.mk) (by simp only [go_sem, simprocAttr, hw16, hxs_308]; exact Is.mk) (by simp only [go_sem, simprocAttr, hw16, hxs_308]; exact Is.mk) (by simp only [go_sem, simprocAttr, hw16, hxs_308]; exact Is.mk) (by simp only [go_sem, simprocAttr, hw16, hxs_308]) (by simp only [go_sem, simprocAttr, hw16, hxs_308]; exact Is.mk) ?cont20
     simp only [go_sem, simprocAttr, hw16, hxs_308]
     try refine ⟨sd, ?_⟩
     refine Dr.of_br (Br.callE (av := ?av21) (o := ?o21) [1] (ok_R_Check_1_i1 (i_306 : Int) s_308.Name o1_0_299 _ hr_310) (by simp only [go_sem, simprocAttr, hw16, hxs_308]; exact Is.mk) (by simp only [go_sem, simprocAttr, hw16, hxs_308]; exact Is.mk) (by simp only [go_sem, simprocAttr, hw16, hxs_308]; exact Is.mk) (by simp only [go_sem, simprocAttr, hw16, hxs_308]; exact Is.mk) (by simp only [go_sem, simprocAttr, hw16, hxs_308]; exact Is.mk) (by simp only [go_sem, simprocAttr, hw16, hxs_308]) (by simp only [go_sem, simprocAttr, hw16, hxs_308]) (by simp only [go_sem, simprocAttr, hw16, hxs_308]) (by simp only [go_sem, simprocAttr, hw16, hxs_308]) ?cont21)
     simp only [go_sem, simprocAttr, hw16, hxs_308]
     try refine ⟨sd, ?_⟩
     refine Dr.callF (av := ?av22) (g := true) (o := ?o22) (fun hg => ok_R_first [r_309, r_310.1] _ hr_311) (by simp only [go_sem, simprocAttr, hw16, hxs_308]; exact Is.mk) (by simp only [go_sem, simprocAttr, hw16, hxs_308]; exact Is.mk) (by simp only [go_sem, simprocAttr, hw16, hxs_308]; exact Is.mk) (by simp only [go_sem, simprocAttr, hw16, hxs_308]; exact Is.mk) (by simp only [go_sem, simprocAttr, hw16, hxs_308]) (by simp only [go_sem, simprocAttr, hw16, hxs_308]; exact Is.mk) ?cont22
     simp only [go_sem, simprocAttr, hw16, hxs_308]
     first | apply hK19 | refine ⟨sd, hK19 _ _ ?_⟩
     refine Wp.seqR fun K23 hK23 => ?_
     simp only [go_sem, simprocAttr, hw16, hxs_308]
     first | apply hK23 | refine ⟨sd, hK23 _ _ ?_⟩
     refine cM hm (fun hc24 hm => ?_) (fun hc24 hm => ?_)
     ·refine Wp.seqR fun K25 hK25 => ?_
      simp only [go_sem, simprocAttr, hw16, hxs_308]
      first | apply hK25 | refine ⟨sd, hK25 _ _ ?_⟩
      refine Wp.ret ?_
      refine retQ_ret ?_
      cases hm
      simp only [go_sem, simprocAttr, hw16, hxs_308]
      try exact se2
     ·refine Wp.skip ?_
      refine hK17 _ _ ?_
      refine Wp.region fun K26 hK26 => ?_
      simp only [go_sem, simprocAttr, hw16, hxs_308]
      first | apply hK26 | refine ⟨sd, hK26 _ _ ?_⟩
      simp only [thenQ, blockQ, ↓reduceIte]
      refine ⟨r_310.2, hlt16, hnx_305 _ hm, ?_⟩
      simp only [go_sem, simprocAttr, hw16, hxs_308]
      try exact se2
    clear hK11 hk_270
    refine qS ?_
    refine Wp.block ?_
    obtain ⟨k_323, hk_323, hm⟩ := forL_cont hm
    refine Wp.fact 119 fun hl_326 => ?_
    replace hl_326 : m_1.Settings.length ≤ 274877906944 := by
     simp only [go_sem, simprocAttr, List.length_map] at hl_326
     omega
    refine Wp.forL (fun i_325 s => [(1, .ptr 0 0), (4, .fn 86 [.ptr 1 0]), (119, .p (.l (List.map enc_api_Setting m_1.Settings))), (120, .p (.i .i64 (m_1.Settings.length : Int))), (121, .p (.i .i64 (i_325 : Int)))]) (fun i_325 s => [.cells 26 [.p (.l (List.map enc_api_Setting m_1.Facts)), .p (.l (List.map enc_api_File m_1.Files)), .p (.l (List.map enc_api_Setting m_1.Settings)), .p (.l (List.map enc_api_Service m_1.Services))], .cells 9 [.p (.s s)]]) ?_ hm ?_
    ·
     exact fse2
    clear hm
    intro i_325 o1_0_318 hii_325 hm
    try dsimp only at hm
    try dsimp only
    refine qS ?_
    refine Wp.seqW fun K29 hK29 hW29 => ?_
    refine Wp.cond rfl ⟨⟩ (fun hc29 => ?_) (fun hc29 => ?_)
    rotate_left
    ·refine Wp.exit ?_
     have hm := hk_323 _ (forL_end hm (ge_nat (by first | exact hc29 | simpa using hc29)))
     try dsimp only at hm
     refine hW11 _ _ _ _ ?_ (hcut11 o1_0_318 hm)
     exact fse2
    have hlt29 := lt_nat (by first | exact hc29 | simpa using hc29)
    have hw29 := wrap_succ hlt29 hl_326
    obtain ⟨s_327, nx_324, hxs_327, hys_327, hnx_324, hm⟩ := forL_step hm hlt29
    replace hxs_327 := hxs_327 enc_api_Setting
    refine Wp.skip ?_
    simp only [thenQ]
    refine hK29 _ _ ?_
    refine Wp.seqW fun K30 hK30 hW30 => ?_
    refine Wp.block ?_
    refine Wp.seqR fun K31 hK31 => ?_
    simp only [go_sem, simprocAttr, hw29, hxs_327]
    first | apply hK31 | refine ⟨sd, hK31 _ _ ?_⟩
    obtain ⟨r_328, hr_328, hm⟩ := call_elim hm
    obtain ⟨r_329, hr_329, hm⟩ := call_elim hm
    obtain ⟨r_330, hr_330, hm⟩ := call_elim hm
    refine Wp.seqD (plan := pl [(0, none), (1, none), (2, none), (3, none), (4, none), (5, none), (6, some []), (7, some []), (8, none), (9, none)]) (by kernel_rfl) rfl (by kernel_rfl) fun K32 hK32 => ?_
    simp only [go_sem, simprocAttr, hw29, hxs_327]
    try refine ⟨sd, ?_⟩
    refine Dr.callF (av := ?av33) (g := true) (o := ?o33) (fun hg => ok_R_settingError s_327 _ hr_328) (by simp only [go_sem, simprocAttr, hw29, hxs_327]; exact Is.mk) (by simp only [go_sem, simprocAttr, hw29, hxs_327]; exact Is.mk) (by simp only [go_sem, simprocAttr, hw29, hxs_327]; exact Is.mk) (by simp only [go_sem, simprocAttr, hw29, hxs_327]; exact Is.mk) (by simp only [go_sem, simprocAttr, hw29, hxs_327]) (by simp only [go_sem, simprocAttr, hw29, hxs_327]; exact Is.mk) ?cont33
    simp only [go_sem, simprocAttr, hw29, hxs_327]
    try refine ⟨sd, ?_⟩
    refine Dr.of_br (Br.callE (av := ?av34) (o := ?o34) [1] (ok_R_Check_1_i1 (i_325 : Int) s_327.Key o1_0_318 _ hr_329) (by simp only [go_sem, simprocAttr, hw29, hxs_327]; exact Is.mk) (by simp only [go_sem, simprocAttr, hw29, hxs_327]; exact Is.mk) (by simp only [go_sem, simprocAttr, hw29, hxs_327]; exact Is.mk) (by simp only [go_sem, simprocAttr, hw29, hxs_327]; exact Is.mk) (by simp only [go_sem, simprocAttr, hw29, hxs_327]; exact Is.mk) (by simp only [go_sem, simprocAttr, hw29, hxs_327]) (by simp only [go_sem, simprocAttr, hw29, hxs_327]) (by simp only [go_sem, simprocAttr, hw29, hxs_327]) (by simp only [go_sem, simprocAttr, hw29, hxs_327]) ?cont34)
    simp only [go_sem, simprocAttr, hw29, hxs_327]
    try refine ⟨sd, ?_⟩
    refine Dr.callF (av := ?av35) (g := true) (o := ?o35) (fun hg => ok_R_first [r_328, r_329.1] _ hr_330) (by simp only [go_sem, simprocAttr, hw29, hxs_327]; exact Is.mk) (by simp only [go_sem, simprocAttr, hw29, hxs_327]; exact Is.mk) (by simp only [go_sem, simprocAttr, hw29, hxs_327]; exact Is.mk) (by simp only [go_sem, simprocAttr, hw29, hxs_327]; exact Is.mk) (by simp only [go_sem, simprocAttr, hw29, hxs_327]) (by simp only [go_sem, simprocAttr, hw29, hxs_327]; exact Is.mk) ?cont35
    simp only [go_sem, simprocAttr, hw29, hxs_327]
    first | apply hK32 | refine ⟨sd, hK32 _ _ ?_⟩
    refine Wp.seqR fun K36 hK36 => ?_
    simp only [go_sem, simprocAttr, hw29, hxs_327]
    first | apply hK36 | refine ⟨sd, hK36 _ _ ?_⟩
    refine cM hm (fun hc37 hm => ?_) (fun hc37 hm => ?_)
    ·refine Wp.seqR fun K38 hK38 => ?_
     simp only [go_sem, simprocAttr, hw29, hxs_327]
     first | apply hK38 | refine ⟨sd, hK38 _ _ ?_⟩
     refine Wp.ret ?_
     refine retQ_ret ?_
     cases hm
     simp only [go_sem, simprocAttr, hw29, hxs_327]
     try exact se2
    ·refine Wp.skip ?_
     refine hK30 _ _ ?_
     refine Wp.region fun K39 hK39 => ?_
     simp only [go_sem, simprocAttr, hw29, hxs_327]
     first | apply hK39 | refine ⟨sd, hK39 _ _ ?_⟩
     simp only [thenQ, blockQ, ↓reduceIte]
     refine ⟨r_329.2, hlt29, hnx_324 _ hm, ?_⟩
     simp only [go_sem, simprocAttr, hw29, hxs_327]
     try exact se2
   clear hK10 hk_247
   refine qS ?_
   refine Wp.block ?_
   obtain ⟨k_469, hk_469, hm⟩ := forL_cont hm
   refine Wp.fact 73 fun hl_472 => ?_
   replace hl_472 : m_1.Files.length ≤ 274877906944 := by
    simp only [go_sem, simprocAttr, List.length_map] at hl_472
    omega
   refine Wp.forL (fun i_471 s => [(1, .ptr 0 0), (4, .fn 86 [.ptr 1 0]), (8, .mp 2), (73, .p (.l (List.map enc_api_File m_1.Files))), (74, .p (.i .i64 (m_1.Files.length : Int))), (75, .p (.i .i64 (i_471 : Int)))]) (fun i_471 s => [.cells 26 [.p (.l (List.map enc_api_Setting m_1.Facts)), .p (.l (List.map enc_api_File m_1.Files)), .p (.l (List.map enc_api_Setting m_1.Settings)), .p (.l (List.map enc_api_Service m_1.Services))], .cells 9 [.p (.s s.1)], .mp false (encM Dt.s ecB s.2)]) ?_ hm ?_
   ·
    exact fse2
   clear hm
   intro i_471 s hii_471 hm
   obtain ⟨o1_0_400, m2_401⟩ := s
   try dsimp only at hm
   try dsimp only
   refine qS ?_
   refine Wp.seqW fun K42 hK42 hW42 => ?_
   refine Wp.cond rfl ⟨⟩ (fun hc42 => ?_) (fun hc42 => ?_)
   rotate_left
   ·refine Wp.exit ?_
    have hm := hk_469 _ (forL_end hm (ge_nat (by first | exact hc42 | simpa using hc42)))
    try dsimp only at hm
    refine hW10 _ _ _ _ ?_ (hcut10 o1_0_400 hm)
    exact fse2
   have hlt42 := lt_nat (by first | exact hc42 | simpa using hc42)
   have hw42 := wrap_succ hlt42 hl_472
   obtain ⟨f_473, nx_470, hxf_473, hyf_473, hnx_470, hm⟩ := forL_step hm hlt42
   replace hxf_473 := hxf_473 enc_api_File
   refine Wp.skip ?_
   simp only [thenQ]
   refine hK42 _ _ ?_
   refine Wp.seqW fun K43 hK43 hW43 => ?_
   obtain ⟨k_506, hk_506, hm⟩ := jp_elim hm
   have hcut43 : ∀ s, k_506 s = some z → K43 [(1, .ptr 0 0), (4, .fn 86 [.ptr 1 0]), (8, .mp 2), (73, .p (.l (List.map enc_api_File m_1.Files))), (74, .p (.i .i64 (m_1.Files.length : Int))), (75, .p (.i .i64 (i_471 : Int)))] [.cells 26 [.p (.l (List.map enc_api_Setting m_1.Facts)), .p (.l (List.map enc_api_File m_1.Files)), .p (.l (List.map enc_api_Setting m_1.Settings)), .p (.l (List.map enc_api_Service m_1.Services))], .cells 9 [.p (.s s)], .mp false (encM Dt.s ecB (aset m2_401 f_473.Path true))] := by
    intro o1_0_505 hs
    have hm := hk_506 _ hs
    clear hs
    try dsimp only at hm
    try dsimp only
    refine hK43 _ _ ?_
    refine Wp.region fun K44 hK44 => ?_
    simp only [go_sem, simprocAttr, hw42, hxf_473]
    first | apply hK44 | refine ⟨sd, hK44 _ _ ?_⟩
    simp only [thenQ, blockQ, ↓reduceIte]
    refine ⟨(o1_0_505, aset m2_401 f_473.Path true), hlt42, hnx_470 _ hm, ?_⟩
    simp only [go_sem, simprocAttr, hw42, hxf_473]
    try exact se2
   clear hK43 hk_506
   refine Wp.block ?_
   refine Wp.seqR fun K45 hK45 => ?_
   simp only [go_sem, simprocAttr, hw42, hxf_473]
   first | apply hK45 | refine ⟨sd, hK45 _ _ ?_⟩
   obtain ⟨r_507, hr_507, hm⟩ := call_elim hm
   obtain ⟨r_508, hr_508, hm⟩ := call_elim hm
   obtain ⟨r_509, hr_509, hm⟩ := call_elim hm
   refine Wp.seqD (plan := pl [(0, none), (1, none), (2, none), (3, none), (4, none), (5, none), (6, some []), (7, some []), (8, none), (9, none)]) (by kernel_rfl) rfl (by kernel_rfl) fun K46 hK46 => ?_
   simp only [go_sem, simprocAttr, hw42, hxf_473]
   try refine ⟨sd, ?_⟩
   refine Dr.callF (av := ?av47) (g := true) (o := ?o47) (fun hg => ok_R_fileError f_473 _ hr_507) (by simp only [go_sem, simprocAttr, hw42, hxf_473]; exact Is.mk) (by simp only [go_sem, simprocAttr, hw42, hxf_473]; exact Is.mk) (by simp only [go_sem, simprocAttr, hw42, hxf_473]; exact Is.mk) (by simp only [go_sem, simprocAttr, hw42, hxf_473]; exact Is.mk) (by simp only [go_sem, simprocAttr, hw42, hxf_473]) (by simp only [go_sem, simprocAttr, hw42, hxf_473]; exact Is.mk) ?cont47
   simp only [go_sem, simprocAttr, hw42, hxf_473]
   try refine ⟨sd, ?_⟩
   refine Dr.of_br (Br.callE (av := ?av48) (o := ?o48) [1] (ok_R_Check_1_i1 (i_471 : Int) f_473.Path o1_0_400 _ hr_508) (by simp only [go_sem, simprocAttr, hw42, hxf_473]; exact Is.mk) (by simp only [go_sem, simprocAttr, hw42, hxf_473]; exact Is.mk) (by simp only [go_sem, simprocAttr, hw42, hxf_473]; exact Is.mk) (by simp only [go_sem, simprocAttr, hw42, hxf_473]; exact Is.mk) (by simp only [go_sem, simprocAttr, hw42, hxf_473]; exact Is.mk) (by simp only [go_sem, simprocAttr, hw42, hxf_473]) (by simp only [go_sem, simprocAttr, hw42, hxf_473]) (by simp only [go_sem, simprocAttr, hw42, hxf_473]) (by simp only [go_sem, simprocAttr, hw42, hxf_473]) ?cont48)
   simp only [go_sem, simprocAttr, hw42, hxf_473]
   try refine ⟨sd, ?_⟩
   refine Dr.callF (av := ?av49) (g := true) (o := ?o49) (fun hg => ok_R_first [r_507, r_508.1] _ hr_509) (by simp only [go_sem, simprocAttr, hw42, hxf_473]; exact Is.mk) (by simp only [go_sem, simprocAttr, hw42, hxf_473]; exact Is.mk) (by simp only [go_sem, simprocAttr, hw42, hxf_473]; exact Is.mk) (by simp only [go_sem, simprocAttr, hw42, hxf_473]; exact Is.mk) (by simp only [go_sem, simprocAttr, hw42, hxf_473]) (by simp only [go_sem, simprocAttr, hw42, hxf_473]; exact Is.mk) ?cont49
   simp only [go_sem, simprocAttr, hw42, hxf_473]
   first | apply hK46 | refine ⟨sd, hK46 _ _ ?_⟩
   refine Wp.seqW fun K50 hK50 hW50 => ?_
   obtain ⟨k_523, hk_523, hm⟩ := jp_elim hm
   have hcut50 : ∀ s, k_523 s = some z → K50 [(1, .ptr 0 0), (4, .fn 86 [.ptr 1 0]), (8, .mp 2), (10, .ptr 3 0), (11, .p (.i .i64 s)), (73, .p (.l (List.map enc_api_File m_1.Files))), (74, .p (.i .i64 (m_1.Files.length : Int))), (75, .p (.i .i64 (i_471 : Int)))] [.cells 26 [.p (.l (List.map enc_api_Setting m_1.Facts)), .p (.l (List.map enc_api_File m_1.Files)), .p (.l (List.map enc_api_Setting m_1.Settings)), .p (.l (List.map enc_api_Service m_1.Services))], .cells 9 [.p (.s r_508.2)], .mp false (encM Dt.s ecB m2_401), .cells 38 [.p (.s f_473.Path), .p (.s f_473.Data), .p (.b f_473.Runs)]] := by
    intro e_522 hs
    have hm := hk_523 _ hs
    clear hs
    try dsimp only at hm
    try dsimp only
    refine hK50 _ _ ?_
    refine Wp.seqW fun K51 hK51 hW51 => ?_
    refine Wp.seqR fun K52 hK52 => ?_
    simp only [go_sem, simprocAttr, hw42, hxf_473]
    first | apply hK52 | refine ⟨sd, hK52 _ _ ?_⟩
    refine cM hm (fun hc53 hm => ?_) (fun hc53 hm => ?_)
    ·refine Wp.seqR fun K54 hK54 => ?_
     simp only [go_sem, simprocAttr, hw42, hxf_473]
     first | apply hK54 | refine ⟨sd, hK54 _ _ ?_⟩
     refine Wp.ret ?_
     refine retQ_ret ?_
     cases hm
     simp only [go_sem, simprocAttr, hw42, hxf_473]
     try exact se2
    ·refine Wp.skip ?_
     refine hK51 _ _ ?_
     obtain ⟨c_525, hm⟩ := chk_elim hm
     have hp_524 := mset_enc (e := ecB) keq_s m2_401 f_473.Path true
     simp only [ecB] at hp_524
     refine Wp.region fun K55 hK55 => ?_
     simp only [go_sem, simprocAttr, hw42, hxf_473, hp_524]
     first | apply hK55 | refine ⟨by first | exact sd | ((repeat' apply And.intro) <;> first | assumption | omega | (simp only [List.length_append, List.length_map, List.length_cons, List.length_nil, List.length_set, List.length_replicate] at c_525 ⊢; omega)), hK55 _ _ ?_⟩
     refine hW43 _ _ _ _ ?_ (hcut43 r_508.2 hm)
     simp only [go_sem, simprocAttr, hw42, hxf_473]
     try exact se2
   clear hK50 hk_523
   refine Wp.seqR fun K56 hK56 => ?_
   simp only [go_sem, simprocAttr, hw42, hxf_473]
   first | apply hK56 | refine ⟨sd, hK56 _ _ ?_⟩
   refine cM hm (fun hc57 hm => ?_) (fun hc57 hm => ?_)
   ·refine Wp.seqR fun K58 hK58 => ?_
    simp only [go_sem, simprocAttr, hw42, hxf_473]
    first | apply hK58 | refine ⟨sd, hK58 _ _ ?_⟩
    refine Wp.block ?_
    obtain ⟨k_532, hk_532, hm⟩ := loopN_cont hm
    refine Wp.loopN (fun s => [(1, .ptr 0 0), (4, .fn 86 [.ptr 1 0]), (8, .mp 2), (10, .ptr 3 0), (11, .p (.i .i64 s.1)), (73, .p (.l (List.map enc_api_File m_1.Files))), (74, .p (.i .i64 (m_1.Files.length : Int))), (75, .p (.i .i64 (i_471 : Int))), (93, .p (.i .i64 (f_473.Path.length : Int))), (94, .p (.i .i64 s.2))]) (fun s => [.cells 26 [.p (.l (List.map enc_api_Setting m_1.Facts)), .p (.l (List.map enc_api_File m_1.Files)), .p (.l (List.map enc_api_Setting m_1.Settings)), .p (.l (List.map enc_api_Service m_1.Services))], .cells 9 [.p (.s r_508.2)], .mp false (encM Dt.s ecB m2_401), .cells 38 [.p (.s f_473.Path), .p (.s f_473.Data), .p (.b f_473.Runs)]]) ?_ hm ?_
    ·
     simp only [go_sem, simprocAttr, hw42, hxf_473]
     try exact se2
    clear hm
    intro s nx_533 hm
    obtain ⟨e_526, t94_527⟩ := s
    try dsimp only at hm
    try dsimp only
    refine Wp.seqR fun K59 hK59 => ?_
    simp only [go_sem, simprocAttr, hw42, hxf_473]
    first | apply hK59 | refine ⟨sd, hK59 _ _ ?_⟩
    refine Wp.seqW fun K60 hK60 hW60 => ?_
    refine cM hm (fun hc61 hm => ?_) (fun hc61 hm => ?_)
    ·refine Wp.skip ?_
     refine hK60 _ _ ?_
     refine Wp.seqW fun K62 hK62 hW62 => ?_
     refine Wp.block ?_
     refine Wp.seqR fun K63 hK63 => ?_
     simp only [go_sem, simprocAttr, hw42, hxf_473]
     first | apply hK63 | refine ⟨sd, hK63 _ _ ?_⟩
     obtain ⟨c_534, hbc_534, hxc_534, hm⟩ := idxS_elim hm
     replace hxc_534 : ((f_473.Path.getD t94_527.toNat 0).toNat : Int) = c_534 := hxc_534
     obtain ⟨c_535, hm⟩ := chk_elim hm
     obtain ⟨q_536, hq_537, hm⟩ := letv_elim hm
     have hq_537d := mlookD_enc (e := ecB) keq_s m2_401 (List.take t94_527.toNat f_473.Path) false
     have hq_537s := mlook_some (e := ecB) keq_s m2_401 (List.take t94_527.toNat f_473.Path)
     simp only [hq_537, ecB, List.map_nil] at hq_537d hq_537s
     refine Wp.seqR fun K64 hK64 => ?_
     simp only [go_sem, simprocAttr, hw42, hxf_473, hxc_534, hq_537d, hq_537s]
     first | apply hK64 | refine ⟨by first | exact sd | ((repeat' apply And.intro) <;> first | assumption | omega | (simp only [List.length_append, List.length_map, List.length_cons, List.length_nil, List.length_set, List.length_replicate] at c_535 ⊢; omega)), hK64 _ _ ?_⟩
     refine cM hm (fun hc65 hm => ?_) (fun hc65 hm => ?_)
     ·refine Wp.region fun K66 hK66 => ?_
      simp only [go_sem, simprocAttr, hw42, hxf_473, hxc_534]
      first | apply hK66 | refine ⟨sd, hK66 _ _ ?_⟩
      refine hK62 _ _ ?_
      refine Wp.region fun K67 hK67 => ?_
      simp only [go_sem, simprocAttr, hw42, hxf_473, hxc_534]
      first | apply hK67 | refine ⟨sd, hK67 _ _ ?_⟩
      simp only [thenQ, blockQ, ↓reduceIte]
      refine ⟨(11, IntKind.i64.wrap (t94_527 + 1)), hm, ?_⟩
      simp only [go_sem, simprocAttr, hw42, hxf_473, hxc_534]
      try exact se2
     ·refine Wp.skip ?_
      refine hK62 _ _ ?_
      refine Wp.region fun K68 hK68 => ?_
      simp only [go_sem, simprocAttr, hw42, hxf_473, hxc_534]
      first | apply hK68 | refine ⟨sd, hK68 _ _ ?_⟩
      simp only [thenQ, blockQ, ↓reduceIte]
      refine ⟨(e_526, IntKind.i64.wrap (t94_527 + 1)), hm, ?_⟩
      simp only [go_sem, simprocAttr, hw42, hxf_473, hxc_534]
      try exact se2
    ·refine Wp.exit ?_
     simp only [thenQ, blockQ, ↓reduceIte]
     have hm := hk_532 _ hm
     try dsimp only at hm
     refine hW50 _ _ _ _ ?_ (hcut50 e_526 hm)
     simp only [go_sem, simprocAttr, hw42, hxf_473]
     try exact se2
   ·refine Wp.skip ?_
    refine hW50 _ _ _ _ ?_ (hcut50 r_509 hm)
    simp only [go_sem, simprocAttr, hw42, hxf_473]
    try exact se2
  clear hK8 hk_36
  refine qS ?_
  refine Wp.block ?_
  obtain ⟨k_555, hk_555, hm⟩ := forL_cont hm
  refine Wp.fact 43 fun hl_558 => ?_
  replace hl_558 : m_1.Facts.length ≤ 274877906944 := by
   simp only [go_sem, simprocAttr, List.length_map] at hl_558
   omega
  refine Wp.forL (fun i_557 s => [(1, .ptr 0 0), (4, .fn 86 [.ptr 1 0]), (43, .p (.l (List.map enc_api_Setting m_1.Facts))), (44, .p (.i .i64 (m_1.Facts.length : Int))), (45, .p (.i .i64 (i_557 : Int)))]) (fun i_557 s => [.cells 26 [.p (.l (List.map enc_api_Setting m_1.Facts)), .p (.l (List.map enc_api_File m_1.Files)), .p (.l (List.map enc_api_Setting m_1.Settings)), .p (.l (List.map enc_api_Service m_1.Services))], .cells 9 [.p (.s s)]]) ?_ hm ?_
  ·
   exact fse2
  clear hm
  intro i_557 o1_0_547 hii_557 hm
  try dsimp only at hm
  try dsimp only
  refine qS ?_
  refine Wp.seqW fun K71 hK71 hW71 => ?_
  refine Wp.cond rfl ⟨⟩ (fun hc71 => ?_) (fun hc71 => ?_)
  rotate_left
  ·refine Wp.exit ?_
   have hm := hk_555 _ (forL_end hm (ge_nat (by first | exact hc71 | simpa using hc71)))
   try dsimp only at hm
   refine hW8 _ _ _ _ ?_ (hcut8 o1_0_547 hm)
   exact fse2
  have hlt71 := lt_nat (by first | exact hc71 | simpa using hc71)
  have hw71 := wrap_succ hlt71 hl_558
  obtain ⟨s_559, nx_556, hxs_559, hys_559, hnx_556, hm⟩ := forL_step hm hlt71
  replace hxs_559 := hxs_559 enc_api_Setting
  refine Wp.skip ?_
  simp only [thenQ]
  refine hK71 _ _ ?_
  refine Wp.seqW fun K72 hK72 hW72 => ?_
  refine Wp.block ?_
  refine Wp.seqR fun K73 hK73 => ?_
  simp only [go_sem, simprocAttr, hw71, hxs_559]
  first | apply hK73 | refine ⟨sd, hK73 _ _ ?_⟩
  obtain ⟨r_560, hr_560, hm⟩ := call_elim hm
  obtain ⟨r_561, hr_561, hm⟩ := call_elim hm
  obtain ⟨r_562, hr_562, hm⟩ := call_elim hm
  obtain ⟨r_563, hr_563, hm⟩ := call_elim hm
  obtain ⟨r_564, hr_564, hm⟩ := call_elim hm
  obtain ⟨r_565, hr_565, hm⟩ := call_elim hm
  refine Wp.seqD (plan := pl [(0, none), (1, none), (2, none), (3, none), (4, none), (5, none), (6, none), (7, none), (8, none), (9, none), (10, none), (11, none), (12, none), (13, none), (14, some []), (15, some []), (16, none), (17, none)]) (by kernel_rfl) rfl (by kernel_rfl) fun K74 hK74 => ?_
  simp only [go_sem, simprocAttr, hw71, hxs_559]
  try refine ⟨sd, ?_⟩
  refine Dr.callF (av := ?av75) (g := true) (o := ?o75) (fun hg => ok_R_IsName s_559.Key _ hr_560) (by simp only [go_sem, simprocAttr, hw71, hxs_559]; exact Is.mk) (by simp only [go_sem, simprocAttr, hw71, hxs_559]; exact Is.mk) (by simp only [go_sem, simprocAttr, hw71, hxs_559]; exact Is.mk) (by simp only [go_sem, simprocAttr, hw71, hxs_559]; exact Is.mk) (by simp only [go_sem, simprocAttr, hw71, hxs_559]) (by simp only [go_sem, simprocAttr, hw71, hxs_559]; exact Is.mk) ?cont75
  simp only [go_sem, simprocAttr, hw71, hxs_559]
  try refine ⟨sd, ?_⟩
  refine Dr.callF (av := ?av76) (g := true) (o := ?o76) (fun hg => ok_R_when (!r_560) 5 _ hr_561) (by simp only [go_sem, simprocAttr, hw71, hxs_559]; exact Is.mk) (by simp only [go_sem, simprocAttr, hw71, hxs_559]; exact Is.mk) (by simp only [go_sem, simprocAttr, hw71, hxs_559]; exact Is.mk) (by simp only [go_sem, simprocAttr, hw71, hxs_559]; exact Is.mk) (by simp only [go_sem, simprocAttr, hw71, hxs_559]) (by simp only [go_sem, simprocAttr, hw71, hxs_559]; exact Is.mk) ?cont76
  simp only [go_sem, simprocAttr, hw71, hxs_559]
  try refine ⟨sd, ?_⟩
  refine Dr.callF (av := ?av77) (g := true) (o := ?o77) (fun hg => ok_R_IsValue s_559.Value _ hr_562) (by simp only [go_sem, simprocAttr, hw71, hxs_559]; exact Is.mk) (by simp only [go_sem, simprocAttr, hw71, hxs_559]; exact Is.mk) (by simp only [go_sem, simprocAttr, hw71, hxs_559]; exact Is.mk) (by simp only [go_sem, simprocAttr, hw71, hxs_559]; exact Is.mk) (by simp only [go_sem, simprocAttr, hw71, hxs_559]) (by simp only [go_sem, simprocAttr, hw71, hxs_559]; exact Is.mk) ?cont77
  simp only [go_sem, simprocAttr, hw71, hxs_559]
  try refine ⟨sd, ?_⟩
  refine Dr.callF (av := ?av78) (g := true) (o := ?o78) (fun hg => ok_R_when (!r_562) 2 _ hr_563) (by simp only [go_sem, simprocAttr, hw71, hxs_559]; exact Is.mk) (by simp only [go_sem, simprocAttr, hw71, hxs_559]; exact Is.mk) (by simp only [go_sem, simprocAttr, hw71, hxs_559]; exact Is.mk) (by simp only [go_sem, simprocAttr, hw71, hxs_559]; exact Is.mk) (by simp only [go_sem, simprocAttr, hw71, hxs_559]) (by simp only [go_sem, simprocAttr, hw71, hxs_559]; exact Is.mk) ?cont78
  simp only [go_sem, simprocAttr, hw71, hxs_559]
  try refine ⟨sd, ?_⟩
  refine Dr.of_br (Br.callE (av := ?av79) (o := ?o79) [1] (ok_R_Check_1_i1 (i_557 : Int) s_559.Key o1_0_547 _ hr_564) (by simp only [go_sem, simprocAttr, hw71, hxs_559]; exact Is.mk) (by simp only [go_sem, simprocAttr, hw71, hxs_559]; exact Is.mk) (by simp only [go_sem, simprocAttr, hw71, hxs_559]; exact Is.mk) (by simp only [go_sem, simprocAttr, hw71, hxs_559]; exact Is.mk) (by simp only [go_sem, simprocAttr, hw71, hxs_559]; exact Is.mk) (by simp only [go_sem, simprocAttr, hw71, hxs_559]) (by simp only [go_sem, simprocAttr, hw71, hxs_559]) (by simp only [go_sem, simprocAttr, hw71, hxs_559]) (by simp only [go_sem, simprocAttr, hw71, hxs_559]) ?cont79)
  simp only [go_sem, simprocAttr, hw71, hxs_559]
  try refine ⟨sd, ?_⟩
  refine Dr.callF (av := ?av80) (g := true) (o := ?o80) (fun hg => ok_R_first [r_561, r_563, r_564.1] _ hr_565) (by simp only [go_sem, simprocAttr, hw71, hxs_559]; exact Is.mk) (by simp only [go_sem, simprocAttr, hw71, hxs_559]; exact Is.mk) (by simp only [go_sem, simprocAttr, hw71, hxs_559]; exact Is.mk) (by simp only [go_sem, simprocAttr, hw71, hxs_559]; exact Is.mk) (by simp only [go_sem, simprocAttr, hw71, hxs_559]) (by simp only [go_sem, simprocAttr, hw71, hxs_559]; exact Is.mk) ?cont80
  simp only [go_sem, simprocAttr, hw71, hxs_559]
  first | apply hK74 | refine ⟨sd, hK74 _ _ ?_⟩
  refine Wp.seqR fun K81 hK81 => ?_
  simp only [go_sem, simprocAttr, hw71, hxs_559]
  first | apply hK81 | refine ⟨sd, hK81 _ _ ?_⟩
  refine cM hm (fun hc82 hm => ?_) (fun hc82 hm => ?_)
  ·refine Wp.seqR fun K83 hK83 => ?_
   simp only [go_sem, simprocAttr, hw71, hxs_559]
   first | apply hK83 | refine ⟨sd, hK83 _ _ ?_⟩
   refine Wp.ret ?_
   refine retQ_ret ?_
   cases hm
   simp only [go_sem, simprocAttr, hw71, hxs_559]
   try exact se2
  ·refine Wp.skip ?_
   refine hK72 _ _ ?_
   refine Wp.region fun K84 hK84 => ?_
   simp only [go_sem, simprocAttr, hw71, hxs_559]
   first | apply hK84 | refine ⟨sd, hK84 _ _ ?_⟩
   simp only [thenQ, blockQ, ↓reduceIte]
   refine ⟨r_564.2, hlt71, hnx_556 _ hm, ?_⟩
   simp only [go_sem, simprocAttr, hw71, hxs_559]
   try exact se2
theorem ok_R_worldOf (m_1 : api_Machine) (z : (List (Str × api_File)) × (List (Str × Str)) × (List (Str × api_Service)) × List api_Setting) (hm : R_worldOf m_1 = some z) : Does Tryz.prog 102 [.agg [.p (.l (List.map enc_api_Setting m_1.Facts)), .p (.l (List.map enc_api_File m_1.Files)), .p (.l (List.map enc_api_Setting m_1.Settings)), .p (.l (List.map enc_api_Service m_1.Services))]] [] (fun r X => r = .ptr 4 0 ∧ X = [.cells 26 [.top, .top, .top, .top], .mp true (encM Dt.s enc_api_File z.1), .mp false (encM Dt.s ecS z.2.1), .mp true (encM Dt.s enc_api_Service z.2.2.1), .cells 161 [.p (.l (List.map enc_api_Setting z.2.2.2)), .mp 1, .mp 2, .mp 3]]) := by
 unfold R_worldOf at hm
 refine Does.of_wp 5 64 [.tmp 2] Tryz.func102 rfl (by decide) rfl rfl (Nat.le_of_ble_eq_true rfl) fun B => ?_
 refine qS ?_
 refine qS ?_
 refine Wp.seqW fun K3 hK3 hW3 => ?_
 obtain ⟨k_121, hk_121, hm⟩ := jp_elim hm
 have hcut3 : ∀ s, k_121 s = some z → K3 [(1, .ptr 0 0), (3, .ptr 4 0)] [.cells 26 [.p (.l (List.map enc_api_Setting m_1.Facts)), .p (.l (List.map enc_api_File m_1.Files)), .p (.l (List.map enc_api_Setting m_1.Settings)), .p (.l (List.map enc_api_Service m_1.Services))], .mp true (encM Dt.s enc_api_File s), .mp false (encM Dt.s ecS []), .mp true (encM Dt.s enc_api_Service []), .cells 161 [.p (.l (List.map enc_api_Setting m_1.Facts)), .mp 1, .mp 2, .mp 3]] := by
  intro m1_120 hs
  have hm := hk_121 _ hs
  clear hs
  try dsimp only at hm
  try dsimp only
  refine hK3 _ _ ?_
  refine Wp.seqW fun K4 hK4 hW4 => ?_
  obtain ⟨k_139, hk_139, hm⟩ := jp_elim hm
  have hcut4 : ∀ s, k_139 s = some z → K4 [(1, .ptr 0 0), (3, .ptr 4 0)] [.cells 26 [.p (.l (List.map enc_api_Setting m_1.Facts)), .p (.l (List.map enc_api_File m_1.Files)), .p (.l (List.map enc_api_Setting m_1.Settings)), .p (.l (List.map enc_api_Service m_1.Services))], .mp true (encM Dt.s enc_api_File m1_120), .mp false (encM Dt.s ecS s), .mp true (encM Dt.s enc_api_Service []), .cells 161 [.p (.l (List.map enc_api_Setting m_1.Facts)), .mp 1, .mp 2, .mp 3]] := by
   intro m2_138 hs
   have hm := hk_139 _ hs
   clear hs
   try dsimp only at hm
   try dsimp only
   refine hK4 _ _ ?_
   refine Wp.seqW fun K5 hK5 hW5 => ?_
   obtain ⟨k_157, hk_157, hm⟩ := jp_elim hm
   have hcut5 : ∀ s, k_157 s = some z → K5 [(3, .ptr 4 0)] [.cells 26 [.top, .top, .top, .top], .mp true (encM Dt.s enc_api_File m1_120), .mp false (encM Dt.s ecS m2_138), .mp true (encM Dt.s enc_api_Service s), .cells 161 [.p (.l (List.map enc_api_Setting m_1.Facts)), .mp 1, .mp 2, .mp 3]] := by
    intro m3_156 hs
    have hm := hk_157 _ hs
    clear hs
    try dsimp only at hm
    try dsimp only
    refine hK5 _ _ ?_
    refine qS ?_
    refine Wp.ret ?_
    refine retQ_ret ?_
    cases hm
    exact fse2
   clear hK5 hk_157
   refine qS ?_
   refine Wp.block ?_
   obtain ⟨k_167, hk_167, hm⟩ := forL_cont hm
   refine Wp.fact 49 fun hl_170 => ?_
   replace hl_170 : m_1.Services.length ≤ 274877906944 := by
    simp only [go_sem, simprocAttr, List.length_map] at hl_170
    omega
   refine Wp.forL (fun i_169 s => [(3, .ptr 4 0), (49, .p (.l (List.map enc_api_Service m_1.Services))), (50, .p (.i .i64 (m_1.Services.length : Int))), (51, .p (.i .i64 (i_169 : Int)))]) (fun i_169 s => [.cells 26 [.p (.l (List.map enc_api_Setting m_1.Facts)), .p (.l (List.map enc_api_File m_1.Files)), .p (.l (List.map enc_api_Setting m_1.Settings)), .p (.l (List.map enc_api_Service m_1.Services))], .mp true (encM Dt.s enc_api_File m1_120), .mp false (encM Dt.s ecS m2_138), .mp true (encM Dt.s enc_api_Service s), .cells 161 [.p (.l (List.map enc_api_Setting m_1.Facts)), .mp 1, .mp 2, .mp 3]]) ?_ hm ?_
   ·
    exact fse2
   clear hm
   intro i_169 m3_163 hii_169 hm
   try dsimp only at hm
   try dsimp only
   refine qS ?_
   refine Wp.seqW fun K9 hK9 hW9 => ?_
   refine Wp.cond rfl ⟨⟩ (fun hc9 => ?_) (fun hc9 => ?_)
   rotate_left
   ·refine Wp.exit ?_
    have hm := hk_167 _ (forL_end hm (ge_nat (by first | exact hc9 | simpa using hc9)))
    try dsimp only at hm
    refine hW5 _ _ _ _ ?_ (hcut5 m3_163 hm)
    exact fse2
   have hlt9 := lt_nat (by first | exact hc9 | simpa using hc9)
   have hw9 := wrap_succ hlt9 hl_170
   obtain ⟨s_171, nx_168, hxs_171, hys_171, hnx_168, hm⟩ := forL_step hm hlt9
   replace hxs_171 := hxs_171 enc_api_Service
   refine Wp.skip ?_
   simp only [thenQ]
   refine hK9 _ _ ?_
   refine Wp.seqW fun K10 hK10 hW10 => ?_
   refine Wp.block ?_
   refine Wp.seqR fun K11 hK11 => ?_
   simp only [go_sem, simprocAttr, hw9, hxs_171]
   first | apply hK11 | refine ⟨sd, hK11 _ _ ?_⟩
   obtain ⟨c_173, hm⟩ := chk_elim hm
   have hp_172 := mset_enc (e := enc_api_Service) keq_s m3_163 s_171.Name s_171
   simp only [enc_api_Service] at hp_172
   refine Wp.regD (plan := pl [(0, none), (1, none), (2, none), (3, none), (4, none), (5, none), (6, none), (7, some [])]) (by kernel_rfl) rfl (by kernel_rfl) fun K12 hK12 => ?_
   simp only [go_sem, simprocAttr, hw9, hxs_171, hp_172]
   first | apply hK12 | refine ⟨by first | exact sd | ((repeat' apply And.intro) <;> first | assumption | omega | (simp only [List.length_append, List.length_map, List.length_cons, List.length_nil, List.length_set, List.length_replicate] at c_173 ⊢; omega)), hK12 _ _ ?_⟩
   refine hK10 _ _ ?_
   refine Wp.region fun K13 hK13 => ?_
   simp only [go_sem, simprocAttr, hw9, hxs_171]
   first | apply hK13 | refine ⟨sd, hK13 _ _ ?_⟩
   simp only [thenQ, blockQ, ↓reduceIte]
   refine ⟨aset m3_163 s_171.Name s_171, hlt9, hnx_168 _ hm, ?_⟩
   simp only [go_sem, simprocAttr, hw9, hxs_171]
   try exact se2
  clear hK4 hk_139
  refine qS ?_
  refine Wp.block ?_
  obtain ⟨k_183, hk_183, hm⟩ := forL_cont hm
  refine Wp.fact 33 fun hl_186 => ?_
  replace hl_186 : m_1.Settings.length ≤ 274877906944 := by
   simp only [go_sem, simprocAttr, List.length_map] at hl_186
   omega
  refine Wp.forL (fun i_185 s => [(1, .ptr 0 0), (3, .ptr 4 0), (33, .p (.l (List.map enc_api_Setting m_1.Settings))), (34, .p (.i .i64 (m_1.Settings.length : Int))), (35, .p (.i .i64 (i_185 : Int)))]) (fun i_185 s => [.cells 26 [.p (.l (List.map enc_api_Setting m_1.Facts)), .p (.l (List.map enc_api_File m_1.Files)), .p (.l (List.map enc_api_Setting m_1.Settings)), .p (.l (List.map enc_api_Service m_1.Services))], .mp true (encM Dt.s enc_api_File m1_120), .mp false (encM Dt.s ecS s), .mp true (encM Dt.s enc_api_Service []), .cells 161 [.p (.l (List.map enc_api_Setting m_1.Facts)), .mp 1, .mp 2, .mp 3]]) ?_ hm ?_
  ·
   exact fse2
  clear hm
  intro i_185 m2_179 hii_185 hm
  try dsimp only at hm
  try dsimp only
  refine qS ?_
  refine Wp.seqW fun K16 hK16 hW16 => ?_
  refine Wp.cond rfl ⟨⟩ (fun hc16 => ?_) (fun hc16 => ?_)
  rotate_left
  ·refine Wp.exit ?_
   have hm := hk_183 _ (forL_end hm (ge_nat (by first | exact hc16 | simpa using hc16)))
   try dsimp only at hm
   refine hW4 _ _ _ _ ?_ (hcut4 m2_179 hm)
   exact fse2
  have hlt16 := lt_nat (by first | exact hc16 | simpa using hc16)
  have hw16 := wrap_succ hlt16 hl_186
  obtain ⟨s_187, nx_184, hxs_187, hys_187, hnx_184, hm⟩ := forL_step hm hlt16
  replace hxs_187 := hxs_187 enc_api_Setting
  refine Wp.skip ?_
  simp only [thenQ]
  refine hK16 _ _ ?_
  refine Wp.seqW fun K17 hK17 hW17 => ?_
  refine Wp.block ?_
  refine Wp.seqR fun K18 hK18 => ?_
  simp only [go_sem, simprocAttr, hw16, hxs_187]
  first | apply hK18 | refine ⟨sd, hK18 _ _ ?_⟩
  obtain ⟨c_189, hm⟩ := chk_elim hm
  have hp_188 := mset_enc (e := ecS) keq_s m2_179 s_187.Key s_187.Value
  simp only [ecS] at hp_188
  refine Wp.regD (plan := pl [(0, none), (1, none), (2, none), (3, none), (4, none), (5, none), (6, none), (7, none), (8, some [])]) (by kernel_rfl) rfl (by kernel_rfl) fun K19 hK19 => ?_
  simp only [go_sem, simprocAttr, hw16, hxs_187, hp_188]
  first | apply hK19 | refine ⟨by first | exact sd | ((repeat' apply And.intro) <;> first | assumption | omega | (simp only [List.length_append, List.length_map, List.length_cons, List.length_nil, List.length_set, List.length_replicate] at c_189 ⊢; omega)), hK19 _ _ ?_⟩
  refine hK17 _ _ ?_
  refine Wp.region fun K20 hK20 => ?_
  simp only [go_sem, simprocAttr, hw16, hxs_187]
  first | apply hK20 | refine ⟨sd, hK20 _ _ ?_⟩
  simp only [thenQ, blockQ, ↓reduceIte]
  refine ⟨aset m2_179 s_187.Key s_187.Value, hlt16, hnx_184 _ hm, ?_⟩
  simp only [go_sem, simprocAttr, hw16, hxs_187]
  try exact se2
 clear hK3 hk_121
 refine qS ?_
 refine Wp.block ?_
 obtain ⟨k_199, hk_199, hm⟩ := forL_cont hm
 refine Wp.fact 18 fun hl_202 => ?_
 replace hl_202 : m_1.Files.length ≤ 274877906944 := by
  simp only [go_sem, simprocAttr, List.length_map] at hl_202
  omega
 refine Wp.forL (fun i_201 s => [(1, .ptr 0 0), (3, .ptr 4 0), (18, .p (.l (List.map enc_api_File m_1.Files))), (19, .p (.i .i64 (m_1.Files.length : Int))), (20, .p (.i .i64 (i_201 : Int)))]) (fun i_201 s => [.cells 26 [.p (.l (List.map enc_api_Setting m_1.Facts)), .p (.l (List.map enc_api_File m_1.Files)), .p (.l (List.map enc_api_Setting m_1.Settings)), .p (.l (List.map enc_api_Service m_1.Services))], .mp true (encM Dt.s enc_api_File s), .mp false (encM Dt.s ecS []), .mp true (encM Dt.s enc_api_Service []), .cells 161 [.p (.l (List.map enc_api_Setting m_1.Facts)), .mp 1, .mp 2, .mp 3]]) ?_ hm ?_
 ·
  exact fse2
 clear hm
 intro i_201 m1_195 hii_201 hm
 try dsimp only at hm
 try dsimp only
 refine qS ?_
 refine Wp.seqW fun K23 hK23 hW23 => ?_
 refine Wp.cond rfl ⟨⟩ (fun hc23 => ?_) (fun hc23 => ?_)
 rotate_left
 ·refine Wp.exit ?_
  have hm := hk_199 _ (forL_end hm (ge_nat (by first | exact hc23 | simpa using hc23)))
  try dsimp only at hm
  refine hW3 _ _ _ _ ?_ (hcut3 m1_195 hm)
  exact fse2
 have hlt23 := lt_nat (by first | exact hc23 | simpa using hc23)
 have hw23 := wrap_succ hlt23 hl_202
 obtain ⟨f_203, nx_200, hxf_203, hyf_203, hnx_200, hm⟩ := forL_step hm hlt23
 replace hxf_203 := hxf_203 enc_api_File
 refine Wp.skip ?_
 simp only [thenQ]
 refine hK23 _ _ ?_
 refine Wp.seqW fun K24 hK24 hW24 => ?_
 refine Wp.block ?_
 refine Wp.seqR fun K25 hK25 => ?_
 simp only [go_sem, simprocAttr, hw23, hxf_203]
 first | apply hK25 | refine ⟨sd, hK25 _ _ ?_⟩
 obtain ⟨c_205, hm⟩ := chk_elim hm
 have hp_204 := mset_enc (e := enc_api_File) keq_s m1_195 f_203.Path f_203
 simp only [enc_api_File] at hp_204
 refine Wp.regD (plan := pl [(0, none), (1, none), (2, none), (3, none), (4, none), (5, none), (6, none), (7, some [])]) (by kernel_rfl) rfl (by kernel_rfl) fun K26 hK26 => ?_
 simp only [go_sem, simprocAttr, hw23, hxf_203, hp_204]
 first | apply hK26 | refine ⟨by first | exact sd | ((repeat' apply And.intro) <;> first | assumption | omega | (simp only [List.length_append, List.length_map, List.length_cons, List.length_nil, List.length_set, List.length_replicate] at c_205 ⊢; omega)), hK26 _ _ ?_⟩
 refine hK24 _ _ ?_
 refine Wp.region fun K27 hK27 => ?_
 simp only [go_sem, simprocAttr, hw23, hxf_203]
 first | apply hK27 | refine ⟨sd, hK27 _ _ ?_⟩
 simp only [thenQ, blockQ, ↓reduceIte]
 refine ⟨aset m1_195 f_203.Path f_203, hlt23, hnx_200 _ hm, ?_⟩
 simp only [go_sem, simprocAttr, hw23, hxf_203]
 try exact se2
end Go.Proofs.YtaabfmccihcnkaaGreatDoor
