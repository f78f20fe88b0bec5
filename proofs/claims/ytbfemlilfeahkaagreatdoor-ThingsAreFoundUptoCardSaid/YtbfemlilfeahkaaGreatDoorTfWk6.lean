/- That the code does what the models say (part 6). -/
import Derived.Test.YtbfemlilfeahkaaGreatDoorTfWk0
import Derived.Test.YtbfemlilfeahkaaGreatDoorTfWk1
import Derived.Test.YtbfemlilfeahkaaGreatDoorTfWk2
set_option linter.unusedSimpArgs false
set_option linter.unusedVariables false
open Go.Proofs Go.Shelf
namespace Go.Proofs.YtbfemlilfeahkaaGreatDoor
open Go.Vc Go.Md
set_option maxRecDepth 100000
set_option maxHeartbeats 4000000
theorem ok_Law_ThingsAreFound_2_i1 (x_1 : api_Setting) (o0_0_2 : Str) (z : Bool) (hm : Law_ThingsAreFound_2_i1 x_1 o0_0_2 = some z) : Does Tryz.prog 13 [.agg [.p (.s x_1.Key), .p (.s x_1.Value)], .ptr 0 0] [.cells 9 [.p (.s o0_0_2)]] (fun r X => r = .p (.b z) ∧ X = [.cells 9 [.p (.s o0_0_2)]]) := by
  unfold Law_ThingsAreFound_2_i1 at hm
  refine Does.of_wp 1 8 [.tmp 3] Tryz.func13 rfl (by decide) rfl rfl (Nat.le_of_ble_eq_true rfl) fun B => ?_
  refine Wp.seqR fun K1 hK1 => ?_
  simp only [go_sem, simprocAttr]
  first | refine hK1 _ _ ?_ | refine ⟨sd, hK1 _ _ ?_⟩
  refine Wp.seqR fun K2 hK2 => ?_
  simp only [go_sem, simprocAttr]
  first | refine hK2 _ _ ?_ | refine ⟨sd, hK2 _ _ ?_⟩
  refine Wp.ret ?_
  refine retQ_ret ?_
  cases hm
  simp only [go_sem, simprocAttr]
  try exact se2
theorem ok_slices_IndexFunc_api_Setting_api_Setting_i1 (s_1 : List api_Setting) (o0_0_2 : Str) (z : Int) (hm : slices_IndexFunc_api_Setting_api_Setting_i1 s_1 o0_0_2 = some z) : Does Tryz.prog 12 [.p (.l (List.map enc_api_Setting s_1)), .fn 13 [.ptr 0 0]] [.cells 9 [.p (.s o0_0_2)]] (fun r X => r = .p (.i .i64 z) ∧ X = [.cells 9 [.p (.s o0_0_2)]]) := by
  unfold slices_IndexFunc_api_Setting_api_Setting_i1 at hm
  refine Does.of_wp 1 19 [.tmp 4] Tryz.func12 rfl (by decide) rfl rfl (Nat.le_of_ble_eq_true rfl) fun B => ?_
  refine Wp.seqR fun K1 hK1 => ?_
  simp only [go_sem, simprocAttr]
  first | refine hK1 _ _ ?_ | refine ⟨sd, hK1 _ _ ?_⟩
  refine Wp.seqW fun K2 hK2 hW2 => ?_
  obtain ⟨k_31, hk_31, hm⟩ := jp_elim hm
  have hcut2 : ∀ s, k_31 s = some z → K2 [] [.cells 9 [.p (.s o0_0_2)]] := by
    intro s hs
    have hm := hk_31 _ hs
    clear hs
    try dsimp only at hm
    try dsimp only
    refine hK2 _ _ ?_
    refine Wp.seqR fun K3 hK3 => ?_
    simp only [go_sem, simprocAttr]
    first | refine hK3 _ _ ?_ | refine ⟨sd, hK3 _ _ ?_⟩
    refine Wp.ret ?_
    refine retQ_ret ?_
    cases hm
    simp only [go_sem, simprocAttr]
    try exact se2
  clear hK2 hk_31
  refine Wp.seqR fun K4 hK4 => ?_
  simp only [go_sem, simprocAttr]
  first | refine hK4 _ _ ?_ | refine ⟨sd, hK4 _ _ ?_⟩
  refine Wp.block ?_
  obtain ⟨k_35, hk_35, hm⟩ := forL_cont hm
  refine Wp.fact 0 fun hl_38 => ?_
  replace hl_38 : s_1.length ≤ 274877906944 := by
    simp only [go_sem, simprocAttr, List.length_map] at hl_38
    omega
  refine Wp.forL (fun i_37 s => [(0, .p (.l (List.map enc_api_Setting s_1))), (1, .fn 13 [.ptr 0 0]), (7, .p (.i .i64 (s_1.length : Int))), (8, .p (.i .i64 (i_37 : Int)))]) (fun i_37 s => [.cells 9 [.p (.s o0_0_2)]]) ?_ hm ?_
  ·
    simp only [go_sem, simprocAttr]
    try exact se2
  clear hm
  intro i_37 s hii_37 hm
  try dsimp only at hm
  try dsimp only
  refine Wp.seqR fun K5 hK5 => ?_
  simp only [go_sem, simprocAttr]
  first | refine hK5 _ _ ?_ | refine ⟨sd, hK5 _ _ ?_⟩
  refine Wp.seqW fun K6 hK6 hW6 => ?_
  refine Wp.cond rfl ⟨⟩ (fun hc6 => ?_) (fun hc6 => ?_)
  rotate_left
  · refine Wp.exit ?_
    have hm := hk_35 _ (forL_end hm (ge_nat (by first | exact hc6 | simpa using hc6)))
    try dsimp only at hm
    simp only [thenQ, blockQ, ↓reduceIte]
    refine hW2 _ _ _ _ ?_ (hcut2 () hm)
    simp only [go_sem, simprocAttr]
    try exact se2
  have hlt6 := lt_nat (by first | exact hc6 | simpa using hc6)
  have hw6 := wrap_succ hlt6 hl_38
  obtain ⟨s_39, nx_36, hxs_39, hys_39, hnx_36, hm⟩ := forL_step hm hlt6
  replace hxs_39 := hxs_39 enc_api_Setting
  refine Wp.skip ?_
  simp only [thenQ]
  refine hK6 _ _ ?_
  refine Wp.seqW fun K7 hK7 hW7 => ?_
  refine Wp.block ?_
  refine Wp.seqR fun K8 hK8 => ?_
  simp only [go_sem, simprocAttr, hw6, hxs_39]
  first | refine hK8 _ _ ?_ | refine ⟨sd, hK8 _ _ ?_⟩
  obtain ⟨r_40, hr_40, hm⟩ := call_elim hm
  refine Wp.seqR fun K9 hK9 => ?_
  simp only [go_sem, simprocAttr, hw6, hxs_39]
  try refine ⟨sd, ?_⟩
  refine Rg.callR (av := ?av10) (g := true) [0] (fun hg => ok_Law_ThingsAreFound_2_i1 s_39 o0_0_2 _ hr_40) (by simp only [go_sem, simprocAttr, hw6, hxs_39]; exact Is.mk) (by simp only [go_sem, simprocAttr, hw6, hxs_39]; exact Is.mk) (by simp only [go_sem, simprocAttr, hw6, hxs_39]; exact Is.mk) (by simp only [go_sem, simprocAttr, hw6, hxs_39]; exact Is.mk) (by simp only [go_sem, simprocAttr, hw6, hxs_39]) (by simp only [go_sem, simprocAttr, hw6, hxs_39]) (by simp only [go_sem, simprocAttr, hw6, hxs_39]) ?cont10
  simp only [go_sem, simprocAttr, hw6, hxs_39]
  first | refine hK9 _ _ ?_ | refine ⟨sd, hK9 _ _ ?_⟩
  refine Wp.cond rfl ⟨⟩ (fun hc11 => ?_) (fun hc11 => ?_)
  · have hm := brT hm (sb hc11)
    refine Wp.seqR fun K12 hK12 => ?_
    simp only [go_sem, simprocAttr, hw6, hxs_39]
    first | refine hK12 _ _ ?_ | refine ⟨sd, hK12 _ _ ?_⟩
    refine Wp.ret ?_
    simp only [thenQ, blockQ]
    refine retQ_ret ?_
    cases hm
    simp only [go_sem, simprocAttr, hw6, hxs_39]
    try exact se2
  · have hm := brF hm (sb hc11)
    refine Wp.skip ?_
    simp only [thenQ, blockQ, ↓reduceIte]
    refine hK7 _ _ ?_
    refine Wp.region fun K13 hK13 => ?_
    simp only [go_sem, simprocAttr, hw6, hxs_39]
    first | refine hK13 _ _ ?_ | refine ⟨sd, hK13 _ _ ?_⟩
    simp only [thenQ, blockQ, ↓reduceIte]
    refine ⟨(), hlt6, hnx_36 _ hm, ?_⟩
    simp only [go_sem, simprocAttr, hw6, hxs_39]
    try exact se2
theorem ok_Law_ThingsAreFound_3_i1 (x_1 : api_File) (o0_0_2 : Str) (z : Bool) (hm : Law_ThingsAreFound_3_i1 x_1 o0_0_2 = some z) : Does Tryz.prog 15 [.agg [.p (.s x_1.Path), .p (.s x_1.Data), .p (.b x_1.Runs)], .ptr 0 0] [.cells 9 [.p (.s o0_0_2)]] (fun r X => r = .p (.b z) ∧ X = [.cells 9 [.p (.s o0_0_2)]]) := by
  unfold Law_ThingsAreFound_3_i1 at hm
  refine Does.of_wp 1 8 [.tmp 3] Tryz.func15 rfl (by decide) rfl rfl (Nat.le_of_ble_eq_true rfl) fun B => ?_
  refine Wp.seqR fun K1 hK1 => ?_
  simp only [go_sem, simprocAttr]
  first | refine hK1 _ _ ?_ | refine ⟨sd, hK1 _ _ ?_⟩
  refine Wp.seqR fun K2 hK2 => ?_
  simp only [go_sem, simprocAttr]
  first | refine hK2 _ _ ?_ | refine ⟨sd, hK2 _ _ ?_⟩
  refine Wp.ret ?_
  refine retQ_ret ?_
  cases hm
  simp only [go_sem, simprocAttr]
  try exact se2
theorem ok_slices_IndexFunc_api_File_api_File_i1 (s_1 : List api_File) (o0_0_2 : Str) (z : Int) (hm : slices_IndexFunc_api_File_api_File_i1 s_1 o0_0_2 = some z) : Does Tryz.prog 14 [.p (.l (List.map enc_api_File s_1)), .fn 15 [.ptr 0 0]] [.cells 9 [.p (.s o0_0_2)]] (fun r X => r = .p (.i .i64 z) ∧ X = [.cells 9 [.p (.s o0_0_2)]]) := by
  unfold slices_IndexFunc_api_File_api_File_i1 at hm
  refine Does.of_wp 1 19 [.tmp 4] Tryz.func14 rfl (by decide) rfl rfl (Nat.le_of_ble_eq_true rfl) fun B => ?_
  refine Wp.seqR fun K1 hK1 => ?_
  simp only [go_sem, simprocAttr]
  first | refine hK1 _ _ ?_ | refine ⟨sd, hK1 _ _ ?_⟩
  refine Wp.seqW fun K2 hK2 hW2 => ?_
  obtain ⟨k_31, hk_31, hm⟩ := jp_elim hm
  have hcut2 : ∀ s, k_31 s = some z → K2 [] [.cells 9 [.p (.s o0_0_2)]] := by
    intro s hs
    have hm := hk_31 _ hs
    clear hs
    try dsimp only at hm
    try dsimp only
    refine hK2 _ _ ?_
    refine Wp.seqR fun K3 hK3 => ?_
    simp only [go_sem, simprocAttr]
    first | refine hK3 _ _ ?_ | refine ⟨sd, hK3 _ _ ?_⟩
    refine Wp.ret ?_
    refine retQ_ret ?_
    cases hm
    simp only [go_sem, simprocAttr]
    try exact se2
  clear hK2 hk_31
  refine Wp.seqR fun K4 hK4 => ?_
  simp only [go_sem, simprocAttr]
  first | refine hK4 _ _ ?_ | refine ⟨sd, hK4 _ _ ?_⟩
  refine Wp.block ?_
  obtain ⟨k_35, hk_35, hm⟩ := forL_cont hm
  refine Wp.fact 0 fun hl_38 => ?_
  replace hl_38 : s_1.length ≤ 274877906944 := by
    simp only [go_sem, simprocAttr, List.length_map] at hl_38
    omega
  refine Wp.forL (fun i_37 s => [(0, .p (.l (List.map enc_api_File s_1))), (1, .fn 15 [.ptr 0 0]), (7, .p (.i .i64 (s_1.length : Int))), (8, .p (.i .i64 (i_37 : Int)))]) (fun i_37 s => [.cells 9 [.p (.s o0_0_2)]]) ?_ hm ?_
  ·
    simp only [go_sem, simprocAttr]
    try exact se2
  clear hm
  intro i_37 s hii_37 hm
  try dsimp only at hm
  try dsimp only
  refine Wp.seqR fun K5 hK5 => ?_
  simp only [go_sem, simprocAttr]
  first | refine hK5 _ _ ?_ | refine ⟨sd, hK5 _ _ ?_⟩
  refine Wp.seqW fun K6 hK6 hW6 => ?_
  refine Wp.cond rfl ⟨⟩ (fun hc6 => ?_) (fun hc6 => ?_)
  rotate_left
  · refine Wp.exit ?_
    have hm := hk_35 _ (forL_end hm (ge_nat (by first | exact hc6 | simpa using hc6)))
    try dsimp only at hm
    simp only [thenQ, blockQ, ↓reduceIte]
    refine hW2 _ _ _ _ ?_ (hcut2 () hm)
    simp only [go_sem, simprocAttr]
    try exact se2
  have hlt6 := lt_nat (by first | exact hc6 | simpa using hc6)
  have hw6 := wrap_succ hlt6 hl_38
  obtain ⟨f_39, nx_36, hxf_39, hyf_39, hnx_36, hm⟩ := forL_step hm hlt6
  replace hxf_39 := hxf_39 enc_api_File
  refine Wp.skip ?_
  simp only [thenQ]
  refine hK6 _ _ ?_
  refine Wp.seqW fun K7 hK7 hW7 => ?_
  refine Wp.block ?_
  refine Wp.seqR fun K8 hK8 => ?_
  simp only [go_sem, simprocAttr, hw6, hxf_39]
  first | refine hK8 _ _ ?_ | refine ⟨sd, hK8 _ _ ?_⟩
  obtain ⟨r_40, hr_40, hm⟩ := call_elim hm
  refine Wp.seqR fun K9 hK9 => ?_
  simp only [go_sem, simprocAttr, hw6, hxf_39]
  try refine ⟨sd, ?_⟩
  refine Rg.callR (av := ?av10) (g := true) [0] (fun hg => ok_Law_ThingsAreFound_3_i1 f_39 o0_0_2 _ hr_40) (by simp only [go_sem, simprocAttr, hw6, hxf_39]; exact Is.mk) (by simp only [go_sem, simprocAttr, hw6, hxf_39]; exact Is.mk) (by simp only [go_sem, simprocAttr, hw6, hxf_39]; exact Is.mk) (by simp only [go_sem, simprocAttr, hw6, hxf_39]; exact Is.mk) (by simp only [go_sem, simprocAttr, hw6, hxf_39]) (by simp only [go_sem, simprocAttr, hw6, hxf_39]) (by simp only [go_sem, simprocAttr, hw6, hxf_39]) ?cont10
  simp only [go_sem, simprocAttr, hw6, hxf_39]
  first | refine hK9 _ _ ?_ | refine ⟨sd, hK9 _ _ ?_⟩
  refine Wp.cond rfl ⟨⟩ (fun hc11 => ?_) (fun hc11 => ?_)
  · have hm := brT hm (sb hc11)
    refine Wp.seqR fun K12 hK12 => ?_
    simp only [go_sem, simprocAttr, hw6, hxf_39]
    first | refine hK12 _ _ ?_ | refine ⟨sd, hK12 _ _ ?_⟩
    refine Wp.ret ?_
    simp only [thenQ, blockQ]
    refine retQ_ret ?_
    cases hm
    simp only [go_sem, simprocAttr, hw6, hxf_39]
    try exact se2
  · have hm := brF hm (sb hc11)
    refine Wp.skip ?_
    simp only [thenQ, blockQ, ↓reduceIte]
    refine hK7 _ _ ?_
    refine Wp.region fun K13 hK13 => ?_
    simp only [go_sem, simprocAttr, hw6, hxf_39]
    first | refine hK13 _ _ ?_ | refine ⟨sd, hK13 _ _ ?_⟩
    simp only [thenQ, blockQ, ↓reduceIte]
    refine ⟨(), hlt6, hnx_36 _ hm, ?_⟩
    simp only [go_sem, simprocAttr, hw6, hxf_39]
    try exact se2
theorem ok_Law_ThingsAreFound_4_i1 (x_1 : api_Setting) (o0_0_2 : Str) (z : Bool) (hm : Law_ThingsAreFound_4_i1 x_1 o0_0_2 = some z) : Does Tryz.prog 16 [.agg [.p (.s x_1.Key), .p (.s x_1.Value)], .ptr 0 0] [.cells 9 [.p (.s o0_0_2)]] (fun r X => r = .p (.b z) ∧ X = [.cells 9 [.p (.s o0_0_2)]]) := by
  unfold Law_ThingsAreFound_4_i1 at hm
  refine Does.of_wp 1 8 [.tmp 3] Tryz.func16 rfl (by decide) rfl rfl (Nat.le_of_ble_eq_true rfl) fun B => ?_
  refine Wp.seqR fun K1 hK1 => ?_
  simp only [go_sem, simprocAttr]
  first | refine hK1 _ _ ?_ | refine ⟨sd, hK1 _ _ ?_⟩
  refine Wp.seqR fun K2 hK2 => ?_
  simp only [go_sem, simprocAttr]
  first | refine hK2 _ _ ?_ | refine ⟨sd, hK2 _ _ ?_⟩
  refine Wp.ret ?_
  refine retQ_ret ?_
  cases hm
  simp only [go_sem, simprocAttr]
  try exact se2
theorem ok_slices_IndexFunc_api_Setting_api_Setting_i2 (s_1 : List api_Setting) (o0_0_2 : Str) (z : Int) (hm : slices_IndexFunc_api_Setting_api_Setting_i2 s_1 o0_0_2 = some z) : Does Tryz.prog 12 [.p (.l (List.map enc_api_Setting s_1)), .fn 16 [.ptr 0 0]] [.cells 9 [.p (.s o0_0_2)]] (fun r X => r = .p (.i .i64 z) ∧ X = [.cells 9 [.p (.s o0_0_2)]]) := by
  unfold slices_IndexFunc_api_Setting_api_Setting_i2 at hm
  refine Does.of_wp 1 19 [.tmp 4] Tryz.func12 rfl (by decide) rfl rfl (Nat.le_of_ble_eq_true rfl) fun B => ?_
  refine Wp.seqR fun K1 hK1 => ?_
  simp only [go_sem, simprocAttr]
  first | refine hK1 _ _ ?_ | refine ⟨sd, hK1 _ _ ?_⟩
  refine Wp.seqW fun K2 hK2 hW2 => ?_
  obtain ⟨k_31, hk_31, hm⟩ := jp_elim hm
  have hcut2 : ∀ s, k_31 s = some z → K2 [] [.cells 9 [.p (.s o0_0_2)]] := by
    intro s hs
    have hm := hk_31 _ hs
    clear hs
    try dsimp only at hm
    try dsimp only
    refine hK2 _ _ ?_
    refine Wp.seqR fun K3 hK3 => ?_
    simp only [go_sem, simprocAttr]
    first | refine hK3 _ _ ?_ | refine ⟨sd, hK3 _ _ ?_⟩
    refine Wp.ret ?_
    refine retQ_ret ?_
    cases hm
    simp only [go_sem, simprocAttr]
    try exact se2
  clear hK2 hk_31
  refine Wp.seqR fun K4 hK4 => ?_
  simp only [go_sem, simprocAttr]
  first | refine hK4 _ _ ?_ | refine ⟨sd, hK4 _ _ ?_⟩
  refine Wp.block ?_
  obtain ⟨k_35, hk_35, hm⟩ := forL_cont hm
  refine Wp.fact 0 fun hl_38 => ?_
  replace hl_38 : s_1.length ≤ 274877906944 := by
    simp only [go_sem, simprocAttr, List.length_map] at hl_38
    omega
  refine Wp.forL (fun i_37 s => [(0, .p (.l (List.map enc_api_Setting s_1))), (1, .fn 16 [.ptr 0 0]), (7, .p (.i .i64 (s_1.length : Int))), (8, .p (.i .i64 (i_37 : Int)))]) (fun i_37 s => [.cells 9 [.p (.s o0_0_2)]]) ?_ hm ?_
  ·
    simp only [go_sem, simprocAttr]
    try exact se2
  clear hm
  intro i_37 s hii_37 hm
  try dsimp only at hm
  try dsimp only
  refine Wp.seqR fun K5 hK5 => ?_
  simp only [go_sem, simprocAttr]
  first | refine hK5 _ _ ?_ | refine ⟨sd, hK5 _ _ ?_⟩
  refine Wp.seqW fun K6 hK6 hW6 => ?_
  refine Wp.cond rfl ⟨⟩ (fun hc6 => ?_) (fun hc6 => ?_)
  rotate_left
  · refine Wp.exit ?_
    have hm := hk_35 _ (forL_end hm (ge_nat (by first | exact hc6 | simpa using hc6)))
    try dsimp only at hm
    simp only [thenQ, blockQ, ↓reduceIte]
    refine hW2 _ _ _ _ ?_ (hcut2 () hm)
    simp only [go_sem, simprocAttr]
    try exact se2
  have hlt6 := lt_nat (by first | exact hc6 | simpa using hc6)
  have hw6 := wrap_succ hlt6 hl_38
  obtain ⟨s_39, nx_36, hxs_39, hys_39, hnx_36, hm⟩ := forL_step hm hlt6
  replace hxs_39 := hxs_39 enc_api_Setting
  refine Wp.skip ?_
  simp only [thenQ]
  refine hK6 _ _ ?_
  refine Wp.seqW fun K7 hK7 hW7 => ?_
  refine Wp.block ?_
  refine Wp.seqR fun K8 hK8 => ?_
  simp only [go_sem, simprocAttr, hw6, hxs_39]
  first | refine hK8 _ _ ?_ | refine ⟨sd, hK8 _ _ ?_⟩
  obtain ⟨r_40, hr_40, hm⟩ := call_elim hm
  refine Wp.seqR fun K9 hK9 => ?_
  simp only [go_sem, simprocAttr, hw6, hxs_39]
  try refine ⟨sd, ?_⟩
  refine Rg.callR (av := ?av10) (g := true) [0] (fun hg => ok_Law_ThingsAreFound_4_i1 s_39 o0_0_2 _ hr_40) (by simp only [go_sem, simprocAttr, hw6, hxs_39]; exact Is.mk) (by simp only [go_sem, simprocAttr, hw6, hxs_39]; exact Is.mk) (by simp only [go_sem, simprocAttr, hw6, hxs_39]; exact Is.mk) (by simp only [go_sem, simprocAttr, hw6, hxs_39]; exact Is.mk) (by simp only [go_sem, simprocAttr, hw6, hxs_39]) (by simp only [go_sem, simprocAttr, hw6, hxs_39]) (by simp only [go_sem, simprocAttr, hw6, hxs_39]) ?cont10
  simp only [go_sem, simprocAttr, hw6, hxs_39]
  first | refine hK9 _ _ ?_ | refine ⟨sd, hK9 _ _ ?_⟩
  refine Wp.cond rfl ⟨⟩ (fun hc11 => ?_) (fun hc11 => ?_)
  · have hm := brT hm (sb hc11)
    refine Wp.seqR fun K12 hK12 => ?_
    simp only [go_sem, simprocAttr, hw6, hxs_39]
    first | refine hK12 _ _ ?_ | refine ⟨sd, hK12 _ _ ?_⟩
    refine Wp.ret ?_
    simp only [thenQ, blockQ]
    refine retQ_ret ?_
    cases hm
    simp only [go_sem, simprocAttr, hw6, hxs_39]
    try exact se2
  · have hm := brF hm (sb hc11)
    refine Wp.skip ?_
    simp only [thenQ, blockQ, ↓reduceIte]
    refine hK7 _ _ ?_
    refine Wp.region fun K13 hK13 => ?_
    simp only [go_sem, simprocAttr, hw6, hxs_39]
    first | refine hK13 _ _ ?_ | refine ⟨sd, hK13 _ _ ?_⟩
    simp only [thenQ, blockQ, ↓reduceIte]
    refine ⟨(), hlt6, hnx_36 _ hm, ?_⟩
    simp only [go_sem, simprocAttr, hw6, hxs_39]
    try exact se2
theorem ok_Law_ThingsAreFound_5_i1 (x_1 : api_Service) (o0_0_2 : Str) (z : Bool) (hm : Law_ThingsAreFound_5_i1 x_1 o0_0_2 = some z) : Does Tryz.prog 18 [.agg [.p (.s x_1.Name), .p (.s x_1.Path), .p (.b x_1.Auto), .p (.b x_1.On)], .ptr 0 0] [.cells 9 [.p (.s o0_0_2)]] (fun r X => r = .p (.b z) ∧ X = [.cells 9 [.p (.s o0_0_2)]]) := by
  unfold Law_ThingsAreFound_5_i1 at hm
  refine Does.of_wp 1 8 [.tmp 3] Tryz.func18 rfl (by decide) rfl rfl (Nat.le_of_ble_eq_true rfl) fun B => ?_
  refine Wp.seqR fun K1 hK1 => ?_
  simp only [go_sem, simprocAttr]
  first | refine hK1 _ _ ?_ | refine ⟨sd, hK1 _ _ ?_⟩
  refine Wp.seqR fun K2 hK2 => ?_
  simp only [go_sem, simprocAttr]
  first | refine hK2 _ _ ?_ | refine ⟨sd, hK2 _ _ ?_⟩
  refine Wp.ret ?_
  refine retQ_ret ?_
  cases hm
  simp only [go_sem, simprocAttr]
  try exact se2
theorem ok_slices_IndexFunc_api_Service_api_Service_i1 (s_1 : List api_Service) (o0_0_2 : Str) (z : Int) (hm : slices_IndexFunc_api_Service_api_Service_i1 s_1 o0_0_2 = some z) : Does Tryz.prog 17 [.p (.l (List.map enc_api_Service s_1)), .fn 18 [.ptr 0 0]] [.cells 9 [.p (.s o0_0_2)]] (fun r X => r = .p (.i .i64 z) ∧ X = [.cells 9 [.p (.s o0_0_2)]]) := by
  unfold slices_IndexFunc_api_Service_api_Service_i1 at hm
  refine Does.of_wp 1 19 [.tmp 4] Tryz.func17 rfl (by decide) rfl rfl (Nat.le_of_ble_eq_true rfl) fun B => ?_
  refine Wp.seqR fun K1 hK1 => ?_
  simp only [go_sem, simprocAttr]
  first | refine hK1 _ _ ?_ | refine ⟨sd, hK1 _ _ ?_⟩
  refine Wp.seqW fun K2 hK2 hW2 => ?_
  obtain ⟨k_31, hk_31, hm⟩ := jp_elim hm
  have hcut2 : ∀ s, k_31 s = some z → K2 [] [.cells 9 [.p (.s o0_0_2)]] := by
    intro s hs
    have hm := hk_31 _ hs
    clear hs
    try dsimp only at hm
    try dsimp only
    refine hK2 _ _ ?_
    refine Wp.seqR fun K3 hK3 => ?_
    simp only [go_sem, simprocAttr]
    first | refine hK3 _ _ ?_ | refine ⟨sd, hK3 _ _ ?_⟩
    refine Wp.ret ?_
    refine retQ_ret ?_
    cases hm
    simp only [go_sem, simprocAttr]
    try exact se2
  clear hK2 hk_31
  refine Wp.seqR fun K4 hK4 => ?_
  simp only [go_sem, simprocAttr]
  first | refine hK4 _ _ ?_ | refine ⟨sd, hK4 _ _ ?_⟩
  refine Wp.block ?_
  obtain ⟨k_35, hk_35, hm⟩ := forL_cont hm
  refine Wp.fact 0 fun hl_38 => ?_
  replace hl_38 : s_1.length ≤ 274877906944 := by
    simp only [go_sem, simprocAttr, List.length_map] at hl_38
    omega
  refine Wp.forL (fun i_37 s => [(0, .p (.l (List.map enc_api_Service s_1))), (1, .fn 18 [.ptr 0 0]), (7, .p (.i .i64 (s_1.length : Int))), (8, .p (.i .i64 (i_37 : Int)))]) (fun i_37 s => [.cells 9 [.p (.s o0_0_2)]]) ?_ hm ?_
  ·
    simp only [go_sem, simprocAttr]
    try exact se2
  clear hm
  intro i_37 s hii_37 hm
  try dsimp only at hm
  try dsimp only
  refine Wp.seqR fun K5 hK5 => ?_
  simp only [go_sem, simprocAttr]
  first | refine hK5 _ _ ?_ | refine ⟨sd, hK5 _ _ ?_⟩
  refine Wp.seqW fun K6 hK6 hW6 => ?_
  refine Wp.cond rfl ⟨⟩ (fun hc6 => ?_) (fun hc6 => ?_)
  rotate_left
  · refine Wp.exit ?_
    have hm := hk_35 _ (forL_end hm (ge_nat (by first | exact hc6 | simpa using hc6)))
    try dsimp only at hm
    simp only [thenQ, blockQ, ↓reduceIte]
    refine hW2 _ _ _ _ ?_ (hcut2 () hm)
    simp only [go_sem, simprocAttr]
    try exact se2
  have hlt6 := lt_nat (by first | exact hc6 | simpa using hc6)
  have hw6 := wrap_succ hlt6 hl_38
  obtain ⟨s_39, nx_36, hxs_39, hys_39, hnx_36, hm⟩ := forL_step hm hlt6
  replace hxs_39 := hxs_39 enc_api_Service
  refine Wp.skip ?_
  simp only [thenQ]
  refine hK6 _ _ ?_
  refine Wp.seqW fun K7 hK7 hW7 => ?_
  refine Wp.block ?_
  refine Wp.seqR fun K8 hK8 => ?_
  simp only [go_sem, simprocAttr, hw6, hxs_39]
  first | refine hK8 _ _ ?_ | refine ⟨sd, hK8 _ _ ?_⟩
  obtain ⟨r_40, hr_40, hm⟩ := call_elim hm
  refine Wp.seqR fun K9 hK9 => ?_
  simp only [go_sem, simprocAttr, hw6, hxs_39]
  try refine ⟨sd, ?_⟩
  refine Rg.callR (av := ?av10) (g := true) [0] (fun hg => ok_Law_ThingsAreFound_5_i1 s_39 o0_0_2 _ hr_40) (by simp only [go_sem, simprocAttr, hw6, hxs_39]; exact Is.mk) (by simp only [go_sem, simprocAttr, hw6, hxs_39]; exact Is.mk) (by simp only [go_sem, simprocAttr, hw6, hxs_39]; exact Is.mk) (by simp only [go_sem, simprocAttr, hw6, hxs_39]; exact Is.mk) (by simp only [go_sem, simprocAttr, hw6, hxs_39]) (by simp only [go_sem, simprocAttr, hw6, hxs_39]) (by simp only [go_sem, simprocAttr, hw6, hxs_39]) ?cont10
  simp only [go_sem, simprocAttr, hw6, hxs_39]
  first | refine hK9 _ _ ?_ | refine ⟨sd, hK9 _ _ ?_⟩
  refine Wp.cond rfl ⟨⟩ (fun hc11 => ?_) (fun hc11 => ?_)
  · have hm := brT hm (sb hc11)
    refine Wp.seqR fun K12 hK12 => ?_
    simp only [go_sem, simprocAttr, hw6, hxs_39]
    first | refine hK12 _ _ ?_ | refine ⟨sd, hK12 _ _ ?_⟩
    refine Wp.ret ?_
    simp only [thenQ, blockQ]
    refine retQ_ret ?_
    cases hm
    simp only [go_sem, simprocAttr, hw6, hxs_39]
    try exact se2
  · have hm := brF hm (sb hc11)
    refine Wp.skip ?_
    simp only [thenQ, blockQ, ↓reduceIte]
    refine hK7 _ _ ?_
    refine Wp.region fun K13 hK13 => ?_
    simp only [go_sem, simprocAttr, hw6, hxs_39]
    first | refine hK13 _ _ ?_ | refine ⟨sd, hK13 _ _ ?_⟩
    simp only [thenQ, blockQ, ↓reduceIte]
    refine ⟨(), hlt6, hnx_36 _ hm, ?_⟩
    simp only [go_sem, simprocAttr, hw6, hxs_39]
    try exact se2
theorem ok_ver_IsValue_1 (c_1 : Int) (z : Bool) (hm : ver_IsValue_1 c_1 = some z) : Does Tryz.prog 199 [.p (.i .u8 c_1)] [] (fun r X => r = .p (.b z) ∧ X = []) := by
  unfold ver_IsValue_1 at hm
  refine Does.of_wp 0 9 [.tmp 2] Tryz.func199 rfl (by decide) rfl rfl (Nat.le_of_ble_eq_true rfl) fun B => ?_
  refine Wp.seqR fun K1 hK1 => ?_
  simp only [go_sem, simprocAttr]
  first | refine hK1 _ _ ?_ | refine ⟨sd, hK1 _ _ ?_⟩
  refine Wp.seqR fun K2 hK2 => ?_
  simp only [go_sem, simprocAttr]
  first | refine hK2 _ _ ?_ | refine ⟨sd, hK2 _ _ ?_⟩
  refine Wp.ret ?_
  refine retQ_ret ?_
  cases hm
  simp only [go_sem, simprocAttr]
  try exact se2
theorem ok_ver_each_i2 (s_1 : Str) (most_2 : Int) (z : Bool) (hm : ver_each_i2 s_1 most_2 = some z) : Does Tryz.prog 125 [.p (.s s_1), .p (.i .i64 most_2), .fn 199 []] [] (fun r X => r = .p (.b z) ∧ X = []) := by
  unfold ver_each_i2 at hm
  refine Does.of_wp 0 28 [.tmp 6] Tryz.func125 rfl (by decide) rfl rfl (Nat.le_of_ble_eq_true rfl) fun B => ?_
  refine Wp.seqR fun K1 hK1 => ?_
  simp only [go_sem, simprocAttr]
  first | refine hK1 _ _ ?_ | refine ⟨sd, hK1 _ _ ?_⟩
  refine Wp.seqW fun K2 hK2 hW2 => ?_
  obtain ⟨k_12, hk_12, hm⟩ := jp_elim hm
  have hcut2 : ∀ s, k_12 s = some z → K2 [(0, .p (.s s_1)), (1, .p (.i .i64 most_2))] [] := by
    intro s hs
    have hm := hk_12 _ hs
    clear hs
    try dsimp only at hm
    try dsimp only
    refine hK2 _ _ ?_
    refine Wp.seqR fun K3 hK3 => ?_
    simp only [go_sem, simprocAttr]
    first | refine hK3 _ _ ?_ | refine ⟨sd, hK3 _ _ ?_⟩
    refine Wp.ret ?_
    refine retQ_ret ?_
    cases hm
    simp only [go_sem, simprocAttr]
    try exact se2
  clear hK2 hk_12
  refine Wp.seqR fun K4 hK4 => ?_
  simp only [go_sem, simprocAttr]
  first | refine hK4 _ _ ?_ | refine ⟨sd, hK4 _ _ ?_⟩
  refine Wp.block ?_
  obtain ⟨k_16, hk_16, hm⟩ := forL_cont hm
  refine Wp.fact 0 fun hl_19 => ?_
  replace hl_19 : s_1.length ≤ 274877906944 := by
    simp only [go_sem, simprocAttr, List.length_map] at hl_19
    omega
  refine Wp.forL (fun i_18 s => [(0, .p (.s s_1)), (1, .p (.i .i64 most_2)), (2, .fn 199 []), (7, .p (.i .i64 (i_18 : Int)))]) (fun i_18 s => []) ?_ hm ?_
  ·
    simp only [go_sem, simprocAttr]
    try exact se2
  clear hm
  intro i_18 s hii_18 hm
  try dsimp only at hm
  try dsimp only
  refine Wp.seqW fun K5 hK5 hW5 => ?_
  refine Wp.seqR fun K6 hK6 => ?_
  simp only [go_sem, simprocAttr]
  first | refine hK6 _ _ ?_ | refine ⟨sd, hK6 _ _ ?_⟩
  refine Wp.cond rfl ⟨⟩ (fun hc5 => ?_) (fun hc5 => ?_)
  rotate_left
  · refine Wp.exit ?_
    have hm := hk_16 _ (forL_end hm (ge_nat (by first | exact hc5 | simpa using hc5)))
    try dsimp only at hm
    simp only [thenQ, blockQ, ↓reduceIte]
    refine hW2 _ _ _ _ ?_ (hcut2 () hm)
    simp only [go_sem, simprocAttr]
    try exact se2
  have hlt5 := lt_nat (by first | exact hc5 | simpa using hc5)
  have hw5 := wrap_succ hlt5 hl_19
  obtain ⟨c_20, nx_17, hxc_20, hyc_20, hnx_17, hm⟩ := forL_step hm hlt5
  clear hxc_20
  refine Wp.skip ?_
  simp only [thenQ]
  refine hK5 _ _ ?_
  refine Wp.seqW fun K7 hK7 hW7 => ?_
  refine Wp.block ?_
  obtain ⟨r_21, hr_21, hm⟩ := call_elim hm
  refine Wp.seqR fun K8 hK8 => ?_
  simp only [go_sem, simprocAttr, hw5, hyc_20]
  try refine ⟨sd, ?_⟩
  refine Rg.callX (av := ?av9) (g := true) (fun hg => ok_ver_IsValue_1 (c_20.toNat : Int) _ hr_21) (by simp only [go_sem, simprocAttr, hw5, hyc_20]; exact Is.mk) (by simp only [go_sem, simprocAttr, hw5, hyc_20]; exact Is.mk) (by simp only [go_sem, simprocAttr, hw5, hyc_20]; exact Is.mk) (by simp only [go_sem, simprocAttr, hw5, hyc_20]) (by simp only [go_sem, simprocAttr, hw5, hyc_20]; exact Is.mk) ?cont9
  intro hv9
  simp only [go_sem, simprocAttr, hw5, hyc_20]
  first | refine hK8 _ _ ?_ | refine ⟨sd, hK8 _ _ ?_⟩
  refine Wp.cond rfl ⟨⟩ (fun hc10 => ?_) (fun hc10 => ?_)
  · have hm := brT hm (sb hc10)
    refine Wp.seqR fun K11 hK11 => ?_
    simp only [go_sem, simprocAttr, hw5, hyc_20]
    first | refine hK11 _ _ ?_ | refine ⟨sd, hK11 _ _ ?_⟩
    refine Wp.ret ?_
    simp only [thenQ, blockQ]
    refine retQ_ret ?_
    cases hm
    simp only [go_sem, simprocAttr, hw5, hyc_20]
    try exact se2
  · have hm := brF hm (sb hc10)
    refine Wp.skip ?_
    simp only [thenQ, blockQ, ↓reduceIte]
    refine hK7 _ _ ?_
    refine Wp.region fun K12 hK12 => ?_
    simp only [go_sem, simprocAttr, hw5, hyc_20]
    first | refine hK12 _ _ ?_ | refine ⟨sd, hK12 _ _ ?_⟩
    simp only [thenQ, blockQ, ↓reduceIte]
    refine ⟨(), hlt5, hnx_17 _ hm, ?_⟩
    simp only [go_sem, simprocAttr, hw5, hyc_20]
    try exact se2
theorem ok_ver_IsValue (s_1 : Str) (z : Bool) (hm : ver_IsValue s_1 = some z) : Does Tryz.prog 160 [.p (.s s_1)] [] (fun r X => r = .p (.b z) ∧ X = []) := by
  unfold ver_IsValue at hm
  refine Does.of_wp 0 9 [.tmp 2] Tryz.func160 rfl (by decide) rfl rfl (Nat.le_of_ble_eq_true rfl) fun B => ?_
  refine Wp.seqR fun K1 hK1 => ?_
  simp only [go_sem, simprocAttr]
  first | refine hK1 _ _ ?_ | refine ⟨sd, hK1 _ _ ?_⟩
  obtain ⟨r_2, hr_2, hm⟩ := callG_elim hm
  refine Wp.seqR fun K2 hK2 => ?_
  simp only [go_sem, simprocAttr]
  try refine ⟨sd, ?_⟩
  refine Rg.callX (av := ?av3) (g := !(decide (s_1 = []))) (fun hg => ok_ver_each_i2 s_1 1000 _ (hr_2 hg)) si si si sg si ?cont3
  intro hv3
  simp only [go_sem, simprocAttr]
  first | refine hK2 _ _ ?_ | refine ⟨sd, hK2 _ _ ?_⟩
  refine Wp.ret ?_
  refine retQ_ret ?_
  cases hm
  simp only [go_sem, simprocAttr]
  try exact se2
theorem ok_disk_settingFault_i1 (s_1 : api_Setting) (z : Int) (hm : disk_settingFault_i1 s_1 = some z) : Does Tryz.prog 115 [.agg [.p (.s s_1.Key), .p (.s s_1.Value)], .fn 68 []] [] (fun r X => r = .p (.i .i64 z) ∧ X = []) := by
  unfold disk_settingFault_i1 at hm
  refine Does.of_wp 0 14 [.tmp 4] Tryz.func115 rfl (by decide) rfl rfl (Nat.le_of_ble_eq_true rfl) fun B => ?_
  refine Wp.seqR fun K1 hK1 => ?_
  simp only [go_sem, simprocAttr]
  first | refine hK1 _ _ ?_ | refine ⟨sd, hK1 _ _ ?_⟩
  refine Wp.seqW fun K2 hK2 hW2 => ?_
  obtain ⟨r_2, hr_2, hm⟩ := call_elim hm
  refine Wp.seqR fun K3 hK3 => ?_
  simp only [go_sem, simprocAttr]
  try refine ⟨sd, ?_⟩
  refine Rg.callX (av := ?av4) (g := true) (fun hg => ok_ver_IsName s_1.Key _ hr_2) si si si sg si ?cont4
  intro hv4
  simp only [go_sem, simprocAttr]
  first | refine hK3 _ _ ?_ | refine ⟨sd, hK3 _ _ ?_⟩
  refine Wp.cond rfl ⟨⟩ (fun hc5 => ?_) (fun hc5 => ?_)
  · have hm := brT hm (sb hc5)
    refine Wp.seqR fun K6 hK6 => ?_
    simp only [go_sem, simprocAttr]
    first | refine hK6 _ _ ?_ | refine ⟨sd, hK6 _ _ ?_⟩
    refine Wp.ret ?_
    simp only [thenQ, blockQ]
    refine retQ_ret ?_
    cases hm
    simp only [go_sem, simprocAttr]
    try exact se2
  · have hm := brF hm (sb hc5)
    refine Wp.skip ?_
    simp only [thenQ, blockQ, ↓reduceIte]
    refine hK2 _ _ ?_
    refine Wp.seqW fun K7 hK7 hW7 => ?_
    obtain ⟨r_3, hr_3, hm⟩ := call_elim hm
    refine Wp.seqR fun K8 hK8 => ?_
    simp only [go_sem, simprocAttr]
    try refine ⟨sd, ?_⟩
    refine Rg.callX (av := ?av9) (g := true) (fun hg => ok_ver_IsValue s_1.Value _ hr_3) si si si sg si ?cont9
    intro hv9
    simp only [go_sem, simprocAttr]
    first | refine hK8 _ _ ?_ | refine ⟨sd, hK8 _ _ ?_⟩
    refine Wp.cond rfl ⟨⟩ (fun hc10 => ?_) (fun hc10 => ?_)
    · have hm := brT hm (sb hc10)
      refine Wp.seqR fun K11 hK11 => ?_
      simp only [go_sem, simprocAttr]
      first | refine hK11 _ _ ?_ | refine ⟨sd, hK11 _ _ ?_⟩
      refine Wp.ret ?_
      simp only [thenQ, blockQ]
      refine retQ_ret ?_
      cases hm
      simp only [go_sem, simprocAttr]
      try exact se2
    · have hm := brF hm (sb hc10)
      refine Wp.skip ?_
      simp only [thenQ, blockQ, ↓reduceIte]
      refine hK7 _ _ ?_
      refine Wp.seqR fun K12 hK12 => ?_
      simp only [go_sem, simprocAttr]
      first | refine hK12 _ _ ?_ | refine ⟨sd, hK12 _ _ ?_⟩
      refine Wp.ret ?_
      refine retQ_ret ?_
      cases hm
      simp only [go_sem, simprocAttr]
      try exact se2
theorem ok_disk_Check_1 (s_1 : api_Setting) (z : Int) (hm : disk_Check_1 s_1 = some z) : Does Tryz.prog 137 [.agg [.p (.s s_1.Key), .p (.s s_1.Value)]] [] (fun r X => r = .p (.i .i64 z) ∧ X = []) := by
  unfold disk_Check_1 at hm
  refine Does.of_wp 0 5 [.tmp 2] Tryz.func137 rfl (by decide) rfl rfl (Nat.le_of_ble_eq_true rfl) fun B => ?_
  refine Wp.seqR fun K1 hK1 => ?_
  simp only [go_sem, simprocAttr]
  first | refine hK1 _ _ ?_ | refine ⟨sd, hK1 _ _ ?_⟩
  obtain ⟨r_2, hr_2, hm⟩ := call_elim hm
  refine Wp.seqR fun K2 hK2 => ?_
  simp only [go_sem, simprocAttr]
  try refine ⟨sd, ?_⟩
  refine Rg.callX (av := ?av3) (g := true) (fun hg => ok_disk_settingFault_i1 s_1 _ hr_2) si si si sg si ?cont3
  intro hv3
  simp only [go_sem, simprocAttr]
  first | refine hK2 _ _ ?_ | refine ⟨sd, hK2 _ _ ?_⟩
  refine Wp.ret ?_
  refine retQ_ret ?_
  cases hm
  simp only [go_sem, simprocAttr]
  try exact se2
theorem ok_disk_keyOf (s_1 : api_Setting) (z : Str) (hm : disk_keyOf s_1 = some z) : Does Tryz.prog 77 [.agg [.p (.s s_1.Key), .p (.s s_1.Value)]] [] (fun r X => r = .p (.s z) ∧ X = []) := by
  unfold disk_keyOf at hm
  refine Does.of_wp 0 5 [.tmp 2] Tryz.func77 rfl (by decide) rfl rfl (Nat.le_of_ble_eq_true rfl) fun B => ?_
  refine Wp.seqR fun K1 hK1 => ?_
  simp only [go_sem, simprocAttr]
  first | refine hK1 _ _ ?_ | refine ⟨sd, hK1 _ _ ?_⟩
  refine Wp.seqR fun K2 hK2 => ?_
  simp only [go_sem, simprocAttr]
  first | refine hK2 _ _ ?_ | refine ⟨sd, hK2 _ _ ?_⟩
  refine Wp.ret ?_
  refine retQ_ret ?_
  cases hm
  simp only [go_sem, simprocAttr]
  try exact se2
theorem ok_disk_eachFault_api_Setting_i1 (l_1 : List api_Setting) (z : Int) (hm : disk_eachFault_api_Setting_i1 l_1 = some z) : Does Tryz.prog 136 [.p (.l (List.map enc_api_Setting l_1)), .fn 137 [], .fn 77 []] [] (fun r X => r = .p (.i .i64 z) ∧ X = []) := by
  unfold disk_eachFault_api_Setting_i1 at hm
  refine Does.of_wp 0 39 [.tmp 6] Tryz.func136 rfl (by decide) rfl rfl (Nat.le_of_ble_eq_true rfl) fun B => ?_
  refine Wp.seqR fun K1 hK1 => ?_
  simp only [go_sem, simprocAttr]
  first | refine hK1 _ _ ?_ | refine ⟨sd, hK1 _ _ ?_⟩
  refine Wp.seqW fun K2 hK2 hW2 => ?_
  obtain ⟨k_19, hk_19, hm⟩ := jp_elim hm
  have hcut2 : ∀ s, k_19 s = some z → K2 [] [] := by
    intro s hs
    have hm := hk_19 _ hs
    clear hs
    try dsimp only at hm
    try dsimp only
    refine hK2 _ _ ?_
    refine Wp.seqR fun K3 hK3 => ?_
    simp only [go_sem, simprocAttr]
    first | refine hK3 _ _ ?_ | refine ⟨sd, hK3 _ _ ?_⟩
    refine Wp.ret ?_
    refine retQ_ret ?_
    cases hm
    simp only [go_sem, simprocAttr]
    try exact se2
  clear hK2 hk_19
  refine Wp.seqR fun K4 hK4 => ?_
  simp only [go_sem, simprocAttr]
  first | refine hK4 _ _ ?_ | refine ⟨sd, hK4 _ _ ?_⟩
  refine Wp.block ?_
  obtain ⟨k_27, hk_27, hm⟩ := forL_cont hm
  refine Wp.fact 0 fun hl_30 => ?_
  replace hl_30 : l_1.length ≤ 274877906944 := by
    simp only [go_sem, simprocAttr, List.length_map] at hl_30
    omega
  refine Wp.forL (fun i_29 s => [(0, .p (.l (List.map enc_api_Setting l_1))), (1, .fn 137 []), (2, .fn 77 []), (10, .p (.l (List.map enc_api_Setting l_1))), (11, .p (.i .i64 (l_1.length : Int))), (12, .p (.i .i64 (i_29 : Int)))]) (fun i_29 s => []) ?_ hm ?_
  ·
    simp only [go_sem, simprocAttr]
    try exact se2
  clear hm
  intro i_29 s hii_29 hm
  try dsimp only at hm
  try dsimp only
  refine Wp.seqR fun K5 hK5 => ?_
  simp only [go_sem, simprocAttr]
  first | refine hK5 _ _ ?_ | refine ⟨sd, hK5 _ _ ?_⟩
  refine Wp.seqW fun K6 hK6 hW6 => ?_
  refine Wp.cond rfl ⟨⟩ (fun hc6 => ?_) (fun hc6 => ?_)
  rotate_left
  · refine Wp.exit ?_
    have hm := hk_27 _ (forL_end hm (ge_nat (by first | exact hc6 | simpa using hc6)))
    try dsimp only at hm
    simp only [thenQ, blockQ, ↓reduceIte]
    refine hW2 _ _ _ _ ?_ (hcut2 () hm)
    simp only [go_sem, simprocAttr]
    try exact se2
  have hlt6 := lt_nat (by first | exact hc6 | simpa using hc6)
  have hw6 := wrap_succ hlt6 hl_30
  obtain ⟨s_31, nx_28, hxs_31, hys_31, hnx_28, hm⟩ := forL_step hm hlt6
  replace hxs_31 := hxs_31 enc_api_Setting
  refine Wp.skip ?_
  simp only [thenQ]
  refine hK6 _ _ ?_
  refine Wp.seqW fun K7 hK7 hW7 => ?_
  refine Wp.block ?_
  refine Wp.seqR fun K8 hK8 => ?_
  simp only [go_sem, simprocAttr, hw6, hxs_31]
  first | refine hK8 _ _ ?_ | refine ⟨sd, hK8 _ _ ?_⟩
  refine Wp.seqW fun K9 hK9 hW9 => ?_
  obtain ⟨r_32, hr_32, hm⟩ := call_elim hm
  refine Wp.seqR fun K10 hK10 => ?_
  simp only [go_sem, simprocAttr, hw6, hxs_31]
  try refine ⟨sd, ?_⟩
  refine Rg.callX (av := ?av11) (g := true) (fun hg => ok_disk_Check_1 s_31 _ hr_32) (by simp only [go_sem, simprocAttr, hw6, hxs_31]; exact Is.mk) (by simp only [go_sem, simprocAttr, hw6, hxs_31]; exact Is.mk) (by simp only [go_sem, simprocAttr, hw6, hxs_31]; exact Is.mk) (by simp only [go_sem, simprocAttr, hw6, hxs_31]) (by simp only [go_sem, simprocAttr, hw6, hxs_31]; exact Is.mk) ?cont11
  intro hv11
  simp only [go_sem, simprocAttr, hw6, hxs_31]
  first | refine hK10 _ _ ?_ | refine ⟨sd, hK10 _ _ ?_⟩
  refine Wp.seqR fun K12 hK12 => ?_
  simp only [go_sem, simprocAttr, hw6, hxs_31]
  first | refine hK12 _ _ ?_ | refine ⟨sd, hK12 _ _ ?_⟩
  refine Wp.cond rfl ⟨⟩ (fun hc13 => ?_) (fun hc13 => ?_)
  · have hm := brT hm (sb hc13)
    refine Wp.seqR fun K14 hK14 => ?_
    simp only [go_sem, simprocAttr, hw6, hxs_31]
    first | refine hK14 _ _ ?_ | refine ⟨sd, hK14 _ _ ?_⟩
    refine Wp.ret ?_
    simp only [thenQ, blockQ]
    refine retQ_ret ?_
    cases hm
    simp only [go_sem, simprocAttr, hw6, hxs_31]
    try exact se2
  · have hm := brF hm (sb hc13)
    refine Wp.skip ?_
    simp only [thenQ, blockQ, ↓reduceIte]
    refine hK9 _ _ ?_
    obtain ⟨r_33, hr_33, hm⟩ := callG_elim hm
    obtain ⟨c_34, hm⟩ := chk_elim hm
    obtain ⟨r_35, hr_35, hm⟩ := callG_elim hm
    have hr_36 := getD_enc (l := l_1) (e := enc_api_Setting) (d := (api_Setting.mk [] [])) (i := (IntKind.i64.wrap ((i_29 : Int) - 1)).toNat)
    simp only [enc_api_Setting, List.map_nil] at hr_36
    refine Wp.seqD (plan := [(0, none), (1, none), (2, none), (3, none), (4, none), (5, none), (6, none), (7, none), (8, none), (9, none), (10, none), (11, none), (12, none), (13, none), (14, none)]) (by kernel_rfl) rfl (by kernel_rfl) fun K15 hK15 => ?_
    simp only [go_sem, simprocAttr, hw6, hxs_31, hr_36]
    try refine ⟨by first | exact sd | ((repeat' apply And.intro) <;> first | assumption | omega | (simp only [List.length_append, List.length_map, List.length_cons, List.length_nil, List.length_set, List.length_replicate] at c_34 ⊢; omega)), ?_⟩
    refine Dr.callF (av := ?av16) (g := decide (0 < (i_29 : Int))) (o := ?o16) (fun hg => ok_disk_keyOf s_31 _ (hr_33 hg)) (by simp only [go_sem, simprocAttr, hw6, hxs_31, hr_36]; exact Is.mk) (by simp only [go_sem, simprocAttr, hw6, hxs_31, hr_36]; exact Is.mk) (by simp only [go_sem, simprocAttr, hw6, hxs_31, hr_36]; exact Is.mk) (by simp only [go_sem, simprocAttr, hw6, hxs_31, hr_36]; exact Is.mk) (by simp only [go_sem, simprocAttr, hw6, hxs_31, hr_36]) (by simp only [go_sem, simprocAttr, hw6, hxs_31, hr_36]; exact Is.mk) ?cont16
    simp only [go_sem, simprocAttr, hw6, hxs_31, hr_36]
    try refine ⟨by first | exact sd | ((repeat' apply And.intro) <;> first | assumption | omega | (simp only [List.length_append, List.length_map, List.length_cons, List.length_nil, List.length_set, List.length_replicate] at c_34 ⊢; omega)), ?_⟩
    refine Dr.callF (av := ?av17) (g := decide (0 < (i_29 : Int))) (o := ?o17) (fun hg => ok_disk_keyOf (api_Setting.mk ((l_1.getD ((IntKind.i64.wrap ((i_29 : Int) - 1)).toNat) (api_Setting.mk [] [])).Key) ((l_1.getD ((IntKind.i64.wrap ((i_29 : Int) - 1)).toNat) (api_Setting.mk [] [])).Value)) _ (hr_35 hg)) (by simp only [go_sem, simprocAttr, hw6, hxs_31, hr_36]; exact Is.mk) (by simp only [go_sem, simprocAttr, hw6, hxs_31, hr_36]; exact Is.mk) (by simp only [go_sem, simprocAttr, hw6, hxs_31, hr_36]; exact Is.mk) (by simp only [go_sem, simprocAttr, hw6, hxs_31, hr_36]; exact Is.mk) (by simp only [go_sem, simprocAttr, hw6, hxs_31, hr_36]) (by simp only [go_sem, simprocAttr, hw6, hxs_31, hr_36]; exact Is.mk) ?cont17
    simp only [go_sem, simprocAttr, hw6, hxs_31, hr_36]
    first | refine hK15 _ _ ?_ | refine ⟨by first | exact sd | ((repeat' apply And.intro) <;> first | assumption | omega | (simp only [List.length_append, List.length_map, List.length_cons, List.length_nil, List.length_set, List.length_replicate] at c_34 ⊢; omega)), hK15 _ _ ?_⟩
    refine Wp.cond rfl ⟨⟩ (fun hc18 => ?_) (fun hc18 => ?_)
    · have hm := brT hm (sb hc18)
      refine Wp.seqR fun K19 hK19 => ?_
      simp only [go_sem, simprocAttr, hw6, hxs_31]
      first | refine hK19 _ _ ?_ | refine ⟨sd, hK19 _ _ ?_⟩
      refine Wp.ret ?_
      simp only [thenQ, blockQ]
      refine retQ_ret ?_
      cases hm
      simp only [go_sem, simprocAttr, hw6, hxs_31]
      try exact se2
    · have hm := brF hm (sb hc18)
      refine Wp.skip ?_
      simp only [thenQ, blockQ, ↓reduceIte]
      refine hK7 _ _ ?_
      refine Wp.region fun K20 hK20 => ?_
      simp only [go_sem, simprocAttr, hw6, hxs_31]
      first | refine hK20 _ _ ?_ | refine ⟨sd, hK20 _ _ ?_⟩
      simp only [thenQ, blockQ, ↓reduceIte]
      refine ⟨(), hlt6, hnx_28 _ hm, ?_⟩
      simp only [go_sem, simprocAttr, hw6, hxs_31]
      try exact se2
theorem ok_ver_isPart_1 (c_1 : Int) (z : Bool) (hm : ver_isPart_1 c_1 = some z) : Does Tryz.prog 176 [.p (.i .u8 c_1)] [] (fun r X => r = .p (.b z) ∧ X = []) := by
  unfold ver_isPart_1 at hm
  refine Does.of_wp 0 29 [.tmp 2] Tryz.func176 rfl (by decide) rfl rfl (Nat.le_of_ble_eq_true rfl) fun B => ?_
  refine Wp.seqR fun K1 hK1 => ?_
  simp only [go_sem, simprocAttr]
  first | refine hK1 _ _ ?_ | refine ⟨sd, hK1 _ _ ?_⟩
  obtain ⟨r_2, hr_2, hm⟩ := call_elim hm
  obtain ⟨r_3, hr_3, hm⟩ := callG_elim hm
  refine Wp.seqR fun K2 hK2 => ?_
  simp only [go_sem, simprocAttr]
  try refine ⟨sd, ?_⟩
  refine Rg.callX (av := ?av3) (g := true) (fun hg => ok_ver_isSmall c_1 _ hr_2) si si si sg si ?cont3
  intro hv3
  simp only [go_sem, simprocAttr]
  try refine ⟨sd, ?_⟩
  refine Rg.callX (av := ?av4) (g := !(r_2 || ((decide (65 ≤ c_1)) && (decide (c_1 ≤ 90))))) (fun hg => ok_ver_isDigit c_1 _ (hr_3 hg)) si si si sg si ?cont4
  intro hv4
  simp only [go_sem, simprocAttr]
  first | refine hK2 _ _ ?_ | refine ⟨sd, hK2 _ _ ?_⟩
  refine Wp.ret ?_
  refine retQ_ret ?_
  cases hm
  simp only [go_sem, simprocAttr]
  try exact se2
theorem ok_ver_each_i3 (s_1 : Str) (most_2 : Int) (z : Bool) (hm : ver_each_i3 s_1 most_2 = some z) : Does Tryz.prog 125 [.p (.s s_1), .p (.i .i64 most_2), .fn 176 []] [] (fun r X => r = .p (.b z) ∧ X = []) := by
  unfold ver_each_i3 at hm
  refine Does.of_wp 0 28 [.tmp 6] Tryz.func125 rfl (by decide) rfl rfl (Nat.le_of_ble_eq_true rfl) fun B => ?_
  refine Wp.seqR fun K1 hK1 => ?_
  simp only [go_sem, simprocAttr]
  first | refine hK1 _ _ ?_ | refine ⟨sd, hK1 _ _ ?_⟩
  refine Wp.seqW fun K2 hK2 hW2 => ?_
  obtain ⟨k_12, hk_12, hm⟩ := jp_elim hm
  have hcut2 : ∀ s, k_12 s = some z → K2 [(0, .p (.s s_1)), (1, .p (.i .i64 most_2))] [] := by
    intro s hs
    have hm := hk_12 _ hs
    clear hs
    try dsimp only at hm
    try dsimp only
    refine hK2 _ _ ?_
    refine Wp.seqR fun K3 hK3 => ?_
    simp only [go_sem, simprocAttr]
    first | refine hK3 _ _ ?_ | refine ⟨sd, hK3 _ _ ?_⟩
    refine Wp.ret ?_
    refine retQ_ret ?_
    cases hm
    simp only [go_sem, simprocAttr]
    try exact se2
  clear hK2 hk_12
  refine Wp.seqR fun K4 hK4 => ?_
  simp only [go_sem, simprocAttr]
  first | refine hK4 _ _ ?_ | refine ⟨sd, hK4 _ _ ?_⟩
  refine Wp.block ?_
  obtain ⟨k_16, hk_16, hm⟩ := forL_cont hm
  refine Wp.fact 0 fun hl_19 => ?_
  replace hl_19 : s_1.length ≤ 274877906944 := by
    simp only [go_sem, simprocAttr, List.length_map] at hl_19
    omega
  refine Wp.forL (fun i_18 s => [(0, .p (.s s_1)), (1, .p (.i .i64 most_2)), (2, .fn 176 []), (7, .p (.i .i64 (i_18 : Int)))]) (fun i_18 s => []) ?_ hm ?_
  ·
    simp only [go_sem, simprocAttr]
    try exact se2
  clear hm
  intro i_18 s hii_18 hm
  try dsimp only at hm
  try dsimp only
  refine Wp.seqW fun K5 hK5 hW5 => ?_
  refine Wp.seqR fun K6 hK6 => ?_
  simp only [go_sem, simprocAttr]
  first | refine hK6 _ _ ?_ | refine ⟨sd, hK6 _ _ ?_⟩
  refine Wp.cond rfl ⟨⟩ (fun hc5 => ?_) (fun hc5 => ?_)
  rotate_left
  · refine Wp.exit ?_
    have hm := hk_16 _ (forL_end hm (ge_nat (by first | exact hc5 | simpa using hc5)))
    try dsimp only at hm
    simp only [thenQ, blockQ, ↓reduceIte]
    refine hW2 _ _ _ _ ?_ (hcut2 () hm)
    simp only [go_sem, simprocAttr]
    try exact se2
  have hlt5 := lt_nat (by first | exact hc5 | simpa using hc5)
  have hw5 := wrap_succ hlt5 hl_19
  obtain ⟨c_20, nx_17, hxc_20, hyc_20, hnx_17, hm⟩ := forL_step hm hlt5
  clear hxc_20
  refine Wp.skip ?_
  simp only [thenQ]
  refine hK5 _ _ ?_
  refine Wp.seqW fun K7 hK7 hW7 => ?_
  refine Wp.block ?_
  obtain ⟨r_21, hr_21, hm⟩ := call_elim hm
  refine Wp.seqR fun K8 hK8 => ?_
  simp only [go_sem, simprocAttr, hw5, hyc_20]
  try refine ⟨sd, ?_⟩
  refine Rg.callX (av := ?av9) (g := true) (fun hg => ok_ver_isPart_1 (c_20.toNat : Int) _ hr_21) (by simp only [go_sem, simprocAttr, hw5, hyc_20]; exact Is.mk) (by simp only [go_sem, simprocAttr, hw5, hyc_20]; exact Is.mk) (by simp only [go_sem, simprocAttr, hw5, hyc_20]; exact Is.mk) (by simp only [go_sem, simprocAttr, hw5, hyc_20]) (by simp only [go_sem, simprocAttr, hw5, hyc_20]; exact Is.mk) ?cont9
  intro hv9
  simp only [go_sem, simprocAttr, hw5, hyc_20]
  first | refine hK8 _ _ ?_ | refine ⟨sd, hK8 _ _ ?_⟩
  refine Wp.cond rfl ⟨⟩ (fun hc10 => ?_) (fun hc10 => ?_)
  · have hm := brT hm (sb hc10)
    refine Wp.seqR fun K11 hK11 => ?_
    simp only [go_sem, simprocAttr, hw5, hyc_20]
    first | refine hK11 _ _ ?_ | refine ⟨sd, hK11 _ _ ?_⟩
    refine Wp.ret ?_
    simp only [thenQ, blockQ]
    refine retQ_ret ?_
    cases hm
    simp only [go_sem, simprocAttr, hw5, hyc_20]
    try exact se2
  · have hm := brF hm (sb hc10)
    refine Wp.skip ?_
    simp only [thenQ, blockQ, ↓reduceIte]
    refine hK7 _ _ ?_
    refine Wp.region fun K12 hK12 => ?_
    simp only [go_sem, simprocAttr, hw5, hyc_20]
    first | refine hK12 _ _ ?_ | refine ⟨sd, hK12 _ _ ?_⟩
    simp only [thenQ, blockQ, ↓reduceIte]
    refine ⟨(), hlt5, hnx_17 _ hm, ?_⟩
    simp only [go_sem, simprocAttr, hw5, hyc_20]
    try exact se2
theorem ok_ver_isPart (s_1 : Str) (z : Bool) (hm : ver_isPart s_1 = some z) : Does Tryz.prog 133 [.p (.s s_1)] [] (fun r X => r = .p (.b z) ∧ X = []) := by
  unfold ver_isPart at hm
  refine Does.of_wp 0 15 [.tmp 2] Tryz.func133 rfl (by decide) rfl rfl (Nat.le_of_ble_eq_true rfl) fun B => ?_
  refine Wp.seqR fun K1 hK1 => ?_
  simp only [go_sem, simprocAttr]
  first | refine hK1 _ _ ?_ | refine ⟨sd, hK1 _ _ ?_⟩
  refine Wp.seqR fun K2 hK2 => ?_
  simp only [go_sem, simprocAttr]
  first | refine hK2 _ _ ?_ | refine ⟨sd, hK2 _ _ ?_⟩
  obtain ⟨r_2, hr_2, hm⟩ := call_elim hm
  refine Wp.seqR fun K3 hK3 => ?_
  simp only [go_sem, simprocAttr]
  try refine ⟨sd, ?_⟩
  refine Rg.callX (av := ?av4) (g := true) (fun hg => ok_ver_each_i3 s_1 40 _ hr_2) si si si sg si ?cont4
  intro hv4
  simp only [go_sem, simprocAttr]
  first | refine hK3 _ _ ?_ | refine ⟨sd, hK3 _ _ ?_⟩
  refine Wp.ret ?_
  refine retQ_ret ?_
  cases hm
  simp only [go_sem, simprocAttr]
  try exact se2
theorem ok_ver_IsPath (s_1 : Str) (z : Bool) (hm : ver_IsPath s_1 = some z) : Does Tryz.prog 79 [.p (.s s_1)] [] (fun r X => r = .p (.b z) ∧ X = []) := by
  unfold ver_IsPath at hm
  refine Does.of_wp 0 19 [.tmp 2] Tryz.func79 rfl (by decide) rfl rfl (Nat.le_of_ble_eq_true rfl) fun B => ?_
  refine Wp.seqR fun K1 hK1 => ?_
  simp only [go_sem, simprocAttr]
  first | refine hK1 _ _ ?_ | refine ⟨sd, hK1 _ _ ?_⟩
  refine Wp.seqW fun K2 hK2 hW2 => ?_
  obtain ⟨k_12, hk_12, hm⟩ := jp_elim hm
  have hcut2 : ∀ s, k_12 s = some z → K2 [(0, .p (.s s_1))] [] := by
    intro s hs
    have hm := hk_12 _ hs
    clear hs
    try dsimp only at hm
    try dsimp only
    refine hK2 _ _ ?_
    refine Wp.seqR fun K3 hK3 => ?_
    simp only [go_sem, simprocAttr]
    first | refine hK3 _ _ ?_ | refine ⟨sd, hK3 _ _ ?_⟩
    refine Wp.ret ?_
    refine retQ_ret ?_
    cases hm
    simp only [go_sem, simprocAttr]
    try exact se2
  clear hK2 hk_12
  obtain ⟨r_13, hr_13, hm⟩ := call_elim hm
  refine Wp.seqR fun K4 hK4 => ?_
  simp only [go_sem, simprocAttr]
  try refine ⟨sd, ?_⟩
  refine Rg.callF (av := ?av5) (ok_strings_Split s_1 ([47] : Str) _ hr_13) si si sg ?cont5
  intro hv5
  simp only [go_sem, simprocAttr]
  first | refine hK4 _ _ ?_ | refine ⟨sd, hK4 _ _ ?_⟩
  refine Wp.block ?_
  obtain ⟨k_17, hk_17, hm⟩ := forL_cont hm
  refine Wp.fact 6 fun hl_20 => ?_
  replace hl_20 : r_13.length ≤ 274877906944 := by
    simp only [go_sem, simprocAttr, List.length_map] at hl_20
    omega
  refine Wp.forL (fun i_19 s => [(0, .p (.s s_1)), (6, .p (.l (List.map ecS r_13))), (7, .p (.i .i64 (r_13.length : Int))), (8, .p (.i .i64 (i_19 : Int)))]) (fun i_19 s => []) ?_ hm ?_
  ·
    simp only [go_sem, simprocAttr]
    try exact se2
  clear hm
  intro i_19 s hii_19 hm
  try dsimp only at hm
  try dsimp only
  refine Wp.seqR fun K6 hK6 => ?_
  simp only [go_sem, simprocAttr]
  first | refine hK6 _ _ ?_ | refine ⟨sd, hK6 _ _ ?_⟩
  refine Wp.seqW fun K7 hK7 hW7 => ?_
  refine Wp.cond rfl ⟨⟩ (fun hc7 => ?_) (fun hc7 => ?_)
  rotate_left
  · refine Wp.exit ?_
    have hm := hk_17 _ (forL_end hm (ge_nat (by first | exact hc7 | simpa using hc7)))
    try dsimp only at hm
    simp only [thenQ, blockQ, ↓reduceIte]
    refine hW2 _ _ _ _ ?_ (hcut2 () hm)
    simp only [go_sem, simprocAttr]
    try exact se2
  have hlt7 := lt_nat (by first | exact hc7 | simpa using hc7)
  have hw7 := wrap_succ hlt7 hl_20
  obtain ⟨s_21, nx_18, hxs_21, hys_21, hnx_18, hm⟩ := forL_step hm hlt7
  replace hxs_21 := hxs_21 ecS
  refine Wp.skip ?_
  simp only [thenQ]
  refine hK7 _ _ ?_
  refine Wp.seqW fun K8 hK8 hW8 => ?_
  refine Wp.block ?_
  refine Wp.seqR fun K9 hK9 => ?_
  simp only [go_sem, simprocAttr, hw7, hxs_21]
  first | refine hK9 _ _ ?_ | refine ⟨sd, hK9 _ _ ?_⟩
  obtain ⟨r_22, hr_22, hm⟩ := call_elim hm
  refine Wp.seqR fun K10 hK10 => ?_
  simp only [go_sem, simprocAttr, hw7, hxs_21]
  try refine ⟨sd, ?_⟩
  refine Rg.callX (av := ?av11) (g := true) (fun hg => ok_ver_isPart s_21 _ hr_22) (by simp only [go_sem, simprocAttr, hw7, hxs_21]; exact Is.mk) (by simp only [go_sem, simprocAttr, hw7, hxs_21]; exact Is.mk) (by simp only [go_sem, simprocAttr, hw7, hxs_21]; exact Is.mk) (by simp only [go_sem, simprocAttr, hw7, hxs_21]) (by simp only [go_sem, simprocAttr, hw7, hxs_21]; exact Is.mk) ?cont11
  intro hv11
  simp only [go_sem, simprocAttr, hw7, hxs_21]
  first | refine hK10 _ _ ?_ | refine ⟨sd, hK10 _ _ ?_⟩
  refine Wp.cond rfl ⟨⟩ (fun hc12 => ?_) (fun hc12 => ?_)
  · have hm := brT hm (sb hc12)
    refine Wp.seqR fun K13 hK13 => ?_
    simp only [go_sem, simprocAttr, hw7, hxs_21]
    first | refine hK13 _ _ ?_ | refine ⟨sd, hK13 _ _ ?_⟩
    refine Wp.ret ?_
    simp only [thenQ, blockQ]
    refine retQ_ret ?_
    cases hm
    simp only [go_sem, simprocAttr, hw7, hxs_21]
    try exact se2
  · have hm := brF hm (sb hc12)
    refine Wp.skip ?_
    simp only [thenQ, blockQ, ↓reduceIte]
    refine hK8 _ _ ?_
    refine Wp.region fun K14 hK14 => ?_
    simp only [go_sem, simprocAttr, hw7, hxs_21]
    first | refine hK14 _ _ ?_ | refine ⟨sd, hK14 _ _ ?_⟩
    simp only [thenQ, blockQ, ↓reduceIte]
    refine ⟨(), hlt7, hnx_18 _ hm, ?_⟩
    simp only [go_sem, simprocAttr, hw7, hxs_21]
    try exact se2
theorem ok_disk_fileFault (f_1 : api_File) (z : Int) (hm : disk_fileFault f_1 = some z) : Does Tryz.prog 114 [.agg [.p (.s f_1.Path), .p (.s f_1.Data), .p (.b f_1.Runs)]] [] (fun r X => r = .p (.i .i64 z) ∧ X = []) := by
  unfold disk_fileFault at hm
  refine Does.of_wp 0 11 [.tmp 2] Tryz.func114 rfl (by decide) rfl rfl (Nat.le_of_ble_eq_true rfl) fun B => ?_
  refine Wp.seqR fun K1 hK1 => ?_
  simp only [go_sem, simprocAttr]
  first | refine hK1 _ _ ?_ | refine ⟨sd, hK1 _ _ ?_⟩
  refine Wp.seqW fun K2 hK2 hW2 => ?_
  obtain ⟨r_2, hr_2, hm⟩ := call_elim hm
  refine Wp.seqR fun K3 hK3 => ?_
  simp only [go_sem, simprocAttr]
  try refine ⟨sd, ?_⟩
  refine Rg.callX (av := ?av4) (g := true) (fun hg => ok_ver_IsPath f_1.Path _ hr_2) si si si sg si ?cont4
  intro hv4
  simp only [go_sem, simprocAttr]
  first | refine hK3 _ _ ?_ | refine ⟨sd, hK3 _ _ ?_⟩
  refine Wp.cond rfl ⟨⟩ (fun hc5 => ?_) (fun hc5 => ?_)
  · have hm := brT hm (sb hc5)
    refine Wp.seqR fun K6 hK6 => ?_
    simp only [go_sem, simprocAttr]
    first | refine hK6 _ _ ?_ | refine ⟨sd, hK6 _ _ ?_⟩
    refine Wp.ret ?_
    simp only [thenQ, blockQ]
    refine retQ_ret ?_
    cases hm
    simp only [go_sem, simprocAttr]
    try exact se2
  · have hm := brF hm (sb hc5)
    refine Wp.skip ?_
    simp only [thenQ, blockQ, ↓reduceIte]
    refine hK2 _ _ ?_
    refine Wp.seqW fun K7 hK7 hW7 => ?_
    refine Wp.seqR fun K8 hK8 => ?_
    simp only [go_sem, simprocAttr]
    first | refine hK8 _ _ ?_ | refine ⟨sd, hK8 _ _ ?_⟩
    refine Wp.cond rfl ⟨⟩ (fun hc9 => ?_) (fun hc9 => ?_)
    · have hm := brT hm (sb hc9)
      refine Wp.seqR fun K10 hK10 => ?_
      simp only [go_sem, simprocAttr]
      first | refine hK10 _ _ ?_ | refine ⟨sd, hK10 _ _ ?_⟩
      refine Wp.ret ?_
      simp only [thenQ, blockQ]
      refine retQ_ret ?_
      cases hm
      simp only [go_sem, simprocAttr]
      try exact se2
    · have hm := brF hm (sb hc9)
      refine Wp.skip ?_
      simp only [thenQ, blockQ, ↓reduceIte]
      refine hK7 _ _ ?_
      refine Wp.seqR fun K11 hK11 => ?_
      simp only [go_sem, simprocAttr]
      first | refine hK11 _ _ ?_ | refine ⟨sd, hK11 _ _ ?_⟩
      refine Wp.ret ?_
      refine retQ_ret ?_
      cases hm
      simp only [go_sem, simprocAttr]
      try exact se2
theorem ok_disk_Check_2_i1 (dir_1 : Str) (m1_2 : List (Str × Bool)) (z : Bool) (hm : disk_Check_2_i1 dir_1 m1_2 = some z) : Does Tryz.prog 139 [.p (.s dir_1), .ptr 0 0] [.cells 133 [.mp 1], .mp false (encM Dt.s ecB m1_2)] (fun r X => r = .p (.b z) ∧ X = [.cells 133 [.mp 1], .mp false (encM Dt.s ecB m1_2)]) := by
  unfold disk_Check_2_i1 at hm
  refine Does.of_wp 2 8 [.tmp 3] Tryz.func139 rfl (by decide) rfl rfl (Nat.le_of_ble_eq_true rfl) fun B => ?_
  refine Wp.seqR fun K1 hK1 => ?_
  simp only [go_sem, simprocAttr]
  first | refine hK1 _ _ ?_ | refine ⟨sd, hK1 _ _ ?_⟩
  obtain ⟨q_5, hq_6, hm⟩ := letv_elim hm
  have hq_6d := mlookD_enc (e := ecB) keq_s m1_2 dir_1 false
  have hq_6s := mlook_some (e := ecB) keq_s m1_2 dir_1
  simp only [hq_6, ecB, List.map_nil] at hq_6d hq_6s
  refine Wp.seqR fun K2 hK2 => ?_
  simp only [go_sem, simprocAttr, hq_6d, hq_6s]
  first | refine hK2 _ _ ?_ | refine ⟨sd, hK2 _ _ ?_⟩
  refine Wp.ret ?_
  refine retQ_ret ?_
  cases hm
  simp only [go_sem, simprocAttr]
  try exact se2
end Go.Proofs.YtbfemlilfeahkaaGreatDoor
