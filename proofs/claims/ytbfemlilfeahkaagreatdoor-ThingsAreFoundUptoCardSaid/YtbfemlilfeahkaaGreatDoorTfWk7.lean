/- That the code does what the models say (part 7). -/
import Derived.Test.YtbfemlilfeahkaaGreatDoorTfWk0
import Derived.Test.YtbfemlilfeahkaaGreatDoorTfWk1
import Derived.Test.YtbfemlilfeahkaaGreatDoorTfWk6
set_option linter.unusedSimpArgs false
set_option linter.unusedVariables false
open Go.Proofs Go.Shelf
namespace Go.Proofs.YtbfemlilfeahkaaGreatDoor
open Go.Vc Go.Md
set_option maxRecDepth 100000
set_option maxHeartbeats 4000000
theorem ok_disk_above_i1 (path_1 : Str) (m1_2 : List (Str × Bool)) (z : Bool) (hm : disk_above_i1 path_1 m1_2 = some z) : Does Tryz.prog 138 [.p (.s path_1), .fn 139 [.ptr 0 0]] [.cells 133 [.mp 1], .mp false (encM Dt.s ecB m1_2)] (fun r X => r = .p (.b z) ∧ X = [.cells 133 [.mp 1], .mp false (encM Dt.s ecB m1_2)]) := by
  unfold disk_above_i1 at hm
  refine Does.of_wp 2 24 [.tmp 4] Tryz.func138 rfl (by decide) rfl rfl (Nat.le_of_ble_eq_true rfl) fun B => ?_
  refine Wp.seqR fun K1 hK1 => ?_
  simp only [go_sem, simprocAttr]
  first | refine hK1 _ _ ?_ | refine ⟨sd, hK1 _ _ ?_⟩
  refine Wp.seqW fun K2 hK2 hW2 => ?_
  obtain ⟨k_37, hk_37, hm⟩ := jp_elim hm
  have hcut2 : ∀ s, k_37 s = some z → K2 [] [.cells 133 [.mp 1], .mp false (encM Dt.s ecB m1_2)] := by
    intro s hs
    have hm := hk_37 _ hs
    clear hs
    try dsimp only at hm
    try dsimp only
    refine hK2 _ _ ?_
    refine Wp.seqR fun K3 hK3 => ?_
    simp only [go_sem, simprocAttr]
    first | refine hK3 _ _ ?_ | refine ⟨sd, hK3 _ _ ?_⟩
    refine Wp.ret ?_
    refine retQ_ret ?_
    cases hm
    simp only [go_sem, simprocAttr]
    try exact se2
  clear hK2 hk_37
  refine Wp.seqR fun K4 hK4 => ?_
  simp only [go_sem, simprocAttr]
  first | refine hK4 _ _ ?_ | refine ⟨sd, hK4 _ _ ?_⟩
  refine Wp.block ?_
  obtain ⟨k_42, hk_42, hm⟩ := forL_cont hm
  refine Wp.fact 0 fun hl_45 => ?_
  replace hl_45 : path_1.length ≤ 274877906944 := by
    simp only [go_sem, simprocAttr, List.length_map] at hl_45
    omega
  refine Wp.forL (fun i_44 s => [(0, .p (.s path_1)), (1, .fn 139 [.ptr 0 0]), (5, .p (.i .i64 (i_44 : Int)))]) (fun i_44 s => [.cells 133 [.mp 1], .mp false (encM Dt.s ecB m1_2)]) ?_ hm ?_
  ·
    simp only [go_sem, simprocAttr]
    try exact se2
  clear hm
  intro i_44 s hii_44 hm
  try dsimp only at hm
  try dsimp only
  refine Wp.seqW fun K5 hK5 hW5 => ?_
  refine Wp.seqR fun K6 hK6 => ?_
  simp only [go_sem, simprocAttr]
  first | refine hK6 _ _ ?_ | refine ⟨sd, hK6 _ _ ?_⟩
  refine Wp.cond rfl ⟨⟩ (fun hc5 => ?_) (fun hc5 => ?_)
  rotate_left
  · refine Wp.exit ?_
    have hm := hk_42 _ (forL_end hm (ge_nat (by first | exact hc5 | simpa using hc5)))
    try dsimp only at hm
    simp only [thenQ, blockQ, ↓reduceIte]
    refine hW2 _ _ _ _ ?_ (hcut2 () hm)
    simp only [go_sem, simprocAttr]
    try exact se2
  have hlt5 := lt_nat (by first | exact hc5 | simpa using hc5)
  have hw5 := wrap_succ hlt5 hl_45
  obtain ⟨c_46, nx_43, hxc_46, hyc_46, hnx_43, hm⟩ := forL_step hm hlt5
  clear hxc_46
  refine Wp.skip ?_
  simp only [thenQ]
  refine hK5 _ _ ?_
  refine Wp.seqW fun K7 hK7 hW7 => ?_
  refine Wp.block ?_
  obtain ⟨c_47, hm⟩ := chk_elim hm
  obtain ⟨r_48, hr_48, hm⟩ := callG_elim hm
  refine Wp.seqR fun K8 hK8 => ?_
  simp only [go_sem, simprocAttr, hw5, hyc_46]
  try refine ⟨by first | exact sd | ((repeat' apply And.intro) <;> first | assumption | omega | (simp only [List.length_append, List.length_map, List.length_cons, List.length_nil, List.length_set, List.length_replicate] at c_47 ⊢; omega)), ?_⟩
  refine Rg.callR (av := ?av9) (g := decide ((c_46.toNat : Int) = 47)) [0, 1] (fun hg => ok_disk_Check_2_i1 (List.take i_44 path_1) m1_2 _ (hr_48 hg)) (by simp only [go_sem, simprocAttr, hw5, hyc_46]; exact Is.mk) (by simp only [go_sem, simprocAttr, hw5, hyc_46]; exact Is.mk) (by simp only [go_sem, simprocAttr, hw5, hyc_46]; exact Is.mk) (by simp only [go_sem, simprocAttr, hw5, hyc_46]; exact Is.mk) (by simp only [go_sem, simprocAttr, hw5, hyc_46]) (by simp only [go_sem, simprocAttr, hw5, hyc_46]) (by simp only [go_sem, simprocAttr, hw5, hyc_46]) ?cont9
  simp only [go_sem, simprocAttr, hw5, hyc_46]
  first | refine hK8 _ _ ?_ | refine ⟨by first | exact sd | ((repeat' apply And.intro) <;> first | assumption | omega | (simp only [List.length_append, List.length_map, List.length_cons, List.length_nil, List.length_set, List.length_replicate] at c_47 ⊢; omega)), hK8 _ _ ?_⟩
  refine Wp.cond rfl ⟨⟩ (fun hc10 => ?_) (fun hc10 => ?_)
  · have hm := brT hm (sb hc10)
    refine Wp.seqR fun K11 hK11 => ?_
    simp only [go_sem, simprocAttr, hw5, hyc_46]
    first | refine hK11 _ _ ?_ | refine ⟨sd, hK11 _ _ ?_⟩
    refine Wp.ret ?_
    simp only [thenQ, blockQ]
    refine retQ_ret ?_
    cases hm
    simp only [go_sem, simprocAttr, hw5, hyc_46]
    try exact se2
  · have hm := brF hm (sb hc10)
    refine Wp.skip ?_
    simp only [thenQ, blockQ, ↓reduceIte]
    refine hK7 _ _ ?_
    refine Wp.region fun K12 hK12 => ?_
    simp only [go_sem, simprocAttr, hw5, hyc_46]
    first | refine hK12 _ _ ?_ | refine ⟨sd, hK12 _ _ ?_⟩
    simp only [thenQ, blockQ, ↓reduceIte]
    refine ⟨(), hlt5, hnx_43 _ hm, ?_⟩
    simp only [go_sem, simprocAttr, hw5, hyc_46]
    try exact se2
theorem ok_disk_settingFault_i2 (s_1 : api_Setting) (z : Int) (hm : disk_settingFault_i2 s_1 = some z) : Does Tryz.prog 115 [.agg [.p (.s s_1.Key), .p (.s s_1.Value)], .fn 79 []] [] (fun r X => r = .p (.i .i64 z) ∧ X = []) := by
  unfold disk_settingFault_i2 at hm
  refine Does.of_wp 0 14 [.tmp 4] Tryz.func115 rfl (by decide) rfl rfl (Nat.le_of_ble_eq_true rfl) fun B => ?_
  refine Wp.seqR fun K1 hK1 => ?_
  simp only [go_sem, simprocAttr]
  first | refine hK1 _ _ ?_ | refine ⟨sd, hK1 _ _ ?_⟩
  refine Wp.seqW fun K2 hK2 hW2 => ?_
  obtain ⟨r_2, hr_2, hm⟩ := call_elim hm
  refine Wp.seqR fun K3 hK3 => ?_
  simp only [go_sem, simprocAttr]
  try refine ⟨sd, ?_⟩
  refine Rg.callX (av := ?av4) (g := true) (fun hg => ok_ver_IsPath s_1.Key _ hr_2) si si si sg si ?cont4
  intro hv4
  simp only [go_sem, simprocAttr]
  first | refine hK3 _ _ ?_ | refine ⟨sd, hK3 _ _ ?_⟩
  refine Wp.cond rfl ⟨⟩ (fun hc5 => ?_) (fun hc5 => ?_)
  · have hm := brT hm (sb hc5)
    refine Wp.seqR fun K6 hK6 => ?_
    simp only [go_sem, simprocAttr]
    first | refine hK6 _ _ ?_ | refine ⟨sd, hK6 _ _ ?_⟩
    refine Wp.ret ?_
    simp only [thenQ, blockQ]
    refine retQ_ret ?_
    cases hm
    simp only [go_sem, simprocAttr]
    try exact se2
  · have hm := brF hm (sb hc5)
    refine Wp.skip ?_
    simp only [thenQ, blockQ, ↓reduceIte]
    refine hK2 _ _ ?_
    refine Wp.seqW fun K7 hK7 hW7 => ?_
    obtain ⟨r_3, hr_3, hm⟩ := call_elim hm
    refine Wp.seqR fun K8 hK8 => ?_
    simp only [go_sem, simprocAttr]
    try refine ⟨sd, ?_⟩
    refine Rg.callX (av := ?av9) (g := true) (fun hg => ok_ver_IsValue s_1.Value _ hr_3) si si si sg si ?cont9
    intro hv9
    simp only [go_sem, simprocAttr]
    first | refine hK8 _ _ ?_ | refine ⟨sd, hK8 _ _ ?_⟩
    refine Wp.cond rfl ⟨⟩ (fun hc10 => ?_) (fun hc10 => ?_)
    · have hm := brT hm (sb hc10)
      refine Wp.seqR fun K11 hK11 => ?_
      simp only [go_sem, simprocAttr]
      first | refine hK11 _ _ ?_ | refine ⟨sd, hK11 _ _ ?_⟩
      refine Wp.ret ?_
      simp only [thenQ, blockQ]
      refine retQ_ret ?_
      cases hm
      simp only [go_sem, simprocAttr]
      try exact se2
    · have hm := brF hm (sb hc10)
      refine Wp.skip ?_
      simp only [thenQ, blockQ, ↓reduceIte]
      refine hK7 _ _ ?_
      refine Wp.seqR fun K12 hK12 => ?_
      simp only [go_sem, simprocAttr]
      first | refine hK12 _ _ ?_ | refine ⟨sd, hK12 _ _ ?_⟩
      refine Wp.ret ?_
      refine retQ_ret ?_
      cases hm
      simp only [go_sem, simprocAttr]
      try exact se2
theorem ok_disk_Check_3 (s_1 : api_Setting) (z : Int) (hm : disk_Check_3 s_1 = some z) : Does Tryz.prog 140 [.agg [.p (.s s_1.Key), .p (.s s_1.Value)]] [] (fun r X => r = .p (.i .i64 z) ∧ X = []) := by
  unfold disk_Check_3 at hm
  refine Does.of_wp 0 5 [.tmp 2] Tryz.func140 rfl (by decide) rfl rfl (Nat.le_of_ble_eq_true rfl) fun B => ?_
  refine Wp.seqR fun K1 hK1 => ?_
  simp only [go_sem, simprocAttr]
  first | refine hK1 _ _ ?_ | refine ⟨sd, hK1 _ _ ?_⟩
  obtain ⟨r_2, hr_2, hm⟩ := call_elim hm
  refine Wp.seqR fun K2 hK2 => ?_
  simp only [go_sem, simprocAttr]
  try refine ⟨sd, ?_⟩
  refine Rg.callX (av := ?av3) (g := true) (fun hg => ok_disk_settingFault_i2 s_1 _ hr_2) si si si sg si ?cont3
  intro hv3
  simp only [go_sem, simprocAttr]
  first | refine hK2 _ _ ?_ | refine ⟨sd, hK2 _ _ ?_⟩
  refine Wp.ret ?_
  refine retQ_ret ?_
  cases hm
  simp only [go_sem, simprocAttr]
  try exact se2
theorem ok_disk_eachFault_api_Setting_i2 (l_1 : List api_Setting) (z : Int) (hm : disk_eachFault_api_Setting_i2 l_1 = some z) : Does Tryz.prog 136 [.p (.l (List.map enc_api_Setting l_1)), .fn 140 [], .fn 77 []] [] (fun r X => r = .p (.i .i64 z) ∧ X = []) := by
  unfold disk_eachFault_api_Setting_i2 at hm
  refine Does.of_wp 0 39 [.tmp 6] Tryz.func136 rfl (by decide) rfl rfl (Nat.le_of_ble_eq_true rfl) fun B => ?_
  refine Wp.seqR fun K1 hK1 => ?_
  simp only [go_sem, simprocAttr]
  first | refine hK1 _ _ ?_ | refine ⟨sd, hK1 _ _ ?_⟩
  refine Wp.seqW fun K2 hK2 hW2 => ?_
  obtain ⟨k_19, hk_19, hm⟩ := jp_elim hm
  have hcut2 : ∀ s, k_19 s = some z → K2 [] [] := by
    intro s hs
    have hm := hk_19 _ hs
    clear hs
    try dsimp only at hm
    try dsimp only
    refine hK2 _ _ ?_
    refine Wp.seqR fun K3 hK3 => ?_
    simp only [go_sem, simprocAttr]
    first | refine hK3 _ _ ?_ | refine ⟨sd, hK3 _ _ ?_⟩
    refine Wp.ret ?_
    refine retQ_ret ?_
    cases hm
    simp only [go_sem, simprocAttr]
    try exact se2
  clear hK2 hk_19
  refine Wp.seqR fun K4 hK4 => ?_
  simp only [go_sem, simprocAttr]
  first | refine hK4 _ _ ?_ | refine ⟨sd, hK4 _ _ ?_⟩
  refine Wp.block ?_
  obtain ⟨k_27, hk_27, hm⟩ := forL_cont hm
  refine Wp.fact 0 fun hl_30 => ?_
  replace hl_30 : l_1.length ≤ 274877906944 := by
    simp only [go_sem, simprocAttr, List.length_map] at hl_30
    omega
  refine Wp.forL (fun i_29 s => [(0, .p (.l (List.map enc_api_Setting l_1))), (1, .fn 140 []), (2, .fn 77 []), (10, .p (.l (List.map enc_api_Setting l_1))), (11, .p (.i .i64 (l_1.length : Int))), (12, .p (.i .i64 (i_29 : Int)))]) (fun i_29 s => []) ?_ hm ?_
  ·
    simp only [go_sem, simprocAttr]
    try exact se2
  clear hm
  intro i_29 s hii_29 hm
  try dsimp only at hm
  try dsimp only
  refine Wp.seqR fun K5 hK5 => ?_
  simp only [go_sem, simprocAttr]
  first | refine hK5 _ _ ?_ | refine ⟨sd, hK5 _ _ ?_⟩
  refine Wp.seqW fun K6 hK6 hW6 => ?_
  refine Wp.cond rfl ⟨⟩ (fun hc6 => ?_) (fun hc6 => ?_)
  rotate_left
  · refine Wp.exit ?_
    have hm := hk_27 _ (forL_end hm (ge_nat (by first | exact hc6 | simpa using hc6)))
    try dsimp only at hm
    simp only [thenQ, blockQ, ↓reduceIte]
    refine hW2 _ _ _ _ ?_ (hcut2 () hm)
    simp only [go_sem, simprocAttr]
    try exact se2
  have hlt6 := lt_nat (by first | exact hc6 | simpa using hc6)
  have hw6 := wrap_succ hlt6 hl_30
  obtain ⟨s_31, nx_28, hxs_31, hys_31, hnx_28, hm⟩ := forL_step hm hlt6
  replace hxs_31 := hxs_31 enc_api_Setting
  refine Wp.skip ?_
  simp only [thenQ]
  refine hK6 _ _ ?_
  refine Wp.seqW fun K7 hK7 hW7 => ?_
  refine Wp.block ?_
  refine Wp.seqR fun K8 hK8 => ?_
  simp only [go_sem, simprocAttr, hw6, hxs_31]
  first | refine hK8 _ _ ?_ | refine ⟨sd, hK8 _ _ ?_⟩
  refine Wp.seqW fun K9 hK9 hW9 => ?_
  obtain ⟨r_32, hr_32, hm⟩ := call_elim hm
  refine Wp.seqR fun K10 hK10 => ?_
  simp only [go_sem, simprocAttr, hw6, hxs_31]
  try refine ⟨sd, ?_⟩
  refine Rg.callX (av := ?av11) (g := true) (fun hg => ok_disk_Check_3 s_31 _ hr_32) (by simp only [go_sem, simprocAttr, hw6, hxs_31]; exact Is.mk) (by simp only [go_sem, simprocAttr, hw6, hxs_31]; exact Is.mk) (by simp only [go_sem, simprocAttr, hw6, hxs_31]; exact Is.mk) (by simp only [go_sem, simprocAttr, hw6, hxs_31]) (by simp only [go_sem, simprocAttr, hw6, hxs_31]; exact Is.mk) ?cont11
  intro hv11
  simp only [go_sem, simprocAttr, hw6, hxs_31]
  first | refine hK10 _ _ ?_ | refine ⟨sd, hK10 _ _ ?_⟩
  refine Wp.seqR fun K12 hK12 => ?_
  simp only [go_sem, simprocAttr, hw6, hxs_31]
  first | refine hK12 _ _ ?_ | refine ⟨sd, hK12 _ _ ?_⟩
  refine Wp.cond rfl ⟨⟩ (fun hc13 => ?_) (fun hc13 => ?_)
  · have hm := brT hm (sb hc13)
    refine Wp.seqR fun K14 hK14 => ?_
    simp only [go_sem, simprocAttr, hw6, hxs_31]
    first | refine hK14 _ _ ?_ | refine ⟨sd, hK14 _ _ ?_⟩
    refine Wp.ret ?_
    simp only [thenQ, blockQ]
    refine retQ_ret ?_
    cases hm
    simp only [go_sem, simprocAttr, hw6, hxs_31]
    try exact se2
  · have hm := brF hm (sb hc13)
    refine Wp.skip ?_
    simp only [thenQ, blockQ, ↓reduceIte]
    refine hK9 _ _ ?_
    obtain ⟨r_33, hr_33, hm⟩ := callG_elim hm
    obtain ⟨c_34, hm⟩ := chk_elim hm
    obtain ⟨r_35, hr_35, hm⟩ := callG_elim hm
    have hr_36 := getD_enc (l := l_1) (e := enc_api_Setting) (d := (api_Setting.mk [] [])) (i := (IntKind.i64.wrap ((i_29 : Int) - 1)).toNat)
    simp only [enc_api_Setting, List.map_nil] at hr_36
    refine Wp.seqD (plan := [(0, none), (1, none), (2, none), (3, none), (4, none), (5, none), (6, none), (7, none), (8, none), (9, none), (10, none), (11, none), (12, none), (13, none), (14, none)]) (by kernel_rfl) rfl (by kernel_rfl) fun K15 hK15 => ?_
    simp only [go_sem, simprocAttr, hw6, hxs_31, hr_36]
    try refine ⟨by first | exact sd | ((repeat' apply And.intro) <;> first | assumption | omega | (simp only [List.length_append, List.length_map, List.length_cons, List.length_nil, List.length_set, List.length_replicate] at c_34 ⊢; omega)), ?_⟩
    refine Dr.callF (av := ?av16) (g := decide (0 < (i_29 : Int))) (o := ?o16) (fun hg => ok_disk_keyOf s_31 _ (hr_33 hg)) (by simp only [go_sem, simprocAttr, hw6, hxs_31, hr_36]; exact Is.mk) (by simp only [go_sem, simprocAttr, hw6, hxs_31, hr_36]; exact Is.mk) (by simp only [go_sem, simprocAttr, hw6, hxs_31, hr_36]; exact Is.mk) (by simp only [go_sem, simprocAttr, hw6, hxs_31, hr_36]; exact Is.mk) (by simp only [go_sem, simprocAttr, hw6, hxs_31, hr_36]) (by simp only [go_sem, simprocAttr, hw6, hxs_31, hr_36]; exact Is.mk) ?cont16
    simp only [go_sem, simprocAttr, hw6, hxs_31, hr_36]
    try refine ⟨by first | exact sd | ((repeat' apply And.intro) <;> first | assumption | omega | (simp only [List.length_append, List.length_map, List.length_cons, List.length_nil, List.length_set, List.length_replicate] at c_34 ⊢; omega)), ?_⟩
    refine Dr.callF (av := ?av17) (g := decide (0 < (i_29 : Int))) (o := ?o17) (fun hg => ok_disk_keyOf (api_Setting.mk ((l_1.getD ((IntKind.i64.wrap ((i_29 : Int) - 1)).toNat) (api_Setting.mk [] [])).Key) ((l_1.getD ((IntKind.i64.wrap ((i_29 : Int) - 1)).toNat) (api_Setting.mk [] [])).Value)) _ (hr_35 hg)) (by simp only [go_sem, simprocAttr, hw6, hxs_31, hr_36]; exact Is.mk) (by simp only [go_sem, simprocAttr, hw6, hxs_31, hr_36]; exact Is.mk) (by simp only [go_sem, simprocAttr, hw6, hxs_31, hr_36]; exact Is.mk) (by simp only [go_sem, simprocAttr, hw6, hxs_31, hr_36]; exact Is.mk) (by simp only [go_sem, simprocAttr, hw6, hxs_31, hr_36]) (by simp only [go_sem, simprocAttr, hw6, hxs_31, hr_36]; exact Is.mk) ?cont17
    simp only [go_sem, simprocAttr, hw6, hxs_31, hr_36]
    first | refine hK15 _ _ ?_ | refine ⟨by first | exact sd | ((repeat' apply And.intro) <;> first | assumption | omega | (simp only [List.length_append, List.length_map, List.length_cons, List.length_nil, List.length_set, List.length_replicate] at c_34 ⊢; omega)), hK15 _ _ ?_⟩
    refine Wp.cond rfl ⟨⟩ (fun hc18 => ?_) (fun hc18 => ?_)
    · have hm := brT hm (sb hc18)
      refine Wp.seqR fun K19 hK19 => ?_
      simp only [go_sem, simprocAttr, hw6, hxs_31]
      first | refine hK19 _ _ ?_ | refine ⟨sd, hK19 _ _ ?_⟩
      refine Wp.ret ?_
      simp only [thenQ, blockQ]
      refine retQ_ret ?_
      cases hm
      simp only [go_sem, simprocAttr, hw6, hxs_31]
      try exact se2
    · have hm := brF hm (sb hc18)
      refine Wp.skip ?_
      simp only [thenQ, blockQ, ↓reduceIte]
      refine hK7 _ _ ?_
      refine Wp.region fun K20 hK20 => ?_
      simp only [go_sem, simprocAttr, hw6, hxs_31]
      first | refine hK20 _ _ ?_ | refine ⟨sd, hK20 _ _ ?_⟩
      simp only [thenQ, blockQ, ↓reduceIte]
      refine ⟨(), hlt6, hnx_28 _ hm, ?_⟩
      simp only [go_sem, simprocAttr, hw6, hxs_31]
      try exact se2
theorem ok_disk_serviceFault (s_1 : api_Service) (z : Int) (hm : disk_serviceFault s_1 = some z) : Does Tryz.prog 116 [.agg [.p (.s s_1.Name), .p (.s s_1.Path), .p (.b s_1.Auto), .p (.b s_1.On)]] [] (fun r X => r = .p (.i .i64 z) ∧ X = []) := by
  unfold disk_serviceFault at hm
  refine Does.of_wp 0 13 [.tmp 2] Tryz.func116 rfl (by decide) rfl rfl (Nat.le_of_ble_eq_true rfl) fun B => ?_
  refine Wp.seqR fun K1 hK1 => ?_
  simp only [go_sem, simprocAttr]
  first | refine hK1 _ _ ?_ | refine ⟨sd, hK1 _ _ ?_⟩
  refine Wp.seqW fun K2 hK2 hW2 => ?_
  obtain ⟨r_2, hr_2, hm⟩ := call_elim hm
  obtain ⟨r_3, hr_3, hm⟩ := callG_elim hm
  refine Wp.seqR fun K3 hK3 => ?_
  simp only [go_sem, simprocAttr]
  try refine ⟨sd, ?_⟩
  refine Rg.callX (av := ?av4) (g := true) (fun hg => ok_ver_IsName s_1.Name _ hr_2) si si si sg si ?cont4
  intro hv4
  simp only [go_sem, simprocAttr]
  try refine ⟨sd, ?_⟩
  refine Rg.callX (av := ?av5) (g := !(!r_2)) (fun hg => ok_ver_IsPath s_1.Path _ (hr_3 hg)) si si si sg si ?cont5
  intro hv5
  simp only [go_sem, simprocAttr]
  first | refine hK3 _ _ ?_ | refine ⟨sd, hK3 _ _ ?_⟩
  refine Wp.cond rfl ⟨⟩ (fun hc6 => ?_) (fun hc6 => ?_)
  · have hm := brT hm (sb hc6)
    refine Wp.seqR fun K7 hK7 => ?_
    simp only [go_sem, simprocAttr]
    first | refine hK7 _ _ ?_ | refine ⟨sd, hK7 _ _ ?_⟩
    refine Wp.ret ?_
    simp only [thenQ, blockQ]
    refine retQ_ret ?_
    cases hm
    simp only [go_sem, simprocAttr]
    try exact se2
  · have hm := brF hm (sb hc6)
    refine Wp.skip ?_
    simp only [thenQ, blockQ, ↓reduceIte]
    refine hK2 _ _ ?_
    refine Wp.seqR fun K8 hK8 => ?_
    simp only [go_sem, simprocAttr]
    first | refine hK8 _ _ ?_ | refine ⟨sd, hK8 _ _ ?_⟩
    refine Wp.ret ?_
    refine retQ_ret ?_
    cases hm
    simp only [go_sem, simprocAttr]
    try exact se2
theorem ok_disk_nameOf (s_1 : api_Service) (z : Str) (hm : disk_nameOf s_1 = some z) : Does Tryz.prog 84 [.agg [.p (.s s_1.Name), .p (.s s_1.Path), .p (.b s_1.Auto), .p (.b s_1.On)]] [] (fun r X => r = .p (.s z) ∧ X = []) := by
  unfold disk_nameOf at hm
  refine Does.of_wp 0 5 [.tmp 2] Tryz.func84 rfl (by decide) rfl rfl (Nat.le_of_ble_eq_true rfl) fun B => ?_
  refine Wp.seqR fun K1 hK1 => ?_
  simp only [go_sem, simprocAttr]
  first | refine hK1 _ _ ?_ | refine ⟨sd, hK1 _ _ ?_⟩
  refine Wp.seqR fun K2 hK2 => ?_
  simp only [go_sem, simprocAttr]
  first | refine hK2 _ _ ?_ | refine ⟨sd, hK2 _ _ ?_⟩
  refine Wp.ret ?_
  refine retQ_ret ?_
  cases hm
  simp only [go_sem, simprocAttr]
  try exact se2
theorem ok_disk_eachFault_api_Service_i1 (l_1 : List api_Service) (z : Int) (hm : disk_eachFault_api_Service_i1 l_1 = some z) : Does Tryz.prog 141 [.p (.l (List.map enc_api_Service l_1)), .fn 116 [], .fn 84 []] [] (fun r X => r = .p (.i .i64 z) ∧ X = []) := by
  unfold disk_eachFault_api_Service_i1 at hm
  refine Does.of_wp 0 39 [.tmp 6] Tryz.func141 rfl (by decide) rfl rfl (Nat.le_of_ble_eq_true rfl) fun B => ?_
  refine Wp.seqR fun K1 hK1 => ?_
  simp only [go_sem, simprocAttr]
  first | refine hK1 _ _ ?_ | refine ⟨sd, hK1 _ _ ?_⟩
  refine Wp.seqW fun K2 hK2 hW2 => ?_
  obtain ⟨k_19, hk_19, hm⟩ := jp_elim hm
  have hcut2 : ∀ s, k_19 s = some z → K2 [] [] := by
    intro s hs
    have hm := hk_19 _ hs
    clear hs
    try dsimp only at hm
    try dsimp only
    refine hK2 _ _ ?_
    refine Wp.seqR fun K3 hK3 => ?_
    simp only [go_sem, simprocAttr]
    first | refine hK3 _ _ ?_ | refine ⟨sd, hK3 _ _ ?_⟩
    refine Wp.ret ?_
    refine retQ_ret ?_
    cases hm
    simp only [go_sem, simprocAttr]
    try exact se2
  clear hK2 hk_19
  refine Wp.seqR fun K4 hK4 => ?_
  simp only [go_sem, simprocAttr]
  first | refine hK4 _ _ ?_ | refine ⟨sd, hK4 _ _ ?_⟩
  refine Wp.block ?_
  obtain ⟨k_27, hk_27, hm⟩ := forL_cont hm
  refine Wp.fact 0 fun hl_30 => ?_
  replace hl_30 : l_1.length ≤ 274877906944 := by
    simp only [go_sem, simprocAttr, List.length_map] at hl_30
    omega
  refine Wp.forL (fun i_29 s => [(0, .p (.l (List.map enc_api_Service l_1))), (1, .fn 116 []), (2, .fn 84 []), (10, .p (.l (List.map enc_api_Service l_1))), (11, .p (.i .i64 (l_1.length : Int))), (12, .p (.i .i64 (i_29 : Int)))]) (fun i_29 s => []) ?_ hm ?_
  ·
    simp only [go_sem, simprocAttr]
    try exact se2
  clear hm
  intro i_29 s hii_29 hm
  try dsimp only at hm
  try dsimp only
  refine Wp.seqR fun K5 hK5 => ?_
  simp only [go_sem, simprocAttr]
  first | refine hK5 _ _ ?_ | refine ⟨sd, hK5 _ _ ?_⟩
  refine Wp.seqW fun K6 hK6 hW6 => ?_
  refine Wp.cond rfl ⟨⟩ (fun hc6 => ?_) (fun hc6 => ?_)
  rotate_left
  · refine Wp.exit ?_
    have hm := hk_27 _ (forL_end hm (ge_nat (by first | exact hc6 | simpa using hc6)))
    try dsimp only at hm
    simp only [thenQ, blockQ, ↓reduceIte]
    refine hW2 _ _ _ _ ?_ (hcut2 () hm)
    simp only [go_sem, simprocAttr]
    try exact se2
  have hlt6 := lt_nat (by first | exact hc6 | simpa using hc6)
  have hw6 := wrap_succ hlt6 hl_30
  obtain ⟨s_31, nx_28, hxs_31, hys_31, hnx_28, hm⟩ := forL_step hm hlt6
  replace hxs_31 := hxs_31 enc_api_Service
  refine Wp.skip ?_
  simp only [thenQ]
  refine hK6 _ _ ?_
  refine Wp.seqW fun K7 hK7 hW7 => ?_
  refine Wp.block ?_
  refine Wp.seqR fun K8 hK8 => ?_
  simp only [go_sem, simprocAttr, hw6, hxs_31]
  first | refine hK8 _ _ ?_ | refine ⟨sd, hK8 _ _ ?_⟩
  refine Wp.seqW fun K9 hK9 hW9 => ?_
  obtain ⟨r_32, hr_32, hm⟩ := call_elim hm
  refine Wp.seqR fun K10 hK10 => ?_
  simp only [go_sem, simprocAttr, hw6, hxs_31]
  try refine ⟨sd, ?_⟩
  refine Rg.callX (av := ?av11) (g := true) (fun hg => ok_disk_serviceFault s_31 _ hr_32) (by simp only [go_sem, simprocAttr, hw6, hxs_31]; exact Is.mk) (by simp only [go_sem, simprocAttr, hw6, hxs_31]; exact Is.mk) (by simp only [go_sem, simprocAttr, hw6, hxs_31]; exact Is.mk) (by simp only [go_sem, simprocAttr, hw6, hxs_31]) (by simp only [go_sem, simprocAttr, hw6, hxs_31]; exact Is.mk) ?cont11
  intro hv11
  simp only [go_sem, simprocAttr, hw6, hxs_31]
  first | refine hK10 _ _ ?_ | refine ⟨sd, hK10 _ _ ?_⟩
  refine Wp.seqR fun K12 hK12 => ?_
  simp only [go_sem, simprocAttr, hw6, hxs_31]
  first | refine hK12 _ _ ?_ | refine ⟨sd, hK12 _ _ ?_⟩
  refine Wp.cond rfl ⟨⟩ (fun hc13 => ?_) (fun hc13 => ?_)
  · have hm := brT hm (sb hc13)
    refine Wp.seqR fun K14 hK14 => ?_
    simp only [go_sem, simprocAttr, hw6, hxs_31]
    first | refine hK14 _ _ ?_ | refine ⟨sd, hK14 _ _ ?_⟩
    refine Wp.ret ?_
    simp only [thenQ, blockQ]
    refine retQ_ret ?_
    cases hm
    simp only [go_sem, simprocAttr, hw6, hxs_31]
    try exact se2
  · have hm := brF hm (sb hc13)
    refine Wp.skip ?_
    simp only [thenQ, blockQ, ↓reduceIte]
    refine hK9 _ _ ?_
    obtain ⟨r_33, hr_33, hm⟩ := callG_elim hm
    obtain ⟨c_34, hm⟩ := chk_elim hm
    obtain ⟨r_35, hr_35, hm⟩ := callG_elim hm
    have hr_36 := getD_enc (l := l_1) (e := enc_api_Service) (d := (api_Service.mk [] [] false false)) (i := (IntKind.i64.wrap ((i_29 : Int) - 1)).toNat)
    simp only [enc_api_Service, List.map_nil] at hr_36
    refine Wp.seqD (plan := [(0, none), (1, none), (2, none), (3, none), (4, none), (5, none), (6, none), (7, none), (8, none), (9, none), (10, none), (11, none), (12, none), (13, none), (14, none)]) (by kernel_rfl) rfl (by kernel_rfl) fun K15 hK15 => ?_
    simp only [go_sem, simprocAttr, hw6, hxs_31, hr_36]
    try refine ⟨by first | exact sd | ((repeat' apply And.intro) <;> first | assumption | omega | (simp only [List.length_append, List.length_map, List.length_cons, List.length_nil, List.length_set, List.length_replicate] at c_34 ⊢; omega)), ?_⟩
    refine Dr.callF (av := ?av16) (g := decide (0 < (i_29 : Int))) (o := ?o16) (fun hg => ok_disk_nameOf s_31 _ (hr_33 hg)) (by simp only [go_sem, simprocAttr, hw6, hxs_31, hr_36]; exact Is.mk) (by simp only [go_sem, simprocAttr, hw6, hxs_31, hr_36]; exact Is.mk) (by simp only [go_sem, simprocAttr, hw6, hxs_31, hr_36]; exact Is.mk) (by simp only [go_sem, simprocAttr, hw6, hxs_31, hr_36]; exact Is.mk) (by simp only [go_sem, simprocAttr, hw6, hxs_31, hr_36]) (by simp only [go_sem, simprocAttr, hw6, hxs_31, hr_36]; exact Is.mk) ?cont16
    simp only [go_sem, simprocAttr, hw6, hxs_31, hr_36]
    try refine ⟨by first | exact sd | ((repeat' apply And.intro) <;> first | assumption | omega | (simp only [List.length_append, List.length_map, List.length_cons, List.length_nil, List.length_set, List.length_replicate] at c_34 ⊢; omega)), ?_⟩
    refine Dr.callF (av := ?av17) (g := decide (0 < (i_29 : Int))) (o := ?o17) (fun hg => ok_disk_nameOf (api_Service.mk ((l_1.getD ((IntKind.i64.wrap ((i_29 : Int) - 1)).toNat) (api_Service.mk [] [] false false)).Name) ((l_1.getD ((IntKind.i64.wrap ((i_29 : Int) - 1)).toNat) (api_Service.mk [] [] false false)).Path) ((l_1.getD ((IntKind.i64.wrap ((i_29 : Int) - 1)).toNat) (api_Service.mk [] [] false false)).Auto) ((l_1.getD ((IntKind.i64.wrap ((i_29 : Int) - 1)).toNat) (api_Service.mk [] [] false false)).On)) _ (hr_35 hg)) (by simp only [go_sem, simprocAttr, hw6, hxs_31, hr_36]; exact Is.mk) (by simp only [go_sem, simprocAttr, hw6, hxs_31, hr_36]; exact Is.mk) (by simp only [go_sem, simprocAttr, hw6, hxs_31, hr_36]; exact Is.mk) (by simp only [go_sem, simprocAttr, hw6, hxs_31, hr_36]; exact Is.mk) (by simp only [go_sem, simprocAttr, hw6, hxs_31, hr_36]) (by simp only [go_sem, simprocAttr, hw6, hxs_31, hr_36]; exact Is.mk) ?cont17
    simp only [go_sem, simprocAttr, hw6, hxs_31, hr_36]
    first | refine hK15 _ _ ?_ | refine ⟨by first | exact sd | ((repeat' apply And.intro) <;> first | assumption | omega | (simp only [List.length_append, List.length_map, List.length_cons, List.length_nil, List.length_set, List.length_replicate] at c_34 ⊢; omega)), hK15 _ _ ?_⟩
    refine Wp.cond rfl ⟨⟩ (fun hc18 => ?_) (fun hc18 => ?_)
    · have hm := brT hm (sb hc18)
      refine Wp.seqR fun K19 hK19 => ?_
      simp only [go_sem, simprocAttr, hw6, hxs_31]
      first | refine hK19 _ _ ?_ | refine ⟨sd, hK19 _ _ ?_⟩
      refine Wp.ret ?_
      simp only [thenQ, blockQ]
      refine retQ_ret ?_
      cases hm
      simp only [go_sem, simprocAttr, hw6, hxs_31]
      try exact se2
    · have hm := brF hm (sb hc18)
      refine Wp.skip ?_
      simp only [thenQ, blockQ, ↓reduceIte]
      refine hK7 _ _ ?_
      refine Wp.region fun K20 hK20 => ?_
      simp only [go_sem, simprocAttr, hw6, hxs_31]
      first | refine hK20 _ _ ?_ | refine ⟨sd, hK20 _ _ ?_⟩
      simp only [thenQ, blockQ, ↓reduceIte]
      refine ⟨(), hlt6, hnx_28 _ hm, ?_⟩
      simp only [go_sem, simprocAttr, hw6, hxs_31]
      try exact se2
theorem ok_disk_Check (m_1 : api_Machine) (z : Int) (hm : disk_Check m_1 = some z) : Does Tryz.prog 85 [.agg [.p (.l (List.map enc_api_Setting m_1.Facts)), .p (.l (List.map enc_api_File m_1.Files)), .p (.l (List.map enc_api_Setting m_1.Settings)), .p (.l (List.map enc_api_Service m_1.Services))]] [] (fun r X => r = .p (.i .i64 z) ∧ X = []) := by
  unfold disk_Check at hm
  refine Does.of_wp 0 80 [.tmp 2] Tryz.func85 rfl (by decide) rfl rfl (Nat.le_of_ble_eq_true rfl) fun B => ?_
  refine Wp.seqR fun K1 hK1 => ?_
  simp only [go_sem, simprocAttr]
  first | refine hK1 _ _ ?_ | refine ⟨sd, hK1 _ _ ?_⟩
  refine Wp.seqW fun K2 hK2 hW2 => ?_
  refine Wp.seqR fun K3 hK3 => ?_
  simp only [go_sem, simprocAttr]
  first | refine hK3 _ _ ?_ | refine ⟨sd, hK3 _ _ ?_⟩
  refine Wp.cond rfl ⟨⟩ (fun hc4 => ?_) (fun hc4 => ?_)
  · have hm := brT hm (sb hc4)
    refine Wp.seqR fun K5 hK5 => ?_
    simp only [go_sem, simprocAttr]
    first | refine hK5 _ _ ?_ | refine ⟨sd, hK5 _ _ ?_⟩
    refine Wp.ret ?_
    simp only [thenQ, blockQ]
    refine retQ_ret ?_
    cases hm
    simp only [go_sem, simprocAttr]
    try exact se2
  · have hm := brF hm (sb hc4)
    refine Wp.skip ?_
    simp only [thenQ, blockQ, ↓reduceIte]
    refine hK2 _ _ ?_
    refine Wp.seqW fun K6 hK6 hW6 => ?_
    obtain ⟨r_2, hr_2, hm⟩ := call_elim hm
    refine Wp.seqR fun K7 hK7 => ?_
    simp only [go_sem, simprocAttr]
    try refine ⟨sd, ?_⟩
    refine Rg.callX (av := ?av8) (g := true) (fun hg => ok_disk_eachFault_api_Setting_i1 m_1.Facts _ hr_2) si si si sg si ?cont8
    intro hv8
    simp only [go_sem, simprocAttr]
    first | refine hK7 _ _ ?_ | refine ⟨sd, hK7 _ _ ?_⟩
    refine Wp.seqR fun K9 hK9 => ?_
    simp only [go_sem, simprocAttr]
    first | refine hK9 _ _ ?_ | refine ⟨sd, hK9 _ _ ?_⟩
    refine Wp.cond rfl ⟨⟩ (fun hc10 => ?_) (fun hc10 => ?_)
    · have hm := brT hm (sb hc10)
      refine Wp.seqR fun K11 hK11 => ?_
      simp only [go_sem, simprocAttr]
      first | refine hK11 _ _ ?_ | refine ⟨sd, hK11 _ _ ?_⟩
      refine Wp.ret ?_
      simp only [thenQ, blockQ]
      refine retQ_ret ?_
      cases hm
      simp only [go_sem, simprocAttr]
      try exact se2
    · have hm := brF hm (sb hc10)
      refine Wp.skip ?_
      simp only [thenQ, blockQ, ↓reduceIte]
      refine hK6 _ _ ?_
      refine Wp.seqR fun K12 hK12 => ?_
      simp only [go_sem, simprocAttr]
      first | refine hK12 _ _ ?_ | refine ⟨sd, hK12 _ _ ?_⟩
      refine Wp.seqR fun K13 hK13 => ?_
      simp only [go_sem, simprocAttr]
      first | refine hK13 _ _ ?_ | refine ⟨sd, hK13 _ _ ?_⟩
      refine Wp.seqW fun K14 hK14 hW14 => ?_
      obtain ⟨k_27, hk_27, hm⟩ := jp_elim hm
      have hcut14 : ∀ s, k_27 s = some z → K14 [(1, .ptr 0 0)] [.cells 26 [.p (.l (List.map enc_api_Setting m_1.Facts)), .p (.l (List.map enc_api_File m_1.Files)), .p (.l (List.map enc_api_Setting m_1.Settings)), .p (.l (List.map enc_api_Service m_1.Services))]] := by
        intro s hs
        have hm := hk_27 _ hs
        clear hs
        try dsimp only at hm
        try dsimp only
        refine hK14 _ _ ?_
        refine Wp.seqW fun K15 hK15 hW15 => ?_
        obtain ⟨r_28, hr_28, hm⟩ := call_elim hm
        refine Wp.seqR fun K16 hK16 => ?_
        simp only [go_sem, simprocAttr]
        try refine ⟨sd, ?_⟩
        refine Rg.callX (av := ?av17) (g := true) (fun hg => ok_disk_eachFault_api_Setting_i2 m_1.Settings _ hr_28) si si si sg si ?cont17
        intro hv17
        simp only [go_sem, simprocAttr]
        first | refine hK16 _ _ ?_ | refine ⟨sd, hK16 _ _ ?_⟩
        refine Wp.seqR fun K18 hK18 => ?_
        simp only [go_sem, simprocAttr]
        first | refine hK18 _ _ ?_ | refine ⟨sd, hK18 _ _ ?_⟩
        refine Wp.cond rfl ⟨⟩ (fun hc19 => ?_) (fun hc19 => ?_)
        · have hm := brT hm (sb hc19)
          refine Wp.seqR fun K20 hK20 => ?_
          simp only [go_sem, simprocAttr]
          first | refine hK20 _ _ ?_ | refine ⟨sd, hK20 _ _ ?_⟩
          refine Wp.ret ?_
          simp only [thenQ, blockQ]
          refine retQ_ret ?_
          cases hm
          simp only [go_sem, simprocAttr]
          try exact se2
        · have hm := brF hm (sb hc19)
          refine Wp.skip ?_
          simp only [thenQ, blockQ, ↓reduceIte]
          refine hK15 _ _ ?_
          obtain ⟨r_29, hr_29, hm⟩ := call_elim hm
          refine Wp.seqR fun K21 hK21 => ?_
          simp only [go_sem, simprocAttr]
          try refine ⟨sd, ?_⟩
          refine Rg.callX (av := ?av22) (g := true) (fun hg => ok_disk_eachFault_api_Service_i1 m_1.Services _ hr_29) si si si sg si ?cont22
          intro hv22
          simp only [go_sem, simprocAttr]
          first | refine hK21 _ _ ?_ | refine ⟨sd, hK21 _ _ ?_⟩
          refine Wp.ret ?_
          refine retQ_ret ?_
          cases hm
          simp only [go_sem, simprocAttr]
          try exact se2
      clear hK14 hk_27
      refine Wp.seqR fun K23 hK23 => ?_
      simp only [go_sem, simprocAttr]
      first | refine hK23 _ _ ?_ | refine ⟨sd, hK23 _ _ ?_⟩
      refine Wp.block ?_
      obtain ⟨k_45, hk_45, hm⟩ := forL_cont hm
      refine Wp.fact 40 fun hl_48 => ?_
      replace hl_48 : m_1.Files.length ≤ 274877906944 := by
        simp only [go_sem, simprocAttr, List.length_map] at hl_48
        omega
      refine Wp.forL (fun i_47 s => [(1, .ptr 0 0), (4, .p (.s s.1)), (5, .ptr 2 0), (40, .p (.l (List.map enc_api_File m_1.Files))), (41, .p (.i .i64 (m_1.Files.length : Int))), (42, .p (.i .i64 (i_47 : Int)))]) (fun i_47 s => [.cells 26 [.p (.l (List.map enc_api_Setting m_1.Facts)), .p (.l (List.map enc_api_File m_1.Files)), .p (.l (List.map enc_api_Setting m_1.Settings)), .p (.l (List.map enc_api_Service m_1.Services))], .mp false (encM Dt.s ecB s.2), .cells 133 [.mp 1]]) ?_ hm ?_
      ·
        simp only [go_sem, simprocAttr]
        try exact se2
      clear hm
      intro i_47 s hii_47 hm
      obtain ⟨before_37, m1_39⟩ := s
      try dsimp only at hm
      try dsimp only
      refine Wp.seqR fun K24 hK24 => ?_
      simp only [go_sem, simprocAttr]
      first | refine hK24 _ _ ?_ | refine ⟨sd, hK24 _ _ ?_⟩
      refine Wp.seqW fun K25 hK25 hW25 => ?_
      refine Wp.cond rfl ⟨⟩ (fun hc25 => ?_) (fun hc25 => ?_)
      rotate_left
      · refine Wp.exit ?_
        have hm := hk_45 _ (forL_end hm (ge_nat (by first | exact hc25 | simpa using hc25)))
        try dsimp only at hm
        simp only [thenQ, blockQ, ↓reduceIte]
        refine hW14 _ _ _ _ ?_ (hcut14 () hm)
        simp only [go_sem, simprocAttr]
        try exact se2
      have hlt25 := lt_nat (by first | exact hc25 | simpa using hc25)
      have hw25 := wrap_succ hlt25 hl_48
      obtain ⟨f_49, nx_46, hxf_49, hyf_49, hnx_46, hm⟩ := forL_step hm hlt25
      replace hxf_49 := hxf_49 enc_api_File
      refine Wp.skip ?_
      simp only [thenQ]
      refine hK25 _ _ ?_
      refine Wp.seqW fun K26 hK26 hW26 => ?_
      refine Wp.block ?_
      refine Wp.seqR fun K27 hK27 => ?_
      simp only [go_sem, simprocAttr, hw25, hxf_49]
      first | refine hK27 _ _ ?_ | refine ⟨sd, hK27 _ _ ?_⟩
      refine Wp.seqW fun K28 hK28 hW28 => ?_
      obtain ⟨r_50, hr_50, hm⟩ := call_elim hm
      refine Wp.seqR fun K29 hK29 => ?_
      simp only [go_sem, simprocAttr, hw25, hxf_49]
      try refine ⟨sd, ?_⟩
      refine Rg.callX (av := ?av30) (g := true) (fun hg => ok_disk_fileFault f_49 _ hr_50) (by simp only [go_sem, simprocAttr, hw25, hxf_49]; exact Is.mk) (by simp only [go_sem, simprocAttr, hw25, hxf_49]; exact Is.mk) (by simp only [go_sem, simprocAttr, hw25, hxf_49]; exact Is.mk) (by simp only [go_sem, simprocAttr, hw25, hxf_49]) (by simp only [go_sem, simprocAttr, hw25, hxf_49]; exact Is.mk) ?cont30
      intro hv30
      simp only [go_sem, simprocAttr, hw25, hxf_49]
      first | refine hK29 _ _ ?_ | refine ⟨sd, hK29 _ _ ?_⟩
      refine Wp.seqR fun K31 hK31 => ?_
      simp only [go_sem, simprocAttr, hw25, hxf_49]
      first | refine hK31 _ _ ?_ | refine ⟨sd, hK31 _ _ ?_⟩
      refine Wp.cond rfl ⟨⟩ (fun hc32 => ?_) (fun hc32 => ?_)
      · have hm := brT hm (sb hc32)
        refine Wp.seqR fun K33 hK33 => ?_
        simp only [go_sem, simprocAttr, hw25, hxf_49]
        first | refine hK33 _ _ ?_ | refine ⟨sd, hK33 _ _ ?_⟩
        refine Wp.ret ?_
        simp only [thenQ, blockQ]
        refine retQ_ret ?_
        cases hm
        simp only [go_sem, simprocAttr, hw25, hxf_49]
        try exact se2
      · have hm := brF hm (sb hc32)
        refine Wp.skip ?_
        simp only [thenQ, blockQ, ↓reduceIte]
        refine hK28 _ _ ?_
        refine Wp.seqW fun K34 hK34 hW34 => ?_
        refine Wp.seqR fun K35 hK35 => ?_
        simp only [go_sem, simprocAttr, hw25, hxf_49]
        first | refine hK35 _ _ ?_ | refine ⟨sd, hK35 _ _ ?_⟩
        refine Wp.cond rfl ⟨⟩ (fun hc36 => ?_) (fun hc36 => ?_)
        · have hm := brT hm (sb hc36)
          refine Wp.seqR fun K37 hK37 => ?_
          simp only [go_sem, simprocAttr, hw25, hxf_49]
          first | refine hK37 _ _ ?_ | refine ⟨sd, hK37 _ _ ?_⟩
          refine Wp.ret ?_
          simp only [thenQ, blockQ]
          refine retQ_ret ?_
          cases hm
          simp only [go_sem, simprocAttr, hw25, hxf_49]
          try exact se2
        · have hm := brF hm (sb hc36)
          refine Wp.skip ?_
          simp only [thenQ, blockQ, ↓reduceIte]
          refine hK34 _ _ ?_
          refine Wp.seqW fun K38 hK38 hW38 => ?_
          obtain ⟨r_51, hr_51, hm⟩ := call_elim hm
          refine Wp.seqR fun K39 hK39 => ?_
          simp only [go_sem, simprocAttr, hw25, hxf_49]
          try refine ⟨sd, ?_⟩
          refine Rg.callR (av := ?av40) (g := true) [2, 1] (fun hg => ok_disk_above_i1 f_49.Path m1_39 _ hr_51) (by simp only [go_sem, simprocAttr, hw25, hxf_49]; exact Is.mk) (by simp only [go_sem, simprocAttr, hw25, hxf_49]; exact Is.mk) (by simp only [go_sem, simprocAttr, hw25, hxf_49]; exact Is.mk) (by simp only [go_sem, simprocAttr, hw25, hxf_49]; exact Is.mk) (by simp only [go_sem, simprocAttr, hw25, hxf_49]) (by simp only [go_sem, simprocAttr, hw25, hxf_49]) (by simp only [go_sem, simprocAttr, hw25, hxf_49]) ?cont40
          simp only [go_sem, simprocAttr, hw25, hxf_49]
          first | refine hK39 _ _ ?_ | refine ⟨sd, hK39 _ _ ?_⟩
          refine Wp.cond rfl ⟨⟩ (fun hc41 => ?_) (fun hc41 => ?_)
          · have hm := brT hm (sb hc41)
            refine Wp.seqR fun K42 hK42 => ?_
            simp only [go_sem, simprocAttr, hw25, hxf_49]
            first | refine hK42 _ _ ?_ | refine ⟨sd, hK42 _ _ ?_⟩
            refine Wp.ret ?_
            simp only [thenQ, blockQ]
            refine retQ_ret ?_
            cases hm
            simp only [go_sem, simprocAttr, hw25, hxf_49]
            try exact se2
          · have hm := brF hm (sb hc41)
            refine Wp.skip ?_
            simp only [thenQ, blockQ, ↓reduceIte]
            refine hK38 _ _ ?_
            obtain ⟨c_53, hm⟩ := chk_elim hm
            have hp_52 := mset_enc (e := ecB) keq_s m1_39 f_49.Path true
            simp only [ecB] at hp_52
            refine Wp.regD (plan := [(0, none), (1, none), (2, none), (3, none), (4, none), (5, none), (6, some [])]) (by kernel_rfl) rfl (by kernel_rfl) fun K43 hK43 => ?_
            simp only [go_sem, simprocAttr, hw25, hxf_49, hp_52]
            first | refine hK43 _ _ ?_ | refine ⟨by first | exact sd | ((repeat' apply And.intro) <;> first | assumption | omega | (simp only [List.length_append, List.length_map, List.length_cons, List.length_nil, List.length_set, List.length_replicate] at c_53 ⊢; omega)), hK43 _ _ ?_⟩
            simp only [thenQ, blockQ, ↓reduceIte]
            refine hK26 _ _ ?_
            refine Wp.region fun K44 hK44 => ?_
            simp only [go_sem, simprocAttr, hw25, hxf_49]
            first | refine hK44 _ _ ?_ | refine ⟨sd, hK44 _ _ ?_⟩
            simp only [thenQ, blockQ, ↓reduceIte]
            refine ⟨(f_49.Path, aset m1_39 f_49.Path true), hlt25, hnx_46 _ hm, ?_⟩
            simp only [go_sem, simprocAttr, hw25, hxf_49]
            try exact se2
theorem ok_disk_found_api_Setting_1_i1 (x_1 : api_Setting) (k_2 : Str) (z : Int) (hm : disk_found_api_Setting_1_i1 x_1 k_2 = some z) : Does Tryz.prog 173 [.agg [.p (.s x_1.Key), .p (.s x_1.Value)], .p (.s k_2), .ptr 0 0] [.cells 105 [.fn 77 []]] (fun r X => r = .p (.i .i64 z) ∧ X = [.cells 105 [.fn 77 []]]) := by
  unfold disk_found_api_Setting_1_i1 at hm
  refine Does.of_wp 1 11 [.tmp 5] Tryz.func173 rfl (by decide) rfl rfl (Nat.le_of_ble_eq_true rfl) fun B => ?_
  refine Wp.seqR fun K1 hK1 => ?_
  simp only [go_sem, simprocAttr]
  first | refine hK1 _ _ ?_ | refine ⟨sd, hK1 _ _ ?_⟩
  obtain ⟨r_5, hr_5, hm⟩ := call_elim hm
  obtain ⟨r_6, hr_6, hm⟩ := call_elim hm
  refine Wp.seqR fun K2 hK2 => ?_
  simp only [go_sem, simprocAttr]
  try refine ⟨sd, ?_⟩
  refine Rg.callX (av := ?av3) (g := true) (fun hg => ok_disk_keyOf x_1 _ hr_5) si si si sg si ?cont3
  intro hv3
  simp only [go_sem, simprocAttr]
  try refine ⟨sd, ?_⟩
  refine Rg.callX (av := ?av4) (g := true) (fun hg => ok_strings_Compare r_5 k_2 _ hr_6) si si si sg si ?cont4
  intro hv4
  simp only [go_sem, simprocAttr]
  first | refine hK2 _ _ ?_ | refine ⟨sd, hK2 _ _ ?_⟩
  refine Wp.ret ?_
  refine retQ_ret ?_
  cases hm
  simp only [go_sem, simprocAttr]
  try exact se2
theorem ok_slices_BinarySearchFunc_api_Setting_api_Setting_string_i1 (x_1 : List api_Setting) (target_2 : Str) (z : Int × Bool) (hm : slices_BinarySearchFunc_api_Setting_api_Setting_string_i1 x_1 target_2 = some z) : Does Tryz.prog 172 [.p (.l (List.map enc_api_Setting x_1)), .p (.s target_2), .fn 173 [.ptr 0 0]] [.cells 105 [.fn 77 []]] (fun r X => r = .tup [.p (.i .i64 z.1), .p (.b z.2)] ∧ X = [.cells 105 [.fn 77 []]]) := by
  unfold slices_BinarySearchFunc_api_Setting_api_Setting_string_i1 at hm
  refine Does.of_wp 1 49 [.tmp 6, .tmp 7] Tryz.func172 rfl (by decide) rfl rfl (Nat.le_of_ble_eq_true rfl) fun B => ?_
  refine Wp.seqR fun K1 hK1 => ?_
  simp only [go_sem, simprocAttr]
  first | refine hK1 _ _ ?_ | refine ⟨sd, hK1 _ _ ?_⟩
  refine Wp.seqR fun K2 hK2 => ?_
  simp only [go_sem, simprocAttr]
  first | refine hK2 _ _ ?_ | refine ⟨sd, hK2 _ _ ?_⟩
  refine Wp.seqR fun K3 hK3 => ?_
  simp only [go_sem, simprocAttr]
  first | refine hK3 _ _ ?_ | refine ⟨sd, hK3 _ _ ?_⟩
  refine Wp.seqW fun K4 hK4 hW4 => ?_
  obtain ⟨k_33, hk_33, hm⟩ := jp_elim hm
  have hcut4 : ∀ s, k_33 s = some z → K4 [(0, .p (.l (List.map enc_api_Setting x_1))), (1, .p (.s target_2)), (2, .fn 173 [.ptr 0 0]), (8, .p (.i .i64 (x_1.length : Int))), (9, .p (.i .i64 s))] [.cells 105 [.fn 77 []]] := by
    intro i_32 hs
    have hm := hk_33 _ hs
    clear hs
    try dsimp only at hm
    try dsimp only
    refine hK4 _ _ ?_
    obtain ⟨c_34, hm⟩ := chk_elim hm
    obtain ⟨r_35, hr_35, hm⟩ := callG_elim hm
    have hr_36 := getD_enc (l := x_1) (e := enc_api_Setting) (d := (api_Setting.mk [] [])) (i := i_32.toNat)
    simp only [enc_api_Setting, List.map_nil] at hr_36
    refine Wp.seqR fun K5 hK5 => ?_
    simp only [go_sem, simprocAttr, hr_36]
    try refine ⟨by first | exact sd | ((repeat' apply And.intro) <;> first | assumption | omega | (simp only [List.length_append, List.length_map, List.length_cons, List.length_nil, List.length_set, List.length_replicate] at c_34 ⊢; omega)), ?_⟩
    refine Rg.callR (av := ?av6) (g := decide (i_32 < (x_1.length : Int))) [0] (fun hg => ok_disk_found_api_Setting_1_i1 (api_Setting.mk ((x_1.getD i_32.toNat (api_Setting.mk [] [])).Key) ((x_1.getD i_32.toNat (api_Setting.mk [] [])).Value)) target_2 _ (hr_35 hg)) (by simp only [go_sem, simprocAttr, hr_36]; exact Is.mk) (by simp only [go_sem, simprocAttr, hr_36]; exact Is.mk) (by simp only [go_sem, simprocAttr, hr_36]; exact Is.mk) (by simp only [go_sem, simprocAttr, hr_36]; exact Is.mk) (by simp only [go_sem, simprocAttr, hr_36]) (by simp only [go_sem, simprocAttr, hr_36]) (by simp only [go_sem, simprocAttr, hr_36]) ?cont6
    simp only [go_sem, simprocAttr, hr_36]
    first | refine hK5 _ _ ?_ | refine ⟨by first | exact sd | ((repeat' apply And.intro) <;> first | assumption | omega | (simp only [List.length_append, List.length_map, List.length_cons, List.length_nil, List.length_set, List.length_replicate] at c_34 ⊢; omega)), hK5 _ _ ?_⟩
    refine Wp.ret ?_
    refine retQ_ret ?_
    cases hm
    simp only [go_sem, simprocAttr]
    try exact se2
  clear hK4 hk_33
  refine Wp.block ?_
  obtain ⟨k_41, hk_41, hm⟩ := loopN_cont hm
  refine Wp.loopN (fun s => [(0, .p (.l (List.map enc_api_Setting x_1))), (1, .p (.s target_2)), (2, .fn 173 [.ptr 0 0]), (8, .p (.i .i64 (x_1.length : Int))), (9, .p (.i .i64 s.1)), (10, .p (.i .i64 s.2))]) (fun s => [.cells 105 [.fn 77 []]]) ?_ hm ?_
  ·
    simp only [go_sem, simprocAttr]
    try exact se2
  clear hm
  intro s nx_42 hm
  obtain ⟨i_37, j_38⟩ := s
  try dsimp only at hm
  try dsimp only
  refine Wp.seqW fun K7 hK7 hW7 => ?_
  refine Wp.seqR fun K8 hK8 => ?_
  simp only [go_sem, simprocAttr]
  first | refine hK8 _ _ ?_ | refine ⟨sd, hK8 _ _ ?_⟩
  refine Wp.cond rfl ⟨⟩ (fun hc9 => ?_) (fun hc9 => ?_)
  · have hm := brT hm (sb hc9)
    refine Wp.skip ?_
    simp only [thenQ, blockQ, ↓reduceIte]
    refine hK7 _ _ ?_
    refine Wp.block ?_
    refine Wp.seqR fun K10 hK10 => ?_
    simp only [go_sem, simprocAttr]
    first | refine hK10 _ _ ?_ | refine ⟨sd, hK10 _ _ ?_⟩
    obtain ⟨s_43, hbs_43, hxs_43, hys_43, hm⟩ := idx_elim hm
    replace hxs_43 : ∀ d, (List.map enc_api_Setting x_1).getD ((IntKind.i64.wrap (Int.fdiv (IntKind.u64.wrap (IntKind.i64.wrap (i_37 + j_38))) (2 ^ (shI .u64 1)))).toNat) d = enc_api_Setting s_43 := hxs_43 enc_api_Setting
    obtain ⟨r_44, hr_44, hm⟩ := call_elim hm
    refine Wp.seqR fun K11 hK11 => ?_
    simp only [go_sem, simprocAttr, hxs_43]
    try refine ⟨sd, ?_⟩
    refine Rg.callR (av := ?av12) (g := true) [0] (fun hg => ok_disk_found_api_Setting_1_i1 s_43 target_2 _ hr_44) (by simp only [go_sem, simprocAttr, hxs_43]; exact Is.mk) (by simp only [go_sem, simprocAttr, hxs_43]; exact Is.mk) (by simp only [go_sem, simprocAttr, hxs_43]; exact Is.mk) (by simp only [go_sem, simprocAttr, hxs_43]; exact Is.mk) (by simp only [go_sem, simprocAttr, hxs_43]) (by simp only [go_sem, simprocAttr, hxs_43]) (by simp only [go_sem, simprocAttr, hxs_43]) ?cont12
    simp only [go_sem, simprocAttr, hxs_43]
    first | refine hK11 _ _ ?_ | refine ⟨sd, hK11 _ _ ?_⟩
    refine Wp.cond rfl ⟨⟩ (fun hc13 => ?_) (fun hc13 => ?_)
    · have hm := brT hm (sb hc13)
      refine Wp.region fun K14 hK14 => ?_
      simp only [go_sem, simprocAttr, hxs_43]
      first | refine hK14 _ _ ?_ | refine ⟨sd, hK14 _ _ ?_⟩
      simp only [thenQ, blockQ, ↓reduceIte]
      refine ⟨(IntKind.i64.wrap ((IntKind.i64.wrap (Int.fdiv (IntKind.u64.wrap (IntKind.i64.wrap (i_37 + j_38))) (2 ^ (shI .u64 1)))) + 1), j_38), hm, ?_⟩
      simp only [go_sem, simprocAttr, hxs_43]
      try exact se2
    · have hm := brF hm (sb hc13)
      refine Wp.region fun K15 hK15 => ?_
      simp only [go_sem, simprocAttr, hxs_43]
      first | refine hK15 _ _ ?_ | refine ⟨sd, hK15 _ _ ?_⟩
      simp only [thenQ, blockQ, ↓reduceIte]
      refine ⟨(i_37, IntKind.i64.wrap (Int.fdiv (IntKind.u64.wrap (IntKind.i64.wrap (i_37 + j_38))) (2 ^ (shI .u64 1)))), hm, ?_⟩
      simp only [go_sem, simprocAttr, hxs_43]
      try exact se2
  · have hm := brF hm (sb hc9)
    refine Wp.exit ?_
    simp only [thenQ, blockQ, ↓reduceIte]
    have hm := hk_41 _ hm
    try dsimp only at hm
    refine hW4 _ _ _ _ ?_ (hcut4 i_37 hm)
    simp only [go_sem, simprocAttr]
    try exact se2
theorem ok_disk_found_api_Setting_i1 (l_1 : List api_Setting) (key_2 : Str) (z : api_Setting × Bool) (hm : disk_found_api_Setting_i1 l_1 key_2 = some z) : Does Tryz.prog 131 [.p (.l (List.map enc_api_Setting l_1)), .p (.s key_2), .fn 77 []] [] (fun r X => r = .tup [.agg [.p (.s z.1.Key), .p (.s z.1.Value)], .p (.b z.2)] ∧ X = []) := by
  unfold disk_found_api_Setting_i1 at hm
  refine Does.of_wp 0 25 [.cell 6 33, .tmp 7] Tryz.func131 rfl (by decide) rfl rfl (Nat.le_of_ble_eq_true rfl) fun B => ?_
  refine Wp.seqR fun K1 hK1 => ?_
  simp only [go_sem, simprocAttr]
  first | refine hK1 _ _ ?_ | refine ⟨sd, hK1 _ _ ?_⟩
  obtain ⟨r_3, hr_3, hm⟩ := call_elim hm
  refine Wp.seqR fun K2 hK2 => ?_
  simp only [go_sem, simprocAttr]
  try refine ⟨sd, ?_⟩
  refine Rg.callR (av := ?av3) (g := true) [0] (fun hg => ok_slices_BinarySearchFunc_api_Setting_api_Setting_string_i1 l_1 key_2 _ hr_3) si si si si sg sg sg ?cont3
  simp only [go_sem, simprocAttr]
  first | refine hK2 _ _ ?_ | refine ⟨sd, hK2 _ _ ?_⟩
  refine Wp.seqW fun K4 hK4 hW4 => ?_
  refine Wp.seqR fun K5 hK5 => ?_
  simp only [go_sem, simprocAttr]
  first | refine hK5 _ _ ?_ | refine ⟨sd, hK5 _ _ ?_⟩
  refine Wp.cond rfl ⟨⟩ (fun hc6 => ?_) (fun hc6 => ?_)
  · have hm := brT hm (sb hc6)
    refine Wp.seqR fun K7 hK7 => ?_
    simp only [go_sem, simprocAttr]
    first | refine hK7 _ _ ?_ | refine ⟨sd, hK7 _ _ ?_⟩
    refine Wp.seqR fun K8 hK8 => ?_
    simp only [go_sem, simprocAttr]
    first | refine hK8 _ _ ?_ | refine ⟨sd, hK8 _ _ ?_⟩
    refine Wp.ret ?_
    simp only [thenQ, blockQ]
    refine retQ_ret ?_
    cases hm
    simp only [go_sem, simprocAttr]
    try exact se2
  · have hm := brF hm (sb hc6)
    refine Wp.skip ?_
    simp only [thenQ, blockQ, ↓reduceIte]
    refine hK4 _ _ ?_
    obtain ⟨s_4, hbs_4, hxs_4, hys_4, hm⟩ := idx_elim hm
    replace hxs_4 : ∀ d, (List.map enc_api_Setting l_1).getD r_3.1.toNat d = enc_api_Setting s_4 := hxs_4 enc_api_Setting
    refine Wp.seqR fun K9 hK9 => ?_
    simp only [go_sem, simprocAttr, hxs_4]
    first | refine hK9 _ _ ?_ | refine ⟨sd, hK9 _ _ ?_⟩
    refine Wp.ret ?_
    refine retQ_ret ?_
    cases hm
    simp only [go_sem, simprocAttr, hxs_4]
    try exact se2
theorem ok_disk_ask_api_Setting_i1 (m_1 : api_Machine) (l_2 : List api_Setting) (key_3 : Str) (z : api_Setting × Int) (hm : disk_ask_api_Setting_i1 m_1 l_2 key_3 = some z) : Does Tryz.prog 76 [.agg [.p (.l (List.map enc_api_Setting m_1.Facts)), .p (.l (List.map enc_api_File m_1.Files)), .p (.l (List.map enc_api_Setting m_1.Settings)), .p (.l (List.map enc_api_Service m_1.Services))], .p (.l (List.map enc_api_Setting l_2)), .p (.s key_3), .fn 68 [], .fn 77 []] [] (fun r X => r = .tup [.agg [.p (.s z.1.Key), .p (.s z.1.Value)], .p (.i .i64 z.2)] ∧ X = []) := by
  unfold disk_ask_api_Setting_i1 at hm
  refine Does.of_wp 0 38 [.cell 10 33, .tmp 11] Tryz.func76 rfl (by decide) rfl rfl (Nat.le_of_ble_eq_true rfl) fun B => ?_
  refine Wp.seqR fun K1 hK1 => ?_
  simp only [go_sem, simprocAttr]
  first | refine hK1 _ _ ?_ | refine ⟨sd, hK1 _ _ ?_⟩
  refine Wp.seqR fun K2 hK2 => ?_
  simp only [go_sem, simprocAttr]
  first | refine hK2 _ _ ?_ | refine ⟨sd, hK2 _ _ ?_⟩
  refine Wp.seqW fun K3 hK3 hW3 => ?_
  obtain ⟨r_4, hr_4, hm⟩ := call_elim hm
  refine Wp.seqR fun K4 hK4 => ?_
  simp only [go_sem, simprocAttr]
  try refine ⟨sd, ?_⟩
  refine Rg.callX (av := ?av5) (g := true) (fun hg => ok_disk_Check m_1 _ hr_4) si si si sg si ?cont5
  intro hv5
  simp only [go_sem, simprocAttr]
  first | refine hK4 _ _ ?_ | refine ⟨sd, hK4 _ _ ?_⟩
  refine Wp.seqR fun K6 hK6 => ?_
  simp only [go_sem, simprocAttr]
  first | refine hK6 _ _ ?_ | refine ⟨sd, hK6 _ _ ?_⟩
  refine Wp.cond rfl ⟨⟩ (fun hc7 => ?_) (fun hc7 => ?_)
  · have hm := brT hm (sb hc7)
    refine Wp.seqR fun K8 hK8 => ?_
    simp only [go_sem, simprocAttr]
    first | refine hK8 _ _ ?_ | refine ⟨sd, hK8 _ _ ?_⟩
    refine Wp.ret ?_
    simp only [thenQ, blockQ]
    refine retQ_ret ?_
    cases hm
    simp only [go_sem, simprocAttr]
    try exact se2
  · have hm := brF hm (sb hc7)
    refine Wp.skip ?_
    simp only [thenQ, blockQ, ↓reduceIte]
    refine hK3 _ _ ?_
    refine Wp.seqW fun K9 hK9 hW9 => ?_
    obtain ⟨r_5, hr_5, hm⟩ := call_elim hm
    refine Wp.seqR fun K10 hK10 => ?_
    simp only [go_sem, simprocAttr]
    try refine ⟨sd, ?_⟩
    refine Rg.callX (av := ?av11) (g := true) (fun hg => ok_ver_IsName key_3 _ hr_5) si si si sg si ?cont11
    intro hv11
    simp only [go_sem, simprocAttr]
    first | refine hK10 _ _ ?_ | refine ⟨sd, hK10 _ _ ?_⟩
    refine Wp.cond rfl ⟨⟩ (fun hc12 => ?_) (fun hc12 => ?_)
    · have hm := brT hm (sb hc12)
      refine Wp.seqR fun K13 hK13 => ?_
      simp only [go_sem, simprocAttr]
      first | refine hK13 _ _ ?_ | refine ⟨sd, hK13 _ _ ?_⟩
      refine Wp.ret ?_
      simp only [thenQ, blockQ]
      refine retQ_ret ?_
      cases hm
      simp only [go_sem, simprocAttr]
      try exact se2
    · have hm := brF hm (sb hc12)
      refine Wp.skip ?_
      simp only [thenQ, blockQ, ↓reduceIte]
      refine hK9 _ _ ?_
      obtain ⟨r_6, hr_6, hm⟩ := call_elim hm
      refine Wp.seqR fun K14 hK14 => ?_
      simp only [go_sem, simprocAttr]
      try refine ⟨sd, ?_⟩
      refine Rg.callX (av := ?av15) (g := true) (fun hg => ok_disk_found_api_Setting_i1 l_2 key_3 _ hr_6) si si si sg si ?cont15
      intro hv15
      simp only [go_sem, simprocAttr]
      first | refine hK14 _ _ ?_ | refine ⟨sd, hK14 _ _ ?_⟩
      refine Wp.seqW fun K16 hK16 hW16 => ?_
      refine Wp.seqR fun K17 hK17 => ?_
      simp only [go_sem, simprocAttr]
      first | refine hK17 _ _ ?_ | refine ⟨sd, hK17 _ _ ?_⟩
      refine Wp.cond rfl ⟨⟩ (fun hc18 => ?_) (fun hc18 => ?_)
      · have hm := brT hm (sb hc18)
        refine Wp.seqR fun K19 hK19 => ?_
        simp only [go_sem, simprocAttr]
        first | refine hK19 _ _ ?_ | refine ⟨sd, hK19 _ _ ?_⟩
        refine Wp.ret ?_
        simp only [thenQ, blockQ]
        refine retQ_ret ?_
        cases hm
        simp only [go_sem, simprocAttr]
        try exact se2
      · have hm := brF hm (sb hc18)
        refine Wp.skip ?_
        simp only [thenQ, blockQ, ↓reduceIte]
        refine hK16 _ _ ?_
        refine Wp.seqR fun K20 hK20 => ?_
        simp only [go_sem, simprocAttr]
        first | refine hK20 _ _ ?_ | refine ⟨sd, hK20 _ _ ?_⟩
        refine Wp.ret ?_
        refine retQ_ret ?_
        cases hm
        simp only [go_sem, simprocAttr]
        try exact se2
theorem ok_disk_Fact (m_1 : api_Machine) (name_2 : Str) (z : Str × Int) (hm : disk_Fact m_1 name_2 = some z) : Does Tryz.prog 19 [.agg [.p (.l (List.map enc_api_Setting m_1.Facts)), .p (.l (List.map enc_api_File m_1.Files)), .p (.l (List.map enc_api_Setting m_1.Settings)), .p (.l (List.map enc_api_Service m_1.Services))], .p (.s name_2)] [] (fun r X => r = .tup [.p (.s z.1), .p (.i .i64 z.2)] ∧ X = []) := by
  unfold disk_Fact at hm
  refine Does.of_wp 0 19 [.tmp 4, .tmp 5] Tryz.func19 rfl (by decide) rfl rfl (Nat.le_of_ble_eq_true rfl) fun B => ?_
  refine Wp.seqR fun K1 hK1 => ?_
  simp only [go_sem, simprocAttr]
  first | refine hK1 _ _ ?_ | refine ⟨sd, hK1 _ _ ?_⟩
  obtain ⟨r_3, hr_3, hm⟩ := call_elim hm
  refine Wp.seqR fun K2 hK2 => ?_
  simp only [go_sem, simprocAttr]
  try refine ⟨sd, ?_⟩
  refine Rg.callX (av := ?av3) (g := true) (fun hg => ok_disk_ask_api_Setting_i1 m_1 m_1.Facts name_2 _ hr_3) si si si sg si ?cont3
  intro hv3
  simp only [go_sem, simprocAttr]
  first | refine hK2 _ _ ?_ | refine ⟨sd, hK2 _ _ ?_⟩
  refine Wp.seqR fun K4 hK4 => ?_
  simp only [go_sem, simprocAttr]
  first | refine hK4 _ _ ?_ | refine ⟨sd, hK4 _ _ ?_⟩
  refine Wp.ret ?_
  refine retQ_ret ?_
  cases hm
  simp only [go_sem, simprocAttr]
  try exact se2
theorem ok_Law_ThingsAreFound_1 (ok_1 : Bool) (there_2 : Bool) (e_3 : Int) (z : Bool) (hm : Law_ThingsAreFound_1 ok_1 there_2 e_3 = some z) : Does Tryz.prog 11 [.p (.b ok_1), .p (.b there_2), .p (.i .i64 e_3)] [] (fun r X => r = .p (.b z) ∧ X = []) := by
  unfold Law_ThingsAreFound_1 at hm
  refine Does.of_wp 0 19 [.tmp 6] Tryz.func11 rfl (by decide) rfl rfl (Nat.le_of_ble_eq_true rfl) fun B => ?_
  refine Wp.seqR fun K1 hK1 => ?_
  simp only [go_sem, simprocAttr]
  first | refine hK1 _ _ ?_ | refine ⟨sd, hK1 _ _ ?_⟩
  refine Wp.seqW fun K2 hK2 hW2 => ?_
  refine Wp.block ?_
  refine Wp.seqR fun K3 hK3 => ?_
  simp only [go_sem, simprocAttr]
  first | refine hK3 _ _ ?_ | refine ⟨sd, hK3 _ _ ?_⟩
  refine Wp.cond rfl ⟨⟩ (fun hc4 => ?_) (fun hc4 => ?_)
  · have hm := brT hm (sb hc4)
    refine Wp.seqR fun K5 hK5 => ?_
    simp only [go_sem, simprocAttr]
    first | refine hK5 _ _ ?_ | refine ⟨sd, hK5 _ _ ?_⟩
    refine Wp.ret ?_
    simp only [thenQ, blockQ]
    refine retQ_ret ?_
    cases hm
    simp only [go_sem, simprocAttr]
    try exact se2
  · have hm := brF hm (sb hc4)
    refine Wp.seqR fun K6 hK6 => ?_
    simp only [go_sem, simprocAttr]
    first | refine hK6 _ _ ?_ | refine ⟨sd, hK6 _ _ ?_⟩
    refine Wp.cond rfl ⟨⟩ (fun hc7 => ?_) (fun hc7 => ?_)
    · have hm := brT hm (sb hc7)
      refine Wp.seqR fun K8 hK8 => ?_
      simp only [go_sem, simprocAttr]
      first | refine hK8 _ _ ?_ | refine ⟨sd, hK8 _ _ ?_⟩
      refine Wp.ret ?_
      simp only [thenQ, blockQ]
      refine retQ_ret ?_
      cases hm
      simp only [go_sem, simprocAttr]
      try exact se2
    · have hm := brF hm (sb hc7)
      refine Wp.skip ?_
      simp only [thenQ, blockQ, ↓reduceIte]
      refine hK2 _ _ ?_
      refine Wp.seqR fun K9 hK9 => ?_
      simp only [go_sem, simprocAttr]
      first | refine hK9 _ _ ?_ | refine ⟨sd, hK9 _ _ ?_⟩
      refine Wp.ret ?_
      refine retQ_ret ?_
      cases hm
      simp only [go_sem, simprocAttr]
      try exact se2
end Go.Proofs.YtbfemlilfeahkaaGreatDoor
