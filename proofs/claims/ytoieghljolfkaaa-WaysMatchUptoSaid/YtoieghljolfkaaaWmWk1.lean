/- That the code does what the models say (part 1). -/
import Derived.Test.YtoieghljolfkaaaWmWk0
set_option linter.unusedSimpArgs false
set_option linter.unusedVariables false
namespace Go.Proofs.Ytoieghljolfkaaa
open Go.Vc Go.Md
set_option maxRecDepth 100000
set_option maxHeartbeats 4000000
theorem ok_ver_isSmall (c_1 : Int) (z : Bool) (hm : ver_isSmall c_1 = some z) : Does Try.prog 45 [.p (.i .u8 c_1)] [] (fun r X => r = .p (.b z) ∧ X = []) := by
 unfold ver_isSmall at hm
 refine Does.of_wp 0 9 [.tmp 2] Try.func45 rfl (by decide) rfl rfl (Nat.le_of_ble_eq_true rfl) fun B => ?_
 refine qS ?_
 refine qS ?_
 refine Wp.ret ?_
 refine retQ_ret ?_
 cases hm
 exact fse1
theorem ok_ver_isDigit (c_1 : Int) (z : Bool) (hm : ver_isDigit c_1 = some z) : Does Try.prog 46 [.p (.i .u8 c_1)] [] (fun r X => r = .p (.b z) ∧ X = []) := by
 unfold ver_isDigit at hm
 refine Does.of_wp 0 9 [.tmp 2] Try.func46 rfl (by decide) rfl rfl (Nat.le_of_ble_eq_true rfl) fun B => ?_
 refine qS ?_
 refine qS ?_
 refine Wp.ret ?_
 refine retQ_ret ?_
 cases hm
 exact fse1
theorem ok_ver_IsName_1 (c_1 : Int) (z : Bool) (hm : ver_IsName_1 c_1 = some z) : Does Try.prog 44 [.p (.i .u8 c_1)] [] (fun r X => r = .p (.b z) ∧ X = []) := by
 unfold ver_IsName_1 at hm
 refine Does.of_wp 0 17 [.tmp 2] Try.func44 rfl (by decide) rfl rfl (Nat.le_of_ble_eq_true rfl) fun B => ?_
 refine qS ?_
 obtain ⟨r_2, hr_2, hm⟩ := call_elim hm
 obtain ⟨r_3, hr_3, hm⟩ := callG_elim hm
 refine Wp.seqR fun K2 hK2 => ?_
 simp only [go_sem, simprocAttr]
 try refine ⟨sd, ?_⟩
 refine Rg.callX (av := ?av3) (g := true) (fun hg => ok_ver_isSmall c_1 _ hr_2) si si si sg si ?cont3
 intro hv3
 simp only [go_sem, simprocAttr]
 try refine ⟨sd, ?_⟩
 refine Rg.callX (av := ?av4) (g := !r_2) (fun hg => ok_ver_isDigit c_1 _ (hr_3 hg)) si si si sg si ?cont4
 intro hv4
 simp only [go_sem, simprocAttr]
 first | apply hK2 | refine ⟨sd, hK2 _ _ ?_⟩
 refine Wp.ret ?_
 refine retQ_ret ?_
 cases hm
 exact fse1
theorem ok_ver_each_i1 (s_1 : Str) (most_2 : Int) (z : Bool) (hm : ver_each_i1 s_1 most_2 = some z) : Does Try.prog 43 [.p (.s s_1), .p (.i .i64 most_2), .fn 44 []] [] (fun r X => r = .p (.b z) ∧ X = []) := by
 unfold ver_each_i1 at hm
 refine Does.of_wp 0 28 [.tmp 6] Try.func43 rfl (by decide) rfl rfl (Nat.le_of_ble_eq_true rfl) fun B => ?_
 refine qS ?_
 refine Wp.seqW fun K2 hK2 hW2 => ?_
 obtain ⟨k_12, hk_12, hm⟩ := jp_elim hm
 have hcut2 : ∀ s, k_12 s = some z → K2 [(0, .p (.s s_1)), (1, .p (.i .i64 most_2))] [] := by
  intro s hs
  have hm := hk_12 _ hs
  clear hs
  try dsimp only at hm
  try dsimp only
  refine hK2 _ _ ?_
  refine qS ?_
  refine Wp.ret ?_
  refine retQ_ret ?_
  cases hm
  exact fse1
 clear hK2 hk_12
 refine qS ?_
 refine Wp.block ?_
 obtain ⟨k_16, hk_16, hm⟩ := forL_cont hm
 refine Wp.fact 0 fun hl_19 => ?_
 replace hl_19 : s_1.length ≤ 274877906944 := by
  simp only [go_sem, simprocAttr, List.length_map] at hl_19
  omega
 refine Wp.forL (fun i_18 s => [(0, .p (.s s_1)), (1, .p (.i .i64 most_2)), (2, .fn 44 []), (7, .p (.i .i64 (i_18 : Int)))]) (fun i_18 s => []) ?_ hm ?_
 ·
  exact fse1
 clear hm
 intro i_18 s hii_18 hm
 try dsimp only at hm
 try dsimp only
 refine Wp.seqW fun K5 hK5 hW5 => ?_
 refine qS ?_
 refine Wp.cond rfl ⟨⟩ (fun hc5 => ?_) (fun hc5 => ?_)
 rotate_left
 ·refine Wp.exit ?_
  have hm := hk_16 _ (forL_end hm (ge_nat (by first | exact hc5 | simpa using hc5)))
  try dsimp only at hm
  refine hW2 _ _ _ _ ?_ (hcut2 () hm)
  exact fse1
 have hlt5 := lt_nat (by first | exact hc5 | simpa using hc5)
 have hw5 := wrap_succ hlt5 hl_19
 obtain ⟨c_20, nx_17, hxc_20, hyc_20, hnx_17, hm⟩ := forL_step hm hlt5
 clear hxc_20
 refine Wp.skip ?_
 simp only [thenQ]
 refine hK5 _ _ ?_
 refine Wp.seqW fun K7 hK7 hW7 => ?_
 refine Wp.block ?_
 obtain ⟨r_21, hr_21, hm⟩ := call_elim hm
 refine Wp.seqR fun K8 hK8 => ?_
 simp only [go_sem, simprocAttr, hw5, hyc_20]
 try refine ⟨sd, ?_⟩
 refine Rg.callX (av := ?av9) (g := true) (fun hg => ok_ver_IsName_1 (c_20.toNat : Int) _ hr_21) (by simp only [go_sem, simprocAttr, hw5, hyc_20]; exact Is.mk) (by simp only [go_sem, simprocAttr, hw5, hyc_20]; exact Is.mk) (by simp only [go_sem, simprocAttr, hw5, hyc_20]; exact Is.mk) (by simp only [go_sem, simprocAttr, hw5, hyc_20]) (by simp only [go_sem, simprocAttr, hw5, hyc_20]; exact Is.mk) ?cont9
 intro hv9
 simp only [go_sem, simprocAttr, hw5, hyc_20]
 first | apply hK8 | refine ⟨sd, hK8 _ _ ?_⟩
 refine cM hm (fun hc10 hm => ?_) (fun hc10 hm => ?_)
 ·refine Wp.seqR fun K11 hK11 => ?_
  simp only [go_sem, simprocAttr, hw5, hyc_20]
  first | apply hK11 | refine ⟨sd, hK11 _ _ ?_⟩
  refine Wp.ret ?_
  refine retQ_ret ?_
  cases hm
  simp only [go_sem, simprocAttr, hw5, hyc_20]
  try exact se1
 ·refine Wp.skip ?_
  refine hK7 _ _ ?_
  refine Wp.region fun K12 hK12 => ?_
  simp only [go_sem, simprocAttr, hw5, hyc_20]
  first | apply hK12 | refine ⟨sd, hK12 _ _ ?_⟩
  simp only [thenQ, blockQ, ↓reduceIte]
  refine ⟨(), hlt5, hnx_17 _ hm, ?_⟩
  simp only [go_sem, simprocAttr, hw5, hyc_20]
  try exact se1
theorem ok_ver_IsName (s_1 : Str) (z : Bool) (hm : ver_IsName s_1 = some z) : Does Try.prog 18 [.p (.s s_1)] [] (fun r X => r = .p (.b z) ∧ X = []) := by
 unfold ver_IsName at hm
 refine Does.of_wp 0 10 [.tmp 2] Try.func18 rfl (by decide) rfl rfl (Nat.le_of_ble_eq_true rfl) fun B => ?_
 refine qS ?_
 obtain ⟨r_2, hr_2, hm⟩ := call_elim hm
 obtain ⟨c_3, hm⟩ := chk_elim hm
 obtain ⟨r_4, hr_4, hm⟩ := callG_elim hm
 refine Wp.seqR fun K2 hK2 => ?_
 simp only [go_sem, simprocAttr]
 try refine ⟨by first | exact sd | ((repeat' apply And.intro) <;> first | assumption | omega | (simp only [List.length_append, List.length_map, List.length_cons, List.length_nil, List.length_set, List.length_replicate] at c_3 ⊢; omega)), ?_⟩
 refine Rg.callX (av := ?av3) (g := true) (fun hg => ok_ver_each_i1 s_1 40 _ hr_2) si si si sg si ?cont3
 intro hv3
 simp only [go_sem, simprocAttr]
 try refine ⟨by first | exact sd | ((repeat' apply And.intro) <;> first | assumption | omega | (simp only [List.length_append, List.length_map, List.length_cons, List.length_nil, List.length_set, List.length_replicate] at c_3 ⊢; omega)), ?_⟩
 refine Rg.callX (av := ?av4) (g := r_2) (fun hg => ok_ver_isSmall ((s_1.getD 0 0).toNat : Int) _ (hr_4 hg)) si si si sg si ?cont4
 intro hv4
 simp only [go_sem, simprocAttr]
 first | apply hK2 | refine ⟨by first | exact sd | ((repeat' apply And.intro) <;> first | assumption | omega | (simp only [List.length_append, List.length_map, List.length_cons, List.length_nil, List.length_set, List.length_replicate] at c_3 ⊢; omega)), hK2 _ _ ?_⟩
 refine Wp.ret ?_
 refine retQ_ret ?_
 cases hm
 exact fse1
theorem ok_Law_landed  (z : Bool) (hm : Law_landed = some z) : Does Try.prog 5 [] [] (fun r X => r = .p (.b z) ∧ X = []) := by
 unfold Law_landed at hm
 refine Does.of_wp 0 2 [.tmp 0] Try.func5 rfl (by decide) rfl rfl (Nat.le_of_ble_eq_true rfl) fun B => ?_
 refine qS ?_
 obtain ⟨r_1, hr_1, hm⟩ := call_elim hm
 refine Wp.seqR fun K2 hK2 => ?_
 simp only [go_sem, simprocAttr]
 try refine ⟨sd, ?_⟩
 refine Rg.callX (av := ?av3) (g := true) (fun hg => ok_ver_IsName ([97] : Str) _ hr_1) si si si sg si ?cont3
 intro hv3
 simp only [go_sem, simprocAttr]
 first | apply hK2 | refine ⟨sd, hK2 _ _ ?_⟩
 refine Wp.ret ?_
 refine retQ_ret ?_
 cases hm
 exact fse1
theorem ok_delta_outside (n_1 : Int) (low_2 : Int) (high_3 : Int) (z : Bool) (hm : delta_outside n_1 low_2 high_3 = some z) : Does Try.prog 34 [.p (.i .i64 n_1), .p (.i .i64 low_2), .p (.i .i64 high_3)] [] (fun r X => r = .p (.b z) ∧ X = []) := by
 unfold delta_outside at hm
 refine Does.of_wp 0 15 [.tmp 6] Try.func34 rfl (by decide) rfl rfl (Nat.le_of_ble_eq_true rfl) fun B => ?_
 refine qS ?_
 refine qS ?_
 refine Wp.ret ?_
 refine retQ_ret ?_
 cases hm
 exact fse2
theorem ok_R_when (bad_1 : Bool) (e_2 : Int) (z : Int) (hm : R_when bad_1 e_2 = some z) : Does Try.prog 29 [.p (.b bad_1), .p (.i .i64 e_2)] [] (fun r X => r = .p (.i .i64 z) ∧ X = []) := by
 unfold R_when at hm
 refine Does.of_wp 0 7 [.tmp 4] Try.func29 rfl (by decide) rfl rfl (Nat.le_of_ble_eq_true rfl) fun B => ?_
 refine qS ?_
 refine Wp.seqW fun K2 hK2 hW2 => ?_
 refine qS ?_
 refine cM hm (fun hc4 hm => ?_) (fun hc4 hm => ?_)
 ·refine qS ?_
  refine Wp.ret ?_
  refine retQ_ret ?_
  cases hm
  exact fse2
 ·refine Wp.skip ?_
  refine hK2 _ _ ?_
  refine qS ?_
  refine Wp.ret ?_
  refine retQ_ret ?_
  cases hm
  exact fse2
theorem ok_R_first (l_1 : List Int) (z : Int) (hm : R_first l_1 = some z) : Does Try.prog 28 [.p (.l (List.map ecI_i64 l_1))] [] (fun r X => r = .p (.i .i64 z) ∧ X = []) := by
 unfold R_first at hm
 refine Does.of_wp 0 15 [.tmp 2] Try.func28 rfl (by decide) rfl rfl (Nat.le_of_ble_eq_true rfl) fun B => ?_
 refine qS ?_
 refine Wp.seqW fun K2 hK2 hW2 => ?_
 obtain ⟨k_9, hk_9, hm⟩ := jp_elim hm
 have hcut2 : ∀ s, k_9 s = some z → K2 [] [] := by
  intro s hs
  have hm := hk_9 _ hs
  clear hs
  try dsimp only at hm
  try dsimp only
  refine hK2 _ _ ?_
  refine qS ?_
  refine Wp.ret ?_
  refine retQ_ret ?_
  cases hm
  exact fse2
 clear hK2 hk_9
 refine qS ?_
 refine Wp.block ?_
 obtain ⟨k_12, hk_12, hm⟩ := forL_cont hm
 refine Wp.fact 5 fun hl_15 => ?_
 replace hl_15 : l_1.length ≤ 274877906944 := by
  simp only [go_sem, simprocAttr, List.length_map] at hl_15
  omega
 refine Wp.forL (fun i_14 s => [(5, .p (.l (List.map ecI_i64 l_1))), (6, .p (.i .i64 (l_1.length : Int))), (7, .p (.i .i64 (i_14 : Int)))]) (fun i_14 s => []) ?_ hm ?_
 ·
  exact fse2
 clear hm
 intro i_14 s hii_14 hm
 try dsimp only at hm
 try dsimp only
 refine qS ?_
 refine Wp.seqW fun K6 hK6 hW6 => ?_
 refine Wp.cond rfl ⟨⟩ (fun hc6 => ?_) (fun hc6 => ?_)
 rotate_left
 ·refine Wp.exit ?_
  have hm := hk_12 _ (forL_end hm (ge_nat (by first | exact hc6 | simpa using hc6)))
  try dsimp only at hm
  refine hW2 _ _ _ _ ?_ (hcut2 () hm)
  exact fse2
 have hlt6 := lt_nat (by first | exact hc6 | simpa using hc6)
 have hw6 := wrap_succ hlt6 hl_15
 obtain ⟨e_16, nx_13, hxe_16, hye_16, hnx_13, hm⟩ := forL_step hm hlt6
 replace hxe_16 := hxe_16 ecI_i64
 refine Wp.skip ?_
 simp only [thenQ]
 refine hK6 _ _ ?_
 refine Wp.seqW fun K7 hK7 hW7 => ?_
 refine Wp.block ?_
 refine Wp.seqR fun K8 hK8 => ?_
 simp only [go_sem, simprocAttr, hw6, hxe_16]
 first | apply hK8 | refine ⟨sd, hK8 _ _ ?_⟩
 refine Wp.seqR fun K9 hK9 => ?_
 simp only [go_sem, simprocAttr, hw6, hxe_16]
 first | apply hK9 | refine ⟨sd, hK9 _ _ ?_⟩
 refine cM hm (fun hc10 hm => ?_) (fun hc10 hm => ?_)
 ·refine Wp.seqR fun K11 hK11 => ?_
  simp only [go_sem, simprocAttr, hw6, hxe_16]
  first | apply hK11 | refine ⟨sd, hK11 _ _ ?_⟩
  refine Wp.ret ?_
  refine retQ_ret ?_
  cases hm
  simp only [go_sem, simprocAttr, hw6, hxe_16]
  try exact se2
 ·refine Wp.skip ?_
  refine hK7 _ _ ?_
  refine Wp.region fun K12 hK12 => ?_
  simp only [go_sem, simprocAttr, hw6, hxe_16]
  first | apply hK12 | refine ⟨sd, hK12 _ _ ?_⟩
  simp only [thenQ, blockQ, ↓reduceIte]
  refine ⟨(), hlt6, hnx_13 _ hm, ?_⟩
  simp only [go_sem, simprocAttr, hw6, hxe_16]
  try exact se2
theorem ok_R_WaysError (l_1 : List api_Way) (sizes_2 : List Int) (z : Int) (hm : R_WaysError l_1 sizes_2 = some z) : Does Try.prog 13 [.p (.l (List.map enc_api_Way l_1)), .p (.l (List.map ecI_i64 sizes_2))] [] (fun r X => r = .p (.i .i64 z) ∧ X = []) := by
 unfold R_WaysError at hm
 refine Does.of_wp 0 81 [.tmp 4] Try.func13 rfl (by decide) rfl rfl (Nat.le_of_ble_eq_true rfl) fun B => ?_
 refine qS ?_
 refine Wp.seqW fun K2 hK2 hW2 => ?_
 refine qS ?_
 refine cM hm (fun hc4 hm => ?_) (fun hc4 hm => ?_)
 ·refine qS ?_
  refine Wp.ret ?_
  refine retQ_ret ?_
  cases hm
  exact fse3
 ·refine Wp.skip ?_
  refine hK2 _ _ ?_
  refine Wp.seqW fun K6 hK6 hW6 => ?_
  obtain ⟨k_10, hk_10, hm⟩ := jp_elim hm
  have hcut6 : ∀ s, k_10 s = some z → K6 [(0, .p (.l (List.map enc_api_Way l_1))), (1, .p (.l (List.map ecI_i64 sizes_2)))] [] := by
   intro s hs
   have hm := hk_10 _ hs
   clear hs
   try dsimp only at hm
   try dsimp only
   refine hK6 _ _ ?_
   refine Wp.seqW fun K7 hK7 hW7 => ?_
   obtain ⟨k_26, hk_26, hm⟩ := jp_elim hm
   have hcut7 : ∀ s, k_26 s = some z → K7 [] [] := by
    intro s hs
    have hm := hk_26 _ hs
    clear hs
    try dsimp only at hm
    try dsimp only
    refine hK7 _ _ ?_
    refine qS ?_
    refine Wp.ret ?_
    refine retQ_ret ?_
    cases hm
    exact fse3
   clear hK7 hk_26
   refine qS ?_
   refine Wp.block ?_
   obtain ⟨k_33, hk_33, hm⟩ := forL_cont hm
   refine Wp.fact 31 fun hl_36 => ?_
   replace hl_36 : l_1.length ≤ 274877906944 := by
    simp only [go_sem, simprocAttr, List.length_map] at hl_36
    omega
   refine Wp.forL (fun i_35 s => [(1, .p (.l (List.map ecI_i64 sizes_2))), (31, .p (.l (List.map enc_api_Way l_1))), (32, .p (.i .i64 (l_1.length : Int))), (33, .p (.i .i64 (i_35 : Int)))]) (fun i_35 s => []) ?_ hm ?_
   ·
    exact fse3
   clear hm
   intro i_35 s hii_35 hm
   try dsimp only at hm
   try dsimp only
   refine qS ?_
   refine Wp.seqW fun K11 hK11 hW11 => ?_
   refine Wp.cond rfl ⟨⟩ (fun hc11 => ?_) (fun hc11 => ?_)
   rotate_left
   ·refine Wp.exit ?_
    have hm := hk_33 _ (forL_end hm (ge_nat (by first | exact hc11 | simpa using hc11)))
    try dsimp only at hm
    refine hW7 _ _ _ _ ?_ (hcut7 () hm)
    exact fse3
   have hlt11 := lt_nat (by first | exact hc11 | simpa using hc11)
   have hw11 := wrap_succ hlt11 hl_36
   obtain ⟨w_37, nx_34, hxw_37, hyw_37, hnx_34, hm⟩ := forL_step hm hlt11
   replace hxw_37 := hxw_37 enc_api_Way
   refine Wp.skip ?_
   simp only [thenQ]
   refine hK11 _ _ ?_
   refine Wp.seqW fun K12 hK12 hW12 => ?_
   refine Wp.block ?_
   refine Wp.seqR fun K13 hK13 => ?_
   simp only [go_sem, simprocAttr, hw11, hxw_37]
   first | apply hK13 | refine ⟨sd, hK13 _ _ ?_⟩
   obtain ⟨r_38, hr_38, hm⟩ := call_elim hm
   obtain ⟨r_39, hr_39, hm⟩ := call_elim hm
   obtain ⟨r_40, hr_40, hm⟩ := call_elim hm
   obtain ⟨r_41, hr_41, hm⟩ := call_elim hm
   refine Wp.seqD (plan := pl [(0, none), (1, none), (2, none), (3, none), (4, none), (5, none), (6, none), (7, none), (8, none), (9, none), (10, none), (11, none), (12, none), (13, none), (14, none), (15, none), (16, none), (17, none), (18, none), (19, none), (20, none), (21, none), (22, none), (23, none), (24, none), (25, none), (26, none), (27, none), (28, none), (29, none), (30, none), (31, none), (32, none), (33, none), (34, none), (35, none), (36, none), (37, none), (38, some []), (39, none), (40, none)]) (by kernel_rfl) rfl (by kernel_rfl) fun K14 hK14 => ?_
   simp only [go_sem, simprocAttr, hw11, hxw_37]
   try refine ⟨sd, ?_⟩
   refine Dr.callF (av := ?av15) (g := true) (o := ?o15) (fun hg => ok_R_when ((((decide (w_37.From < 0)) || (decide ((sizes_2.length : Int) ≤ w_37.From))) || (decide (w_37.To < 0))) || (decide ((sizes_2.length : Int) ≤ w_37.To))) 10 _ hr_38) (by simp only [go_sem, simprocAttr, hw11, hxw_37]; exact Is.mk) (by simp only [go_sem, simprocAttr, hw11, hxw_37]; exact Is.mk) (by simp only [go_sem, simprocAttr, hw11, hxw_37]; exact Is.mk) (by simp only [go_sem, simprocAttr, hw11, hxw_37]; exact Is.mk) (by simp only [go_sem, simprocAttr, hw11, hxw_37]) (by simp only [go_sem, simprocAttr, hw11, hxw_37]; exact Is.mk) ?cont15
   simp only [go_sem, simprocAttr, hw11, hxw_37]
   try refine ⟨sd, ?_⟩
   refine Dr.callF (av := ?av16) (g := true) (o := ?o16) (fun hg => ok_R_when (decide (w_37.From = w_37.To)) 2 _ hr_39) (by simp only [go_sem, simprocAttr, hw11, hxw_37]; exact Is.mk) (by simp only [go_sem, simprocAttr, hw11, hxw_37]; exact Is.mk) (by simp only [go_sem, simprocAttr, hw11, hxw_37]; exact Is.mk) (by simp only [go_sem, simprocAttr, hw11, hxw_37]; exact Is.mk) (by simp only [go_sem, simprocAttr, hw11, hxw_37]) (by simp only [go_sem, simprocAttr, hw11, hxw_37]; exact Is.mk) ?cont16
   simp only [go_sem, simprocAttr, hw11, hxw_37]
   try refine ⟨sd, ?_⟩
   refine Dr.callF (av := ?av17) (g := true) (o := ?o17) (fun hg => ok_R_when ((decide (w_37.Cost < 0)) || (decide (1000000000 < w_37.Cost))) 3 _ hr_40) (by simp only [go_sem, simprocAttr, hw11, hxw_37]; exact Is.mk) (by simp only [go_sem, simprocAttr, hw11, hxw_37]; exact Is.mk) (by simp only [go_sem, simprocAttr, hw11, hxw_37]; exact Is.mk) (by simp only [go_sem, simprocAttr, hw11, hxw_37]; exact Is.mk) (by simp only [go_sem, simprocAttr, hw11, hxw_37]) (by simp only [go_sem, simprocAttr, hw11, hxw_37]; exact Is.mk) ?cont17
   simp only [go_sem, simprocAttr, hw11, hxw_37]
   try refine ⟨sd, ?_⟩
   refine Dr.callF (av := ?av18) (g := true) (o := ?o18) (fun hg => ok_R_first [r_38, r_39, r_40] _ hr_41) (by simp only [go_sem, simprocAttr, hw11, hxw_37]; exact Is.mk) (by simp only [go_sem, simprocAttr, hw11, hxw_37]; exact Is.mk) (by simp only [go_sem, simprocAttr, hw11, hxw_37]; exact Is.mk) (by simp only [go_sem, simprocAttr, hw11, hxw_37]; exact Is.mk) (by simp only [go_sem, simprocAttr, hw11, hxw_37]) (by simp only [go_sem, simprocAttr, hw11, hxw_37]; exact Is.mk) ?cont18
   simp only [go_sem, simprocAttr, hw11, hxw_37]
   first | apply hK14 | refine ⟨sd, hK14 _ _ ?_⟩
   refine Wp.seqR fun K19 hK19 => ?_
   simp only [go_sem, simprocAttr, hw11, hxw_37]
   first | apply hK19 | refine ⟨sd, hK19 _ _ ?_⟩
   refine cM hm (fun hc20 hm => ?_) (fun hc20 hm => ?_)
   ·refine Wp.seqR fun K21 hK21 => ?_
    simp only [go_sem, simprocAttr, hw11, hxw_37]
    first | apply hK21 | refine ⟨sd, hK21 _ _ ?_⟩
    refine Wp.ret ?_
    refine retQ_ret ?_
    cases hm
    simp only [go_sem, simprocAttr, hw11, hxw_37]
    try exact se3
   ·refine Wp.skip ?_
    refine hK12 _ _ ?_
    refine Wp.region fun K22 hK22 => ?_
    simp only [go_sem, simprocAttr, hw11, hxw_37]
    first | apply hK22 | refine ⟨sd, hK22 _ _ ?_⟩
    simp only [thenQ, blockQ, ↓reduceIte]
    refine ⟨(), hlt11, hnx_34 _ hm, ?_⟩
    simp only [go_sem, simprocAttr, hw11, hxw_37]
    try exact se3
  clear hK6 hk_10
  refine qS ?_
  refine Wp.block ?_
  obtain ⟨k_44, hk_44, hm⟩ := forL_cont hm
  refine Wp.fact 1 fun hl_47 => ?_
  replace hl_47 : sizes_2.length ≤ 274877906944 := by
   simp only [go_sem, simprocAttr, List.length_map] at hl_47
   omega
  refine Wp.forL (fun i_46 s => [(0, .p (.l (List.map enc_api_Way l_1))), (1, .p (.l (List.map ecI_i64 sizes_2))), (18, .p (.l (List.map ecI_i64 sizes_2))), (19, .p (.i .i64 (sizes_2.length : Int))), (20, .p (.i .i64 (i_46 : Int)))]) (fun i_46 s => []) ?_ hm ?_
  ·
   exact fse3
  clear hm
  intro i_46 s hii_46 hm
  try dsimp only at hm
  try dsimp only
  refine qS ?_
  refine Wp.seqW fun K25 hK25 hW25 => ?_
  refine Wp.cond rfl ⟨⟩ (fun hc25 => ?_) (fun hc25 => ?_)
  rotate_left
  ·refine Wp.exit ?_
   have hm := hk_44 _ (forL_end hm (ge_nat (by first | exact hc25 | simpa using hc25)))
   try dsimp only at hm
   refine hW6 _ _ _ _ ?_ (hcut6 () hm)
   exact fse3
  have hlt25 := lt_nat (by first | exact hc25 | simpa using hc25)
  have hw25 := wrap_succ hlt25 hl_47
  obtain ⟨n_48, nx_45, hxn_48, hyn_48, hnx_45, hm⟩ := forL_step hm hlt25
  replace hxn_48 := hxn_48 ecI_i64
  refine Wp.skip ?_
  simp only [thenQ]
  refine hK25 _ _ ?_
  refine Wp.seqW fun K26 hK26 hW26 => ?_
  refine Wp.block ?_
  refine Wp.seqR fun K27 hK27 => ?_
  simp only [go_sem, simprocAttr, hw25, hxn_48]
  first | apply hK27 | refine ⟨sd, hK27 _ _ ?_⟩
  refine Wp.seqR fun K28 hK28 => ?_
  simp only [go_sem, simprocAttr, hw25, hxn_48]
  first | apply hK28 | refine ⟨sd, hK28 _ _ ?_⟩
  refine cM hm (fun hc29 hm => ?_) (fun hc29 hm => ?_)
  ·refine Wp.seqR fun K30 hK30 => ?_
   simp only [go_sem, simprocAttr, hw25, hxn_48]
   first | apply hK30 | refine ⟨sd, hK30 _ _ ?_⟩
   refine Wp.ret ?_
   refine retQ_ret ?_
   cases hm
   simp only [go_sem, simprocAttr, hw25, hxn_48]
   try exact se3
  ·refine Wp.skip ?_
   refine hK26 _ _ ?_
   refine Wp.region fun K31 hK31 => ?_
   simp only [go_sem, simprocAttr, hw25, hxn_48]
   first | apply hK31 | refine ⟨sd, hK31 _ _ ?_⟩
   simp only [thenQ, blockQ, ↓reduceIte]
   refine ⟨(), hlt25, hnx_45 _ hm, ?_⟩
   simp only [go_sem, simprocAttr, hw25, hxn_48]
   try exact se3
theorem ok_delta_CheckWays (l_1 : List api_Way) (sizes_2 : List Int) (z : Int) (hm : delta_CheckWays l_1 sizes_2 = some z) : Does Try.prog 15 [.p (.l (List.map enc_api_Way l_1)), .p (.l (List.map ecI_i64 sizes_2))] [] (fun r X => r = .p (.i .i64 z) ∧ X = []) := by
 unfold delta_CheckWays at hm
 refine Does.of_wp 0 58 [.tmp 4] Try.func15 rfl (by decide) rfl rfl (Nat.le_of_ble_eq_true rfl) fun B => ?_
 refine qS ?_
 refine Wp.seqW fun K2 hK2 hW2 => ?_
 refine qS ?_
 refine cM hm (fun hc4 hm => ?_) (fun hc4 hm => ?_)
 ·refine qS ?_
  refine Wp.ret ?_
  refine retQ_ret ?_
  cases hm
  exact fse3
 ·refine Wp.skip ?_
  refine hK2 _ _ ?_
  refine Wp.seqW fun K6 hK6 hW6 => ?_
  obtain ⟨k_12, hk_12, hm⟩ := jp_elim hm
  have hcut6 : ∀ s, k_12 s = some z → K6 [(0, .p (.l (List.map enc_api_Way l_1))), (1, .p (.l (List.map ecI_i64 sizes_2)))] [] := by
   intro s hs
   have hm := hk_12 _ hs
   clear hs
   try dsimp only at hm
   try dsimp only
   refine hK6 _ _ ?_
   refine Wp.seqW fun K7 hK7 hW7 => ?_
   obtain ⟨k_26, hk_26, hm⟩ := jp_elim hm
   have hcut7 : ∀ s, k_26 s = some z → K7 [] [] := by
    intro s hs
    have hm := hk_26 _ hs
    clear hs
    try dsimp only at hm
    try dsimp only
    refine hK7 _ _ ?_
    refine qS ?_
    refine Wp.ret ?_
    refine retQ_ret ?_
    cases hm
    exact fse3
   clear hK7 hk_26
   refine qS ?_
   refine Wp.block ?_
   obtain ⟨k_32, hk_32, hm⟩ := forL_cont hm
   refine Wp.fact 26 fun hl_35 => ?_
   replace hl_35 : l_1.length ≤ 274877906944 := by
    simp only [go_sem, simprocAttr, List.length_map] at hl_35
    omega
   refine Wp.forL (fun i_34 s => [(1, .p (.l (List.map ecI_i64 sizes_2))), (26, .p (.l (List.map enc_api_Way l_1))), (27, .p (.i .i64 (l_1.length : Int))), (28, .p (.i .i64 (i_34 : Int)))]) (fun i_34 s => []) ?_ hm ?_
   ·
    exact fse3
   clear hm
   intro i_34 s hii_34 hm
   try dsimp only at hm
   try dsimp only
   refine qS ?_
   refine Wp.seqW fun K11 hK11 hW11 => ?_
   refine Wp.cond rfl ⟨⟩ (fun hc11 => ?_) (fun hc11 => ?_)
   rotate_left
   ·refine Wp.exit ?_
    have hm := hk_32 _ (forL_end hm (ge_nat (by first | exact hc11 | simpa using hc11)))
    try dsimp only at hm
    refine hW7 _ _ _ _ ?_ (hcut7 () hm)
    exact fse3
   have hlt11 := lt_nat (by first | exact hc11 | simpa using hc11)
   have hw11 := wrap_succ hlt11 hl_35
   obtain ⟨w_36, nx_33, hxw_36, hyw_36, hnx_33, hm⟩ := forL_step hm hlt11
   replace hxw_36 := hxw_36 enc_api_Way
   refine Wp.skip ?_
   simp only [thenQ]
   refine hK11 _ _ ?_
   refine Wp.seqW fun K12 hK12 hW12 => ?_
   refine Wp.block ?_
   refine Wp.seqR fun K13 hK13 => ?_
   simp only [go_sem, simprocAttr, hw11, hxw_36]
   first | apply hK13 | refine ⟨sd, hK13 _ _ ?_⟩
   refine Wp.block ?_
   obtain ⟨r_37, hr_37, hm⟩ := call_elim hm
   obtain ⟨r_38, hr_38, hm⟩ := callG_elim hm
   refine Wp.seqR fun K14 hK14 => ?_
   simp only [go_sem, simprocAttr, hw11, hxw_36]
   try refine ⟨sd, ?_⟩
   refine Rg.callX (av := ?av15) (g := true) (fun hg => ok_delta_outside w_36.From 0 (IntKind.i64.wrap ((sizes_2.length : Int) - 1)) _ hr_37) (by simp only [go_sem, simprocAttr, hw11, hxw_36]; exact Is.mk) (by simp only [go_sem, simprocAttr, hw11, hxw_36]; exact Is.mk) (by simp only [go_sem, simprocAttr, hw11, hxw_36]; exact Is.mk) (by simp only [go_sem, simprocAttr, hw11, hxw_36]) (by simp only [go_sem, simprocAttr, hw11, hxw_36]; exact Is.mk) ?cont15
   intro hv15
   simp only [go_sem, simprocAttr, hw11, hxw_36]
   try refine ⟨sd, ?_⟩
   refine Rg.callX (av := ?av16) (g := !r_37) (fun hg => ok_delta_outside w_36.To 0 (IntKind.i64.wrap ((sizes_2.length : Int) - 1)) _ (hr_38 hg)) (by simp only [go_sem, simprocAttr, hw11, hxw_36]; exact Is.mk) (by simp only [go_sem, simprocAttr, hw11, hxw_36]; exact Is.mk) (by simp only [go_sem, simprocAttr, hw11, hxw_36]; exact Is.mk) (by simp only [go_sem, simprocAttr, hw11, hxw_36]) (by simp only [go_sem, simprocAttr, hw11, hxw_36]; exact Is.mk) ?cont16
   intro hv16
   simp only [go_sem, simprocAttr, hw11, hxw_36]
   first | apply hK14 | refine ⟨sd, hK14 _ _ ?_⟩
   refine cM hm (fun hc17 hm => ?_) (fun hc17 hm => ?_)
   ·refine Wp.seqR fun K18 hK18 => ?_
    simp only [go_sem, simprocAttr, hw11, hxw_36]
    first | apply hK18 | refine ⟨sd, hK18 _ _ ?_⟩
    refine Wp.ret ?_
    refine retQ_ret ?_
    cases hm
    simp only [go_sem, simprocAttr, hw11, hxw_36]
    try exact se3
   ·refine Wp.seqR fun K19 hK19 => ?_
    simp only [go_sem, simprocAttr, hw11, hxw_36]
    first | apply hK19 | refine ⟨sd, hK19 _ _ ?_⟩
    refine cM hm (fun hc20 hm => ?_) (fun hc20 hm => ?_)
    ·refine Wp.seqR fun K21 hK21 => ?_
     simp only [go_sem, simprocAttr, hw11, hxw_36]
     first | apply hK21 | refine ⟨sd, hK21 _ _ ?_⟩
     refine Wp.ret ?_
     refine retQ_ret ?_
     cases hm
     simp only [go_sem, simprocAttr, hw11, hxw_36]
     try exact se3
    ·obtain ⟨r_39, hr_39, hm⟩ := call_elim hm
     refine Wp.seqR fun K22 hK22 => ?_
     simp only [go_sem, simprocAttr, hw11, hxw_36]
     try refine ⟨sd, ?_⟩
     refine Rg.callX (av := ?av23) (g := true) (fun hg => ok_delta_outside w_36.Cost 0 1000000000 _ hr_39) (by simp only [go_sem, simprocAttr, hw11, hxw_36]; exact Is.mk) (by simp only [go_sem, simprocAttr, hw11, hxw_36]; exact Is.mk) (by simp only [go_sem, simprocAttr, hw11, hxw_36]; exact Is.mk) (by simp only [go_sem, simprocAttr, hw11, hxw_36]) (by simp only [go_sem, simprocAttr, hw11, hxw_36]; exact Is.mk) ?cont23
     intro hv23
     simp only [go_sem, simprocAttr, hw11, hxw_36]
     first | apply hK22 | refine ⟨sd, hK22 _ _ ?_⟩
     refine cM hm (fun hc24 hm => ?_) (fun hc24 hm => ?_)
     ·refine Wp.seqR fun K25 hK25 => ?_
      simp only [go_sem, simprocAttr, hw11, hxw_36]
      first | apply hK25 | refine ⟨sd, hK25 _ _ ?_⟩
      refine Wp.ret ?_
      refine retQ_ret ?_
      cases hm
      simp only [go_sem, simprocAttr, hw11, hxw_36]
      try exact se3
     ·refine Wp.skip ?_
      refine hK12 _ _ ?_
      refine Wp.region fun K26 hK26 => ?_
      simp only [go_sem, simprocAttr, hw11, hxw_36]
      first | apply hK26 | refine ⟨sd, hK26 _ _ ?_⟩
      simp only [thenQ, blockQ, ↓reduceIte]
      refine ⟨(), hlt11, hnx_33 _ hm, ?_⟩
      simp only [go_sem, simprocAttr, hw11, hxw_36]
      try exact se3
  clear hK6 hk_12
  refine qS ?_
  refine Wp.block ?_
  obtain ⟨k_43, hk_43, hm⟩ := forL_cont hm
  refine Wp.fact 1 fun hl_46 => ?_
  replace hl_46 : sizes_2.length ≤ 274877906944 := by
   simp only [go_sem, simprocAttr, List.length_map] at hl_46
   omega
  refine Wp.forL (fun i_45 s => [(0, .p (.l (List.map enc_api_Way l_1))), (1, .p (.l (List.map ecI_i64 sizes_2))), (17, .p (.l (List.map ecI_i64 sizes_2))), (18, .p (.i .i64 (sizes_2.length : Int))), (19, .p (.i .i64 (i_45 : Int)))]) (fun i_45 s => []) ?_ hm ?_
  ·
   exact fse3
  clear hm
  intro i_45 s hii_45 hm
  try dsimp only at hm
  try dsimp only
  refine qS ?_
  refine Wp.seqW fun K29 hK29 hW29 => ?_
  refine Wp.cond rfl ⟨⟩ (fun hc29 => ?_) (fun hc29 => ?_)
  rotate_left
  ·refine Wp.exit ?_
   have hm := hk_43 _ (forL_end hm (ge_nat (by first | exact hc29 | simpa using hc29)))
   try dsimp only at hm
   refine hW6 _ _ _ _ ?_ (hcut6 () hm)
   exact fse3
  have hlt29 := lt_nat (by first | exact hc29 | simpa using hc29)
  have hw29 := wrap_succ hlt29 hl_46
  obtain ⟨n_47, nx_44, hxn_47, hyn_47, hnx_44, hm⟩ := forL_step hm hlt29
  replace hxn_47 := hxn_47 ecI_i64
  refine Wp.skip ?_
  simp only [thenQ]
  refine hK29 _ _ ?_
  refine Wp.seqW fun K30 hK30 hW30 => ?_
  refine Wp.block ?_
  refine Wp.seqR fun K31 hK31 => ?_
  simp only [go_sem, simprocAttr, hw29, hxn_47]
  first | apply hK31 | refine ⟨sd, hK31 _ _ ?_⟩
  obtain ⟨r_48, hr_48, hm⟩ := call_elim hm
  refine Wp.seqR fun K32 hK32 => ?_
  simp only [go_sem, simprocAttr, hw29, hxn_47]
  try refine ⟨sd, ?_⟩
  refine Rg.callX (av := ?av33) (g := true) (fun hg => ok_delta_outside n_47 0 1000000000 _ hr_48) (by simp only [go_sem, simprocAttr, hw29, hxn_47]; exact Is.mk) (by simp only [go_sem, simprocAttr, hw29, hxn_47]; exact Is.mk) (by simp only [go_sem, simprocAttr, hw29, hxn_47]; exact Is.mk) (by simp only [go_sem, simprocAttr, hw29, hxn_47]) (by simp only [go_sem, simprocAttr, hw29, hxn_47]; exact Is.mk) ?cont33
  intro hv33
  simp only [go_sem, simprocAttr, hw29, hxn_47]
  first | apply hK32 | refine ⟨sd, hK32 _ _ ?_⟩
  refine cM hm (fun hc34 hm => ?_) (fun hc34 hm => ?_)
  ·refine Wp.seqR fun K35 hK35 => ?_
   simp only [go_sem, simprocAttr, hw29, hxn_47]
   first | apply hK35 | refine ⟨sd, hK35 _ _ ?_⟩
   refine Wp.ret ?_
   refine retQ_ret ?_
   cases hm
   simp only [go_sem, simprocAttr, hw29, hxn_47]
   try exact se3
  ·refine Wp.skip ?_
   refine hK30 _ _ ?_
   refine Wp.region fun K36 hK36 => ?_
   simp only [go_sem, simprocAttr, hw29, hxn_47]
   first | apply hK36 | refine ⟨sd, hK36 _ _ ?_⟩
   simp only [thenQ, blockQ, ↓reduceIte]
   refine ⟨(), hlt29, hnx_44 _ hm, ?_⟩
   simp only [go_sem, simprocAttr, hw29, hxn_47]
   try exact se3
theorem ok_cmp_isNaN_int (x_1 : Int) (z : Bool) (hm : cmp_isNaN_int x_1 = some z) : Does Try.prog 60 [.p (.i .i64 x_1)] [] (fun r X => r = .p (.b z) ∧ X = []) := by
 unfold cmp_isNaN_int at hm
 refine Does.of_wp 0 6 [.tmp 2] Try.func60 rfl (by decide) rfl rfl (Nat.le_of_ble_eq_true rfl) fun B => ?_
 refine qS ?_
 refine qS ?_
 refine Wp.ret ?_
 refine retQ_ret ?_
 cases hm
 exact fse4
theorem ok_cmp_Compare_int (x_1 : Int) (y_2 : Int) (z : Int) (hm : cmp_Compare_int x_1 y_2 = some z) : Does Try.prog 54 [.p (.i .i64 x_1), .p (.i .i64 y_2)] [] (fun r X => r = .p (.i .i64 z) ∧ X = []) := by
 unfold cmp_Compare_int at hm
 refine Does.of_wp 0 20 [.tmp 4] Try.func54 rfl (by decide) rfl rfl (Nat.le_of_ble_eq_true rfl) fun B => ?_
 refine qS ?_
 obtain ⟨r_3, hr_3, hm⟩ := call_elim hm
 refine Wp.seqR fun K2 hK2 => ?_
 simp only [go_sem, simprocAttr]
 try refine ⟨sd, ?_⟩
 refine Rg.callX (av := ?av3) (g := true) (fun hg => ok_cmp_isNaN_int x_1 _ hr_3) si si si sg si ?cont3
 intro hv3
 simp only [go_sem, simprocAttr]
 first | apply hK2 | refine ⟨sd, hK2 _ _ ?_⟩
 obtain ⟨r_4, hr_4, hm⟩ := call_elim hm
 refine Wp.seqR fun K4 hK4 => ?_
 simp only [go_sem, simprocAttr]
 try refine ⟨sd, ?_⟩
 refine Rg.callX (av := ?av5) (g := true) (fun hg => ok_cmp_isNaN_int y_2 _ hr_4) si si si sg si ?cont5
 intro hv5
 simp only [go_sem, simprocAttr]
 first | apply hK4 | refine ⟨sd, hK4 _ _ ?_⟩
 refine Wp.seqW fun K6 hK6 hW6 => ?_
 refine qS ?_
 refine cM hm (fun hc8 hm => ?_) (fun hc8 hm => ?_)
 ·refine Wp.seqW fun K9 hK9 hW9 => ?_
  refine qS ?_
  refine cM hm (fun hc11 hm => ?_) (fun hc11 hm => ?_)
  ·refine qS ?_
   refine Wp.ret ?_
   refine retQ_ret ?_
   cases hm
   exact fse4
  ·refine Wp.skip ?_
   refine hK9 _ _ ?_
   refine qS ?_
   refine Wp.ret ?_
   refine retQ_ret ?_
   cases hm
   exact fse4
 ·refine Wp.skip ?_
  refine hK6 _ _ ?_
  refine Wp.seqW fun K14 hK14 hW14 => ?_
  refine qS ?_
  refine cM hm (fun hc16 hm => ?_) (fun hc16 hm => ?_)
  ·refine qS ?_
   refine Wp.ret ?_
   refine retQ_ret ?_
   cases hm
   exact fse4
  ·refine Wp.skip ?_
   refine hK14 _ _ ?_
   refine Wp.seqW fun K18 hK18 hW18 => ?_
   refine qS ?_
   refine cM hm (fun hc20 hm => ?_) (fun hc20 hm => ?_)
   ·refine qS ?_
    refine Wp.ret ?_
    refine retQ_ret ?_
    cases hm
    exact fse4
   ·refine Wp.skip ?_
    refine hK18 _ _ ?_
    refine Wp.seqW fun K22 hK22 hW22 => ?_
    refine qS ?_
    refine cM hm (fun hc24 hm => ?_) (fun hc24 hm => ?_)
    ·refine qS ?_
     refine Wp.ret ?_
     refine retQ_ret ?_
     cases hm
     exact fse4
    ·refine Wp.skip ?_
     refine hK22 _ _ ?_
     refine qS ?_
     refine Wp.ret ?_
     refine retQ_ret ?_
     cases hm
     exact fse4
theorem ok_slices_Compare_int_int (s1_1 : List Int) (s2_2 : List Int) (z : Int) (hm : slices_Compare_int_int s1_1 s2_2 = some z) : Does Try.prog 55 [.p (.l (List.map ecI_i64 s1_1)), .p (.l (List.map ecI_i64 s2_2))] [] (fun r X => r = .p (.i .i64 z) ∧ X = []) := by
 unfold slices_Compare_int_int at hm
 refine Does.of_wp 0 36 [.tmp 4] Try.func55 rfl (by decide) rfl rfl (Nat.le_of_ble_eq_true rfl) fun B => ?_
 refine qS ?_
 refine Wp.seqW fun K2 hK2 hW2 => ?_
 obtain ⟨k_14, hk_14, hm⟩ := jp_elim hm
 have hcut2 : ∀ s, k_14 s = some z → K2 [(0, .p (.l (List.map ecI_i64 s1_1))), (1, .p (.l (List.map ecI_i64 s2_2)))] [] := by
  intro s hs
  have hm := hk_14 _ hs
  clear hs
  try dsimp only at hm
  try dsimp only
  refine hK2 _ _ ?_
  refine Wp.seqW fun K3 hK3 hW3 => ?_
  refine qS ?_
  refine cM hm (fun hc5 hm => ?_) (fun hc5 hm => ?_)
  ·refine qS ?_
   refine Wp.ret ?_
   refine retQ_ret ?_
   cases hm
   exact fse4
  ·refine Wp.skip ?_
   refine hK3 _ _ ?_
   refine qS ?_
   refine Wp.ret ?_
   refine retQ_ret ?_
   cases hm
   exact fse4
 clear hK2 hk_14
 refine qS ?_
 refine Wp.block ?_
 obtain ⟨k_19, hk_19, hm⟩ := forL_cont hm
 refine Wp.fact 0 fun hl_22 => ?_
 replace hl_22 : s1_1.length ≤ 274877906944 := by
  simp only [go_sem, simprocAttr, List.length_map] at hl_22
  omega
 refine Wp.forL (fun i_21 s => [(0, .p (.l (List.map ecI_i64 s1_1))), (1, .p (.l (List.map ecI_i64 s2_2))), (9, .p (.l (List.map ecI_i64 s1_1))), (10, .p (.i .i64 (s1_1.length : Int))), (11, .p (.i .i64 (i_21 : Int)))]) (fun i_21 s => []) ?_ hm ?_
 ·
  exact fse4
 clear hm
 intro i_21 s hii_21 hm
 try dsimp only at hm
 try dsimp only
 refine qS ?_
 refine Wp.seqW fun K10 hK10 hW10 => ?_
 refine Wp.cond rfl ⟨⟩ (fun hc10 => ?_) (fun hc10 => ?_)
 rotate_left
 ·refine Wp.exit ?_
  have hm := hk_19 _ (forL_end hm (ge_nat (by first | exact hc10 | simpa using hc10)))
  try dsimp only at hm
  refine hW2 _ _ _ _ ?_ (hcut2 () hm)
  exact fse4
 have hlt10 := lt_nat (by first | exact hc10 | simpa using hc10)
 have hw10 := wrap_succ hlt10 hl_22
 obtain ⟨n_23, nx_20, hxn_23, hyn_23, hnx_20, hm⟩ := forL_step hm hlt10
 replace hxn_23 := hxn_23 ecI_i64
 refine Wp.skip ?_
 simp only [thenQ]
 refine hK10 _ _ ?_
 refine Wp.seqW fun K11 hK11 hW11 => ?_
 refine Wp.block ?_
 refine Wp.seqR fun K12 hK12 => ?_
 simp only [go_sem, simprocAttr, hw10, hxn_23]
 first | apply hK12 | refine ⟨sd, hK12 _ _ ?_⟩
 refine Wp.seqW fun K13 hK13 hW13 => ?_
 refine Wp.seqR fun K14 hK14 => ?_
 simp only [go_sem, simprocAttr, hw10, hxn_23]
 first | apply hK14 | refine ⟨sd, hK14 _ _ ?_⟩
 refine cM hm (fun hc15 hm => ?_) (fun hc15 hm => ?_)
 ·refine Wp.seqR fun K16 hK16 => ?_
  simp only [go_sem, simprocAttr, hw10, hxn_23]
  first | apply hK16 | refine ⟨sd, hK16 _ _ ?_⟩
  refine Wp.ret ?_
  refine retQ_ret ?_
  cases hm
  simp only [go_sem, simprocAttr, hw10, hxn_23]
  try exact se4
 ·refine Wp.skip ?_
  refine hK13 _ _ ?_
  obtain ⟨n_24, hbn_24, hxn_24, hyn_24, hm⟩ := idx_elim hm
  replace hxn_24 : ∀ d, (List.map ecI_i64 s2_2).getD i_21 d = ecI_i64 n_24 := hxn_24 ecI_i64
  refine Wp.seqR fun K17 hK17 => ?_
  simp only [go_sem, simprocAttr, hw10, hxn_23, hxn_24]
  first | apply hK17 | refine ⟨sd, hK17 _ _ ?_⟩
  obtain ⟨r_25, hr_25, hm⟩ := call_elim hm
  refine Wp.seqR fun K18 hK18 => ?_
  simp only [go_sem, simprocAttr, hw10, hxn_23, hxn_24]
  try refine ⟨sd, ?_⟩
  refine Rg.callX (av := ?av19) (g := true) (fun hg => ok_cmp_Compare_int n_23 n_24 _ hr_25) (by simp only [go_sem, simprocAttr, hw10, hxn_23, hxn_24]; exact Is.mk) (by simp only [go_sem, simprocAttr, hw10, hxn_23, hxn_24]; exact Is.mk) (by simp only [go_sem, simprocAttr, hw10, hxn_23, hxn_24]; exact Is.mk) (by simp only [go_sem, simprocAttr, hw10, hxn_23, hxn_24]) (by simp only [go_sem, simprocAttr, hw10, hxn_23, hxn_24]; exact Is.mk) ?cont19
  intro hv19
  simp only [go_sem, simprocAttr, hw10, hxn_23, hxn_24]
  first | apply hK18 | refine ⟨sd, hK18 _ _ ?_⟩
  refine Wp.seqR fun K20 hK20 => ?_
  simp only [go_sem, simprocAttr, hw10, hxn_23, hxn_24]
  first | apply hK20 | refine ⟨sd, hK20 _ _ ?_⟩
  refine cM hm (fun hc21 hm => ?_) (fun hc21 hm => ?_)
  ·refine Wp.seqR fun K22 hK22 => ?_
   simp only [go_sem, simprocAttr, hw10, hxn_23, hxn_24]
   first | apply hK22 | refine ⟨sd, hK22 _ _ ?_⟩
   refine Wp.ret ?_
   refine retQ_ret ?_
   cases hm
   simp only [go_sem, simprocAttr, hw10, hxn_23, hxn_24]
   try exact se4
  ·refine Wp.skip ?_
   refine hK11 _ _ ?_
   refine Wp.region fun K23 hK23 => ?_
   simp only [go_sem, simprocAttr, hw10, hxn_23, hxn_24]
   first | apply hK23 | refine ⟨sd, hK23 _ _ ?_⟩
   simp only [thenQ, blockQ, ↓reduceIte]
   refine ⟨(), hlt10, hnx_20 _ hm, ?_⟩
   simp only [go_sem, simprocAttr, hw10, hxn_23, hxn_24]
   try exact se4
theorem ok_cmp_Or_int (vals_1 : List Int) (z : Int) (hm : cmp_Or_int vals_1 = some z) : Does Try.prog 53 [.p (.l (List.map ecI_i64 vals_1))] [] (fun r X => r = .p (.i .i64 z) ∧ X = []) := by
 unfold cmp_Or_int at hm
 refine Does.of_wp 0 18 [.tmp 2] Try.func53 rfl (by decide) rfl rfl (Nat.le_of_ble_eq_true rfl) fun B => ?_
 refine qS ?_
 refine qS ?_
 refine Wp.seqW fun K3 hK3 hW3 => ?_
 obtain ⟨k_9, hk_9, hm⟩ := jp_elim hm
 have hcut3 : ∀ s, k_9 s = some z → K3 [(3, .p (.i .i64 0))] [] := by
  intro s hs
  have hm := hk_9 _ hs
  clear hs
  try dsimp only at hm
  try dsimp only
  refine hK3 _ _ ?_
  refine qS ?_
  refine Wp.ret ?_
  refine retQ_ret ?_
  cases hm
  exact fse4
 clear hK3 hk_9
 refine qS ?_
 refine Wp.block ?_
 obtain ⟨k_12, hk_12, hm⟩ := forL_cont hm
 refine Wp.fact 6 fun hl_15 => ?_
 replace hl_15 : vals_1.length ≤ 274877906944 := by
  simp only [go_sem, simprocAttr, List.length_map] at hl_15
  omega
 refine Wp.forL (fun i_14 s => [(3, .p (.i .i64 0)), (6, .p (.l (List.map ecI_i64 vals_1))), (7, .p (.i .i64 (vals_1.length : Int))), (8, .p (.i .i64 (i_14 : Int)))]) (fun i_14 s => []) ?_ hm ?_
 ·
  exact fse4
 clear hm
 intro i_14 s hii_14 hm
 try dsimp only at hm
 try dsimp only
 refine qS ?_
 refine Wp.seqW fun K7 hK7 hW7 => ?_
 refine Wp.cond rfl ⟨⟩ (fun hc7 => ?_) (fun hc7 => ?_)
 rotate_left
 ·refine Wp.exit ?_
  have hm := hk_12 _ (forL_end hm (ge_nat (by first | exact hc7 | simpa using hc7)))
  try dsimp only at hm
  refine hW3 _ _ _ _ ?_ (hcut3 () hm)
  exact fse4
 have hlt7 := lt_nat (by first | exact hc7 | simpa using hc7)
 have hw7 := wrap_succ hlt7 hl_15
 obtain ⟨n_16, nx_13, hxn_16, hyn_16, hnx_13, hm⟩ := forL_step hm hlt7
 replace hxn_16 := hxn_16 ecI_i64
 refine Wp.skip ?_
 simp only [thenQ]
 refine hK7 _ _ ?_
 refine Wp.seqW fun K8 hK8 hW8 => ?_
 refine Wp.block ?_
 refine Wp.seqR fun K9 hK9 => ?_
 simp only [go_sem, simprocAttr, hw7, hxn_16]
 first | apply hK9 | refine ⟨sd, hK9 _ _ ?_⟩
 refine Wp.seqR fun K10 hK10 => ?_
 simp only [go_sem, simprocAttr, hw7, hxn_16]
 first | apply hK10 | refine ⟨sd, hK10 _ _ ?_⟩
 refine cM hm (fun hc11 hm => ?_) (fun hc11 hm => ?_)
 ·refine Wp.seqR fun K12 hK12 => ?_
  simp only [go_sem, simprocAttr, hw7, hxn_16]
  first | apply hK12 | refine ⟨sd, hK12 _ _ ?_⟩
  refine Wp.ret ?_
  refine retQ_ret ?_
  cases hm
  simp only [go_sem, simprocAttr, hw7, hxn_16]
  try exact se4
 ·refine Wp.skip ?_
  refine hK8 _ _ ?_
  refine Wp.region fun K13 hK13 => ?_
  simp only [go_sem, simprocAttr, hw7, hxn_16]
  first | apply hK13 | refine ⟨sd, hK13 _ _ ?_⟩
  simp only [thenQ, blockQ, ↓reduceIte]
  refine ⟨(), hlt7, hnx_13 _ hm, ?_⟩
  simp only [go_sem, simprocAttr, hw7, hxn_16]
  try exact se4
theorem ok_delta_compareRoutes (a_1 : delta_route) (b_2 : delta_route) (z : Int) (hm : delta_compareRoutes a_1 b_2 = some z) : Does Try.prog 36 [.agg [.p (.i .i64 a_1.cost), .p (.l (List.map ecI_i64 a_1.list)), .p (.b a_1.done), .p (.b a_1.any)], .agg [.p (.i .i64 b_2.cost), .p (.l (List.map ecI_i64 b_2.list)), .p (.b b_2.done), .p (.b b_2.any)]] [] (fun r X => r = .p (.i .i64 z) ∧ X = []) := by
 unfold delta_compareRoutes at hm
 refine Does.of_wp 0 24 [.tmp 4] Try.func36 rfl (by decide) rfl rfl (Nat.le_of_ble_eq_true rfl) fun B => ?_
 refine qS ?_
 obtain ⟨r_3, hr_3, hm⟩ := call_elim hm
 obtain ⟨r_4, hr_4, hm⟩ := call_elim hm
 obtain ⟨r_5, hr_5, hm⟩ := call_elim hm
 obtain ⟨r_6, hr_6, hm⟩ := call_elim hm
 refine Wp.seqD (plan := pl [(0, none), (1, none), (2, none), (3, none), (4, none), (5, none), (6, none), (7, none), (8, none), (9, none), (10, none), (11, none), (12, none), (13, none), (14, none), (15, none), (16, none), (17, some []), (18, none), (19, none)]) (by kernel_rfl) rfl (by kernel_rfl) fun K2 hK2 => ?_
 simp only [go_sem, simprocAttr]
 try refine ⟨sd, ?_⟩
 refine Dr.callF (av := ?av3) (g := true) (o := ?o3) (fun hg => ok_cmp_Compare_int a_1.cost b_2.cost _ hr_3) si si si si sg si ?cont3
 simp only [go_sem, simprocAttr]
 try refine ⟨sd, ?_⟩
 refine Dr.callF (av := ?av4) (g := true) (o := ?o4) (fun hg => ok_cmp_Compare_int (a_1.list.length : Int) (b_2.list.length : Int) _ hr_4) si si si si sg si ?cont4
 simp only [go_sem, simprocAttr]
 try refine ⟨sd, ?_⟩
 refine Dr.callF (av := ?av5) (g := true) (o := ?o5) (fun hg => ok_slices_Compare_int_int a_1.list b_2.list _ hr_5) si si si si sg si ?cont5
 simp only [go_sem, simprocAttr]
 try refine ⟨sd, ?_⟩
 refine Dr.callF (av := ?av6) (g := true) (o := ?o6) (fun hg => ok_cmp_Or_int [r_3, r_4, r_5] _ hr_6) si si si si sg si ?cont6
 simp only [go_sem, simprocAttr]
 first | apply hK2 | refine ⟨sd, hK2 _ _ ?_⟩
 refine Wp.ret ?_
 refine retQ_ret ?_
 cases hm
 exact fse4
theorem ok_delta_Best_1_i1 (v_1 : Int) (r_2 : delta_route) (o1_3 : List delta_route) (z : List delta_route) (hm : delta_Best_1_i1 v_1 r_2 o1_3 = some z) : Does Try.prog 35 [.p (.i .i64 v_1), .agg [.p (.i .i64 r_2.cost), .p (.l (List.map ecI_i64 r_2.list)), .p (.b r_2.done), .p (.b r_2.any)], .ptr 0 0] [.cells 74 [.buf 1], .buf 76 4 (List.map enc_delta_route o1_3)] (fun r X => r = .tup [] ∧ X = [.cells 74 [.buf 1], .buf 76 4 (List.map enc_delta_route z)]) := by
 unfold delta_Best_1_i1 at hm
 refine Does.of_wp 2 24 [] Try.func35 rfl (by decide) rfl rfl (Nat.le_of_ble_eq_true rfl) fun B => ?_
 refine qS ?_
 obtain ⟨c_14, hm⟩ := chk_elim hm
 obtain ⟨c_15, hm⟩ := chk_elim hm
 obtain ⟨r_16, hr_16, hm⟩ := callG_elim hm
 refine Wp.seqDW (plan := pl [(0, none), (1, none), (2, none), (3, none), (4, none), (5, none), (6, none), (7, none), (8, none), (9, none), (10, none), (11, none), (12, none), (13, none), (14, none)]) (by kernel_rfl) rfl (by kernel_rfl) fun K2 hK2 hW2 => ?_
 suffices hcont2 : K2 [(0, .p (.i .i64 v_1)), (1, .agg [.p (.i .i64 r_2.cost), .p (.l (List.map ecI_i64 r_2.list)), .p (.b r_2.done), .p (.b r_2.any)]), (2, .ptr 0 0), (4, .ptr 2 0), (19, .p (.b ((!((o1_3.getD v_1.toNat (delta_route.mk 0 [] false false)).any)) || (decide (r_16 < 0)))))] [.cells 74 [.buf 1], .buf 76 4 (List.map enc_delta_route o1_3), .cells 76 [.p (.i .i64 r_2.cost), .p (.l (List.map ecI_i64 r_2.list)), .p (.b r_2.done), .p (.b r_2.any)]] by
  rcases Bool.eq_false_or_eq_true ((o1_3.getD v_1.toNat (delta_route.mk 0 [] false false)).any) with hg_17 | hg_17
  ·
   have hg_18 : (!(!((o1_3.getD v_1.toNat (delta_route.mk 0 [] false false)).any))) = true := by revert hg_17; generalize (o1_3.getD v_1.toNat (delta_route.mk 0 [] false false)).any = x0; revert x0; decide
   have c_19 := c_15 hg_18
   try dsimp only at c_19
   have hr_20 := fun h => getD_encB (l := o1_3) (e := enc_delta_route) (d := (delta_route.mk 0 [] false false)) (i := v_1.toNat) h []
   simp only [go_sem, simprocAttr, false_implies, and_true, true_and, bad, hg_17, hg_18, hr_20 (by omega)]
   try refine ⟨by first | exact sd | ((repeat' apply And.intro) <;> first | assumption | omega | (simp only [List.length_append, List.length_map, List.length_cons, List.length_nil, List.length_set, List.length_replicate] at c_14 c_15 c_19 ⊢; omega)), ?_⟩
   refine Dr.callF (av := ?av3) (g := !(!((o1_3.getD v_1.toNat (delta_route.mk 0 [] false false)).any))) (o := ?o3) (fun hg => ok_delta_compareRoutes r_2 (delta_route.mk ((o1_3.getD v_1.toNat (delta_route.mk 0 [] false false)).cost) ((o1_3.getD v_1.toNat (delta_route.mk 0 [] false false)).list) ((o1_3.getD v_1.toNat (delta_route.mk 0 [] false false)).done) ((o1_3.getD v_1.toNat (delta_route.mk 0 [] false false)).any)) _ (hr_16 hg)) (by simp only [go_sem, simprocAttr, false_implies, and_true, true_and, bad, hg_17, hg_18, hr_20 (by omega)]; exact Is.mk) (by simp only [go_sem, simprocAttr, false_implies, and_true, true_and, bad, hg_17, hg_18, hr_20 (by omega)]; exact Is.mk) (by simp only [go_sem, simprocAttr, false_implies, and_true, true_and, bad, hg_17, hg_18, hr_20 (by omega)]; exact Is.mk) (by simp only [go_sem, simprocAttr, false_implies, and_true, true_and, bad, hg_17, hg_18, hr_20 (by omega)]; exact Is.mk) (by simp only [go_sem, simprocAttr, false_implies, and_true, true_and, bad, hg_17, hg_18, hr_20 (by omega)]) (by simp only [go_sem, simprocAttr, false_implies, and_true, true_and, bad, hg_17, hg_18, hr_20 (by omega)]; exact Is.mk) ?cont3
   simp only [go_sem, simprocAttr, false_implies, and_true, true_and, bad, hg_17, hg_18, hr_20 (by omega)]
   first | refine hW2 _ _ _ _ ?_ hcont2 | refine ⟨by first | exact sd | ((repeat' apply And.intro) <;> first | assumption | omega | (simp only [List.length_append, List.length_map, List.length_cons, List.length_nil, List.length_set, List.length_replicate] at c_14 c_15 c_19 ⊢; omega)), hW2 _ _ _ _ ?_ hcont2⟩
   simp only [go_sem, simprocAttr, false_implies, and_true, true_and, bad, hg_17, hg_18, hr_20 (by omega)]
   try exact se4
  ·
   have hg_21 : (!(!((o1_3.getD v_1.toNat (delta_route.mk 0 [] false false)).any))) = false := by revert hg_17; generalize (o1_3.getD v_1.toNat (delta_route.mk 0 [] false false)).any = x0; revert x0; decide
   have hr_22 := fun h => getD_encB (l := o1_3) (e := enc_delta_route) (d := (delta_route.mk 0 [] false false)) (i := v_1.toNat) h []
   simp only [go_sem, simprocAttr, false_implies, and_true, true_and, bad, hg_17, hg_21, hr_22 (by omega)]
   try refine ⟨by first | exact sd | ((repeat' apply And.intro) <;> first | assumption | omega | (simp only [List.length_append, List.length_map, List.length_cons, List.length_nil, List.length_set, List.length_replicate] at c_14 c_15 ⊢; omega)), ?_⟩
   refine Dr.skipG (o := ?o4) (v := .p (.i .i64 r_16)) (gw := ?gw4) (by simp only [go_sem, simprocAttr, false_implies, and_true, true_and, bad, hg_17, hg_21, hr_22 (by omega)]; exact Is.mk) (by simp only [go_sem, simprocAttr, false_implies, and_true, true_and, bad, hg_17, hg_21, hr_22 (by omega)]; exact Is.mk) (by simp only [go_sem, simprocAttr, false_implies, and_true, true_and, bad, hg_17, hg_21, hr_22 (by omega)]; exact Is.mk) (by simp only [go_sem, simprocAttr, false_implies, and_true, true_and, bad, hg_17, hg_21, hr_22 (by omega)]) ?cont4
   simp only [go_sem, simprocAttr, false_implies, and_true, true_and, bad, hg_17, hg_21, hr_22 (by omega)]
   first | refine hW2 _ _ _ _ ?_ hcont2 | refine ⟨by first | exact sd | ((repeat' apply And.intro) <;> first | assumption | omega | (simp only [List.length_append, List.length_map, List.length_cons, List.length_nil, List.length_set, List.length_replicate] at c_14 c_15 ⊢; omega)), hW2 _ _ _ _ ?_ hcont2⟩
   simp only [go_sem, simprocAttr, false_implies, and_true, true_and, bad, hg_17, hg_21, hr_22 (by omega)]
   try exact se4
 refine hK2 _ _ ?_
 refine cM hm (fun hc5 hm => ?_) (fun hc5 hm => ?_)
 ·obtain ⟨c_23, hm⟩ := chk_elim hm
  refine Wp.region fun K6 hK6 => ?_
  simp only [go_sem, simprocAttr]
  first | apply hK6 | refine ⟨by first | exact sd | ((repeat' apply And.intro) <;> first | assumption | omega | (simp only [List.length_append, List.length_map, List.length_cons, List.length_nil, List.length_set, List.length_replicate] at c_23 ⊢; omega)), hK6 _ _ ?_⟩
  refine retQ_normal ?_
  cases hm
  exact fse4
 ·refine Wp.skip ?_
  refine retQ_normal ?_
  cases hm
  exact fse4
theorem ok_delta_Best_2_1_i1 (v_1 : Int) (cost_2 : Int) (o0_0_3 : Int) (o2_4 : List delta_route) (o4_0_5 : Int) (o4_1_6 : List Int) (o4_2_7 : Bool) (o4_3_8 : Bool) (z : List delta_route) (hm : delta_Best_2_1_i1 v_1 cost_2 o0_0_3 o2_4 o4_0_5 o4_1_6 o4_2_7 o4_3_8 = some z) : Does Try.prog 38 [.p (.i .i64 v_1), .p (.i .i64 cost_2), .ptr 0 0, .ptr 1 0, .ptr 3 0, .ptr 4 0] [.cells 3 [.p (.i .i64 o0_0_3)], .cells 74 [.buf 2], .buf 76 4 (List.map enc_delta_route o2_4), .cells 78 [.fn 35 [.ptr 1 0]], .cells 76 [.p (.i .i64 o4_0_5), .p (.l (List.map ecI_i64 o4_1_6)), .p (.b o4_2_7), .p (.b o4_3_8)]] (fun r X => r = .tup [] ∧ X = [.cells 3 [.p (.i .i64 o0_0_3)], .cells 74 [.buf 2], .buf 76 4 (List.map enc_delta_route z), .cells 78 [.fn 35 [.ptr 1 0]], .cells 76 [.p (.i .i64 o4_0_5), .p (.l (List.map ecI_i64 o4_1_6)), .p (.b o4_2_7), .p (.b o4_3_8)]]) := by
 unfold delta_Best_2_1_i1 at hm
 refine Does.of_wp 5 39 [] Try.func38 rfl (by decide) rfl rfl (Nat.le_of_ble_eq_true rfl) fun B => ?_
 obtain ⟨c_23, hm⟩ := chk_elim hm
 refine Wp.seqRW fun K1 hK1 hW1 => ?_
 suffices hcont1 : K1 [(0, .p (.i .i64 v_1)), (1, .p (.i .i64 cost_2)), (4, .ptr 3 0), (5, .ptr 4 0), (18, .p (.b ((!decide (v_1 = o0_0_3)) && (!((o2_4.getD v_1.toNat (delta_route.mk 0 [] false false)).done)))))] [.cells 3 [.p (.i .i64 o0_0_3)], .cells 74 [.buf 2], .buf 76 4 (List.map enc_delta_route o2_4), .cells 78 [.fn 35 [.ptr 1 0]], .cells 76 [.p (.i .i64 o4_0_5), .p (.l (List.map ecI_i64 o4_1_6)), .p (.b o4_2_7), .p (.b o4_3_8)]] by
  rcases Bool.eq_false_or_eq_true (decide (v_1 = o0_0_3)) with hg_24 | hg_24
  ·
   have hg_25 : (!decide (v_1 = o0_0_3)) = false := by revert hg_24; generalize decide (v_1 = o0_0_3) = x0; revert x0; decide
   rcases Nat.lt_or_ge v_1.toNat o2_4.length with hi_26 | hi_26
   ·
    have hr_27 := getD_encB (l := o2_4) (e := enc_delta_route) (d := (delta_route.mk 0 [] false false)) (i := v_1.toNat) hi_26 []
    simp only [go_sem, simprocAttr, false_implies, and_true, true_and, bad, hg_24, hg_25, hr_27]
    first | refine hW1 _ _ _ _ ?_ hcont1 | refine ⟨by first | exact sd | ((repeat' apply And.intro) <;> first | assumption | omega | (simp only [List.length_append, List.length_map, List.length_cons, List.length_nil, List.length_set, List.length_replicate] at c_23 ⊢; omega)), hW1 _ _ _ _ ?_ hcont1⟩
    simp only [go_sem, simprocAttr, false_implies, and_true, true_and, bad, hg_24, hg_25, hr_27]
    try exact se4
   ·
    have hr_27 : (List.map enc_delta_route o2_4).getD v_1.toNat [] = [] := by rw [List.getD_eq_getElem?_getD, List.getElem?_eq_none (by simpa using hi_26)]; rfl
    simp only [go_sem, simprocAttr, false_implies, and_true, true_and, bad, hg_24, hg_25, hr_27]
    first | refine hW1 _ _ _ _ ?_ hcont1 | refine ⟨by first | exact sd | ((repeat' apply And.intro) <;> first | assumption | omega | (simp only [List.length_append, List.length_map, List.length_cons, List.length_nil, List.length_set, List.length_replicate] at c_23 ⊢; omega)), hW1 _ _ _ _ ?_ hcont1⟩
    simp only [go_sem, simprocAttr, false_implies, and_true, true_and, bad, hg_24, hg_25, hr_27]
    try exact se4
  ·
   have hg_28 : (!decide (v_1 = o0_0_3)) = true := by revert hg_24; generalize decide (v_1 = o0_0_3) = x0; revert x0; decide
   have c_29 := c_23 hg_28
   try dsimp only at c_29
   have hr_30 := fun h => getD_encB (l := o2_4) (e := enc_delta_route) (d := (delta_route.mk 0 [] false false)) (i := v_1.toNat) h []
   simp only [go_sem, simprocAttr, false_implies, and_true, true_and, bad, hg_24, hg_28, hr_30 (by omega)]
   first | refine hW1 _ _ _ _ ?_ hcont1 | refine ⟨by first | exact sd | ((repeat' apply And.intro) <;> first | assumption | omega | (simp only [List.length_append, List.length_map, List.length_cons, List.length_nil, List.length_set, List.length_replicate] at c_23 c_29 ⊢; omega)), hW1 _ _ _ _ ?_ hcont1⟩
   simp only [go_sem, simprocAttr, false_implies, and_true, true_and, bad, hg_24, hg_28, hr_30 (by omega)]
   try exact se4
 refine hK1 _ _ ?_
 refine cM hm (fun hc2 hm => ?_) (fun hc2 hm => ?_)
 ·obtain ⟨c_31, hm⟩ := chk_elim hm
  obtain ⟨c_32, hm⟩ := chk_elim hm
  obtain ⟨r_33, hr_33, hm⟩ := call_elim hm
  refine Wp.regD (plan := pl [(0, none), (1, none), (2, none), (3, none), (4, none), (5, none), (6, none), (7, none), (8, none), (9, none), (10, none), (11, none), (12, none), (13, none), (14, none), (15, none), (16, some [0, 1, 2, 3, 4, 5, 6, 7, 8, 9, 10, 11, 12, 13, 14]), (17, some [0, 1, 2, 3, 4, 5]), (18, none), (19, some [])]) (by kernel_rfl) rfl (by kernel_rfl) fun K3 hK3 => ?_
  simp only [go_sem, simprocAttr]
  try refine ⟨by first | exact sd | ((repeat' apply And.intro) <;> first | assumption | omega | (simp only [List.length_append, List.length_map, List.length_cons, List.length_nil, List.length_set, List.length_replicate] at c_31 c_32 ⊢; omega)), ?_⟩
  refine Dr.of_br (Br.callS (av := ?av4) (o := ?o4) 2 [1, 2] (ok_delta_Best_1_i1 v_1 (delta_route.mk (IntKind.i64.wrap (o4_0_5 + cost_2)) ((List.take o4_1_6.length o4_1_6) ++ [v_1]) false true) o2_4 _ hr_33) si si si si si sg sg sg sg ?cont4)
  simp only [go_sem, simprocAttr]
  first | apply hK3 | refine ⟨by first | exact sd | ((repeat' apply And.intro) <;> first | assumption | omega | (simp only [List.length_append, List.length_map, List.length_cons, List.length_nil, List.length_set, List.length_replicate] at c_31 c_32 ⊢; omega)), hK3 _ _ ?_⟩
  refine retQ_normal ?_
  cases hm
  exact fse4
 ·refine Wp.skip ?_
  refine retQ_normal ?_
  cases hm
  exact fse4
end Go.Proofs.Ytoieghljolfkaaa
