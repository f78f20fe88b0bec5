/- That the code does what the models say (part 2). -/
import Derived.Test.YtbbkahmljdogiaaDoorKcWk0
import Derived.Test.YtbbkahmljdogiaaDoorKcWk1
set_option linter.unusedSimpArgs false
set_option linter.unusedVariables false
open Go.Proofs Go.Shelf
namespace Go.Proofs.YtbbkahmljdogiaaDoor
open Go.Vc Go.Md
set_option maxRecDepth 100000
set_option maxHeartbeats 4000000
theorem ok_R_change (x_1 : api_Item) (z : api_Change) (hm : R_change x_1 = some z) : Does Tryd.prog 19 [.agg [.p (.i .i64 x_1.Kind), .p (.s x_1.File.Path), .p (.s x_1.File.Data), .p (.b x_1.File.Runs), .p (.s x_1.Setting.Key), .p (.s x_1.Setting.Value), .p (.s x_1.Service.Name), .p (.s x_1.Service.Path), .p (.b x_1.Service.Auto), .p (.b x_1.Service.On)]] [] (fun r X => r = .agg [.p (.i .i64 z.Kind), .p (.s z.File.Path), .p (.s z.File.Data), .p (.b z.File.Runs), .p (.s z.Setting.Key), .p (.s z.Setting.Value), .p (.s z.Service.Name), .p (.s z.Service.Path), .p (.b z.Service.Auto), .p (.b z.Service.On)] ∧ X = []) := by
 unfold R_change at hm
 refine Does.of_wp 0 16 [.cell 2 50] Tryd.func19 rfl (by decide) rfl rfl (Nat.le_of_ble_eq_true rfl) fun B => ?_
 refine qS ?_
 obtain ⟨r_2, hr_2, hm⟩ := call_elim hm
 obtain ⟨n_3, hbn_3, hxn_3, hyn_3, hm⟩ := idx_elim hm
 replace hxn_3 : ∀ d, (List.map ecI_i64 [1, 3, 5]).getD r_2.toNat d = ecI_i64 n_3 := hxn_3 ecI_i64
 simp only [List.map_cons, List.map_nil, ecI_i64] at hxn_3
 refine Wp.seqD (plan := pl [(1, none), (2, none), (3, none), (6, none), (7, none), (8, none), (9, none), (10, none), (11, none), (0, some [1, 2, 3, 6, 7, 8, 9, 10, 11]), (4, none), (5, none), (12, none), (13, some [])]) (by kernel_rfl) rfl (by kernel_rfl) fun K2 hK2 => ?_
 simp only [go_sem, simprocAttr, hxn_3]
 try refine ⟨sd, ?_⟩
 refine Dr.callF (av := ?av3) (g := true) (o := ?o3) (fun hg => ok_R_thingOf x_1.Kind _ hr_2) (by simp only [go_sem, simprocAttr, hxn_3]; exact Is.mk) (by simp only [go_sem, simprocAttr, hxn_3]; exact Is.mk) (by simp only [go_sem, simprocAttr, hxn_3]; exact Is.mk) (by simp only [go_sem, simprocAttr, hxn_3]; exact Is.mk) (by simp only [go_sem, simprocAttr, hxn_3]) (by simp only [go_sem, simprocAttr, hxn_3]; exact Is.mk) ?cont3
 simp only [go_sem, simprocAttr, hxn_3]
 first | apply hK2 | refine ⟨sd, hK2 _ _ ?_⟩
 refine Wp.ret ?_
 refine retQ_ret ?_
 cases hm
 simp only [go_sem, simprocAttr, hxn_3]
 try exact se2
theorem ok_R_isPart (s_1 : Str) (z : Bool) (hm : R_isPart s_1 = some z) : Does Tryd.prog 34 [.p (.s s_1)] [] (fun r X => r = .p (.b z) ∧ X = []) := by
 unfold R_isPart at hm
 refine Does.of_wp 0 63 [.tmp 2] Tryd.func34 rfl (by decide) rfl rfl (Nat.le_of_ble_eq_true rfl) fun B => ?_
 refine qS ?_
 refine Wp.seqW fun K2 hK2 hW2 => ?_
 obtain ⟨k_9, hk_9, hm⟩ := jp_elim hm
 have hcut2 : ∀ s, k_9 s = some z → K2 [(0, .p (.s s_1))] [] := by
  intro s hs
  have hm := hk_9 _ hs
  clear hs
  try dsimp only at hm
  try dsimp only
  refine hK2 _ _ ?_
  refine qS ?_
  refine Wp.ret ?_
  refine retQ_ret ?_
  cases hm
  exact fse2
 clear hK2 hk_9
 refine qS ?_
 refine Wp.block ?_
 obtain ⟨k_12, hk_12, hm⟩ := forL_cont hm
 refine Wp.fact 0 fun hl_15 => ?_
 replace hl_15 : s_1.length ≤ 274877906944 := by
  simp only [go_sem, simprocAttr, List.length_map] at hl_15
  omega
 refine Wp.forL (fun i_14 s => [(0, .p (.s s_1)), (6, .p (.i .i64 (s_1.length : Int))), (7, .p (.i .i64 (i_14 : Int)))]) (fun i_14 s => []) ?_ hm ?_
 ·
  exact fse2
 clear hm
 intro i_14 s hii_14 hm
 try dsimp only at hm
 try dsimp only
 refine qS ?_
 refine Wp.seqW fun K6 hK6 hW6 => ?_
 refine Wp.cond rfl ⟨⟩ (fun hc6 => ?_) (fun hc6 => ?_)
 rotate_left
 ·refine Wp.exit ?_
  have hm := hk_12 _ (forL_end hm (ge_nat (by first | exact hc6 | simpa using hc6)))
  try dsimp only at hm
  refine hW2 _ _ _ _ ?_ (hcut2 () hm)
  exact fse2
 have hlt6 := lt_nat (by first | exact hc6 | simpa using hc6)
 have hw6 := wrap_succ hlt6 hl_15
 obtain ⟨c_16, nx_13, hxc_16, hyc_16, hnx_13, hm⟩ := forL_step hm hlt6
 clear hxc_16
 refine Wp.skip ?_
 simp only [thenQ]
 refine hK6 _ _ ?_
 refine Wp.seqW fun K7 hK7 hW7 => ?_
 refine Wp.block ?_
 refine Wp.seqR fun K8 hK8 => ?_
 simp only [go_sem, simprocAttr, hw6, hyc_16]
 first | apply hK8 | refine ⟨sd, hK8 _ _ ?_⟩
 refine Wp.seqR fun K9 hK9 => ?_
 simp only [go_sem, simprocAttr, hw6, hyc_16]
 first | apply hK9 | refine ⟨sd, hK9 _ _ ?_⟩
 refine Wp.seqR fun K10 hK10 => ?_
 simp only [go_sem, simprocAttr, hw6, hyc_16]
 first | apply hK10 | refine ⟨sd, hK10 _ _ ?_⟩
 refine cM hm (fun hc11 hm => ?_) (fun hc11 hm => ?_)
 ·refine Wp.seqR fun K12 hK12 => ?_
  simp only [go_sem, simprocAttr, hw6, hyc_16]
  first | apply hK12 | refine ⟨sd, hK12 _ _ ?_⟩
  refine Wp.ret ?_
  refine retQ_ret ?_
  cases hm
  simp only [go_sem, simprocAttr, hw6, hyc_16]
  try exact se2
 ·refine Wp.skip ?_
  refine hK7 _ _ ?_
  refine Wp.region fun K13 hK13 => ?_
  simp only [go_sem, simprocAttr, hw6, hyc_16]
  first | apply hK13 | refine ⟨sd, hK13 _ _ ?_⟩
  simp only [thenQ, blockQ, ↓reduceIte]
  refine ⟨(), hlt6, hnx_13 _ hm, ?_⟩
  simp only [go_sem, simprocAttr, hw6, hyc_16]
  try exact se2
theorem ok_R_IsPath (s_1 : Str) (z : Bool) (hm : R_IsPath s_1 = some z) : Does Tryd.prog 12 [.p (.s s_1)] [] (fun r X => r = .p (.b z) ∧ X = []) := by
 unfold R_IsPath at hm
 refine Does.of_wp 0 19 [.tmp 2] Tryd.func12 rfl (by decide) rfl rfl (Nat.le_of_ble_eq_true rfl) fun B => ?_
 refine qS ?_
 refine Wp.seqW fun K2 hK2 hW2 => ?_
 obtain ⟨k_12, hk_12, hm⟩ := jp_elim hm
 have hcut2 : ∀ s, k_12 s = some z → K2 [(0, .p (.s s_1))] [] := by
  intro s hs
  have hm := hk_12 _ hs
  clear hs
  try dsimp only at hm
  try dsimp only
  refine hK2 _ _ ?_
  refine qS ?_
  refine Wp.ret ?_
  refine retQ_ret ?_
  cases hm
  exact fse2
 clear hK2 hk_12
 obtain ⟨r_13, hr_13, hm⟩ := call_elim hm
 refine Wp.seqR fun K4 hK4 => ?_
 simp only [go_sem, simprocAttr]
 try refine ⟨sd, ?_⟩
 refine Rg.callF (av := ?av5) (ok_strings_Split s_1 ([47] : Str) _ hr_13) si si sg ?cont5
 intro hv5
 simp only [go_sem, simprocAttr]
 first | apply hK4 | refine ⟨sd, hK4 _ _ ?_⟩
 refine Wp.block ?_
 obtain ⟨k_17, hk_17, hm⟩ := forL_cont hm
 refine Wp.fact 6 fun hl_20 => ?_
 replace hl_20 : r_13.length ≤ 274877906944 := by
  simp only [go_sem, simprocAttr, List.length_map] at hl_20
  omega
 refine Wp.forL (fun i_19 s => [(0, .p (.s s_1)), (6, .p (.l (List.map ecS r_13))), (7, .p (.i .i64 (r_13.length : Int))), (8, .p (.i .i64 (i_19 : Int)))]) (fun i_19 s => []) ?_ hm ?_
 ·
  exact fse2
 clear hm
 intro i_19 s hii_19 hm
 try dsimp only at hm
 try dsimp only
 refine qS ?_
 refine Wp.seqW fun K7 hK7 hW7 => ?_
 refine Wp.cond rfl ⟨⟩ (fun hc7 => ?_) (fun hc7 => ?_)
 rotate_left
 ·refine Wp.exit ?_
  have hm := hk_17 _ (forL_end hm (ge_nat (by first | exact hc7 | simpa using hc7)))
  try dsimp only at hm
  refine hW2 _ _ _ _ ?_ (hcut2 () hm)
  exact fse2
 have hlt7 := lt_nat (by first | exact hc7 | simpa using hc7)
 have hw7 := wrap_succ hlt7 hl_20
 obtain ⟨s_21, nx_18, hxs_21, hys_21, hnx_18, hm⟩ := forL_step hm hlt7
 replace hxs_21 := hxs_21 ecS
 refine Wp.skip ?_
 simp only [thenQ]
 refine hK7 _ _ ?_
 refine Wp.seqW fun K8 hK8 hW8 => ?_
 refine Wp.block ?_
 refine Wp.seqR fun K9 hK9 => ?_
 simp only [go_sem, simprocAttr, hw7, hxs_21]
 first | apply hK9 | refine ⟨sd, hK9 _ _ ?_⟩
 obtain ⟨r_22, hr_22, hm⟩ := call_elim hm
 refine Wp.seqR fun K10 hK10 => ?_
 simp only [go_sem, simprocAttr, hw7, hxs_21]
 try refine ⟨sd, ?_⟩
 refine Rg.callX (av := ?av11) (g := true) (fun hg => ok_R_isPart s_21 _ hr_22) (by simp only [go_sem, simprocAttr, hw7, hxs_21]; exact Is.mk) (by simp only [go_sem, simprocAttr, hw7, hxs_21]; exact Is.mk) (by simp only [go_sem, simprocAttr, hw7, hxs_21]; exact Is.mk) (by simp only [go_sem, simprocAttr, hw7, hxs_21]) (by simp only [go_sem, simprocAttr, hw7, hxs_21]; exact Is.mk) ?cont11
 intro hv11
 simp only [go_sem, simprocAttr, hw7, hxs_21]
 first | apply hK10 | refine ⟨sd, hK10 _ _ ?_⟩
 refine cM hm (fun hc12 hm => ?_) (fun hc12 hm => ?_)
 ·refine Wp.seqR fun K13 hK13 => ?_
  simp only [go_sem, simprocAttr, hw7, hxs_21]
  first | apply hK13 | refine ⟨sd, hK13 _ _ ?_⟩
  refine Wp.ret ?_
  refine retQ_ret ?_
  cases hm
  simp only [go_sem, simprocAttr, hw7, hxs_21]
  try exact se2
 ·refine Wp.skip ?_
  refine hK8 _ _ ?_
  refine Wp.region fun K14 hK14 => ?_
  simp only [go_sem, simprocAttr, hw7, hxs_21]
  first | apply hK14 | refine ⟨sd, hK14 _ _ ?_⟩
  simp only [thenQ, blockQ, ↓reduceIte]
  refine ⟨(), hlt7, hnx_18 _ hm, ?_⟩
  simp only [go_sem, simprocAttr, hw7, hxs_21]
  try exact se2
theorem ok_R_when (bad_1 : Bool) (e_2 : Int) (z : Int) (hm : R_when bad_1 e_2 = some z) : Does Tryd.prog 20 [.p (.b bad_1), .p (.i .i64 e_2)] [] (fun r X => r = .p (.i .i64 z) ∧ X = []) := by
 unfold R_when at hm
 refine Does.of_wp 0 7 [.tmp 4] Tryd.func20 rfl (by decide) rfl rfl (Nat.le_of_ble_eq_true rfl) fun B => ?_
 refine qS ?_
 refine Wp.seqW fun K2 hK2 hW2 => ?_
 refine qS ?_
 refine cM hm (fun hc4 hm => ?_) (fun hc4 hm => ?_)
 ·refine qS ?_
  refine Wp.ret ?_
  refine retQ_ret ?_
  cases hm
  exact fse2
 ·refine Wp.skip ?_
  refine hK2 _ _ ?_
  refine qS ?_
  refine Wp.ret ?_
  refine retQ_ret ?_
  cases hm
  exact fse2
theorem ok_R_first (l_1 : List Int) (z : Int) (hm : R_first l_1 = some z) : Does Tryd.prog 17 [.p (.l (List.map ecI_i64 l_1))] [] (fun r X => r = .p (.i .i64 z) ∧ X = []) := by
 unfold R_first at hm
 refine Does.of_wp 0 15 [.tmp 2] Tryd.func17 rfl (by decide) rfl rfl (Nat.le_of_ble_eq_true rfl) fun B => ?_
 refine qS ?_
 refine Wp.seqW fun K2 hK2 hW2 => ?_
 obtain ⟨k_9, hk_9, hm⟩ := jp_elim hm
 have hcut2 : ∀ s, k_9 s = some z → K2 [] [] := by
  intro s hs
  have hm := hk_9 _ hs
  clear hs
  try dsimp only at hm
  try dsimp only
  refine hK2 _ _ ?_
  refine qS ?_
  refine Wp.ret ?_
  refine retQ_ret ?_
  cases hm
  exact fse2
 clear hK2 hk_9
 refine qS ?_
 refine Wp.block ?_
 obtain ⟨k_12, hk_12, hm⟩ := forL_cont hm
 refine Wp.fact 5 fun hl_15 => ?_
 replace hl_15 : l_1.length ≤ 274877906944 := by
  simp only [go_sem, simprocAttr, List.length_map] at hl_15
  omega
 refine Wp.forL (fun i_14 s => [(5, .p (.l (List.map ecI_i64 l_1))), (6, .p (.i .i64 (l_1.length : Int))), (7, .p (.i .i64 (i_14 : Int)))]) (fun i_14 s => []) ?_ hm ?_
 ·
  exact fse2
 clear hm
 intro i_14 s hii_14 hm
 try dsimp only at hm
 try dsimp only
 refine qS ?_
 refine Wp.seqW fun K6 hK6 hW6 => ?_
 refine Wp.cond rfl ⟨⟩ (fun hc6 => ?_) (fun hc6 => ?_)
 rotate_left
 ·refine Wp.exit ?_
  have hm := hk_12 _ (forL_end hm (ge_nat (by first | exact hc6 | simpa using hc6)))
  try dsimp only at hm
  refine hW2 _ _ _ _ ?_ (hcut2 () hm)
  exact fse2
 have hlt6 := lt_nat (by first | exact hc6 | simpa using hc6)
 have hw6 := wrap_succ hlt6 hl_15
 obtain ⟨e_16, nx_13, hxe_16, hye_16, hnx_13, hm⟩ := forL_step hm hlt6
 replace hxe_16 := hxe_16 ecI_i64
 refine Wp.skip ?_
 simp only [thenQ]
 refine hK6 _ _ ?_
 refine Wp.seqW fun K7 hK7 hW7 => ?_
 refine Wp.block ?_
 refine Wp.seqR fun K8 hK8 => ?_
 simp only [go_sem, simprocAttr, hw6, hxe_16]
 first | apply hK8 | refine ⟨sd, hK8 _ _ ?_⟩
 refine Wp.seqR fun K9 hK9 => ?_
 simp only [go_sem, simprocAttr, hw6, hxe_16]
 first | apply hK9 | refine ⟨sd, hK9 _ _ ?_⟩
 refine cM hm (fun hc10 hm => ?_) (fun hc10 hm => ?_)
 ·refine Wp.seqR fun K11 hK11 => ?_
  simp only [go_sem, simprocAttr, hw6, hxe_16]
  first | apply hK11 | refine ⟨sd, hK11 _ _ ?_⟩
  refine Wp.ret ?_
  refine retQ_ret ?_
  cases hm
  simp only [go_sem, simprocAttr, hw6, hxe_16]
  try exact se2
 ·refine Wp.skip ?_
  refine hK7 _ _ ?_
  refine Wp.region fun K12 hK12 => ?_
  simp only [go_sem, simprocAttr, hw6, hxe_16]
  first | apply hK12 | refine ⟨sd, hK12 _ _ ?_⟩
  simp only [thenQ, blockQ, ↓reduceIte]
  refine ⟨(), hlt6, hnx_13 _ hm, ?_⟩
  simp only [go_sem, simprocAttr, hw6, hxe_16]
  try exact se2
theorem ok_R_fileError (f_1 : api_File) (z : Int) (hm : R_fileError f_1 = some z) : Does Tryd.prog 41 [.agg [.p (.s f_1.Path), .p (.s f_1.Data), .p (.b f_1.Runs)]] [] (fun r X => r = .p (.i .i64 z) ∧ X = []) := by
 unfold R_fileError at hm
 refine Does.of_wp 0 15 [.tmp 2] Tryd.func41 rfl (by decide) rfl rfl (Nat.le_of_ble_eq_true rfl) fun B => ?_
 refine qS ?_
 obtain ⟨r_2, hr_2, hm⟩ := call_elim hm
 obtain ⟨r_3, hr_3, hm⟩ := call_elim hm
 obtain ⟨r_4, hr_4, hm⟩ := call_elim hm
 obtain ⟨r_5, hr_5, hm⟩ := call_elim hm
 refine Wp.seqD (plan := pl [(0, none), (1, none), (2, none), (3, none), (4, none), (5, none), (6, none), (7, none), (8, none), (9, none), (10, some []), (11, none), (12, none)]) (by kernel_rfl) rfl (by kernel_rfl) fun K2 hK2 => ?_
 simp only [go_sem, simprocAttr]
 try refine ⟨sd, ?_⟩
 refine Dr.callF (av := ?av3) (g := true) (o := ?o3) (fun hg => ok_R_IsPath f_1.Path _ hr_2) si si si si sg si ?cont3
 simp only [go_sem, simprocAttr]
 try refine ⟨sd, ?_⟩
 refine Dr.callF (av := ?av4) (g := true) (o := ?o4) (fun hg => ok_R_when (!r_2) 5 _ hr_3) si si si si sg si ?cont4
 simp only [go_sem, simprocAttr]
 try refine ⟨sd, ?_⟩
 refine Dr.callF (av := ?av5) (g := true) (o := ?o5) (fun hg => ok_R_when (decide (65536 < (f_1.Data.length : Int))) 4 _ hr_4) si si si si sg si ?cont5
 simp only [go_sem, simprocAttr]
 try refine ⟨sd, ?_⟩
 refine Dr.callF (av := ?av6) (g := true) (o := ?o6) (fun hg => ok_R_first [r_3, r_4] _ hr_5) si si si si sg si ?cont6
 simp only [go_sem, simprocAttr]
 first | apply hK2 | refine ⟨sd, hK2 _ _ ?_⟩
 refine Wp.ret ?_
 refine retQ_ret ?_
 cases hm
 exact fse2
theorem ok_R_IsValue (s_1 : Str) (z : Bool) (hm : R_IsValue s_1 = some z) : Does Tryd.prog 55 [.p (.s s_1)] [] (fun r X => r = .p (.b z) ∧ X = []) := by
 unfold R_IsValue at hm
 refine Does.of_wp 0 23 [.tmp 2] Tryd.func55 rfl (by decide) rfl rfl (Nat.le_of_ble_eq_true rfl) fun B => ?_
 refine qS ?_
 refine Wp.seqW fun K2 hK2 hW2 => ?_
 obtain ⟨k_9, hk_9, hm⟩ := jp_elim hm
 have hcut2 : ∀ s, k_9 s = some z → K2 [(0, .p (.s s_1))] [] := by
  intro s hs
  have hm := hk_9 _ hs
  clear hs
  try dsimp only at hm
  try dsimp only
  refine hK2 _ _ ?_
  refine qS ?_
  refine Wp.ret ?_
  refine retQ_ret ?_
  cases hm
  exact fse2
 clear hK2 hk_9
 refine qS ?_
 refine Wp.block ?_
 obtain ⟨k_12, hk_12, hm⟩ := forL_cont hm
 refine Wp.fact 0 fun hl_15 => ?_
 replace hl_15 : s_1.length ≤ 274877906944 := by
  simp only [go_sem, simprocAttr, List.length_map] at hl_15
  omega
 refine Wp.forL (fun i_14 s => [(0, .p (.s s_1)), (5, .p (.i .i64 (s_1.length : Int))), (6, .p (.i .i64 (i_14 : Int)))]) (fun i_14 s => []) ?_ hm ?_
 ·
  exact fse2
 clear hm
 intro i_14 s hii_14 hm
 try dsimp only at hm
 try dsimp only
 refine qS ?_
 refine Wp.seqW fun K6 hK6 hW6 => ?_
 refine Wp.cond rfl ⟨⟩ (fun hc6 => ?_) (fun hc6 => ?_)
 rotate_left
 ·refine Wp.exit ?_
  have hm := hk_12 _ (forL_end hm (ge_nat (by first | exact hc6 | simpa using hc6)))
  try dsimp only at hm
  refine hW2 _ _ _ _ ?_ (hcut2 () hm)
  exact fse2
 have hlt6 := lt_nat (by first | exact hc6 | simpa using hc6)
 have hw6 := wrap_succ hlt6 hl_15
 obtain ⟨c_16, nx_13, hxc_16, hyc_16, hnx_13, hm⟩ := forL_step hm hlt6
 clear hxc_16
 refine Wp.skip ?_
 simp only [thenQ]
 refine hK6 _ _ ?_
 refine Wp.seqW fun K7 hK7 hW7 => ?_
 refine Wp.block ?_
 refine Wp.seqR fun K8 hK8 => ?_
 simp only [go_sem, simprocAttr, hw6, hyc_16]
 first | apply hK8 | refine ⟨sd, hK8 _ _ ?_⟩
 refine Wp.seqR fun K9 hK9 => ?_
 simp only [go_sem, simprocAttr, hw6, hyc_16]
 first | apply hK9 | refine ⟨sd, hK9 _ _ ?_⟩
 refine cM hm (fun hc10 hm => ?_) (fun hc10 hm => ?_)
 ·refine Wp.seqR fun K11 hK11 => ?_
  simp only [go_sem, simprocAttr, hw6, hyc_16]
  first | apply hK11 | refine ⟨sd, hK11 _ _ ?_⟩
  refine Wp.ret ?_
  refine retQ_ret ?_
  cases hm
  simp only [go_sem, simprocAttr, hw6, hyc_16]
  try exact se2
 ·refine Wp.skip ?_
  refine hK7 _ _ ?_
  refine Wp.region fun K12 hK12 => ?_
  simp only [go_sem, simprocAttr, hw6, hyc_16]
  first | apply hK12 | refine ⟨sd, hK12 _ _ ?_⟩
  simp only [thenQ, blockQ, ↓reduceIte]
  refine ⟨(), hlt6, hnx_13 _ hm, ?_⟩
  simp only [go_sem, simprocAttr, hw6, hyc_16]
  try exact se2
theorem ok_R_settingError (s_1 : api_Setting) (z : Int) (hm : R_settingError s_1 = some z) : Does Tryd.prog 42 [.agg [.p (.s s_1.Key), .p (.s s_1.Value)]] [] (fun r X => r = .p (.i .i64 z) ∧ X = []) := by
 unfold R_settingError at hm
 refine Does.of_wp 0 15 [.tmp 2] Tryd.func42 rfl (by decide) rfl rfl (Nat.le_of_ble_eq_true rfl) fun B => ?_
 refine qS ?_
 obtain ⟨r_2, hr_2, hm⟩ := call_elim hm
 obtain ⟨r_3, hr_3, hm⟩ := call_elim hm
 obtain ⟨r_4, hr_4, hm⟩ := call_elim hm
 obtain ⟨r_5, hr_5, hm⟩ := call_elim hm
 obtain ⟨r_6, hr_6, hm⟩ := call_elim hm
 refine Wp.seqD (plan := pl [(0, none), (1, none), (2, none), (3, none), (4, none), (5, none), (6, none), (7, none), (8, none), (9, none), (10, some []), (11, none), (12, none)]) (by kernel_rfl) rfl (by kernel_rfl) fun K2 hK2 => ?_
 simp only [go_sem, simprocAttr]
 try refine ⟨sd, ?_⟩
 refine Dr.callF (av := ?av3) (g := true) (o := ?o3) (fun hg => ok_R_IsPath s_1.Key _ hr_2) si si si si sg si ?cont3
 simp only [go_sem, simprocAttr]
 try refine ⟨sd, ?_⟩
 refine Dr.callF (av := ?av4) (g := true) (o := ?o4) (fun hg => ok_R_when (!r_2) 5 _ hr_3) si si si si sg si ?cont4
 simp only [go_sem, simprocAttr]
 try refine ⟨sd, ?_⟩
 refine Dr.callF (av := ?av5) (g := true) (o := ?o5) (fun hg => ok_R_IsValue s_1.Value _ hr_4) si si si si sg si ?cont5
 simp only [go_sem, simprocAttr]
 try refine ⟨sd, ?_⟩
 refine Dr.callF (av := ?av6) (g := true) (o := ?o6) (fun hg => ok_R_when (!r_4) 2 _ hr_5) si si si si sg si ?cont6
 simp only [go_sem, simprocAttr]
 try refine ⟨sd, ?_⟩
 refine Dr.callF (av := ?av7) (g := true) (o := ?o7) (fun hg => ok_R_first [r_3, r_5] _ hr_6) si si si si sg si ?cont7
 simp only [go_sem, simprocAttr]
 first | apply hK2 | refine ⟨sd, hK2 _ _ ?_⟩
 refine Wp.ret ?_
 refine retQ_ret ?_
 cases hm
 exact fse2
theorem ok_R_IsName (s_1 : Str) (z : Bool) (hm : R_IsName s_1 = some z) : Does Tryd.prog 11 [.p (.s s_1)] [] (fun r X => r = .p (.b z) ∧ X = []) := by
 unfold R_IsName at hm
 refine Does.of_wp 0 54 [.tmp 2] Tryd.func11 rfl (by decide) rfl rfl (Nat.le_of_ble_eq_true rfl) fun B => ?_
 refine qS ?_
 refine Wp.seqW fun K2 hK2 hW2 => ?_
 obtain ⟨k_9, hk_9, hm⟩ := jp_elim hm
 have hcut2 : ∀ s, k_9 s = some z → K2 [(0, .p (.s s_1))] [] := by
  intro s hs
  have hm := hk_9 _ hs
  clear hs
  try dsimp only at hm
  try dsimp only
  refine hK2 _ _ ?_
  refine qS ?_
  refine Wp.ret ?_
  refine retQ_ret ?_
  cases hm
  exact fse2
 clear hK2 hk_9
 refine qS ?_
 refine Wp.block ?_
 obtain ⟨k_12, hk_12, hm⟩ := forL_cont hm
 refine Wp.fact 0 fun hl_15 => ?_
 replace hl_15 : s_1.length ≤ 274877906944 := by
  simp only [go_sem, simprocAttr, List.length_map] at hl_15
  omega
 refine Wp.forL (fun i_14 s => [(0, .p (.s s_1)), (7, .p (.i .i64 (s_1.length : Int))), (8, .p (.i .i64 (i_14 : Int)))]) (fun i_14 s => []) ?_ hm ?_
 ·
  exact fse2
 clear hm
 intro i_14 s hii_14 hm
 try dsimp only at hm
 try dsimp only
 refine qS ?_
 refine Wp.seqW fun K6 hK6 hW6 => ?_
 refine Wp.cond rfl ⟨⟩ (fun hc6 => ?_) (fun hc6 => ?_)
 rotate_left
 ·refine Wp.exit ?_
  have hm := hk_12 _ (forL_end hm (ge_nat (by first | exact hc6 | simpa using hc6)))
  try dsimp only at hm
  refine hW2 _ _ _ _ ?_ (hcut2 () hm)
  exact fse2
 have hlt6 := lt_nat (by first | exact hc6 | simpa using hc6)
 have hw6 := wrap_succ hlt6 hl_15
 obtain ⟨c_16, nx_13, hxc_16, hyc_16, hnx_13, hm⟩ := forL_step hm hlt6
 clear hxc_16
 refine Wp.skip ?_
 simp only [thenQ]
 refine hK6 _ _ ?_
 refine Wp.seqW fun K7 hK7 hW7 => ?_
 refine Wp.block ?_
 refine Wp.seqR fun K8 hK8 => ?_
 simp only [go_sem, simprocAttr, hw6, hyc_16]
 first | apply hK8 | refine ⟨sd, hK8 _ _ ?_⟩
 refine Wp.seqR fun K9 hK9 => ?_
 simp only [go_sem, simprocAttr, hw6, hyc_16]
 first | apply hK9 | refine ⟨sd, hK9 _ _ ?_⟩
 refine Wp.seqR fun K10 hK10 => ?_
 simp only [go_sem, simprocAttr, hw6, hyc_16]
 first | apply hK10 | refine ⟨sd, hK10 _ _ ?_⟩
 refine Wp.seqR fun K11 hK11 => ?_
 simp only [go_sem, simprocAttr, hw6, hyc_16]
 first | apply hK11 | refine ⟨sd, hK11 _ _ ?_⟩
 refine cM hm (fun hc12 hm => ?_) (fun hc12 hm => ?_)
 ·refine Wp.seqR fun K13 hK13 => ?_
  simp only [go_sem, simprocAttr, hw6, hyc_16]
  first | apply hK13 | refine ⟨sd, hK13 _ _ ?_⟩
  refine Wp.ret ?_
  refine retQ_ret ?_
  cases hm
  simp only [go_sem, simprocAttr, hw6, hyc_16]
  try exact se2
 ·refine Wp.skip ?_
  refine hK7 _ _ ?_
  refine Wp.region fun K14 hK14 => ?_
  simp only [go_sem, simprocAttr, hw6, hyc_16]
  first | apply hK14 | refine ⟨sd, hK14 _ _ ?_⟩
  simp only [thenQ, blockQ, ↓reduceIte]
  refine ⟨(), hlt6, hnx_13 _ hm, ?_⟩
  simp only [go_sem, simprocAttr, hw6, hyc_16]
  try exact se2
theorem ok_R_serviceError (s_1 : api_Service) (z : Int) (hm : R_serviceError s_1 = some z) : Does Tryd.prog 43 [.agg [.p (.s s_1.Name), .p (.s s_1.Path), .p (.b s_1.Auto), .p (.b s_1.On)]] [] (fun r X => r = .p (.i .i64 z) ∧ X = []) := by
 unfold R_serviceError at hm
 refine Does.of_wp 0 14 [.tmp 2] Tryd.func43 rfl (by decide) rfl rfl (Nat.le_of_ble_eq_true rfl) fun B => ?_
 refine qS ?_
 obtain ⟨r_2, hr_2, hm⟩ := call_elim hm
 obtain ⟨r_3, hr_3, hm⟩ := callG_elim hm
 obtain ⟨r_4, hr_4, hm⟩ := call_elim hm
 refine Wp.seqR fun K2 hK2 => ?_
 simp only [go_sem, simprocAttr]
 try refine ⟨sd, ?_⟩
 refine Rg.callX (av := ?av3) (g := true) (fun hg => ok_R_IsName s_1.Name _ hr_2) si si si sg si ?cont3
 intro hv3
 simp only [go_sem, simprocAttr]
 try refine ⟨sd, ?_⟩
 refine Rg.callX (av := ?av4) (g := !(!r_2)) (fun hg => ok_R_IsPath s_1.Path _ (hr_3 hg)) si si si sg si ?cont4
 intro hv4
 simp only [go_sem, simprocAttr]
 try refine ⟨sd, ?_⟩
 refine Rg.callX (av := ?av5) (g := true) (fun hg => ok_R_when ((!r_2) || (!r_3)) 5 _ hr_4) si si si sg si ?cont5
 intro hv5
 simp only [go_sem, simprocAttr]
 first | apply hK2 | refine ⟨sd, hK2 _ _ ?_⟩
 refine Wp.ret ?_
 refine retQ_ret ?_
 cases hm
 exact fse2
theorem ok_R_ChangeError (c_1 : api_Change) (z : Int) (hm : R_ChangeError c_1 = some z) : Does Tryd.prog 18 [.agg [.p (.i .i64 c_1.Kind), .p (.s c_1.File.Path), .p (.s c_1.File.Data), .p (.b c_1.File.Runs), .p (.s c_1.Setting.Key), .p (.s c_1.Setting.Value), .p (.s c_1.Service.Name), .p (.s c_1.Service.Path), .p (.b c_1.Service.Auto), .p (.b c_1.Service.On)]] [] (fun r X => r = .p (.i .i64 z) ∧ X = []) := by
 unfold R_ChangeError at hm
 refine Does.of_wp 0 67 [.tmp 2] Tryd.func18 rfl (by decide) rfl rfl (Nat.le_of_ble_eq_true rfl) fun B => ?_
 refine qS ?_
 refine qS ?_
 refine qS ?_
 refine Wp.seqW fun K4 hK4 hW4 => ?_
 obtain ⟨k_21, hk_21, hm⟩ := jp_elim hm
 have hcut4 : ∀ s, k_21 s = some z → K4 [(3, .ptr 1 0), (4, .p (.i .i64 s.1))] [.cells 50 [.top, .top, .top, .top, .top, .top, .top, .top, .top, .top], .cells 50 [.p (.i .i64 0), .p (.s s.2.1), .p (.s s.2.2.1), .p (.b s.2.2.2.1), .p (.s s.2.2.2.2.1), .p (.s s.2.2.2.2.2.1), .p (.s s.2.2.2.2.2.2.1), .p (.s s.2.2.2.2.2.2.2.1), .p (.b s.2.2.2.2.2.2.2.2.1), .p (.b s.2.2.2.2.2.2.2.2.2)]] := by
  intro s hs
  have hm := hk_21 _ hs
  clear hs
  obtain ⟨e_11, o1_1_12, o1_2_13, o1_3_14, o1_4_15, o1_5_16, o1_6_17, o1_7_18, o1_8_19, o1_9_20⟩ := s
  try dsimp only at hm
  try dsimp only
  refine hK4 _ _ ?_
  obtain ⟨r_22, hr_22, hm⟩ := call_elim hm
  obtain ⟨r_23, hr_23, hm⟩ := call_elim hm
  refine Wp.seqR fun K5 hK5 => ?_
  simp only [go_sem, simprocAttr]
  try refine ⟨sd, ?_⟩
  refine Rg.callX (av := ?av6) (g := true) (fun hg => ok_R_when (!(true && ((decide (o1_1_12 = [])) && ((decide (o1_2_13 = [])) && ((decide (o1_3_14 = false)) && ((decide (o1_4_15 = [])) && ((decide (o1_5_16 = [])) && ((decide (o1_6_17 = [])) && ((decide (o1_7_18 = [])) && ((decide (o1_8_19 = false)) && (decide (o1_9_20 = false)))))))))))) 2 _ hr_22) si si si sg si ?cont6
  intro hv6
  simp only [go_sem, simprocAttr]
  try refine ⟨sd, ?_⟩
  refine Rg.callX (av := ?av7) (g := true) (fun hg => ok_R_first [e_11, r_22] _ hr_23) si si si sg si ?cont7
  intro hv7
  simp only [go_sem, simprocAttr]
  first | apply hK5 | refine ⟨sd, hK5 _ _ ?_⟩
  refine Wp.ret ?_
  refine retQ_ret ?_
  cases hm
  exact fse2
 clear hK4 hk_21
 refine qS ?_
 refine qS ?_
 refine Wp.block ?_
 refine qS ?_
 refine cM hm (fun hc11 hm => ?_) (fun hc11 hm => ?_)
 ·obtain ⟨r_24, hr_24, hm⟩ := call_elim hm
  refine Wp.region fun K12 hK12 => ?_
  simp only [go_sem, simprocAttr]
  try refine ⟨sd, ?_⟩
  refine Rg.callX (av := ?av13) (g := true) (fun hg => ok_R_fileError c_1.File _ hr_24) si si si sg si ?cont13
  intro hv13
  simp only [go_sem, simprocAttr]
  first | apply hK12 | refine ⟨sd, hK12 _ _ ?_⟩
  refine hW4 _ _ _ _ ?_ (hcut4 (r_24, [], [], false, c_1.Setting.Key, c_1.Setting.Value, c_1.Service.Name, c_1.Service.Path, c_1.Service.Auto, c_1.Service.On) hm)
  exact fse2
 ·refine qS ?_
  refine cM hm (fun hc15 hm => ?_) (fun hc15 hm => ?_)
  ·obtain ⟨r_25, hr_25, hm⟩ := call_elim hm
   obtain ⟨r_26, hr_26, hm⟩ := call_elim hm
   refine Wp.region fun K16 hK16 => ?_
   simp only [go_sem, simprocAttr]
   try refine ⟨sd, ?_⟩
   refine Rg.callX (av := ?av17) (g := true) (fun hg => ok_R_IsPath c_1.File.Path _ hr_25) si si si sg si ?cont17
   intro hv17
   simp only [go_sem, simprocAttr]
   try refine ⟨sd, ?_⟩
   refine Rg.callX (av := ?av18) (g := true) (fun hg => ok_R_when (!r_25) 5 _ hr_26) si si si sg si ?cont18
   intro hv18
   simp only [go_sem, simprocAttr]
   first | apply hK16 | refine ⟨sd, hK16 _ _ ?_⟩
   refine hW4 _ _ _ _ ?_ (hcut4 (r_26, [], c_1.File.Data, c_1.File.Runs, c_1.Setting.Key, c_1.Setting.Value, c_1.Service.Name, c_1.Service.Path, c_1.Service.Auto, c_1.Service.On) hm)
   exact fse2
  ·refine qS ?_
   refine cM hm (fun hc20 hm => ?_) (fun hc20 hm => ?_)
   ·obtain ⟨r_27, hr_27, hm⟩ := call_elim hm
    refine Wp.region fun K21 hK21 => ?_
    simp only [go_sem, simprocAttr]
    try refine ⟨sd, ?_⟩
    refine Rg.callX (av := ?av22) (g := true) (fun hg => ok_R_settingError c_1.Setting _ hr_27) si si si sg si ?cont22
    intro hv22
    simp only [go_sem, simprocAttr]
    first | apply hK21 | refine ⟨sd, hK21 _ _ ?_⟩
    refine hW4 _ _ _ _ ?_ (hcut4 (r_27, c_1.File.Path, c_1.File.Data, c_1.File.Runs, [], [], c_1.Service.Name, c_1.Service.Path, c_1.Service.Auto, c_1.Service.On) hm)
    exact fse2
   ·refine qS ?_
    refine cM hm (fun hc24 hm => ?_) (fun hc24 hm => ?_)
    ·obtain ⟨r_28, hr_28, hm⟩ := call_elim hm
     obtain ⟨r_29, hr_29, hm⟩ := call_elim hm
     refine Wp.region fun K25 hK25 => ?_
     simp only [go_sem, simprocAttr]
     try refine ⟨sd, ?_⟩
     refine Rg.callX (av := ?av26) (g := true) (fun hg => ok_R_IsPath c_1.Setting.Key _ hr_28) si si si sg si ?cont26
     intro hv26
     simp only [go_sem, simprocAttr]
     try refine ⟨sd, ?_⟩
     refine Rg.callX (av := ?av27) (g := true) (fun hg => ok_R_when (!r_28) 5 _ hr_29) si si si sg si ?cont27
     intro hv27
     simp only [go_sem, simprocAttr]
     first | apply hK25 | refine ⟨sd, hK25 _ _ ?_⟩
     refine hW4 _ _ _ _ ?_ (hcut4 (r_29, c_1.File.Path, c_1.File.Data, c_1.File.Runs, [], c_1.Setting.Value, c_1.Service.Name, c_1.Service.Path, c_1.Service.Auto, c_1.Service.On) hm)
     exact fse2
    ·refine qS ?_
     refine cM hm (fun hc29 hm => ?_) (fun hc29 hm => ?_)
     ·obtain ⟨r_30, hr_30, hm⟩ := call_elim hm
      refine Wp.region fun K30 hK30 => ?_
      simp only [go_sem, simprocAttr]
      try refine ⟨sd, ?_⟩
      refine Rg.callX (av := ?av31) (g := true) (fun hg => ok_R_serviceError c_1.Service _ hr_30) si si si sg si ?cont31
      intro hv31
      simp only [go_sem, simprocAttr]
      first | apply hK30 | refine ⟨sd, hK30 _ _ ?_⟩
      refine hW4 _ _ _ _ ?_ (hcut4 (r_30, c_1.File.Path, c_1.File.Data, c_1.File.Runs, c_1.Setting.Key, c_1.Setting.Value, [], [], false, false) hm)
      exact fse2
     ·refine qS ?_
      refine cM hm (fun hc33 hm => ?_) (fun hc33 hm => ?_)
      ·obtain ⟨r_31, hr_31, hm⟩ := call_elim hm
       obtain ⟨r_32, hr_32, hm⟩ := call_elim hm
       refine Wp.region fun K34 hK34 => ?_
       simp only [go_sem, simprocAttr]
       try refine ⟨sd, ?_⟩
       refine Rg.callX (av := ?av35) (g := true) (fun hg => ok_R_IsName c_1.Service.Name _ hr_31) si si si sg si ?cont35
       intro hv35
       simp only [go_sem, simprocAttr]
       try refine ⟨sd, ?_⟩
       refine Rg.callX (av := ?av36) (g := true) (fun hg => ok_R_when (!r_31) 5 _ hr_32) si si si sg si ?cont36
       intro hv36
       simp only [go_sem, simprocAttr]
       first | apply hK34 | refine ⟨sd, hK34 _ _ ?_⟩
       refine hW4 _ _ _ _ ?_ (hcut4 (r_32, c_1.File.Path, c_1.File.Data, c_1.File.Runs, c_1.Setting.Key, c_1.Setting.Value, [], c_1.Service.Path, c_1.Service.Auto, c_1.Service.On) hm)
       exact fse2
      ·refine qS ?_
       refine Wp.ret ?_
       refine retQ_ret ?_
       cases hm
       exact fse2
theorem ok_R_ItemError (x_1 : api_Item) (z : Int) (hm : R_ItemError x_1 = some z) : Does Tryd.prog 6 [.agg [.p (.i .i64 x_1.Kind), .p (.s x_1.File.Path), .p (.s x_1.File.Data), .p (.b x_1.File.Runs), .p (.s x_1.Setting.Key), .p (.s x_1.Setting.Value), .p (.s x_1.Service.Name), .p (.s x_1.Service.Path), .p (.b x_1.Service.Auto), .p (.b x_1.Service.On)]] [] (fun r X => r = .p (.i .i64 z) ∧ X = []) := by
 unfold R_ItemError at hm
 refine Does.of_wp 0 20 [.tmp 2] Tryd.func6 rfl (by decide) rfl rfl (Nat.le_of_ble_eq_true rfl) fun B => ?_
 refine qS ?_
 refine Wp.seqW fun K2 hK2 hW2 => ?_
 refine qS ?_
 refine cM hm (fun hc4 hm => ?_) (fun hc4 hm => ?_)
 ·refine qS ?_
  refine Wp.ret ?_
  refine retQ_ret ?_
  cases hm
  exact fse2
 ·refine Wp.skip ?_
  refine hK2 _ _ ?_
  obtain ⟨r_2, hr_2, hm⟩ := call_elim hm
  obtain ⟨r_3, hr_3, hm⟩ := call_elim hm
  obtain ⟨r_4, hr_4, hm⟩ := call_elim hm
  obtain ⟨r_5, hr_5, hm⟩ := call_elim hm
  refine Wp.seqD (plan := pl [(0, none), (1, none), (2, none), (3, none), (4, none), (5, none), (6, none), (7, some []), (8, none), (9, none)]) (by kernel_rfl) rfl (by kernel_rfl) fun K6 hK6 => ?_
  simp only [go_sem, simprocAttr]
  try refine ⟨sd, ?_⟩
  refine Dr.callF (av := ?av7) (g := true) (o := ?o7) (fun hg => ok_R_change x_1 _ hr_2) si si si si sg si ?cont7
  simp only [go_sem, simprocAttr]
  try refine ⟨sd, ?_⟩
  refine Dr.callF (av := ?av8) (g := true) (o := ?o8) (fun hg => ok_R_ChangeError r_2 _ hr_3) si si si si sg si ?cont8
  simp only [go_sem, simprocAttr]
  try refine ⟨sd, ?_⟩
  refine Dr.callF (av := ?av9) (g := true) (o := ?o9) (fun hg => ok_R_when x_1.Service.On 2 _ hr_4) si si si si sg si ?cont9
  simp only [go_sem, simprocAttr]
  try refine ⟨sd, ?_⟩
  refine Dr.callF (av := ?av10) (g := true) (o := ?o10) (fun hg => ok_R_first [r_3, r_4] _ hr_5) si si si si sg si ?cont10
  simp only [go_sem, simprocAttr]
  first | apply hK6 | refine ⟨sd, hK6 _ _ ?_⟩
  refine Wp.ret ?_
  refine retQ_ret ?_
  cases hm
  exact fse2
theorem ok_R_IsSum (s_1 : Str) (z : Bool) (hm : R_IsSum s_1 = some z) : Does Tryd.prog 21 [.p (.s s_1)] [] (fun r X => r = .p (.b z) ∧ X = []) := by
 unfold R_IsSum at hm
 refine Does.of_wp 0 31 [.tmp 2] Tryd.func21 rfl (by decide) rfl rfl (Nat.le_of_ble_eq_true rfl) fun B => ?_
 refine qS ?_
 refine Wp.seqW fun K2 hK2 hW2 => ?_
 obtain ⟨k_9, hk_9, hm⟩ := jp_elim hm
 have hcut2 : ∀ s, k_9 s = some z → K2 [(0, .p (.s s_1))] [] := by
  intro s hs
  have hm := hk_9 _ hs
  clear hs
  try dsimp only at hm
  try dsimp only
  refine hK2 _ _ ?_
  refine qS ?_
  refine Wp.ret ?_
  refine retQ_ret ?_
  cases hm
  exact fse2
 clear hK2 hk_9
 refine qS ?_
 refine Wp.block ?_
 obtain ⟨k_12, hk_12, hm⟩ := forL_cont hm
 refine Wp.fact 0 fun hl_15 => ?_
 replace hl_15 : s_1.length ≤ 274877906944 := by
  simp only [go_sem, simprocAttr, List.length_map] at hl_15
  omega
 refine Wp.forL (fun i_14 s => [(0, .p (.s s_1)), (6, .p (.i .i64 (s_1.length : Int))), (7, .p (.i .i64 (i_14 : Int)))]) (fun i_14 s => []) ?_ hm ?_
 ·
  exact fse2
 clear hm
 intro i_14 s hii_14 hm
 try dsimp only at hm
 try dsimp only
 refine qS ?_
 refine Wp.seqW fun K6 hK6 hW6 => ?_
 refine Wp.cond rfl ⟨⟩ (fun hc6 => ?_) (fun hc6 => ?_)
 rotate_left
 ·refine Wp.exit ?_
  have hm := hk_12 _ (forL_end hm (ge_nat (by first | exact hc6 | simpa using hc6)))
  try dsimp only at hm
  refine hW2 _ _ _ _ ?_ (hcut2 () hm)
  exact fse2
 have hlt6 := lt_nat (by first | exact hc6 | simpa using hc6)
 have hw6 := wrap_succ hlt6 hl_15
 obtain ⟨c_16, nx_13, hxc_16, hyc_16, hnx_13, hm⟩ := forL_step hm hlt6
 clear hxc_16
 refine Wp.skip ?_
 simp only [thenQ]
 refine hK6 _ _ ?_
 refine Wp.seqW fun K7 hK7 hW7 => ?_
 refine Wp.block ?_
 refine Wp.seqR fun K8 hK8 => ?_
 simp only [go_sem, simprocAttr, hw6, hyc_16]
 first | apply hK8 | refine ⟨sd, hK8 _ _ ?_⟩
 refine Wp.seqR fun K9 hK9 => ?_
 simp only [go_sem, simprocAttr, hw6, hyc_16]
 first | apply hK9 | refine ⟨sd, hK9 _ _ ?_⟩
 refine Wp.seqR fun K10 hK10 => ?_
 simp only [go_sem, simprocAttr, hw6, hyc_16]
 first | apply hK10 | refine ⟨sd, hK10 _ _ ?_⟩
 refine cM hm (fun hc11 hm => ?_) (fun hc11 hm => ?_)
 ·refine Wp.seqR fun K12 hK12 => ?_
  simp only [go_sem, simprocAttr, hw6, hyc_16]
  first | apply hK12 | refine ⟨sd, hK12 _ _ ?_⟩
  refine Wp.ret ?_
  refine retQ_ret ?_
  cases hm
  simp only [go_sem, simprocAttr, hw6, hyc_16]
  try exact se2
 ·refine Wp.skip ?_
  refine hK7 _ _ ?_
  refine Wp.region fun K13 hK13 => ?_
  simp only [go_sem, simprocAttr, hw6, hyc_16]
  first | apply hK13 | refine ⟨sd, hK13 _ _ ?_⟩
  simp only [thenQ, blockQ, ↓reduceIte]
  refine ⟨(), hlt6, hnx_13 _ hm, ?_⟩
  simp only [go_sem, simprocAttr, hw6, hyc_16]
  try exact se2
theorem ok_internal_strconv_isPowerOfTwo (x_1 : Int) (z : Bool) (hm : internal_strconv_isPowerOfTwo x_1 = some z) : Does Tryd.prog 87 [.p (.i .i64 x_1)] [] (fun r X => r = .p (.b z) ∧ X = []) := by
 unfold internal_strconv_isPowerOfTwo at hm
 refine Does.of_wp 0 8 [.tmp 2] Tryd.func87 rfl (by decide) rfl rfl (Nat.le_of_ble_eq_true rfl) fun B => ?_
 refine qS ?_
 refine qS ?_
 refine Wp.ret ?_
 refine retQ_ret ?_
 cases hm
 exact fse2
theorem ok_math_bits_TrailingZeros64 (x_1 : Int) (z : Int) (hm : math_bits_TrailingZeros64 x_1 = some z) : Does Tryd.prog 97 [.p (.i .u64 x_1)] [] (fun r X => r = .p (.i .i64 z) ∧ X = []) := by
 unfold math_bits_TrailingZeros64 at hm
 refine Does.of_wp 0 14 [.tmp 2] Tryd.func97 rfl (by decide) rfl rfl (Nat.le_of_ble_eq_true rfl) fun B => ?_
 refine qS ?_
 refine Wp.seqW fun K2 hK2 hW2 => ?_
 refine qS ?_
 refine cM hm (fun hc4 hm => ?_) (fun hc4 hm => ?_)
 ·refine qS ?_
  refine Wp.ret ?_
  refine retQ_ret ?_
  cases hm
  exact fse2
 ·refine Wp.skip ?_
  refine hK2 _ _ ?_
  obtain ⟨c_2, hm⟩ := chk_elim hm
  refine Wp.seqR fun K6 hK6 => ?_
  simp only [go_sem, simprocAttr]
  first | apply hK6 | refine ⟨by first | exact sd | ((repeat' apply And.intro) <;> first | assumption | omega | (simp only [List.length_append, List.length_map, List.length_cons, List.length_nil, List.length_set, List.length_replicate] at c_2 ⊢; omega)), hK6 _ _ ?_⟩
  refine Wp.ret ?_
  refine retQ_ret ?_
  cases hm
  exact fse2
theorem ok_math_bits_TrailingZeros (x_1 : Int) (z : Int) (hm : math_bits_TrailingZeros x_1 = some z) : Does Tryd.prog 88 [.p (.i .u64 x_1)] [] (fun r X => r = .p (.i .i64 z) ∧ X = []) := by
 unfold math_bits_TrailingZeros at hm
 refine Does.of_wp 0 8 [.tmp 2] Tryd.func88 rfl (by decide) rfl rfl (Nat.le_of_ble_eq_true rfl) fun B => ?_
 refine qS ?_
 refine Wp.seqW fun K2 hK2 hW2 => ?_
 refine Wp.cond rfl ⟨⟩ (fun hc3 => ?_) (fun hc3 => ?_)
 ·cases hc3
 refine Wp.skip ?_
 refine hK2 _ _ ?_
 obtain ⟨r_2, hr_2, hm⟩ := call_elim hm
 refine Wp.seqR fun K4 hK4 => ?_
 simp only [go_sem, simprocAttr]
 try refine ⟨sd, ?_⟩
 refine Rg.callX (av := ?av5) (g := true) (fun hg => ok_math_bits_TrailingZeros64 x_1 _ hr_2) si si si sg si ?cont5
 intro hv5
 simp only [go_sem, simprocAttr]
 first | apply hK4 | refine ⟨sd, hK4 _ _ ?_⟩
 refine Wp.ret ?_
 refine retQ_ret ?_
 cases hm
 exact fse2
theorem ok_internal_strconv_formatBits (dst_1 : List Int) (u_2 : Int) (base_3 : Int) (neg_4 : Bool) (append__5 : Bool) (z : List Int × Str) (hm : internal_strconv_formatBits dst_1 u_2 base_3 neg_4 append__5 = some z) : Does Tryd.prog 72 [.p (.l (List.map ecI_u8 dst_1)), .p (.i .u64 u_2), .p (.i .i64 base_3), .p (.b neg_4), .p (.b append__5)] [] (fun r X => r = .tup [.p (.l (List.map ecI_u8 z.1)), .p (.s z.2)] ∧ X = []) := by
 unfold internal_strconv_formatBits at hm
 refine Does.of_wp 0 102 [.tmp 10, .tmp 11] Tryd.func72 rfl (by decide) rfl rfl (Nat.le_of_ble_eq_true rfl) fun B => ?_
 refine qS ?_
 refine Wp.seqW fun K2 hK2 hW2 => ?_
 obtain ⟨k_6, hk_6, hm⟩ := jp_elim hm
 have hcut2 : ∀ s, k_6 s = some z → K2 [(0, .p (.l (List.map ecI_u8 dst_1))), (1, .p (.i .u64 u_2)), (2, .p (.i .i64 base_3)), (3, .p (.b neg_4)), (4, .p (.b append__5)), (10, .nils), (11, .p (.s []))] [] := by
  intro s hs
  have hm := hk_6 _ hs
  clear hs
  try dsimp only at hm
  try dsimp only
  refine hK2 _ _ ?_
  refine qS ?_
  refine qS ?_
  refine Wp.seqW fun K5 hK5 hW5 => ?_
  obtain ⟨k_8, hk_8, hm⟩ := jp_elim hm
  have hcut5 : ∀ s, k_8 s = some z → K5 [(0, .p (.l (List.map ecI_u8 dst_1))), (1, .p (.i .u64 s)), (2, .p (.i .i64 base_3)), (3, .p (.b neg_4)), (4, .p (.b append__5)), (10, .nils), (11, .p (.s [])), (12, .ptr 0 0), (13, .p (.i .i64 65))] [.buf 117 1 (List.map ecI_u8 (List.replicate 65 0))] := by
   intro u_7 hs
   have hm := hk_8 _ hs
   clear hs
   try dsimp only at hm
   try dsimp only
   refine hK5 _ _ ?_
   refine Wp.seqW fun K6 hK6 hW6 => ?_
   obtain ⟨k_89, hk_89, hm⟩ := jp_elim hm
   have hcut6 : ∀ s, k_89 s = some z → K6 [(0, .p (.l (List.map ecI_u8 dst_1))), (3, .p (.b neg_4)), (4, .p (.b append__5)), (10, .nils), (11, .p (.s [])), (12, .ptr 0 0), (13, .p (.i .i64 s.1))] [.buf 117 1 (List.map ecI_u8 s.2)] := by
    intro s hs
    have hm := hk_89 _ hs
    clear hs
    obtain ⟨i_87, o0_88⟩ := s
    try dsimp only at hm
    try dsimp only
    refine hK6 _ _ ?_
    refine Wp.seqW fun K7 hK7 hW7 => ?_
    obtain ⟨k_93, hk_93, hm⟩ := jp_elim hm
    have hcut7 : ∀ s, k_93 s = some z → K7 [(0, .p (.l (List.map ecI_u8 dst_1))), (4, .p (.b append__5)), (10, .nils), (11, .p (.s [])), (12, .ptr 0 0), (13, .p (.i .i64 s.1))] [.buf 117 1 (List.map ecI_u8 s.2)] := by
     intro s hs
     have hm := hk_93 _ hs
     clear hs
     obtain ⟨i_91, o0_92⟩ := s
     try dsimp only at hm
     try dsimp only
     refine hK7 _ _ ?_
     refine Wp.seqW fun K8 hK8 hW8 => ?_
     refine qS ?_
     refine cM hm (fun hc10 hm => ?_) (fun hc10 hm => ?_)
     ·obtain ⟨c_94, hm⟩ := chk_elim hm
      cases hm
     ·refine Wp.skip ?_
      refine hK8 _ _ ?_
      obtain ⟨c_95, hm⟩ := chk_elim hm
      refine Wp.seqR fun K11 hK11 => ?_
      simp only [go_sem, simprocAttr]
      first | apply hK11 | refine ⟨by first | exact sd | ((repeat' apply And.intro) <;> first | assumption | omega | (simp only [List.length_append, List.length_map, List.length_cons, List.length_nil, List.length_set, List.length_replicate] at c_95 ⊢; omega)), hK11 _ _ ?_⟩
      refine Wp.ret ?_
      refine retQ_retE ?_
      cases hm
      exact fse2
    clear hK7 hk_93
    refine qS ?_
    refine cM hm (fun hc13 hm => ?_) (fun hc13 hm => ?_)
    ·refine qS ?_
     obtain ⟨c_96, hm⟩ := chk_elim hm
     refine Wp.region fun K15 hK15 => ?_
     simp only [go_sem, simprocAttr]
     first | apply hK15 | refine ⟨by first | exact sd | ((repeat' apply And.intro) <;> first | assumption | omega | (simp only [List.length_append, List.length_map, List.length_cons, List.length_nil, List.length_set, List.length_replicate] at c_96 ⊢; omega)), hK15 _ _ ?_⟩
     refine hW7 _ _ _ _ ?_ (hcut7 (IntKind.i64.wrap (i_87 - 1), List.set o0_88 ((IntKind.i64.wrap (i_87 - 1)).toNat) 45) hm)
     exact fse2
    ·refine Wp.skip ?_
     refine hW7 _ _ _ _ ?_ (hcut7 (i_87, o0_88) hm)
     exact fse2
   clear hK6 hk_89
   obtain ⟨r_97, hr_97, hm⟩ := call_elim hm
   refine Wp.seqR fun K16 hK16 => ?_
   simp only [go_sem, simprocAttr]
   try refine ⟨sd, ?_⟩
   refine Rg.callX (av := ?av17) (g := true) (fun hg => ok_internal_strconv_isPowerOfTwo base_3 _ hr_97) si si si sg si ?cont17
   intro hv17
   simp only [go_sem, simprocAttr]
   first | apply hK16 | refine ⟨sd, hK16 _ _ ?_⟩
   refine cM hm (fun hc18 hm => ?_) (fun hc18 hm => ?_)
   ·obtain ⟨r_98, hr_98, hm⟩ := call_elim hm
    refine Wp.seqR fun K19 hK19 => ?_
    simp only [go_sem, simprocAttr]
    try refine ⟨sd, ?_⟩
    refine Rg.callX (av := ?av20) (g := true) (fun hg => ok_math_bits_TrailingZeros (IntKind.u64.wrap base_3) _ hr_98) si si si sg si ?cont20
    intro hv20
    simp only [go_sem, simprocAttr]
    first | apply hK19 | refine ⟨sd, hK19 _ _ ?_⟩
    refine qS ?_
    refine qS ?_
    refine Wp.seqW fun K23 hK23 hW23 => ?_
    obtain ⟨k_118, hk_118, hm⟩ := jp_elim hm
    have hcut23 : ∀ s, k_118 s = some z → K23 [(0, .p (.l (List.map ecI_u8 dst_1))), (1, .p (.i .u64 s.1)), (3, .p (.b neg_4)), (4, .p (.b append__5)), (10, .nils), (11, .p (.s [])), (12, .ptr 0 0), (13, .p (.i .i64 s.2.1))] [.buf 117 1 (List.map ecI_u8 s.2.2)] := by
     intro s hs
     have hm := hk_118 _ hs
     clear hs
     obtain ⟨u_115, i_116, o0_117⟩ := s
     try dsimp only at hm
     try dsimp only
     refine hK23 _ _ ?_
     refine qS ?_
     obtain ⟨c_119, hbc_119, hxc_119, hm⟩ := idxS_elim hm
     replace hxc_119 : ((([48, 49, 50, 51, 52, 53, 54, 55, 56, 57, 97, 98, 99, 100, 101, 102, 103, 104, 105, 106, 107, 108, 109, 110, 111, 112, 113, 114, 115, 116, 117, 118, 119, 120, 121, 122] : Str).getD u_115.toNat 0).toNat : Int) = c_119 := hxc_119
     obtain ⟨c_120, hm⟩ := chk_elim hm
     refine Wp.region fun K25 hK25 => ?_
     simp only [go_sem, simprocAttr, hxc_119]
     first | apply hK25 | refine ⟨by first | exact sd | ((repeat' apply And.intro) <;> first | assumption | omega | (simp only [List.length_append, List.length_map, List.length_cons, List.length_nil, List.length_set, List.length_replicate] at c_120 ⊢; omega)), hK25 _ _ ?_⟩
     refine hW6 _ _ _ _ ?_ (hcut6 (IntKind.i64.wrap (i_116 - 1), List.set o0_117 ((IntKind.i64.wrap (i_116 - 1)).toNat) c_119) hm)
     simp only [go_sem, simprocAttr, hxc_119]
     try exact se2
    clear hK23 hk_118
    refine Wp.block ?_
    obtain ⟨k_132, hk_132, hm⟩ := loopN_cont hm
    refine Wp.loopN (fun s => [(0, .p (.l (List.map ecI_u8 dst_1))), (1, .p (.i .u64 s.1)), (3, .p (.b neg_4)), (4, .p (.b append__5)), (10, .nils), (11, .p (.s [])), (12, .ptr 0 0), (13, .p (.i .i64 s.2.1)), (14, .p (.i .u64 (IntKind.u64.wrap r_98))), (15, .p (.i .u64 (IntKind.u64.wrap base_3))), (16, .p (.i .u64 (IntKind.u64.wrap ((IntKind.u64.wrap base_3) - 1))))]) (fun s => [.buf 117 1 (List.map ecI_u8 s.2.2)]) ?_ hm ?_
    ·
     exact fse2
    clear hm
    intro s nx_133 hm
    obtain ⟨u_126, i_127, o0_128⟩ := s
    try dsimp only at hm
    try dsimp only
    refine Wp.seqW fun K26 hK26 hW26 => ?_
    refine qS ?_
    refine cM hm (fun hc28 hm => ?_) (fun hc28 hm => ?_)
    ·refine Wp.skip ?_
     refine hK26 _ _ ?_
     refine Wp.block ?_
     refine qS ?_
     obtain ⟨c_134, hbc_134, hxc_134, hm⟩ := idxS_elim hm
     replace hxc_134 : ((([48, 49, 50, 51, 52, 53, 54, 55, 56, 57, 97, 98, 99, 100, 101, 102, 103, 104, 105, 106, 107, 108, 109, 110, 111, 112, 113, 114, 115, 116, 117, 118, 119, 120, 121, 122] : Str).getD ((bitsI .and .u64 u_126 (IntKind.u64.wrap ((IntKind.u64.wrap base_3) - 1))).toNat) 0).toNat : Int) = c_134 := hxc_134
     obtain ⟨c_135, hm⟩ := chk_elim hm
     refine Wp.seqR fun K30 hK30 => ?_
     simp only [go_sem, simprocAttr, hxc_134]
     first | apply hK30 | refine ⟨by first | exact sd | ((repeat' apply And.intro) <;> first | assumption | omega | (simp only [List.length_append, List.length_map, List.length_cons, List.length_nil, List.length_set, List.length_replicate] at c_135 ⊢; omega)), hK30 _ _ ?_⟩
     obtain ⟨c_136, hm⟩ := chk_elim hm
     refine Wp.region fun K31 hK31 => ?_
     simp only [go_sem, simprocAttr, hxc_134]
     first | apply hK31 | refine ⟨by first | exact sd | ((repeat' apply And.intro) <;> first | assumption | omega | (simp only [List.length_append, List.length_map, List.length_cons, List.length_nil, List.length_set, List.length_replicate] at c_136 ⊢; omega)), hK31 _ _ ?_⟩
     simp only [thenQ, blockQ, ↓reduceIte]
     refine ⟨(Int.fdiv u_126 (2 ^ (shI .u64 (IntKind.u64.wrap r_98))), IntKind.i64.wrap (i_127 - 1), List.set o0_128 ((IntKind.i64.wrap (i_127 - 1)).toNat) c_134), hm, ?_⟩
     simp only [go_sem, simprocAttr, hxc_134]
     try exact se2
    ·refine Wp.exit ?_
     simp only [thenQ, blockQ, ↓reduceIte]
     have hm := hk_132 _ hm
     try dsimp only at hm
     refine hW23 _ _ _ _ ?_ (hcut23 (u_126, i_127, o0_128) hm)
     exact fse2
   ·refine qS ?_
    refine Wp.seqW fun K33 hK33 hW33 => ?_
    obtain ⟨k_156, hk_156, hm⟩ := jp_elim hm
    have hcut33 : ∀ s, k_156 s = some z → K33 [(0, .p (.l (List.map ecI_u8 dst_1))), (1, .p (.i .u64 s.1)), (3, .p (.b neg_4)), (4, .p (.b append__5)), (10, .nils), (11, .p (.s [])), (12, .ptr 0 0), (13, .p (.i .i64 s.2.1))] [.buf 117 1 (List.map ecI_u8 s.2.2)] := by
     intro s hs
     have hm := hk_156 _ hs
     clear hs
     obtain ⟨u_153, i_154, o0_155⟩ := s
     try dsimp only at hm
     try dsimp only
     refine hK33 _ _ ?_
     refine qS ?_
     obtain ⟨c_157, hbc_157, hxc_157, hm⟩ := idxS_elim hm
     replace hxc_157 : ((([48, 49, 50, 51, 52, 53, 54, 55, 56, 57, 97, 98, 99, 100, 101, 102, 103, 104, 105, 106, 107, 108, 109, 110, 111, 112, 113, 114, 115, 116, 117, 118, 119, 120, 121, 122] : Str).getD u_153.toNat 0).toNat : Int) = c_157 := hxc_157
     obtain ⟨c_158, hm⟩ := chk_elim hm
     refine Wp.region fun K35 hK35 => ?_
     simp only [go_sem, simprocAttr, hxc_157]
     first | apply hK35 | refine ⟨by first | exact sd | ((repeat' apply And.intro) <;> first | assumption | omega | (simp only [List.length_append, List.length_map, List.length_cons, List.length_nil, List.length_set, List.length_replicate] at c_158 ⊢; omega)), hK35 _ _ ?_⟩
     refine hW6 _ _ _ _ ?_ (hcut6 (IntKind.i64.wrap (i_154 - 1), List.set o0_155 ((IntKind.i64.wrap (i_154 - 1)).toNat) c_157) hm)
     simp only [go_sem, simprocAttr, hxc_157]
     try exact se2
    clear hK33 hk_156
    refine Wp.block ?_
    obtain ⟨k_170, hk_170, hm⟩ := loopN_cont hm
    refine Wp.loopN (fun s => [(0, .p (.l (List.map ecI_u8 dst_1))), (1, .p (.i .u64 s.1)), (3, .p (.b neg_4)), (4, .p (.b append__5)), (10, .nils), (11, .p (.s [])), (12, .ptr 0 0), (13, .p (.i .i64 s.2.1)), (17, .p (.i .u64 (IntKind.u64.wrap base_3)))]) (fun s => [.buf 117 1 (List.map ecI_u8 s.2.2)]) ?_ hm ?_
    ·
     exact fse2
    clear hm
    intro s nx_171 hm
    obtain ⟨u_164, i_165, o0_166⟩ := s
    try dsimp only at hm
    try dsimp only
    refine Wp.seqW fun K36 hK36 hW36 => ?_
    refine qS ?_
    refine cM hm (fun hc38 hm => ?_) (fun hc38 hm => ?_)
    ·refine Wp.skip ?_
     refine hK36 _ _ ?_
     refine Wp.block ?_
     refine qS ?_
     obtain ⟨c_172, hm⟩ := chk_elim hm
     refine Wp.seqR fun K40 hK40 => ?_
     simp only [go_sem, simprocAttr]
     first | apply hK40 | refine ⟨by first | exact sd | ((repeat' apply And.intro) <;> first | assumption | omega | (simp only [List.length_append, List.length_map, List.length_cons, List.length_nil, List.length_set, List.length_replicate] at c_172 ⊢; omega)), hK40 _ _ ?_⟩
     obtain ⟨c_173, hbc_173, hxc_173, hm⟩ := idxS_elim hm
     replace hxc_173 : ((([48, 49, 50, 51, 52, 53, 54, 55, 56, 57, 97, 98, 99, 100, 101, 102, 103, 104, 105, 106, 107, 108, 109, 110, 111, 112, 113, 114, 115, 116, 117, 118, 119, 120, 121, 122] : Str).getD ((IntKind.u64.wrap (u_164 - (IntKind.u64.wrap ((IntKind.u64.wrap (Int.tdiv u_164 (IntKind.u64.wrap base_3))) * (IntKind.u64.wrap base_3))))).toNat) 0).toNat : Int) = c_173 := hxc_173
     obtain ⟨c_174, hm⟩ := chk_elim hm
     refine Wp.seqR fun K41 hK41 => ?_
     simp only [go_sem, simprocAttr, hxc_173]
     first | apply hK41 | refine ⟨by first | exact sd | ((repeat' apply And.intro) <;> first | assumption | omega | (simp only [List.length_append, List.length_map, List.length_cons, List.length_nil, List.length_set, List.length_replicate] at c_174 ⊢; omega)), hK41 _ _ ?_⟩
     refine Wp.region fun K42 hK42 => ?_
     simp only [go_sem, simprocAttr, hxc_173]
     first | apply hK42 | refine ⟨sd, hK42 _ _ ?_⟩
     simp only [thenQ, blockQ, ↓reduceIte]
     refine ⟨(IntKind.u64.wrap (Int.tdiv u_164 (IntKind.u64.wrap base_3)), IntKind.i64.wrap (i_165 - 1), List.set o0_166 ((IntKind.i64.wrap (i_165 - 1)).toNat) c_173), hm, ?_⟩
     simp only [go_sem, simprocAttr, hxc_173]
     try exact se2
    ·refine Wp.exit ?_
     simp only [thenQ, blockQ, ↓reduceIte]
     have hm := hk_170 _ hm
     try dsimp only at hm
     refine hW33 _ _ _ _ ?_ (hcut33 (u_164, i_165, o0_166) hm)
     exact fse2
  clear hK5 hk_8
  refine qS ?_
  refine cM hm (fun hc44 hm => ?_) (fun hc44 hm => ?_)
  ·refine qR ?_
   refine hW5 _ _ _ _ ?_ (hcut5 (IntKind.u64.wrap (-u_2)) hm)
   exact fse2
  ·refine Wp.skip ?_
   refine hW5 _ _ _ _ ?_ (hcut5 u_2 hm)
   exact fse2
 clear hK2 hk_6
 refine qS ?_
 refine cM hm (fun hc47 hm => ?_) (fun hc47 hm => ?_)
 ·cases hm
 ·refine Wp.skip ?_
  refine hW2 _ _ _ _ ?_ (hcut2 () hm)
  exact fse2
theorem ok_internal_strconv_FormatUint (i_1 : Int) (base_2 : Int) (z : Str) (hm : internal_strconv_FormatUint i_1 base_2 = some z) : Does Tryd.prog 56 [.p (.i .u64 i_1), .p (.i .i64 base_2)] [] (fun r X => r = .p (.s z) ∧ X = []) := by
 unfold internal_strconv_FormatUint at hm
 refine Does.of_wp 0 32 [.tmp 4] Tryd.func56 rfl (by decide) rfl rfl (Nat.le_of_ble_eq_true rfl) fun B => ?_
 refine qS ?_
 refine Wp.seqW fun K2 hK2 hW2 => ?_
 refine qS ?_
 refine cM hm (fun hc4 hm => ?_) (fun hc4 hm => ?_)
 ·refine Wp.seqW fun K5 hK5 hW5 => ?_
  refine qS ?_
  refine cM hm (fun hc7 hm => ?_) (fun hc7 hm => ?_)
  ·cases hm
  ·refine Wp.skip ?_
   refine hK5 _ _ ?_
   refine qS ?_
   cases hm
 ·refine Wp.skip ?_
  refine hK2 _ _ ?_
  obtain ⟨r_3, hr_3, hm⟩ := call_elim hm
  refine Wp.seqR fun K9 hK9 => ?_
  simp only [go_sem, simprocAttr]
  try refine ⟨sd, ?_⟩
  refine Rg.callF (av := ?av10) (ok_internal_strconv_formatBits [] i_1 base_2 false false _ hr_3) si si sg ?cont10
  intro hv10
  simp only [go_sem, simprocAttr]
  first | apply hK9 | refine ⟨sd, hK9 _ _ ?_⟩
  refine qS ?_
  refine Wp.ret ?_
  refine retQ_ret ?_
  cases hm
  exact fse2
theorem ok_strconv_FormatUint (i_1 : Int) (base_2 : Int) (z : Str) (hm : strconv_FormatUint i_1 base_2 = some z) : Does Tryd.prog 44 [.p (.i .u64 i_1), .p (.i .i64 base_2)] [] (fun r X => r = .p (.s z) ∧ X = []) := by
 unfold strconv_FormatUint at hm
 refine Does.of_wp 0 8 [.tmp 4] Tryd.func44 rfl (by decide) rfl rfl (Nat.le_of_ble_eq_true rfl) fun B => ?_
 refine qS ?_
 obtain ⟨r_3, hr_3, hm⟩ := call_elim hm
 refine Wp.seqR fun K2 hK2 => ?_
 simp only [go_sem, simprocAttr]
 try refine ⟨sd, ?_⟩
 refine Rg.callX (av := ?av3) (g := true) (fun hg => ok_internal_strconv_FormatUint i_1 base_2 _ hr_3) si si si sg si ?cont3
 intro hv3
 simp only [go_sem, simprocAttr]
 first | apply hK2 | refine ⟨sd, hK2 _ _ ?_⟩
 refine Wp.ret ?_
 refine retQ_ret ?_
 cases hm
 exact fse2
end Go.Proofs.YtbbkahmljdogiaaDoor
