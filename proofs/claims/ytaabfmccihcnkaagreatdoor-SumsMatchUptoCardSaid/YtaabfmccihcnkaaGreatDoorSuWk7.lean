/- That the code does what the models say (part 7). -/
import Derived.Test.YtaabfmccihcnkaaGreatDoorSuWk0
import Derived.Test.YtaabfmccihcnkaaGreatDoorSuWk1
import Derived.Test.YtaabfmccihcnkaaGreatDoorSuWk3
import Derived.Test.YtaabfmccihcnkaaGreatDoorSuWk6
set_option linter.unusedSimpArgs false
set_option linter.unusedVariables false
open Go.Proofs Go.Shelf
namespace Go.Proofs.YtaabfmccihcnkaaGreatDoor
open Go.Vc Go.Md
set_option maxRecDepth 100000
set_option maxHeartbeats 4000000
theorem ok_disk_eachFault_api_Setting_i1 (l_1 : List api_Setting) (z : Int) (hm : disk_eachFault_api_Setting_i1 l_1 = some z) : Does Tryz.prog 199 [.p (.l (List.map enc_api_Setting l_1)), .fn 200 [], .fn 202 []] [] (fun r X => r = .p (.i .i64 z) ∧ X = []) := by
 unfold disk_eachFault_api_Setting_i1 at hm
 refine Does.of_wp 0 39 [.tmp 6] Tryz.func199 rfl (by decide) rfl rfl (Nat.le_of_ble_eq_true rfl) fun B => ?_
 refine qS ?_
 refine Wp.seqW fun K2 hK2 hW2 => ?_
 obtain ⟨k_19, hk_19, hm⟩ := jp_elim hm
 have hcut2 : ∀ s, k_19 s = some z → K2 [] [] := by
  intro s hs
  have hm := hk_19 _ hs
  clear hs
  try dsimp only at hm
  try dsimp only
  refine hK2 _ _ ?_
  refine qS ?_
  refine Wp.ret ?_
  refine retQ_ret ?_
  cases hm
  exact fse2
 clear hK2 hk_19
 refine qS ?_
 refine Wp.block ?_
 obtain ⟨k_27, hk_27, hm⟩ := forL_cont hm
 refine Wp.fact 0 fun hl_30 => ?_
 replace hl_30 : l_1.length ≤ 274877906944 := by
  simp only [go_sem, simprocAttr, List.length_map] at hl_30
  omega
 refine Wp.forL (fun i_29 s => [(0, .p (.l (List.map enc_api_Setting l_1))), (1, .fn 200 []), (2, .fn 202 []), (10, .p (.l (List.map enc_api_Setting l_1))), (11, .p (.i .i64 (l_1.length : Int))), (12, .p (.i .i64 (i_29 : Int)))]) (fun i_29 s => []) ?_ hm ?_
 ·
  exact fse2
 clear hm
 intro i_29 s hii_29 hm
 try dsimp only at hm
 try dsimp only
 refine qS ?_
 refine Wp.seqW fun K6 hK6 hW6 => ?_
 refine Wp.cond rfl ⟨⟩ (fun hc6 => ?_) (fun hc6 => ?_)
 rotate_left
 ·refine Wp.exit ?_
  have hm := hk_27 _ (forL_end hm (ge_nat (by first | exact hc6 | simpa using hc6)))
  try dsimp only at hm
  refine hW2 _ _ _ _ ?_ (hcut2 () hm)
  exact fse2
 have hlt6 := lt_nat (by first | exact hc6 | simpa using hc6)
 have hw6 := wrap_succ hlt6 hl_30
 obtain ⟨s_31, nx_28, hxs_31, hys_31, hnx_28, hm⟩ := forL_step hm hlt6
 replace hxs_31 := hxs_31 enc_api_Setting
 refine Wp.skip ?_
 simp only [thenQ]
 refine hK6 _ _ ?_
 refine Wp.seqW fun K7 hK7 hW7 => ?_
 refine Wp.block ?_
 refine Wp.seqR fun K8 hK8 => ?_
 simp only [go_sem, simprocAttr, hw6, hxs_31]
 first | apply hK8 | refine ⟨sd, hK8 _ _ ?_⟩
 refine Wp.seqW fun K9 hK9 hW9 => ?_
 obtain ⟨r_32, hr_32, hm⟩ := call_elim hm
 refine Wp.seqR fun K10 hK10 => ?_
 simp only [go_sem, simprocAttr, hw6, hxs_31]
 try refine ⟨sd, ?_⟩
 refine Rg.callX (av := ?av11) (g := true) (fun hg => ok_disk_Check_1 s_31 _ hr_32) (by simp only [go_sem, simprocAttr, hw6, hxs_31]; exact Is.mk) (by simp only [go_sem, simprocAttr, hw6, hxs_31]; exact Is.mk) (by simp only [go_sem, simprocAttr, hw6, hxs_31]; exact Is.mk) (by simp only [go_sem, simprocAttr, hw6, hxs_31]) (by simp only [go_sem, simprocAttr, hw6, hxs_31]; exact Is.mk) ?cont11
 intro hv11
 simp only [go_sem, simprocAttr, hw6, hxs_31]
 first | apply hK10 | refine ⟨sd, hK10 _ _ ?_⟩
 refine Wp.seqR fun K12 hK12 => ?_
 simp only [go_sem, simprocAttr, hw6, hxs_31]
 first | apply hK12 | refine ⟨sd, hK12 _ _ ?_⟩
 refine cM hm (fun hc13 hm => ?_) (fun hc13 hm => ?_)
 ·refine Wp.seqR fun K14 hK14 => ?_
  simp only [go_sem, simprocAttr, hw6, hxs_31]
  first | apply hK14 | refine ⟨sd, hK14 _ _ ?_⟩
  refine Wp.ret ?_
  refine retQ_ret ?_
  cases hm
  simp only [go_sem, simprocAttr, hw6, hxs_31]
  try exact se2
 ·refine Wp.skip ?_
  refine hK9 _ _ ?_
  obtain ⟨r_33, hr_33, hm⟩ := callG_elim hm
  obtain ⟨c_34, hm⟩ := chk_elim hm
  obtain ⟨r_35, hr_35, hm⟩ := callG_elim hm
  have hr_36 := getD_enc (l := l_1) (e := enc_api_Setting) (d := (api_Setting.mk [] [])) (i := (IntKind.i64.wrap ((i_29 : Int) - 1)).toNat)
  simp only [enc_api_Setting, List.map_nil] at hr_36
  refine Wp.seqD (plan := pl [(0, none), (1, none), (2, none), (3, none), (4, none), (5, none), (6, none), (7, none), (8, none), (9, none), (10, none), (11, none), (12, none), (13, none), (14, none)]) (by kernel_rfl) rfl (by kernel_rfl) fun K15 hK15 => ?_
  simp only [go_sem, simprocAttr, hw6, hxs_31, hr_36]
  try refine ⟨by first | exact sd | ((repeat' apply And.intro) <;> first | assumption | omega | (simp only [List.length_append, List.length_map, List.length_cons, List.length_nil, List.length_set, List.length_replicate] at c_34 ⊢; omega)), ?_⟩
  refine Dr.callF (av := ?av16) (g := decide (0 < (i_29 : Int))) (o := ?o16) (fun hg => ok_disk_keyOf s_31 _ (hr_33 hg)) (by simp only [go_sem, simprocAttr, hw6, hxs_31, hr_36]; exact Is.mk) (by simp only [go_sem, simprocAttr, hw6, hxs_31, hr_36]; exact Is.mk) (by simp only [go_sem, simprocAttr, hw6, hxs_31, hr_36]; exact Is.mk) (by simp only [go_sem, simprocAttr, hw6, hxs_31, hr_36]; exact Is.mk) (by simp only [go_sem, simprocAttr, hw6, hxs_31, hr_36]) (by simp only [go_sem, simprocAttr, hw6, hxs_31, hr_36]; exact Is.mk) ?cont16
  simp only [go_sem, simprocAttr, hw6, hxs_31, hr_36]
  try refine ⟨by first | exact sd | ((repeat' apply And.intro) <;> first | assumption | omega | (simp only [List.length_append, List.length_map, List.length_cons, List.length_nil, List.length_set, List.length_replicate] at c_34 ⊢; omega)), ?_⟩
  refine Dr.callF (av := ?av17) (g := decide (0 < (i_29 : Int))) (o := ?o17) (fun hg => ok_disk_keyOf (api_Setting.mk ((l_1.getD ((IntKind.i64.wrap ((i_29 : Int) - 1)).toNat) (api_Setting.mk [] [])).Key) ((l_1.getD ((IntKind.i64.wrap ((i_29 : Int) - 1)).toNat) (api_Setting.mk [] [])).Value)) _ (hr_35 hg)) (by simp only [go_sem, simprocAttr, hw6, hxs_31, hr_36]; exact Is.mk) (by simp only [go_sem, simprocAttr, hw6, hxs_31, hr_36]; exact Is.mk) (by simp only [go_sem, simprocAttr, hw6, hxs_31, hr_36]; exact Is.mk) (by simp only [go_sem, simprocAttr, hw6, hxs_31, hr_36]; exact Is.mk) (by simp only [go_sem, simprocAttr, hw6, hxs_31, hr_36]) (by simp only [go_sem, simprocAttr, hw6, hxs_31, hr_36]; exact Is.mk) ?cont17
  simp only [go_sem, simprocAttr, hw6, hxs_31, hr_36]
  first | apply hK15 | refine ⟨by first | exact sd | ((repeat' apply And.intro) <;> first | assumption | omega | (simp only [List.length_append, List.length_map, List.length_cons, List.length_nil, List.length_set, List.length_replicate] at c_34 ⊢; omega)), hK15 _ _ ?_⟩
  refine cM hm (fun hc18 hm => ?_) (fun hc18 hm => ?_)
  ·refine Wp.seqR fun K19 hK19 => ?_
   simp only [go_sem, simprocAttr, hw6, hxs_31]
   first | apply hK19 | refine ⟨sd, hK19 _ _ ?_⟩
   refine Wp.ret ?_
   refine retQ_ret ?_
   cases hm
   simp only [go_sem, simprocAttr, hw6, hxs_31]
   try exact se2
  ·refine Wp.skip ?_
   refine hK7 _ _ ?_
   refine Wp.region fun K20 hK20 => ?_
   simp only [go_sem, simprocAttr, hw6, hxs_31]
   first | apply hK20 | refine ⟨sd, hK20 _ _ ?_⟩
   simp only [thenQ, blockQ, ↓reduceIte]
   refine ⟨(), hlt6, hnx_28 _ hm, ?_⟩
   simp only [go_sem, simprocAttr, hw6, hxs_31]
   try exact se2
theorem ok_ver_isPart_1 (c_1 : Int) (z : Bool) (hm : ver_isPart_1 c_1 = some z) : Does Tryz.prog 345 [.p (.i .u8 c_1)] [] (fun r X => r = .p (.b z) ∧ X = []) := by
 unfold ver_isPart_1 at hm
 refine Does.of_wp 0 29 [.tmp 2] Tryz.func345 rfl (by decide) rfl rfl (Nat.le_of_ble_eq_true rfl) fun B => ?_
 refine qS ?_
 obtain ⟨r_2, hr_2, hm⟩ := call_elim hm
 obtain ⟨r_3, hr_3, hm⟩ := callG_elim hm
 refine Wp.seqR fun K2 hK2 => ?_
 simp only [go_sem, simprocAttr]
 try refine ⟨sd, ?_⟩
 refine Rg.callX (av := ?av3) (g := true) (fun hg => ok_ver_isSmall c_1 _ hr_2) si si si sg si ?cont3
 intro hv3
 simp only [go_sem, simprocAttr]
 try refine ⟨sd, ?_⟩
 refine Rg.callX (av := ?av4) (g := !(r_2 || ((decide (65 ≤ c_1)) && (decide (c_1 ≤ 90))))) (fun hg => ok_ver_isDigit c_1 _ (hr_3 hg)) si si si sg si ?cont4
 intro hv4
 simp only [go_sem, simprocAttr]
 first | apply hK2 | refine ⟨sd, hK2 _ _ ?_⟩
 refine Wp.ret ?_
 refine retQ_ret ?_
 cases hm
 exact fse2
theorem ok_ver_each_i3 (s_1 : Str) (most_2 : Int) (z : Bool) (hm : ver_each_i3 s_1 most_2 = some z) : Does Tryz.prog 194 [.p (.s s_1), .p (.i .i64 most_2), .fn 345 []] [] (fun r X => r = .p (.b z) ∧ X = []) := by
 unfold ver_each_i3 at hm
 refine Does.of_wp 0 28 [.tmp 6] Tryz.func194 rfl (by decide) rfl rfl (Nat.le_of_ble_eq_true rfl) fun B => ?_
 refine qS ?_
 refine Wp.seqW fun K2 hK2 hW2 => ?_
 obtain ⟨k_12, hk_12, hm⟩ := jp_elim hm
 have hcut2 : ∀ s, k_12 s = some z → K2 [(0, .p (.s s_1)), (1, .p (.i .i64 most_2))] [] := by
  intro s hs
  have hm := hk_12 _ hs
  clear hs
  try dsimp only at hm
  try dsimp only
  refine hK2 _ _ ?_
  refine qS ?_
  refine Wp.ret ?_
  refine retQ_ret ?_
  cases hm
  exact fse2
 clear hK2 hk_12
 refine qS ?_
 refine Wp.block ?_
 obtain ⟨k_16, hk_16, hm⟩ := forL_cont hm
 refine Wp.fact 0 fun hl_19 => ?_
 replace hl_19 : s_1.length ≤ 274877906944 := by
  simp only [go_sem, simprocAttr, List.length_map] at hl_19
  omega
 refine Wp.forL (fun i_18 s => [(0, .p (.s s_1)), (1, .p (.i .i64 most_2)), (2, .fn 345 []), (7, .p (.i .i64 (i_18 : Int)))]) (fun i_18 s => []) ?_ hm ?_
 ·
  exact fse2
 clear hm
 intro i_18 s hii_18 hm
 try dsimp only at hm
 try dsimp only
 refine Wp.seqW fun K5 hK5 hW5 => ?_
 refine qS ?_
 refine Wp.cond rfl ⟨⟩ (fun hc5 => ?_) (fun hc5 => ?_)
 rotate_left
 ·refine Wp.exit ?_
  have hm := hk_16 _ (forL_end hm (ge_nat (by first | exact hc5 | simpa using hc5)))
  try dsimp only at hm
  refine hW2 _ _ _ _ ?_ (hcut2 () hm)
  exact fse2
 have hlt5 := lt_nat (by first | exact hc5 | simpa using hc5)
 have hw5 := wrap_succ hlt5 hl_19
 obtain ⟨c_20, nx_17, hxc_20, hyc_20, hnx_17, hm⟩ := forL_step hm hlt5
 clear hxc_20
 refine Wp.skip ?_
 simp only [thenQ]
 refine hK5 _ _ ?_
 refine Wp.seqW fun K7 hK7 hW7 => ?_
 refine Wp.block ?_
 obtain ⟨r_21, hr_21, hm⟩ := call_elim hm
 refine Wp.seqR fun K8 hK8 => ?_
 simp only [go_sem, simprocAttr, hw5, hyc_20]
 try refine ⟨sd, ?_⟩
 refine Rg.callX (av := ?av9) (g := true) (fun hg => ok_ver_isPart_1 (c_20.toNat : Int) _ hr_21) (by simp only [go_sem, simprocAttr, hw5, hyc_20]; exact Is.mk) (by simp only [go_sem, simprocAttr, hw5, hyc_20]; exact Is.mk) (by simp only [go_sem, simprocAttr, hw5, hyc_20]; exact Is.mk) (by simp only [go_sem, simprocAttr, hw5, hyc_20]) (by simp only [go_sem, simprocAttr, hw5, hyc_20]; exact Is.mk) ?cont9
 intro hv9
 simp only [go_sem, simprocAttr, hw5, hyc_20]
 first | apply hK8 | refine ⟨sd, hK8 _ _ ?_⟩
 refine cM hm (fun hc10 hm => ?_) (fun hc10 hm => ?_)
 ·refine Wp.seqR fun K11 hK11 => ?_
  simp only [go_sem, simprocAttr, hw5, hyc_20]
  first | apply hK11 | refine ⟨sd, hK11 _ _ ?_⟩
  refine Wp.ret ?_
  refine retQ_ret ?_
  cases hm
  simp only [go_sem, simprocAttr, hw5, hyc_20]
  try exact se2
 ·refine Wp.skip ?_
  refine hK7 _ _ ?_
  refine Wp.region fun K12 hK12 => ?_
  simp only [go_sem, simprocAttr, hw5, hyc_20]
  first | apply hK12 | refine ⟨sd, hK12 _ _ ?_⟩
  simp only [thenQ, blockQ, ↓reduceIte]
  refine ⟨(), hlt5, hnx_17 _ hm, ?_⟩
  simp only [go_sem, simprocAttr, hw5, hyc_20]
  try exact se2
theorem ok_ver_isPart (s_1 : Str) (z : Bool) (hm : ver_isPart s_1 = some z) : Does Tryz.prog 284 [.p (.s s_1)] [] (fun r X => r = .p (.b z) ∧ X = []) := by
 unfold ver_isPart at hm
 refine Does.of_wp 0 15 [.tmp 2] Tryz.func284 rfl (by decide) rfl rfl (Nat.le_of_ble_eq_true rfl) fun B => ?_
 refine qS ?_
 refine qS ?_
 obtain ⟨r_2, hr_2, hm⟩ := call_elim hm
 refine Wp.seqR fun K3 hK3 => ?_
 simp only [go_sem, simprocAttr]
 try refine ⟨sd, ?_⟩
 refine Rg.callX (av := ?av4) (g := true) (fun hg => ok_ver_each_i3 s_1 40 _ hr_2) si si si sg si ?cont4
 intro hv4
 simp only [go_sem, simprocAttr]
 first | apply hK3 | refine ⟨sd, hK3 _ _ ?_⟩
 refine Wp.ret ?_
 refine retQ_ret ?_
 cases hm
 exact fse2
theorem ok_ver_IsPath (s_1 : Str) (z : Bool) (hm : ver_IsPath s_1 = some z) : Does Tryz.prog 207 [.p (.s s_1)] [] (fun r X => r = .p (.b z) ∧ X = []) := by
 unfold ver_IsPath at hm
 refine Does.of_wp 0 19 [.tmp 2] Tryz.func207 rfl (by decide) rfl rfl (Nat.le_of_ble_eq_true rfl) fun B => ?_
 refine qS ?_
 refine Wp.seqW fun K2 hK2 hW2 => ?_
 obtain ⟨k_12, hk_12, hm⟩ := jp_elim hm
 have hcut2 : ∀ s, k_12 s = some z → K2 [(0, .p (.s s_1))] [] := by
  intro s hs
  have hm := hk_12 _ hs
  clear hs
  try dsimp only at hm
  try dsimp only
  refine hK2 _ _ ?_
  refine qS ?_
  refine Wp.ret ?_
  refine retQ_ret ?_
  cases hm
  exact fse2
 clear hK2 hk_12
 obtain ⟨r_13, hr_13, hm⟩ := call_elim hm
 refine Wp.seqR fun K4 hK4 => ?_
 simp only [go_sem, simprocAttr]
 try refine ⟨sd, ?_⟩
 refine Rg.callF (av := ?av5) (ok_strings_Split s_1 ([47] : Str) _ hr_13) si si sg ?cont5
 intro hv5
 simp only [go_sem, simprocAttr]
 first | apply hK4 | refine ⟨sd, hK4 _ _ ?_⟩
 refine Wp.block ?_
 obtain ⟨k_17, hk_17, hm⟩ := forL_cont hm
 refine Wp.fact 6 fun hl_20 => ?_
 replace hl_20 : r_13.length ≤ 274877906944 := by
  simp only [go_sem, simprocAttr, List.length_map] at hl_20
  omega
 refine Wp.forL (fun i_19 s => [(0, .p (.s s_1)), (6, .p (.l (List.map ecS r_13))), (7, .p (.i .i64 (r_13.length : Int))), (8, .p (.i .i64 (i_19 : Int)))]) (fun i_19 s => []) ?_ hm ?_
 ·
  exact fse2
 clear hm
 intro i_19 s hii_19 hm
 try dsimp only at hm
 try dsimp only
 refine qS ?_
 refine Wp.seqW fun K7 hK7 hW7 => ?_
 refine Wp.cond rfl ⟨⟩ (fun hc7 => ?_) (fun hc7 => ?_)
 rotate_left
 ·refine Wp.exit ?_
  have hm := hk_17 _ (forL_end hm (ge_nat (by first | exact hc7 | simpa using hc7)))
  try dsimp only at hm
  refine hW2 _ _ _ _ ?_ (hcut2 () hm)
  exact fse2
 have hlt7 := lt_nat (by first | exact hc7 | simpa using hc7)
 have hw7 := wrap_succ hlt7 hl_20
 obtain ⟨s_21, nx_18, hxs_21, hys_21, hnx_18, hm⟩ := forL_step hm hlt7
 replace hxs_21 := hxs_21 ecS
 refine Wp.skip ?_
 simp only [thenQ]
 refine hK7 _ _ ?_
 refine Wp.seqW fun K8 hK8 hW8 => ?_
 refine Wp.block ?_
 refine Wp.seqR fun K9 hK9 => ?_
 simp only [go_sem, simprocAttr, hw7, hxs_21]
 first | apply hK9 | refine ⟨sd, hK9 _ _ ?_⟩
 obtain ⟨r_22, hr_22, hm⟩ := call_elim hm
 refine Wp.seqR fun K10 hK10 => ?_
 simp only [go_sem, simprocAttr, hw7, hxs_21]
 try refine ⟨sd, ?_⟩
 refine Rg.callX (av := ?av11) (g := true) (fun hg => ok_ver_isPart s_21 _ hr_22) (by simp only [go_sem, simprocAttr, hw7, hxs_21]; exact Is.mk) (by simp only [go_sem, simprocAttr, hw7, hxs_21]; exact Is.mk) (by simp only [go_sem, simprocAttr, hw7, hxs_21]; exact Is.mk) (by simp only [go_sem, simprocAttr, hw7, hxs_21]) (by simp only [go_sem, simprocAttr, hw7, hxs_21]; exact Is.mk) ?cont11
 intro hv11
 simp only [go_sem, simprocAttr, hw7, hxs_21]
 first | apply hK10 | refine ⟨sd, hK10 _ _ ?_⟩
 refine cM hm (fun hc12 hm => ?_) (fun hc12 hm => ?_)
 ·refine Wp.seqR fun K13 hK13 => ?_
  simp only [go_sem, simprocAttr, hw7, hxs_21]
  first | apply hK13 | refine ⟨sd, hK13 _ _ ?_⟩
  refine Wp.ret ?_
  refine retQ_ret ?_
  cases hm
  simp only [go_sem, simprocAttr, hw7, hxs_21]
  try exact se2
 ·refine Wp.skip ?_
  refine hK8 _ _ ?_
  refine Wp.region fun K14 hK14 => ?_
  simp only [go_sem, simprocAttr, hw7, hxs_21]
  first | apply hK14 | refine ⟨sd, hK14 _ _ ?_⟩
  simp only [thenQ, blockQ, ↓reduceIte]
  refine ⟨(), hlt7, hnx_18 _ hm, ?_⟩
  simp only [go_sem, simprocAttr, hw7, hxs_21]
  try exact se2
theorem ok_disk_fileFault (f_1 : api_File) (z : Int) (hm : disk_fileFault f_1 = some z) : Does Tryz.prog 203 [.agg [.p (.s f_1.Path), .p (.s f_1.Data), .p (.b f_1.Runs)]] [] (fun r X => r = .p (.i .i64 z) ∧ X = []) := by
 unfold disk_fileFault at hm
 refine Does.of_wp 0 11 [.tmp 2] Tryz.func203 rfl (by decide) rfl rfl (Nat.le_of_ble_eq_true rfl) fun B => ?_
 refine qS ?_
 refine Wp.seqW fun K2 hK2 hW2 => ?_
 obtain ⟨r_2, hr_2, hm⟩ := call_elim hm
 refine Wp.seqR fun K3 hK3 => ?_
 simp only [go_sem, simprocAttr]
 try refine ⟨sd, ?_⟩
 refine Rg.callX (av := ?av4) (g := true) (fun hg => ok_ver_IsPath f_1.Path _ hr_2) si si si sg si ?cont4
 intro hv4
 simp only [go_sem, simprocAttr]
 first | apply hK3 | refine ⟨sd, hK3 _ _ ?_⟩
 refine cM hm (fun hc5 hm => ?_) (fun hc5 hm => ?_)
 ·refine qS ?_
  refine Wp.ret ?_
  refine retQ_ret ?_
  cases hm
  exact fse2
 ·refine Wp.skip ?_
  refine hK2 _ _ ?_
  refine Wp.seqW fun K7 hK7 hW7 => ?_
  refine qS ?_
  refine cM hm (fun hc9 hm => ?_) (fun hc9 hm => ?_)
  ·refine qS ?_
   refine Wp.ret ?_
   refine retQ_ret ?_
   cases hm
   exact fse2
  ·refine Wp.skip ?_
   refine hK7 _ _ ?_
   refine qS ?_
   refine Wp.ret ?_
   refine retQ_ret ?_
   cases hm
   exact fse2
theorem ok_disk_Check_2_i1 (dir_1 : Str) (m1_2 : List (Str × Bool)) (z : Bool) (hm : disk_Check_2_i1 dir_1 m1_2 = some z) : Does Tryz.prog 205 [.p (.s dir_1), .ptr 0 0] [.cells 138 [.mp 1], .mp false (encM Dt.s ecB m1_2)] (fun r X => r = .p (.b z) ∧ X = [.cells 138 [.mp 1], .mp false (encM Dt.s ecB m1_2)]) := by
 unfold disk_Check_2_i1 at hm
 refine Does.of_wp 2 8 [.tmp 3] Tryz.func205 rfl (by decide) rfl rfl (Nat.le_of_ble_eq_true rfl) fun B => ?_
 refine qS ?_
 obtain ⟨q_5, hq_6, hm⟩ := letv_elim hm
 have hq_6d := mlookD_enc (e := ecB) keq_s m1_2 dir_1 false
 have hq_6s := mlook_some (e := ecB) keq_s m1_2 dir_1
 simp only [hq_6, ecB, List.map_nil] at hq_6d hq_6s
 refine Wp.seqR fun K2 hK2 => ?_
 simp only [go_sem, simprocAttr, hq_6d, hq_6s]
 first | apply hK2 | refine ⟨sd, hK2 _ _ ?_⟩
 refine Wp.ret ?_
 refine retQ_ret ?_
 cases hm
 exact fse2
theorem ok_disk_above_i1 (path_1 : Str) (m1_2 : List (Str × Bool)) (z : Bool) (hm : disk_above_i1 path_1 m1_2 = some z) : Does Tryz.prog 204 [.p (.s path_1), .fn 205 [.ptr 0 0]] [.cells 138 [.mp 1], .mp false (encM Dt.s ecB m1_2)] (fun r X => r = .p (.b z) ∧ X = [.cells 138 [.mp 1], .mp false (encM Dt.s ecB m1_2)]) := by
 unfold disk_above_i1 at hm
 refine Does.of_wp 2 24 [.tmp 4] Tryz.func204 rfl (by decide) rfl rfl (Nat.le_of_ble_eq_true rfl) fun B => ?_
 refine qS ?_
 refine Wp.seqW fun K2 hK2 hW2 => ?_
 obtain ⟨k_37, hk_37, hm⟩ := jp_elim hm
 have hcut2 : ∀ s, k_37 s = some z → K2 [] [.cells 138 [.mp 1], .mp false (encM Dt.s ecB m1_2)] := by
  intro s hs
  have hm := hk_37 _ hs
  clear hs
  try dsimp only at hm
  try dsimp only
  refine hK2 _ _ ?_
  refine qS ?_
  refine Wp.ret ?_
  refine retQ_ret ?_
  cases hm
  exact fse2
 clear hK2 hk_37
 refine qS ?_
 refine Wp.block ?_
 obtain ⟨k_42, hk_42, hm⟩ := forL_cont hm
 refine Wp.fact 0 fun hl_45 => ?_
 replace hl_45 : path_1.length ≤ 274877906944 := by
  simp only [go_sem, simprocAttr, List.length_map] at hl_45
  omega
 refine Wp.forL (fun i_44 s => [(0, .p (.s path_1)), (1, .fn 205 [.ptr 0 0]), (5, .p (.i .i64 (i_44 : Int)))]) (fun i_44 s => [.cells 138 [.mp 1], .mp false (encM Dt.s ecB m1_2)]) ?_ hm ?_
 ·
  exact fse2
 clear hm
 intro i_44 s hii_44 hm
 try dsimp only at hm
 try dsimp only
 refine Wp.seqW fun K5 hK5 hW5 => ?_
 refine qS ?_
 refine Wp.cond rfl ⟨⟩ (fun hc5 => ?_) (fun hc5 => ?_)
 rotate_left
 ·refine Wp.exit ?_
  have hm := hk_42 _ (forL_end hm (ge_nat (by first | exact hc5 | simpa using hc5)))
  try dsimp only at hm
  refine hW2 _ _ _ _ ?_ (hcut2 () hm)
  exact fse2
 have hlt5 := lt_nat (by first | exact hc5 | simpa using hc5)
 have hw5 := wrap_succ hlt5 hl_45
 obtain ⟨c_46, nx_43, hxc_46, hyc_46, hnx_43, hm⟩ := forL_step hm hlt5
 clear hxc_46
 refine Wp.skip ?_
 simp only [thenQ]
 refine hK5 _ _ ?_
 refine Wp.seqW fun K7 hK7 hW7 => ?_
 refine Wp.block ?_
 obtain ⟨c_47, hm⟩ := chk_elim hm
 obtain ⟨r_48, hr_48, hm⟩ := callG_elim hm
 refine Wp.seqR fun K8 hK8 => ?_
 simp only [go_sem, simprocAttr, hw5, hyc_46]
 try refine ⟨by first | exact sd | ((repeat' apply And.intro) <;> first | assumption | omega | (simp only [List.length_append, List.length_map, List.length_cons, List.length_nil, List.length_set, List.length_replicate] at c_47 ⊢; omega)), ?_⟩
 refine Rg.callR (av := ?av9) (g := decide ((c_46.toNat : Int) = 47)) [0, 1] (fun hg => ok_disk_Check_2_i1 (List.take i_44 path_1) m1_2 _ (hr_48 hg)) (by simp only [go_sem, simprocAttr, hw5, hyc_46]; exact Is.mk) (by simp only [go_sem, simprocAttr, hw5, hyc_46]; exact Is.mk) (by simp only [go_sem, simprocAttr, hw5, hyc_46]; exact Is.mk) (by simp only [go_sem, simprocAttr, hw5, hyc_46]; exact Is.mk) (by simp only [go_sem, simprocAttr, hw5, hyc_46]) (by simp only [go_sem, simprocAttr, hw5, hyc_46]) (by simp only [go_sem, simprocAttr, hw5, hyc_46]) ?cont9
 simp only [go_sem, simprocAttr, hw5, hyc_46]
 first | apply hK8 | refine ⟨by first | exact sd | ((repeat' apply And.intro) <;> first | assumption | omega | (simp only [List.length_append, List.length_map, List.length_cons, List.length_nil, List.length_set, List.length_replicate] at c_47 ⊢; omega)), hK8 _ _ ?_⟩
 refine cM hm (fun hc10 hm => ?_) (fun hc10 hm => ?_)
 ·refine Wp.seqR fun K11 hK11 => ?_
  simp only [go_sem, simprocAttr, hw5, hyc_46]
  first | apply hK11 | refine ⟨sd, hK11 _ _ ?_⟩
  refine Wp.ret ?_
  refine retQ_ret ?_
  cases hm
  simp only [go_sem, simprocAttr, hw5, hyc_46]
  try exact se2
 ·refine Wp.skip ?_
  refine hK7 _ _ ?_
  refine Wp.region fun K12 hK12 => ?_
  simp only [go_sem, simprocAttr, hw5, hyc_46]
  first | apply hK12 | refine ⟨sd, hK12 _ _ ?_⟩
  simp only [thenQ, blockQ, ↓reduceIte]
  refine ⟨(), hlt5, hnx_43 _ hm, ?_⟩
  simp only [go_sem, simprocAttr, hw5, hyc_46]
  try exact se2
theorem ok_disk_settingFault_i2 (s_1 : api_Setting) (z : Int) (hm : disk_settingFault_i2 s_1 = some z) : Does Tryz.prog 201 [.agg [.p (.s s_1.Key), .p (.s s_1.Value)], .fn 207 []] [] (fun r X => r = .p (.i .i64 z) ∧ X = []) := by
 unfold disk_settingFault_i2 at hm
 refine Does.of_wp 0 14 [.tmp 4] Tryz.func201 rfl (by decide) rfl rfl (Nat.le_of_ble_eq_true rfl) fun B => ?_
 refine qS ?_
 refine Wp.seqW fun K2 hK2 hW2 => ?_
 obtain ⟨r_2, hr_2, hm⟩ := call_elim hm
 refine Wp.seqR fun K3 hK3 => ?_
 simp only [go_sem, simprocAttr]
 try refine ⟨sd, ?_⟩
 refine Rg.callX (av := ?av4) (g := true) (fun hg => ok_ver_IsPath s_1.Key _ hr_2) si si si sg si ?cont4
 intro hv4
 simp only [go_sem, simprocAttr]
 first | apply hK3 | refine ⟨sd, hK3 _ _ ?_⟩
 refine cM hm (fun hc5 hm => ?_) (fun hc5 hm => ?_)
 ·refine qS ?_
  refine Wp.ret ?_
  refine retQ_ret ?_
  cases hm
  exact fse2
 ·refine Wp.skip ?_
  refine hK2 _ _ ?_
  refine Wp.seqW fun K7 hK7 hW7 => ?_
  obtain ⟨r_3, hr_3, hm⟩ := call_elim hm
  refine Wp.seqR fun K8 hK8 => ?_
  simp only [go_sem, simprocAttr]
  try refine ⟨sd, ?_⟩
  refine Rg.callX (av := ?av9) (g := true) (fun hg => ok_ver_IsValue s_1.Value _ hr_3) si si si sg si ?cont9
  intro hv9
  simp only [go_sem, simprocAttr]
  first | apply hK8 | refine ⟨sd, hK8 _ _ ?_⟩
  refine cM hm (fun hc10 hm => ?_) (fun hc10 hm => ?_)
  ·refine qS ?_
   refine Wp.ret ?_
   refine retQ_ret ?_
   cases hm
   exact fse2
  ·refine Wp.skip ?_
   refine hK7 _ _ ?_
   refine qS ?_
   refine Wp.ret ?_
   refine retQ_ret ?_
   cases hm
   exact fse2
theorem ok_disk_Check_3 (s_1 : api_Setting) (z : Int) (hm : disk_Check_3 s_1 = some z) : Does Tryz.prog 206 [.agg [.p (.s s_1.Key), .p (.s s_1.Value)]] [] (fun r X => r = .p (.i .i64 z) ∧ X = []) := by
 unfold disk_Check_3 at hm
 refine Does.of_wp 0 5 [.tmp 2] Tryz.func206 rfl (by decide) rfl rfl (Nat.le_of_ble_eq_true rfl) fun B => ?_
 refine qS ?_
 obtain ⟨r_2, hr_2, hm⟩ := call_elim hm
 refine Wp.seqR fun K2 hK2 => ?_
 simp only [go_sem, simprocAttr]
 try refine ⟨sd, ?_⟩
 refine Rg.callX (av := ?av3) (g := true) (fun hg => ok_disk_settingFault_i2 s_1 _ hr_2) si si si sg si ?cont3
 intro hv3
 simp only [go_sem, simprocAttr]
 first | apply hK2 | refine ⟨sd, hK2 _ _ ?_⟩
 refine Wp.ret ?_
 refine retQ_ret ?_
 cases hm
 exact fse2
theorem ok_disk_eachFault_api_Setting_i2 (l_1 : List api_Setting) (z : Int) (hm : disk_eachFault_api_Setting_i2 l_1 = some z) : Does Tryz.prog 199 [.p (.l (List.map enc_api_Setting l_1)), .fn 206 [], .fn 202 []] [] (fun r X => r = .p (.i .i64 z) ∧ X = []) := by
 unfold disk_eachFault_api_Setting_i2 at hm
 refine Does.of_wp 0 39 [.tmp 6] Tryz.func199 rfl (by decide) rfl rfl (Nat.le_of_ble_eq_true rfl) fun B => ?_
 refine qS ?_
 refine Wp.seqW fun K2 hK2 hW2 => ?_
 obtain ⟨k_19, hk_19, hm⟩ := jp_elim hm
 have hcut2 : ∀ s, k_19 s = some z → K2 [] [] := by
  intro s hs
  have hm := hk_19 _ hs
  clear hs
  try dsimp only at hm
  try dsimp only
  refine hK2 _ _ ?_
  refine qS ?_
  refine Wp.ret ?_
  refine retQ_ret ?_
  cases hm
  exact fse2
 clear hK2 hk_19
 refine qS ?_
 refine Wp.block ?_
 obtain ⟨k_27, hk_27, hm⟩ := forL_cont hm
 refine Wp.fact 0 fun hl_30 => ?_
 replace hl_30 : l_1.length ≤ 274877906944 := by
  simp only [go_sem, simprocAttr, List.length_map] at hl_30
  omega
 refine Wp.forL (fun i_29 s => [(0, .p (.l (List.map enc_api_Setting l_1))), (1, .fn 206 []), (2, .fn 202 []), (10, .p (.l (List.map enc_api_Setting l_1))), (11, .p (.i .i64 (l_1.length : Int))), (12, .p (.i .i64 (i_29 : Int)))]) (fun i_29 s => []) ?_ hm ?_
 ·
  exact fse2
 clear hm
 intro i_29 s hii_29 hm
 try dsimp only at hm
 try dsimp only
 refine qS ?_
 refine Wp.seqW fun K6 hK6 hW6 => ?_
 refine Wp.cond rfl ⟨⟩ (fun hc6 => ?_) (fun hc6 => ?_)
 rotate_left
 ·refine Wp.exit ?_
  have hm := hk_27 _ (forL_end hm (ge_nat (by first | exact hc6 | simpa using hc6)))
  try dsimp only at hm
  refine hW2 _ _ _ _ ?_ (hcut2 () hm)
  exact fse2
 have hlt6 := lt_nat (by first | exact hc6 | simpa using hc6)
 have hw6 := wrap_succ hlt6 hl_30
 obtain ⟨s_31, nx_28, hxs_31, hys_31, hnx_28, hm⟩ := forL_step hm hlt6
 replace hxs_31 := hxs_31 enc_api_Setting
 refine Wp.skip ?_
 simp only [thenQ]
 refine hK6 _ _ ?_
 refine Wp.seqW fun K7 hK7 hW7 => ?_
 refine Wp.block ?_
 refine Wp.seqR fun K8 hK8 => ?_
 simp only [go_sem, simprocAttr, hw6, hxs_31]
 first | apply hK8 | refine ⟨sd, hK8 _ _ ?_⟩
 refine Wp.seqW fun K9 hK9 hW9 => ?_
 obtain ⟨r_32, hr_32, hm⟩ := call_elim hm
 refine Wp.seqR fun K10 hK10 => ?_
 simp only [go_sem, simprocAttr, hw6, hxs_31]
 try refine ⟨sd, ?_⟩
 refine Rg.callX (av := ?av11) (g := true) (fun hg => ok_disk_Check_3 s_31 _ hr_32) (by simp only [go_sem, simprocAttr, hw6, hxs_31]; exact Is.mk) (by simp only [go_sem, simprocAttr, hw6, hxs_31]; exact Is.mk) (by simp only [go_sem, simprocAttr, hw6, hxs_31]; exact Is.mk) (by simp only [go_sem, simprocAttr, hw6, hxs_31]) (by simp only [go_sem, simprocAttr, hw6, hxs_31]; exact Is.mk) ?cont11
 intro hv11
 simp only [go_sem, simprocAttr, hw6, hxs_31]
 first | apply hK10 | refine ⟨sd, hK10 _ _ ?_⟩
 refine Wp.seqR fun K12 hK12 => ?_
 simp only [go_sem, simprocAttr, hw6, hxs_31]
 first | apply hK12 | refine ⟨sd, hK12 _ _ ?_⟩
 refine cM hm (fun hc13 hm => ?_) (fun hc13 hm => ?_)
 ·refine Wp.seqR fun K14 hK14 => ?_
  simp only [go_sem, simprocAttr, hw6, hxs_31]
  first | apply hK14 | refine ⟨sd, hK14 _ _ ?_⟩
  refine Wp.ret ?_
  refine retQ_ret ?_
  cases hm
  simp only [go_sem, simprocAttr, hw6, hxs_31]
  try exact se2
 ·refine Wp.skip ?_
  refine hK9 _ _ ?_
  obtain ⟨r_33, hr_33, hm⟩ := callG_elim hm
  obtain ⟨c_34, hm⟩ := chk_elim hm
  obtain ⟨r_35, hr_35, hm⟩ := callG_elim hm
  have hr_36 := getD_enc (l := l_1) (e := enc_api_Setting) (d := (api_Setting.mk [] [])) (i := (IntKind.i64.wrap ((i_29 : Int) - 1)).toNat)
  simp only [enc_api_Setting, List.map_nil] at hr_36
  refine Wp.seqD (plan := pl [(0, none), (1, none), (2, none), (3, none), (4, none), (5, none), (6, none), (7, none), (8, none), (9, none), (10, none), (11, none), (12, none), (13, none), (14, none)]) (by kernel_rfl) rfl (by kernel_rfl) fun K15 hK15 => ?_
  simp only [go_sem, simprocAttr, hw6, hxs_31, hr_36]
  try refine ⟨by first | exact sd | ((repeat' apply And.intro) <;> first | assumption | omega | (simp only [List.length_append, List.length_map, List.length_cons, List.length_nil, List.length_set, List.length_replicate] at c_34 ⊢; omega)), ?_⟩
  refine Dr.callF (av := ?av16) (g := decide (0 < (i_29 : Int))) (o := ?o16) (fun hg => ok_disk_keyOf s_31 _ (hr_33 hg)) (by simp only [go_sem, simprocAttr, hw6, hxs_31, hr_36]; exact Is.mk) (by simp only [go_sem, simprocAttr, hw6, hxs_31, hr_36]; exact Is.mk) (by simp only [go_sem, simprocAttr, hw6, hxs_31, hr_36]; exact Is.mk) (by simp only [go_sem, simprocAttr, hw6, hxs_31, hr_36]; exact Is.mk) (by simp only [go_sem, simprocAttr, hw6, hxs_31, hr_36]) (by simp only [go_sem, simprocAttr, hw6, hxs_31, hr_36]; exact Is.mk) ?cont16
  simp only [go_sem, simprocAttr, hw6, hxs_31, hr_36]
  try refine ⟨by first | exact sd | ((repeat' apply And.intro) <;> first | assumption | omega | (simp only [List.length_append, List.length_map, List.length_cons, List.length_nil, List.length_set, List.length_replicate] at c_34 ⊢; omega)), ?_⟩
  refine Dr.callF (av := ?av17) (g := decide (0 < (i_29 : Int))) (o := ?o17) (fun hg => ok_disk_keyOf (api_Setting.mk ((l_1.getD ((IntKind.i64.wrap ((i_29 : Int) - 1)).toNat) (api_Setting.mk [] [])).Key) ((l_1.getD ((IntKind.i64.wrap ((i_29 : Int) - 1)).toNat) (api_Setting.mk [] [])).Value)) _ (hr_35 hg)) (by simp only [go_sem, simprocAttr, hw6, hxs_31, hr_36]; exact Is.mk) (by simp only [go_sem, simprocAttr, hw6, hxs_31, hr_36]; exact Is.mk) (by simp only [go_sem, simprocAttr, hw6, hxs_31, hr_36]; exact Is.mk) (by simp only [go_sem, simprocAttr, hw6, hxs_31, hr_36]; exact Is.mk) (by simp only [go_sem, simprocAttr, hw6, hxs_31, hr_36]) (by simp only [go_sem, simprocAttr, hw6, hxs_31, hr_36]; exact Is.mk) ?cont17
  simp only [go_sem, simprocAttr, hw6, hxs_31, hr_36]
  first | apply hK15 | refine ⟨by first | exact sd | ((repeat' apply And.intro) <;> first | assumption | omega | (simp only [List.length_append, List.length_map, List.length_cons, List.length_nil, List.length_set, List.length_replicate] at c_34 ⊢; omega)), hK15 _ _ ?_⟩
  refine cM hm (fun hc18 hm => ?_) (fun hc18 hm => ?_)
  ·refine Wp.seqR fun K19 hK19 => ?_
   simp only [go_sem, simprocAttr, hw6, hxs_31]
   first | apply hK19 | refine ⟨sd, hK19 _ _ ?_⟩
   refine Wp.ret ?_
   refine retQ_ret ?_
   cases hm
   simp only [go_sem, simprocAttr, hw6, hxs_31]
   try exact se2
  ·refine Wp.skip ?_
   refine hK7 _ _ ?_
   refine Wp.region fun K20 hK20 => ?_
   simp only [go_sem, simprocAttr, hw6, hxs_31]
   first | apply hK20 | refine ⟨sd, hK20 _ _ ?_⟩
   simp only [thenQ, blockQ, ↓reduceIte]
   refine ⟨(), hlt6, hnx_28 _ hm, ?_⟩
   simp only [go_sem, simprocAttr, hw6, hxs_31]
   try exact se2
theorem ok_disk_serviceFault (s_1 : api_Service) (z : Int) (hm : disk_serviceFault s_1 = some z) : Does Tryz.prog 209 [.agg [.p (.s s_1.Name), .p (.s s_1.Path), .p (.b s_1.Auto), .p (.b s_1.On)]] [] (fun r X => r = .p (.i .i64 z) ∧ X = []) := by
 unfold disk_serviceFault at hm
 refine Does.of_wp 0 13 [.tmp 2] Tryz.func209 rfl (by decide) rfl rfl (Nat.le_of_ble_eq_true rfl) fun B => ?_
 refine qS ?_
 refine Wp.seqW fun K2 hK2 hW2 => ?_
 obtain ⟨r_2, hr_2, hm⟩ := call_elim hm
 obtain ⟨r_3, hr_3, hm⟩ := callG_elim hm
 refine Wp.seqR fun K3 hK3 => ?_
 simp only [go_sem, simprocAttr]
 try refine ⟨sd, ?_⟩
 refine Rg.callX (av := ?av4) (g := true) (fun hg => ok_ver_IsName s_1.Name _ hr_2) si si si sg si ?cont4
 intro hv4
 simp only [go_sem, simprocAttr]
 try refine ⟨sd, ?_⟩
 refine Rg.callX (av := ?av5) (g := !(!r_2)) (fun hg => ok_ver_IsPath s_1.Path _ (hr_3 hg)) si si si sg si ?cont5
 intro hv5
 simp only [go_sem, simprocAttr]
 first | apply hK3 | refine ⟨sd, hK3 _ _ ?_⟩
 refine cM hm (fun hc6 hm => ?_) (fun hc6 hm => ?_)
 ·refine qS ?_
  refine Wp.ret ?_
  refine retQ_ret ?_
  cases hm
  exact fse2
 ·refine Wp.skip ?_
  refine hK2 _ _ ?_
  refine qS ?_
  refine Wp.ret ?_
  refine retQ_ret ?_
  cases hm
  exact fse2
theorem ok_disk_nameOf (s_1 : api_Service) (z : Str) (hm : disk_nameOf s_1 = some z) : Does Tryz.prog 210 [.agg [.p (.s s_1.Name), .p (.s s_1.Path), .p (.b s_1.Auto), .p (.b s_1.On)]] [] (fun r X => r = .p (.s z) ∧ X = []) := by
 unfold disk_nameOf at hm
 refine Does.of_wp 0 5 [.tmp 2] Tryz.func210 rfl (by decide) rfl rfl (Nat.le_of_ble_eq_true rfl) fun B => ?_
 refine qS ?_
 refine qS ?_
 refine Wp.ret ?_
 refine retQ_ret ?_
 cases hm
 exact fse2
theorem ok_disk_eachFault_api_Service_i1 (l_1 : List api_Service) (z : Int) (hm : disk_eachFault_api_Service_i1 l_1 = some z) : Does Tryz.prog 208 [.p (.l (List.map enc_api_Service l_1)), .fn 209 [], .fn 210 []] [] (fun r X => r = .p (.i .i64 z) ∧ X = []) := by
 unfold disk_eachFault_api_Service_i1 at hm
 refine Does.of_wp 0 39 [.tmp 6] Tryz.func208 rfl (by decide) rfl rfl (Nat.le_of_ble_eq_true rfl) fun B => ?_
 refine qS ?_
 refine Wp.seqW fun K2 hK2 hW2 => ?_
 obtain ⟨k_19, hk_19, hm⟩ := jp_elim hm
 have hcut2 : ∀ s, k_19 s = some z → K2 [] [] := by
  intro s hs
  have hm := hk_19 _ hs
  clear hs
  try dsimp only at hm
  try dsimp only
  refine hK2 _ _ ?_
  refine qS ?_
  refine Wp.ret ?_
  refine retQ_ret ?_
  cases hm
  exact fse2
 clear hK2 hk_19
 refine qS ?_
 refine Wp.block ?_
 obtain ⟨k_27, hk_27, hm⟩ := forL_cont hm
 refine Wp.fact 0 fun hl_30 => ?_
 replace hl_30 : l_1.length ≤ 274877906944 := by
  simp only [go_sem, simprocAttr, List.length_map] at hl_30
  omega
 refine Wp.forL (fun i_29 s => [(0, .p (.l (List.map enc_api_Service l_1))), (1, .fn 209 []), (2, .fn 210 []), (10, .p (.l (List.map enc_api_Service l_1))), (11, .p (.i .i64 (l_1.length : Int))), (12, .p (.i .i64 (i_29 : Int)))]) (fun i_29 s => []) ?_ hm ?_
 ·
  exact fse2
 clear hm
 intro i_29 s hii_29 hm
 try dsimp only at hm
 try dsimp only
 refine qS ?_
 refine Wp.seqW fun K6 hK6 hW6 => ?_
 refine Wp.cond rfl ⟨⟩ (fun hc6 => ?_) (fun hc6 => ?_)
 rotate_left
 ·refine Wp.exit ?_
  have hm := hk_27 _ (forL_end hm (ge_nat (by first | exact hc6 | simpa using hc6)))
  try dsimp only at hm
  refine hW2 _ _ _ _ ?_ (hcut2 () hm)
  exact fse2
 have hlt6 := lt_nat (by first | exact hc6 | simpa using hc6)
 have hw6 := wrap_succ hlt6 hl_30
 obtain ⟨s_31, nx_28, hxs_31, hys_31, hnx_28, hm⟩ := forL_step hm hlt6
 replace hxs_31 := hxs_31 enc_api_Service
 refine Wp.skip ?_
 simp only [thenQ]
 refine hK6 _ _ ?_
 refine Wp.seqW fun K7 hK7 hW7 => ?_
 refine Wp.block ?_
 refine Wp.seqR fun K8 hK8 => ?_
 simp only [go_sem, simprocAttr, hw6, hxs_31]
 first | apply hK8 | refine ⟨sd, hK8 _ _ ?_⟩
 refine Wp.seqW fun K9 hK9 hW9 => ?_
 obtain ⟨r_32, hr_32, hm⟩ := call_elim hm
 refine Wp.seqR fun K10 hK10 => ?_
 simp only [go_sem, simprocAttr, hw6, hxs_31]
 try refine ⟨sd, ?_⟩
 refine Rg.callX (av := ?av11) (g := true) (fun hg => ok_disk_serviceFault s_31 _ hr_32) (by simp only [go_sem, simprocAttr, hw6, hxs_31]; exact Is.mk) (by simp only [go_sem, simprocAttr, hw6, hxs_31]; exact Is.mk) (by simp only [go_sem, simprocAttr, hw6, hxs_31]; exact Is.mk) (by simp only [go_sem, simprocAttr, hw6, hxs_31]) (by simp only [go_sem, simprocAttr, hw6, hxs_31]; exact Is.mk) ?cont11
 intro hv11
 simp only [go_sem, simprocAttr, hw6, hxs_31]
 first | apply hK10 | refine ⟨sd, hK10 _ _ ?_⟩
 refine Wp.seqR fun K12 hK12 => ?_
 simp only [go_sem, simprocAttr, hw6, hxs_31]
 first | apply hK12 | refine ⟨sd, hK12 _ _ ?_⟩
 refine cM hm (fun hc13 hm => ?_) (fun hc13 hm => ?_)
 ·refine Wp.seqR fun K14 hK14 => ?_
  simp only [go_sem, simprocAttr, hw6, hxs_31]
  first | apply hK14 | refine ⟨sd, hK14 _ _ ?_⟩
  refine Wp.ret ?_
  refine retQ_ret ?_
  cases hm
  simp only [go_sem, simprocAttr, hw6, hxs_31]
  try exact se2
 ·refine Wp.skip ?_
  refine hK9 _ _ ?_
  obtain ⟨r_33, hr_33, hm⟩ := callG_elim hm
  obtain ⟨c_34, hm⟩ := chk_elim hm
  obtain ⟨r_35, hr_35, hm⟩ := callG_elim hm
  have hr_36 := getD_enc (l := l_1) (e := enc_api_Service) (d := (api_Service.mk [] [] false false)) (i := (IntKind.i64.wrap ((i_29 : Int) - 1)).toNat)
  simp only [enc_api_Service, List.map_nil] at hr_36
  refine Wp.seqD (plan := pl [(0, none), (1, none), (2, none), (3, none), (4, none), (5, none), (6, none), (7, none), (8, none), (9, none), (10, none), (11, none), (12, none), (13, none), (14, none)]) (by kernel_rfl) rfl (by kernel_rfl) fun K15 hK15 => ?_
  simp only [go_sem, simprocAttr, hw6, hxs_31, hr_36]
  try refine ⟨by first | exact sd | ((repeat' apply And.intro) <;> first | assumption | omega | (simp only [List.length_append, List.length_map, List.length_cons, List.length_nil, List.length_set, List.length_replicate] at c_34 ⊢; omega)), ?_⟩
  refine Dr.callF (av := ?av16) (g := decide (0 < (i_29 : Int))) (o := ?o16) (fun hg => ok_disk_nameOf s_31 _ (hr_33 hg)) (by simp only [go_sem, simprocAttr, hw6, hxs_31, hr_36]; exact Is.mk) (by simp only [go_sem, simprocAttr, hw6, hxs_31, hr_36]; exact Is.mk) (by simp only [go_sem, simprocAttr, hw6, hxs_31, hr_36]; exact Is.mk) (by simp only [go_sem, simprocAttr, hw6, hxs_31, hr_36]; exact Is.mk) (by simp only [go_sem, simprocAttr, hw6, hxs_31, hr_36]) (by simp only [go_sem, simprocAttr, hw6, hxs_31, hr_36]; exact Is.mk) ?cont16
  simp only [go_sem, simprocAttr, hw6, hxs_31, hr_36]
  try refine ⟨by first | exact sd | ((repeat' apply And.intro) <;> first | assumption | omega | (simp only [List.length_append, List.length_map, List.length_cons, List.length_nil, List.length_set, List.length_replicate] at c_34 ⊢; omega)), ?_⟩
  refine Dr.callF (av := ?av17) (g := decide (0 < (i_29 : Int))) (o := ?o17) (fun hg => ok_disk_nameOf (api_Service.mk ((l_1.getD ((IntKind.i64.wrap ((i_29 : Int) - 1)).toNat) (api_Service.mk [] [] false false)).Name) ((l_1.getD ((IntKind.i64.wrap ((i_29 : Int) - 1)).toNat) (api_Service.mk [] [] false false)).Path) ((l_1.getD ((IntKind.i64.wrap ((i_29 : Int) - 1)).toNat) (api_Service.mk [] [] false false)).Auto) ((l_1.getD ((IntKind.i64.wrap ((i_29 : Int) - 1)).toNat) (api_Service.mk [] [] false false)).On)) _ (hr_35 hg)) (by simp only [go_sem, simprocAttr, hw6, hxs_31, hr_36]; exact Is.mk) (by simp only [go_sem, simprocAttr, hw6, hxs_31, hr_36]; exact Is.mk) (by simp only [go_sem, simprocAttr, hw6, hxs_31, hr_36]; exact Is.mk) (by simp only [go_sem, simprocAttr, hw6, hxs_31, hr_36]; exact Is.mk) (by simp only [go_sem, simprocAttr, hw6, hxs_31, hr_36]) (by simp only [go_sem, simprocAttr, hw6, hxs_31, hr_36]; exact Is.mk) ?cont17
  simp only [go_sem, simprocAttr, hw6, hxs_31, hr_36]
  first | apply hK15 | refine ⟨by first | exact sd | ((repeat' apply And.intro) <;> first | assumption | omega | (simp only [List.length_append, List.length_map, List.length_cons, List.length_nil, List.length_set, List.length_replicate] at c_34 ⊢; omega)), hK15 _ _ ?_⟩
  refine cM hm (fun hc18 hm => ?_) (fun hc18 hm => ?_)
  ·refine Wp.seqR fun K19 hK19 => ?_
   simp only [go_sem, simprocAttr, hw6, hxs_31]
   first | apply hK19 | refine ⟨sd, hK19 _ _ ?_⟩
   refine Wp.ret ?_
   refine retQ_ret ?_
   cases hm
   simp only [go_sem, simprocAttr, hw6, hxs_31]
   try exact se2
  ·refine Wp.skip ?_
   refine hK7 _ _ ?_
   refine Wp.region fun K20 hK20 => ?_
   simp only [go_sem, simprocAttr, hw6, hxs_31]
   first | apply hK20 | refine ⟨sd, hK20 _ _ ?_⟩
   simp only [thenQ, blockQ, ↓reduceIte]
   refine ⟨(), hlt6, hnx_28 _ hm, ?_⟩
   simp only [go_sem, simprocAttr, hw6, hxs_31]
   try exact se2
theorem ok_disk_Check (m_1 : api_Machine) (z : Int) (hm : disk_Check m_1 = some z) : Does Tryz.prog 93 [.agg [.p (.l (List.map enc_api_Setting m_1.Facts)), .p (.l (List.map enc_api_File m_1.Files)), .p (.l (List.map enc_api_Setting m_1.Settings)), .p (.l (List.map enc_api_Service m_1.Services))]] [] (fun r X => r = .p (.i .i64 z) ∧ X = []) := by
 unfold disk_Check at hm
 refine Does.of_wp 0 80 [.tmp 2] Tryz.func93 rfl (by decide) rfl rfl (Nat.le_of_ble_eq_true rfl) fun B => ?_
 refine qS ?_
 refine Wp.seqW fun K2 hK2 hW2 => ?_
 refine qS ?_
 refine cM hm (fun hc4 hm => ?_) (fun hc4 hm => ?_)
 ·refine qS ?_
  refine Wp.ret ?_
  refine retQ_ret ?_
  cases hm
  exact fse2
 ·refine Wp.skip ?_
  refine hK2 _ _ ?_
  refine Wp.seqW fun K6 hK6 hW6 => ?_
  obtain ⟨r_2, hr_2, hm⟩ := call_elim hm
  refine Wp.seqR fun K7 hK7 => ?_
  simp only [go_sem, simprocAttr]
  try refine ⟨sd, ?_⟩
  refine Rg.callX (av := ?av8) (g := true) (fun hg => ok_disk_eachFault_api_Setting_i1 m_1.Facts _ hr_2) si si si sg si ?cont8
  intro hv8
  simp only [go_sem, simprocAttr]
  first | apply hK7 | refine ⟨sd, hK7 _ _ ?_⟩
  refine qS ?_
  refine cM hm (fun hc10 hm => ?_) (fun hc10 hm => ?_)
  ·refine qS ?_
   refine Wp.ret ?_
   refine retQ_ret ?_
   cases hm
   exact fse2
  ·refine Wp.skip ?_
   refine hK6 _ _ ?_
   refine qS ?_
   refine qS ?_
   refine Wp.seqW fun K14 hK14 hW14 => ?_
   obtain ⟨k_27, hk_27, hm⟩ := jp_elim hm
   have hcut14 : ∀ s, k_27 s = some z → K14 [(1, .ptr 0 0)] [.cells 26 [.p (.l (List.map enc_api_Setting m_1.Facts)), .p (.l (List.map enc_api_File m_1.Files)), .p (.l (List.map enc_api_Setting m_1.Settings)), .p (.l (List.map enc_api_Service m_1.Services))]] := by
    intro s hs
    have hm := hk_27 _ hs
    clear hs
    try dsimp only at hm
    try dsimp only
    refine hK14 _ _ ?_
    refine Wp.seqW fun K15 hK15 hW15 => ?_
    obtain ⟨r_28, hr_28, hm⟩ := call_elim hm
    refine Wp.seqR fun K16 hK16 => ?_
    simp only [go_sem, simprocAttr]
    try refine ⟨sd, ?_⟩
    refine Rg.callX (av := ?av17) (g := true) (fun hg => ok_disk_eachFault_api_Setting_i2 m_1.Settings _ hr_28) si si si sg si ?cont17
    intro hv17
    simp only [go_sem, simprocAttr]
    first | apply hK16 | refine ⟨sd, hK16 _ _ ?_⟩
    refine qS ?_
    refine cM hm (fun hc19 hm => ?_) (fun hc19 hm => ?_)
    ·refine qS ?_
     refine Wp.ret ?_
     refine retQ_ret ?_
     cases hm
     exact fse2
    ·refine Wp.skip ?_
     refine hK15 _ _ ?_
     obtain ⟨r_29, hr_29, hm⟩ := call_elim hm
     refine Wp.seqR fun K21 hK21 => ?_
     simp only [go_sem, simprocAttr]
     try refine ⟨sd, ?_⟩
     refine Rg.callX (av := ?av22) (g := true) (fun hg => ok_disk_eachFault_api_Service_i1 m_1.Services _ hr_29) si si si sg si ?cont22
     intro hv22
     simp only [go_sem, simprocAttr]
     first | apply hK21 | refine ⟨sd, hK21 _ _ ?_⟩
     refine Wp.ret ?_
     refine retQ_ret ?_
     cases hm
     exact fse2
   clear hK14 hk_27
   refine qS ?_
   refine Wp.block ?_
   obtain ⟨k_45, hk_45, hm⟩ := forL_cont hm
   refine Wp.fact 40 fun hl_48 => ?_
   replace hl_48 : m_1.Files.length ≤ 274877906944 := by
    simp only [go_sem, simprocAttr, List.length_map] at hl_48
    omega
   refine Wp.forL (fun i_47 s => [(1, .ptr 0 0), (4, .p (.s s.1)), (5, .ptr 2 0), (40, .p (.l (List.map enc_api_File m_1.Files))), (41, .p (.i .i64 (m_1.Files.length : Int))), (42, .p (.i .i64 (i_47 : Int)))]) (fun i_47 s => [.cells 26 [.p (.l (List.map enc_api_Setting m_1.Facts)), .p (.l (List.map enc_api_File m_1.Files)), .p (.l (List.map enc_api_Setting m_1.Settings)), .p (.l (List.map enc_api_Service m_1.Services))], .mp false (encM Dt.s ecB s.2), .cells 138 [.mp 1]]) ?_ hm ?_
   ·
    exact fse2
   clear hm
   intro i_47 s hii_47 hm
   obtain ⟨before_37, m1_39⟩ := s
   try dsimp only at hm
   try dsimp only
   refine qS ?_
   refine Wp.seqW fun K25 hK25 hW25 => ?_
   refine Wp.cond rfl ⟨⟩ (fun hc25 => ?_) (fun hc25 => ?_)
   rotate_left
   ·refine Wp.exit ?_
    have hm := hk_45 _ (forL_end hm (ge_nat (by first | exact hc25 | simpa using hc25)))
    try dsimp only at hm
    refine hW14 _ _ _ _ ?_ (hcut14 () hm)
    exact fse2
   have hlt25 := lt_nat (by first | exact hc25 | simpa using hc25)
   have hw25 := wrap_succ hlt25 hl_48
   obtain ⟨f_49, nx_46, hxf_49, hyf_49, hnx_46, hm⟩ := forL_step hm hlt25
   replace hxf_49 := hxf_49 enc_api_File
   refine Wp.skip ?_
   simp only [thenQ]
   refine hK25 _ _ ?_
   refine Wp.seqW fun K26 hK26 hW26 => ?_
   refine Wp.block ?_
   refine Wp.seqR fun K27 hK27 => ?_
   simp only [go_sem, simprocAttr, hw25, hxf_49]
   first | apply hK27 | refine ⟨sd, hK27 _ _ ?_⟩
   refine Wp.seqW fun K28 hK28 hW28 => ?_
   obtain ⟨r_50, hr_50, hm⟩ := call_elim hm
   refine Wp.seqR fun K29 hK29 => ?_
   simp only [go_sem, simprocAttr, hw25, hxf_49]
   try refine ⟨sd, ?_⟩
   refine Rg.callX (av := ?av30) (g := true) (fun hg => ok_disk_fileFault f_49 _ hr_50) (by simp only [go_sem, simprocAttr, hw25, hxf_49]; exact Is.mk) (by simp only [go_sem, simprocAttr, hw25, hxf_49]; exact Is.mk) (by simp only [go_sem, simprocAttr, hw25, hxf_49]; exact Is.mk) (by simp only [go_sem, simprocAttr, hw25, hxf_49]) (by simp only [go_sem, simprocAttr, hw25, hxf_49]; exact Is.mk) ?cont30
   intro hv30
   simp only [go_sem, simprocAttr, hw25, hxf_49]
   first | apply hK29 | refine ⟨sd, hK29 _ _ ?_⟩
   refine Wp.seqR fun K31 hK31 => ?_
   simp only [go_sem, simprocAttr, hw25, hxf_49]
   first | apply hK31 | refine ⟨sd, hK31 _ _ ?_⟩
   refine cM hm (fun hc32 hm => ?_) (fun hc32 hm => ?_)
   ·refine Wp.seqR fun K33 hK33 => ?_
    simp only [go_sem, simprocAttr, hw25, hxf_49]
    first | apply hK33 | refine ⟨sd, hK33 _ _ ?_⟩
    refine Wp.ret ?_
    refine retQ_ret ?_
    cases hm
    simp only [go_sem, simprocAttr, hw25, hxf_49]
    try exact se2
   ·refine Wp.skip ?_
    refine hK28 _ _ ?_
    refine Wp.seqW fun K34 hK34 hW34 => ?_
    refine Wp.seqR fun K35 hK35 => ?_
    simp only [go_sem, simprocAttr, hw25, hxf_49]
    first | apply hK35 | refine ⟨sd, hK35 _ _ ?_⟩
    refine cM hm (fun hc36 hm => ?_) (fun hc36 hm => ?_)
    ·refine Wp.seqR fun K37 hK37 => ?_
     simp only [go_sem, simprocAttr, hw25, hxf_49]
     first | apply hK37 | refine ⟨sd, hK37 _ _ ?_⟩
     refine Wp.ret ?_
     refine retQ_ret ?_
     cases hm
     simp only [go_sem, simprocAttr, hw25, hxf_49]
     try exact se2
    ·refine Wp.skip ?_
     refine hK34 _ _ ?_
     refine Wp.seqW fun K38 hK38 hW38 => ?_
     obtain ⟨r_51, hr_51, hm⟩ := call_elim hm
     refine Wp.seqR fun K39 hK39 => ?_
     simp only [go_sem, simprocAttr, hw25, hxf_49]
     try refine ⟨sd, ?_⟩
     refine Rg.callR (av := ?av40) (g := true) [2, 1] (fun hg => ok_disk_above_i1 f_49.Path m1_39 _ hr_51) (by simp only [go_sem, simprocAttr, hw25, hxf_49]; exact Is.mk) (by simp only [go_sem, simprocAttr, hw25, hxf_49]; exact Is.mk) (by simp only [go_sem, simprocAttr, hw25, hxf_49]; exact Is.mk) (by simp only [go_sem, simprocAttr, hw25, hxf_49]; exact Is.mk) (by simp only [go_sem, simprocAttr, hw25, hxf_49]) (by simp only [go_sem, simprocAttr, hw25, hxf_49]) (by simp only [go_sem, simprocAttr, hw25, hxf_49]) ?cont40
     simp only [go_sem, simprocAttr, hw25, hxf_49]
     first | apply hK39 | refine ⟨sd, hK39 _ _ ?_⟩
     refine cM hm (fun hc41 hm => ?_) (fun hc41 hm => ?_)
     ·refine Wp.seqR fun K42 hK42 => ?_
      simp only [go_sem, simprocAttr, hw25, hxf_49]
      first | apply hK42 | refine ⟨sd, hK42 _ _ ?_⟩
      refine Wp.ret ?_
      refine retQ_ret ?_
      cases hm
      simp only [go_sem, simprocAttr, hw25, hxf_49]
      try exact se2
     ·refine Wp.skip ?_
      refine hK38 _ _ ?_
      obtain ⟨c_53, hm⟩ := chk_elim hm
      have hp_52 := mset_enc (e := ecB) keq_s m1_39 f_49.Path true
      simp only [ecB] at hp_52
      refine Wp.regD (plan := pl [(0, none), (1, none), (2, none), (3, none), (4, none), (5, none), (6, some [])]) (by kernel_rfl) rfl (by kernel_rfl) fun K43 hK43 => ?_
      simp only [go_sem, simprocAttr, hw25, hxf_49, hp_52]
      first | apply hK43 | refine ⟨by first | exact sd | ((repeat' apply And.intro) <;> first | assumption | omega | (simp only [List.length_append, List.length_map, List.length_cons, List.length_nil, List.length_set, List.length_replicate] at c_53 ⊢; omega)), hK43 _ _ ?_⟩
      refine hK26 _ _ ?_
      refine Wp.region fun K44 hK44 => ?_
      simp only [go_sem, simprocAttr, hw25, hxf_49]
      first | apply hK44 | refine ⟨sd, hK44 _ _ ?_⟩
      simp only [thenQ, blockQ, ↓reduceIte]
      refine ⟨(f_49.Path, aset m1_39 f_49.Path true), hlt25, hnx_46 _ hm, ?_⟩
      simp only [go_sem, simprocAttr, hw25, hxf_49]
      try exact se2
end Go.Proofs.YtaabfmccihcnkaaGreatDoor
