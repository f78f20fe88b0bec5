/- That the code does what the models say (part 6). -/
import Derived.Test.YtbfemlilfeahkaaGreatDoorMdWk0
import Derived.Test.YtbfemlilfeahkaaGreatDoorMdWk1
import Derived.Test.YtbfemlilfeahkaaGreatDoorMdWk3
import Derived.Test.YtbfemlilfeahkaaGreatDoorMdWk5
set_option linter.unusedSimpArgs false
set_option linter.unusedVariables false
open Go.Proofs Go.Shelf
namespace Go.Proofs.YtbfemlilfeahkaaGreatDoor
open Go.Vc Go.Md
set_option maxRecDepth 100000
set_option maxHeartbeats 4000000
theorem ok_slices_Equal_api_Setting_api_Setting (s1_1 : List api_Setting) (s2_2 : List api_Setting) (z : Bool) (hm : slices_Equal_api_Setting_api_Setting s1_1 s2_2 = some z) : Does Tryz.prog 59 [.p (.l (List.map enc_api_Setting s1_1)), .p (.l (List.map enc_api_Setting s2_2))] [] (fun r X => r = .p (.b z) ∧ X = []) := by
 unfold slices_Equal_api_Setting_api_Setting at hm
 refine Does.of_wp 0 26 [.tmp 4] Tryz.func59 rfl (by decide) rfl rfl (Nat.le_of_ble_eq_true rfl) fun B => ?_
 refine qS ?_
 refine Wp.seqW fun K2 hK2 hW2 => ?_
 refine qS ?_
 refine cM hm (fun hc4 hm => ?_) (fun hc4 hm => ?_)
 ·refine qS ?_
  refine Wp.ret ?_
  refine retQ_ret ?_
  cases hm
  exact fse3
 ·refine Wp.skip ?_
  refine hK2 _ _ ?_
  refine Wp.seqW fun K6 hK6 hW6 => ?_
  obtain ⟨k_12, hk_12, hm⟩ := jp_elim hm
  have hcut6 : ∀ s, k_12 s = some z → K6 [] [] := by
   intro s hs
   have hm := hk_12 _ hs
   clear hs
   try dsimp only at hm
   try dsimp only
   refine hK6 _ _ ?_
   refine qS ?_
   refine Wp.ret ?_
   refine retQ_ret ?_
   cases hm
   exact fse3
  clear hK6 hk_12
  refine qS ?_
  refine Wp.block ?_
  obtain ⟨k_16, hk_16, hm⟩ := forL_cont hm
  refine Wp.fact 0 fun hl_19 => ?_
  replace hl_19 : s1_1.length ≤ 274877906944 := by
   simp only [go_sem, simprocAttr, List.length_map] at hl_19
   omega
  refine Wp.forL (fun i_18 s => [(0, .p (.l (List.map enc_api_Setting s1_1))), (1, .p (.l (List.map enc_api_Setting s2_2))), (12, .p (.i .i64 (s1_1.length : Int))), (13, .p (.i .i64 (i_18 : Int)))]) (fun i_18 s => []) ?_ hm ?_
  ·
   exact fse3
  clear hm
  intro i_18 s hii_18 hm
  try dsimp only at hm
  try dsimp only
  refine qS ?_
  refine Wp.seqW fun K10 hK10 hW10 => ?_
  refine Wp.cond rfl ⟨⟩ (fun hc10 => ?_) (fun hc10 => ?_)
  rotate_left
  ·refine Wp.exit ?_
   have hm := hk_16 _ (forL_end hm (ge_nat (by first | exact hc10 | simpa using hc10)))
   try dsimp only at hm
   refine hW6 _ _ _ _ ?_ (hcut6 () hm)
   exact fse3
  have hlt10 := lt_nat (by first | exact hc10 | simpa using hc10)
  have hw10 := wrap_succ hlt10 hl_19
  obtain ⟨s_20, nx_17, hxs_20, hys_20, hnx_17, hm⟩ := forL_step hm hlt10
  replace hxs_20 := hxs_20 enc_api_Setting
  refine Wp.skip ?_
  simp only [thenQ]
  refine hK10 _ _ ?_
  refine Wp.seqW fun K11 hK11 hW11 => ?_
  refine Wp.block ?_
  refine Wp.seqR fun K12 hK12 => ?_
  simp only [go_sem, simprocAttr, hw10, hxs_20]
  first | apply hK12 | refine ⟨sd, hK12 _ _ ?_⟩
  obtain ⟨s_21, hbs_21, hxs_21, hys_21, hm⟩ := idx_elim hm
  replace hxs_21 : ∀ d, (List.map enc_api_Setting s2_2).getD i_18 d = enc_api_Setting s_21 := hxs_21 enc_api_Setting
  refine Wp.seqD (plan := [(0, none), (1, none), (2, none), (3, none), (4, none), (5, none), (6, none), (7, none), (8, none)]) (by kernel_rfl) rfl (by kernel_rfl) fun K13 hK13 => ?_
  simp only [go_sem, simprocAttr, hw10, hxs_20, hxs_21]
  first | apply hK13 | refine ⟨sd, hK13 _ _ ?_⟩
  refine cM hm (fun hc14 hm => ?_) (fun hc14 hm => ?_)
  ·refine Wp.seqR fun K15 hK15 => ?_
   simp only [go_sem, simprocAttr, hw10, hxs_20, hxs_21]
   first | apply hK15 | refine ⟨sd, hK15 _ _ ?_⟩
   refine Wp.ret ?_
   refine retQ_ret ?_
   cases hm
   simp only [go_sem, simprocAttr, hw10, hxs_20, hxs_21]
   try exact se3
  ·refine Wp.skip ?_
   refine hK11 _ _ ?_
   refine Wp.region fun K16 hK16 => ?_
   simp only [go_sem, simprocAttr, hw10, hxs_20, hxs_21]
   first | apply hK16 | refine ⟨sd, hK16 _ _ ?_⟩
   simp only [thenQ, blockQ, ↓reduceIte]
   refine ⟨(), hlt10, hnx_17 _ hm, ?_⟩
   simp only [go_sem, simprocAttr, hw10, hxs_20, hxs_21]
   try exact se3
theorem ok_slices_Equal_api_File_api_File (s1_1 : List api_File) (s2_2 : List api_File) (z : Bool) (hm : slices_Equal_api_File_api_File s1_1 s2_2 = some z) : Does Tryz.prog 98 [.p (.l (List.map enc_api_File s1_1)), .p (.l (List.map enc_api_File s2_2))] [] (fun r X => r = .p (.b z) ∧ X = []) := by
 unfold slices_Equal_api_File_api_File at hm
 refine Does.of_wp 0 26 [.tmp 4] Tryz.func98 rfl (by decide) rfl rfl (Nat.le_of_ble_eq_true rfl) fun B => ?_
 refine qS ?_
 refine Wp.seqW fun K2 hK2 hW2 => ?_
 refine qS ?_
 refine cM hm (fun hc4 hm => ?_) (fun hc4 hm => ?_)
 ·refine qS ?_
  refine Wp.ret ?_
  refine retQ_ret ?_
  cases hm
  exact fse3
 ·refine Wp.skip ?_
  refine hK2 _ _ ?_
  refine Wp.seqW fun K6 hK6 hW6 => ?_
  obtain ⟨k_12, hk_12, hm⟩ := jp_elim hm
  have hcut6 : ∀ s, k_12 s = some z → K6 [] [] := by
   intro s hs
   have hm := hk_12 _ hs
   clear hs
   try dsimp only at hm
   try dsimp only
   refine hK6 _ _ ?_
   refine qS ?_
   refine Wp.ret ?_
   refine retQ_ret ?_
   cases hm
   exact fse3
  clear hK6 hk_12
  refine qS ?_
  refine Wp.block ?_
  obtain ⟨k_16, hk_16, hm⟩ := forL_cont hm
  refine Wp.fact 0 fun hl_19 => ?_
  replace hl_19 : s1_1.length ≤ 274877906944 := by
   simp only [go_sem, simprocAttr, List.length_map] at hl_19
   omega
  refine Wp.forL (fun i_18 s => [(0, .p (.l (List.map enc_api_File s1_1))), (1, .p (.l (List.map enc_api_File s2_2))), (12, .p (.i .i64 (s1_1.length : Int))), (13, .p (.i .i64 (i_18 : Int)))]) (fun i_18 s => []) ?_ hm ?_
  ·
   exact fse3
  clear hm
  intro i_18 s hii_18 hm
  try dsimp only at hm
  try dsimp only
  refine qS ?_
  refine Wp.seqW fun K10 hK10 hW10 => ?_
  refine Wp.cond rfl ⟨⟩ (fun hc10 => ?_) (fun hc10 => ?_)
  rotate_left
  ·refine Wp.exit ?_
   have hm := hk_16 _ (forL_end hm (ge_nat (by first | exact hc10 | simpa using hc10)))
   try dsimp only at hm
   refine hW6 _ _ _ _ ?_ (hcut6 () hm)
   exact fse3
  have hlt10 := lt_nat (by first | exact hc10 | simpa using hc10)
  have hw10 := wrap_succ hlt10 hl_19
  obtain ⟨f_20, nx_17, hxf_20, hyf_20, hnx_17, hm⟩ := forL_step hm hlt10
  replace hxf_20 := hxf_20 enc_api_File
  refine Wp.skip ?_
  simp only [thenQ]
  refine hK10 _ _ ?_
  refine Wp.seqW fun K11 hK11 hW11 => ?_
  refine Wp.block ?_
  refine Wp.seqR fun K12 hK12 => ?_
  simp only [go_sem, simprocAttr, hw10, hxf_20]
  first | apply hK12 | refine ⟨sd, hK12 _ _ ?_⟩
  obtain ⟨f_21, hbf_21, hxf_21, hyf_21, hm⟩ := idx_elim hm
  replace hxf_21 : ∀ d, (List.map enc_api_File s2_2).getD i_18 d = enc_api_File f_21 := hxf_21 enc_api_File
  refine Wp.seqD (plan := [(0, none), (1, none), (2, none), (3, none), (4, none), (5, none), (6, none), (7, none), (8, none)]) (by kernel_rfl) rfl (by kernel_rfl) fun K13 hK13 => ?_
  simp only [go_sem, simprocAttr, hw10, hxf_20, hxf_21]
  first | apply hK13 | refine ⟨sd, hK13 _ _ ?_⟩
  refine cM hm (fun hc14 hm => ?_) (fun hc14 hm => ?_)
  ·refine Wp.seqR fun K15 hK15 => ?_
   simp only [go_sem, simprocAttr, hw10, hxf_20, hxf_21]
   first | apply hK15 | refine ⟨sd, hK15 _ _ ?_⟩
   refine Wp.ret ?_
   refine retQ_ret ?_
   cases hm
   simp only [go_sem, simprocAttr, hw10, hxf_20, hxf_21]
   try exact se3
  ·refine Wp.skip ?_
   refine hK11 _ _ ?_
   refine Wp.region fun K16 hK16 => ?_
   simp only [go_sem, simprocAttr, hw10, hxf_20, hxf_21]
   first | apply hK16 | refine ⟨sd, hK16 _ _ ?_⟩
   simp only [thenQ, blockQ, ↓reduceIte]
   refine ⟨(), hlt10, hnx_17 _ hm, ?_⟩
   simp only [go_sem, simprocAttr, hw10, hxf_20, hxf_21]
   try exact se3
theorem ok_slices_Equal_api_Service_api_Service (s1_1 : List api_Service) (s2_2 : List api_Service) (z : Bool) (hm : slices_Equal_api_Service_api_Service s1_1 s2_2 = some z) : Does Tryz.prog 99 [.p (.l (List.map enc_api_Service s1_1)), .p (.l (List.map enc_api_Service s2_2))] [] (fun r X => r = .p (.b z) ∧ X = []) := by
 unfold slices_Equal_api_Service_api_Service at hm
 refine Does.of_wp 0 26 [.tmp 4] Tryz.func99 rfl (by decide) rfl rfl (Nat.le_of_ble_eq_true rfl) fun B => ?_
 refine qS ?_
 refine Wp.seqW fun K2 hK2 hW2 => ?_
 refine qS ?_
 refine cM hm (fun hc4 hm => ?_) (fun hc4 hm => ?_)
 ·refine qS ?_
  refine Wp.ret ?_
  refine retQ_ret ?_
  cases hm
  exact fse3
 ·refine Wp.skip ?_
  refine hK2 _ _ ?_
  refine Wp.seqW fun K6 hK6 hW6 => ?_
  obtain ⟨k_12, hk_12, hm⟩ := jp_elim hm
  have hcut6 : ∀ s, k_12 s = some z → K6 [] [] := by
   intro s hs
   have hm := hk_12 _ hs
   clear hs
   try dsimp only at hm
   try dsimp only
   refine hK6 _ _ ?_
   refine qS ?_
   refine Wp.ret ?_
   refine retQ_ret ?_
   cases hm
   exact fse3
  clear hK6 hk_12
  refine qS ?_
  refine Wp.block ?_
  obtain ⟨k_16, hk_16, hm⟩ := forL_cont hm
  refine Wp.fact 0 fun hl_19 => ?_
  replace hl_19 : s1_1.length ≤ 274877906944 := by
   simp only [go_sem, simprocAttr, List.length_map] at hl_19
   omega
  refine Wp.forL (fun i_18 s => [(0, .p (.l (List.map enc_api_Service s1_1))), (1, .p (.l (List.map enc_api_Service s2_2))), (12, .p (.i .i64 (s1_1.length : Int))), (13, .p (.i .i64 (i_18 : Int)))]) (fun i_18 s => []) ?_ hm ?_
  ·
   exact fse3
  clear hm
  intro i_18 s hii_18 hm
  try dsimp only at hm
  try dsimp only
  refine qS ?_
  refine Wp.seqW fun K10 hK10 hW10 => ?_
  refine Wp.cond rfl ⟨⟩ (fun hc10 => ?_) (fun hc10 => ?_)
  rotate_left
  ·refine Wp.exit ?_
   have hm := hk_16 _ (forL_end hm (ge_nat (by first | exact hc10 | simpa using hc10)))
   try dsimp only at hm
   refine hW6 _ _ _ _ ?_ (hcut6 () hm)
   exact fse3
  have hlt10 := lt_nat (by first | exact hc10 | simpa using hc10)
  have hw10 := wrap_succ hlt10 hl_19
  obtain ⟨s_20, nx_17, hxs_20, hys_20, hnx_17, hm⟩ := forL_step hm hlt10
  replace hxs_20 := hxs_20 enc_api_Service
  refine Wp.skip ?_
  simp only [thenQ]
  refine hK10 _ _ ?_
  refine Wp.seqW fun K11 hK11 hW11 => ?_
  refine Wp.block ?_
  refine Wp.seqR fun K12 hK12 => ?_
  simp only [go_sem, simprocAttr, hw10, hxs_20]
  first | apply hK12 | refine ⟨sd, hK12 _ _ ?_⟩
  obtain ⟨s_21, hbs_21, hxs_21, hys_21, hm⟩ := idx_elim hm
  replace hxs_21 : ∀ d, (List.map enc_api_Service s2_2).getD i_18 d = enc_api_Service s_21 := hxs_21 enc_api_Service
  refine Wp.seqD (plan := [(0, none), (1, none), (2, none), (3, none), (4, none), (5, none), (6, none), (7, none), (8, none)]) (by kernel_rfl) rfl (by kernel_rfl) fun K13 hK13 => ?_
  simp only [go_sem, simprocAttr, hw10, hxs_20, hxs_21]
  first | apply hK13 | refine ⟨sd, hK13 _ _ ?_⟩
  refine cM hm (fun hc14 hm => ?_) (fun hc14 hm => ?_)
  ·refine Wp.seqR fun K15 hK15 => ?_
   simp only [go_sem, simprocAttr, hw10, hxs_20, hxs_21]
   first | apply hK15 | refine ⟨sd, hK15 _ _ ?_⟩
   refine Wp.ret ?_
   refine retQ_ret ?_
   cases hm
   simp only [go_sem, simprocAttr, hw10, hxs_20, hxs_21]
   try exact se3
  ·refine Wp.skip ?_
   refine hK11 _ _ ?_
   refine Wp.region fun K16 hK16 => ?_
   simp only [go_sem, simprocAttr, hw10, hxs_20, hxs_21]
   first | apply hK16 | refine ⟨sd, hK16 _ _ ?_⟩
   simp only [thenQ, blockQ, ↓reduceIte]
   refine ⟨(), hlt10, hnx_17 _ hm, ?_⟩
   simp only [go_sem, simprocAttr, hw10, hxs_20, hxs_21]
   try exact se3
theorem ok_R_Same (a_1 : api_Machine) (b_2 : api_Machine) (z : Bool) (hm : R_Same a_1 b_2 = some z) : Does Tryz.prog 35 [.agg [.p (.l (List.map enc_api_Setting a_1.Facts)), .p (.l (List.map enc_api_File a_1.Files)), .p (.l (List.map enc_api_Setting a_1.Settings)), .p (.l (List.map enc_api_Service a_1.Services))], .agg [.p (.l (List.map enc_api_Setting b_2.Facts)), .p (.l (List.map enc_api_File b_2.Files)), .p (.l (List.map enc_api_Setting b_2.Settings)), .p (.l (List.map enc_api_Service b_2.Services))]] [] (fun r X => r = .p (.b z) ∧ X = []) := by
 unfold R_Same at hm
 refine Does.of_wp 0 31 [.tmp 4] Tryz.func35 rfl (by decide) rfl rfl (Nat.le_of_ble_eq_true rfl) fun B => ?_
 refine qS ?_
 obtain ⟨r_3, hr_3, hm⟩ := call_elim hm
 obtain ⟨r_4, hr_4, hm⟩ := callG_elim hm
 obtain ⟨r_5, hr_5, hm⟩ := callG_elim hm
 obtain ⟨r_6, hr_6, hm⟩ := callG_elim hm
 refine Wp.seqR fun K2 hK2 => ?_
 simp only [go_sem, simprocAttr]
 try refine ⟨sd, ?_⟩
 refine Rg.callX (av := ?av3) (g := true) (fun hg => ok_slices_Equal_api_Setting_api_Setting a_1.Facts b_2.Facts _ hr_3) si si si sg si ?cont3
 intro hv3
 simp only [go_sem, simprocAttr]
 try refine ⟨sd, ?_⟩
 refine Rg.callX (av := ?av4) (g := r_3) (fun hg => ok_slices_Equal_api_File_api_File a_1.Files b_2.Files _ (hr_4 hg)) si si si sg si ?cont4
 intro hv4
 simp only [go_sem, simprocAttr]
 try refine ⟨sd, ?_⟩
 refine Rg.callX (av := ?av5) (g := (r_3 && r_4)) (fun hg => ok_slices_Equal_api_Setting_api_Setting a_1.Settings b_2.Settings _ (hr_5 hg)) si si si sg si ?cont5
 intro hv5
 simp only [go_sem, simprocAttr]
 try refine ⟨sd, ?_⟩
 refine Rg.callX (av := ?av6) (g := ((r_3 && r_4) && r_5)) (fun hg => ok_slices_Equal_api_Service_api_Service a_1.Services b_2.Services _ (hr_6 hg)) si si si sg si ?cont6
 intro hv6
 simp only [go_sem, simprocAttr]
 first | apply hK2 | refine ⟨sd, hK2 _ _ ?_⟩
 refine Wp.ret ?_
 refine retQ_ret ?_
 cases hm
 exact fse3
theorem ok_disk_bench_count_1_i1 (dir_1 : Str) (o1_0_2 : List api_Setting) (m2_3 : List (Str × api_File)) (m3_4 : List (Str × Int)) (m4_5 : List (Str × api_Setting)) (m5_6 : List (Str × api_Service)) (o6_0_7 : Int) (z : Bool × (List (Str × Int))) (hm : disk_bench_count_1_i1 dir_1 o1_0_2 m2_3 m3_4 m4_5 m5_6 o6_0_7 = some z) : Does Tryz.prog 215 [.p (.s dir_1), .ptr 0 0, .ptr 6 0] [.cells 137 [.ptr 1 0], .cells 187 [.p (.l (List.map enc_api_Setting o1_0_2)), .mp 2, .mp 3, .mp 4, .mp 5], .mp true (encM Dt.s enc_api_File m2_3), .mp false (encM Dt.s ecI_i64 m3_4), .mp true (encM Dt.s enc_api_Setting m4_5), .mp true (encM Dt.s enc_api_Service m5_6), .cells 3 [.p (.i .i64 o6_0_7)]] (fun r X => r = .p (.b z.1) ∧ X = [.cells 137 [.ptr 1 0], .cells 187 [.p (.l (List.map enc_api_Setting o1_0_2)), .mp 2, .mp 3, .mp 4, .mp 5], .mp true (encM Dt.s enc_api_File m2_3), .mp false (encM Dt.s ecI_i64 z.2), .mp true (encM Dt.s enc_api_Setting m4_5), .mp true (encM Dt.s enc_api_Service m5_6), .cells 3 [.p (.i .i64 o6_0_7)]]) := by
 unfold disk_bench_count_1_i1 at hm
 refine Does.of_wp 7 13 [.tmp 4] Tryz.func215 rfl (by decide) rfl rfl (Nat.le_of_ble_eq_true rfl) fun B => ?_
 refine qS ?_
 obtain ⟨q_12, hq_13, hm⟩ := letv_elim hm
 have hq_13d := mlookD_enc (e := ecI_i64) keq_s m3_4 dir_1 0
 have hq_13s := mlook_some (e := ecI_i64) keq_s m3_4 dir_1
 simp only [hq_13, ecI_i64, List.map_nil] at hq_13d hq_13s
 obtain ⟨c_15, hm⟩ := chk_elim hm
 have hp_14 := mset_enc (e := ecI_i64) keq_s m3_4 dir_1 (IntKind.i64.wrap ((q_12.getD 0) + o6_0_7))
 simp only [ecI_i64] at hp_14
 refine Wp.seqD (plan := [(0, none), (1, none), (2, none), (3, none), (4, none), (5, none), (6, none), (7, none), (8, some [])]) (by kernel_rfl) rfl (by kernel_rfl) fun K2 hK2 => ?_
 simp only [go_sem, simprocAttr, hq_13d, hq_13s, hp_14]
 first | apply hK2 | refine ⟨by first | exact sd | ((repeat' apply And.intro) <;> first | assumption | omega | (simp only [List.length_append, List.length_map, List.length_cons, List.length_nil, List.length_set, List.length_replicate] at c_15 ⊢; omega)), hK2 _ _ ?_⟩
 refine qS ?_
 refine Wp.ret ?_
 refine retQ_ret ?_
 cases hm
 exact fse4
theorem ok_disk_above_i2 (path_1 : Str) (o1_0_2 : List api_Setting) (m2_3 : List (Str × api_File)) (m3_4 : List (Str × Int)) (m4_5 : List (Str × api_Setting)) (m5_6 : List (Str × api_Service)) (o6_0_7 : Int) (z : Bool × (List (Str × Int))) (hm : disk_above_i2 path_1 o1_0_2 m2_3 m3_4 m4_5 m5_6 o6_0_7 = some z) : Does Tryz.prog 138 [.p (.s path_1), .fn 215 [.ptr 0 0, .ptr 6 0]] [.cells 137 [.ptr 1 0], .cells 187 [.p (.l (List.map enc_api_Setting o1_0_2)), .mp 2, .mp 3, .mp 4, .mp 5], .mp true (encM Dt.s enc_api_File m2_3), .mp false (encM Dt.s ecI_i64 m3_4), .mp true (encM Dt.s enc_api_Setting m4_5), .mp true (encM Dt.s enc_api_Service m5_6), .cells 3 [.p (.i .i64 o6_0_7)]] (fun r X => r = .p (.b z.1) ∧ X = [.cells 137 [.ptr 1 0], .cells 187 [.p (.l (List.map enc_api_Setting o1_0_2)), .mp 2, .mp 3, .mp 4, .mp 5], .mp true (encM Dt.s enc_api_File m2_3), .mp false (encM Dt.s ecI_i64 z.2), .mp true (encM Dt.s enc_api_Setting m4_5), .mp true (encM Dt.s enc_api_Service m5_6), .cells 3 [.p (.i .i64 o6_0_7)]]) := by
 unfold disk_above_i2 at hm
 refine Does.of_wp 7 24 [.tmp 4] Tryz.func138 rfl (by decide) rfl rfl (Nat.le_of_ble_eq_true rfl) fun B => ?_
 refine qS ?_
 refine Wp.seqW fun K2 hK2 hW2 => ?_
 obtain ⟨k_59, hk_59, hm⟩ := jp_elim hm
 have hcut2 : ∀ s, k_59 s = some z → K2 [] [.cells 137 [.ptr 1 0], .cells 187 [.p (.l (List.map enc_api_Setting o1_0_2)), .mp 2, .mp 3, .mp 4, .mp 5], .mp true (encM Dt.s enc_api_File m2_3), .mp false (encM Dt.s ecI_i64 s), .mp true (encM Dt.s enc_api_Setting m4_5), .mp true (encM Dt.s enc_api_Service m5_6), .cells 3 [.p (.i .i64 o6_0_7)]] := by
  intro m3_58 hs
  have hm := hk_59 _ hs
  clear hs
  try dsimp only at hm
  try dsimp only
  refine hK2 _ _ ?_
  refine qS ?_
  refine Wp.ret ?_
  refine retQ_ret ?_
  cases hm
  exact fse4
 clear hK2 hk_59
 refine qS ?_
 refine Wp.block ?_
 obtain ⟨k_69, hk_69, hm⟩ := forL_cont hm
 refine Wp.fact 0 fun hl_72 => ?_
 replace hl_72 : path_1.length ≤ 274877906944 := by
  simp only [go_sem, simprocAttr, List.length_map] at hl_72
  omega
 refine Wp.forL (fun i_71 s => [(0, .p (.s path_1)), (1, .fn 215 [.ptr 0 0, .ptr 6 0]), (5, .p (.i .i64 (i_71 : Int)))]) (fun i_71 s => [.cells 137 [.ptr 1 0], .cells 187 [.p (.l (List.map enc_api_Setting o1_0_2)), .mp 2, .mp 3, .mp 4, .mp 5], .mp true (encM Dt.s enc_api_File m2_3), .mp false (encM Dt.s ecI_i64 s), .mp true (encM Dt.s enc_api_Setting m4_5), .mp true (encM Dt.s enc_api_Service m5_6), .cells 3 [.p (.i .i64 o6_0_7)]]) ?_ hm ?_
 ·
  exact fse4
 clear hm
 intro i_71 m3_65 hii_71 hm
 try dsimp only at hm
 try dsimp only
 refine Wp.seqW fun K5 hK5 hW5 => ?_
 refine qS ?_
 refine Wp.cond rfl ⟨⟩ (fun hc5 => ?_) (fun hc5 => ?_)
 rotate_left
 ·refine Wp.exit ?_
  have hm := hk_69 _ (forL_end hm (ge_nat (by first | exact hc5 | simpa using hc5)))
  try dsimp only at hm
  refine hW2 _ _ _ _ ?_ (hcut2 m3_65 hm)
  exact fse4
 have hlt5 := lt_nat (by first | exact hc5 | simpa using hc5)
 have hw5 := wrap_succ hlt5 hl_72
 obtain ⟨c_73, nx_70, hxc_73, hyc_73, hnx_70, hm⟩ := forL_step hm hlt5
 clear hxc_73
 refine Wp.skip ?_
 simp only [thenQ]
 refine hK5 _ _ ?_
 refine Wp.seqW fun K7 hK7 hW7 => ?_
 refine Wp.block ?_
 obtain ⟨c_74, hm⟩ := chk_elim hm
 obtain ⟨r_75, hr_75, hr_75d, hm⟩ := callG_elim2 hm
 refine Wp.seqR fun K8 hK8 => ?_
 simp only [go_sem, simprocAttr, hw5, hyc_73]
 try refine ⟨by first | exact sd | ((repeat' apply And.intro) <;> first | assumption | omega | (simp only [List.length_append, List.length_map, List.length_cons, List.length_nil, List.length_set, List.length_replicate] at c_74 ⊢; omega)), ?_⟩
 refine Rg.callGO (av := ?av9) (g := decide ((c_73.toNat : Int) = 47)) [0, 1, 2, 3, 4, 5, 6] (fun hg => ok_disk_bench_count_1_i1 (List.take i_71 path_1) o1_0_2 m2_3 m3_65 m4_5 m5_6 o6_0_7 _ (hr_75 hg)) (fun hg => by obtain rfl := hr_75d hg; rfl) (by simp only [go_sem, simprocAttr, hw5, hyc_73]; exact Is.mk) (by simp only [go_sem, simprocAttr, hw5, hyc_73]; exact Is.mk) (by simp only [go_sem, simprocAttr, hw5, hyc_73]; exact Is.mk) (by simp only [go_sem, simprocAttr, hw5, hyc_73]; exact Is.mk) (by simp only [go_sem, simprocAttr, hw5, hyc_73]) (by simp only [go_sem, simprocAttr, hw5, hyc_73]) ?cont9
 simp only [go_sem, simprocAttr, hw5, hyc_73]
 first | apply hK8 | refine ⟨by first | exact sd | ((repeat' apply And.intro) <;> first | assumption | omega | (simp only [List.length_append, List.length_map, List.length_cons, List.length_nil, List.length_set, List.length_replicate] at c_74 ⊢; omega)), hK8 _ _ ?_⟩
 refine cM hm (fun hc10 hm => ?_) (fun hc10 hm => ?_)
 ·refine Wp.seqR fun K11 hK11 => ?_
  simp only [go_sem, simprocAttr, hw5, hyc_73]
  first | apply hK11 | refine ⟨sd, hK11 _ _ ?_⟩
  refine Wp.ret ?_
  refine retQ_ret ?_
  cases hm
  simp only [go_sem, simprocAttr, hw5, hyc_73]
  try exact se4
 ·refine Wp.skip ?_
  refine hK7 _ _ ?_
  refine Wp.region fun K12 hK12 => ?_
  simp only [go_sem, simprocAttr, hw5, hyc_73]
  first | apply hK12 | refine ⟨sd, hK12 _ _ ?_⟩
  simp only [thenQ, blockQ, ↓reduceIte]
  refine ⟨r_75.2, hlt5, hnx_70 _ hm, ?_⟩
  simp only [go_sem, simprocAttr, hw5, hyc_73]
  try exact se4
theorem ok_disk_bench_count_i1 (path_1 : Str) (n_2 : Int) (o0_0_3 : List api_Setting) (m1_4 : List (Str × api_File)) (m2_5 : List (Str × Int)) (m3_6 : List (Str × api_Setting)) (m4_7 : List (Str × api_Service)) (z : (List (Str × Int))) (hm : disk_bench_count_i1 path_1 n_2 o0_0_3 m1_4 m2_5 m3_6 m4_7 = some z) : Does Tryz.prog 189 [.ptr 0 0, .p (.s path_1), .p (.i .i64 n_2)] [.cells 187 [.p (.l (List.map enc_api_Setting o0_0_3)), .mp 1, .mp 2, .mp 3, .mp 4], .mp true (encM Dt.s enc_api_File m1_4), .mp false (encM Dt.s ecI_i64 m2_5), .mp true (encM Dt.s enc_api_Setting m3_6), .mp true (encM Dt.s enc_api_Service m4_7)] (fun r X => r = .tup [] ∧ X = [.cells 187 [.p (.l (List.map enc_api_Setting o0_0_3)), .mp 1, .mp 2, .mp 3, .mp 4], .mp true (encM Dt.s enc_api_File m1_4), .mp false (encM Dt.s ecI_i64 z), .mp true (encM Dt.s enc_api_Setting m3_6), .mp true (encM Dt.s enc_api_Service m4_7)]) := by
 unfold disk_bench_count_i1 at hm
 refine Does.of_wp 5 9 [] Tryz.func189 rfl (by decide) rfl rfl (Nat.le_of_ble_eq_true rfl) fun B => ?_
 refine qS ?_
 obtain ⟨r_9, hr_9, hm⟩ := call_elim hm
 refine Wp.region fun K2 hK2 => ?_
 simp only [go_sem, simprocAttr]
 try refine ⟨sd, ?_⟩
 refine Rg.callO (av := ?av3) [5, 0, 1, 2, 3, 4, 6] (ok_disk_above_i2 path_1 o0_0_3 m1_4 m2_5 m3_6 m4_7 n_2 _ hr_9) si si si sg sg ?cont3
 rintro _ _ ⟨rfl, rfl⟩ hv3
 simp only [go_sem, simprocAttr]
 first | apply hK2 | refine ⟨sd, hK2 _ _ ?_⟩
 refine retQ_normal ?_
 cases hm
 exact fse4
theorem ok_disk_bench_put_i1 (f_1 : api_File) (o0_0_2 : List api_Setting) (m1_3 : List (Str × api_File)) (m2_4 : List (Str × Int)) (m3_5 : List (Str × api_Setting)) (m4_6 : List (Str × api_Service)) (z : (List (Str × api_File)) × (List (Str × Int))) (hm : disk_bench_put_i1 f_1 o0_0_2 m1_3 m2_4 m3_5 m4_6 = some z) : Does Tryz.prog 152 [.ptr 0 0, .agg [.p (.s f_1.Path), .p (.s f_1.Data), .p (.b f_1.Runs)]] [.cells 187 [.p (.l (List.map enc_api_Setting o0_0_2)), .mp 1, .mp 2, .mp 3, .mp 4], .mp true (encM Dt.s enc_api_File m1_3), .mp false (encM Dt.s ecI_i64 m2_4), .mp true (encM Dt.s enc_api_Setting m3_5), .mp true (encM Dt.s enc_api_Service m4_6)] (fun r X => r = .tup [] ∧ X = [.cells 187 [.p (.l (List.map enc_api_Setting o0_0_2)), .mp 1, .mp 2, .mp 3, .mp 4], .mp true (encM Dt.s enc_api_File z.1), .mp false (encM Dt.s ecI_i64 z.2), .mp true (encM Dt.s enc_api_Setting m3_5), .mp true (encM Dt.s enc_api_Service m4_6)]) := by
 unfold disk_bench_put_i1 at hm
 refine Does.of_wp 5 29 [] Tryz.func152 rfl (by decide) rfl rfl (Nat.le_of_ble_eq_true rfl) fun B => ?_
 refine qS ?_
 refine Wp.seqW fun K2 hK2 hW2 => ?_
 obtain ⟨q_14, hq_15, hm⟩ := letv_elim hm
 have hq_15d := mlookD_enc (e := enc_api_File) keq_s m1_3 f_1.Path (api_File.mk [] [] false)
 have hq_15s := mlook_some (e := enc_api_File) keq_s m1_3 f_1.Path
 simp only [hq_15, enc_api_File, List.map_nil] at hq_15d hq_15s
 refine Wp.seqD (plan := [(0, none), (1, none), (2, none), (3, none), (4, none), (5, none), (6, none), (7, none), (8, none), (9, none), (10, some [0, 1, 2, 3, 4, 5, 6, 7, 8, 9]), (11, some [9]), (12, none)]) (by kernel_rfl) rfl (by kernel_rfl) fun K3 hK3 => ?_
 simp only [go_sem, simprocAttr, hq_15d, hq_15s]
 first | apply hK3 | refine ⟨sd, hK3 _ _ ?_⟩
 refine qS ?_
 refine cM hm (fun hc5 hm => ?_) (fun hc5 hm => ?_)
 ·obtain ⟨r_16, hr_16, hm⟩ := call_elim hm
  refine Wp.region fun K6 hK6 => ?_
  simp only [go_sem, simprocAttr]
  try refine ⟨sd, ?_⟩
  refine Rg.callO (av := ?av7) [0, 1, 2, 3, 4] (ok_disk_bench_count_i1 f_1.Path 1 o0_0_2 m1_3 m2_4 m3_5 m4_6 _ hr_16) si si si sg sg ?cont7
  rintro _ _ ⟨rfl, rfl⟩ hv7
  simp only [go_sem, simprocAttr]
  first | apply hK6 | refine ⟨sd, hK6 _ _ ?_⟩
  refine hK2 _ _ ?_
  obtain ⟨c_18, hm⟩ := chk_elim hm
  have hp_17 := mset_enc (e := enc_api_File) keq_s m1_3 f_1.Path f_1
  simp only [enc_api_File] at hp_17
  refine Wp.regD (plan := [(0, none), (1, none), (2, none), (3, none), (4, none), (5, none), (6, none), (7, some [])]) (by kernel_rfl) rfl (by kernel_rfl) fun K8 hK8 => ?_
  simp only [go_sem, simprocAttr, hp_17]
  first | apply hK8 | refine ⟨by first | exact sd | ((repeat' apply And.intro) <;> first | assumption | omega | (simp only [List.length_append, List.length_map, List.length_cons, List.length_nil, List.length_set, List.length_replicate] at c_18 ⊢; omega)), hK8 _ _ ?_⟩
  refine retQ_normal ?_
  cases hm
  exact fse4
 ·refine Wp.skip ?_
  refine hK2 _ _ ?_
  obtain ⟨c_20, hm⟩ := chk_elim hm
  have hp_19 := mset_enc (e := enc_api_File) keq_s m1_3 f_1.Path f_1
  simp only [enc_api_File] at hp_19
  refine Wp.regD (plan := [(0, none), (1, none), (2, none), (3, none), (4, none), (5, none), (6, none), (7, some [])]) (by kernel_rfl) rfl (by kernel_rfl) fun K9 hK9 => ?_
  simp only [go_sem, simprocAttr, hp_19]
  first | apply hK9 | refine ⟨by first | exact sd | ((repeat' apply And.intro) <;> first | assumption | omega | (simp only [List.length_append, List.length_map, List.length_cons, List.length_nil, List.length_set, List.length_replicate] at c_20 ⊢; omega)), hK9 _ _ ?_⟩
  refine retQ_normal ?_
  cases hm
  exact fse4
theorem ok_disk_benchOf (m_1 : api_Machine) (z : (List (Str × api_File)) × (List (Str × Int)) × (List (Str × api_Setting)) × (List (Str × api_Service)) × List api_Setting) (hm : disk_benchOf m_1 = some z) : Does Tryz.prog 106 [.agg [.p (.l (List.map enc_api_Setting m_1.Facts)), .p (.l (List.map enc_api_File m_1.Files)), .p (.l (List.map enc_api_Setting m_1.Settings)), .p (.l (List.map enc_api_Service m_1.Services))]] [] (fun r X => r = .ptr 5 0 ∧ X = [.cells 26 [.top, .top, .top, .top], .mp true (encM Dt.s enc_api_File z.1), .mp false (encM Dt.s ecI_i64 z.2.1), .mp true (encM Dt.s enc_api_Setting z.2.2.1), .mp true (encM Dt.s enc_api_Service z.2.2.2.1), .cells 187 [.p (.l (List.map enc_api_Setting z.2.2.2.2)), .mp 1, .mp 2, .mp 3, .mp 4]]) := by
 unfold disk_benchOf at hm
 refine Does.of_wp 6 61 [.tmp 2] Tryz.func106 rfl (by decide) rfl rfl (Nat.le_of_ble_eq_true rfl) fun B => ?_
 refine qS ?_
 obtain ⟨r_102, hr_102, hm⟩ := call_elim hm
 refine Wp.seqR fun K2 hK2 => ?_
 simp only [go_sem, simprocAttr]
 try refine ⟨sd, ?_⟩
 refine Rg.callF (av := ?av3) (ok_slices_Clone_api_Setting_api_Setting m_1.Facts _ hr_102) si si sg ?cont3
 intro hv3
 simp only [go_sem, simprocAttr]
 first | apply hK2 | refine ⟨sd, hK2 _ _ ?_⟩
 refine Wp.seqW fun K4 hK4 hW4 => ?_
 obtain ⟨k_119, hk_119, hm⟩ := jp_elim hm
 have hcut4 : ∀ s, k_119 s = some z → K4 [(1, .ptr 0 0), (3, .ptr 5 0)] [.cells 26 [.p (.l (List.map enc_api_Setting m_1.Facts)), .p (.l (List.map enc_api_File m_1.Files)), .p (.l (List.map enc_api_Setting m_1.Settings)), .p (.l (List.map enc_api_Service m_1.Services))], .mp true (encM Dt.s enc_api_File s.1), .mp false (encM Dt.s ecI_i64 s.2), .mp true (encM Dt.s enc_api_Setting []), .mp true (encM Dt.s enc_api_Service []), .cells 187 [.p (.l (List.map enc_api_Setting r_102)), .mp 1, .mp 2, .mp 3, .mp 4]] := by
  intro s hs
  have hm := hk_119 _ hs
  clear hs
  obtain ⟨m1_117, m2_118⟩ := s
  try dsimp only at hm
  try dsimp only
  refine hK4 _ _ ?_
  refine Wp.seqW fun K5 hK5 hW5 => ?_
  obtain ⟨k_137, hk_137, hm⟩ := jp_elim hm
  have hcut5 : ∀ s, k_137 s = some z → K5 [(1, .ptr 0 0), (3, .ptr 5 0)] [.cells 26 [.p (.l (List.map enc_api_Setting m_1.Facts)), .p (.l (List.map enc_api_File m_1.Files)), .p (.l (List.map enc_api_Setting m_1.Settings)), .p (.l (List.map enc_api_Service m_1.Services))], .mp true (encM Dt.s enc_api_File m1_117), .mp false (encM Dt.s ecI_i64 m2_118), .mp true (encM Dt.s enc_api_Setting s), .mp true (encM Dt.s enc_api_Service []), .cells 187 [.p (.l (List.map enc_api_Setting r_102)), .mp 1, .mp 2, .mp 3, .mp 4]] := by
   intro m3_136 hs
   have hm := hk_137 _ hs
   clear hs
   try dsimp only at hm
   try dsimp only
   refine hK5 _ _ ?_
   refine Wp.seqW fun K6 hK6 hW6 => ?_
   obtain ⟨k_155, hk_155, hm⟩ := jp_elim hm
   have hcut6 : ∀ s, k_155 s = some z → K6 [(3, .ptr 5 0)] [.cells 26 [.top, .top, .top, .top], .mp true (encM Dt.s enc_api_File m1_117), .mp false (encM Dt.s ecI_i64 m2_118), .mp true (encM Dt.s enc_api_Setting m3_136), .mp true (encM Dt.s enc_api_Service s), .cells 187 [.p (.l (List.map enc_api_Setting r_102)), .mp 1, .mp 2, .mp 3, .mp 4]] := by
    intro m4_154 hs
    have hm := hk_155 _ hs
    clear hs
    try dsimp only at hm
    try dsimp only
    refine hK6 _ _ ?_
    refine qS ?_
    refine Wp.ret ?_
    refine retQ_ret ?_
    cases hm
    exact fse4
   clear hK6 hk_155
   refine qS ?_
   refine Wp.block ?_
   obtain ⟨k_165, hk_165, hm⟩ := forL_cont hm
   refine Wp.fact 46 fun hl_168 => ?_
   replace hl_168 : m_1.Services.length ≤ 274877906944 := by
    simp only [go_sem, simprocAttr, List.length_map] at hl_168
    omega
   refine Wp.forL (fun i_167 s => [(3, .ptr 5 0), (46, .p (.l (List.map enc_api_Service m_1.Services))), (47, .p (.i .i64 (m_1.Services.length : Int))), (48, .p (.i .i64 (i_167 : Int)))]) (fun i_167 s => [.cells 26 [.p (.l (List.map enc_api_Setting m_1.Facts)), .p (.l (List.map enc_api_File m_1.Files)), .p (.l (List.map enc_api_Setting m_1.Settings)), .p (.l (List.map enc_api_Service m_1.Services))], .mp true (encM Dt.s enc_api_File m1_117), .mp false (encM Dt.s ecI_i64 m2_118), .mp true (encM Dt.s enc_api_Setting m3_136), .mp true (encM Dt.s enc_api_Service s), .cells 187 [.p (.l (List.map enc_api_Setting r_102)), .mp 1, .mp 2, .mp 3, .mp 4]]) ?_ hm ?_
   ·
    exact fse4
   clear hm
   intro i_167 m4_161 hii_167 hm
   try dsimp only at hm
   try dsimp only
   refine qS ?_
   refine Wp.seqW fun K10 hK10 hW10 => ?_
   refine Wp.cond rfl ⟨⟩ (fun hc10 => ?_) (fun hc10 => ?_)
   rotate_left
   ·refine Wp.exit ?_
    have hm := hk_165 _ (forL_end hm (ge_nat (by first | exact hc10 | simpa using hc10)))
    try dsimp only at hm
    refine hW6 _ _ _ _ ?_ (hcut6 m4_161 hm)
    exact fse4
   have hlt10 := lt_nat (by first | exact hc10 | simpa using hc10)
   have hw10 := wrap_succ hlt10 hl_168
   obtain ⟨s_169, nx_166, hxs_169, hys_169, hnx_166, hm⟩ := forL_step hm hlt10
   replace hxs_169 := hxs_169 enc_api_Service
   refine Wp.skip ?_
   simp only [thenQ]
   refine hK10 _ _ ?_
   refine Wp.seqW fun K11 hK11 hW11 => ?_
   refine Wp.block ?_
   refine Wp.seqR fun K12 hK12 => ?_
   simp only [go_sem, simprocAttr, hw10, hxs_169]
   first | apply hK12 | refine ⟨sd, hK12 _ _ ?_⟩
   obtain ⟨c_171, hm⟩ := chk_elim hm
   have hp_170 := mset_enc (e := enc_api_Service) keq_s m4_161 s_169.Name s_169
   simp only [enc_api_Service] at hp_170
   refine Wp.regD (plan := [(0, none), (1, none), (2, none), (3, none), (4, none), (5, none), (6, none), (7, some [])]) (by kernel_rfl) rfl (by kernel_rfl) fun K13 hK13 => ?_
   simp only [go_sem, simprocAttr, hw10, hxs_169, hp_170]
   first | apply hK13 | refine ⟨by first | exact sd | ((repeat' apply And.intro) <;> first | assumption | omega | (simp only [List.length_append, List.length_map, List.length_cons, List.length_nil, List.length_set, List.length_replicate] at c_171 ⊢; omega)), hK13 _ _ ?_⟩
   refine hK11 _ _ ?_
   refine Wp.region fun K14 hK14 => ?_
   simp only [go_sem, simprocAttr, hw10, hxs_169]
   first | apply hK14 | refine ⟨sd, hK14 _ _ ?_⟩
   simp only [thenQ, blockQ, ↓reduceIte]
   refine ⟨aset m4_161 s_169.Name s_169, hlt10, hnx_166 _ hm, ?_⟩
   simp only [go_sem, simprocAttr, hw10, hxs_169]
   try exact se4
  clear hK5 hk_137
  refine qS ?_
  refine Wp.block ?_
  obtain ⟨k_181, hk_181, hm⟩ := forL_cont hm
  refine Wp.fact 31 fun hl_184 => ?_
  replace hl_184 : m_1.Settings.length ≤ 274877906944 := by
   simp only [go_sem, simprocAttr, List.length_map] at hl_184
   omega
  refine Wp.forL (fun i_183 s => [(1, .ptr 0 0), (3, .ptr 5 0), (31, .p (.l (List.map enc_api_Setting m_1.Settings))), (32, .p (.i .i64 (m_1.Settings.length : Int))), (33, .p (.i .i64 (i_183 : Int)))]) (fun i_183 s => [.cells 26 [.p (.l (List.map enc_api_Setting m_1.Facts)), .p (.l (List.map enc_api_File m_1.Files)), .p (.l (List.map enc_api_Setting m_1.Settings)), .p (.l (List.map enc_api_Service m_1.Services))], .mp true (encM Dt.s enc_api_File m1_117), .mp false (encM Dt.s ecI_i64 m2_118), .mp true (encM Dt.s enc_api_Setting s), .mp true (encM Dt.s enc_api_Service []), .cells 187 [.p (.l (List.map enc_api_Setting r_102)), .mp 1, .mp 2, .mp 3, .mp 4]]) ?_ hm ?_
  ·
   exact fse4
  clear hm
  intro i_183 m3_177 hii_183 hm
  try dsimp only at hm
  try dsimp only
  refine qS ?_
  refine Wp.seqW fun K17 hK17 hW17 => ?_
  refine Wp.cond rfl ⟨⟩ (fun hc17 => ?_) (fun hc17 => ?_)
  rotate_left
  ·refine Wp.exit ?_
   have hm := hk_181 _ (forL_end hm (ge_nat (by first | exact hc17 | simpa using hc17)))
   try dsimp only at hm
   refine hW5 _ _ _ _ ?_ (hcut5 m3_177 hm)
   exact fse4
  have hlt17 := lt_nat (by first | exact hc17 | simpa using hc17)
  have hw17 := wrap_succ hlt17 hl_184
  obtain ⟨s_185, nx_182, hxs_185, hys_185, hnx_182, hm⟩ := forL_step hm hlt17
  replace hxs_185 := hxs_185 enc_api_Setting
  refine Wp.skip ?_
  simp only [thenQ]
  refine hK17 _ _ ?_
  refine Wp.seqW fun K18 hK18 hW18 => ?_
  refine Wp.block ?_
  refine Wp.seqR fun K19 hK19 => ?_
  simp only [go_sem, simprocAttr, hw17, hxs_185]
  first | apply hK19 | refine ⟨sd, hK19 _ _ ?_⟩
  obtain ⟨c_187, hm⟩ := chk_elim hm
  have hp_186 := mset_enc (e := enc_api_Setting) keq_s m3_177 s_185.Key s_185
  simp only [enc_api_Setting] at hp_186
  refine Wp.regD (plan := [(0, none), (1, none), (2, none), (3, none), (4, none), (5, none), (6, none), (7, some [])]) (by kernel_rfl) rfl (by kernel_rfl) fun K20 hK20 => ?_
  simp only [go_sem, simprocAttr, hw17, hxs_185, hp_186]
  first | apply hK20 | refine ⟨by first | exact sd | ((repeat' apply And.intro) <;> first | assumption | omega | (simp only [List.length_append, List.length_map, List.length_cons, List.length_nil, List.length_set, List.length_replicate] at c_187 ⊢; omega)), hK20 _ _ ?_⟩
  refine hK18 _ _ ?_
  refine Wp.region fun K21 hK21 => ?_
  simp only [go_sem, simprocAttr, hw17, hxs_185]
  first | apply hK21 | refine ⟨sd, hK21 _ _ ?_⟩
  simp only [thenQ, blockQ, ↓reduceIte]
  refine ⟨aset m3_177 s_185.Key s_185, hlt17, hnx_182 _ hm, ?_⟩
  simp only [go_sem, simprocAttr, hw17, hxs_185]
  try exact se4
 clear hK4 hk_119
 refine qS ?_
 refine Wp.block ?_
 obtain ⟨k_196, hk_196, hm⟩ := forL_cont hm
 refine Wp.fact 20 fun hl_199 => ?_
 replace hl_199 : m_1.Files.length ≤ 274877906944 := by
  simp only [go_sem, simprocAttr, List.length_map] at hl_199
  omega
 refine Wp.forL (fun i_198 s => [(1, .ptr 0 0), (3, .ptr 5 0), (20, .p (.l (List.map enc_api_File m_1.Files))), (21, .p (.i .i64 (m_1.Files.length : Int))), (22, .p (.i .i64 (i_198 : Int)))]) (fun i_198 s => [.cells 26 [.p (.l (List.map enc_api_Setting m_1.Facts)), .p (.l (List.map enc_api_File m_1.Files)), .p (.l (List.map enc_api_Setting m_1.Settings)), .p (.l (List.map enc_api_Service m_1.Services))], .mp true (encM Dt.s enc_api_File s.1), .mp false (encM Dt.s ecI_i64 s.2), .mp true (encM Dt.s enc_api_Setting []), .mp true (encM Dt.s enc_api_Service []), .cells 187 [.p (.l (List.map enc_api_Setting r_102)), .mp 1, .mp 2, .mp 3, .mp 4]]) ?_ hm ?_
 ·
  exact fse4
 clear hm
 intro i_198 s hii_198 hm
 obtain ⟨m1_192, m2_193⟩ := s
 try dsimp only at hm
 try dsimp only
 refine qS ?_
 refine Wp.seqW fun K24 hK24 hW24 => ?_
 refine Wp.cond rfl ⟨⟩ (fun hc24 => ?_) (fun hc24 => ?_)
 rotate_left
 ·refine Wp.exit ?_
  have hm := hk_196 _ (forL_end hm (ge_nat (by first | exact hc24 | simpa using hc24)))
  try dsimp only at hm
  refine hW4 _ _ _ _ ?_ (hcut4 (m1_192, m2_193) hm)
  exact fse4
 have hlt24 := lt_nat (by first | exact hc24 | simpa using hc24)
 have hw24 := wrap_succ hlt24 hl_199
 obtain ⟨f_200, nx_197, hxf_200, hyf_200, hnx_197, hm⟩ := forL_step hm hlt24
 replace hxf_200 := hxf_200 enc_api_File
 refine Wp.skip ?_
 simp only [thenQ]
 refine hK24 _ _ ?_
 refine Wp.seqW fun K25 hK25 hW25 => ?_
 refine Wp.block ?_
 refine Wp.seqR fun K26 hK26 => ?_
 simp only [go_sem, simprocAttr, hw24, hxf_200]
 first | apply hK26 | refine ⟨sd, hK26 _ _ ?_⟩
 obtain ⟨r_201, hr_201, hm⟩ := call_elim hm
 refine Wp.region fun K27 hK27 => ?_
 simp only [go_sem, simprocAttr, hw24, hxf_200]
 try refine ⟨sd, ?_⟩
 refine Rg.callO (av := ?av28) [5, 1, 2, 3, 4] (ok_disk_bench_put_i1 f_200 r_102 m1_192 m2_193 [] [] _ hr_201) (by simp only [go_sem, simprocAttr, hw24, hxf_200]; exact Is.mk) (by simp only [go_sem, simprocAttr, hw24, hxf_200]; exact Is.mk) (by simp only [go_sem, simprocAttr, hw24, hxf_200]; exact Is.mk) (by simp only [go_sem, simprocAttr, hw24, hxf_200]) (by simp only [go_sem, simprocAttr, hw24, hxf_200]) ?cont28
 rintro _ _ ⟨rfl, rfl⟩ hv28
 simp only [go_sem, simprocAttr, hw24, hxf_200]
 first | apply hK27 | refine ⟨sd, hK27 _ _ ?_⟩
 refine hK25 _ _ ?_
 refine Wp.region fun K29 hK29 => ?_
 simp only [go_sem, simprocAttr, hw24, hxf_200]
 first | apply hK29 | refine ⟨sd, hK29 _ _ ?_⟩
 simp only [thenQ, blockQ, ↓reduceIte]
 refine ⟨(r_201.1, r_201.2), hlt24, hnx_197 _ hm, ?_⟩
 simp only [go_sem, simprocAttr, hw24, hxf_200]
 try exact se4
theorem ok_disk_CheckChange (c_1 : api_Change) (z : Int) (hm : disk_CheckChange c_1 = some z) : Does Tryz.prog 51 [.agg [.p (.i .i64 c_1.Kind), .p (.s c_1.File.Path), .p (.s c_1.File.Data), .p (.b c_1.File.Runs), .p (.s c_1.Setting.Key), .p (.s c_1.Setting.Value), .p (.s c_1.Service.Name), .p (.s c_1.Service.Path), .p (.b c_1.Service.Auto), .p (.b c_1.Service.On)]] [] (fun r X => r = .p (.i .i64 z) ∧ X = []) := by
 unfold disk_CheckChange at hm
 refine Does.of_wp 0 78 [.tmp 2] Tryz.func51 rfl (by decide) rfl rfl (Nat.le_of_ble_eq_true rfl) fun B => ?_
 refine qS ?_
 refine qS ?_
 refine qS ?_
 refine Wp.seqW fun K4 hK4 hW4 => ?_
 obtain ⟨k_18, hk_18, hm⟩ := jp_elim hm
 have hcut4 : ∀ s, k_18 s = some z → K4 [(1, .ptr 0 0), (3, .ptr 1 0), (4, .p (.i .i64 s.1))] [.cells 72 [.p (.i .i64 c_1.Kind), .p (.s c_1.File.Path), .p (.s c_1.File.Data), .p (.b c_1.File.Runs), .p (.s c_1.Setting.Key), .p (.s c_1.Setting.Value), .p (.s c_1.Service.Name), .p (.s c_1.Service.Path), .p (.b c_1.Service.Auto), .p (.b c_1.Service.On)], .cells 72 [.p (.i .i64 0), .p (.s s.2.1), .p (.s s.2.2.1), .p (.b s.2.2.2.1), .p (.s s.2.2.2.2.1), .p (.s s.2.2.2.2.2.1), .p (.s s.2.2.2.2.2.2.1), .p (.s s.2.2.2.2.2.2.2.1), .p (.b s.2.2.2.2.2.2.2.2.1), .p (.b s.2.2.2.2.2.2.2.2.2)]] := by
  intro s hs
  have hm := hk_18 _ hs
  clear hs
  obtain ⟨e_8, o1_1_9, o1_2_10, o1_3_11, o1_4_12, o1_5_13, o1_6_14, o1_7_15, o1_8_16, o1_9_17⟩ := s
  try dsimp only at hm
  try dsimp only
  refine hK4 _ _ ?_
  refine qS ?_
  refine Wp.seqW fun K6 hK6 hW6 => ?_
  refine qS ?_
  refine cM hm (fun hc8 hm => ?_) (fun hc8 hm => ?_)
  ·refine qS ?_
   refine Wp.ret ?_
   refine retQ_ret ?_
   cases hm
   exact fse4
  ·refine Wp.skip ?_
   refine hK6 _ _ ?_
   refine qS ?_
   refine Wp.ret ?_
   refine retQ_ret ?_
   cases hm
   exact fse4
 clear hK4 hk_18
 refine qS ?_
 refine Wp.block ?_
 refine qS ?_
 refine cM hm (fun hc13 hm => ?_) (fun hc13 hm => ?_)
 ·obtain ⟨r_19, hr_19, hm⟩ := call_elim hm
  refine Wp.regD (plan := [(0, none), (1, none), (2, none), (3, none), (4, none), (5, none), (6, some []), (7, none)]) (by kernel_rfl) rfl (by kernel_rfl) fun K14 hK14 => ?_
  simp only [go_sem, simprocAttr]
  try refine ⟨sd, ?_⟩
  refine Dr.callF (av := ?av15) (g := true) (o := ?o15) (fun hg => ok_disk_fileFault c_1.File _ hr_19) si si si si sg si ?cont15
  simp only [go_sem, simprocAttr]
  first | apply hK14 | refine ⟨sd, hK14 _ _ ?_⟩
  refine hW4 _ _ _ _ ?_ (hcut4 (r_19, c_1.File.Path, c_1.File.Data, c_1.File.Runs, [], [], [], [], false, false) hm)
  exact fse4
 ·refine qS ?_
  refine cM hm (fun hc17 hm => ?_) (fun hc17 hm => ?_)
  ·obtain ⟨r_20, hr_20, hm⟩ := call_elim hm
   refine Wp.regD (plan := [(0, none), (1, none), (2, none), (3, none), (4, none), (5, none), (6, none), (7, none), (8, none), (9, none), (10, some []), (11, none)]) (by kernel_rfl) rfl (by kernel_rfl) fun K18 hK18 => ?_
   simp only [go_sem, simprocAttr]
   try refine ⟨sd, ?_⟩
   refine Dr.callF (av := ?av19) (g := true) (o := ?o19) (fun hg => ok_disk_fileFault (api_File.mk c_1.File.Path [] false) _ hr_20) si si si si sg si ?cont19
   simp only [go_sem, simprocAttr]
   first | apply hK18 | refine ⟨sd, hK18 _ _ ?_⟩
   refine hW4 _ _ _ _ ?_ (hcut4 (r_20, c_1.File.Path, [], false, [], [], [], [], false, false) hm)
   exact fse4
  ·refine qS ?_
   refine cM hm (fun hc21 hm => ?_) (fun hc21 hm => ?_)
   ·obtain ⟨r_21, hr_21, hm⟩ := call_elim hm
    refine Wp.regD (plan := [(0, none), (1, none), (2, none), (3, none), (4, none), (5, none), (6, some []), (7, none)]) (by kernel_rfl) rfl (by kernel_rfl) fun K22 hK22 => ?_
    simp only [go_sem, simprocAttr]
    try refine ⟨sd, ?_⟩
    refine Dr.callF (av := ?av23) (g := true) (o := ?o23) (fun hg => ok_disk_settingFault_i2 c_1.Setting _ hr_21) si si si si sg si ?cont23
    simp only [go_sem, simprocAttr]
    first | apply hK22 | refine ⟨sd, hK22 _ _ ?_⟩
    refine hW4 _ _ _ _ ?_ (hcut4 (r_21, [], [], false, c_1.Setting.Key, c_1.Setting.Value, [], [], false, false) hm)
    exact fse4
   ·refine qS ?_
    refine cM hm (fun hc25 hm => ?_) (fun hc25 hm => ?_)
    ·obtain ⟨r_22, hr_22, hm⟩ := call_elim hm
     refine Wp.regD (plan := [(0, none), (1, none), (2, none), (3, none), (4, none), (5, none), (6, none), (7, none), (8, none), (9, none), (10, some []), (11, none)]) (by kernel_rfl) rfl (by kernel_rfl) fun K26 hK26 => ?_
     simp only [go_sem, simprocAttr]
     try refine ⟨sd, ?_⟩
     refine Dr.callF (av := ?av27) (g := true) (o := ?o27) (fun hg => ok_disk_settingFault_i2 (api_Setting.mk c_1.Setting.Key []) _ hr_22) si si si si sg si ?cont27
     simp only [go_sem, simprocAttr]
     first | apply hK26 | refine ⟨sd, hK26 _ _ ?_⟩
     refine hW4 _ _ _ _ ?_ (hcut4 (r_22, [], [], false, c_1.Setting.Key, [], [], [], false, false) hm)
     exact fse4
    ·refine qS ?_
     refine cM hm (fun hc29 hm => ?_) (fun hc29 hm => ?_)
     ·obtain ⟨r_23, hr_23, hm⟩ := call_elim hm
      refine Wp.regD (plan := [(0, none), (1, none), (2, none), (3, none), (4, none), (5, none), (6, some []), (7, none)]) (by kernel_rfl) rfl (by kernel_rfl) fun K30 hK30 => ?_
      simp only [go_sem, simprocAttr]
      try refine ⟨sd, ?_⟩
      refine Dr.callF (av := ?av31) (g := true) (o := ?o31) (fun hg => ok_disk_serviceFault c_1.Service _ hr_23) si si si si sg si ?cont31
      simp only [go_sem, simprocAttr]
      first | apply hK30 | refine ⟨sd, hK30 _ _ ?_⟩
      refine hW4 _ _ _ _ ?_ (hcut4 (r_23, [], [], false, [], [], c_1.Service.Name, c_1.Service.Path, c_1.Service.Auto, c_1.Service.On) hm)
      exact fse4
     ·refine qS ?_
      refine cM hm (fun hc33 hm => ?_) (fun hc33 hm => ?_)
      ·refine qS ?_
       obtain ⟨r_24, hr_24, hm⟩ := call_elim hm
       refine Wp.seqR fun K35 hK35 => ?_
       simp only [go_sem, simprocAttr]
       try refine ⟨sd, ?_⟩
       refine Rg.callX (av := ?av36) (g := true) (fun hg => ok_ver_IsName c_1.Service.Name _ hr_24) si si si sg si ?cont36
       intro hv36
       simp only [go_sem, simprocAttr]
       first | apply hK35 | refine ⟨sd, hK35 _ _ ?_⟩
       refine cM hm (fun hc37 hm => ?_) (fun hc37 hm => ?_)
       ·refine qR ?_
        refine hW4 _ _ _ _ ?_ (hcut4 (5, [], [], false, [], [], c_1.Service.Name, [], false, false) hm)
        exact fse4
       ·refine Wp.skip ?_
        refine hW4 _ _ _ _ ?_ (hcut4 (0, [], [], false, [], [], c_1.Service.Name, [], false, false) hm)
        exact fse4
      ·refine qS ?_
       refine Wp.ret ?_
       refine retQ_ret ?_
       cases hm
       exact fse4
theorem ok_disk_bench_conflict_1_i1 (dir_1 : Str) (o1_0_2 : List api_Setting) (m2_3 : List (Str × api_File)) (m3_4 : List (Str × Int)) (m4_5 : List (Str × api_Setting)) (m5_6 : List (Str × api_Service)) (z : Bool) (hm : disk_bench_conflict_1_i1 dir_1 o1_0_2 m2_3 m3_4 m4_5 m5_6 = some z) : Does Tryz.prog 216 [.p (.s dir_1), .ptr 0 0] [.cells 137 [.ptr 1 0], .cells 187 [.p (.l (List.map enc_api_Setting o1_0_2)), .mp 2, .mp 3, .mp 4, .mp 5], .mp true (encM Dt.s enc_api_File m2_3), .mp false (encM Dt.s ecI_i64 m3_4), .mp true (encM Dt.s enc_api_Setting m4_5), .mp true (encM Dt.s enc_api_Service m5_6)] (fun r X => r = .p (.b z) ∧ X = [.cells 137 [.ptr 1 0], .cells 187 [.p (.l (List.map enc_api_Setting o1_0_2)), .mp 2, .mp 3, .mp 4, .mp 5], .mp true (encM Dt.s enc_api_File m2_3), .mp false (encM Dt.s ecI_i64 m3_4), .mp true (encM Dt.s enc_api_Setting m4_5), .mp true (encM Dt.s enc_api_Service m5_6)]) := by
 unfold disk_bench_conflict_1_i1 at hm
 refine Does.of_wp 6 17 [.tmp 3] Tryz.func216 rfl (by decide) rfl rfl (Nat.le_of_ble_eq_true rfl) fun B => ?_
 refine qS ?_
 obtain ⟨q_9, hq_10, hm⟩ := letv_elim hm
 have hq_10d := mlookD_enc (e := enc_api_File) keq_s m2_3 dir_1 (api_File.mk [] [] false)
 have hq_10s := mlook_some (e := enc_api_File) keq_s m2_3 dir_1
 simp only [hq_10, enc_api_File, List.map_nil] at hq_10d hq_10s
 refine Wp.seqR fun K2 hK2 => ?_
 simp only [go_sem, simprocAttr, hq_10d, hq_10s]
 first | apply hK2 | refine ⟨sd, hK2 _ _ ?_⟩
 refine qS ?_
 refine Wp.ret ?_
 refine retQ_ret ?_
 cases hm
 exact fse4
theorem ok_disk_above_i3 (path_1 : Str) (o1_0_2 : List api_Setting) (m2_3 : List (Str × api_File)) (m3_4 : List (Str × Int)) (m4_5 : List (Str × api_Setting)) (m5_6 : List (Str × api_Service)) (z : Bool) (hm : disk_above_i3 path_1 o1_0_2 m2_3 m3_4 m4_5 m5_6 = some z) : Does Tryz.prog 138 [.p (.s path_1), .fn 216 [.ptr 0 0]] [.cells 137 [.ptr 1 0], .cells 187 [.p (.l (List.map enc_api_Setting o1_0_2)), .mp 2, .mp 3, .mp 4, .mp 5], .mp true (encM Dt.s enc_api_File m2_3), .mp false (encM Dt.s ecI_i64 m3_4), .mp true (encM Dt.s enc_api_Setting m4_5), .mp true (encM Dt.s enc_api_Service m5_6)] (fun r X => r = .p (.b z) ∧ X = [.cells 137 [.ptr 1 0], .cells 187 [.p (.l (List.map enc_api_Setting o1_0_2)), .mp 2, .mp 3, .mp 4, .mp 5], .mp true (encM Dt.s enc_api_File m2_3), .mp false (encM Dt.s ecI_i64 m3_4), .mp true (encM Dt.s enc_api_Setting m4_5), .mp true (encM Dt.s enc_api_Service m5_6)]) := by
 unfold disk_above_i3 at hm
 refine Does.of_wp 6 24 [.tmp 4] Tryz.func138 rfl (by decide) rfl rfl (Nat.le_of_ble_eq_true rfl) fun B => ?_
 refine qS ?_
 refine Wp.seqW fun K2 hK2 hW2 => ?_
 obtain ⟨k_41, hk_41, hm⟩ := jp_elim hm
 have hcut2 : ∀ s, k_41 s = some z → K2 [] [.cells 137 [.ptr 1 0], .cells 187 [.p (.l (List.map enc_api_Setting o1_0_2)), .mp 2, .mp 3, .mp 4, .mp 5], .mp true (encM Dt.s enc_api_File m2_3), .mp false (encM Dt.s ecI_i64 m3_4), .mp true (encM Dt.s enc_api_Setting m4_5), .mp true (encM Dt.s enc_api_Service m5_6)] := by
  intro s hs
  have hm := hk_41 _ hs
  clear hs
  try dsimp only at hm
  try dsimp only
  refine hK2 _ _ ?_
  refine qS ?_
  refine Wp.ret ?_
  refine retQ_ret ?_
  cases hm
  exact fse4
 clear hK2 hk_41
 refine qS ?_
 refine Wp.block ?_
 obtain ⟨k_46, hk_46, hm⟩ := forL_cont hm
 refine Wp.fact 0 fun hl_49 => ?_
 replace hl_49 : path_1.length ≤ 274877906944 := by
  simp only [go_sem, simprocAttr, List.length_map] at hl_49
  omega
 refine Wp.forL (fun i_48 s => [(0, .p (.s path_1)), (1, .fn 216 [.ptr 0 0]), (5, .p (.i .i64 (i_48 : Int)))]) (fun i_48 s => [.cells 137 [.ptr 1 0], .cells 187 [.p (.l (List.map enc_api_Setting o1_0_2)), .mp 2, .mp 3, .mp 4, .mp 5], .mp true (encM Dt.s enc_api_File m2_3), .mp false (encM Dt.s ecI_i64 m3_4), .mp true (encM Dt.s enc_api_Setting m4_5), .mp true (encM Dt.s enc_api_Service m5_6)]) ?_ hm ?_
 ·
  exact fse4
 clear hm
 intro i_48 s hii_48 hm
 try dsimp only at hm
 try dsimp only
 refine Wp.seqW fun K5 hK5 hW5 => ?_
 refine qS ?_
 refine Wp.cond rfl ⟨⟩ (fun hc5 => ?_) (fun hc5 => ?_)
 rotate_left
 ·refine Wp.exit ?_
  have hm := hk_46 _ (forL_end hm (ge_nat (by first | exact hc5 | simpa using hc5)))
  try dsimp only at hm
  refine hW2 _ _ _ _ ?_ (hcut2 () hm)
  exact fse4
 have hlt5 := lt_nat (by first | exact hc5 | simpa using hc5)
 have hw5 := wrap_succ hlt5 hl_49
 obtain ⟨c_50, nx_47, hxc_50, hyc_50, hnx_47, hm⟩ := forL_step hm hlt5
 clear hxc_50
 refine Wp.skip ?_
 simp only [thenQ]
 refine hK5 _ _ ?_
 refine Wp.seqW fun K7 hK7 hW7 => ?_
 refine Wp.block ?_
 obtain ⟨c_51, hm⟩ := chk_elim hm
 obtain ⟨r_52, hr_52, hm⟩ := callG_elim hm
 refine Wp.seqR fun K8 hK8 => ?_
 simp only [go_sem, simprocAttr, hw5, hyc_50]
 try refine ⟨by first | exact sd | ((repeat' apply And.intro) <;> first | assumption | omega | (simp only [List.length_append, List.length_map, List.length_cons, List.length_nil, List.length_set, List.length_replicate] at c_51 ⊢; omega)), ?_⟩
 refine Rg.callR (av := ?av9) (g := decide ((c_50.toNat : Int) = 47)) [0, 1, 2, 3, 4, 5] (fun hg => ok_disk_bench_conflict_1_i1 (List.take i_48 path_1) o1_0_2 m2_3 m3_4 m4_5 m5_6 _ (hr_52 hg)) (by simp only [go_sem, simprocAttr, hw5, hyc_50]; exact Is.mk) (by simp only [go_sem, simprocAttr, hw5, hyc_50]; exact Is.mk) (by simp only [go_sem, simprocAttr, hw5, hyc_50]; exact Is.mk) (by simp only [go_sem, simprocAttr, hw5, hyc_50]; exact Is.mk) (by simp only [go_sem, simprocAttr, hw5, hyc_50]) (by simp only [go_sem, simprocAttr, hw5, hyc_50]) (by simp only [go_sem, simprocAttr, hw5, hyc_50]) ?cont9
 simp only [go_sem, simprocAttr, hw5, hyc_50]
 first | apply hK8 | refine ⟨by first | exact sd | ((repeat' apply And.intro) <;> first | assumption | omega | (simp only [List.length_append, List.length_map, List.length_cons, List.length_nil, List.length_set, List.length_replicate] at c_51 ⊢; omega)), hK8 _ _ ?_⟩
 refine cM hm (fun hc10 hm => ?_) (fun hc10 hm => ?_)
 ·refine Wp.seqR fun K11 hK11 => ?_
  simp only [go_sem, simprocAttr, hw5, hyc_50]
  first | apply hK11 | refine ⟨sd, hK11 _ _ ?_⟩
  refine Wp.ret ?_
  refine retQ_ret ?_
  cases hm
  simp only [go_sem, simprocAttr, hw5, hyc_50]
  try exact se4
 ·refine Wp.skip ?_
  refine hK7 _ _ ?_
  refine Wp.region fun K12 hK12 => ?_
  simp only [go_sem, simprocAttr, hw5, hyc_50]
  first | apply hK12 | refine ⟨sd, hK12 _ _ ?_⟩
  simp only [thenQ, blockQ, ↓reduceIte]
  refine ⟨(), hlt5, hnx_47 _ hm, ?_⟩
  simp only [go_sem, simprocAttr, hw5, hyc_50]
  try exact se4
theorem ok_disk_bench_conflict_i1 (path_1 : Str) (o0_0_2 : List api_Setting) (m1_3 : List (Str × api_File)) (m2_4 : List (Str × Int)) (m3_5 : List (Str × api_Setting)) (m4_6 : List (Str × api_Service)) (z : Bool) (hm : disk_bench_conflict_i1 path_1 o0_0_2 m1_3 m2_4 m3_5 m4_6 = some z) : Does Tryz.prog 190 [.ptr 0 0, .p (.s path_1)] [.cells 187 [.p (.l (List.map enc_api_Setting o0_0_2)), .mp 1, .mp 2, .mp 3, .mp 4], .mp true (encM Dt.s enc_api_File m1_3), .mp false (encM Dt.s ecI_i64 m2_4), .mp true (encM Dt.s enc_api_Setting m3_5), .mp true (encM Dt.s enc_api_Service m4_6)] (fun r X => r = .p (.b z) ∧ X = [.cells 187 [.p (.l (List.map enc_api_Setting o0_0_2)), .mp 1, .mp 2, .mp 3, .mp 4], .mp true (encM Dt.s enc_api_File m1_3), .mp false (encM Dt.s ecI_i64 m2_4), .mp true (encM Dt.s enc_api_Setting m3_5), .mp true (encM Dt.s enc_api_Service m4_6)]) := by
 unfold disk_bench_conflict_i1 at hm
 refine Does.of_wp 5 20 [.tmp 4] Tryz.func190 rfl (by decide) rfl rfl (Nat.le_of_ble_eq_true rfl) fun B => ?_
 refine qS ?_
 obtain ⟨r_10, hr_10, hm⟩ := call_elim hm
 refine Wp.seqR fun K2 hK2 => ?_
 simp only [go_sem, simprocAttr]
 try refine ⟨sd, ?_⟩
 refine Rg.callR (av := ?av3) (g := true) [5, 0, 1, 2, 3, 4] (fun hg => ok_disk_above_i3 path_1 o0_0_2 m1_3 m2_4 m3_5 m4_6 _ hr_10) si si si si sg sg sg ?cont3
 simp only [go_sem, simprocAttr]
 first | apply hK2 | refine ⟨sd, hK2 _ _ ?_⟩
 obtain ⟨q_11, hq_12, hm⟩ := letv_elim hm
 have hq_12d := mlookD_enc (e := ecI_i64) keq_s m2_4 path_1 0
 have hq_12s := mlook_some (e := ecI_i64) keq_s m2_4 path_1
 simp only [hq_12, ecI_i64, List.map_nil] at hq_12d hq_12s
 refine Wp.seqR fun K4 hK4 => ?_
 simp only [go_sem, simprocAttr, hq_12d, hq_12s]
 first | apply hK4 | refine ⟨sd, hK4 _ _ ?_⟩
 refine Wp.ret ?_
 refine retQ_ret ?_
 cases hm
 exact fse4
theorem ok_disk_missing_api_File_i1 (key_1 : Str) (m0_2 : List (Str × api_File)) (z : Bool) (hm : disk_missing_api_File_i1 key_1 m0_2 = some z) : Does Tryz.prog 191 [.mp 0, .p (.s key_1)] [.mp true (encM Dt.s enc_api_File m0_2)] (fun r X => r = .p (.b z) ∧ X = [.mp true (encM Dt.s enc_api_File m0_2)]) := by
 unfold disk_missing_api_File_i1 at hm
 refine Does.of_wp 1 15 [.tmp 4] Tryz.func191 rfl (by decide) rfl rfl (Nat.le_of_ble_eq_true rfl) fun B => ?_
 refine qS ?_
 obtain ⟨q_5, hq_6, hm⟩ := letv_elim hm
 have hq_6d := mlookD_enc (e := enc_api_File) keq_s m0_2 key_1 (api_File.mk [] [] false)
 have hq_6s := mlook_some (e := enc_api_File) keq_s m0_2 key_1
 simp only [hq_6, enc_api_File, List.map_nil] at hq_6d hq_6s
 refine Wp.seqR fun K2 hK2 => ?_
 simp only [go_sem, simprocAttr, hq_6d, hq_6s]
 first | apply hK2 | refine ⟨sd, hK2 _ _ ?_⟩
 refine qS ?_
 refine Wp.ret ?_
 refine retQ_ret ?_
 cases hm
 exact fse4
end Go.Proofs.YtbfemlilfeahkaaGreatDoor
