/- That the code does what the models say (part 8). -/
import Derived.Test.YthmjpfooffbhhaaGreatDoorLrWk0
import Derived.Test.YthmjpfooffbhhaaGreatDoorLrWk1
import Derived.Test.YthmjpfooffbhhaaGreatDoorLrWk4
import Derived.Test.YthmjpfooffbhhaaGreatDoorLrWk5
import Derived.Test.YthmjpfooffbhhaaGreatDoorLrWk6
import Derived.Test.YthmjpfooffbhhaaGreatDoorLrWk7
set_option linter.unusedSimpArgs false
set_option linter.unusedVariables false
open Go.Proofs Go.Shelf
namespace Go.Proofs.YthmjpfooffbhhaaGreatDoor
open Go.Vc Go.Md
set_option maxRecDepth 100000
set_option maxHeartbeats 4000000
theorem ok_R_ReportOf (l_1 : List api_Record) (from_2 : Int) (to_3 : Int) (z : Str) (hm : R_ReportOf l_1 from_2 to_3 = some z) : Does Tryz.prog 18 [.p (.l (List.map enc_api_Record l_1)), .p (.i .i64 from_2), .p (.i .i64 to_3)] [] (fun r X => r = .p (.s z) ∧ X = []) := by
 unfold R_ReportOf at hm
 refine Does.of_wp 0 107 [.tmp 6] Tryz.func18 rfl (by decide) rfl rfl (Nat.le_of_ble_eq_true rfl) fun B => ?_
 refine qS ?_
 refine qS ?_
 refine Wp.seqW fun K3 hK3 hW3 => ?_
 obtain ⟨k_53, hk_53, hm⟩ := jp_elim hm
 have hcut3 : ∀ s, k_53 s = some z → K3 [(0, .p (.l (List.map enc_api_Record l_1))), (2, .p (.i .i64 to_3)), (7, .mp 0), (8, .mp 1)] [.mp false (encM Dt.s ecI_i64 s.1), .mp false (encM Dt.s ecI_i64 s.2)] := by
  intro s hs
  have hm := hk_53 _ hs
  clear hs
  obtain ⟨m0_51, m1_52⟩ := s
  try dsimp only at hm
  try dsimp only
  refine hK3 _ _ ?_
  obtain ⟨r_54, hr_54, hm⟩ := call_elim hm
  obtain ⟨r_55, hr_55, hm⟩ := call_elim hm
  refine Wp.seqR fun K4 hK4 => ?_
  simp only [go_sem, simprocAttr]
  try refine ⟨sd, ?_⟩
  refine Rg.callF (av := ?av5) (ok_R_Until l_1 (IntKind.i64.wrap (to_3 - 1)) _ hr_54) si si sg ?cont5
  intro hv5
  simp only [go_sem, simprocAttr]
  try refine ⟨sd, ?_⟩
  refine Rg.callF (av := ?av6) (ok_R_Installed r_54 _ hr_55) si si sg ?cont6
  intro hv6
  simp only [go_sem, simprocAttr]
  first | apply hK4 | refine ⟨sd, hK4 _ _ ?_⟩
  refine qS ?_
  refine Wp.seqW fun K8 hK8 hW8 => ?_
  obtain ⟨k_215, hk_215, hm⟩ := jp_elim hm
  have hcut8 : ∀ s, k_215 s = some z → K8 [(12, .p (.s s))] [] := by
   intro out_214 hs
   have hm := hk_215 _ hs
   clear hs
   try dsimp only at hm
   try dsimp only
   refine hK8 _ _ ?_
   refine qS ?_
   refine Wp.ret ?_
   refine retQ_ret ?_
   cases hm
   exact fse4
  clear hK8 hk_215
  obtain ⟨r_216, hr_216, hm⟩ := call_elim hm
  refine Wp.seqR fun K10 hK10 => ?_
  simp only [go_sem, simprocAttr]
  try refine ⟨sd, ?_⟩
  refine Rg.callR (av := ?av11) (g := true) [0] (fun hg => ok_R_keys_int_i1 m0_51 _ hr_216) si si si si sg sg sg ?cont11
  simp only [go_sem, simprocAttr]
  first | apply hK10 | refine ⟨sd, hK10 _ _ ?_⟩
  refine Wp.block ?_
  obtain ⟨k_295, hk_295, hm⟩ := forL_cont hm
  refine Wp.fact 66 fun hl_298 => ?_
  replace hl_298 : r_216.length ≤ 274877906944 := by
   simp only [go_sem, simprocAttr, List.length_map] at hl_298
   omega
  refine Wp.forL (fun i_297 s => [(7, .mp 0), (8, .mp 1), (11, .p (.l (List.map enc_api_Had r_55))), (12, .p (.s s)), (66, .p (.l (List.map ecS r_216))), (67, .p (.i .i64 (r_216.length : Int))), (68, .p (.i .i64 (i_297 : Int)))]) (fun i_297 s => [.mp false (encM Dt.s ecI_i64 m0_51), .mp false (encM Dt.s ecI_i64 m1_52)]) ?_ hm ?_
  ·
   exact fse4
  clear hm
  intro i_297 out_217 hii_297 hm
  try dsimp only at hm
  try dsimp only
  refine qS ?_
  refine Wp.seqW fun K13 hK13 hW13 => ?_
  refine Wp.cond rfl ⟨⟩ (fun hc13 => ?_) (fun hc13 => ?_)
  rotate_left
  ·refine Wp.exit ?_
   have hm := hk_295 _ (forL_end hm (ge_nat (by first | exact hc13 | simpa using hc13)))
   try dsimp only at hm
   refine hW8 _ _ _ _ ?_ (hcut8 out_217 hm)
   exact fse4
  have hlt13 := lt_nat (by first | exact hc13 | simpa using hc13)
  have hw13 := wrap_succ hlt13 hl_298
  obtain ⟨s_299, nx_296, hxs_299, hys_299, hnx_296, hm⟩ := forL_step hm hlt13
  replace hxs_299 := hxs_299 ecS
  refine Wp.skip ?_
  simp only [thenQ]
  refine hK13 _ _ ?_
  refine Wp.seqW fun K14 hK14 hW14 => ?_
  obtain ⟨k_337, hk_337, hm⟩ := jp_elim hm
  have hcut14 : ∀ s, k_337 s = some z → K14 [(7, .mp 0), (8, .mp 1), (11, .p (.l (List.map enc_api_Had r_55))), (12, .p (.s s)), (66, .p (.l (List.map ecS r_216))), (67, .p (.i .i64 (r_216.length : Int))), (68, .p (.i .i64 (i_297 : Int)))] [.mp false (encM Dt.s ecI_i64 m0_51), .mp false (encM Dt.s ecI_i64 m1_52)] := by
   intro out_336 hs
   have hm := hk_337 _ hs
   clear hs
   try dsimp only at hm
   try dsimp only
   refine hK14 _ _ ?_
   refine Wp.region fun K15 hK15 => ?_
   simp only [go_sem, simprocAttr, hw13, hxs_299]
   first | apply hK15 | refine ⟨sd, hK15 _ _ ?_⟩
   simp only [thenQ, blockQ, ↓reduceIte]
   refine ⟨out_336, hlt13, hnx_296 _ hm, ?_⟩
   simp only [go_sem, simprocAttr, hw13, hxs_299]
   try exact se4
  clear hK14 hk_337
  refine Wp.block ?_
  refine Wp.seqR fun K16 hK16 => ?_
  simp only [go_sem, simprocAttr, hw13, hxs_299]
  first | apply hK16 | refine ⟨sd, hK16 _ _ ?_⟩
  refine Wp.seqR fun K17 hK17 => ?_
  simp only [go_sem, simprocAttr, hw13, hxs_299]
  first | apply hK17 | refine ⟨sd, hK17 _ _ ?_⟩
  refine Wp.seqW fun K18 hK18 hW18 => ?_
  obtain ⟨k_349, hk_349, hm⟩ := jp_elim hm
  have hcut18 : ∀ s, k_349 s = some z → K18 [(7, .mp 0), (8, .mp 1), (11, .p (.l (List.map enc_api_Had r_55))), (12, .p (.s out_217)), (14, .p (.s s_299)), (15, .p (.s s)), (66, .p (.l (List.map ecS r_216))), (67, .p (.i .i64 (r_216.length : Int))), (68, .p (.i .i64 (i_297 : Int)))] [.mp false (encM Dt.s ecI_i64 m0_51), .mp false (encM Dt.s ecI_i64 m1_52)] := by
   intro v_348 hs
   have hm := hk_349 _ hs
   clear hs
   try dsimp only at hm
   try dsimp only
   refine hK18 _ _ ?_
   obtain ⟨c_350, hm⟩ := chk_elim hm
   obtain ⟨q_351, hq_352, hm⟩ := letv_elim hm
   have hq_352d := mlookD_enc (e := ecI_i64) keq_s m0_51 s_299 0
   have hq_352s := mlook_some (e := ecI_i64) keq_s m0_51 s_299
   simp only [hq_352, ecI_i64, List.map_nil] at hq_352d hq_352s
   obtain ⟨r_353, hr_353, hm⟩ := call_elim hm
   obtain ⟨c_354, hm⟩ := chk_elim hm
   obtain ⟨c_355, hm⟩ := chk_elim hm
   obtain ⟨q_356, hq_357, hm⟩ := letv_elim hm
   have hq_357d := mlookD_enc (e := ecI_i64) keq_s m1_52 s_299 0
   have hq_357s := mlook_some (e := ecI_i64) keq_s m1_52 s_299
   simp only [hq_357, ecI_i64, List.map_nil] at hq_357d hq_357s
   obtain ⟨r_358, hr_358, hm⟩ := call_elim hm
   obtain ⟨c_359, hm⟩ := chk_elim hm
   obtain ⟨c_360, hm⟩ := chk_elim hm
   obtain ⟨c_361, hm⟩ := chk_elim hm
   obtain ⟨c_362, hm⟩ := chk_elim hm
   obtain ⟨c_363, hm⟩ := chk_elim hm
   refine Wp.regD (plan := pl [(0, none), (1, none), (2, none), (3, none), (4, none), (5, none), (6, none), (7, none), (8, none), (9, none), (10, none), (11, none), (12, none), (13, none), (14, none), (15, none), (16, none), (17, none), (18, none), (19, none)]) (by kernel_rfl) rfl (by kernel_rfl) fun K19 hK19 => ?_
   simp only [go_sem, simprocAttr, hw13, hxs_299, hq_352d, hq_352s, hq_357d, hq_357s]
   try refine ⟨by first | exact sd | ((repeat' apply And.intro) <;> first | assumption | omega | (simp only [List.length_append, List.length_map, List.length_cons, List.length_nil, List.length_set, List.length_replicate] at c_350 c_354 c_355 c_359 c_360 c_361 c_362 c_363 ⊢; omega)), ?_⟩
   refine Dr.callF (av := ?av20) (g := true) (o := ?o20) (fun hg => ok_strconv_Itoa (q_351.getD 0) _ hr_353) (by simp only [go_sem, simprocAttr, hw13, hxs_299, hq_352d, hq_352s, hq_357d, hq_357s]; exact Is.mk) (by simp only [go_sem, simprocAttr, hw13, hxs_299, hq_352d, hq_352s, hq_357d, hq_357s]; exact Is.mk) (by simp only [go_sem, simprocAttr, hw13, hxs_299, hq_352d, hq_352s, hq_357d, hq_357s]; exact Is.mk) (by simp only [go_sem, simprocAttr, hw13, hxs_299, hq_352d, hq_352s, hq_357d, hq_357s]; exact Is.mk) (by simp only [go_sem, simprocAttr, hw13, hxs_299, hq_352d, hq_352s, hq_357d, hq_357s]) (by simp only [go_sem, simprocAttr, hw13, hxs_299, hq_352d, hq_352s, hq_357d, hq_357s]; exact Is.mk) ?cont20
   simp only [go_sem, simprocAttr, hw13, hxs_299, hq_352d, hq_352s, hq_357d, hq_357s]
   try refine ⟨by first | exact sd | ((repeat' apply And.intro) <;> first | assumption | omega | (simp only [List.length_append, List.length_map, List.length_cons, List.length_nil, List.length_set, List.length_replicate] at c_350 c_354 c_355 c_359 c_360 c_361 c_362 c_363 ⊢; omega)), ?_⟩
   refine Dr.callF (av := ?av21) (g := true) (o := ?o21) (fun hg => ok_strconv_Itoa (q_356.getD 0) _ hr_358) (by simp only [go_sem, simprocAttr, hw13, hxs_299, hq_352d, hq_352s, hq_357d, hq_357s]; exact Is.mk) (by simp only [go_sem, simprocAttr, hw13, hxs_299, hq_352d, hq_352s, hq_357d, hq_357s]; exact Is.mk) (by simp only [go_sem, simprocAttr, hw13, hxs_299, hq_352d, hq_352s, hq_357d, hq_357s]; exact Is.mk) (by simp only [go_sem, simprocAttr, hw13, hxs_299, hq_352d, hq_352s, hq_357d, hq_357s]; exact Is.mk) (by simp only [go_sem, simprocAttr, hw13, hxs_299, hq_352d, hq_352s, hq_357d, hq_357s]) (by simp only [go_sem, simprocAttr, hw13, hxs_299, hq_352d, hq_352s, hq_357d, hq_357s]; exact Is.mk) ?cont21
   simp only [go_sem, simprocAttr, hw13, hxs_299, hq_352d, hq_352s, hq_357d, hq_357s]
   first | apply hK19 | refine ⟨by first | exact sd | ((repeat' apply And.intro) <;> first | assumption | omega | (simp only [List.length_append, List.length_map, List.length_cons, List.length_nil, List.length_set, List.length_replicate] at c_350 c_354 c_355 c_359 c_360 c_361 c_362 c_363 ⊢; omega)), hK19 _ _ ?_⟩
   refine hW14 _ _ _ _ ?_ (hcut14 (out_217 ++ (((((((s_299 ++ ([58, 32] : Str)) ++ r_353) ++ ([32, 100, 111, 110, 101, 44, 32] : Str)) ++ r_358) ++ ([32, 102, 97, 105, 108, 101, 100, 44, 32, 110, 111, 119, 32] : Str)) ++ v_348) ++ ([10] : Str))) hm)
   simp only [go_sem, simprocAttr, hw13, hxs_299]
   try exact se4
  clear hK18 hk_349
  refine Wp.seqR fun K22 hK22 => ?_
  simp only [go_sem, simprocAttr, hw13, hxs_299]
  first | apply hK22 | refine ⟨sd, hK22 _ _ ?_⟩
  refine Wp.block ?_
  obtain ⟨k_368, hk_368, hm⟩ := forL_cont hm
  refine Wp.fact 11 fun hl_371 => ?_
  replace hl_371 : r_55.length ≤ 274877906944 := by
   simp only [go_sem, simprocAttr, List.length_map] at hl_371
   omega
  refine Wp.forL (fun i_370 s => [(7, .mp 0), (8, .mp 1), (11, .p (.l (List.map enc_api_Had r_55))), (12, .p (.s out_217)), (14, .p (.s s_299)), (15, .p (.s s)), (66, .p (.l (List.map ecS r_216))), (67, .p (.i .i64 (r_216.length : Int))), (68, .p (.i .i64 (i_297 : Int))), (72, .p (.l (List.map enc_api_Had r_55))), (73, .p (.i .i64 (r_55.length : Int))), (74, .p (.i .i64 (i_370 : Int)))]) (fun i_370 s => [.mp false (encM Dt.s ecI_i64 m0_51), .mp false (encM Dt.s ecI_i64 m1_52)]) ?_ hm ?_
  ·
   simp only [go_sem, simprocAttr, hw13, hxs_299]
   try exact se4
  clear hm
  intro i_370 v_364 hii_370 hm
  try dsimp only at hm
  try dsimp only
  refine Wp.seqR fun K23 hK23 => ?_
  simp only [go_sem, simprocAttr, hw13, hxs_299]
  first | apply hK23 | refine ⟨sd, hK23 _ _ ?_⟩
  refine Wp.seqW fun K24 hK24 hW24 => ?_
  refine Wp.cond rfl ⟨⟩ (fun hc24 => ?_) (fun hc24 => ?_)
  rotate_left
  ·refine Wp.exit ?_
   have hm := hk_368 _ (forL_end hm (ge_nat (by first | exact hc24 | simpa using hc24)))
   try dsimp only at hm
   refine hW18 _ _ _ _ ?_ (hcut18 v_364 hm)
   simp only [go_sem, simprocAttr, hw13, hxs_299]
   try exact se4
  have hlt24 := lt_nat (by first | exact hc24 | simpa using hc24)
  have hw24 := wrap_succ hlt24 hl_371
  obtain ⟨h_372, nx_369, hxh_372, hyh_372, hnx_369, hm⟩ := forL_step hm hlt24
  replace hxh_372 := hxh_372 enc_api_Had
  refine Wp.skip ?_
  simp only [thenQ]
  refine hK24 _ _ ?_
  refine Wp.seqW fun K25 hK25 hW25 => ?_
  refine Wp.block ?_
  refine Wp.seqR fun K26 hK26 => ?_
  simp only [go_sem, simprocAttr, hw13, hxs_299, hw24, hxh_372]
  first | apply hK26 | refine ⟨sd, hK26 _ _ ?_⟩
  refine Wp.seqR fun K27 hK27 => ?_
  simp only [go_sem, simprocAttr, hw13, hxs_299, hw24, hxh_372]
  first | apply hK27 | refine ⟨sd, hK27 _ _ ?_⟩
  refine cM hm (fun hc28 hm => ?_) (fun hc28 hm => ?_)
  ·obtain ⟨r_373, hr_373, hm⟩ := call_elim hm
   refine Wp.region fun K29 hK29 => ?_
   simp only [go_sem, simprocAttr, hw13, hxs_299, hw24, hxh_372]
   try refine ⟨sd, ?_⟩
   refine Rg.callX (av := ?av30) (g := true) (fun hg => ok_R_VersionText h_372.Version _ hr_373) (by simp only [go_sem, simprocAttr, hw13, hxs_299, hw24, hxh_372]; exact Is.mk) (by simp only [go_sem, simprocAttr, hw13, hxs_299, hw24, hxh_372]; exact Is.mk) (by simp only [go_sem, simprocAttr, hw13, hxs_299, hw24, hxh_372]; exact Is.mk) (by simp only [go_sem, simprocAttr, hw13, hxs_299, hw24, hxh_372]) (by simp only [go_sem, simprocAttr, hw13, hxs_299, hw24, hxh_372]; exact Is.mk) ?cont30
   intro hv30
   simp only [go_sem, simprocAttr, hw13, hxs_299, hw24, hxh_372]
   first | apply hK29 | refine ⟨sd, hK29 _ _ ?_⟩
   refine hK25 _ _ ?_
   refine Wp.region fun K31 hK31 => ?_
   simp only [go_sem, simprocAttr, hw13, hxs_299, hw24, hxh_372]
   first | apply hK31 | refine ⟨sd, hK31 _ _ ?_⟩
   simp only [thenQ, blockQ, ↓reduceIte]
   refine ⟨r_373, hlt24, hnx_369 _ hm, ?_⟩
   simp only [go_sem, simprocAttr, hw13, hxs_299, hw24, hxh_372]
   try exact se4
  ·refine Wp.skip ?_
   refine hK25 _ _ ?_
   refine Wp.region fun K32 hK32 => ?_
   simp only [go_sem, simprocAttr, hw13, hxs_299, hw24, hxh_372]
   first | apply hK32 | refine ⟨sd, hK32 _ _ ?_⟩
   simp only [thenQ, blockQ, ↓reduceIte]
   refine ⟨v_364, hlt24, hnx_369 _ hm, ?_⟩
   simp only [go_sem, simprocAttr, hw13, hxs_299, hw24, hxh_372]
   try exact se4
 clear hK3 hk_53
 refine qS ?_
 refine Wp.block ?_
 obtain ⟨k_404, hk_404, hm⟩ := forL_cont hm
 refine Wp.fact 0 fun hl_407 => ?_
 replace hl_407 : l_1.length ≤ 274877906944 := by
  simp only [go_sem, simprocAttr, List.length_map] at hl_407
  omega
 refine Wp.forL (fun i_406 s => [(0, .p (.l (List.map enc_api_Record l_1))), (1, .p (.i .i64 from_2)), (2, .p (.i .i64 to_3)), (7, .mp 0), (8, .mp 1), (20, .p (.l (List.map enc_api_Record l_1))), (21, .p (.i .i64 (l_1.length : Int))), (22, .p (.i .i64 (i_406 : Int)))]) (fun i_406 s => [.mp false (encM Dt.s ecI_i64 s.1), .mp false (encM Dt.s ecI_i64 s.2)]) ?_ hm ?_
 ·
  exact fse4
 clear hm
 intro i_406 s hii_406 hm
 obtain ⟨m0_389, m1_390⟩ := s
 try dsimp only at hm
 try dsimp only
 refine qS ?_
 refine Wp.seqW fun K35 hK35 hW35 => ?_
 refine Wp.cond rfl ⟨⟩ (fun hc35 => ?_) (fun hc35 => ?_)
 rotate_left
 ·refine Wp.exit ?_
  have hm := hk_404 _ (forL_end hm (ge_nat (by first | exact hc35 | simpa using hc35)))
  try dsimp only at hm
  refine hW3 _ _ _ _ ?_ (hcut3 (m0_389, m1_390) hm)
  exact fse4
 have hlt35 := lt_nat (by first | exact hc35 | simpa using hc35)
 have hw35 := wrap_succ hlt35 hl_407
 obtain ⟨r_408, nx_405, hxr_408, hyr_408, hnx_405, hm⟩ := forL_step hm hlt35
 replace hxr_408 := hxr_408 enc_api_Record
 refine Wp.skip ?_
 simp only [thenQ]
 refine hK35 _ _ ?_
 refine Wp.seqW fun K36 hK36 hW36 => ?_
 refine Wp.block ?_
 refine Wp.seqR fun K37 hK37 => ?_
 simp only [go_sem, simprocAttr, hw35, hxr_408]
 first | apply hK37 | refine ⟨sd, hK37 _ _ ?_⟩
 refine Wp.seqW fun K38 hK38 hW38 => ?_
 refine Wp.seqR fun K39 hK39 => ?_
 simp only [go_sem, simprocAttr, hw35, hxr_408]
 first | apply hK39 | refine ⟨sd, hK39 _ _ ?_⟩
 refine cM hm (fun hc40 hm => ?_) (fun hc40 hm => ?_)
 ·refine Wp.exit ?_
  refine hK36 _ _ ?_
  refine Wp.region fun K41 hK41 => ?_
  simp only [go_sem, simprocAttr, hw35, hxr_408]
  first | apply hK41 | refine ⟨sd, hK41 _ _ ?_⟩
  simp only [thenQ, blockQ, ↓reduceIte]
  refine ⟨(m0_389, m1_390), hlt35, hnx_405 _ hm, ?_⟩
  simp only [go_sem, simprocAttr, hw35, hxr_408]
  try exact se4
 ·refine Wp.skip ?_
  refine hK38 _ _ ?_
  obtain ⟨q_409, hq_410, hm⟩ := letv_elim hm
  have hq_410d := mlookD_enc (e := ecI_i64) keq_s m0_389 r_408.Pack 0
  have hq_410s := mlook_some (e := ecI_i64) keq_s m0_389 r_408.Pack
  simp only [hq_410, ecI_i64, List.map_nil] at hq_410d hq_410s
  obtain ⟨c_412, hm⟩ := chk_elim hm
  have hp_411 := mset_enc (e := ecI_i64) keq_s m0_389 r_408.Pack (IntKind.i64.wrap ((q_409.getD 0) + 0))
  simp only [ecI_i64] at hp_411
  refine Wp.seqR fun K42 hK42 => ?_
  simp only [go_sem, simprocAttr, hw35, hxr_408, hq_410d, hq_410s, hp_411]
  first | apply hK42 | refine ⟨by first | exact sd | ((repeat' apply And.intro) <;> first | assumption | omega | (simp only [List.length_append, List.length_map, List.length_cons, List.length_nil, List.length_set, List.length_replicate] at c_412 ⊢; omega)), hK42 _ _ ?_⟩
  refine Wp.block ?_
  refine Wp.seqR fun K43 hK43 => ?_
  simp only [go_sem, simprocAttr, hw35, hxr_408]
  first | apply hK43 | refine ⟨sd, hK43 _ _ ?_⟩
  refine cM hm (fun hc44 hm => ?_) (fun hc44 hm => ?_)
  ·refine Wp.skip ?_
   refine hK36 _ _ ?_
   refine Wp.region fun K45 hK45 => ?_
   simp only [go_sem, simprocAttr, hw35, hxr_408]
   first | apply hK45 | refine ⟨sd, hK45 _ _ ?_⟩
   simp only [thenQ, blockQ, ↓reduceIte]
   refine ⟨(aset m0_389 r_408.Pack (IntKind.i64.wrap ((q_409.getD 0) + 0)), m1_390), hlt35, hnx_405 _ hm, ?_⟩
   simp only [go_sem, simprocAttr, hw35, hxr_408]
   try exact se4
  ·refine Wp.seqR fun K46 hK46 => ?_
   simp only [go_sem, simprocAttr, hw35, hxr_408]
   first | apply hK46 | refine ⟨sd, hK46 _ _ ?_⟩
   refine cM hm (fun hc47 hm => ?_) (fun hc47 hm => ?_)
   ·obtain ⟨q_413, hq_414, hm⟩ := letv_elim hm
    have hq_414d := mlookD_enc (e := ecI_i64) keq_s (aset m0_389 r_408.Pack (IntKind.i64.wrap ((q_409.getD 0) + 0))) r_408.Pack 0
    have hq_414s := mlook_some (e := ecI_i64) keq_s (aset m0_389 r_408.Pack (IntKind.i64.wrap ((q_409.getD 0) + 0))) r_408.Pack
    simp only [hq_414, ecI_i64, List.map_nil] at hq_414d hq_414s
    obtain ⟨c_416, hm⟩ := chk_elim hm
    have hp_415 := mset_enc (e := ecI_i64) keq_s (aset m0_389 r_408.Pack (IntKind.i64.wrap ((q_409.getD 0) + 0))) r_408.Pack (IntKind.i64.wrap ((q_413.getD 0) + 1))
    simp only [ecI_i64] at hp_415
    refine Wp.region fun K48 hK48 => ?_
    simp only [go_sem, simprocAttr, hw35, hxr_408, hq_414d, hq_414s, hp_415]
    first | apply hK48 | refine ⟨by first | exact sd | ((repeat' apply And.intro) <;> first | assumption | omega | (simp only [List.length_append, List.length_map, List.length_cons, List.length_nil, List.length_set, List.length_replicate] at c_416 ⊢; omega)), hK48 _ _ ?_⟩
    refine hK36 _ _ ?_
    refine Wp.region fun K49 hK49 => ?_
    simp only [go_sem, simprocAttr, hw35, hxr_408]
    first | apply hK49 | refine ⟨sd, hK49 _ _ ?_⟩
    simp only [thenQ, blockQ, ↓reduceIte]
    refine ⟨(aset (aset m0_389 r_408.Pack (IntKind.i64.wrap ((q_409.getD 0) + 0))) r_408.Pack (IntKind.i64.wrap ((q_413.getD 0) + 1)), m1_390), hlt35, hnx_405 _ hm, ?_⟩
    simp only [go_sem, simprocAttr, hw35, hxr_408]
    try exact se4
   ·obtain ⟨q_417, hq_418, hm⟩ := letv_elim hm
    have hq_418d := mlookD_enc (e := ecI_i64) keq_s m1_390 r_408.Pack 0
    have hq_418s := mlook_some (e := ecI_i64) keq_s m1_390 r_408.Pack
    simp only [hq_418, ecI_i64, List.map_nil] at hq_418d hq_418s
    obtain ⟨c_420, hm⟩ := chk_elim hm
    have hp_419 := mset_enc (e := ecI_i64) keq_s m1_390 r_408.Pack (IntKind.i64.wrap ((q_417.getD 0) + 1))
    simp only [ecI_i64] at hp_419
    refine Wp.region fun K50 hK50 => ?_
    simp only [go_sem, simprocAttr, hw35, hxr_408, hq_418d, hq_418s, hp_419]
    first | apply hK50 | refine ⟨by first | exact sd | ((repeat' apply And.intro) <;> first | assumption | omega | (simp only [List.length_append, List.length_map, List.length_cons, List.length_nil, List.length_set, List.length_replicate] at c_420 ⊢; omega)), hK50 _ _ ?_⟩
    refine hK36 _ _ ?_
    refine Wp.region fun K51 hK51 => ?_
    simp only [go_sem, simprocAttr, hw35, hxr_408]
    first | apply hK51 | refine ⟨sd, hK51 _ _ ?_⟩
    simp only [thenQ, blockQ, ↓reduceIte]
    refine ⟨(aset m0_389 r_408.Pack (IntKind.i64.wrap ((q_409.getD 0) + 0)), aset m1_390 r_408.Pack (IntKind.i64.wrap ((q_417.getD 0) + 1))), hlt35, hnx_405 _ hm, ?_⟩
    simp only [go_sem, simprocAttr, hw35, hxr_408]
    try exact se4
theorem ok_Law_ReportsMatch (l_1 : List api_Record) (raw_2 : Bool) (from_3 : Int) (to_4 : Int) (z : Bool) (hm : Law_ReportsMatch l_1 raw_2 from_3 to_4 = some z) : Does Tryz.prog 5 [.p (.l (List.map enc_api_Record l_1)), .p (.b raw_2), .p (.i .i64 from_3), .p (.i .i64 to_4)] [] (fun r X => r = .p (.b z) ∧ X = []) := by
 unfold Law_ReportsMatch at hm
 refine Does.of_wp 0 67 [.tmp 8] Tryz.func5 rfl (by decide) rfl rfl (Nat.le_of_ble_eq_true rfl) fun B => ?_
 refine qS ?_
 refine Wp.seqW fun K2 hK2 hW2 => ?_
 obtain ⟨r_5, hr_5, hm⟩ := call_elim hm
 refine Wp.seqR fun K3 hK3 => ?_
 simp only [go_sem, simprocAttr]
 try refine ⟨sd, ?_⟩
 refine Rg.callX (av := ?av4) (g := true) (fun hg => ok_Law_landed  _ hr_5) si si si sg si ?cont4
 intro hv4
 simp only [go_sem, simprocAttr]
 first | apply hK3 | refine ⟨sd, hK3 _ _ ?_⟩
 refine cM hm (fun hc5 hm => ?_) (fun hc5 hm => ?_)
 ·refine qS ?_
  refine Wp.ret ?_
  refine retQ_ret ?_
  cases hm
  exact fse3
 ·refine Wp.skip ?_
  refine hK2 _ _ ?_
  obtain ⟨r_6, hr_6, hm⟩ := call_elim hm
  refine Wp.seqR fun K7 hK7 => ?_
  simp only [go_sem, simprocAttr]
  try refine ⟨sd, ?_⟩
  refine Rg.callF (av := ?av8) (ok_Law_could l_1 raw_2 _ hr_6) si si sg ?cont8
  intro hv8
  simp only [go_sem, simprocAttr]
  first | apply hK7 | refine ⟨sd, hK7 _ _ ?_⟩
  obtain ⟨r_7, hr_7, hm⟩ := call_elim hm
  refine Wp.seqR fun K9 hK9 => ?_
  simp only [go_sem, simprocAttr]
  try refine ⟨sd, ?_⟩
  refine Rg.callX (av := ?av10) (g := true) (fun hg => ok_log_Report r_6 from_3 to_4 _ hr_7) si si si sg si ?cont10
  intro hv10
  simp only [go_sem, simprocAttr]
  first | apply hK9 | refine ⟨sd, hK9 _ _ ?_⟩
  obtain ⟨r_8, hr_8, hm⟩ := call_elim hm
  refine Wp.seqR fun K11 hK11 => ?_
  simp only [go_sem, simprocAttr]
  try refine ⟨sd, ?_⟩
  refine Rg.callX (av := ?av12) (g := true) (fun hg => ok_R_RecordsError r_6 _ hr_8) si si si sg si ?cont12
  intro hv12
  simp only [go_sem, simprocAttr]
  first | apply hK11 | refine ⟨sd, hK11 _ _ ?_⟩
  refine Wp.seqW fun K13 hK13 hW13 => ?_
  obtain ⟨k_12, hk_12, hm⟩ := jp_elim hm
  have hcut13 : ∀ s, k_12 s = some z → K13 [(0, .p (.l (List.map enc_api_Record r_6))), (2, .p (.i .i64 from_3)), (3, .p (.i .i64 to_4)), (9, .p (.s r_7.1)), (10, .p (.i .i64 r_7.2)), (11, .p (.i .i64 s))] [] := by
   intro f_11 hs
   have hm := hk_12 _ hs
   clear hs
   try dsimp only at hm
   try dsimp only
   refine hK13 _ _ ?_
   refine Wp.seqW fun K14 hK14 hW14 => ?_
   refine qS ?_
   refine cM hm (fun hc16 hm => ?_) (fun hc16 hm => ?_)
   ·refine qS ?_
    refine Wp.ret ?_
    refine retQ_ret ?_
    cases hm
    exact fse4
   ·refine Wp.skip ?_
    refine hK14 _ _ ?_
    obtain ⟨r_13, hr_13, hm⟩ := callG_elim hm
    refine Wp.seqR fun K18 hK18 => ?_
    simp only [go_sem, simprocAttr]
    try refine ⟨sd, ?_⟩
    refine Rg.callX (av := ?av19) (g := decide (r_7.2 = 0)) (fun hg => ok_R_ReportOf r_6 from_3 to_4 _ (hr_13 hg)) si si si sg si ?cont19
    intro hv19
    simp only [go_sem, simprocAttr]
    first | apply hK18 | refine ⟨sd, hK18 _ _ ?_⟩
    refine Wp.ret ?_
    refine retQ_ret ?_
    cases hm
    exact fse4
  clear hK13 hk_12
  refine Wp.block ?_
  refine qS ?_
  refine cM hm (fun hc21 hm => ?_) (fun hc21 hm => ?_)
  ·refine Wp.skip ?_
   refine hW13 _ _ _ _ ?_ (hcut13 r_8 hm)
   exact fse4
  ·obtain ⟨v_14, hv_15, hm⟩ := letv_elim hm
   refine Wp.seqR fun K22 hK22 => ?_
   simp only [go_sem, simprocAttr, hv_15]
   first | apply hK22 | refine ⟨sd, hK22 _ _ ?_⟩
   refine cM hm (fun hc23 hm => ?_) (fun hc23 hm => ?_)
   ·refine Wp.region fun K24 hK24 => ?_
    simp only [go_sem, simprocAttr, hv_15]
    first | apply hK24 | refine ⟨sd, hK24 _ _ ?_⟩
    refine hW13 _ _ _ _ ?_ (hcut13 3 hm)
    simp only [go_sem, simprocAttr, hv_15]
    try exact se4
   ·refine Wp.seqR fun K25 hK25 => ?_
    simp only [go_sem, simprocAttr, hv_15]
    first | apply hK25 | refine ⟨sd, hK25 _ _ ?_⟩
    refine cM hm (fun hc26 hm => ?_) (fun hc26 hm => ?_)
    ·refine Wp.region fun K27 hK27 => ?_
     simp only [go_sem, simprocAttr, hv_15]
     first | apply hK27 | refine ⟨sd, hK27 _ _ ?_⟩
     refine hW13 _ _ _ _ ?_ (hcut13 7 hm)
     simp only [go_sem, simprocAttr, hv_15]
     try exact se4
    ·refine Wp.skip ?_
     refine hW13 _ _ _ _ ?_ (hcut13 r_8 hm)
     simp only [go_sem, simprocAttr, hv_15]
     try exact se4
end Go.Proofs.YthmjpfooffbhhaaGreatDoor
