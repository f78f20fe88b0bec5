/- That the code does what the models say (part 4). -/
import Derived.Test.YtoieghljolfkaaaWmWk0
import Derived.Test.YtoieghljolfkaaaWmWk1
import Derived.Test.YtoieghljolfkaaaWmWk2
import Derived.Test.YtoieghljolfkaaaWmWk3
set_option linter.unusedSimpArgs false
set_option linter.unusedVariables false
namespace Go.Proofs.Ytoieghljolfkaaa
open Go.Vc Go.Md
set_option maxRecDepth 100000
set_option maxHeartbeats 4000000
theorem ok_R_Best (l_1 : List api_Way) (sizes_2 : List Int) (from_3 : Int) (to_4 : Int) (z : List Int × Int × Int) (hm : R_Best l_1 sizes_2 from_3 to_4 = some z) : Does Try.prog 16 [.p (.l (List.map enc_api_Way l_1)), .p (.l (List.map ecI_i64 sizes_2)), .p (.i .i64 from_3), .p (.i .i64 to_4)] [] (fun r X => r = .tup [.p (.l (List.map ecI_i64 z.1)), .p (.i .i64 z.2.1), .p (.i .i64 z.2.2)] ∧ X = []) := by
 unfold R_Best at hm
 refine Does.of_wp 0 93 [.tmp 8, .tmp 9, .tmp 10] Try.func16 rfl (by decide) rfl rfl (Nat.le_of_ble_eq_true rfl) fun B => ?_
 refine qS ?_
 refine qS ?_
 refine Wp.seqW fun K3 hK3 hW3 => ?_
 refine qS ?_
 refine cM hm (fun hc5 hm => ?_) (fun hc5 hm => ?_)
 ·refine qS ?_
  refine Wp.ret ?_
  simp only [thenQ, blockQ]
  refine retQ_retE ?_
  cases hm
  exact fse4
 ·refine Wp.skip ?_
  refine hK3 _ _ ?_
  obtain ⟨c_6, hm⟩ := chk_elim hm
  have hp_5 : mset ([] : List (Dt × List Dt)) _ _ = _ := mset_enc (e := enc_outref1_route) (keq_i .i64) [] from_3 (outref1_route.mk 0 [])
  simp only [enc_outref1_route, List.map_nil] at hp_5
  refine Wp.seqR fun K7 hK7 => ?_
  simp only [go_sem, simprocAttr, hp_5]
  first | apply hK7 | refine ⟨by first | exact sd | ((repeat' apply And.intro) <;> first | assumption | omega | (simp only [List.length_append, List.length_map, List.length_cons, List.length_nil, List.length_set, List.length_replicate] at c_6 ⊢; omega)), hK7 _ _ ?_⟩
  refine Wp.seqW fun K8 hK8 hW8 => ?_
  obtain ⟨k_1779, hk_1779, hm⟩ := jp_elim hm
  have hcut8 : ∀ s, k_1779 s = some z → K8 [(3, .p (.i .i64 to_4)), (12, .ptr 1 0)] [.mp true (encM (Dt.i .i64) enc_outref1_route s), .cells 82 [.mp 0]] := by
   intro m0_1778 hs
   have hm := hk_1779 _ hs
   clear hs
   try dsimp only at hm
   try dsimp only
   refine hK8 _ _ ?_
   obtain ⟨q_1780, hq_1781, hm⟩ := letv_elim hm
   have hq_1781d := mlookD_enc (e := enc_outref1_route) (keq_i .i64) m0_1778 to_4 (outref1_route.mk 0 [])
   have hq_1781s := mlook_some (e := enc_outref1_route) (keq_i .i64) m0_1778 to_4
   simp only [hq_1781, enc_outref1_route, List.map_nil] at hq_1781d hq_1781s
   refine Wp.seqD (plan := pl [(0, none), (1, none), (2, none), (3, none), (4, none), (5, none), (6, none), (7, none), (8, none), (9, none), (10, none)]) (by kernel_rfl) rfl (by kernel_rfl) fun K9 hK9 => ?_
   simp only [go_sem, simprocAttr, hq_1781d, hq_1781s]
   first | apply hK9 | refine ⟨sd, hK9 _ _ ?_⟩
   refine Wp.ret ?_
   refine retQ_ret ?_
   cases hm
   exact fse5
  clear hK8 hk_1779
  refine qS ?_
  refine Wp.block ?_
  obtain ⟨k_2962, hk_2962, hm⟩ := loopN_cont hm
  refine Wp.loopNS 2 3 (by exact Nat.le_of_ble_eq_true rfl) (by exact Nat.le_of_ble_eq_true rfl) (fun s => [(0, .p (.l (List.map enc_api_Way l_1))), (1, .p (.l (List.map ecI_i64 sizes_2))), (3, .p (.i .i64 to_4)), (11, .p (.i .i64 (sizes_2.length : Int))), (12, .ptr 1 0), (13, .ptr 2 0)]) (fun s => [.mp true (encM (Dt.i .i64) enc_outref1_route s.1), .cells 82 [.mp 0], .cells 4 [.p (.b s.2)]]) ?_ hm ?_
  ·
   exact fse5
  clear hm
  intro s nx_2963 hm
  obtain ⟨m0_2371, o2_0_2372⟩ := s
  try dsimp only at hm
  try dsimp only
  refine Wp.seqW fun K11 hK11 hW11 => ?_
  refine qS ?_
  refine cM hm (fun hc13 hm => ?_) (fun hc13 hm => ?_)
  ·refine Wp.skip ?_
   refine hK11 _ _ ?_
   refine Wp.seqW fun K14 hK14 hW14 => ?_
   obtain ⟨k_3259, hk_3259, hm⟩ := jp_elim hm
   have hcut14 : ∀ s, k_3259 s = some z → K14 [(0, .p (.l (List.map enc_api_Way l_1))), (1, .p (.l (List.map ecI_i64 sizes_2))), (3, .p (.i .i64 to_4)), (11, .p (.i .i64 (sizes_2.length : Int))), (12, .ptr 1 0), (13, .ptr 2 0)] [.mp true (encM (Dt.i .i64) enc_outref1_route s.1), .cells 82 [.mp 0], .cells 4 [.p (.b s.2)]] := by
    intro s hs
    have hm := hk_3259 _ hs
    clear hs
    obtain ⟨m0_3257, o2_0_3258⟩ := s
    try dsimp only at hm
    try dsimp only
    refine hK14 _ _ ?_
    refine qS ?_
    refine qR ?_
    simp only [thenQ, blockQ, ↓reduceIte]
    refine ⟨(m0_3257, o2_0_3258), hm, ⟨Nat.le_of_ble_eq_true rfl, Nat.le_of_ble_eq_true rfl⟩, ?_⟩
    exact fse5
   clear hK14 hk_3259
   refine Wp.block ?_
   refine qS ?_
   obtain ⟨r_3260, hr_3260, hm⟩ := call_elim hm
   refine Wp.seqR fun K18 hK18 => ?_
   simp only [go_sem, simprocAttr]
   try refine ⟨sd, ?_⟩
   refine Rg.callR (av := ?av19) (g := true) [0] (fun hg => ok_R_keysOf_i1 m0_2371 _ hr_3260) si si si si sg sg sg ?cont19
   simp only [go_sem, simprocAttr]
   first | apply hK18 | refine ⟨sd, hK18 _ _ ?_⟩
   refine Wp.block ?_
   obtain ⟨k_3455, hk_3455, hm⟩ := forL_cont hm
   refine Wp.fact 44 fun hl_3458 => ?_
   replace hl_3458 : r_3260.length ≤ 274877906944 := by
    simp only [go_sem, simprocAttr, List.length_map] at hl_3458
    omega
   refine Wp.forL (fun i_3457 s => [(0, .p (.l (List.map enc_api_Way l_1))), (1, .p (.l (List.map ecI_i64 sizes_2))), (3, .p (.i .i64 to_4)), (11, .p (.i .i64 (sizes_2.length : Int))), (12, .ptr 1 0), (13, .ptr 2 0), (44, .p (.l (List.map ecI_i64 r_3260))), (45, .p (.i .i64 (r_3260.length : Int))), (46, .p (.i .i64 (i_3457 : Int)))]) (fun i_3457 s => [.mp true (encM (Dt.i .i64) enc_outref1_route s.1), .cells 82 [.mp 0], .cells 4 [.p (.b s.2)]]) ?_ hm ?_
   ·
    exact fse5
   clear hm
   intro i_3457 s hii_3457 hm
   obtain ⟨m0_3358, o2_0_3359⟩ := s
   try dsimp only at hm
   try dsimp only
   refine qS ?_
   refine Wp.seqW fun K21 hK21 hW21 => ?_
   refine Wp.cond rfl ⟨⟩ (fun hc21 => ?_) (fun hc21 => ?_)
   rotate_left
   ·refine Wp.exit ?_
    have hm := hk_3455 _ (forL_end hm (ge_nat (by first | exact hc21 | simpa using hc21)))
    try dsimp only at hm
    refine hW14 _ _ _ _ ?_ (hcut14 (m0_3358, o2_0_3359) hm)
    exact fse5
   have hlt21 := lt_nat (by first | exact hc21 | simpa using hc21)
   have hw21 := wrap_succ hlt21 hl_3458
   obtain ⟨n_3459, nx_3456, hxn_3459, hyn_3459, hnx_3456, hm⟩ := forL_step hm hlt21
   replace hxn_3459 := hxn_3459 ecI_i64
   refine Wp.skip ?_
   simp only [thenQ]
   refine hK21 _ _ ?_
   refine Wp.seqW fun K22 hK22 hW22 => ?_
   obtain ⟨k_3507, hk_3507, hm⟩ := jp_elim hm
   have hcut22 : ∀ s, k_3507 s = some z → K22 [(0, .p (.l (List.map enc_api_Way l_1))), (1, .p (.l (List.map ecI_i64 sizes_2))), (3, .p (.i .i64 to_4)), (11, .p (.i .i64 (sizes_2.length : Int))), (12, .ptr 1 0), (13, .ptr 2 0), (44, .p (.l (List.map ecI_i64 r_3260))), (45, .p (.i .i64 (r_3260.length : Int))), (46, .p (.i .i64 (i_3457 : Int)))] [.mp true (encM (Dt.i .i64) enc_outref1_route s.1), .cells 82 [.mp 0], .cells 4 [.p (.b s.2)]] := by
    intro s hs
    have hm := hk_3507 _ hs
    clear hs
    obtain ⟨m0_3505, o2_0_3506⟩ := s
    try dsimp only at hm
    try dsimp only
    refine hK22 _ _ ?_
    refine Wp.region fun K23 hK23 => ?_
    simp only [go_sem, simprocAttr, hw21, hxn_3459]
    first | apply hK23 | refine ⟨sd, hK23 _ _ ?_⟩
    simp only [thenQ, blockQ, ↓reduceIte]
    refine ⟨(m0_3505, o2_0_3506), hlt21, hnx_3456 _ hm, ?_⟩
    simp only [go_sem, simprocAttr, hw21, hxn_3459]
    try exact se5
   clear hK22 hk_3507
   refine Wp.block ?_
   refine Wp.seqR fun K24 hK24 => ?_
   simp only [go_sem, simprocAttr, hw21, hxn_3459]
   first | apply hK24 | refine ⟨sd, hK24 _ _ ?_⟩
   refine Wp.seqR fun K25 hK25 => ?_
   simp only [go_sem, simprocAttr, hw21, hxn_3459]
   first | apply hK25 | refine ⟨sd, hK25 _ _ ?_⟩
   refine Wp.seqW fun K26 hK26 hW26 => ?_
   obtain ⟨k_3524, hk_3524, hm⟩ := jp_elim hm
   have hcut26 : ∀ s, k_3524 s = some z → K26 [(0, .p (.l (List.map enc_api_Way l_1))), (1, .p (.l (List.map ecI_i64 sizes_2))), (3, .p (.i .i64 to_4)), (11, .p (.i .i64 (sizes_2.length : Int))), (12, .ptr 1 0), (13, .ptr 2 0), (15, .ptr 3 0), (16, .fn 40 [.ptr 1 0, .ptr 3 0, .ptr 2 0]), (44, .p (.l (List.map ecI_i64 r_3260))), (45, .p (.i .i64 (r_3260.length : Int))), (46, .p (.i .i64 (i_3457 : Int)))] [.mp true (encM (Dt.i .i64) enc_outref1_route s.1), .cells 82 [.mp 0], .cells 4 [.p (.b s.2)], .cells 3 [.p (.i .i64 n_3459)]] := by
    intro s hs
    have hm := hk_3524 _ hs
    clear hs
    obtain ⟨m0_3522, o2_0_3523⟩ := s
    try dsimp only at hm
    try dsimp only
    refine hK26 _ _ ?_
    refine Wp.seqR fun K27 hK27 => ?_
    simp only [go_sem, simprocAttr, hw21, hxn_3459]
    first | apply hK27 | refine ⟨sd, hK27 _ _ ?_⟩
    refine Wp.block ?_
    obtain ⟨k_3533, hk_3533, hm⟩ := forL_cont hm
    refine Wp.fact 0 fun hl_3536 => ?_
    replace hl_3536 : l_1.length ≤ 274877906944 := by
     simp only [go_sem, simprocAttr, List.length_map] at hl_3536
     omega
    refine Wp.forL (fun i_3535 s => [(0, .p (.l (List.map enc_api_Way l_1))), (1, .p (.l (List.map ecI_i64 sizes_2))), (3, .p (.i .i64 to_4)), (11, .p (.i .i64 (sizes_2.length : Int))), (12, .ptr 1 0), (13, .ptr 2 0), (15, .ptr 3 0), (16, .fn 40 [.ptr 1 0, .ptr 3 0, .ptr 2 0]), (44, .p (.l (List.map ecI_i64 r_3260))), (45, .p (.i .i64 (r_3260.length : Int))), (46, .p (.i .i64 (i_3457 : Int))), (66, .p (.l (List.map enc_api_Way l_1))), (67, .p (.i .i64 (l_1.length : Int))), (68, .p (.i .i64 (i_3535 : Int)))]) (fun i_3535 s => [.mp true (encM (Dt.i .i64) enc_outref1_route s.1), .cells 82 [.mp 0], .cells 4 [.p (.b s.2)], .cells 3 [.p (.i .i64 n_3459)]]) ?_ hm ?_
    ·
     simp only [go_sem, simprocAttr, hw21, hxn_3459]
     try exact se5
    clear hm
    intro i_3535 s hii_3535 hm
    obtain ⟨m0_3529, o2_0_3530⟩ := s
    try dsimp only at hm
    try dsimp only
    refine Wp.seqR fun K28 hK28 => ?_
    simp only [go_sem, simprocAttr, hw21, hxn_3459]
    first | apply hK28 | refine ⟨sd, hK28 _ _ ?_⟩
    refine Wp.seqW fun K29 hK29 hW29 => ?_
    refine Wp.cond rfl ⟨⟩ (fun hc29 => ?_) (fun hc29 => ?_)
    rotate_left
    ·refine Wp.exit ?_
     have hm := hk_3533 _ (forL_end hm (ge_nat (by first | exact hc29 | simpa using hc29)))
     try dsimp only at hm
     refine hW22 _ _ _ _ ?_ (hcut22 (m0_3529, o2_0_3530) hm)
     simp only [go_sem, simprocAttr, hw21, hxn_3459]
     try exact se5
    have hlt29 := lt_nat (by first | exact hc29 | simpa using hc29)
    have hw29 := wrap_succ hlt29 hl_3536
    obtain ⟨w_3537, nx_3534, hxw_3537, hyw_3537, hnx_3534, hm⟩ := forL_step hm hlt29
    replace hxw_3537 := hxw_3537 enc_api_Way
    refine Wp.skip ?_
    simp only [thenQ]
    refine hK29 _ _ ?_
    refine Wp.seqW fun K30 hK30 hW30 => ?_
    refine Wp.block ?_
    refine Wp.seqR fun K31 hK31 => ?_
    simp only [go_sem, simprocAttr, hw21, hxn_3459, hw29, hxw_3537]
    first | apply hK31 | refine ⟨sd, hK31 _ _ ?_⟩
    refine Wp.seqR fun K32 hK32 => ?_
    simp only [go_sem, simprocAttr, hw21, hxn_3459, hw29, hxw_3537]
    first | apply hK32 | refine ⟨sd, hK32 _ _ ?_⟩
    refine cM hm (fun hc33 hm => ?_) (fun hc33 hm => ?_)
    ·obtain ⟨r_3538, hr_3538, hm⟩ := call_elim hm
     refine Wp.region fun K34 hK34 => ?_
     simp only [go_sem, simprocAttr, hw21, hxn_3459, hw29, hxw_3537]
     try refine ⟨sd, ?_⟩
     refine Rg.callO (av := ?av35) [1, 0, 3, 2] (ok_R_Best_1_i1 w_3537.To w_3537.Cost m0_3529 n_3459 o2_0_3530 _ hr_3538) (by simp only [go_sem, simprocAttr, hw21, hxn_3459, hw29, hxw_3537]; exact Is.mk) (by simp only [go_sem, simprocAttr, hw21, hxn_3459, hw29, hxw_3537]; exact Is.mk) (by simp only [go_sem, simprocAttr, hw21, hxn_3459, hw29, hxw_3537]; exact Is.mk) (by simp only [go_sem, simprocAttr, hw21, hxn_3459, hw29, hxw_3537]) (by simp only [go_sem, simprocAttr, hw21, hxn_3459, hw29, hxw_3537]) ?cont35
     rintro _ _ ⟨rfl, rfl⟩ hv35
     simp only [go_sem, simprocAttr, hw21, hxn_3459, hw29, hxw_3537]
     first | apply hK34 | refine ⟨sd, hK34 _ _ ?_⟩
     refine hK30 _ _ ?_
     refine Wp.region fun K36 hK36 => ?_
     simp only [go_sem, simprocAttr, hw21, hxn_3459, hw29, hxw_3537]
     first | apply hK36 | refine ⟨sd, hK36 _ _ ?_⟩
     simp only [thenQ, blockQ, ↓reduceIte]
     refine ⟨(r_3538.1, r_3538.2), hlt29, hnx_3534 _ hm, ?_⟩
     simp only [go_sem, simprocAttr, hw21, hxn_3459, hw29, hxw_3537]
     try exact se5
    ·refine Wp.skip ?_
     refine hK30 _ _ ?_
     refine Wp.region fun K37 hK37 => ?_
     simp only [go_sem, simprocAttr, hw21, hxn_3459, hw29, hxw_3537]
     first | apply hK37 | refine ⟨sd, hK37 _ _ ?_⟩
     simp only [thenQ, blockQ, ↓reduceIte]
     refine ⟨(m0_3529, o2_0_3530), hlt29, hnx_3534 _ hm, ?_⟩
     simp only [go_sem, simprocAttr, hw21, hxn_3459, hw29, hxw_3537]
     try exact se5
   clear hK26 hk_3524
   refine Wp.seqR fun K38 hK38 => ?_
   simp only [go_sem, simprocAttr, hw21, hxn_3459]
   first | apply hK38 | refine ⟨sd, hK38 _ _ ?_⟩
   refine Wp.block ?_
   obtain ⟨k_3547, hk_3547, hm⟩ := forL_cont hm
   refine Wp.fact 1 fun hl_3550 => ?_
   replace hl_3550 : sizes_2.length ≤ 274877906944 := by
    simp only [go_sem, simprocAttr, List.length_map] at hl_3550
    omega
   refine Wp.forL (fun i_3549 s => [(0, .p (.l (List.map enc_api_Way l_1))), (1, .p (.l (List.map ecI_i64 sizes_2))), (3, .p (.i .i64 to_4)), (11, .p (.i .i64 (sizes_2.length : Int))), (12, .ptr 1 0), (13, .ptr 2 0), (15, .ptr 3 0), (16, .fn 40 [.ptr 1 0, .ptr 3 0, .ptr 2 0]), (44, .p (.l (List.map ecI_i64 r_3260))), (45, .p (.i .i64 (r_3260.length : Int))), (46, .p (.i .i64 (i_3457 : Int))), (51, .p (.i .i64 (sizes_2.length : Int))), (52, .p (.i .i64 (i_3549 : Int)))]) (fun i_3549 s => [.mp true (encM (Dt.i .i64) enc_outref1_route s.1), .cells 82 [.mp 0], .cells 4 [.p (.b s.2)], .cells 3 [.p (.i .i64 n_3459)]]) ?_ hm ?_
   ·
    simp only [go_sem, simprocAttr, hw21, hxn_3459]
    try exact se5
   clear hm
   intro i_3549 s hii_3549 hm
   obtain ⟨m0_3543, o2_0_3544⟩ := s
   try dsimp only at hm
   try dsimp only
   refine Wp.seqR fun K39 hK39 => ?_
   simp only [go_sem, simprocAttr, hw21, hxn_3459]
   first | apply hK39 | refine ⟨sd, hK39 _ _ ?_⟩
   refine Wp.seqW fun K40 hK40 hW40 => ?_
   refine Wp.cond rfl ⟨⟩ (fun hc40 => ?_) (fun hc40 => ?_)
   rotate_left
   ·refine Wp.exit ?_
    have hm := hk_3547 _ (forL_end hm (ge_nat (by first | exact hc40 | simpa using hc40)))
    try dsimp only at hm
    refine hW26 _ _ _ _ ?_ (hcut26 (m0_3543, o2_0_3544) hm)
    simp only [go_sem, simprocAttr, hw21, hxn_3459]
    try exact se5
   have hlt40 := lt_nat (by first | exact hc40 | simpa using hc40)
   have hw40 := wrap_succ hlt40 hl_3550
   obtain ⟨n_3551, nx_3548, hxn_3551, hyn_3551, hnx_3548, hm⟩ := forL_step hm hlt40
   replace hxn_3551 := hxn_3551 ecI_i64
   refine Wp.skip ?_
   simp only [thenQ]
   refine hK40 _ _ ?_
   refine Wp.seqW fun K41 hK41 hW41 => ?_
   refine Wp.block ?_
   refine Wp.seqR fun K42 hK42 => ?_
   simp only [go_sem, simprocAttr, hw21, hxn_3459, hw40, hxn_3551]
   first | apply hK42 | refine ⟨sd, hK42 _ _ ?_⟩
   refine Wp.seqR fun K43 hK43 => ?_
   simp only [go_sem, simprocAttr, hw21, hxn_3459, hw40, hxn_3551]
   first | apply hK43 | refine ⟨sd, hK43 _ _ ?_⟩
   refine cM hm (fun hc44 hm => ?_) (fun hc44 hm => ?_)
   ·obtain ⟨r_3552, hr_3552, hm⟩ := call_elim hm
    refine Wp.region fun K45 hK45 => ?_
    simp only [go_sem, simprocAttr, hw21, hxn_3459, hw40, hxn_3551]
    try refine ⟨sd, ?_⟩
    refine Rg.callO (av := ?av46) [1, 0, 3, 2] (ok_R_Best_1_i1 (i_3549 : Int) n_3551 m0_3543 n_3459 o2_0_3544 _ hr_3552) (by simp only [go_sem, simprocAttr, hw21, hxn_3459, hw40, hxn_3551]; exact Is.mk) (by simp only [go_sem, simprocAttr, hw21, hxn_3459, hw40, hxn_3551]; exact Is.mk) (by simp only [go_sem, simprocAttr, hw21, hxn_3459, hw40, hxn_3551]; exact Is.mk) (by simp only [go_sem, simprocAttr, hw21, hxn_3459, hw40, hxn_3551]) (by simp only [go_sem, simprocAttr, hw21, hxn_3459, hw40, hxn_3551]) ?cont46
    rintro _ _ ⟨rfl, rfl⟩ hv46
    simp only [go_sem, simprocAttr, hw21, hxn_3459, hw40, hxn_3551]
    first | apply hK45 | refine ⟨sd, hK45 _ _ ?_⟩
    refine hK41 _ _ ?_
    refine Wp.region fun K47 hK47 => ?_
    simp only [go_sem, simprocAttr, hw21, hxn_3459, hw40, hxn_3551]
    first | apply hK47 | refine ⟨sd, hK47 _ _ ?_⟩
    simp only [thenQ, blockQ, ↓reduceIte]
    refine ⟨(r_3552.1, r_3552.2), hlt40, hnx_3548 _ hm, ?_⟩
    simp only [go_sem, simprocAttr, hw21, hxn_3459, hw40, hxn_3551]
    try exact se5
   ·refine Wp.skip ?_
    refine hK41 _ _ ?_
    refine Wp.region fun K48 hK48 => ?_
    simp only [go_sem, simprocAttr, hw21, hxn_3459, hw40, hxn_3551]
    first | apply hK48 | refine ⟨sd, hK48 _ _ ?_⟩
    simp only [thenQ, blockQ, ↓reduceIte]
    refine ⟨(m0_3543, o2_0_3544), hlt40, hnx_3548 _ hm, ?_⟩
    simp only [go_sem, simprocAttr, hw21, hxn_3459, hw40, hxn_3551]
    try exact se5
  ·refine Wp.exit ?_
   simp only [thenQ, blockQ, ↓reduceIte]
   have hm := hk_2962 _ hm
   try dsimp only at hm
   refine hW8 _ _ _ _ ?_ (hcut8 m0_2371 hm)
   exact fse5
theorem ok_slices_Equal_int_int (s1_1 : List Int) (s2_2 : List Int) (z : Bool) (hm : slices_Equal_int_int s1_1 s2_2 = some z) : Does Try.prog 17 [.p (.l (List.map ecI_i64 s1_1)), .p (.l (List.map ecI_i64 s2_2))] [] (fun r X => r = .p (.b z) ∧ X = []) := by
 unfold slices_Equal_int_int at hm
 refine Does.of_wp 0 26 [.tmp 4] Try.func17 rfl (by decide) rfl rfl (Nat.le_of_ble_eq_true rfl) fun B => ?_
 refine qS ?_
 refine Wp.seqW fun K2 hK2 hW2 => ?_
 refine qS ?_
 refine cM hm (fun hc4 hm => ?_) (fun hc4 hm => ?_)
 ·refine qS ?_
  refine Wp.ret ?_
  refine retQ_ret ?_
  cases hm
  exact fse5
 ·refine Wp.skip ?_
  refine hK2 _ _ ?_
  refine Wp.seqW fun K6 hK6 hW6 => ?_
  obtain ⟨k_12, hk_12, hm⟩ := jp_elim hm
  have hcut6 : ∀ s, k_12 s = some z → K6 [] [] := by
   intro s hs
   have hm := hk_12 _ hs
   clear hs
   try dsimp only at hm
   try dsimp only
   refine hK6 _ _ ?_
   refine qS ?_
   refine Wp.ret ?_
   refine retQ_ret ?_
   cases hm
   exact fse5
  clear hK6 hk_12
  refine qS ?_
  refine Wp.block ?_
  obtain ⟨k_16, hk_16, hm⟩ := forL_cont hm
  refine Wp.fact 0 fun hl_19 => ?_
  replace hl_19 : s1_1.length ≤ 274877906944 := by
   simp only [go_sem, simprocAttr, List.length_map] at hl_19
   omega
  refine Wp.forL (fun i_18 s => [(0, .p (.l (List.map ecI_i64 s1_1))), (1, .p (.l (List.map ecI_i64 s2_2))), (12, .p (.i .i64 (s1_1.length : Int))), (13, .p (.i .i64 (i_18 : Int)))]) (fun i_18 s => []) ?_ hm ?_
  ·
   exact fse5
  clear hm
  intro i_18 s hii_18 hm
  try dsimp only at hm
  try dsimp only
  refine qS ?_
  refine Wp.seqW fun K10 hK10 hW10 => ?_
  refine Wp.cond rfl ⟨⟩ (fun hc10 => ?_) (fun hc10 => ?_)
  rotate_left
  ·refine Wp.exit ?_
   have hm := hk_16 _ (forL_end hm (ge_nat (by first | exact hc10 | simpa using hc10)))
   try dsimp only at hm
   refine hW6 _ _ _ _ ?_ (hcut6 () hm)
   exact fse5
  have hlt10 := lt_nat (by first | exact hc10 | simpa using hc10)
  have hw10 := wrap_succ hlt10 hl_19
  obtain ⟨n_20, nx_17, hxn_20, hyn_20, hnx_17, hm⟩ := forL_step hm hlt10
  replace hxn_20 := hxn_20 ecI_i64
  refine Wp.skip ?_
  simp only [thenQ]
  refine hK10 _ _ ?_
  refine Wp.seqW fun K11 hK11 hW11 => ?_
  refine Wp.block ?_
  refine Wp.seqR fun K12 hK12 => ?_
  simp only [go_sem, simprocAttr, hw10, hxn_20]
  first | apply hK12 | refine ⟨sd, hK12 _ _ ?_⟩
  obtain ⟨n_21, hbn_21, hxn_21, hyn_21, hm⟩ := idx_elim hm
  replace hxn_21 : ∀ d, (List.map ecI_i64 s2_2).getD i_18 d = ecI_i64 n_21 := hxn_21 ecI_i64
  refine Wp.seqD (plan := pl [(0, none), (1, none), (2, none), (3, none), (4, none), (5, none), (6, none), (7, none), (8, none)]) (by kernel_rfl) rfl (by kernel_rfl) fun K13 hK13 => ?_
  simp only [go_sem, simprocAttr, hw10, hxn_20, hxn_21]
  first | apply hK13 | refine ⟨sd, hK13 _ _ ?_⟩
  refine cM hm (fun hc14 hm => ?_) (fun hc14 hm => ?_)
  ·refine Wp.seqR fun K15 hK15 => ?_
   simp only [go_sem, simprocAttr, hw10, hxn_20, hxn_21]
   first | apply hK15 | refine ⟨sd, hK15 _ _ ?_⟩
   refine Wp.ret ?_
   refine retQ_ret ?_
   cases hm
   simp only [go_sem, simprocAttr, hw10, hxn_20, hxn_21]
   try exact se5
  ·refine Wp.skip ?_
   refine hK11 _ _ ?_
   refine Wp.region fun K16 hK16 => ?_
   simp only [go_sem, simprocAttr, hw10, hxn_20, hxn_21]
   first | apply hK16 | refine ⟨sd, hK16 _ _ ?_⟩
   simp only [thenQ, blockQ, ↓reduceIte]
   refine ⟨(), hlt10, hnx_17 _ hm, ?_⟩
   simp only [go_sem, simprocAttr, hw10, hxn_20, hxn_21]
   try exact se5
theorem ok_Law_WaysMatch (l_1 : List api_Way) (sizes_2 : List Int) (from_3 : Int) (to_4 : Int) (z : Bool) (hm : Law_WaysMatch l_1 sizes_2 from_3 to_4 = some z) : Does Try.prog 4 [.p (.l (List.map enc_api_Way l_1)), .p (.l (List.map ecI_i64 sizes_2)), .p (.i .i64 from_3), .p (.i .i64 to_4)] [] (fun r X => r = .p (.b z) ∧ X = []) := by
 unfold Law_WaysMatch at hm
 refine Does.of_wp 0 81 [.tmp 8] Try.func4 rfl (by decide) rfl rfl (Nat.le_of_ble_eq_true rfl) fun B => ?_
 refine qS ?_
 refine Wp.seqW fun K2 hK2 hW2 => ?_
 obtain ⟨r_5, hr_5, hm⟩ := call_elim hm
 refine Wp.seqR fun K3 hK3 => ?_
 simp only [go_sem, simprocAttr]
 try refine ⟨sd, ?_⟩
 refine Rg.callX (av := ?av4) (g := true) (fun hg => ok_Law_landed  _ hr_5) si si si sg si ?cont4
 intro hv4
 simp only [go_sem, simprocAttr]
 first | apply hK3 | refine ⟨sd, hK3 _ _ ?_⟩
 refine cM hm (fun hc5 hm => ?_) (fun hc5 hm => ?_)
 ·refine qS ?_
  refine Wp.ret ?_
  refine retQ_ret ?_
  cases hm
  exact fse3
 ·refine Wp.skip ?_
  refine hK2 _ _ ?_
  obtain ⟨c_6, hm⟩ := chk_elim hm
  obtain ⟨v_7, hv_8, hm⟩ := letv_elim hm
  obtain ⟨c_9, hm⟩ := chk_elim hm
  obtain ⟨v_10, hv_11, hm⟩ := letv_elim hm
  refine Wp.seqD (plan := pl [(0, none), (1, none), (2, none), (3, none), (4, none), (5, none), (6, none), (7, none), (8, none), (9, none), (10, none), (11, none)]) (by kernel_rfl) rfl (by kernel_rfl) fun K7 hK7 => ?_
  simp only [go_sem, simprocAttr, hv_8, hv_11]
  first | apply hK7 | refine ⟨by first | exact sd | ((repeat' apply And.intro) <;> first | assumption | omega | (simp only [List.length_append, List.length_map, List.length_cons, List.length_nil, List.length_set, List.length_replicate] at c_6 c_9 ⊢; omega)), hK7 _ _ ?_⟩
  obtain ⟨r_12, hr_12, hm⟩ := call_elim hm
  refine Wp.seqR fun K8 hK8 => ?_
  simp only [go_sem, simprocAttr, hv_8, hv_11]
  try refine ⟨sd, ?_⟩
  refine Rg.callX (av := ?av9) (g := true) (fun hg => ok_R_WaysError v_7 v_10 _ hr_12) (by simp only [go_sem, simprocAttr, hv_8, hv_11]; exact Is.mk) (by simp only [go_sem, simprocAttr, hv_8, hv_11]; exact Is.mk) (by simp only [go_sem, simprocAttr, hv_8, hv_11]; exact Is.mk) (by simp only [go_sem, simprocAttr, hv_8, hv_11]) (by simp only [go_sem, simprocAttr, hv_8, hv_11]; exact Is.mk) ?cont9
  intro hv9
  simp only [go_sem, simprocAttr, hv_8, hv_11]
  first | apply hK8 | refine ⟨sd, hK8 _ _ ?_⟩
  obtain ⟨r_13, hr_13, hm⟩ := call_elim hm
  refine Wp.seqR fun K10 hK10 => ?_
  simp only [go_sem, simprocAttr, hv_8, hv_11]
  try refine ⟨sd, ?_⟩
  refine Rg.callF (av := ?av11) (ok_delta_Best v_7 v_10 from_3 to_4 _ hr_13) (by simp only [go_sem, simprocAttr, hv_8, hv_11]; exact Is.mk) (by simp only [go_sem, simprocAttr, hv_8, hv_11]; exact Is.mk) (by simp only [go_sem, simprocAttr, hv_8, hv_11]) ?cont11
  intro hv11
  simp only [go_sem, simprocAttr, hv_8, hv_11]
  first | apply hK10 | refine ⟨sd, hK10 _ _ ?_⟩
  refine Wp.seqW fun K12 hK12 hW12 => ?_
  obtain ⟨r_14, hr_14, hm⟩ := call_elim hm
  refine Wp.seqR fun K13 hK13 => ?_
  simp only [go_sem, simprocAttr, hv_8, hv_11]
  try refine ⟨sd, ?_⟩
  refine Rg.callX (av := ?av14) (g := true) (fun hg => ok_delta_CheckWays v_7 v_10 _ hr_14) (by simp only [go_sem, simprocAttr, hv_8, hv_11]; exact Is.mk) (by simp only [go_sem, simprocAttr, hv_8, hv_11]; exact Is.mk) (by simp only [go_sem, simprocAttr, hv_8, hv_11]; exact Is.mk) (by simp only [go_sem, simprocAttr, hv_8, hv_11]) (by simp only [go_sem, simprocAttr, hv_8, hv_11]; exact Is.mk) ?cont14
  intro hv14
  simp only [go_sem, simprocAttr, hv_8, hv_11]
  first | apply hK13 | refine ⟨sd, hK13 _ _ ?_⟩
  refine cM hm (fun hc15 hm => ?_) (fun hc15 hm => ?_)
  ·refine Wp.seqR fun K16 hK16 => ?_
   simp only [go_sem, simprocAttr, hv_8, hv_11]
   first | apply hK16 | refine ⟨sd, hK16 _ _ ?_⟩
   refine Wp.ret ?_
   refine retQ_ret ?_
   cases hm
   simp only [go_sem, simprocAttr, hv_8, hv_11]
   try exact se4
  ·refine Wp.skip ?_
   refine hK12 _ _ ?_
   refine Wp.seqW fun K17 hK17 hW17 => ?_
   refine Wp.seqR fun K18 hK18 => ?_
   simp only [go_sem, simprocAttr, hv_8, hv_11]
   first | apply hK18 | refine ⟨sd, hK18 _ _ ?_⟩
   refine cM hm (fun hc19 hm => ?_) (fun hc19 hm => ?_)
   ·refine Wp.seqR fun K20 hK20 => ?_
    simp only [go_sem, simprocAttr, hv_8, hv_11]
    first | apply hK20 | refine ⟨sd, hK20 _ _ ?_⟩
    refine Wp.ret ?_
    refine retQ_ret ?_
    cases hm
    simp only [go_sem, simprocAttr, hv_8, hv_11]
    try exact se4
   ·refine Wp.skip ?_
    refine hK17 _ _ ?_
    obtain ⟨r_15, hr_15, hm⟩ := call_elim hm
    refine Wp.seqR fun K21 hK21 => ?_
    simp only [go_sem, simprocAttr, hv_8, hv_11]
    try refine ⟨sd, ?_⟩
    refine Rg.callF (av := ?av22) (ok_R_Best v_7 v_10 from_3 to_4 _ hr_15) (by simp only [go_sem, simprocAttr, hv_8, hv_11]; exact Is.mk) (by simp only [go_sem, simprocAttr, hv_8, hv_11]; exact Is.mk) (by simp only [go_sem, simprocAttr, hv_8, hv_11]) ?cont22
    intro hv22
    simp only [go_sem, simprocAttr, hv_8, hv_11]
    first | apply hK21 | refine ⟨sd, hK21 _ _ ?_⟩
    obtain ⟨r_16, hr_16, hm⟩ := call_elim hm
    refine Wp.seqR fun K23 hK23 => ?_
    simp only [go_sem, simprocAttr, hv_8, hv_11]
    try refine ⟨sd, ?_⟩
    refine Rg.callX (av := ?av24) (g := true) (fun hg => ok_slices_Equal_int_int r_13.1 r_15.1 _ hr_16) (by simp only [go_sem, simprocAttr, hv_8, hv_11]; exact Is.mk) (by simp only [go_sem, simprocAttr, hv_8, hv_11]; exact Is.mk) (by simp only [go_sem, simprocAttr, hv_8, hv_11]; exact Is.mk) (by simp only [go_sem, simprocAttr, hv_8, hv_11]) (by simp only [go_sem, simprocAttr, hv_8, hv_11]; exact Is.mk) ?cont24
    intro hv24
    simp only [go_sem, simprocAttr, hv_8, hv_11]
    first | apply hK23 | refine ⟨sd, hK23 _ _ ?_⟩
    refine Wp.ret ?_
    refine retQ_ret ?_
    cases hm
    simp only [go_sem, simprocAttr, hv_8, hv_11]
    try exact se5
end Go.Proofs.Ytoieghljolfkaaa
