/- That the code does what the models say (part 9). -/
import Derived.Test.YtmnohdgjkcjdeaaGreatDoorLwWk0
import Derived.Test.YtmnohdgjkcjdeaaGreatDoorLwWk1
import Derived.Test.YtmnohdgjkcjdeaaGreatDoorLwWk2
import Derived.Test.YtmnohdgjkcjdeaaGreatDoorLwWk4
import Derived.Test.YtmnohdgjkcjdeaaGreatDoorLwWk6
import Derived.Test.YtmnohdgjkcjdeaaGreatDoorLwWk8
set_option linter.unusedSimpArgs false
set_option linter.unusedVariables false
open Go.Proofs Go.Shelf
namespace Go.Proofs.YtmnohdgjkcjdeaaGreatDoor
open Go.Vc Go.Md
set_option maxRecDepth 100000
set_option maxHeartbeats 4000000
theorem ok_Law_LogsGrow (l_1 : List api_Record) (z : Bool) (hm : Law_LogsGrow l_1 = some z) : Does Tryz.prog 3 [.p (.l (List.map enc_api_Record l_1))] [] (fun r X => r = .p (.b z) ∧ X = []) := by
 unfold Law_LogsGrow at hm
 refine Does.of_wp 0 117 [.tmp 2] Tryz.func3 rfl (by decide) rfl rfl (Nat.le_of_ble_eq_true rfl) fun B => ?_
 refine qS ?_
 refine Wp.seqW fun K2 hK2 hW2 => ?_
 obtain ⟨r_2, hr_2, hm⟩ := call_elim hm
 refine Wp.seqR fun K3 hK3 => ?_
 simp only [go_sem, simprocAttr]
 try refine ⟨sd, ?_⟩
 refine Rg.callX (av := ?av4) (g := true) (fun hg => ok_Law_landed  _ hr_2) si si si sg si ?cont4
 intro hv4
 simp only [go_sem, simprocAttr]
 first | apply hK3 | refine ⟨sd, hK3 _ _ ?_⟩
 refine cM hm (fun hc5 hm => ?_) (fun hc5 hm => ?_)
 ·refine qS ?_
  refine Wp.ret ?_
  refine retQ_ret ?_
  cases hm
  exact fse1
 ·refine Wp.skip ?_
  refine hK2 _ _ ?_
  obtain ⟨r_3, hr_3, hm⟩ := call_elim hm
  refine Wp.seqR fun K7 hK7 => ?_
  simp only [go_sem, simprocAttr]
  try refine ⟨sd, ?_⟩
  refine Rg.callO (av := ?av8) [] (ok_log_New  _ hr_3) si si si sg sg ?cont8
  rintro _ _ ⟨rfl, rfl⟩ hv8
  simp only [go_sem, simprocAttr]
  first | apply hK7 | refine ⟨sd, hK7 _ _ ?_⟩
  refine qS ?_
  refine Wp.seqW fun K10 hK10 hW10 => ?_
  obtain ⟨k_320, hk_320, hm⟩ := jp_elim hm
  have hcut10 : ∀ s, k_320 s = some z → K10 [(3, .ptr 2 0), (4, .buf 3)] [.mp true (encM Dt.s enc_log_had s.1), .cells 99 [.mp 0, .p (.i .i64 s.2.1)], .cells 63 [.buf 4, .buf 5, .p (.s s.2.2.1), .ptr 1 0], .buf 30 13 (List.map enc_api_Record s.2.2.2.1), .buf 30 13 (List.map enc_api_Record s.2.2.2.2.1), .buf 9 1 (List.map ecS s.2.2.2.2.2)] := by
   intro s hs
   have hm := hk_320 _ hs
   clear hs
   obtain ⟨m0_314, o1_1_315, o2_2_316, o3_317, o4_318, o5_319⟩ := s
   try dsimp only at hm
   try dsimp only
   refine hK10 _ _ ?_
   obtain ⟨r_321, hr_321, hm⟩ := call_elim hm
   obtain ⟨r_322, hr_322, hm⟩ := call_elim hm
   refine Wp.seqR fun K11 hK11 => ?_
   simp only [go_sem, simprocAttr]
   try refine ⟨sd, ?_⟩
   refine Rg.callO (av := ?av12) [2, 4, 5, 1, 0] (ok_log_Log_Text_i1 o2_2_316 o4_318 o5_319 o1_1_315 m0_314 _ hr_321) si si si sg sg ?cont12
   rintro _ _ ⟨rfl, rfl⟩ hv12
   simp only [go_sem, simprocAttr]
   try refine ⟨sd, ?_⟩
   refine Rg.callO (av := ?av13) [] (ok_log_Open r_321 _ hr_322) si si si sg sg ?cont13
   rintro _ _ ⟨rfl, rfl⟩ hv13
   simp only [go_sem, simprocAttr]
   first | apply hK11 | refine ⟨sd, hK11 _ _ ?_⟩
   obtain ⟨r_323, hr_323, hr_323d, hm⟩ := callG_elim2 hm
   obtain ⟨r_324, hr_324, hm⟩ := callG_elim hm
   obtain ⟨r_325, hr_325, hr_325d, hm⟩ := callG_elim2 hm
   obtain ⟨r_326, hr_326, hr_326d, hm⟩ := callG_elim2 hm
   obtain ⟨v_327, hv_328, hm⟩ := letv_elim hm
   refine Wp.seqR fun K14 hK14 => ?_
   simp only [go_sem, simprocAttr, hv_328]
   try refine ⟨sd, ?_⟩
   refine Rg.callGO (av := ?av15) (g := ((decide (r_322.2.1 = 0)) && (decide (r_322.1 = (o3_317.length : Int))))) [8, 9, 10, 7, 6] (fun hg => ok_log_Log_Records_i1 r_322.2.2.2.2.1 r_322.2.2.2.2.2.1 r_322.2.2.2.2.2.2 r_322.2.2.2.1 r_322.2.2.1 _ (hr_323 hg)) (fun hg => by obtain rfl := hr_323d hg; rfl) (by simp only [go_sem, simprocAttr, hv_328]; exact Is.mk) (by simp only [go_sem, simprocAttr, hv_328]; exact Is.mk) (by simp only [go_sem, simprocAttr, hv_328]; exact Is.mk) (by simp only [go_sem, simprocAttr, hv_328]; exact Is.mk) (by simp only [go_sem, simprocAttr, hv_328]) (by simp only [go_sem, simprocAttr, hv_328]) ?cont15
   simp only [go_sem, simprocAttr, hv_328]
   try refine ⟨sd, ?_⟩
   refine Rg.callX (av := ?av16) (g := ((decide (r_322.2.1 = 0)) && (decide (r_322.1 = (o3_317.length : Int))))) (fun hg => ok_slices_Equal_api_Record_api_Record r_323 o3_317 _ (hr_324 hg)) (by simp only [go_sem, simprocAttr, hv_328]; exact Is.mk) (by simp only [go_sem, simprocAttr, hv_328]; exact Is.mk) (by simp only [go_sem, simprocAttr, hv_328, List.map_append, List.map_cons, List.map_nil]; exact Is.mk) (by simp only [go_sem, simprocAttr, hv_328]) (by simp only [go_sem, simprocAttr, hv_328]; exact Is.mk) ?cont16
   intro hv16
   simp only [go_sem, simprocAttr, hv_328]
   try refine ⟨sd, ?_⟩
   refine Rg.callGO (av := ?av17) (g := (((decide (r_322.2.1 = 0)) && (decide (r_322.1 = (o3_317.length : Int)))) && r_324)) [8, 9, 10, 7, 6] (fun hg => ok_log_Log_Sum_i1 r_322.2.2.2.2.1 r_322.2.2.2.2.2.1 r_322.2.2.2.2.2.2 r_322.2.2.2.1 r_322.2.2.1 _ (hr_325 hg)) (fun hg => by obtain rfl := hr_325d hg; rfl) (by simp only [go_sem, simprocAttr, hv_328]; exact Is.mk) (by simp only [go_sem, simprocAttr, hv_328]; exact Is.mk) (by simp only [go_sem, simprocAttr, hv_328]; exact Is.mk) (by simp only [go_sem, simprocAttr, hv_328]; exact Is.mk) (by simp only [go_sem, simprocAttr, hv_328]) (by simp only [go_sem, simprocAttr, hv_328]) ?cont17
   simp only [go_sem, simprocAttr, hv_328]
   try refine ⟨sd, ?_⟩
   refine Rg.callGO (av := ?av18) (g := (((decide (r_322.2.1 = 0)) && (decide (r_322.1 = (o3_317.length : Int)))) && r_324)) [2, 4, 5, 1, 0] (fun hg => ok_log_Log_Sum_i1 o2_2_316 o4_318 o5_319 o1_1_315 m0_314 _ (hr_326 hg)) (fun hg => by obtain rfl := hr_326d hg; rfl) (by simp only [go_sem, simprocAttr, hv_328]; exact Is.mk) (by simp only [go_sem, simprocAttr, hv_328]; exact Is.mk) (by simp only [go_sem, simprocAttr, hv_328]; exact Is.mk) (by simp only [go_sem, simprocAttr, hv_328]; exact Is.mk) (by simp only [go_sem, simprocAttr, hv_328]) (by simp only [go_sem, simprocAttr, hv_328]) ?cont18
   simp only [go_sem, simprocAttr, hv_328]
   first | apply hK14 | refine ⟨sd, hK14 _ _ ?_⟩
   refine Wp.ret ?_
   refine retQ_ret ?_
   cases hm
   simp only [go_sem, simprocAttr, hv_328]
   try exact se3
  clear hK10 hk_320
  obtain ⟨c_329, hm⟩ := chk_elim hm
  refine Wp.seqR fun K19 hK19 => ?_
  simp only [go_sem, simprocAttr]
  first | apply hK19 | refine ⟨by first | exact sd | ((repeat' apply And.intro) <;> first | assumption | omega | (simp only [List.length_append, List.length_map, List.length_cons, List.length_nil, List.length_set, List.length_replicate] at c_329 ⊢; omega)), hK19 _ _ ?_⟩
  refine Wp.block ?_
  refine Wp.adopt 4 30 13 rfl ?_
  simp only [go_sem, simprocAttr]
  refine Wp.adoptO 2 0 30 13 rfl rfl ?_
  simp only [go_sem, simprocAttr]
  refine Wp.adoptO 2 1 9 1 rfl rfl ?_
  simp only [go_sem, simprocAttr]
  obtain ⟨k_580, hk_580, hm⟩ := forL_cont hm
  refine Wp.fact 20 fun hl_583 => ?_
  replace hl_583 : (List.take ((min (l_1.length : Int) 60).toNat) l_1).length ≤ 274877906944 := by
   simp only [go_sem, simprocAttr, List.length_map] at hl_583
   omega
  refine Wp.forL (fun i_582 s => [(3, .ptr 2 0), (4, .buf 3), (20, .p (.l (List.map enc_api_Record (List.take ((min (l_1.length : Int) 60).toNat) l_1)))), (21, .p (.i .i64 ((List.take ((min (l_1.length : Int) 60).toNat) l_1).length : Int))), (22, .p (.i .i64 (i_582 : Int)))]) (fun i_582 s => [.mp true (encM Dt.s enc_log_had s.1), .cells 99 [.mp 0, .p (.i .i64 s.2.1)], .cells 63 [.buf 4, .buf 5, .p (.s s.2.2.1), .ptr 1 0], .buf 30 13 (List.map enc_api_Record s.2.2.2.1), .buf 30 13 (List.map enc_api_Record s.2.2.2.2.1), .buf 9 1 (List.map ecS s.2.2.2.2.2)]) ?_ hm ?_
  ·
   exact fse3
  clear hm
  intro i_582 s hii_582 hm
  obtain ⟨m0_514, o1_1_515, o2_2_516, o3_517, o4_518, o5_519⟩ := s
  try dsimp only at hm
  try dsimp only
  refine qS ?_
  refine Wp.seqW fun K21 hK21 hW21 => ?_
  refine Wp.cond rfl ⟨⟩ (fun hc21 => ?_) (fun hc21 => ?_)
  rotate_left
  ·refine Wp.exit ?_
   have hm := hk_580 _ (forL_end hm (ge_nat (by first | exact hc21 | simpa using hc21)))
   try dsimp only at hm
   refine hW10 _ _ _ _ ?_ (hcut10 (m0_514, o1_1_515, o2_2_516, o3_517, o4_518, o5_519) hm)
   exact fse3
  have hlt21 := lt_nat (by first | exact hc21 | simpa using hc21)
  have hw21 := wrap_succ hlt21 hl_583
  obtain ⟨r_584, nx_581, hxr_584, hyr_584, hnx_581, hm⟩ := forL_step hm hlt21
  replace hxr_584 := hxr_584 enc_api_Record
  refine Wp.skip ?_
  simp only [thenQ]
  refine hK21 _ _ ?_
  refine Wp.seqW fun K22 hK22 hW22 => ?_
  refine Wp.block ?_
  refine Wp.seqR fun K23 hK23 => ?_
  simp only [go_sem, simprocAttr, hw21, hxr_584]
  first | apply hK23 | refine ⟨sd, hK23 _ _ ?_⟩
  obtain ⟨r_585, hr_585, hm⟩ := call_elim hm
  refine Wp.seqR fun K24 hK24 => ?_
  simp only [go_sem, simprocAttr, hw21, hxr_584]
  try refine ⟨sd, ?_⟩
  refine Rg.callX (av := ?av25) (g := true) (fun hg => ok_R_RecordError r_584 _ hr_585) (by simp only [go_sem, simprocAttr, hw21, hxr_584]; exact Is.mk) (by simp only [go_sem, simprocAttr, hw21, hxr_584]; exact Is.mk) (by simp only [go_sem, simprocAttr, hw21, hxr_584]; exact Is.mk) (by simp only [go_sem, simprocAttr, hw21, hxr_584]) (by simp only [go_sem, simprocAttr, hw21, hxr_584]; exact Is.mk) ?cont25
  intro hv25
  simp only [go_sem, simprocAttr, hw21, hxr_584]
  first | apply hK24 | refine ⟨sd, hK24 _ _ ?_⟩
  refine Wp.seqW fun K26 hK26 hW26 => ?_
  obtain ⟨k_606, hk_606, hm⟩ := jp_elim hm
  have hcut26 : ∀ s, k_606 s = some z → K26 [(3, .ptr 2 0), (4, .buf 3), (6, .ptr 6 0), (7, .p (.i .i64 s)), (20, .p (.l (List.map enc_api_Record (List.take ((min (l_1.length : Int) 60).toNat) l_1)))), (21, .p (.i .i64 ((List.take ((min (l_1.length : Int) 60).toNat) l_1).length : Int))), (22, .p (.i .i64 (i_582 : Int)))] [.mp true (encM Dt.s enc_log_had m0_514), .cells 99 [.mp 0, .p (.i .i64 o1_1_515)], .cells 63 [.buf 4, .buf 5, .p (.s o2_2_516), .ptr 1 0], .buf 30 13 (List.map enc_api_Record o3_517), .buf 30 13 (List.map enc_api_Record o4_518), .buf 9 1 (List.map ecS o5_519), .cells 30 [.p (.i .i64 r_584.Time), .p (.i .i64 r_584.Kind), .p (.s r_584.Pack), .p (.i .i64 r_584.From.Major), .p (.i .i64 r_584.From.Minor), .p (.i .i64 r_584.From.Patch), .p (.s r_584.From.Early), .p (.i .i64 r_584.To.Major), .p (.i .i64 r_584.To.Minor), .p (.i .i64 r_584.To.Patch), .p (.s r_584.To.Early), .p (.i .i64 r_584.Result), .p (.s r_584.Note)]] := by
   intro e_605 hs
   have hm := hk_606 _ hs
   clear hs
   try dsimp only at hm
   try dsimp only
   refine hK26 _ _ ?_
   refine Wp.seqW fun K27 hK27 hW27 => ?_
   obtain ⟨k_611, hk_611, hm⟩ := jp_elim hm
   have hcut27 : ∀ s, k_611 s = some z → K27 [(3, .ptr 2 0), (4, .buf 3), (6, .ptr 6 0), (7, .p (.i .i64 s)), (20, .p (.l (List.map enc_api_Record (List.take ((min (l_1.length : Int) 60).toNat) l_1)))), (21, .p (.i .i64 ((List.take ((min (l_1.length : Int) 60).toNat) l_1).length : Int))), (22, .p (.i .i64 (i_582 : Int)))] [.mp true (encM Dt.s enc_log_had m0_514), .cells 99 [.mp 0, .p (.i .i64 o1_1_515)], .cells 63 [.buf 4, .buf 5, .p (.s o2_2_516), .ptr 1 0], .buf 30 13 (List.map enc_api_Record o3_517), .buf 30 13 (List.map enc_api_Record o4_518), .buf 9 1 (List.map ecS o5_519), .cells 30 [.p (.i .i64 r_584.Time), .p (.i .i64 r_584.Kind), .p (.s r_584.Pack), .p (.i .i64 r_584.From.Major), .p (.i .i64 r_584.From.Minor), .p (.i .i64 r_584.From.Patch), .p (.s r_584.From.Early), .p (.i .i64 r_584.To.Major), .p (.i .i64 r_584.To.Minor), .p (.i .i64 r_584.To.Patch), .p (.s r_584.To.Early), .p (.i .i64 r_584.Result), .p (.s r_584.Note)]] := by
    intro e_610 hs
    have hm := hk_611 _ hs
    clear hs
    try dsimp only at hm
    try dsimp only
    refine hK27 _ _ ?_
    refine Wp.seqW fun K28 hK28 hW28 => ?_
    obtain ⟨r_612, hr_612, hm⟩ := call_elim hm
    refine Wp.seqR fun K29 hK29 => ?_
    simp only [go_sem, simprocAttr, hw21, hxr_584]
    try refine ⟨sd, ?_⟩
    refine Rg.callO (av := ?av30) [2, 4, 5, 1, 0] (ok_log_Log_Add_i1 r_584 o2_2_516 o4_518 o5_519 o1_1_515 m0_514 _ hr_612) (by simp only [go_sem, simprocAttr, hw21, hxr_584]; exact Is.mk) (by simp only [go_sem, simprocAttr, hw21, hxr_584]; exact Is.mk) (by simp only [go_sem, simprocAttr, hw21, hxr_584]; exact Is.mk) (by simp only [go_sem, simprocAttr, hw21, hxr_584]) (by simp only [go_sem, simprocAttr, hw21, hxr_584]) ?cont30
    rintro _ _ ⟨rfl, rfl⟩ hv30
    simp only [go_sem, simprocAttr, hw21, hxr_584]
    first | apply hK29 | refine ⟨sd, hK29 _ _ ?_⟩
    refine cM hm (fun hc31 hm => ?_) (fun hc31 hm => ?_)
    ·refine Wp.seqR fun K32 hK32 => ?_
     simp only [go_sem, simprocAttr, hw21, hxr_584]
     first | apply hK32 | refine ⟨sd, hK32 _ _ ?_⟩
     refine Wp.ret ?_
     refine retQ_ret ?_
     cases hm
     simp only [go_sem, simprocAttr, hw21, hxr_584]
     try exact se3
    ·refine Wp.skip ?_
     refine hK28 _ _ ?_
     refine Wp.seqW fun K33 hK33 hW33 => ?_
     obtain ⟨k_615, hk_615, hm⟩ := jp_elim hm
     have hcut33 : ∀ s, k_615 s = some z → K33 [(3, .ptr 2 0), (4, .buf 3), (20, .p (.l (List.map enc_api_Record (List.take ((min (l_1.length : Int) 60).toNat) l_1)))), (21, .p (.i .i64 ((List.take ((min (l_1.length : Int) 60).toNat) l_1).length : Int))), (22, .p (.i .i64 (i_582 : Int)))] [.mp true (encM Dt.s enc_log_had r_612.2.2.2.2.2), .cells 99 [.mp 0, .p (.i .i64 r_612.2.2.2.2.1)], .cells 63 [.buf 4, .buf 5, .p (.s r_612.2.1), .ptr 1 0], .buf 30 13 (List.map enc_api_Record s), .buf 30 13 (List.map enc_api_Record r_612.2.2.1), .buf 9 1 (List.map ecS r_612.2.2.2.1)] := by
      intro o3_614 hs
      have hm := hk_615 _ hs
      clear hs
      try dsimp only at hm
      try dsimp only
      refine hK33 _ _ ?_
      obtain ⟨r_616, hr_616, hm⟩ := call_elim hm
      refine Wp.seqR fun K34 hK34 => ?_
      simp only [go_sem, simprocAttr, hw21, hxr_584]
      try refine ⟨sd, ?_⟩
      refine Rg.callX (av := ?av35) (g := true) (fun hg => ok_R_LogText o3_614 _ hr_616) (by simp only [go_sem, simprocAttr, hw21, hxr_584]; exact Is.mk) (by simp only [go_sem, simprocAttr, hw21, hxr_584]; exact Is.mk) (by simp only [go_sem, simprocAttr, hw21, hxr_584, List.map_append, List.map_cons, List.map_nil]; exact Is.mk) (by simp only [go_sem, simprocAttr, hw21, hxr_584]) (by simp only [go_sem, simprocAttr, hw21, hxr_584]; exact Is.mk) ?cont35
      intro hv35
      simp only [go_sem, simprocAttr, hw21, hxr_584]
      first | apply hK34 | refine ⟨sd, hK34 _ _ ?_⟩
      obtain ⟨r_617, hr_617, hm⟩ := call_elim hm
      obtain ⟨r_618, hr_618, hm⟩ := call_elim hm
      obtain ⟨r_619, hr_619, hr_619d, hm⟩ := callG_elim2 hm
      obtain ⟨r_620, hr_620, hr_620d, hm⟩ := callG_elim2 hm
      refine Wp.seqR fun K36 hK36 => ?_
      simp only [go_sem, simprocAttr, hw21, hxr_584]
      try refine ⟨sd, ?_⟩
      refine Rg.callO (av := ?av37) [2, 4, 5, 1, 0] (ok_log_Log_Records_i1 r_612.2.1 r_612.2.2.1 r_612.2.2.2.1 r_612.2.2.2.2.1 r_612.2.2.2.2.2 _ hr_617) (by simp only [go_sem, simprocAttr, hw21, hxr_584]; exact Is.mk) (by simp only [go_sem, simprocAttr, hw21, hxr_584]; exact Is.mk) (by simp only [go_sem, simprocAttr, hw21, hxr_584]; exact Is.mk) (by simp only [go_sem, simprocAttr, hw21, hxr_584]) (by simp only [go_sem, simprocAttr, hw21, hxr_584]) ?cont37
      rintro _ _ ⟨rfl, rfl⟩ hv37
      simp only [go_sem, simprocAttr, hw21, hxr_584]
      try refine ⟨sd, ?_⟩
      refine Rg.callX (av := ?av38) (g := true) (fun hg => ok_slices_Equal_api_Record_api_Record r_617 o3_614 _ hr_618) (by simp only [go_sem, simprocAttr, hw21, hxr_584]; exact Is.mk) (by simp only [go_sem, simprocAttr, hw21, hxr_584]; exact Is.mk) (by simp only [go_sem, simprocAttr, hw21, hxr_584, List.map_append, List.map_cons, List.map_nil]; exact Is.mk) (by simp only [go_sem, simprocAttr, hw21, hxr_584]) (by simp only [go_sem, simprocAttr, hw21, hxr_584]; exact Is.mk) ?cont38
      intro hv38
      simp only [go_sem, simprocAttr, hw21, hxr_584]
      try refine ⟨sd, ?_⟩
      refine Rg.callGO (av := ?av39) (g := !(!r_618)) [2, 4, 5, 1, 0] (fun hg => ok_log_Log_Text_i1 r_612.2.1 r_612.2.2.1 r_612.2.2.2.1 r_612.2.2.2.2.1 r_612.2.2.2.2.2 _ (hr_619 hg)) (fun hg => by obtain rfl := hr_619d hg; rfl) (by simp only [go_sem, simprocAttr, hw21, hxr_584]; exact Is.mk) (by simp only [go_sem, simprocAttr, hw21, hxr_584]; exact Is.mk) (by simp only [go_sem, simprocAttr, hw21, hxr_584]; exact Is.mk) (by simp only [go_sem, simprocAttr, hw21, hxr_584]; exact Is.mk) (by simp only [go_sem, simprocAttr, hw21, hxr_584]) (by simp only [go_sem, simprocAttr, hw21, hxr_584]) ?cont39
      simp only [go_sem, simprocAttr, hw21, hxr_584]
      try refine ⟨sd, ?_⟩
      refine Rg.callGO (av := ?av40) (g := !((!r_618) || (!decide (r_619 = r_616.1)))) [2, 4, 5, 1, 0] (fun hg => ok_log_Log_Sum_i1 r_612.2.1 r_612.2.2.1 r_612.2.2.2.1 r_612.2.2.2.2.1 r_612.2.2.2.2.2 _ (hr_620 hg)) (fun hg => by obtain rfl := hr_620d hg; rfl) (by simp only [go_sem, simprocAttr, hw21, hxr_584]; exact Is.mk) (by simp only [go_sem, simprocAttr, hw21, hxr_584]; exact Is.mk) (by simp only [go_sem, simprocAttr, hw21, hxr_584]; exact Is.mk) (by simp only [go_sem, simprocAttr, hw21, hxr_584]; exact Is.mk) (by simp only [go_sem, simprocAttr, hw21, hxr_584]) (by simp only [go_sem, simprocAttr, hw21, hxr_584]) ?cont40
      simp only [go_sem, simprocAttr, hw21, hxr_584]
      first | apply hK36 | refine ⟨sd, hK36 _ _ ?_⟩
      refine cM hm (fun hc41 hm => ?_) (fun hc41 hm => ?_)
      ·refine Wp.seqR fun K42 hK42 => ?_
       simp only [go_sem, simprocAttr, hw21, hxr_584]
       first | apply hK42 | refine ⟨sd, hK42 _ _ ?_⟩
       refine Wp.ret ?_
       refine retQ_ret ?_
       cases hm
       simp only [go_sem, simprocAttr, hw21, hxr_584]
       try exact se3
      ·refine Wp.skip ?_
       refine hK22 _ _ ?_
       refine Wp.region fun K43 hK43 => ?_
       simp only [go_sem, simprocAttr, hw21, hxr_584]
       first | apply hK43 | refine ⟨sd, hK43 _ _ ?_⟩
       simp only [thenQ, blockQ, ↓reduceIte]
       refine ⟨(r_612.2.2.2.2.2, r_612.2.2.2.2.1, r_612.2.1, o3_614, r_612.2.2.1, r_612.2.2.2.1), hlt21, hnx_581 _ hm, ?_⟩
       simp only [go_sem, simprocAttr, hw21, hxr_584]
       try exact se3
     clear hK33 hk_615
     refine Wp.seqR fun K44 hK44 => ?_
     simp only [go_sem, simprocAttr, hw21, hxr_584]
     first | apply hK44 | refine ⟨sd, hK44 _ _ ?_⟩
     refine cM hm (fun hc45 hm => ?_) (fun hc45 hm => ?_)
     ·obtain ⟨c_621, hm⟩ := chk_elim hm
      refine Wp.region fun K46 hK46 => ?_
      simp only [go_sem, simprocAttr, hw21, hxr_584]
      first | apply hK46 | refine ⟨by first | exact sd | ((repeat' apply And.intro) <;> first | assumption | omega | (simp only [List.length_append, List.length_map, List.length_cons, List.length_nil, List.length_set, List.length_replicate] at c_621 ⊢; omega)), hK46 _ _ ?_⟩
      refine hW33 _ _ _ _ ?_ (hcut33 (o3_517 ++ [r_584]) hm)
      simp only [go_sem, simprocAttr, hw21, hxr_584]
      try exact se3
     ·refine Wp.skip ?_
      refine hW33 _ _ _ _ ?_ (hcut33 o3_517 hm)
      simp only [go_sem, simprocAttr, hw21, hxr_584]
      try exact se3
   clear hK27 hk_611
   refine Wp.seqR fun K47 hK47 => ?_
   simp only [go_sem, simprocAttr, hw21, hxr_584]
   first | apply hK47 | refine ⟨sd, hK47 _ _ ?_⟩
   refine cM hm (fun hc48 hm => ?_) (fun hc48 hm => ?_)
   ·obtain ⟨r_622, hr_622, hm⟩ := call_elim hm
    obtain ⟨c_623, hm⟩ := chk_elim hm
    obtain ⟨r_624, hr_624, hm⟩ := call_elim hm
    refine Wp.regDW (plan := (.rd 0 (.rd 2 (.fk 1 [2] (.ef 3 [0] (.ef 4 [] (.rd 5 (.rd 6 .nil)))) 3 [0] (.ef 1 [2] (.ef 4 [] (.rd 5 (.rd 6 .nil)))))))) (by kernel_rfl) rfl (by kernel_rfl) fun K49 hK49 hW49 => ?_
    suffices hcont49 : K49 [(3, .ptr 2 0), (4, .buf 3), (6, .ptr 6 0), (7, .p (.i .i64 r_624)), (20, .p (.l (List.map enc_api_Record (List.take ((min (l_1.length : Int) 60).toNat) l_1)))), (21, .p (.i .i64 ((List.take ((min (l_1.length : Int) 60).toNat) l_1).length : Int))), (22, .p (.i .i64 (i_582 : Int))), (47, .p (.i .i64 e_605)), (48, .p (.b (decide (e_605 = 0)))), (49, .buf 3), (50, .top), (51, .agg [.p (.i .i64 r_584.Time), .p (.i .i64 r_584.Kind), .p (.s r_584.Pack), .p (.i .i64 r_584.From.Major), .p (.i .i64 r_584.From.Minor), .p (.i .i64 r_584.From.Patch), .p (.s r_584.From.Early), .p (.i .i64 r_584.To.Major), .p (.i .i64 r_584.To.Minor), .p (.i .i64 r_584.To.Patch), .p (.s r_584.To.Early), .p (.i .i64 r_584.Result), .p (.s r_584.Note)]), (52, .full (List.map enc_api_Record [r_584])), (53, .buf 7), (54, .p (.i .i64 r_624))] [.mp true (encM Dt.s enc_log_had m0_514), .cells 99 [.mp 0, .p (.i .i64 o1_1_515)], .cells 63 [.buf 4, .buf 5, .p (.s o2_2_516), .ptr 1 0], .buf 30 13 (List.map enc_api_Record o3_517), .buf 30 13 (List.map enc_api_Record o4_518), .buf 9 1 (List.map ecS o5_519), .cells 30 [.p (.i .i64 r_584.Time), .p (.i .i64 r_584.Kind), .p (.s r_584.Pack), .p (.i .i64 r_584.From.Major), .p (.i .i64 r_584.From.Minor), .p (.i .i64 r_584.From.Patch), .p (.s r_584.From.Early), .p (.i .i64 r_584.To.Major), .p (.i .i64 r_584.To.Minor), .p (.i .i64 r_584.To.Patch), .p (.s r_584.To.Early), .p (.i .i64 r_584.Result), .p (.s r_584.Note)], .buf 30 13 (List.map enc_api_Record (r_622 ++ [r_584]))] by
     simp only [go_sem, simprocAttr, hw21, hxr_584]
     try refine ⟨by first | exact sd | ((repeat' apply And.intro) <;> first | assumption | omega | (simp only [List.length_append, List.length_map, List.length_cons, List.length_nil, List.length_set, List.length_replicate] at c_623 ⊢; omega)), ?_⟩
     refine Dr.fk ?_ ?_
     ·
      refine id (Br.callLN (av := ?av50) (o := ?o50) (ok_slices_Clone_api_Record_api_Record_new o3_517 _ hr_622) (flatRs_map (fun _ => rfl) _) (by simp only [go_sem, simprocAttr, hw21, hxr_584]; exact Is.mk) (by simp only [go_sem, simprocAttr, hw21, hxr_584]; exact Is.mk) (by simp only [go_sem, simprocAttr, hw21, hxr_584]; exact Is.mk) (by simp only [go_sem, simprocAttr, hw21, hxr_584]; exact Is.mk) (by simp only [go_sem, simprocAttr, hw21, hxr_584]) (by simp only [go_sem, simprocAttr, hw21, hxr_584]) ?cont50)
      simp only [go_sem, simprocAttr, hw21, hxr_584]
      try refine ⟨by first | exact sd | ((repeat' apply And.intro) <;> first | assumption | omega | (simp only [List.length_append, List.length_map, List.length_cons, List.length_nil, List.length_set, List.length_replicate] at c_623 ⊢; omega)), ?_⟩
      refine Dr.callF (av := ?av51) (g := true) (o := ?o51) (fun hg => ok_R_RecordsError (r_622 ++ [r_584]) _ hr_624) (by simp only [go_sem, simprocAttr, hw21, hxr_584]; exact Is.mk) (by simp only [go_sem, simprocAttr, hw21, hxr_584]; exact Is.mk) (by simp only [go_sem, simprocAttr, hw21, hxr_584]; exact Is.mk) (by simp only [go_sem, simprocAttr, hw21, hxr_584, List.map_append, List.map_cons, List.map_nil]; exact Is.mk) (by simp only [go_sem, simprocAttr, hw21, hxr_584]) (by simp only [go_sem, simprocAttr, hw21, hxr_584]; exact Is.mk) ?cont51
      simp only [go_sem, simprocAttr, hw21, hxr_584]
      first | refine hW49 _ _ _ _ ?_ hcont49 | refine ⟨by first | exact sd | ((repeat' apply And.intro) <;> first | assumption | omega | (simp only [List.length_append, List.length_map, List.length_cons, List.length_nil, List.length_set, List.length_replicate] at c_623 ⊢; omega)), hW49 _ _ _ _ ?_ hcont49⟩
      simp only [go_sem, simprocAttr, hw21, hxr_584]
      try exact se3
     ·
      refine Br.run (o := ?o52) (by simp only [go_sem, simprocAttr, hw21, hxr_584]; exact Is.mk) (by simp only [go_sem, simprocAttr, hw21, hxr_584]; exact Is.mk) ?cont52
      simp only [go_sem, simprocAttr, hw21, hxr_584]
      try refine ⟨by first | exact sd | ((repeat' apply And.intro) <;> first | assumption | omega | (simp only [List.length_append, List.length_map, List.length_cons, List.length_nil, List.length_set, List.length_replicate] at c_623 ⊢; omega)), ?_⟩
      refine Dr.of_br (Br.callLN (av := ?av53) (o := ?o53) (ok_slices_Clone_api_Record_api_Record_new o3_517 _ hr_622) (flatRs_map (fun _ => rfl) _) (by simp only [go_sem, simprocAttr, hw21, hxr_584]; exact Is.mk) (by simp only [go_sem, simprocAttr, hw21, hxr_584]; exact Is.mk) (by simp only [go_sem, simprocAttr, hw21, hxr_584]; exact Is.mk) (by simp only [go_sem, simprocAttr, hw21, hxr_584]; exact Is.mk) (by simp only [go_sem, simprocAttr, hw21, hxr_584]) (by simp only [go_sem, simprocAttr, hw21, hxr_584]) ?cont53)
      simp only [go_sem, simprocAttr, hw21, hxr_584]
      try refine ⟨by first | exact sd | ((repeat' apply And.intro) <;> first | assumption | omega | (simp only [List.length_append, List.length_map, List.length_cons, List.length_nil, List.length_set, List.length_replicate] at c_623 ⊢; omega)), ?_⟩
      refine Dr.callF (av := ?av54) (g := true) (o := ?o54) (fun hg => ok_R_RecordsError (r_622 ++ [r_584]) _ hr_624) (by simp only [go_sem, simprocAttr, hw21, hxr_584]; exact Is.mk) (by simp only [go_sem, simprocAttr, hw21, hxr_584]; exact Is.mk) (by simp only [go_sem, simprocAttr, hw21, hxr_584]; exact Is.mk) (by simp only [go_sem, simprocAttr, hw21, hxr_584, List.map_append, List.map_cons, List.map_nil]; exact Is.mk) (by simp only [go_sem, simprocAttr, hw21, hxr_584]) (by simp only [go_sem, simprocAttr, hw21, hxr_584]; exact Is.mk) ?cont54
      simp only [go_sem, simprocAttr, hw21, hxr_584]
      first | refine hW49 _ _ _ _ ?_ hcont49 | refine ⟨by first | exact sd | ((repeat' apply And.intro) <;> first | assumption | omega | (simp only [List.length_append, List.length_map, List.length_cons, List.length_nil, List.length_set, List.length_replicate] at c_623 ⊢; omega)), hW49 _ _ _ _ ?_ hcont49⟩
      simp only [go_sem, simprocAttr, hw21, hxr_584]
      try exact se3
    refine hK49 _ _ ?_
    refine hW27 _ _ _ _ ?_ (hcut27 r_624 hm)
    simp only [go_sem, simprocAttr, hw21, hxr_584]
    try exact se3
   ·refine Wp.skip ?_
    refine hW27 _ _ _ _ ?_ (hcut27 e_605 hm)
    simp only [go_sem, simprocAttr, hw21, hxr_584]
    try exact se3
  clear hK26 hk_606
  obtain ⟨c_625, hm⟩ := chk_elim hm
  obtain ⟨v_626, hv_627, hm⟩ := letv_elim hm
  obtain ⟨v_628, hv_629, hm⟩ := letv_elim hm
  refine Wp.seqDW (plan := pl [(0, none), (1, none), (2, none), (3, none), (4, none), (5, none), (6, none), (7, none), (8, none), (9, none), (10, none), (11, none), (12, none), (13, none), (14, none), (15, none), (16, none), (17, none), (18, none)]) (by kernel_rfl) rfl (by kernel_rfl) fun K55 hK55 hW55 => ?_
  suffices hcont55 : K55 [(3, .ptr 2 0), (4, .buf 3), (6, .ptr 6 0), (7, .p (.i .i64 r_585)), (20, .p (.l (List.map enc_api_Record (List.take ((min (l_1.length : Int) 60).toNat) l_1)))), (21, .p (.i .i64 ((List.take ((min (l_1.length : Int) 60).toNat) l_1).length : Int))), (22, .p (.i .i64 (i_582 : Int))), (23, .p (.b (decide ((i_582 : Int) < ((List.take ((min (l_1.length : Int) 60).toNat) l_1).length : Int))))), (24, .rp [.i .i64 r_584.Time, .i .i64 r_584.Kind, .s r_584.Pack, .i .i64 r_584.From.Major, .i .i64 r_584.From.Minor, .i .i64 r_584.From.Patch, .s r_584.From.Early, .i .i64 r_584.To.Major, .i .i64 r_584.To.Minor, .i .i64 r_584.To.Patch, .s r_584.To.Early, .i .i64 r_584.Result, .s r_584.Note]), (25, .agg [.p (.i .i64 r_584.Time), .p (.i .i64 r_584.Kind), .p (.s r_584.Pack), .p (.i .i64 r_584.From.Major), .p (.i .i64 r_584.From.Minor), .p (.i .i64 r_584.From.Patch), .p (.s r_584.From.Early), .p (.i .i64 r_584.To.Major), .p (.i .i64 r_584.To.Minor), .p (.i .i64 r_584.To.Patch), .p (.s r_584.To.Early), .p (.i .i64 r_584.Result), .p (.s r_584.Note)]), (26, .agg [.p (.i .i64 r_584.Time), .p (.i .i64 r_584.Kind), .p (.s r_584.Pack), .p (.i .i64 r_584.From.Major), .p (.i .i64 r_584.From.Minor), .p (.i .i64 r_584.From.Patch), .p (.s r_584.From.Early), .p (.i .i64 r_584.To.Major), .p (.i .i64 r_584.To.Minor), .p (.i .i64 r_584.To.Patch), .p (.s r_584.To.Early), .p (.i .i64 r_584.Result), .p (.s r_584.Note)]), (27, .p (.i .i64 r_585)), (28, .p (.i .i64 r_585)), (29, .p (.b (decide (r_585 = 0)))), (30, .p (.b (decide (r_585 = 0)))), (34, .p (.b ((decide (r_585 = 0)) && (decide (0 < (o3_517.length : Int)))))), (35, .p (.b ((decide (r_585 = 0)) && (decide (0 < (o3_517.length : Int)))))), (46, .p (.b v_628))] [.mp true (encM Dt.s enc_log_had m0_514), .cells 99 [.mp 0, .p (.i .i64 o1_1_515)], .cells 63 [.buf 4, .buf 5, .p (.s o2_2_516), .ptr 1 0], .buf 30 13 (List.map enc_api_Record o3_517), .buf 30 13 (List.map enc_api_Record o4_518), .buf 9 1 (List.map ecS o5_519), .cells 30 [.p (.i .i64 r_584.Time), .p (.i .i64 r_584.Kind), .p (.s r_584.Pack), .p (.i .i64 r_584.From.Major), .p (.i .i64 r_584.From.Minor), .p (.i .i64 r_584.From.Patch), .p (.s r_584.From.Early), .p (.i .i64 r_584.To.Major), .p (.i .i64 r_584.To.Minor), .p (.i .i64 r_584.To.Patch), .p (.s r_584.To.Early), .p (.i .i64 r_584.Result), .p (.s r_584.Note)]] by
   rcases Bool.eq_false_or_eq_true ((decide (r_585 = 0)) && (decide (0 < (o3_517.length : Int)))) with hg_630 | hg_630
   ·
    have c_631 := c_625 hg_630
    try dsimp only at c_631
    have ha_632 : (decide (0 < (o3_517.length : Int))) = true := by revert hg_630; generalize decide (0 < (o3_517.length : Int)) = x0; generalize decide (r_585 = 0) = x1; revert x0 x1; decide
    have ha_633 : (decide (r_585 = 0)) = true := by revert hg_630; generalize decide (0 < (o3_517.length : Int)) = x0; generalize decide (r_585 = 0) = x1; revert x0 x1; decide
    have hr_634 := fun h => getD_encB (l := o3_517) (e := enc_api_Record) (d := (api_Record.mk 0 0 [] (api_Version.mk 0 0 0 []) (api_Version.mk 0 0 0 []) 0 [])) (i := (IntKind.i64.wrap ((o3_517.length : Int) - 1)).toNat) h []
    subst hv_629
    simp only [go_sem, simprocAttr, false_implies, and_true, true_and, bad, hw21, hxr_584, hv_627, hg_630, ha_632, ha_633, hr_634 (by omega)]
    first | refine hW55 _ _ _ _ ?_ hcont55 | refine ⟨by first | exact sd | ((repeat' apply And.intro) <;> first | assumption | omega | (simp only [List.length_append, List.length_map, List.length_cons, List.length_nil, List.length_set, List.length_replicate] at c_625 c_631 ⊢; omega)), hW55 _ _ _ _ ?_ hcont55⟩
    simp only [go_sem, simprocAttr, false_implies, and_true, true_and, bad, hw21, hxr_584, hv_627, hg_630, ha_632, ha_633, hr_634 (by omega)]
    try exact se3
   ·
    rcases Bool.eq_false_or_eq_true (decide (0 < (o3_517.length : Int))) with hg_635 | hg_635
    ·
     have ha_636 : (decide (r_585 = 0)) = false := by revert hg_630 hg_635; generalize decide (0 < (o3_517.length : Int)) = x0; generalize decide (r_585 = 0) = x1; revert x0 x1; decide
     rcases Nat.lt_or_ge ((IntKind.i64.wrap ((o3_517.length : Int) - 1)).toNat) o3_517.length with hi_637 | hi_637
     ·
      have hr_638 := getD_encB (l := o3_517) (e := enc_api_Record) (d := (api_Record.mk 0 0 [] (api_Version.mk 0 0 0 []) (api_Version.mk 0 0 0 []) 0 [])) (i := (IntKind.i64.wrap ((o3_517.length : Int) - 1)).toNat) hi_637 []
      subst hv_629
      simp only [go_sem, simprocAttr, false_implies, and_true, true_and, bad, hw21, hxr_584, hv_627, hg_630, hg_635, ha_636, hr_638]
      first | refine hW55 _ _ _ _ ?_ hcont55 | refine ⟨by first | exact sd | ((repeat' apply And.intro) <;> first | assumption | omega | (simp only [List.length_append, List.length_map, List.length_cons, List.length_nil, List.length_set, List.length_replicate] at c_625 ⊢; omega)), hW55 _ _ _ _ ?_ hcont55⟩
      simp only [go_sem, simprocAttr, false_implies, and_true, true_and, bad, hw21, hxr_584, hv_627, hg_630, hg_635, ha_636, hr_638]
      try exact se3
     ·
      have hr_638 : (List.map enc_api_Record o3_517).getD ((IntKind.i64.wrap ((o3_517.length : Int) - 1)).toNat) [] = [] := by rw [List.getD_eq_getElem?_getD, List.getElem?_eq_none (by simpa using hi_637)]; rfl
      subst hv_629
      simp only [go_sem, simprocAttr, false_implies, and_true, true_and, bad, hw21, hxr_584, hv_627, hg_630, hg_635, ha_636, hr_638]
      first | refine hW55 _ _ _ _ ?_ hcont55 | refine ⟨by first | exact sd | ((repeat' apply And.intro) <;> first | assumption | omega | (simp only [List.length_append, List.length_map, List.length_cons, List.length_nil, List.length_set, List.length_replicate] at c_625 ⊢; omega)), hW55 _ _ _ _ ?_ hcont55⟩
      simp only [go_sem, simprocAttr, false_implies, and_true, true_and, bad, hw21, hxr_584, hv_627, hg_630, hg_635, ha_636, hr_638]
      try exact se3
    ·
     rcases Bool.eq_false_or_eq_true (decide (r_585 = 0)) with hg_639 | hg_639
     ·
      rcases Nat.lt_or_ge ((IntKind.i64.wrap ((o3_517.length : Int) - 1)).toNat) o3_517.length with hi_640 | hi_640
      ·
       have hr_641 := getD_encB (l := o3_517) (e := enc_api_Record) (d := (api_Record.mk 0 0 [] (api_Version.mk 0 0 0 []) (api_Version.mk 0 0 0 []) 0 [])) (i := (IntKind.i64.wrap ((o3_517.length : Int) - 1)).toNat) hi_640 []
       subst hv_629
       simp only [go_sem, simprocAttr, false_implies, and_true, true_and, bad, hw21, hxr_584, hv_627, hg_630, hg_635, hg_639, hr_641]
       first | refine hW55 _ _ _ _ ?_ hcont55 | refine ⟨by first | exact sd | ((repeat' apply And.intro) <;> first | assumption | omega | (simp only [List.length_append, List.length_map, List.length_cons, List.length_nil, List.length_set, List.length_replicate] at c_625 ⊢; omega)), hW55 _ _ _ _ ?_ hcont55⟩
       simp only [go_sem, simprocAttr, false_implies, and_true, true_and, bad, hw21, hxr_584, hv_627, hg_630, hg_635, hg_639, hr_641]
       try exact se3
      ·
       have hr_641 : (List.map enc_api_Record o3_517).getD ((IntKind.i64.wrap ((o3_517.length : Int) - 1)).toNat) [] = [] := by rw [List.getD_eq_getElem?_getD, List.getElem?_eq_none (by simpa using hi_640)]; rfl
       subst hv_629
       simp only [go_sem, simprocAttr, false_implies, and_true, true_and, bad, hw21, hxr_584, hv_627, hg_630, hg_635, hg_639, hr_641]
       first | refine hW55 _ _ _ _ ?_ hcont55 | refine ⟨by first | exact sd | ((repeat' apply And.intro) <;> first | assumption | omega | (simp only [List.length_append, List.length_map, List.length_cons, List.length_nil, List.length_set, List.length_replicate] at c_625 ⊢; omega)), hW55 _ _ _ _ ?_ hcont55⟩
       simp only [go_sem, simprocAttr, false_implies, and_true, true_and, bad, hw21, hxr_584, hv_627, hg_630, hg_635, hg_639, hr_641]
       try exact se3
     ·
      rcases Nat.lt_or_ge ((IntKind.i64.wrap ((o3_517.length : Int) - 1)).toNat) o3_517.length with hi_642 | hi_642
      ·
       have hr_643 := getD_encB (l := o3_517) (e := enc_api_Record) (d := (api_Record.mk 0 0 [] (api_Version.mk 0 0 0 []) (api_Version.mk 0 0 0 []) 0 [])) (i := (IntKind.i64.wrap ((o3_517.length : Int) - 1)).toNat) hi_642 []
       subst hv_629
       simp only [go_sem, simprocAttr, false_implies, and_true, true_and, bad, hw21, hxr_584, hv_627, hg_630, hg_635, hg_639, hr_643]
       first | refine hW55 _ _ _ _ ?_ hcont55 | refine ⟨by first | exact sd | ((repeat' apply And.intro) <;> first | assumption | omega | (simp only [List.length_append, List.length_map, List.length_cons, List.length_nil, List.length_set, List.length_replicate] at c_625 ⊢; omega)), hW55 _ _ _ _ ?_ hcont55⟩
       simp only [go_sem, simprocAttr, false_implies, and_true, true_and, bad, hw21, hxr_584, hv_627, hg_630, hg_635, hg_639, hr_643]
       try exact se3
      ·
       have hr_643 : (List.map enc_api_Record o3_517).getD ((IntKind.i64.wrap ((o3_517.length : Int) - 1)).toNat) [] = [] := by rw [List.getD_eq_getElem?_getD, List.getElem?_eq_none (by simpa using hi_642)]; rfl
       subst hv_629
       simp only [go_sem, simprocAttr, false_implies, and_true, true_and, bad, hw21, hxr_584, hv_627, hg_630, hg_635, hg_639, hr_643]
       first | refine hW55 _ _ _ _ ?_ hcont55 | refine ⟨by first | exact sd | ((repeat' apply And.intro) <;> first | assumption | omega | (simp only [List.length_append, List.length_map, List.length_cons, List.length_nil, List.length_set, List.length_replicate] at c_625 ⊢; omega)), hW55 _ _ _ _ ?_ hcont55⟩
       simp only [go_sem, simprocAttr, false_implies, and_true, true_and, bad, hw21, hxr_584, hv_627, hg_630, hg_635, hg_639, hr_643]
       try exact se3
  refine hK55 _ _ ?_
  refine cM hm (fun hc56 hm => ?_) (fun hc56 hm => ?_)
  ·refine Wp.region fun K57 hK57 => ?_
   simp only [go_sem, simprocAttr, hw21, hxr_584, hv_627, hv_629]
   first | apply hK57 | refine ⟨sd, hK57 _ _ ?_⟩
   refine hW26 _ _ _ _ ?_ (hcut26 7 hm)
   simp only [go_sem, simprocAttr, hw21, hxr_584, hv_627, hv_629]
   try exact se3
  ·refine Wp.skip ?_
   refine hW26 _ _ _ _ ?_ (hcut26 r_585 hm)
   simp only [go_sem, simprocAttr, hw21, hxr_584, hv_627, hv_629]
   try exact se3
end Go.Proofs.YtmnohdgjkcjdeaaGreatDoor
