/- That the code does what the models say (part 8). -/
import Derived.Test.YtmnohdgjkcjdeaaGreatDoorLwWk0
import Derived.Test.YtmnohdgjkcjdeaaGreatDoorLwWk1
import Derived.Test.YtmnohdgjkcjdeaaGreatDoorLwWk4
import Derived.Test.YtmnohdgjkcjdeaaGreatDoorLwWk6
import Derived.Test.YtmnohdgjkcjdeaaGreatDoorLwWk7
set_option linter.unusedSimpArgs false
set_option linter.unusedVariables false
open Go.Proofs Go.Shelf
namespace Go.Proofs.YtmnohdgjkcjdeaaGreatDoor
open Go.Vc Go.Md
set_option maxRecDepth 100000
set_option maxHeartbeats 4000000
theorem ok_log_Open (text_1 : Str) (z : Int × Int × (List (Str × log_had)) × Int × Str × List api_Record × List Str) (hm : log_Open text_1 = some z) : Does Tryz.prog 18 [.p (.s text_1)] [] (fun r X => r = .tup [.ptr 2 0, .p (.i .i64 z.1), .p (.i .i64 z.2.1)] ∧ X = [.mp true (encM Dt.s enc_log_had z.2.2.1), .cells 99 [.mp 0, .p (.i .i64 z.2.2.2.1)], .cells 63 [.buf 3, .buf 4, .p (.s z.2.2.2.2.1), .ptr 1 0], .buf 30 13 (List.map enc_api_Record z.2.2.2.2.2.1), .buf 9 1 (List.map ecS z.2.2.2.2.2.2)]) := by
 unfold log_Open at hm
 refine Does.of_wp 5 68 [.tmp 2, .tmp 3, .tmp 4] Tryz.func18 rfl (by decide) rfl rfl (Nat.le_of_ble_eq_true rfl) fun B => ?_
 refine qS ?_
 refine Wp.seqW fun K2 hK2 hW2 => ?_
 refine qS ?_
 refine cM hm (fun hc4 hm => ?_) (fun hc4 hm => ?_)
 ·refine qS ?_
  refine Wp.ret ?_
  simp only [thenQ, blockQ]
  cases hm
 ·refine Wp.skip ?_
  refine hK2 _ _ ?_
  obtain ⟨r_220, hr_220, hm⟩ := call_elim hm
  refine Wp.seqR fun K6 hK6 => ?_
  simp only [go_sem, simprocAttr]
  try refine ⟨sd, ?_⟩
  refine Rg.callO (av := ?av7) [] (ok_log_New  _ hr_220) si si si sg sg ?cont7
  rintro _ _ ⟨rfl, rfl⟩ hv7
  simp only [go_sem, simprocAttr]
  first | apply hK6 | refine ⟨sd, hK6 _ _ ?_⟩
  refine Wp.seqW fun K8 hK8 hW8 => ?_
  obtain ⟨k_329, hk_329, hm⟩ := jp_elim hm
  have hcut8 : ∀ s, k_329 s = some z → K8 [(5, .ptr 2 0)] [.mp true (encM Dt.s enc_log_had s.1), .cells 99 [.mp 0, .p (.i .i64 s.2.1)], .cells 63 [.buf 3, .buf 4, .p (.s s.2.2.1), .ptr 1 0], .buf 30 13 (List.map enc_api_Record s.2.2.2.1), .buf 9 1 (List.map ecS s.2.2.2.2)] := by
   intro s hs
   have hm := hk_329 _ hs
   clear hs
   obtain ⟨m0_324, o1_1_325, o2_2_326, o3_327, o4_328⟩ := s
   try dsimp only at hm
   try dsimp only
   refine hK8 _ _ ?_
   refine Wp.seqD (plan := pl [(0, none), (1, none), (2, none), (3, none), (4, none), (5, none), (6, none), (7, none), (8, none)]) (by kernel_rfl) rfl (by kernel_rfl) fun K9 hK9 => ?_
   simp only [go_sem, simprocAttr]
   first | apply hK9 | refine ⟨sd, hK9 _ _ ?_⟩
   refine Wp.ret ?_
   refine retQ_ret ?_
   cases hm
   exact fse3
  clear hK8 hk_329
  refine Wp.block ?_
  refine Wp.adoptO 2 0 30 13 rfl rfl ?_
  simp only [go_sem, simprocAttr]
  refine Wp.adoptO 2 1 9 1 rfl rfl ?_
  simp only [go_sem, simprocAttr]
  obtain ⟨k_415, hk_415, hm⟩ := loopN_cont hm
  refine Wp.loopN (fun s => [(0, .p (.s s.1)), (5, .ptr 2 0)]) (fun s => [.mp true (encM Dt.s enc_log_had s.2.1), .cells 99 [.mp 0, .p (.i .i64 s.2.2.1)], .cells 63 [.buf 3, .buf 4, .p (.s s.2.2.2.1), .ptr 1 0], .buf 30 13 (List.map enc_api_Record s.2.2.2.2.1), .buf 9 1 (List.map ecS s.2.2.2.2.2)]) ?_ hm ?_
  ·
   exact fse3
  clear hm
  intro s nx_416 hm
  obtain ⟨text_393, m0_394, o1_1_395, o2_2_396, o3_397, o4_398⟩ := s
  try dsimp only at hm
  try dsimp only
  refine Wp.block ?_
  obtain ⟨r_417, hr_417, hm⟩ := call_elim hm
  refine Wp.seqR fun K10 hK10 => ?_
  simp only [go_sem, simprocAttr]
  try refine ⟨sd, ?_⟩
  refine Rg.callX (av := ?av11) (g := true) (fun hg => ok_strings_Cut text_393 ([10] : Str) _ hr_417) si si si sg si ?cont11
  intro hv11
  simp only [go_sem, simprocAttr]
  first | apply hK10 | refine ⟨sd, hK10 _ _ ?_⟩
  obtain ⟨r_418, hr_418, hm⟩ := call_elim hm
  refine Wp.seqR fun K12 hK12 => ?_
  simp only [go_sem, simprocAttr]
  try refine ⟨sd, ?_⟩
  refine Rg.callX (av := ?av13) (g := true) (fun hg => ok_strings_LastIndexByte r_417.1 32 _ hr_418) si si si sg si ?cont13
  intro hv13
  simp only [go_sem, simprocAttr]
  first | apply hK12 | refine ⟨sd, hK12 _ _ ?_⟩
  refine Wp.seqW fun K14 hK14 hW14 => ?_
  refine qS ?_
  refine cM hm (fun hc16 hm => ?_) (fun hc16 hm => ?_)
  ·refine Wp.exit ?_
   simp only [thenQ, blockQ, ↓reduceIte]
   have hm := hk_415 _ hm
   try dsimp only at hm
   refine hW8 _ _ _ _ ?_ (hcut8 (m0_394, o1_1_395, o2_2_396, o3_397, o4_398) hm)
   exact fse3
  ·refine Wp.skip ?_
   refine hK14 _ _ ?_
   obtain ⟨c_419, hm⟩ := chk_elim hm
   obtain ⟨r_420, hr_420, hm⟩ := call_elim hm
   refine Wp.seqR fun K17 hK17 => ?_
   simp only [go_sem, simprocAttr]
   try refine ⟨by first | exact sd | ((repeat' apply And.intro) <;> first | assumption | omega | (simp only [List.length_append, List.length_map, List.length_cons, List.length_nil, List.length_set, List.length_replicate] at c_419 ⊢; omega)), ?_⟩
   refine Rg.callX (av := ?av18) (g := true) (fun hg => ok_log_ParseRecord (List.take r_418.toNat r_417.1) _ hr_420) si si si sg si ?cont18
   intro hv18
   simp only [go_sem, simprocAttr]
   first | apply hK17 | refine ⟨by first | exact sd | ((repeat' apply And.intro) <;> first | assumption | omega | (simp only [List.length_append, List.length_map, List.length_cons, List.length_nil, List.length_set, List.length_replicate] at c_419 ⊢; omega)), hK17 _ _ ?_⟩
   refine Wp.seqW fun K19 hK19 hW19 => ?_
   obtain ⟨c_421, hm⟩ := chk_elim hm
   obtain ⟨c_422, hm⟩ := chk_elim hm
   obtain ⟨c_423, hm⟩ := chk_elim hm
   obtain ⟨r_424, hr_424, hm⟩ := callG_elim hm
   obtain ⟨r_425, hr_425, hr_425d, hm⟩ := callG_elim2 hm
   refine Wp.seqDW (plan := pl [(0, none), (1, none), (2, none), (3, none), (4, none), (5, none), (6, none), (7, none), (8, none), (9, none), (10, none), (11, none), (12, none), (13, none), (14, none), (15, none), (16, none), (17, none), (18, none), (19, none), (20, none), (21, some []), (22, none), (23, none)]) (by kernel_rfl) rfl (by kernel_rfl) fun K20 hK20 hW20 => ?_
   suffices hcont20 : K20 [(0, .p (.s text_393)), (5, .ptr 2 0), (6, .p (.s r_417.1)), (7, .p (.s r_417.2.1)), (8, .p (.b r_417.2.2)), (9, .p (.i .i64 r_418)), (10, .ptr 5 0), (11, .p (.i .i64 r_420.2)), (16, .tup [.p (.s r_417.1), .p (.s r_417.2.1), .p (.b r_417.2.2)]), (17, .p (.s text_393)), (18, .tup [.p (.s r_417.1), .p (.s r_417.2.1), .p (.b r_417.2.2)]), (19, .p (.s r_417.1)), (20, .p (.s r_417.2.1)), (21, .p (.b r_417.2.2)), (22, .p (.s r_417.1)), (23, .p (.i .i64 r_418)), (24, .p (.b r_417.2.2)), (25, .p (.b (!r_417.2.2))), (26, .p (.b (!r_417.2.2))), (29, .p (.b ((!r_417.2.2) || (decide (r_418 < 0))))), (30, .tup [.agg [.p (.i .i64 r_420.1.Time), .p (.i .i64 r_420.1.Kind), .p (.s r_420.1.Pack), .p (.i .i64 r_420.1.From.Major), .p (.i .i64 r_420.1.From.Minor), .p (.i .i64 r_420.1.From.Patch), .p (.s r_420.1.From.Early), .p (.i .i64 r_420.1.To.Major), .p (.i .i64 r_420.1.To.Minor), .p (.i .i64 r_420.1.To.Patch), .p (.s r_420.1.To.Early), .p (.i .i64 r_420.1.Result), .p (.s r_420.1.Note)], .p (.i .i64 r_420.2)]), (31, .p (.s r_417.1)), (32, .p (.i .i64 r_418)), (33, .p (.s (List.take r_418.toNat r_417.1))), (34, .tup [.agg [.p (.i .i64 r_420.1.Time), .p (.i .i64 r_420.1.Kind), .p (.s r_420.1.Pack), .p (.i .i64 r_420.1.From.Major), .p (.i .i64 r_420.1.From.Minor), .p (.i .i64 r_420.1.From.Patch), .p (.s r_420.1.From.Early), .p (.i .i64 r_420.1.To.Major), .p (.i .i64 r_420.1.To.Minor), .p (.i .i64 r_420.1.To.Patch), .p (.s r_420.1.To.Early), .p (.i .i64 r_420.1.Result), .p (.s r_420.1.Note)], .p (.i .i64 r_420.2)]), (35, .agg [.p (.i .i64 r_420.1.Time), .p (.i .i64 r_420.1.Kind), .p (.s r_420.1.Pack), .p (.i .i64 r_420.1.From.Major), .p (.i .i64 r_420.1.From.Minor), .p (.i .i64 r_420.1.From.Patch), .p (.s r_420.1.From.Early), .p (.i .i64 r_420.1.To.Major), .p (.i .i64 r_420.1.To.Minor), .p (.i .i64 r_420.1.To.Patch), .p (.s r_420.1.To.Early), .p (.i .i64 r_420.1.Result), .p (.s r_420.1.Note)]), (36, .p (.i .i64 r_420.2)), (37, .p (.i .i64 r_420.2)), (38, .p (.b (!decide (r_420.2 = 0)))), (39, .p (.b (!decide (r_420.2 = 0)))), (54, .p (.b ((!decide (r_420.2 = 0)) || (!decide ((List.drop ((IntKind.i64.wrap (r_418 + 1)).toNat) r_417.1) = r_424))))), (55, .p (.b ((!decide (r_420.2 = 0)) || (!decide ((List.drop ((IntKind.i64.wrap (r_418 + 1)).toNat) r_417.1) = r_424))))), (60, .p (.b (((!decide (r_420.2 = 0)) || (!decide ((List.drop ((IntKind.i64.wrap (r_418 + 1)).toNat) r_417.1) = r_424))) || (!decide (r_425.1 = 0)))))] [.mp true (encM Dt.s enc_log_had r_425.2.2.2.2.2), .cells 99 [.mp 0, .p (.i .i64 r_425.2.2.2.2.1)], .cells 63 [.buf 3, .buf 4, .p (.s r_425.2.1), .ptr 1 0], .buf 30 13 (List.map enc_api_Record r_425.2.2.1), .buf 9 1 (List.map ecS r_425.2.2.2.1), .cells 30 [.p (.i .i64 r_420.1.Time), .p (.i .i64 r_420.1.Kind), .p (.s r_420.1.Pack), .p (.i .i64 r_420.1.From.Major), .p (.i .i64 r_420.1.From.Minor), .p (.i .i64 r_420.1.From.Patch), .p (.s r_420.1.From.Early), .p (.i .i64 r_420.1.To.Major), .p (.i .i64 r_420.1.To.Minor), .p (.i .i64 r_420.1.To.Patch), .p (.s r_420.1.To.Early), .p (.i .i64 r_420.1.Result), .p (.s r_420.1.Note)]] by
    rcases Bool.eq_false_or_eq_true (!((!decide (r_420.2 = 0)) || (!decide ((List.drop ((IntKind.i64.wrap (r_418 + 1)).toNat) r_417.1) = r_424)))) with hg_426 | hg_426
    ·
     have hn_427 : ((!decide (r_420.2 = 0)) || (!decide ((List.drop ((IntKind.i64.wrap (r_418 + 1)).toNat) r_417.1) = r_424))) = false := by simpa only [Bool.not_eq_false', Bool.not_eq_true'] using hg_426
     have ha_428 : ((!decide (r_420.2 = 0)) || (!decide ((List.drop ((IntKind.i64.wrap (r_418 + 1)).toNat) r_417.1) = r_424))) = false := by revert hg_426; generalize decide ((List.drop ((IntKind.i64.wrap (r_418 + 1)).toNat) r_417.1) = r_424) = x0; generalize decide (r_420.2 = 0) = x1; revert x0 x1; decide
     have ha_429 : (decide ((List.drop ((IntKind.i64.wrap (r_418 + 1)).toNat) r_417.1) = r_424)) = true := by revert hg_426; generalize decide ((List.drop ((IntKind.i64.wrap (r_418 + 1)).toNat) r_417.1) = r_424) = x0; generalize decide (r_420.2 = 0) = x1; revert x0 x1; decide
     have ha_430 : (decide (r_420.2 = 0)) = true := by revert hg_426; generalize decide ((List.drop ((IntKind.i64.wrap (r_418 + 1)).toNat) r_417.1) = r_424) = x0; generalize decide (r_420.2 = 0) = x1; revert x0 x1; decide
     simp only [go_sem, simprocAttr, false_implies, and_true, true_and, bad, hg_426, hn_427, ha_428, ha_429, ha_430]
     try refine ⟨by first | exact sd | ((repeat' apply And.intro) <;> first | assumption | omega | (simp only [List.length_append, List.length_map, List.length_cons, List.length_nil, List.length_set, List.length_replicate] at c_421 c_422 c_423 ⊢; omega)), ?_⟩
     refine Dr.callF (av := ?av21) (g := !(!decide (r_420.2 = 0))) (o := ?o21) (fun hg => ok_disk_SumOf (o2_2_396 ++ (List.take r_418.toNat r_417.1)) _ (hr_424 hg)) (by simp only [go_sem, simprocAttr, false_implies, and_true, true_and, bad, hg_426, hn_427, ha_428, ha_429, ha_430]; exact Is.mk) (by simp only [go_sem, simprocAttr, false_implies, and_true, true_and, bad, hg_426, hn_427, ha_428, ha_429, ha_430]; exact Is.mk) (by simp only [go_sem, simprocAttr, false_implies, and_true, true_and, bad, hg_426, hn_427, ha_428, ha_429, ha_430]; exact Is.mk) (by simp only [go_sem, simprocAttr, false_implies, and_true, true_and, bad, hg_426, hn_427, ha_428, ha_429, ha_430]; exact Is.mk) (by simp only [go_sem, simprocAttr, false_implies, and_true, true_and, bad, hg_426, hn_427, ha_428, ha_429, ha_430]) (by simp only [go_sem, simprocAttr, false_implies, and_true, true_and, bad, hg_426, hn_427, ha_428, ha_429, ha_430]; exact Is.mk) ?cont21
     simp only [go_sem, simprocAttr, false_implies, and_true, true_and, bad, hg_426, hn_427, ha_428, ha_429, ha_430]
     try refine ⟨by first | exact sd | ((repeat' apply And.intro) <;> first | assumption | omega | (simp only [List.length_append, List.length_map, List.length_cons, List.length_nil, List.length_set, List.length_replicate] at c_421 c_422 c_423 ⊢; omega)), ?_⟩
     refine Dr.of_br (Br.callEG (av := ?av22) (o := ?o22) [2, 3, 4, 1, 0] (ok_log_Log_Add_i1 r_420.1 o2_2_396 o3_397 o4_398 o1_1_395 m0_394 _ (hr_425 hg_426)) (by simp only [go_sem, simprocAttr, false_implies, and_true, true_and, bad, hg_426, hn_427, ha_428, ha_429, ha_430]; exact Is.mk) (by simp only [go_sem, simprocAttr, false_implies, and_true, true_and, bad, hg_426, hn_427, ha_428, ha_429, ha_430]; exact Is.mk) (by simp only [go_sem, simprocAttr, false_implies, and_true, true_and, bad, hg_426, hn_427, ha_428, ha_429, ha_430]; exact Is.mk) (by simp only [go_sem, simprocAttr, false_implies, and_true, true_and, bad, hg_426, hn_427, ha_428, ha_429, ha_430]; exact Is.mk) (by simp only [go_sem, simprocAttr, false_implies, and_true, true_and, bad, hg_426, hn_427, ha_428, ha_429, ha_430]; exact Is.mk) (by simp only [go_sem, simprocAttr, false_implies, and_true, true_and, bad, hg_426, hn_427, ha_428, ha_429, ha_430]) (by simp only [go_sem, simprocAttr, false_implies, and_true, true_and, bad, hg_426, hn_427, ha_428, ha_429, ha_430]) ?hag22 ?cont22)
     case hag22 => first | (simp only [go_sem, simprocAttr, false_implies, and_true, true_and, bad, hg_426, hn_427, ha_428, ha_429, ha_430]; done) | (simp only [go_sem, simprocAttr, false_implies, and_true, true_and, bad, hg_426, hn_427, ha_428, ha_429, ha_430]; exact sd)
     simp only [go_sem, simprocAttr, false_implies, and_true, true_and, bad, hg_426, hn_427, ha_428, ha_429, ha_430]
     first | refine hW20 _ _ _ _ ?_ hcont20 | refine ⟨by first | exact sd | ((repeat' apply And.intro) <;> first | assumption | omega | (simp only [List.length_append, List.length_map, List.length_cons, List.length_nil, List.length_set, List.length_replicate] at c_421 c_422 c_423 ⊢; omega)), hW20 _ _ _ _ ?_ hcont20⟩
     simp only [go_sem, simprocAttr, false_implies, and_true, true_and, bad, hg_426, hn_427, ha_428, ha_429, ha_430]
     try exact se3
    ·
     have hn_431 : ((!decide (r_420.2 = 0)) || (!decide ((List.drop ((IntKind.i64.wrap (r_418 + 1)).toNat) r_417.1) = r_424))) = true := by simpa only [Bool.not_eq_false', Bool.not_eq_true'] using hg_426
     have ha_432 : ((!decide (r_420.2 = 0)) || (!decide ((List.drop ((IntKind.i64.wrap (r_418 + 1)).toNat) r_417.1) = r_424))) = true := by revert hg_426; generalize decide ((List.drop ((IntKind.i64.wrap (r_418 + 1)).toNat) r_417.1) = r_424) = x0; generalize decide (r_420.2 = 0) = x1; revert x0 x1; decide
     simp only [go_sem, simprocAttr, false_implies, and_true, true_and, bad, hg_426, hn_431, ha_432]
     try refine ⟨by first | exact sd | ((repeat' apply And.intro) <;> first | assumption | omega | (simp only [List.length_append, List.length_map, List.length_cons, List.length_nil, List.length_set, List.length_replicate] at c_421 c_422 c_423 ⊢; omega)), ?_⟩
     refine Dr.callF (av := ?av23) (g := !(!decide (r_420.2 = 0))) (o := ?o23) (fun hg => ok_disk_SumOf (o2_2_396 ++ (List.take r_418.toNat r_417.1)) _ (hr_424 hg)) (by simp only [go_sem, simprocAttr, false_implies, and_true, true_and, bad, hg_426, hn_431, ha_432]; exact Is.mk) (by simp only [go_sem, simprocAttr, false_implies, and_true, true_and, bad, hg_426, hn_431, ha_432]; exact Is.mk) (by simp only [go_sem, simprocAttr, false_implies, and_true, true_and, bad, hg_426, hn_431, ha_432]; exact Is.mk) (by simp only [go_sem, simprocAttr, false_implies, and_true, true_and, bad, hg_426, hn_431, ha_432]; exact Is.mk) (by simp only [go_sem, simprocAttr, false_implies, and_true, true_and, bad, hg_426, hn_431, ha_432]) (by simp only [go_sem, simprocAttr, false_implies, and_true, true_and, bad, hg_426, hn_431, ha_432]; exact Is.mk) ?cont23
     simp only [go_sem, simprocAttr, false_implies, and_true, true_and, bad, hg_426, hn_431, ha_432]
     try refine ⟨by first | exact sd | ((repeat' apply And.intro) <;> first | assumption | omega | (simp only [List.length_append, List.length_map, List.length_cons, List.length_nil, List.length_set, List.length_replicate] at c_421 c_422 c_423 ⊢; omega)), ?_⟩
     obtain rfl := hr_425d hg_426
     refine Dr.of_br (Br.skipG (o := ?o24) (v := .top) (gw := ?gw24) (by simp only [go_sem, simprocAttr, false_implies, and_true, true_and, bad, hg_426, hn_431, ha_432]; exact Is.mk) (by simp only [go_sem, simprocAttr, false_implies, and_true, true_and, bad, hg_426, hn_431, ha_432]; exact Is.mk) (by simp only [go_sem, simprocAttr, false_implies, and_true, true_and, bad, hg_426, hn_431, ha_432]; exact Is.mk) (by simp only [go_sem, simprocAttr, false_implies, and_true, true_and, bad, hg_426, hn_431, ha_432]) ?cont24)
     simp only [go_sem, simprocAttr, false_implies, and_true, true_and, bad, hg_426, hn_431, ha_432]
     first | refine hW20 _ _ _ _ ?_ hcont20 | refine ⟨by first | exact sd | ((repeat' apply And.intro) <;> first | assumption | omega | (simp only [List.length_append, List.length_map, List.length_cons, List.length_nil, List.length_set, List.length_replicate] at c_421 c_422 c_423 ⊢; omega)), hW20 _ _ _ _ ?_ hcont20⟩
     simp only [go_sem, simprocAttr, false_implies, and_true, true_and, bad, hg_426, hn_431, ha_432]
     try exact se3
   refine hK20 _ _ ?_
   refine cM hm (fun hc25 hm => ?_) (fun hc25 hm => ?_)
   ·refine Wp.exit ?_
    simp only [thenQ, blockQ, ↓reduceIte]
    have hm := hk_415 _ hm
    try dsimp only at hm
    refine hW8 _ _ _ _ ?_ (hcut8 (r_425.2.2.2.2.2, r_425.2.2.2.2.1, r_425.2.1, r_425.2.2.1, r_425.2.2.2.1) hm)
    exact fse3
   ·refine Wp.skip ?_
    refine hK19 _ _ ?_
    refine qR ?_
    simp only [thenQ, blockQ, ↓reduceIte]
    refine ⟨(r_417.2.1, r_425.2.2.2.2.2, r_425.2.2.2.2.1, r_425.2.1, r_425.2.2.1, r_425.2.2.2.1), hm, ?_⟩
    exact fse3
end Go.Proofs.YtmnohdgjkcjdeaaGreatDoor
