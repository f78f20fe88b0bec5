/- That the code does what the models say (part 5). -/
import Derived.Test.YtmnohdgjkcjdeaaGreatDoorTlWk0
import Derived.Test.YtmnohdgjkcjdeaaGreatDoorTlWk1
import Derived.Test.YtmnohdgjkcjdeaaGreatDoorTlWk2
import Derived.Test.YtmnohdgjkcjdeaaGreatDoorTlWk3
import Derived.Test.YtmnohdgjkcjdeaaGreatDoorTlWk4
set_option linter.unusedSimpArgs false
set_option linter.unusedVariables false
open Go.Proofs Go.Shelf
namespace Go.Proofs.YtmnohdgjkcjdeaaGreatDoor
open Go.Vc Go.Md
set_option maxRecDepth 100000
set_option maxHeartbeats 4000000
theorem ok_log_Open (text_1 : Str) (z : Int × Int × (List (Str × log_had)) × Int × Str × List api_Record × List Str) (hm : log_Open text_1 = some z) : Does Tryz.prog 18 [.p (.s text_1)] [] (fun r X => r = .tup [.ptr 2 0, .p (.i .i64 z.1), .p (.i .i64 z.2.1)] ∧ X = [.mp true (encM Dt.s enc_log_had z.2.2.1), .cells 99 [.mp 0, .p (.i .i64 z.2.2.2.1)], .cells 63 [.buf 3, .buf 4, .p (.s z.2.2.2.2.1), .ptr 1 0], .buf 30 13 (List.map enc_api_Record z.2.2.2.2.2.1), .buf 9 1 (List.map ecS z.2.2.2.2.2.2)]) := by
 unfold log_Open at hm
 refine Does.of_wp 5 68 [.tmp 2, .tmp 3, .tmp 4] Tryz.func18 rfl (by decide) rfl rfl (Nat.le_of_ble_eq_true rfl) fun B => ?_
 refine qS ?_
 refine Wp.seqW fun K2 hK2 hW2 => ?_
 refine qS ?_
 refine cM hm (fun hc4 hm => ?_) (fun hc4 hm => ?_)
 ·refine qS ?_
  refine Wp.ret ?_
  simp only [thenQ, blockQ]
  cases hm
 ·refine Wp.skip ?_
  refine hK2 _ _ ?_
  obtain ⟨r_220, hr_220, hm⟩ := call_elim hm
  refine Wp.seqR fun K6 hK6 => ?_
  simp only [go_sem, simprocAttr]
  try refine ⟨sd, ?_⟩
  refine Rg.callO (av := ?av7) [] (ok_log_New  _ hr_220) si si si sg sg ?cont7
  rintro _ _ ⟨rfl, rfl⟩ hv7
  simp only [go_sem, simprocAttr]
  first | apply hK6 | refine ⟨sd, hK6 _ _ ?_⟩
  refine Wp.seqW fun K8 hK8 hW8 => ?_
  obtain ⟨k_329, hk_329, hm⟩ := jp_elim hm
  have hcut8 : ∀ s, k_329 s = some z → K8 [(5, .ptr 2 0)] [.mp true (encM Dt.s enc_log_had s.1), .cells 99 [.mp 0, .p (.i .i64 s.2.1)], .cells 63 [.buf 3, .buf 4, .p (.s s.2.2.1), .ptr 1 0], .buf 30 13 (List.map enc_api_Record s.2.2.2.1), .buf 9 1 (List.map ecS s.2.2.2.2)] := by
   intro s hs
   have hm := hk_329 _ hs
   clear hs
   obtain ⟨m0_324, o1_1_325, o2_2_326, o3_327, o4_328⟩ := s
   try dsimp only at hm
   try dsimp only
   refine hK8 _ _ ?_
   refine Wp.seqD (plan := pl [(0, none), (1, none), (2, none), (3, none), (4, none), (5, none), (6, none), (7, none), (8, none)]) (by kernel_rfl) rfl (by kernel_rfl) fun K9 hK9 => ?_
   simp only [go_sem, simprocAttr]
   first | apply hK9 | refine ⟨sd, hK9 _ _ ?_⟩
   refine Wp.ret ?_
   refine retQ_ret ?_
   cases hm
   exact fse3
  clear hK8 hk_329
  refine Wp.block ?_
  refine Wp.adoptO 2 0 30 13 rfl rfl ?_
  simp only [go_sem, simprocAttr]
  refine Wp.adoptO 2 1 9 1 rfl rfl ?_
  simp only [go_sem, simprocAttr]
  obtain ⟨k_415, hk_415, hm⟩ := loopN_cont hm
  refine Wp.loopN (fun s => [(0, .p (.s s.1)), (5, .ptr 2 0)]) (fun s => [.mp true (encM Dt.s enc_log_had s.2.1), .cells 99 [.mp 0, .p (.i .i64 s.2.2.1)], .cells 63 [.buf 3, .buf 4, .p (.s s.2.2.2.1), .ptr 1 0], .buf 30 13 (List.map enc_api_Record s.2.2.2.2.1), .buf 9 1 (List.map ecS s.2.2.2.2.2)]) ?_ hm ?_
  ·
   exact fse3
  clear hm
  intro s nx_416 hm
  obtain ⟨text_393, m0_394, o1_1_395, o2_2_396, o3_397, o4_398⟩ := s
  try dsimp only at hm
  try dsimp only
  refine Wp.block ?_
  obtain ⟨r_417, hr_417, hm⟩ := call_elim hm
  refine Wp.seqR fun K10 hK10 => ?_
  simp only [go_sem, simprocAttr]
  try refine ⟨sd, ?_⟩
  refine Rg.callX (av := ?av11) (g := true) (fun hg => ok_strings_Cut text_393 ([10] : Str) _ hr_417) si si si sg si ?cont11
  intro hv11
  simp only [go_sem, simprocAttr]
  first | apply hK10 | refine ⟨sd, hK10 _ _ ?_⟩
  obtain ⟨r_418, hr_418, hm⟩ := call_elim hm
  refine Wp.seqR fun K12 hK12 => ?_
  simp only [go_sem, simprocAttr]
  try refine ⟨sd, ?_⟩
  refine Rg.callX (av := ?av13) (g := true) (fun hg => ok_strings_LastIndexByte r_417.1 32 _ hr_418) si si si sg si ?cont13
  intro hv13
  simp only [go_sem, simprocAttr]
  first | apply hK12 | refine ⟨sd, hK12 _ _ ?_⟩
  refine Wp.seqW fun K14 hK14 hW14 => ?_
  refine qS ?_
  refine cM hm (fun hc16 hm => ?_) (fun hc16 hm => ?_)
  ·refine Wp.exit ?_
   simp only [thenQ, blockQ, ↓reduceIte]
   have hm := hk_415 _ hm
   try dsimp only at hm
   refine hW8 _ _ _ _ ?_ (hcut8 (m0_394, o1_1_395, o2_2_396, o3_397, o4_398) hm)
   exact fse3
  ·refine Wp.skip ?_
   refine hK14 _ _ ?_
   obtain ⟨c_419, hm⟩ := chk_elim hm
   obtain ⟨r_420, hr_420, hm⟩ := call_elim hm
   refine Wp.seqR fun K17 hK17 => ?_
   simp only [go_sem, simprocAttr]
   try refine ⟨by first | exact sd | ((repeat' apply And.intro) <;> first | assumption | omega | (simp only [List.length_append, List.length_map, List.length_cons, List.length_nil, List.length_set, List.length_replicate] at c_419 ⊢; omega)), ?_⟩
   refine Rg.callX (av := ?av18) (g := true) (fun hg => ok_log_ParseRecord (List.take r_418.toNat r_417.1) _ hr_420) si si si sg si ?cont18
   intro hv18
   simp only [go_sem, simprocAttr]
   first | apply hK17 | refine ⟨by first | exact sd | ((repeat' apply And.intro) <;> first | assumption | omega | (simp only [List.length_append, List.length_map, List.length_cons, List.length_nil, List.length_set, List.length_replicate] at c_419 ⊢; omega)), hK17 _ _ ?_⟩
   refine Wp.seqW fun K19 hK19 hW19 => ?_
   obtain ⟨c_421, hm⟩ := chk_elim hm
   obtain ⟨c_422, hm⟩ := chk_elim hm
   obtain ⟨c_423, hm⟩ := chk_elim hm
   obtain ⟨r_424, hr_424, hm⟩ := callG_elim hm
   obtain ⟨r_425, hr_425, hr_425d, hm⟩ := callG_elim2 hm
   refine Wp.seqDW (plan := pl [(0, none), (1, none), (2, none), (3, none), (4, none), (5, none), (6, none), (7, none), (8, none), (9, none), (10, none), (11, none), (12, none), (13, none), (14, none), (15, none), (16, none), (17, none), (18, none), (19, none), (20, none), (21, some []), (22, none), (23, none)]) (by kernel_rfl) rfl (by kernel_rfl) fun K20 hK20 hW20 => ?_
   suffices hcont20 : K20 [(0, .p (.s text_393)), (5, .ptr 2 0), (6, .p (.s r_417.1)), (7, .p (.s r_417.2.1)), (8, .p (.b r_417.2.2)), (9, .p (.i .i64 r_418)), (10, .ptr 5 0), (11, .p (.i .i64 r_420.2)), (16, .tup [.p (.s r_417.1), .p (.s r_417.2.1), .p (.b r_417.2.2)]), (17, .p (.s text_393)), (18, .tup [.p (.s r_417.1), .p (.s r_417.2.1), .p (.b r_417.2.2)]), (19, .p (.s r_417.1)), (20, .p (.s r_417.2.1)), (21, .p (.b r_417.2.2)), (22, .p (.s r_417.1)), (23, .p (.i .i64 r_418)), (24, .p (.b r_417.2.2)), (25, .p (.b (!r_417.2.2))), (26, .p (.b (!r_417.2.2))), (29, .p (.b ((!r_417.2.2) || (decide (r_418 < 0))))), (30, .tup [.agg [.p (.i .i64 r_420.1.Time), .p (.i .i64 r_420.1.Kind), .p (.s r_420.1.Pack), .p (.i .i64 r_420.1.From.Major), .p (.i .i64 r_420.1.From.Minor), .p (.i .i64 r_420.1.From.Patch), .p (.s r_420.1.From.Early), .p (.i .i64 r_420.1.To.Major), .p (.i .i64 r_420.1.To.Minor), .p (.i .i64 r_420.1.To.Patch), .p (.s r_420.1.To.Early), .p (.i .i64 r_420.1.Result), .p (.s r_420.1.Note)], .p (.i .i64 r_420.2)]), (31, .p (.s r_417.1)), (32, .p (.i .i64 r_418)), (33, .p (.s (List.take r_418.toNat r_417.1))), (34, .tup [.agg [.p (.i .i64 r_420.1.Time), .p (.i .i64 r_420.1.Kind), .p (.s r_420.1.Pack), .p (.i .i64 r_420.1.From.Major), .p (.i .i64 r_420.1.From.Minor), .p (.i .i64 r_420.1.From.Patch), .p (.s r_420.1.From.Early), .p (.i .i64 r_420.1.To.Major), .p (.i .i64 r_420.1.To.Minor), .p (.i .i64 r_420.1.To.Patch), .p (.s r_420.1.To.Early), .p (.i .i64 r_420.1.Result), .p (.s r_420.1.Note)], .p (.i .i64 r_420.2)]), (35, .agg [.p (.i .i64 r_420.1.Time), .p (.i .i64 r_420.1.Kind), .p (.s r_420.1.Pack), .p (.i .i64 r_420.1.From.Major), .p (.i .i64 r_420.1.From.Minor), .p (.i .i64 r_420.1.From.Patch), .p (.s r_420.1.From.Early), .p (.i .i64 r_420.1.To.Major), .p (.i .i64 r_420.1.To.Minor), .p (.i .i64 r_420.1.To.Patch), .p (.s r_420.1.To.Early), .p (.i .i64 r_420.1.Result), .p (.s r_420.1.Note)]), (36, .p (.i .i64 r_420.2)), (37, .p (.i .i64 r_420.2)), (38, .p (.b (!decide (r_420.2 = 0)))), (39, .p (.b (!decide (r_420.2 = 0)))), (54, .p (.b ((!decide (r_420.2 = 0)) || (!decide ((List.drop ((IntKind.i64.wrap (r_418 + 1)).toNat) r_417.1) = r_424))))), (55, .p (.b ((!decide (r_420.2 = 0)) || (!decide ((List.drop ((IntKind.i64.wrap (r_418 + 1)).toNat) r_417.1) = r_424))))), (60, .p (.b (((!decide (r_420.2 = 0)) || (!decide ((List.drop ((IntKind.i64.wrap (r_418 + 1)).toNat) r_417.1) = r_424))) || (!decide (r_425.1 = 0)))))] [.mp true (encM Dt.s enc_log_had r_425.2.2.2.2.2), .cells 99 [.mp 0, .p (.i .i64 r_425.2.2.2.2.1)], .cells 63 [.buf 3, .buf 4, .p (.s r_425.2.1), .ptr 1 0], .buf 30 13 (List.map enc_api_Record r_425.2.2.1), .buf 9 1 (List.map ecS r_425.2.2.2.1), .cells 30 [.p (.i .i64 r_420.1.Time), .p (.i .i64 r_420.1.Kind), .p (.s r_420.1.Pack), .p (.i .i64 r_420.1.From.Major), .p (.i .i64 r_420.1.From.Minor), .p (.i .i64 r_420.1.From.Patch), .p (.s r_420.1.From.Early), .p (.i .i64 r_420.1.To.Major), .p (.i .i64 r_420.1.To.Minor), .p (.i .i64 r_420.1.To.Patch), .p (.s r_420.1.To.Early), .p (.i .i64 r_420.1.Result), .p (.s r_420.1.Note)]] by
    rcases Bool.eq_false_or_eq_true (!((!decide (r_420.2 = 0)) || (!decide ((List.drop ((IntKind.i64.wrap (r_418 + 1)).toNat) r_417.1) = r_424)))) with hg_426 | hg_426
    ·
     have hn_427 : ((!decide (r_420.2 = 0)) || (!decide ((List.drop ((IntKind.i64.wrap (r_418 + 1)).toNat) r_417.1) = r_424))) = false := by simpa only [Bool.not_eq_false', Bool.not_eq_true'] using hg_426
     have ha_428 : ((!decide (r_420.2 = 0)) || (!decide ((List.drop ((IntKind.i64.wrap (r_418 + 1)).toNat) r_417.1) = r_424))) = false := by revert hg_426; generalize decide ((List.drop ((IntKind.i64.wrap (r_418 + 1)).toNat) r_417.1) = r_424) = x0; generalize decide (r_420.2 = 0) = x1; revert x0 x1; decide
     have ha_429 : (decide ((List.drop ((IntKind.i64.wrap (r_418 + 1)).toNat) r_417.1) = r_424)) = true := by revert hg_426; generalize decide ((List.drop ((IntKind.i64.wrap (r_418 + 1)).toNat) r_417.1) = r_424) = x0; generalize decide (r_420.2 = 0) = x1; revert x0 x1; decide
     have ha_430 : (decide (r_420.2 = 0)) = true := by revert hg_426; generalize decide ((List.drop ((IntKind.i64.wrap (r_418 + 1)).toNat) r_417.1) = r_424) = x0; generalize decide (r_420.2 = 0) = x1; revert x0 x1; decide
     simp only [go_sem, simprocAttr, false_implies, and_true, true_and, bad, hg_426, hn_427, ha_428, ha_429, ha_430]
     try refine ⟨by first | exact sd | ((repeat' apply And.intro) <;> first | assumption | omega | (simp only [List.length_append, List.length_map, List.length_cons, List.length_nil, List.length_set, List.length_replicate] at c_421 c_422 c_423 ⊢; omega)), ?_⟩
     refine Dr.callF (av := ?av21) (g := !(!decide (r_420.2 = 0))) (o := ?o21) (fun hg => ok_disk_SumOf (o2_2_396 ++ (List.take r_418.toNat r_417.1)) _ (hr_424 hg)) (by simp only [go_sem, simprocAttr, false_implies, and_true, true_and, bad, hg_426, hn_427, ha_428, ha_429, ha_430]; exact Is.mk) (by simp only [go_sem, simprocAttr, false_implies, and_true, true_and, bad, hg_426, hn_427, ha_428, ha_429, ha_430]; exact Is.mk) (by simp only [go_sem, simprocAttr, false_implies, and_true, true_and, bad, hg_426, hn_427, ha_428, ha_429, ha_430]; exact Is.mk) (by simp only [go_sem, simprocAttr, false_implies, and_true, true_and, bad, hg_426, hn_427, ha_428, ha_429, ha_430]; exact Is.mk) (by simp only [go_sem, simprocAttr, false_implies, and_true, true_and, bad, hg_426, hn_427, ha_428, ha_429, ha_430]) (by simp only [go_sem, simprocAttr, false_implies, and_true, true_and, bad, hg_426, hn_427, ha_428, ha_429, ha_430]; exact Is.mk) ?cont21
     simp only [go_sem, simprocAttr, false_implies, and_true, true_and, bad, hg_426, hn_427, ha_428, ha_429, ha_430]
     try refine ⟨by first | exact sd | ((repeat' apply And.intro) <;> first | assumption | omega | (simp only [List.length_append, List.length_map, List.length_cons, List.length_nil, List.length_set, List.length_replicate] at c_421 c_422 c_423 ⊢; omega)), ?_⟩
     refine Dr.of_br (Br.callEG (av := ?av22) (o := ?o22) [2, 3, 4, 1, 0] (ok_log_Log_Add_i1 r_420.1 o2_2_396 o3_397 o4_398 o1_1_395 m0_394 _ (hr_425 hg_426)) (by simp only [go_sem, simprocAttr, false_implies, and_true, true_and, bad, hg_426, hn_427, ha_428, ha_429, ha_430]; exact Is.mk) (by simp only [go_sem, simprocAttr, false_implies, and_true, true_and, bad, hg_426, hn_427, ha_428, ha_429, ha_430]; exact Is.mk) (by simp only [go_sem, simprocAttr, false_implies, and_true, true_and, bad, hg_426, hn_427, ha_428, ha_429, ha_430]; exact Is.mk) (by simp only [go_sem, simprocAttr, false_implies, and_true, true_and, bad, hg_426, hn_427, ha_428, ha_429, ha_430]; exact Is.mk) (by simp only [go_sem, simprocAttr, false_implies, and_true, true_and, bad, hg_426, hn_427, ha_428, ha_429, ha_430]; exact Is.mk) (by simp only [go_sem, simprocAttr, false_implies, and_true, true_and, bad, hg_426, hn_427, ha_428, ha_429, ha_430]) (by simp only [go_sem, simprocAttr, false_implies, and_true, true_and, bad, hg_426, hn_427, ha_428, ha_429, ha_430]) ?hag22 ?cont22)
     case hag22 => first | (simp only [go_sem, simprocAttr, false_implies, and_true, true_and, bad, hg_426, hn_427, ha_428, ha_429, ha_430]; done) | (simp only [go_sem, simprocAttr, false_implies, and_true, true_and, bad, hg_426, hn_427, ha_428, ha_429, ha_430]; exact sd)
     simp only [go_sem, simprocAttr, false_implies, and_true, true_and, bad, hg_426, hn_427, ha_428, ha_429, ha_430]
     first | refine hW20 _ _ _ _ ?_ hcont20 | refine ⟨by first | exact sd | ((repeat' apply And.intro) <;> first | assumption | omega | (simp only [List.length_append, List.length_map, List.length_cons, List.length_nil, List.length_set, List.length_replicate] at c_421 c_422 c_423 ⊢; omega)), hW20 _ _ _ _ ?_ hcont20⟩
     simp only [go_sem, simprocAttr, false_implies, and_true, true_and, bad, hg_426, hn_427, ha_428, ha_429, ha_430]
     try exact se3
    ·
     have hn_431 : ((!decide (r_420.2 = 0)) || (!decide ((List.drop ((IntKind.i64.wrap (r_418 + 1)).toNat) r_417.1) = r_424))) = true := by simpa only [Bool.not_eq_false', Bool.not_eq_true'] using hg_426
     have ha_432 : ((!decide (r_420.2 = 0)) || (!decide ((List.drop ((IntKind.i64.wrap (r_418 + 1)).toNat) r_417.1) = r_424))) = true := by revert hg_426; generalize decide ((List.drop ((IntKind.i64.wrap (r_418 + 1)).toNat) r_417.1) = r_424) = x0; generalize decide (r_420.2 = 0) = x1; revert x0 x1; decide
     simp only [go_sem, simprocAttr, false_implies, and_true, true_and, bad, hg_426, hn_431, ha_432]
     try refine ⟨by first | exact sd | ((repeat' apply And.intro) <;> first | assumption | omega | (simp only [List.length_append, List.length_map, List.length_cons, List.length_nil, List.length_set, List.length_replicate] at c_421 c_422 c_423 ⊢; omega)), ?_⟩
     refine Dr.callF (av := ?av23) (g := !(!decide (r_420.2 = 0))) (o := ?o23) (fun hg => ok_disk_SumOf (o2_2_396 ++ (List.take r_418.toNat r_417.1)) _ (hr_424 hg)) (by simp only [go_sem, simprocAttr, false_implies, and_true, true_and, bad, hg_426, hn_431, ha_432]; exact Is.mk) (by simp only [go_sem, simprocAttr, false_implies, and_true, true_and, bad, hg_426, hn_431, ha_432]; exact Is.mk) (by simp only [go_sem, simprocAttr, false_implies, and_true, true_and, bad, hg_426, hn_431, ha_432]; exact Is.mk) (by simp only [go_sem, simprocAttr, false_implies, and_true, true_and, bad, hg_426, hn_431, ha_432]; exact Is.mk) (by simp only [go_sem, simprocAttr, false_implies, and_true, true_and, bad, hg_426, hn_431, ha_432]) (by simp only [go_sem, simprocAttr, false_implies, and_true, true_and, bad, hg_426, hn_431, ha_432]; exact Is.mk) ?cont23
     simp only [go_sem, simprocAttr, false_implies, and_true, true_and, bad, hg_426, hn_431, ha_432]
     try refine ⟨by first | exact sd | ((repeat' apply And.intro) <;> first | assumption | omega | (simp only [List.length_append, List.length_map, List.length_cons, List.length_nil, List.length_set, List.length_replicate] at c_421 c_422 c_423 ⊢; omega)), ?_⟩
     obtain rfl := hr_425d hg_426
     refine Dr.of_br (Br.skipG (o := ?o24) (v := .top) (gw := ?gw24) (by simp only [go_sem, simprocAttr, false_implies, and_true, true_and, bad, hg_426, hn_431, ha_432]; exact Is.mk) (by simp only [go_sem, simprocAttr, false_implies, and_true, true_and, bad, hg_426, hn_431, ha_432]; exact Is.mk) (by simp only [go_sem, simprocAttr, false_implies, and_true, true_and, bad, hg_426, hn_431, ha_432]; exact Is.mk) (by simp only [go_sem, simprocAttr, false_implies, and_true, true_and, bad, hg_426, hn_431, ha_432]) ?cont24)
     simp only [go_sem, simprocAttr, false_implies, and_true, true_and, bad, hg_426, hn_431, ha_432]
     first | refine hW20 _ _ _ _ ?_ hcont20 | refine ⟨by first | exact sd | ((repeat' apply And.intro) <;> first | assumption | omega | (simp only [List.length_append, List.length_map, List.length_cons, List.length_nil, List.length_set, List.length_replicate] at c_421 c_422 c_423 ⊢; omega)), hW20 _ _ _ _ ?_ hcont20⟩
     simp only [go_sem, simprocAttr, false_implies, and_true, true_and, bad, hg_426, hn_431, ha_432]
     try exact se3
   refine hK20 _ _ ?_
   refine cM hm (fun hc25 hm => ?_) (fun hc25 hm => ?_)
   ·refine Wp.exit ?_
    simp only [thenQ, blockQ, ↓reduceIte]
    have hm := hk_415 _ hm
    try dsimp only at hm
    refine hW8 _ _ _ _ ?_ (hcut8 (r_425.2.2.2.2.2, r_425.2.2.2.2.1, r_425.2.1, r_425.2.2.1, r_425.2.2.2.1) hm)
    exact fse3
   ·refine Wp.skip ?_
    refine hK19 _ _ ?_
    refine qR ?_
    simp only [thenQ, blockQ, ↓reduceIte]
    refine ⟨(r_417.2.1, r_425.2.2.2.2.2, r_425.2.2.2.2.1, r_425.2.1, r_425.2.2.1, r_425.2.2.2.1), hm, ?_⟩
    exact fse3
theorem ok_Top_landed  (z : Bool) (hm : Top_landed = some z) : Does Tryz.prog 23 [] [] (fun r X => r = .p (.b z) ∧ X = []) := by
 unfold Top_landed at hm
 refine Does.of_wp 0 2 [.tmp 0] Tryz.func23 rfl (by decide) rfl rfl (Nat.le_of_ble_eq_true rfl) fun B => ?_
 refine qS ?_
 obtain ⟨r_1, hr_1, hm⟩ := call_elim hm
 refine Wp.seqR fun K2 hK2 => ?_
 simp only [go_sem, simprocAttr]
 try refine ⟨sd, ?_⟩
 refine Rg.callX (av := ?av3) (g := true) (fun hg => ok_ver_IsName ([97] : Str) _ hr_1) si si si sg si ?cont3
 intro hv3
 simp only [go_sem, simprocAttr]
 first | apply hK2 | refine ⟨sd, hK2 _ _ ?_⟩
 refine Wp.ret ?_
 refine retQ_ret ?_
 cases hm
 exact fse4
theorem ok_log_check (l_1 : List api_Record) (z : Int) (hm : log_check l_1 = some z) : Does Tryz.prog 54 [.p (.l (List.map enc_api_Record l_1))] [] (fun r X => r = .p (.i .i64 z) ∧ X = []) := by
 unfold log_check at hm
 refine Does.of_wp 0 33 [.tmp 2] Tryz.func54 rfl (by decide) rfl rfl (Nat.le_of_ble_eq_true rfl) fun B => ?_
 refine qS ?_
 refine Wp.seqW fun K2 hK2 hW2 => ?_
 refine qS ?_
 refine cM hm (fun hc4 hm => ?_) (fun hc4 hm => ?_)
 ·refine qS ?_
  refine Wp.ret ?_
  refine retQ_ret ?_
  cases hm
  exact fse4
 ·refine Wp.skip ?_
  refine hK2 _ _ ?_
  obtain ⟨r_2, hr_2, hm⟩ := call_elim hm
  refine Wp.seqR fun K6 hK6 => ?_
  simp only [go_sem, simprocAttr]
  try refine ⟨sd, ?_⟩
  refine Rg.callO (av := ?av7) [] (ok_log_newTable  _ hr_2) si si si sg sg ?cont7
  rintro _ _ ⟨rfl, rfl⟩ hv7
  simp only [go_sem, simprocAttr]
  first | apply hK6 | refine ⟨sd, hK6 _ _ ?_⟩
  refine Wp.seqW fun K8 hK8 hW8 => ?_
  obtain ⟨k_23, hk_23, hm⟩ := jp_elim hm
  have hcut8 : ∀ s, k_23 s = some z → K8 [] [] := by
   intro s hs
   have hm := hk_23 _ hs
   clear hs
   try dsimp only at hm
   try dsimp only
   refine hK8 _ _ ?_
   refine qS ?_
   refine Wp.ret ?_
   refine retQ_ret ?_
   cases hm
   exact fse4
  clear hK8 hk_23
  refine qS ?_
  refine Wp.block ?_
  obtain ⟨k_36, hk_36, hm⟩ := forL_cont hm
  refine Wp.fact 12 fun hl_39 => ?_
  replace hl_39 : l_1.length ≤ 274877906944 := by
   simp only [go_sem, simprocAttr, List.length_map] at hl_39
   omega
  refine Wp.forL (fun i_38 s => [(3, .ptr 1 0), (12, .p (.l (List.map enc_api_Record l_1))), (13, .p (.i .i64 (l_1.length : Int))), (14, .p (.i .i64 (i_38 : Int)))]) (fun i_38 s => [.mp true (encM Dt.s enc_log_had s.1), .cells 99 [.mp 0, .p (.i .i64 s.2)]]) ?_ hm ?_
  ·
   exact fse4
  clear hm
  intro i_38 s hii_38 hm
  obtain ⟨m0_30, o1_1_31⟩ := s
  try dsimp only at hm
  try dsimp only
  refine qS ?_
  refine Wp.seqW fun K12 hK12 hW12 => ?_
  refine Wp.cond rfl ⟨⟩ (fun hc12 => ?_) (fun hc12 => ?_)
  rotate_left
  ·refine Wp.exit ?_
   have hm := hk_36 _ (forL_end hm (ge_nat (by first | exact hc12 | simpa using hc12)))
   try dsimp only at hm
   refine hW8 _ _ _ _ ?_ (hcut8 () hm)
   exact fse4
  have hlt12 := lt_nat (by first | exact hc12 | simpa using hc12)
  have hw12 := wrap_succ hlt12 hl_39
  obtain ⟨r_40, nx_37, hxr_40, hyr_40, hnx_37, hm⟩ := forL_step hm hlt12
  replace hxr_40 := hxr_40 enc_api_Record
  refine Wp.skip ?_
  simp only [thenQ]
  refine hK12 _ _ ?_
  refine Wp.seqW fun K13 hK13 hW13 => ?_
  refine Wp.block ?_
  refine Wp.seqR fun K14 hK14 => ?_
  simp only [go_sem, simprocAttr, hw12, hxr_40]
  first | apply hK14 | refine ⟨sd, hK14 _ _ ?_⟩
  refine Wp.seqW fun K15 hK15 hW15 => ?_
  obtain ⟨r_41, hr_41, hm⟩ := call_elim hm
  refine Wp.seqR fun K16 hK16 => ?_
  simp only [go_sem, simprocAttr, hw12, hxr_40]
  try refine ⟨sd, ?_⟩
  refine Rg.callX (av := ?av17) (g := true) (fun hg => ok_log_CheckRecord r_40 _ hr_41) (by simp only [go_sem, simprocAttr, hw12, hxr_40]; exact Is.mk) (by simp only [go_sem, simprocAttr, hw12, hxr_40]; exact Is.mk) (by simp only [go_sem, simprocAttr, hw12, hxr_40]; exact Is.mk) (by simp only [go_sem, simprocAttr, hw12, hxr_40]) (by simp only [go_sem, simprocAttr, hw12, hxr_40]; exact Is.mk) ?cont17
  intro hv17
  simp only [go_sem, simprocAttr, hw12, hxr_40]
  first | apply hK16 | refine ⟨sd, hK16 _ _ ?_⟩
  refine Wp.seqR fun K18 hK18 => ?_
  simp only [go_sem, simprocAttr, hw12, hxr_40]
  first | apply hK18 | refine ⟨sd, hK18 _ _ ?_⟩
  refine cM hm (fun hc19 hm => ?_) (fun hc19 hm => ?_)
  ·refine Wp.seqR fun K20 hK20 => ?_
   simp only [go_sem, simprocAttr, hw12, hxr_40]
   first | apply hK20 | refine ⟨sd, hK20 _ _ ?_⟩
   refine Wp.ret ?_
   refine retQ_ret ?_
   cases hm
   simp only [go_sem, simprocAttr, hw12, hxr_40]
   try exact se4
  ·refine Wp.skip ?_
   refine hK15 _ _ ?_
   refine Wp.seqW fun K21 hK21 hW21 => ?_
   obtain ⟨r_42, hr_42, hm⟩ := call_elim hm
   refine Wp.seqR fun K22 hK22 => ?_
   simp only [go_sem, simprocAttr, hw12, hxr_40]
   try refine ⟨sd, ?_⟩
   refine Rg.callR (av := ?av23) (g := true) [1, 0] (fun hg => ok_log_table_fault_i1 r_40 o1_1_31 m0_30 _ hr_42) (by simp only [go_sem, simprocAttr, hw12, hxr_40]; exact Is.mk) (by simp only [go_sem, simprocAttr, hw12, hxr_40]; exact Is.mk) (by simp only [go_sem, simprocAttr, hw12, hxr_40]; exact Is.mk) (by simp only [go_sem, simprocAttr, hw12, hxr_40]; exact Is.mk) (by simp only [go_sem, simprocAttr, hw12, hxr_40]) (by simp only [go_sem, simprocAttr, hw12, hxr_40]) (by simp only [go_sem, simprocAttr, hw12, hxr_40]) ?cont23
   simp only [go_sem, simprocAttr, hw12, hxr_40]
   first | apply hK22 | refine ⟨sd, hK22 _ _ ?_⟩
   refine Wp.seqR fun K24 hK24 => ?_
   simp only [go_sem, simprocAttr, hw12, hxr_40]
   first | apply hK24 | refine ⟨sd, hK24 _ _ ?_⟩
   refine cM hm (fun hc25 hm => ?_) (fun hc25 hm => ?_)
   ·refine Wp.seqR fun K26 hK26 => ?_
    simp only [go_sem, simprocAttr, hw12, hxr_40]
    first | apply hK26 | refine ⟨sd, hK26 _ _ ?_⟩
    refine Wp.ret ?_
    refine retQ_ret ?_
    cases hm
    simp only [go_sem, simprocAttr, hw12, hxr_40]
    try exact se4
   ·refine Wp.skip ?_
    refine hK21 _ _ ?_
    obtain ⟨r_43, hr_43, hm⟩ := call_elim hm
    refine Wp.region fun K27 hK27 => ?_
    simp only [go_sem, simprocAttr, hw12, hxr_40]
    try refine ⟨sd, ?_⟩
    refine Rg.callO (av := ?av28) [1, 0] (ok_log_table_add_i1 r_40 o1_1_31 m0_30 _ hr_43) (by simp only [go_sem, simprocAttr, hw12, hxr_40]; exact Is.mk) (by simp only [go_sem, simprocAttr, hw12, hxr_40]; exact Is.mk) (by simp only [go_sem, simprocAttr, hw12, hxr_40]; exact Is.mk) (by simp only [go_sem, simprocAttr, hw12, hxr_40]) (by simp only [go_sem, simprocAttr, hw12, hxr_40]) ?cont28
    rintro _ _ ⟨rfl, rfl⟩ hv28
    simp only [go_sem, simprocAttr, hw12, hxr_40]
    first | apply hK27 | refine ⟨sd, hK27 _ _ ?_⟩
    refine hK13 _ _ ?_
    refine Wp.region fun K29 hK29 => ?_
    simp only [go_sem, simprocAttr, hw12, hxr_40]
    first | apply hK29 | refine ⟨sd, hK29 _ _ ?_⟩
    simp only [thenQ, blockQ, ↓reduceIte]
    refine ⟨(r_43.2, r_43.1), hlt12, hnx_37 _ hm, ?_⟩
    simp only [go_sem, simprocAttr, hw12, hxr_40]
    try exact se4
theorem ok_log_behind (l_1 : List api_Record) (z : (List (Str × log_had)) × Int) (hm : log_behind l_1 = some z) : Does Tryz.prog 55 [.p (.l (List.map enc_api_Record l_1))] [] (fun r X => r = .ptr 1 0 ∧ X = [.mp true (encM Dt.s enc_log_had z.1), .cells 99 [.mp 0, .p (.i .i64 z.2)]]) := by
 unfold log_behind at hm
 refine Does.of_wp 2 18 [.tmp 2] Tryz.func55 rfl (by decide) rfl rfl (Nat.le_of_ble_eq_true rfl) fun B => ?_
 refine qS ?_
 obtain ⟨r_34, hr_34, hm⟩ := call_elim hm
 refine Wp.seqR fun K2 hK2 => ?_
 simp only [go_sem, simprocAttr]
 try refine ⟨sd, ?_⟩
 refine Rg.callO (av := ?av3) [] (ok_log_newTable  _ hr_34) si si si sg sg ?cont3
 rintro _ _ ⟨rfl, rfl⟩ hv3
 simp only [go_sem, simprocAttr]
 first | apply hK2 | refine ⟨sd, hK2 _ _ ?_⟩
 refine Wp.seqW fun K4 hK4 hW4 => ?_
 obtain ⟨k_51, hk_51, hm⟩ := jp_elim hm
 have hcut4 : ∀ s, k_51 s = some z → K4 [(3, .ptr 1 0)] [.mp true (encM Dt.s enc_log_had s.1), .cells 99 [.mp 0, .p (.i .i64 s.2)]] := by
  intro s hs
  have hm := hk_51 _ hs
  clear hs
  obtain ⟨m0_49, o1_1_50⟩ := s
  try dsimp only at hm
  try dsimp only
  refine hK4 _ _ ?_
  refine qS ?_
  refine Wp.ret ?_
  refine retQ_ret ?_
  cases hm
  exact fse4
 clear hK4 hk_51
 refine qS ?_
 refine Wp.block ?_
 obtain ⟨k_60, hk_60, hm⟩ := forL_cont hm
 refine Wp.fact 7 fun hl_63 => ?_
 replace hl_63 : l_1.length ≤ 274877906944 := by
  simp only [go_sem, simprocAttr, List.length_map] at hl_63
  omega
 refine Wp.forL (fun i_62 s => [(3, .ptr 1 0), (7, .p (.l (List.map enc_api_Record l_1))), (8, .p (.i .i64 (l_1.length : Int))), (9, .p (.i .i64 (i_62 : Int)))]) (fun i_62 s => [.mp true (encM Dt.s enc_log_had s.1), .cells 99 [.mp 0, .p (.i .i64 s.2)]]) ?_ hm ?_
 ·
  exact fse4
 clear hm
 intro i_62 s hii_62 hm
 obtain ⟨m0_56, o1_1_57⟩ := s
 try dsimp only at hm
 try dsimp only
 refine qS ?_
 refine Wp.seqW fun K8 hK8 hW8 => ?_
 refine Wp.cond rfl ⟨⟩ (fun hc8 => ?_) (fun hc8 => ?_)
 rotate_left
 ·refine Wp.exit ?_
  have hm := hk_60 _ (forL_end hm (ge_nat (by first | exact hc8 | simpa using hc8)))
  try dsimp only at hm
  refine hW4 _ _ _ _ ?_ (hcut4 (m0_56, o1_1_57) hm)
  exact fse4
 have hlt8 := lt_nat (by first | exact hc8 | simpa using hc8)
 have hw8 := wrap_succ hlt8 hl_63
 obtain ⟨r_64, nx_61, hxr_64, hyr_64, hnx_61, hm⟩ := forL_step hm hlt8
 replace hxr_64 := hxr_64 enc_api_Record
 refine Wp.skip ?_
 simp only [thenQ]
 refine hK8 _ _ ?_
 refine Wp.seqW fun K9 hK9 hW9 => ?_
 refine Wp.block ?_
 refine Wp.seqR fun K10 hK10 => ?_
 simp only [go_sem, simprocAttr, hw8, hxr_64]
 first | apply hK10 | refine ⟨sd, hK10 _ _ ?_⟩
 obtain ⟨r_65, hr_65, hm⟩ := call_elim hm
 refine Wp.region fun K11 hK11 => ?_
 simp only [go_sem, simprocAttr, hw8, hxr_64]
 try refine ⟨sd, ?_⟩
 refine Rg.callO (av := ?av12) [1, 0] (ok_log_table_add_i1 r_64 o1_1_57 m0_56 _ hr_65) (by simp only [go_sem, simprocAttr, hw8, hxr_64]; exact Is.mk) (by simp only [go_sem, simprocAttr, hw8, hxr_64]; exact Is.mk) (by simp only [go_sem, simprocAttr, hw8, hxr_64]; exact Is.mk) (by simp only [go_sem, simprocAttr, hw8, hxr_64]) (by simp only [go_sem, simprocAttr, hw8, hxr_64]) ?cont12
 rintro _ _ ⟨rfl, rfl⟩ hv12
 simp only [go_sem, simprocAttr, hw8, hxr_64]
 first | apply hK11 | refine ⟨sd, hK11 _ _ ?_⟩
 refine hK9 _ _ ?_
 refine Wp.region fun K13 hK13 => ?_
 simp only [go_sem, simprocAttr, hw8, hxr_64]
 first | apply hK13 | refine ⟨sd, hK13 _ _ ?_⟩
 simp only [thenQ, blockQ, ↓reduceIte]
 refine ⟨(r_65.2, r_65.1), hlt8, hnx_61 _ hm, ?_⟩
 simp only [go_sem, simprocAttr, hw8, hxr_64]
 try exact se4
theorem ok_maps_Keys_map_string_log_had_string_log_had_i1 (m0_1 : List (Str × log_had)) (z : Unit) (hm : maps_Keys_map_string_log_had_string_log_had_i1 m0_1 = some z) : Does Tryz.prog 99 [.mp 0] [.mp true (encM Dt.s enc_log_had m0_1)] (fun r X => r = .fn 129 [.ptr 1 0] ∧ X = [.mp true (encM Dt.s enc_log_had m0_1), .cells 97 [.mp 0]]) := by
 unfold maps_Keys_map_string_log_had_string_log_had_i1 at hm
 refine Does.of_wp 2 4 [.tmp 2] Tryz.func99 rfl (by decide) rfl rfl (Nat.le_of_ble_eq_true rfl) fun B => ?_
 refine qS ?_
 refine qS ?_
 refine Wp.ret ?_
 refine retQ_ret ?_
 cases hm
 exact fse4
theorem ok_slices_Sorted_keys_129 (m1 : List (Str × log_had)) (z : List Str) (hm : slices_Sorted_keys_129 m1 = some z) : Does Tryz.prog 98 [.fn 129 [.ptr 0 0]] [.cells 97 [.mp 1], .mp true (encM Dt.s enc_log_had m1)] (fun r X => r = .p (.l (List.map ecS z)) ∧ X = [.cells 97 [.mp 1], .mp true (encM Dt.s enc_log_had m1)]) := by
 cases hm
 exact Does.sortedKeys Tryz.sortedL Tryz.keys129L ⟨_, Tryz.func98, by kernel_rfl, by kernel_rfl⟩ (fun m => ⟨fun blk off cap ss W hH hblk hsz => callsIn_wide.2 (AnyM.slices_Sort_string Tryz.sortL blk off cap ss W hH hblk hsz), fun p cap W => callsIn_wide.2 (AnyM.slices_Sort_string_none Tryz.sortL p cap W)⟩) (enters_of Tryz.func128 (by kernel_rfl) rfl) (enters_of Tryz.func129 (by kernel_rfl) rfl) rfl 97 true enc_log_had m1
theorem ok_log_table_list_i1 (o0_1_1 : Int) (m1_2 : List (Str × log_had)) (z : List api_Had) (hm : log_table_list_i1 o0_1_1 m1_2 = some z) : Does Tryz.prog 56 [.ptr 0 0] [.cells 99 [.mp 1, .p (.i .i64 o0_1_1)], .mp true (encM Dt.s enc_log_had m1_2)] (fun r X => r = .p (.l (List.map enc_api_Had z)) ∧ X = [.cells 99 [.mp 1, .p (.i .i64 o0_1_1)], .mp true (encM Dt.s enc_log_had m1_2)]) := by
 unfold log_table_list_i1 at hm
 refine Does.of_wp 2 38 [.tmp 2] Tryz.func56 rfl (by decide) rfl rfl (Nat.le_of_ble_eq_true rfl) fun B => ?_
 refine qS ?_
 refine qS ?_
 refine Wp.seqW fun K3 hK3 hW3 => ?_
 obtain ⟨k_69, hk_69, hm⟩ := jp_elim hm
 have hcut3 : ∀ s, k_69 s = some z → K3 [(3, .buf 3)] [.cells 99 [.mp 1, .p (.i .i64 o0_1_1)], .mp true (encM Dt.s enc_log_had m1_2), .cells 97 [.top], .buf 57 6 (List.map enc_api_Had s)] := by
  intro o3_68 hs
  have hm := hk_69 _ hs
  clear hs
  try dsimp only at hm
  try dsimp only
  refine hK3 _ _ ?_
  refine qS ?_
  refine Wp.ret ?_
  refine retQ_ret ?_
  cases hm
  exact fse4
 clear hK3 hk_69
 obtain ⟨r_70, hr_70, hm⟩ := call_elim hm
 obtain ⟨r_71, hr_71, hm⟩ := call_elim hm
 refine Wp.seqR fun K5 hK5 => ?_
 simp only [go_sem, simprocAttr]
 try refine ⟨sd, ?_⟩
 refine Rg.callO (av := ?av6) [1] (ok_maps_Keys_map_string_log_had_string_log_had_i1 m1_2 _ hr_70) si si si sg sg ?cont6
 rintro _ _ ⟨rfl, rfl⟩ hv6
 simp only [go_sem, simprocAttr]
 try refine ⟨sd, ?_⟩
 refine Rg.callR (av := ?av7) (g := true) [2, 1] (fun hg => ok_slices_Sorted_keys_129 m1_2 _ hr_71) si si si si sg sg sg ?cont7
 simp only [go_sem, simprocAttr]
 first | apply hK5 | refine ⟨sd, hK5 _ _ ?_⟩
 refine Wp.block ?_
 refine Wp.adopt 3 57 6 rfl ?_
 simp only [go_sem, simprocAttr]
 obtain ⟨k_83, hk_83, hm⟩ := forL_cont hm
 refine Wp.fact 11 fun hl_86 => ?_
 replace hl_86 : r_71.length ≤ 274877906944 := by
  simp only [go_sem, simprocAttr, List.length_map] at hl_86
  omega
 refine Wp.forL (fun i_85 s => [(0, .ptr 0 0), (3, .buf 3), (11, .p (.l (List.map ecS r_71))), (12, .p (.i .i64 (r_71.length : Int))), (13, .p (.i .i64 (i_85 : Int)))]) (fun i_85 s => [.cells 99 [.mp 1, .p (.i .i64 o0_1_1)], .mp true (encM Dt.s enc_log_had m1_2), .cells 97 [.mp 1], .buf 57 6 (List.map enc_api_Had s)]) ?_ hm ?_
 ·
  exact fse4
 clear hm
 intro i_85 o3_78 hii_85 hm
 try dsimp only at hm
 try dsimp only
 refine qS ?_
 refine Wp.seqW fun K9 hK9 hW9 => ?_
 refine Wp.cond rfl ⟨⟩ (fun hc9 => ?_) (fun hc9 => ?_)
 rotate_left
 ·refine Wp.exit ?_
  have hm := hk_83 _ (forL_end hm (ge_nat (by first | exact hc9 | simpa using hc9)))
  try dsimp only at hm
  refine hW3 _ _ _ _ ?_ (hcut3 o3_78 hm)
  exact fse4
 have hlt9 := lt_nat (by first | exact hc9 | simpa using hc9)
 have hw9 := wrap_succ hlt9 hl_86
 obtain ⟨s_87, nx_84, hxs_87, hys_87, hnx_84, hm⟩ := forL_step hm hlt9
 replace hxs_87 := hxs_87 ecS
 refine Wp.skip ?_
 simp only [thenQ]
 refine hK9 _ _ ?_
 refine Wp.seqW fun K10 hK10 hW10 => ?_
 refine Wp.block ?_
 refine Wp.seqR fun K11 hK11 => ?_
 simp only [go_sem, simprocAttr, hw9, hxs_87]
 first | apply hK11 | refine ⟨sd, hK11 _ _ ?_⟩
 obtain ⟨q_88, hq_89, hm⟩ := letv_elim hm
 have hq_89d := mlookD_enc (e := enc_log_had) keq_s m1_2 s_87 (log_had.mk (api_Version.mk 0 0 0 []) 0)
 have hq_89s := mlook_some (e := enc_log_had) keq_s m1_2 s_87
 simp only [hq_89, enc_log_had, List.map_nil] at hq_89d hq_89s
 obtain ⟨c_90, hm⟩ := chk_elim hm
 refine Wp.regD (plan := pl [(0, none), (1, none), (2, none), (3, none), (4, none), (5, none), (6, none), (7, none), (8, none), (9, none), (10, none), (11, none), (12, none), (13, none), (14, none), (15, none), (16, none), (17, some [0]), (18, some []), (19, none)]) (by kernel_rfl) rfl (by kernel_rfl) fun K12 hK12 => ?_
 simp only [go_sem, simprocAttr, hw9, hxs_87, hq_89d, hq_89s]
 first | apply hK12 | refine ⟨by first | exact sd | ((repeat' apply And.intro) <;> first | assumption | omega | (simp only [List.length_append, List.length_map, List.length_cons, List.length_nil, List.length_set, List.length_replicate] at c_90 ⊢; omega)), hK12 _ _ ?_⟩
 refine hK10 _ _ ?_
 refine Wp.region fun K13 hK13 => ?_
 simp only [go_sem, simprocAttr, hw9, hxs_87]
 first | apply hK13 | refine ⟨sd, hK13 _ _ ?_⟩
 simp only [thenQ, blockQ, ↓reduceIte]
 refine ⟨o3_78 ++ [(api_Had.mk s_87 ((q_88.getD (log_had.mk (api_Version.mk 0 0 0 []) 0)).v) ((q_88.getD (log_had.mk (api_Version.mk 0 0 0 []) 0)).since))], hlt9, hnx_84 _ hm, ?_⟩
 simp only [go_sem, simprocAttr, hw9, hxs_87]
 try exact se4
theorem ok_log_Installed (l_1 : List api_Record) (z : List api_Had × Int) (hm : log_Installed l_1 = some z) : Does Tryz.prog 24 [.p (.l (List.map enc_api_Record l_1))] [] (fun r X => r = .tup [.p (.l (List.map enc_api_Had z.1)), .p (.i .i64 z.2)] ∧ X = []) := by
 unfold log_Installed at hm
 refine Does.of_wp 0 13 [.tmp 2, .tmp 3] Tryz.func24 rfl (by decide) rfl rfl (Nat.le_of_ble_eq_true rfl) fun B => ?_
 refine qS ?_
 refine Wp.seqW fun K2 hK2 hW2 => ?_
 obtain ⟨r_2, hr_2, hm⟩ := call_elim hm
 refine Wp.seqR fun K3 hK3 => ?_
 simp only [go_sem, simprocAttr]
 try refine ⟨sd, ?_⟩
 refine Rg.callX (av := ?av4) (g := true) (fun hg => ok_log_check l_1 _ hr_2) si si si sg si ?cont4
 intro hv4
 simp only [go_sem, simprocAttr]
 first | apply hK3 | refine ⟨sd, hK3 _ _ ?_⟩
 refine qS ?_
 refine cM hm (fun hc6 hm => ?_) (fun hc6 hm => ?_)
 ·refine qS ?_
  refine Wp.ret ?_
  simp only [thenQ, blockQ]
  refine retQ_retE ?_
  cases hm
  exact fse4
 ·refine Wp.skip ?_
  refine hK2 _ _ ?_
  obtain ⟨r_3, hr_3, hm⟩ := call_elim hm
  obtain ⟨r_4, hr_4, hm⟩ := call_elim hm
  refine Wp.seqR fun K8 hK8 => ?_
  simp only [go_sem, simprocAttr]
  try refine ⟨sd, ?_⟩
  refine Rg.callO (av := ?av9) [] (ok_log_behind l_1 _ hr_3) si si si sg sg ?cont9
  rintro _ _ ⟨rfl, rfl⟩ hv9
  simp only [go_sem, simprocAttr]
  try refine ⟨sd, ?_⟩
  refine Rg.callR (av := ?av10) (g := true) [1, 0] (fun hg => ok_log_table_list_i1 r_3.2 r_3.1 _ hr_4) si si si si sg sg sg ?cont10
  simp only [go_sem, simprocAttr]
  first | apply hK8 | refine ⟨sd, hK8 _ _ ?_⟩
  refine Wp.ret ?_
  refine retQ_ret ?_
  cases hm
  exact fse4
theorem ok_slices_Equal_api_Had_api_Had (s1_1 : List api_Had) (s2_2 : List api_Had) (z : Bool) (hm : slices_Equal_api_Had_api_Had s1_1 s2_2 = some z) : Does Tryz.prog 25 [.p (.l (List.map enc_api_Had s1_1)), .p (.l (List.map enc_api_Had s2_2))] [] (fun r X => r = .p (.b z) ∧ X = []) := by
 unfold slices_Equal_api_Had_api_Had at hm
 refine Does.of_wp 0 26 [.tmp 4] Tryz.func25 rfl (by decide) rfl rfl (Nat.le_of_ble_eq_true rfl) fun B => ?_
 refine qS ?_
 refine Wp.seqW fun K2 hK2 hW2 => ?_
 refine qS ?_
 refine cM hm (fun hc4 hm => ?_) (fun hc4 hm => ?_)
 ·refine qS ?_
  refine Wp.ret ?_
  refine retQ_ret ?_
  cases hm
  exact fse5
 ·refine Wp.skip ?_
  refine hK2 _ _ ?_
  refine Wp.seqW fun K6 hK6 hW6 => ?_
  obtain ⟨k_12, hk_12, hm⟩ := jp_elim hm
  have hcut6 : ∀ s, k_12 s = some z → K6 [] [] := by
   intro s hs
   have hm := hk_12 _ hs
   clear hs
   try dsimp only at hm
   try dsimp only
   refine hK6 _ _ ?_
   refine qS ?_
   refine Wp.ret ?_
   refine retQ_ret ?_
   cases hm
   exact fse5
  clear hK6 hk_12
  refine qS ?_
  refine Wp.block ?_
  obtain ⟨k_16, hk_16, hm⟩ := forL_cont hm
  refine Wp.fact 0 fun hl_19 => ?_
  replace hl_19 : s1_1.length ≤ 274877906944 := by
   simp only [go_sem, simprocAttr, List.length_map] at hl_19
   omega
  refine Wp.forL (fun i_18 s => [(0, .p (.l (List.map enc_api_Had s1_1))), (1, .p (.l (List.map enc_api_Had s2_2))), (12, .p (.i .i64 (s1_1.length : Int))), (13, .p (.i .i64 (i_18 : Int)))]) (fun i_18 s => []) ?_ hm ?_
  ·
   exact fse5
  clear hm
  intro i_18 s hii_18 hm
  try dsimp only at hm
  try dsimp only
  refine qS ?_
  refine Wp.seqW fun K10 hK10 hW10 => ?_
  refine Wp.cond rfl ⟨⟩ (fun hc10 => ?_) (fun hc10 => ?_)
  rotate_left
  ·refine Wp.exit ?_
   have hm := hk_16 _ (forL_end hm (ge_nat (by first | exact hc10 | simpa using hc10)))
   try dsimp only at hm
   refine hW6 _ _ _ _ ?_ (hcut6 () hm)
   exact fse5
  have hlt10 := lt_nat (by first | exact hc10 | simpa using hc10)
  have hw10 := wrap_succ hlt10 hl_19
  obtain ⟨h_20, nx_17, hxh_20, hyh_20, hnx_17, hm⟩ := forL_step hm hlt10
  replace hxh_20 := hxh_20 enc_api_Had
  refine Wp.skip ?_
  simp only [thenQ]
  refine hK10 _ _ ?_
  refine Wp.seqW fun K11 hK11 hW11 => ?_
  refine Wp.block ?_
  refine Wp.seqR fun K12 hK12 => ?_
  simp only [go_sem, simprocAttr, hw10, hxh_20]
  first | apply hK12 | refine ⟨sd, hK12 _ _ ?_⟩
  obtain ⟨h_21, hbh_21, hxh_21, hyh_21, hm⟩ := idx_elim hm
  replace hxh_21 : ∀ d, (List.map enc_api_Had s2_2).getD i_18 d = enc_api_Had h_21 := hxh_21 enc_api_Had
  refine Wp.seqD (plan := pl [(0, none), (1, none), (2, none), (3, none), (4, none), (5, none), (6, none), (7, none), (8, none)]) (by kernel_rfl) rfl (by kernel_rfl) fun K13 hK13 => ?_
  simp only [go_sem, simprocAttr, hw10, hxh_20, hxh_21]
  first | apply hK13 | refine ⟨sd, hK13 _ _ ?_⟩
  refine cM hm (fun hc14 hm => ?_) (fun hc14 hm => ?_)
  ·refine Wp.seqR fun K15 hK15 => ?_
   simp only [go_sem, simprocAttr, hw10, hxh_20, hxh_21]
   first | apply hK15 | refine ⟨sd, hK15 _ _ ?_⟩
   refine Wp.ret ?_
   refine retQ_ret ?_
   cases hm
   simp only [go_sem, simprocAttr, hw10, hxh_20, hxh_21]
   try exact se5
  ·refine Wp.skip ?_
   refine hK11 _ _ ?_
   refine Wp.region fun K16 hK16 => ?_
   simp only [go_sem, simprocAttr, hw10, hxh_20, hxh_21]
   first | apply hK16 | refine ⟨sd, hK16 _ _ ?_⟩
   simp only [thenQ, blockQ, ↓reduceIte]
   refine ⟨(), hlt10, hnx_17 _ hm, ?_⟩
   simp only [go_sem, simprocAttr, hw10, hxh_20, hxh_21]
   try exact se5
end Go.Proofs.YtmnohdgjkcjdeaaGreatDoor
