/- That the code does what the models say (part 6). -/
import Derived.Test.YtmnohdgjkcjdeaaGreatDoorTlWk0
import Derived.Test.YtmnohdgjkcjdeaaGreatDoorTlWk1
import Derived.Test.YtmnohdgjkcjdeaaGreatDoorTlWk3
import Derived.Test.YtmnohdgjkcjdeaaGreatDoorTlWk5
set_option linter.unusedSimpArgs false
set_option linter.unusedVariables false
open Go.Proofs Go.Shelf
namespace Go.Proofs.YtmnohdgjkcjdeaaGreatDoor
open Go.Vc Go.Md
set_option maxRecDepth 100000
set_option maxHeartbeats 4000000
theorem ok_Top_TopLogsTell (l_1 : List api_Record) (cut_2 : Int) (z : Bool) (hm : Top_TopLogsTell l_1 cut_2 = some z) : Does Tryz.prog 6 [.p (.l (List.map enc_api_Record l_1)), .p (.i .i64 cut_2)] [] (fun r X => r = .p (.b z) ∧ X = []) := by
 unfold Top_TopLogsTell at hm
 refine Does.of_wp 0 127 [.tmp 4] Tryz.func6 rfl (by decide) rfl rfl (Nat.le_of_ble_eq_true rfl) fun B => ?_
 refine qS ?_
 refine Wp.seqW fun K2 hK2 hW2 => ?_
 obtain ⟨r_3, hr_3, hm⟩ := call_elim hm
 refine Wp.seqR fun K3 hK3 => ?_
 simp only [go_sem, simprocAttr]
 try refine ⟨sd, ?_⟩
 refine Rg.callX (av := ?av4) (g := true) (fun hg => ok_Top_landed  _ hr_3) si si si sg si ?cont4
 intro hv4
 simp only [go_sem, simprocAttr]
 first | apply hK3 | refine ⟨sd, hK3 _ _ ?_⟩
 refine cM hm (fun hc5 hm => ?_) (fun hc5 hm => ?_)
 ·refine qS ?_
  refine Wp.ret ?_
  refine retQ_ret ?_
  cases hm
  exact fse4
 ·refine Wp.skip ?_
  refine hK2 _ _ ?_
  obtain ⟨r_4, hr_4, hm⟩ := call_elim hm
  refine Wp.seqR fun K7 hK7 => ?_
  simp only [go_sem, simprocAttr]
  try refine ⟨sd, ?_⟩
  refine Rg.callO (av := ?av8) [] (ok_log_New  _ hr_4) si si si sg sg ?cont8
  rintro _ _ ⟨rfl, rfl⟩ hv8
  simp only [go_sem, simprocAttr]
  first | apply hK7 | refine ⟨sd, hK7 _ _ ?_⟩
  refine qS ?_
  refine qS ?_
  obtain ⟨c_5, hm⟩ := chk_elim hm
  obtain ⟨c_6, hm⟩ := chk_elim hm
  refine Wp.seqR fun K11 hK11 => ?_
  simp only [go_sem, simprocAttr]
  first | apply hK11 | refine ⟨by first | exact sd | ((repeat' apply And.intro) <;> first | assumption | omega | (simp only [List.length_append, List.length_map, List.length_cons, List.length_nil, List.length_set, List.length_replicate] at c_5 c_6 ⊢; omega)), hK11 _ _ ?_⟩
  refine Wp.seqW fun K12 hK12 hW12 => ?_
  obtain ⟨k_65, hk_65, hm⟩ := jp_elim hm
  have hcut12 : ∀ s, k_65 s = some z → K12 [(1, .p (.i .i64 cut_2)), (5, .ptr 2 0), (6, .buf 3), (7, .buf 4)] [.mp true (encM Dt.s enc_log_had s.1), .cells 99 [.mp 0, .p (.i .i64 s.2.1)], .cells 63 [.buf 5, .buf 6, .p (.s s.2.2.1), .ptr 1 0], .buf 9 1 (List.map ecS s.2.2.2.1), .buf 52 1 (List.map encL_enc_api_Had s.2.2.2.2.1), .buf 30 13 (List.map enc_api_Record s.2.2.2.2.2.1), .buf 9 1 (List.map ecS s.2.2.2.2.2.2)] := by
   intro s hs
   have hm := hk_65 _ hs
   clear hs
   obtain ⟨m0_58, o1_1_59, o2_2_60, o3_61, o4_62, o5_63, o6_64⟩ := s
   try dsimp only at hm
   try dsimp only
   refine hK12 _ _ ?_
   obtain ⟨r_66, hr_66, hm⟩ := call_elim hm
   refine Wp.seqR fun K13 hK13 => ?_
   simp only [go_sem, simprocAttr]
   try refine ⟨sd, ?_⟩
   refine Rg.callO (av := ?av14) [2, 5, 6, 1, 0] (ok_log_Log_Text_i1 o2_2_60 o5_63 o6_64 o1_1_59 m0_58 _ hr_66) si si si sg sg ?cont14
   rintro _ _ ⟨rfl, rfl⟩ hv14
   simp only [go_sem, simprocAttr]
   first | apply hK13 | refine ⟨sd, hK13 _ _ ?_⟩
   obtain ⟨c_67, hm⟩ := chk_elim hm
   obtain ⟨v_68, hv_69, hm⟩ := letv_elim hm
   refine Wp.seqR fun K15 hK15 => ?_
   simp only [go_sem, simprocAttr, hv_69]
   first | apply hK15 | refine ⟨by first | exact sd | ((repeat' apply And.intro) <;> first | assumption | omega | (simp only [List.length_append, List.length_map, List.length_cons, List.length_nil, List.length_set, List.length_replicate] at c_67 ⊢; omega)), hK15 _ _ ?_⟩
   obtain ⟨r_70, hr_70, hm⟩ := call_elim hm
   refine Wp.seqR fun K16 hK16 => ?_
   simp only [go_sem, simprocAttr, hv_69]
   try refine ⟨sd, ?_⟩
   refine Rg.callO (av := ?av17) [] (ok_log_Open v_68 _ hr_70) (by simp only [go_sem, simprocAttr, hv_69]; exact Is.mk) (by simp only [go_sem, simprocAttr, hv_69]; exact Is.mk) (by simp only [go_sem, simprocAttr, hv_69]; exact Is.mk) (by simp only [go_sem, simprocAttr, hv_69]) (by simp only [go_sem, simprocAttr, hv_69]) ?cont17
   rintro _ _ ⟨rfl, rfl⟩ hv17
   simp only [go_sem, simprocAttr, hv_69]
   first | apply hK16 | refine ⟨sd, hK16 _ _ ?_⟩
   refine Wp.seqW fun K18 hK18 hW18 => ?_
   obtain ⟨c_72, hm⟩ := chk_elim hm
   obtain ⟨r_73, hr_73, hr_73d, hm⟩ := callG_elim2 hm
   obtain ⟨v_74, hv_75, hm⟩ := letv_elim hm
   refine Wp.seqDW (plan := pl [(0, none), (1, none), (2, none), (3, none), (4, none), (5, none), (6, none), (7, none), (8, none), (9, none), (11, none), (12, none), (13, none), (14, none), (10, some [11, 12, 13, 14]), (15, none), (16, none)]) (by kernel_rfl) rfl (by kernel_rfl) fun K19 hK19 hW19 => ?_
   suffices hcont19 : K19 [(1, .p (.i .i64 cut_2)), (5, .ptr 2 0), (6, .buf 3), (7, .buf 4), (12, .p (.s v_68)), (13, .ptr 9 0), (14, .p (.i .i64 r_70.1)), (15, .p (.i .i64 r_70.2.1)), (58, .ptr 2 0), (59, .p (.s r_66)), (60, .p (.s r_66)), (61, .p (.s r_66)), (62, .p (.i .i64 (r_66.length : Int))), (63, .p (.i .i64 cut_2)), (64, .p (.i .i64 (max cut_2 0))), (65, .p (.s r_66)), (66, .p (.i .i64 (r_66.length : Int))), (67, .p (.i .i64 (min (max cut_2 0) (r_66.length : Int)))), (68, .p (.i .i64 (IntKind.i64.wrap ((r_66.length : Int) - (min (max cut_2 0) (r_66.length : Int)))))), (69, .p (.s v_68)), (70, .tup [.ptr 9 0, .p (.i .i64 r_70.1), .p (.i .i64 r_70.2.1)]), (71, .p (.s v_68)), (72, .tup [.ptr 9 0, .p (.i .i64 r_70.1), .p (.i .i64 r_70.2.1)]), (73, .ptr 9 0), (74, .p (.i .i64 r_70.1)), (75, .p (.i .i64 r_70.2.1)), (76, .p (.i .i64 r_70.2.1)), (77, .p (.b (!decide (r_70.2.1 = 0)))), (78, .p (.b (!decide (r_70.2.1 = 0)))), (83, .p (.b ((!decide (r_70.2.1 = 0)) || (decide ((o3_61.length : Int) ≤ r_70.1))))), (84, .p (.b ((!decide (r_70.2.1 = 0)) || (decide ((o3_61.length : Int) ≤ r_70.1))))), (92, .p (.b v_74))] [.mp true (encM Dt.s enc_log_had m0_58), .cells 99 [.mp 0, .p (.i .i64 o1_1_59)], .cells 63 [.buf 5, .buf 6, .p (.s o2_2_60), .ptr 1 0], .buf 9 1 (List.map ecS o3_61), .buf 52 1 (List.map encL_enc_api_Had o4_62), .buf 30 13 (List.map enc_api_Record o5_63), .buf 9 1 (List.map ecS o6_64), .mp true (encM Dt.s enc_log_had r_70.2.2.1), .cells 99 [.mp 7, .p (.i .i64 r_70.2.2.2.1)], .cells 63 [.buf 10, .buf 11, .p (.s r_70.2.2.2.2.1), .ptr 8 0], .buf 30 13 (List.map enc_api_Record r_70.2.2.2.2.2.1), .buf 9 1 (List.map ecS r_70.2.2.2.2.2.2)] by
    rcases Bool.eq_false_or_eq_true (!((!decide (r_70.2.1 = 0)) || (decide ((o3_61.length : Int) ≤ r_70.1)))) with hg_76 | hg_76
    ·
     have hn_77 : ((!decide (r_70.2.1 = 0)) || (decide ((o3_61.length : Int) ≤ r_70.1))) = false := by simpa only [Bool.not_eq_false', Bool.not_eq_true'] using hg_76
     have c_78 := c_72 hg_76
     try dsimp only at c_78
     have ha_79 : ((!decide (r_70.2.1 = 0)) || (decide ((o3_61.length : Int) ≤ r_70.1))) = false := by revert hg_76; generalize decide ((o3_61.length : Int) ≤ r_70.1) = x0; generalize decide (r_70.2.1 = 0) = x1; revert x0 x1; decide
     have ha_80 : (decide ((o3_61.length : Int) ≤ r_70.1)) = false := by revert hg_76; generalize decide ((o3_61.length : Int) ≤ r_70.1) = x0; generalize decide (r_70.2.1 = 0) = x1; revert x0 x1; decide
     have ha_81 : (decide (r_70.2.1 = 0)) = true := by revert hg_76; generalize decide ((o3_61.length : Int) ≤ r_70.1) = x0; generalize decide (r_70.2.1 = 0) = x1; revert x0 x1; decide
     have hr_82 := fun h => getD_encB (l := o3_61) (e := ecS) (d := []) (i := r_70.1.toNat) h []
     subst hv_75
     simp only [go_sem, simprocAttr, false_implies, and_true, true_and, bad, hv_69, hg_76, hn_77, ha_79, ha_80, ha_81, hr_82 (by omega)]
     try refine ⟨by first | exact sd | ((repeat' apply And.intro) <;> first | assumption | omega | (simp only [List.length_append, List.length_map, List.length_cons, List.length_nil, List.length_set, List.length_replicate] at c_72 c_78 ⊢; omega)), ?_⟩
     refine Dr.of_br (Br.callEG (av := ?av20) (o := ?o20) [9, 10, 11, 8, 7] (ok_log_Log_Text_i1 r_70.2.2.2.2.1 r_70.2.2.2.2.2.1 r_70.2.2.2.2.2.2 r_70.2.2.2.1 r_70.2.2.1 _ (hr_73 hg_76)) (by simp only [go_sem, simprocAttr, false_implies, and_true, true_and, bad, hv_69, hg_76, hn_77, ha_79, ha_80, ha_81, hr_82 (by omega)]; exact Is.mk) (by simp only [go_sem, simprocAttr, false_implies, and_true, true_and, bad, hv_69, hg_76, hn_77, ha_79, ha_80, ha_81, hr_82 (by omega)]; exact Is.mk) (by simp only [go_sem, simprocAttr, false_implies, and_true, true_and, bad, hv_69, hg_76, hn_77, ha_79, ha_80, ha_81, hr_82 (by omega)]; exact Is.mk) (by simp only [go_sem, simprocAttr, false_implies, and_true, true_and, bad, hv_69, hg_76, hn_77, ha_79, ha_80, ha_81, hr_82 (by omega)]; exact Is.mk) (by simp only [go_sem, simprocAttr, false_implies, and_true, true_and, bad, hv_69, hg_76, hn_77, ha_79, ha_80, ha_81, hr_82 (by omega)]; exact Is.mk) (by simp only [go_sem, simprocAttr, false_implies, and_true, true_and, bad, hv_69, hg_76, hn_77, ha_79, ha_80, ha_81, hr_82 (by omega)]) (by simp only [go_sem, simprocAttr, false_implies, and_true, true_and, bad, hv_69, hg_76, hn_77, ha_79, ha_80, ha_81, hr_82 (by omega)]) ?hag20 ?cont20)
     case hag20 => first | (simp only [go_sem, simprocAttr, false_implies, and_true, true_and, bad, hv_69, hg_76, hn_77, ha_79, ha_80, ha_81, hr_82 (by omega)]; done) | (simp only [go_sem, simprocAttr, false_implies, and_true, true_and, bad, hv_69, hg_76, hn_77, ha_79, ha_80, ha_81, hr_82 (by omega)]; exact sd)
     simp only [go_sem, simprocAttr, false_implies, and_true, true_and, bad, hv_69, hg_76, hn_77, ha_79, ha_80, ha_81, hr_82 (by omega)]
     first | refine hW19 _ _ _ _ ?_ hcont19 | refine ⟨by first | exact sd | ((repeat' apply And.intro) <;> first | assumption | omega | (simp only [List.length_append, List.length_map, List.length_cons, List.length_nil, List.length_set, List.length_replicate] at c_72 c_78 ⊢; omega)), hW19 _ _ _ _ ?_ hcont19⟩
     simp only [go_sem, simprocAttr, false_implies, and_true, true_and, bad, hv_69, hg_76, hn_77, ha_79, ha_80, ha_81, hr_82 (by omega)]
     try exact se5
    ·
     have hn_83 : ((!decide (r_70.2.1 = 0)) || (decide ((o3_61.length : Int) ≤ r_70.1))) = true := by simpa only [Bool.not_eq_false', Bool.not_eq_true'] using hg_76
     rcases Bool.eq_false_or_eq_true (decide ((o3_61.length : Int) ≤ r_70.1)) with hg_84 | hg_84
     ·
      have hn_85 : ((!decide (r_70.2.1 = 0)) || (decide ((o3_61.length : Int) ≤ r_70.1))) = true := by simpa only [Bool.not_eq_false', Bool.not_eq_true'] using hg_76
      rcases Bool.eq_false_or_eq_true (decide (r_70.2.1 = 0)) with hg_86 | hg_86
      ·
       have hn_87 : ((!decide (r_70.2.1 = 0)) || (decide ((o3_61.length : Int) ≤ r_70.1))) = true := by simpa only [Bool.not_eq_false', Bool.not_eq_true'] using hg_76
       have ha_88 : ((!decide (r_70.2.1 = 0)) || (decide ((o3_61.length : Int) ≤ r_70.1))) = true := by revert hg_76 hg_84 hg_86; generalize decide ((o3_61.length : Int) ≤ r_70.1) = x0; generalize decide (r_70.2.1 = 0) = x1; revert x0 x1; decide
       rcases Nat.lt_or_ge r_70.1.toNat o3_61.length with hi_89 | hi_89
       ·
        have hr_90 := getD_encB (l := o3_61) (e := ecS) (d := []) (i := r_70.1.toNat) hi_89 []
        subst hv_75
        simp only [go_sem, simprocAttr, false_implies, and_true, true_and, bad, hv_69, hg_76, hg_84, hg_86, hn_87, ha_88, hr_90]
        try refine ⟨by first | exact sd | ((repeat' apply And.intro) <;> first | assumption | omega | (simp only [List.length_append, List.length_map, List.length_cons, List.length_nil, List.length_set, List.length_replicate] at c_72 ⊢; omega)), ?_⟩
        obtain rfl := hr_73d hg_76
        refine Dr.of_br (Br.skipG (o := ?o21) (v := .top) (gw := ?gw21) (by simp only [go_sem, simprocAttr, false_implies, and_true, true_and, bad, hv_69, hg_76, hg_84, hg_86, hn_87, ha_88, hr_90]; exact Is.mk) (by simp only [go_sem, simprocAttr, false_implies, and_true, true_and, bad, hv_69, hg_76, hg_84, hg_86, hn_87, ha_88, hr_90]; exact Is.mk) (by simp only [go_sem, simprocAttr, false_implies, and_true, true_and, bad, hv_69, hg_76, hg_84, hg_86, hn_87, ha_88, hr_90]; exact Is.mk) (by simp only [go_sem, simprocAttr, false_implies, and_true, true_and, bad, hv_69, hg_76, hg_84, hg_86, hn_87, ha_88, hr_90]) ?cont21)
        simp only [go_sem, simprocAttr, false_implies, and_true, true_and, bad, hv_69, hg_76, hg_84, hg_86, hn_87, ha_88, hr_90]
        first | refine hW19 _ _ _ _ ?_ hcont19 | refine ⟨by first | exact sd | ((repeat' apply And.intro) <;> first | assumption | omega | (simp only [List.length_append, List.length_map, List.length_cons, List.length_nil, List.length_set, List.length_replicate] at c_72 ⊢; omega)), hW19 _ _ _ _ ?_ hcont19⟩
        simp only [go_sem, simprocAttr, false_implies, and_true, true_and, bad, hv_69, hg_76, hg_84, hg_86, hn_87, ha_88, hr_90]
        try exact se5
       ·
        have hr_90 : (List.map ecS o3_61).getD r_70.1.toNat [] = [] := by rw [List.getD_eq_getElem?_getD, List.getElem?_eq_none (by simpa using hi_89)]; rfl
        subst hv_75
        simp only [go_sem, simprocAttr, false_implies, and_true, true_and, bad, hv_69, hg_76, hg_84, hg_86, hn_87, ha_88, hr_90]
        try refine ⟨by first | exact sd | ((repeat' apply And.intro) <;> first | assumption | omega | (simp only [List.length_append, List.length_map, List.length_cons, List.length_nil, List.length_set, List.length_replicate] at c_72 ⊢; omega)), ?_⟩
        obtain rfl := hr_73d hg_76
        refine Dr.of_br (Br.skipG (o := ?o22) (v := .top) (gw := ?gw22) (by simp only [go_sem, simprocAttr, false_implies, and_true, true_and, bad, hv_69, hg_76, hg_84, hg_86, hn_87, ha_88, hr_90]; exact Is.mk) (by simp only [go_sem, simprocAttr, false_implies, and_true, true_and, bad, hv_69, hg_76, hg_84, hg_86, hn_87, ha_88, hr_90]; exact Is.mk) (by simp only [go_sem, simprocAttr, false_implies, and_true, true_and, bad, hv_69, hg_76, hg_84, hg_86, hn_87, ha_88, hr_90]; exact Is.mk) (by simp only [go_sem, simprocAttr, false_implies, and_true, true_and, bad, hv_69, hg_76, hg_84, hg_86, hn_87, ha_88, hr_90]) ?cont22)
        simp only [go_sem, simprocAttr, false_implies, and_true, true_and, bad, hv_69, hg_76, hg_84, hg_86, hn_87, ha_88, hr_90]
        first | refine hW19 _ _ _ _ ?_ hcont19 | refine ⟨by first | exact sd | ((repeat' apply And.intro) <;> first | assumption | omega | (simp only [List.length_append, List.length_map, List.length_cons, List.length_nil, List.length_set, List.length_replicate] at c_72 ⊢; omega)), hW19 _ _ _ _ ?_ hcont19⟩
        simp only [go_sem, simprocAttr, false_implies, and_true, true_and, bad, hv_69, hg_76, hg_84, hg_86, hn_87, ha_88, hr_90]
        try exact se5
      ·
       have hn_91 : ((!decide (r_70.2.1 = 0)) || (decide ((o3_61.length : Int) ≤ r_70.1))) = true := by simpa only [Bool.not_eq_false', Bool.not_eq_true'] using hg_76
       have ha_92 : ((!decide (r_70.2.1 = 0)) || (decide ((o3_61.length : Int) ≤ r_70.1))) = true := by revert hg_76 hg_84 hg_86; generalize decide ((o3_61.length : Int) ≤ r_70.1) = x0; generalize decide (r_70.2.1 = 0) = x1; revert x0 x1; decide
       rcases Nat.lt_or_ge r_70.1.toNat o3_61.length with hi_93 | hi_93
       ·
        have hr_94 := getD_encB (l := o3_61) (e := ecS) (d := []) (i := r_70.1.toNat) hi_93 []
        subst hv_75
        simp only [go_sem, simprocAttr, false_implies, and_true, true_and, bad, hv_69, hg_76, hg_84, hg_86, hn_91, ha_92, hr_94]
        try refine ⟨by first | exact sd | ((repeat' apply And.intro) <;> first | assumption | omega | (simp only [List.length_append, List.length_map, List.length_cons, List.length_nil, List.length_set, List.length_replicate] at c_72 ⊢; omega)), ?_⟩
        obtain rfl := hr_73d hg_76
        refine Dr.of_br (Br.skipG (o := ?o23) (v := .top) (gw := ?gw23) (by simp only [go_sem, simprocAttr, false_implies, and_true, true_and, bad, hv_69, hg_76, hg_84, hg_86, hn_91, ha_92, hr_94]; exact Is.mk) (by simp only [go_sem, simprocAttr, false_implies, and_true, true_and, bad, hv_69, hg_76, hg_84, hg_86, hn_91, ha_92, hr_94]; exact Is.mk) (by simp only [go_sem, simprocAttr, false_implies, and_true, true_and, bad, hv_69, hg_76, hg_84, hg_86, hn_91, ha_92, hr_94]; exact Is.mk) (by simp only [go_sem, simprocAttr, false_implies, and_true, true_and, bad, hv_69, hg_76, hg_84, hg_86, hn_91, ha_92, hr_94]) ?cont23)
        simp only [go_sem, simprocAttr, false_implies, and_true, true_and, bad, hv_69, hg_76, hg_84, hg_86, hn_91, ha_92, hr_94]
        first | refine hW19 _ _ _ _ ?_ hcont19 | refine ⟨by first | exact sd | ((repeat' apply And.intro) <;> first | assumption | omega | (simp only [List.length_append, List.length_map, List.length_cons, List.length_nil, List.length_set, List.length_replicate] at c_72 ⊢; omega)), hW19 _ _ _ _ ?_ hcont19⟩
        simp only [go_sem, simprocAttr, false_implies, and_true, true_and, bad, hv_69, hg_76, hg_84, hg_86, hn_91, ha_92, hr_94]
        try exact se5
       ·
        have hr_94 : (List.map ecS o3_61).getD r_70.1.toNat [] = [] := by rw [List.getD_eq_getElem?_getD, List.getElem?_eq_none (by simpa using hi_93)]; rfl
        subst hv_75
        simp only [go_sem, simprocAttr, false_implies, and_true, true_and, bad, hv_69, hg_76, hg_84, hg_86, hn_91, ha_92, hr_94]
        try refine ⟨by first | exact sd | ((repeat' apply And.intro) <;> first | assumption | omega | (simp only [List.length_append, List.length_map, List.length_cons, List.length_nil, List.length_set, List.length_replicate] at c_72 ⊢; omega)), ?_⟩
        obtain rfl := hr_73d hg_76
        refine Dr.of_br (Br.skipG (o := ?o24) (v := .top) (gw := ?gw24) (by simp only [go_sem, simprocAttr, false_implies, and_true, true_and, bad, hv_69, hg_76, hg_84, hg_86, hn_91, ha_92, hr_94]; exact Is.mk) (by simp only [go_sem, simprocAttr, false_implies, and_true, true_and, bad, hv_69, hg_76, hg_84, hg_86, hn_91, ha_92, hr_94]; exact Is.mk) (by simp only [go_sem, simprocAttr, false_implies, and_true, true_and, bad, hv_69, hg_76, hg_84, hg_86, hn_91, ha_92, hr_94]; exact Is.mk) (by simp only [go_sem, simprocAttr, false_implies, and_true, true_and, bad, hv_69, hg_76, hg_84, hg_86, hn_91, ha_92, hr_94]) ?cont24)
        simp only [go_sem, simprocAttr, false_implies, and_true, true_and, bad, hv_69, hg_76, hg_84, hg_86, hn_91, ha_92, hr_94]
        first | refine hW19 _ _ _ _ ?_ hcont19 | refine ⟨by first | exact sd | ((repeat' apply And.intro) <;> first | assumption | omega | (simp only [List.length_append, List.length_map, List.length_cons, List.length_nil, List.length_set, List.length_replicate] at c_72 ⊢; omega)), hW19 _ _ _ _ ?_ hcont19⟩
        simp only [go_sem, simprocAttr, false_implies, and_true, true_and, bad, hv_69, hg_76, hg_84, hg_86, hn_91, ha_92, hr_94]
        try exact se5
     ·
      have hn_95 : ((!decide (r_70.2.1 = 0)) || (decide ((o3_61.length : Int) ≤ r_70.1))) = true := by simpa only [Bool.not_eq_false', Bool.not_eq_true'] using hg_76
      have ha_96 : ((!decide (r_70.2.1 = 0)) || (decide ((o3_61.length : Int) ≤ r_70.1))) = true := by revert hg_76 hg_84; generalize decide ((o3_61.length : Int) ≤ r_70.1) = x0; generalize decide (r_70.2.1 = 0) = x1; revert x0 x1; decide
      have ha_97 : (decide (r_70.2.1 = 0)) = false := by revert hg_76 hg_84; generalize decide ((o3_61.length : Int) ≤ r_70.1) = x0; generalize decide (r_70.2.1 = 0) = x1; revert x0 x1; decide
      rcases Nat.lt_or_ge r_70.1.toNat o3_61.length with hi_98 | hi_98
      ·
       have hr_99 := getD_encB (l := o3_61) (e := ecS) (d := []) (i := r_70.1.toNat) hi_98 []
       subst hv_75
       simp only [go_sem, simprocAttr, false_implies, and_true, true_and, bad, hv_69, hg_76, hg_84, hn_95, ha_96, ha_97, hr_99]
       try refine ⟨by first | exact sd | ((repeat' apply And.intro) <;> first | assumption | omega | (simp only [List.length_append, List.length_map, List.length_cons, List.length_nil, List.length_set, List.length_replicate] at c_72 ⊢; omega)), ?_⟩
       obtain rfl := hr_73d hg_76
       refine Dr.of_br (Br.skipG (o := ?o25) (v := .top) (gw := ?gw25) (by simp only [go_sem, simprocAttr, false_implies, and_true, true_and, bad, hv_69, hg_76, hg_84, hn_95, ha_96, ha_97, hr_99]; exact Is.mk) (by simp only [go_sem, simprocAttr, false_implies, and_true, true_and, bad, hv_69, hg_76, hg_84, hn_95, ha_96, ha_97, hr_99]; exact Is.mk) (by simp only [go_sem, simprocAttr, false_implies, and_true, true_and, bad, hv_69, hg_76, hg_84, hn_95, ha_96, ha_97, hr_99]; exact Is.mk) (by simp only [go_sem, simprocAttr, false_implies, and_true, true_and, bad, hv_69, hg_76, hg_84, hn_95, ha_96, ha_97, hr_99]) ?cont25)
       simp only [go_sem, simprocAttr, false_implies, and_true, true_and, bad, hv_69, hg_76, hg_84, hn_95, ha_96, ha_97, hr_99]
       first | refine hW19 _ _ _ _ ?_ hcont19 | refine ⟨by first | exact sd | ((repeat' apply And.intro) <;> first | assumption | omega | (simp only [List.length_append, List.length_map, List.length_cons, List.length_nil, List.length_set, List.length_replicate] at c_72 ⊢; omega)), hW19 _ _ _ _ ?_ hcont19⟩
       simp only [go_sem, simprocAttr, false_implies, and_true, true_and, bad, hv_69, hg_76, hg_84, hn_95, ha_96, ha_97, hr_99]
       try exact se5
      ·
       have hr_99 : (List.map ecS o3_61).getD r_70.1.toNat [] = [] := by rw [List.getD_eq_getElem?_getD, List.getElem?_eq_none (by simpa using hi_98)]; rfl
       subst hv_75
       simp only [go_sem, simprocAttr, false_implies, and_true, true_and, bad, hv_69, hg_76, hg_84, hn_95, ha_96, ha_97, hr_99]
       try refine ⟨by first | exact sd | ((repeat' apply And.intro) <;> first | assumption | omega | (simp only [List.length_append, List.length_map, List.length_cons, List.length_nil, List.length_set, List.length_replicate] at c_72 ⊢; omega)), ?_⟩
       obtain rfl := hr_73d hg_76
       refine Dr.of_br (Br.skipG (o := ?o26) (v := .top) (gw := ?gw26) (by simp only [go_sem, simprocAttr, false_implies, and_true, true_and, bad, hv_69, hg_76, hg_84, hn_95, ha_96, ha_97, hr_99]; exact Is.mk) (by simp only [go_sem, simprocAttr, false_implies, and_true, true_and, bad, hv_69, hg_76, hg_84, hn_95, ha_96, ha_97, hr_99]; exact Is.mk) (by simp only [go_sem, simprocAttr, false_implies, and_true, true_and, bad, hv_69, hg_76, hg_84, hn_95, ha_96, ha_97, hr_99]; exact Is.mk) (by simp only [go_sem, simprocAttr, false_implies, and_true, true_and, bad, hv_69, hg_76, hg_84, hn_95, ha_96, ha_97, hr_99]) ?cont26)
       simp only [go_sem, simprocAttr, false_implies, and_true, true_and, bad, hv_69, hg_76, hg_84, hn_95, ha_96, ha_97, hr_99]
       first | refine hW19 _ _ _ _ ?_ hcont19 | refine ⟨by first | exact sd | ((repeat' apply And.intro) <;> first | assumption | omega | (simp only [List.length_append, List.length_map, List.length_cons, List.length_nil, List.length_set, List.length_replicate] at c_72 ⊢; omega)), hW19 _ _ _ _ ?_ hcont19⟩
       simp only [go_sem, simprocAttr, false_implies, and_true, true_and, bad, hv_69, hg_76, hg_84, hn_95, ha_96, ha_97, hr_99]
       try exact se5
   refine hK19 _ _ ?_
   refine cM hm (fun hc27 hm => ?_) (fun hc27 hm => ?_)
   ·refine Wp.seqR fun K28 hK28 => ?_
    simp only [go_sem, simprocAttr, hv_69, hv_75]
    first | apply hK28 | refine ⟨sd, hK28 _ _ ?_⟩
    refine Wp.ret ?_
    refine retQ_ret ?_
    cases hm
    simp only [go_sem, simprocAttr, hv_69, hv_75]
    try exact se5
   ·refine Wp.skip ?_
    refine hK18 _ _ ?_
    obtain ⟨r_100, hr_100, hm⟩ := call_elim hm
    obtain ⟨r_101, hr_101, hm⟩ := call_elim hm
    refine Wp.seqR fun K29 hK29 => ?_
    simp only [go_sem, simprocAttr, hv_69, hv_75]
    try refine ⟨sd, ?_⟩
    refine Rg.callO (av := ?av30) [9, 10, 11, 8, 7] (ok_log_Log_Records_i1 r_70.2.2.2.2.1 r_70.2.2.2.2.2.1 r_70.2.2.2.2.2.2 r_70.2.2.2.1 r_70.2.2.1 _ hr_100) (by simp only [go_sem, simprocAttr, hv_69, hv_75]; exact Is.mk) (by simp only [go_sem, simprocAttr, hv_69, hv_75]; exact Is.mk) (by simp only [go_sem, simprocAttr, hv_69, hv_75]; exact Is.mk) (by simp only [go_sem, simprocAttr, hv_69, hv_75]) (by simp only [go_sem, simprocAttr, hv_69, hv_75]) ?cont30
    rintro _ _ ⟨rfl, rfl⟩ hv30
    simp only [go_sem, simprocAttr, hv_69, hv_75]
    try refine ⟨sd, ?_⟩
    refine Rg.callF (av := ?av31) (ok_log_Installed r_100 _ hr_101) (by simp only [go_sem, simprocAttr, hv_69, hv_75]; exact Is.mk) (by simp only [go_sem, simprocAttr, hv_69, hv_75]; exact Is.mk) (by simp only [go_sem, simprocAttr, hv_69, hv_75]) ?cont31
    intro hv31
    simp only [go_sem, simprocAttr, hv_69, hv_75]
    first | apply hK29 | refine ⟨sd, hK29 _ _ ?_⟩
    obtain ⟨c_102, hm⟩ := chk_elim hm
    obtain ⟨r_103, hr_103, hm⟩ := callG_elim hm
    obtain ⟨c_104, hm⟩ := chk_elim hm
    obtain ⟨v_105, hv_106, hm⟩ := letv_elim hm
    obtain ⟨v_107, hv_108, hm⟩ := letv_elim hm
    refine Wp.seqRW fun K32 hK32 hW32 => ?_
    suffices hcont32 : K32 [(1, .p (.i .i64 cut_2)), (4, .p (.b v_107)), (5, .ptr 2 0), (6, .buf 3), (7, .buf 4), (12, .p (.s v_68)), (13, .ptr 9 0), (14, .p (.i .i64 r_70.1)), (15, .p (.i .i64 r_101.2)), (16, .p (.l (List.map enc_api_Had r_101.1))), (58, .ptr 2 0), (59, .p (.s r_66)), (60, .p (.s r_66)), (61, .p (.s r_66)), (62, .p (.i .i64 (r_66.length : Int))), (63, .p (.i .i64 cut_2)), (64, .p (.i .i64 (max cut_2 0))), (65, .p (.s r_66)), (66, .p (.i .i64 (r_66.length : Int))), (67, .p (.i .i64 (min (max cut_2 0) (r_66.length : Int)))), (68, .p (.i .i64 (IntKind.i64.wrap ((r_66.length : Int) - (min (max cut_2 0) (r_66.length : Int)))))), (69, .p (.s v_68)), (70, .tup [.ptr 9 0, .p (.i .i64 r_70.1), .p (.i .i64 r_70.2.1)]), (71, .p (.s v_68)), (72, .tup [.ptr 9 0, .p (.i .i64 r_70.1), .p (.i .i64 r_70.2.1)]), (73, .ptr 9 0), (74, .p (.i .i64 r_70.1)), (75, .p (.i .i64 r_70.2.1)), (76, .p (.i .i64 r_70.2.1)), (77, .p (.b (!decide (r_70.2.1 = 0)))), (78, .p (.b (!decide (r_70.2.1 = 0)))), (83, .p (.b ((!decide (r_70.2.1 = 0)) || (decide ((o3_61.length : Int) ≤ r_70.1))))), (84, .p (.b ((!decide (r_70.2.1 = 0)) || (decide ((o3_61.length : Int) ≤ r_70.1))))), (92, .p (.b v_74)), (93, .tup [.p (.l (List.map enc_api_Had r_101.1)), .p (.i .i64 r_101.2)]), (94, .ptr 9 0), (95, .p (.l (List.map enc_api_Record r_100))), (96, .tup [.p (.l (List.map enc_api_Had r_101.1)), .p (.i .i64 r_101.2)]), (97, .p (.l (List.map enc_api_Had r_101.1))), (98, .p (.i .i64 r_101.2)), (99, .p (.i .i64 r_101.2)), (100, .p (.b (decide (r_101.2 = 0)))), (101, .p (.b (decide (r_101.2 = 0)))), (108, .p (.b ((decide (r_101.2 = 0)) && r_103))), (109, .p (.b ((decide (r_101.2 = 0)) && r_103))), (126, .p (.b v_107))] [.mp true (encM Dt.s enc_log_had m0_58), .cells 99 [.mp 0, .p (.i .i64 o1_1_59)], .cells 63 [.buf 5, .buf 6, .p (.s o2_2_60), .ptr 1 0], .buf 9 1 (List.map ecS o3_61), .buf 52 1 (List.map encL_enc_api_Had o4_62), .buf 30 13 (List.map enc_api_Record o5_63), .buf 9 1 (List.map ecS o6_64), .mp true (encM Dt.s enc_log_had r_70.2.2.1), .cells 99 [.mp 7, .p (.i .i64 r_70.2.2.2.1)], .cells 63 [.buf 10, .buf 11, .p (.s r_70.2.2.2.2.1), .ptr 8 0], .buf 30 13 (List.map enc_api_Record r_70.2.2.2.2.2.1), .buf 9 1 (List.map ecS r_70.2.2.2.2.2.2)] by
     rcases Bool.eq_false_or_eq_true (decide (r_101.2 = 0)) with hg_109 | hg_109
     ·
      rcases Bool.eq_false_or_eq_true (((decide (r_101.2 = 0)) && r_103) && (!(decide ((IntKind.i64.wrap (r_70.1 + 1)) = (o3_61.length : Int))))) with hg_110 | hg_110
      ·
       have c_111 := c_102 hg_109
       try dsimp only at c_111
       have c_112 := c_104 hg_110
       try dsimp only at c_112
       have ha_113 : (decide ((IntKind.i64.wrap (r_70.1 + 1)) = (o3_61.length : Int))) = false := by revert hg_109 hg_110; generalize decide ((IntKind.i64.wrap (r_70.1 + 1)) = (o3_61.length : Int)) = x0; generalize decide (r_101.2 = 0) = x1; generalize r_103 = x2; revert x0 x1 x2; decide
       have ha_114 : ((decide (r_101.2 = 0)) && r_103) = true := by revert hg_109 hg_110; generalize decide ((IntKind.i64.wrap (r_70.1 + 1)) = (o3_61.length : Int)) = x0; generalize decide (r_101.2 = 0) = x1; generalize r_103 = x2; revert x0 x1 x2; decide
       have ha_115 : r_103 = true := by revert hg_109 hg_110; generalize decide ((IntKind.i64.wrap (r_70.1 + 1)) = (o3_61.length : Int)) = x0; generalize decide (r_101.2 = 0) = x1; generalize r_103 = x2; revert x0 x1 x2; decide
       have hr_116 := fun h => getD_encB (l := o4_62) (e := encL_enc_api_Had) (d := []) (i := r_70.1.toNat) h []
       have hr_117 := fun h => getD_encB (l := o3_61) (e := ecS) (d := []) (i := (IntKind.i64.wrap (r_70.1 + 1)).toNat) h []
       subst hv_106
       subst hv_108
       simp only [go_sem, simprocAttr, false_implies, and_true, true_and, bad, hv_69, hv_75, hg_109, hg_110, ha_113, ha_114, ha_115, hr_116 (by omega), hr_117 (by omega)]
       try refine ⟨by first | exact sd | ((repeat' apply And.intro) <;> first | assumption | omega | (simp only [List.length_append, List.length_map, List.length_cons, List.length_nil, List.length_set, List.length_replicate] at c_102 c_104 c_111 c_112 ⊢; omega)), ?_⟩
       refine Rg.callX (av := ?av33) (g := decide (r_101.2 = 0)) (fun hg => ok_slices_Equal_api_Had_api_Had r_101.1 (o4_62.getD r_70.1.toNat []) _ (hr_103 hg)) (by simp only [go_sem, simprocAttr, false_implies, and_true, true_and, bad, hv_69, hv_75, hg_109, hg_110, ha_113, ha_114, ha_115, hr_116 (by omega), hr_117 (by omega)]; exact Is.mk) (by simp only [go_sem, simprocAttr, false_implies, and_true, true_and, bad, hv_69, hv_75, hg_109, hg_110, ha_113, ha_114, ha_115, hr_116 (by omega), hr_117 (by omega)]; exact Is.mk) (by simp only [go_sem, simprocAttr, false_implies, and_true, true_and, bad, hv_69, hv_75, hg_109, hg_110, ha_113, ha_114, ha_115, hr_116 (by omega), hr_117 (by omega)]; exact Is.mk) (by simp only [go_sem, simprocAttr, false_implies, and_true, true_and, bad, hv_69, hv_75, hg_109, hg_110, ha_113, ha_114, ha_115, hr_116 (by omega), hr_117 (by omega)]) (by simp only [go_sem, simprocAttr, false_implies, and_true, true_and, bad, hv_69, hv_75, hg_109, hg_110, ha_113, ha_114, ha_115, hr_116 (by omega), hr_117 (by omega)]; exact Is.mk) ?cont33
       intro hv33
       simp only [go_sem, simprocAttr, false_implies, and_true, true_and, bad, hv_69, hv_75, hg_109, hg_110, ha_113, ha_114, ha_115, hr_116 (by omega), hr_117 (by omega)]
       first | refine hW32 _ _ _ _ ?_ hcont32 | refine ⟨by first | exact sd | ((repeat' apply And.intro) <;> first | assumption | omega | (simp only [List.length_append, List.length_map, List.length_cons, List.length_nil, List.length_set, List.length_replicate] at c_102 c_104 c_111 c_112 ⊢; omega)), hW32 _ _ _ _ ?_ hcont32⟩
       simp only [go_sem, simprocAttr, false_implies, and_true, true_and, bad, hv_69, hv_75, hg_109, hg_110, ha_113, ha_114, ha_115, hr_116 (by omega), hr_117 (by omega)]
       try exact se5
      ·
       have c_118 := c_102 hg_109
       try dsimp only at c_118
       rcases Bool.eq_false_or_eq_true (decide ((IntKind.i64.wrap (r_70.1 + 1)) = (o3_61.length : Int))) with hg_119 | hg_119
       ·
        have c_120 := c_102 hg_109
        try dsimp only at c_120
        rcases Bool.eq_false_or_eq_true r_103 with hg_121 | hg_121
        ·
         have c_122 := c_102 hg_109
         try dsimp only at c_122
         have ha_123 : ((decide (r_101.2 = 0)) && r_103) = true := by revert hg_109 hg_110 hg_119 hg_121; generalize decide ((IntKind.i64.wrap (r_70.1 + 1)) = (o3_61.length : Int)) = x0; generalize decide (r_101.2 = 0) = x1; generalize r_103 = x2; revert x0 x1 x2; decide
         have hr_124 := fun h => getD_encB (l := o4_62) (e := encL_enc_api_Had) (d := []) (i := r_70.1.toNat) h []
         rcases Nat.lt_or_ge ((IntKind.i64.wrap (r_70.1 + 1)).toNat) o3_61.length with hi_125 | hi_125
         ·
          have hr_126 := getD_encB (l := o3_61) (e := ecS) (d := []) (i := (IntKind.i64.wrap (r_70.1 + 1)).toNat) hi_125 []
          subst hv_106
          subst hv_108
          simp only [go_sem, simprocAttr, false_implies, and_true, true_and, bad, hv_69, hv_75, hg_109, hg_110, hg_119, hg_121, ha_123, hr_124 (by omega), hr_126]
          try refine ⟨by first | exact sd | ((repeat' apply And.intro) <;> first | assumption | omega | (simp only [List.length_append, List.length_map, List.length_cons, List.length_nil, List.length_set, List.length_replicate] at c_102 c_104 c_122 ⊢; omega)), ?_⟩
          refine Rg.callX (av := ?av34) (g := decide (r_101.2 = 0)) (fun hg => ok_slices_Equal_api_Had_api_Had r_101.1 (o4_62.getD r_70.1.toNat []) _ (hr_103 hg)) (by simp only [go_sem, simprocAttr, false_implies, and_true, true_and, bad, hv_69, hv_75, hg_109, hg_110, hg_119, hg_121, ha_123, hr_124 (by omega), hr_126]; exact Is.mk) (by simp only [go_sem, simprocAttr, false_implies, and_true, true_and, bad, hv_69, hv_75, hg_109, hg_110, hg_119, hg_121, ha_123, hr_124 (by omega), hr_126]; exact Is.mk) (by simp only [go_sem, simprocAttr, false_implies, and_true, true_and, bad, hv_69, hv_75, hg_109, hg_110, hg_119, hg_121, ha_123, hr_124 (by omega), hr_126]; exact Is.mk) (by simp only [go_sem, simprocAttr, false_implies, and_true, true_and, bad, hv_69, hv_75, hg_109, hg_110, hg_119, hg_121, ha_123, hr_124 (by omega), hr_126]) (by simp only [go_sem, simprocAttr, false_implies, and_true, true_and, bad, hv_69, hv_75, hg_109, hg_110, hg_119, hg_121, ha_123, hr_124 (by omega), hr_126]; exact Is.mk) ?cont34
          intro hv34
          simp only [go_sem, simprocAttr, false_implies, and_true, true_and, bad, hv_69, hv_75, hg_109, hg_110, hg_119, hg_121, ha_123, hr_124 (by omega), hr_126]
          first | refine hW32 _ _ _ _ ?_ hcont32 | refine ⟨by first | exact sd | ((repeat' apply And.intro) <;> first | assumption | omega | (simp only [List.length_append, List.length_map, List.length_cons, List.length_nil, List.length_set, List.length_replicate] at c_102 c_104 c_122 ⊢; omega)), hW32 _ _ _ _ ?_ hcont32⟩
          simp only [go_sem, simprocAttr, false_implies, and_true, true_and, bad, hv_69, hv_75, hg_109, hg_110, hg_119, hg_121, ha_123, hr_124 (by omega), hr_126]
          try exact se5
         ·
          have hr_126 : (List.map ecS o3_61).getD ((IntKind.i64.wrap (r_70.1 + 1)).toNat) [] = [] := by rw [List.getD_eq_getElem?_getD, List.getElem?_eq_none (by simpa using hi_125)]; rfl
          subst hv_106
          subst hv_108
          simp only [go_sem, simprocAttr, false_implies, and_true, true_and, bad, hv_69, hv_75, hg_109, hg_110, hg_119, hg_121, ha_123, hr_124 (by omega), hr_126]
          try refine ⟨by first | exact sd | ((repeat' apply And.intro) <;> first | assumption | omega | (simp only [List.length_append, List.length_map, List.length_cons, List.length_nil, List.length_set, List.length_replicate] at c_102 c_104 c_122 ⊢; omega)), ?_⟩
          refine Rg.callX (av := ?av35) (g := decide (r_101.2 = 0)) (fun hg => ok_slices_Equal_api_Had_api_Had r_101.1 (o4_62.getD r_70.1.toNat []) _ (hr_103 hg)) (by simp only [go_sem, simprocAttr, false_implies, and_true, true_and, bad, hv_69, hv_75, hg_109, hg_110, hg_119, hg_121, ha_123, hr_124 (by omega), hr_126]; exact Is.mk) (by simp only [go_sem, simprocAttr, false_implies, and_true, true_and, bad, hv_69, hv_75, hg_109, hg_110, hg_119, hg_121, ha_123, hr_124 (by omega), hr_126]; exact Is.mk) (by simp only [go_sem, simprocAttr, false_implies, and_true, true_and, bad, hv_69, hv_75, hg_109, hg_110, hg_119, hg_121, ha_123, hr_124 (by omega), hr_126]; exact Is.mk) (by simp only [go_sem, simprocAttr, false_implies, and_true, true_and, bad, hv_69, hv_75, hg_109, hg_110, hg_119, hg_121, ha_123, hr_124 (by omega), hr_126]) (by simp only [go_sem, simprocAttr, false_implies, and_true, true_and, bad, hv_69, hv_75, hg_109, hg_110, hg_119, hg_121, ha_123, hr_124 (by omega), hr_126]; exact Is.mk) ?cont35
          intro hv35
          simp only [go_sem, simprocAttr, false_implies, and_true, true_and, bad, hv_69, hv_75, hg_109, hg_110, hg_119, hg_121, ha_123, hr_124 (by omega), hr_126]
          first | refine hW32 _ _ _ _ ?_ hcont32 | refine ⟨by first | exact sd | ((repeat' apply And.intro) <;> first | assumption | omega | (simp only [List.length_append, List.length_map, List.length_cons, List.length_nil, List.length_set, List.length_replicate] at c_102 c_104 c_122 ⊢; omega)), hW32 _ _ _ _ ?_ hcont32⟩
          simp only [go_sem, simprocAttr, false_implies, and_true, true_and, bad, hv_69, hv_75, hg_109, hg_110, hg_119, hg_121, ha_123, hr_124 (by omega), hr_126]
          try exact se5
        ·
         have c_127 := c_102 hg_109
         try dsimp only at c_127
         have ha_128 : ((decide (r_101.2 = 0)) && r_103) = false := by revert hg_109 hg_110 hg_119 hg_121; generalize decide ((IntKind.i64.wrap (r_70.1 + 1)) = (o3_61.length : Int)) = x0; generalize decide (r_101.2 = 0) = x1; generalize r_103 = x2; revert x0 x1 x2; decide
         have hr_129 := fun h => getD_encB (l := o4_62) (e := encL_enc_api_Had) (d := []) (i := r_70.1.toNat) h []
         rcases Nat.lt_or_ge ((IntKind.i64.wrap (r_70.1 + 1)).toNat) o3_61.length with hi_130 | hi_130
         ·
          have hr_131 := getD_encB (l := o3_61) (e := ecS) (d := []) (i := (IntKind.i64.wrap (r_70.1 + 1)).toNat) hi_130 []
          subst hv_106
          subst hv_108
          simp only [go_sem, simprocAttr, false_implies, and_true, true_and, bad, hv_69, hv_75, hg_109, hg_110, hg_119, hg_121, ha_128, hr_129 (by omega), hr_131]
          try refine ⟨by first | exact sd | ((repeat' apply And.intro) <;> first | assumption | omega | (simp only [List.length_append, List.length_map, List.length_cons, List.length_nil, List.length_set, List.length_replicate] at c_102 c_104 c_127 ⊢; omega)), ?_⟩
          refine Rg.callX (av := ?av36) (g := decide (r_101.2 = 0)) (fun hg => ok_slices_Equal_api_Had_api_Had r_101.1 (o4_62.getD r_70.1.toNat []) _ (hr_103 hg)) (by simp only [go_sem, simprocAttr, false_implies, and_true, true_and, bad, hv_69, hv_75, hg_109, hg_110, hg_119, hg_121, ha_128, hr_129 (by omega), hr_131]; exact Is.mk) (by simp only [go_sem, simprocAttr, false_implies, and_true, true_and, bad, hv_69, hv_75, hg_109, hg_110, hg_119, hg_121, ha_128, hr_129 (by omega), hr_131]; exact Is.mk) (by simp only [go_sem, simprocAttr, false_implies, and_true, true_and, bad, hv_69, hv_75, hg_109, hg_110, hg_119, hg_121, ha_128, hr_129 (by omega), hr_131]; exact Is.mk) (by simp only [go_sem, simprocAttr, false_implies, and_true, true_and, bad, hv_69, hv_75, hg_109, hg_110, hg_119, hg_121, ha_128, hr_129 (by omega), hr_131]) (by simp only [go_sem, simprocAttr, false_implies, and_true, true_and, bad, hv_69, hv_75, hg_109, hg_110, hg_119, hg_121, ha_128, hr_129 (by omega), hr_131]; exact Is.mk) ?cont36
          intro hv36
          simp only [go_sem, simprocAttr, false_implies, and_true, true_and, bad, hv_69, hv_75, hg_109, hg_110, hg_119, hg_121, ha_128, hr_129 (by omega), hr_131]
          first | refine hW32 _ _ _ _ ?_ hcont32 | refine ⟨by first | exact sd | ((repeat' apply And.intro) <;> first | assumption | omega | (simp only [List.length_append, List.length_map, List.length_cons, List.length_nil, List.length_set, List.length_replicate] at c_102 c_104 c_127 ⊢; omega)), hW32 _ _ _ _ ?_ hcont32⟩
          simp only [go_sem, simprocAttr, false_implies, and_true, true_and, bad, hv_69, hv_75, hg_109, hg_110, hg_119, hg_121, ha_128, hr_129 (by omega), hr_131]
          try exact se5
         ·
          have hr_131 : (List.map ecS o3_61).getD ((IntKind.i64.wrap (r_70.1 + 1)).toNat) [] = [] := by rw [List.getD_eq_getElem?_getD, List.getElem?_eq_none (by simpa using hi_130)]; rfl
          subst hv_106
          subst hv_108
          simp only [go_sem, simprocAttr, false_implies, and_true, true_and, bad, hv_69, hv_75, hg_109, hg_110, hg_119, hg_121, ha_128, hr_129 (by omega), hr_131]
          try refine ⟨by first | exact sd | ((repeat' apply And.intro) <;> first | assumption | omega | (simp only [List.length_append, List.length_map, List.length_cons, List.length_nil, List.length_set, List.length_replicate] at c_102 c_104 c_127 ⊢; omega)), ?_⟩
          refine Rg.callX (av := ?av37) (g := decide (r_101.2 = 0)) (fun hg => ok_slices_Equal_api_Had_api_Had r_101.1 (o4_62.getD r_70.1.toNat []) _ (hr_103 hg)) (by simp only [go_sem, simprocAttr, false_implies, and_true, true_and, bad, hv_69, hv_75, hg_109, hg_110, hg_119, hg_121, ha_128, hr_129 (by omega), hr_131]; exact Is.mk) (by simp only [go_sem, simprocAttr, false_implies, and_true, true_and, bad, hv_69, hv_75, hg_109, hg_110, hg_119, hg_121, ha_128, hr_129 (by omega), hr_131]; exact Is.mk) (by simp only [go_sem, simprocAttr, false_implies, and_true, true_and, bad, hv_69, hv_75, hg_109, hg_110, hg_119, hg_121, ha_128, hr_129 (by omega), hr_131]; exact Is.mk) (by simp only [go_sem, simprocAttr, false_implies, and_true, true_and, bad, hv_69, hv_75, hg_109, hg_110, hg_119, hg_121, ha_128, hr_129 (by omega), hr_131]) (by simp only [go_sem, simprocAttr, false_implies, and_true, true_and, bad, hv_69, hv_75, hg_109, hg_110, hg_119, hg_121, ha_128, hr_129 (by omega), hr_131]; exact Is.mk) ?cont37
          intro hv37
          simp only [go_sem, simprocAttr, false_implies, and_true, true_and, bad, hv_69, hv_75, hg_109, hg_110, hg_119, hg_121, ha_128, hr_129 (by omega), hr_131]
          first | refine hW32 _ _ _ _ ?_ hcont32 | refine ⟨by first | exact sd | ((repeat' apply And.intro) <;> first | assumption | omega | (simp only [List.length_append, List.length_map, List.length_cons, List.length_nil, List.length_set, List.length_replicate] at c_102 c_104 c_127 ⊢; omega)), hW32 _ _ _ _ ?_ hcont32⟩
          simp only [go_sem, simprocAttr, false_implies, and_true, true_and, bad, hv_69, hv_75, hg_109, hg_110, hg_119, hg_121, ha_128, hr_129 (by omega), hr_131]
          try exact se5
       ·
        have c_132 := c_102 hg_109
        try dsimp only at c_132
        have ha_133 : ((decide (r_101.2 = 0)) && r_103) = false := by revert hg_109 hg_110 hg_119; generalize decide ((IntKind.i64.wrap (r_70.1 + 1)) = (o3_61.length : Int)) = x0; generalize decide (r_101.2 = 0) = x1; generalize r_103 = x2; revert x0 x1 x2; decide
        have ha_134 : r_103 = false := by revert hg_109 hg_110 hg_119; generalize decide ((IntKind.i64.wrap (r_70.1 + 1)) = (o3_61.length : Int)) = x0; generalize decide (r_101.2 = 0) = x1; generalize r_103 = x2; revert x0 x1 x2; decide
        have hr_135 := fun h => getD_encB (l := o4_62) (e := encL_enc_api_Had) (d := []) (i := r_70.1.toNat) h []
        rcases Nat.lt_or_ge ((IntKind.i64.wrap (r_70.1 + 1)).toNat) o3_61.length with hi_136 | hi_136
        ·
         have hr_137 := getD_encB (l := o3_61) (e := ecS) (d := []) (i := (IntKind.i64.wrap (r_70.1 + 1)).toNat) hi_136 []
         subst hv_106
         subst hv_108
         simp only [go_sem, simprocAttr, false_implies, and_true, true_and, bad, hv_69, hv_75, hg_109, hg_110, hg_119, ha_133, ha_134, hr_135 (by omega), hr_137]
         try refine ⟨by first | exact sd | ((repeat' apply And.intro) <;> first | assumption | omega | (simp only [List.length_append, List.length_map, List.length_cons, List.length_nil, List.length_set, List.length_replicate] at c_102 c_104 c_132 ⊢; omega)), ?_⟩
         refine Rg.callX (av := ?av38) (g := decide (r_101.2 = 0)) (fun hg => ok_slices_Equal_api_Had_api_Had r_101.1 (o4_62.getD r_70.1.toNat []) _ (hr_103 hg)) (by simp only [go_sem, simprocAttr, false_implies, and_true, true_and, bad, hv_69, hv_75, hg_109, hg_110, hg_119, ha_133, ha_134, hr_135 (by omega), hr_137]; exact Is.mk) (by simp only [go_sem, simprocAttr, false_implies, and_true, true_and, bad, hv_69, hv_75, hg_109, hg_110, hg_119, ha_133, ha_134, hr_135 (by omega), hr_137]; exact Is.mk) (by simp only [go_sem, simprocAttr, false_implies, and_true, true_and, bad, hv_69, hv_75, hg_109, hg_110, hg_119, ha_133, ha_134, hr_135 (by omega), hr_137]; exact Is.mk) (by simp only [go_sem, simprocAttr, false_implies, and_true, true_and, bad, hv_69, hv_75, hg_109, hg_110, hg_119, ha_133, ha_134, hr_135 (by omega), hr_137]) (by simp only [go_sem, simprocAttr, false_implies, and_true, true_and, bad, hv_69, hv_75, hg_109, hg_110, hg_119, ha_133, ha_134, hr_135 (by omega), hr_137]; exact Is.mk) ?cont38
         intro hv38
         simp only [go_sem, simprocAttr, false_implies, and_true, true_and, bad, hv_69, hv_75, hg_109, hg_110, hg_119, ha_133, ha_134, hr_135 (by omega), hr_137]
         first | refine hW32 _ _ _ _ ?_ hcont32 | refine ⟨by first | exact sd | ((repeat' apply And.intro) <;> first | assumption | omega | (simp only [List.length_append, List.length_map, List.length_cons, List.length_nil, List.length_set, List.length_replicate] at c_102 c_104 c_132 ⊢; omega)), hW32 _ _ _ _ ?_ hcont32⟩
         simp only [go_sem, simprocAttr, false_implies, and_true, true_and, bad, hv_69, hv_75, hg_109, hg_110, hg_119, ha_133, ha_134, hr_135 (by omega), hr_137]
         try exact se5
        ·
         have hr_137 : (List.map ecS o3_61).getD ((IntKind.i64.wrap (r_70.1 + 1)).toNat) [] = [] := by rw [List.getD_eq_getElem?_getD, List.getElem?_eq_none (by simpa using hi_136)]; rfl
         subst hv_106
         subst hv_108
         simp only [go_sem, simprocAttr, false_implies, and_true, true_and, bad, hv_69, hv_75, hg_109, hg_110, hg_119, ha_133, ha_134, hr_135 (by omega), hr_137]
         try refine ⟨by first | exact sd | ((repeat' apply And.intro) <;> first | assumption | omega | (simp only [List.length_append, List.length_map, List.length_cons, List.length_nil, List.length_set, List.length_replicate] at c_102 c_104 c_132 ⊢; omega)), ?_⟩
         refine Rg.callX (av := ?av39) (g := decide (r_101.2 = 0)) (fun hg => ok_slices_Equal_api_Had_api_Had r_101.1 (o4_62.getD r_70.1.toNat []) _ (hr_103 hg)) (by simp only [go_sem, simprocAttr, false_implies, and_true, true_and, bad, hv_69, hv_75, hg_109, hg_110, hg_119, ha_133, ha_134, hr_135 (by omega), hr_137]; exact Is.mk) (by simp only [go_sem, simprocAttr, false_implies, and_true, true_and, bad, hv_69, hv_75, hg_109, hg_110, hg_119, ha_133, ha_134, hr_135 (by omega), hr_137]; exact Is.mk) (by simp only [go_sem, simprocAttr, false_implies, and_true, true_and, bad, hv_69, hv_75, hg_109, hg_110, hg_119, ha_133, ha_134, hr_135 (by omega), hr_137]; exact Is.mk) (by simp only [go_sem, simprocAttr, false_implies, and_true, true_and, bad, hv_69, hv_75, hg_109, hg_110, hg_119, ha_133, ha_134, hr_135 (by omega), hr_137]) (by simp only [go_sem, simprocAttr, false_implies, and_true, true_and, bad, hv_69, hv_75, hg_109, hg_110, hg_119, ha_133, ha_134, hr_135 (by omega), hr_137]; exact Is.mk) ?cont39
         intro hv39
         simp only [go_sem, simprocAttr, false_implies, and_true, true_and, bad, hv_69, hv_75, hg_109, hg_110, hg_119, ha_133, ha_134, hr_135 (by omega), hr_137]
         first | refine hW32 _ _ _ _ ?_ hcont32 | refine ⟨by first | exact sd | ((repeat' apply And.intro) <;> first | assumption | omega | (simp only [List.length_append, List.length_map, List.length_cons, List.length_nil, List.length_set, List.length_replicate] at c_102 c_104 c_132 ⊢; omega)), hW32 _ _ _ _ ?_ hcont32⟩
         simp only [go_sem, simprocAttr, false_implies, and_true, true_and, bad, hv_69, hv_75, hg_109, hg_110, hg_119, ha_133, ha_134, hr_135 (by omega), hr_137]
         try exact se5
     ·
      rcases Bool.eq_false_or_eq_true (((decide (r_101.2 = 0)) && r_103) && (!(decide ((IntKind.i64.wrap (r_70.1 + 1)) = (o3_61.length : Int))))) with hg_138 | hg_138
      ·
       have c_139 := c_104 hg_138
       try dsimp only at c_139
       exfalso; revert hg_109 hg_138; generalize decide ((IntKind.i64.wrap (r_70.1 + 1)) = (o3_61.length : Int)) = x0; generalize decide (r_101.2 = 0) = x1; generalize r_103 = x2; revert x0 x1 x2; decide
      ·
       rcases Bool.eq_false_or_eq_true (decide ((IntKind.i64.wrap (r_70.1 + 1)) = (o3_61.length : Int))) with hg_140 | hg_140
       ·
        rcases Bool.eq_false_or_eq_true r_103 with hg_141 | hg_141
        ·
         have ha_142 : ((decide (r_101.2 = 0)) && r_103) = false := by revert hg_109 hg_138 hg_140 hg_141; generalize decide ((IntKind.i64.wrap (r_70.1 + 1)) = (o3_61.length : Int)) = x0; generalize decide (r_101.2 = 0) = x1; generalize r_103 = x2; revert x0 x1 x2; decide
         rcases Nat.lt_or_ge r_70.1.toNat o4_62.length with hi_143 | hi_143
         ·
          have hr_144 := getD_encB (l := o4_62) (e := encL_enc_api_Had) (d := []) (i := r_70.1.toNat) hi_143 []
          rcases Nat.lt_or_ge ((IntKind.i64.wrap (r_70.1 + 1)).toNat) o3_61.length with hi_145 | hi_145
          ·
           have hr_146 := getD_encB (l := o3_61) (e := ecS) (d := []) (i := (IntKind.i64.wrap (r_70.1 + 1)).toNat) hi_145 []
           subst hv_106
           subst hv_108
           simp only [go_sem, simprocAttr, false_implies, and_true, true_and, bad, hv_69, hv_75, hg_109, hg_138, hg_140, hg_141, ha_142, hr_144, hr_146]
           try refine ⟨by first | exact sd | ((repeat' apply And.intro) <;> first | assumption | omega | (simp only [List.length_append, List.length_map, List.length_cons, List.length_nil, List.length_set, List.length_replicate] at c_102 c_104 ⊢; omega)), ?_⟩
           refine Rg.skipG (v := .p (.b r_103)) (gw := ?gw40) (by simp only [go_sem, simprocAttr, false_implies, and_true, true_and, bad, hv_69, hv_75, hg_109, hg_138, hg_140, hg_141, ha_142, hr_144, hr_146]; exact Is.mk) (by simp only [go_sem, simprocAttr, false_implies, and_true, true_and, bad, hv_69, hv_75, hg_109, hg_138, hg_140, hg_141, ha_142, hr_144, hr_146]; exact Is.mk) (by simp only [go_sem, simprocAttr, false_implies, and_true, true_and, bad, hv_69, hv_75, hg_109, hg_138, hg_140, hg_141, ha_142, hr_144, hr_146]) ?cont40
           simp only [go_sem, simprocAttr, false_implies, and_true, true_and, bad, hv_69, hv_75, hg_109, hg_138, hg_140, hg_141, ha_142, hr_144, hr_146]
           first | refine hW32 _ _ _ _ ?_ hcont32 | refine ⟨by first | exact sd | ((repeat' apply And.intro) <;> first | assumption | omega | (simp only [List.length_append, List.length_map, List.length_cons, List.length_nil, List.length_set, List.length_replicate] at c_102 c_104 ⊢; omega)), hW32 _ _ _ _ ?_ hcont32⟩
           simp only [go_sem, simprocAttr, false_implies, and_true, true_and, bad, hv_69, hv_75, hg_109, hg_138, hg_140, hg_141, ha_142, hr_144, hr_146]
           try exact se5
          ·
           have hr_146 : (List.map ecS o3_61).getD ((IntKind.i64.wrap (r_70.1 + 1)).toNat) [] = [] := by rw [List.getD_eq_getElem?_getD, List.getElem?_eq_none (by simpa using hi_145)]; rfl
           subst hv_106
           subst hv_108
           simp only [go_sem, simprocAttr, false_implies, and_true, true_and, bad, hv_69, hv_75, hg_109, hg_138, hg_140, hg_141, ha_142, hr_144, hr_146]
           try refine ⟨by first | exact sd | ((repeat' apply And.intro) <;> first | assumption | omega | (simp only [List.length_append, List.length_map, List.length_cons, List.length_nil, List.length_set, List.length_replicate] at c_102 c_104 ⊢; omega)), ?_⟩
           refine Rg.skipG (v := .p (.b r_103)) (gw := ?gw41) (by simp only [go_sem, simprocAttr, false_implies, and_true, true_and, bad, hv_69, hv_75, hg_109, hg_138, hg_140, hg_141, ha_142, hr_144, hr_146]; exact Is.mk) (by simp only [go_sem, simprocAttr, false_implies, and_true, true_and, bad, hv_69, hv_75, hg_109, hg_138, hg_140, hg_141, ha_142, hr_144, hr_146]; exact Is.mk) (by simp only [go_sem, simprocAttr, false_implies, and_true, true_and, bad, hv_69, hv_75, hg_109, hg_138, hg_140, hg_141, ha_142, hr_144, hr_146]) ?cont41
           simp only [go_sem, simprocAttr, false_implies, and_true, true_and, bad, hv_69, hv_75, hg_109, hg_138, hg_140, hg_141, ha_142, hr_144, hr_146]
           first | refine hW32 _ _ _ _ ?_ hcont32 | refine ⟨by first | exact sd | ((repeat' apply And.intro) <;> first | assumption | omega | (simp only [List.length_append, List.length_map, List.length_cons, List.length_nil, List.length_set, List.length_replicate] at c_102 c_104 ⊢; omega)), hW32 _ _ _ _ ?_ hcont32⟩
           simp only [go_sem, simprocAttr, false_implies, and_true, true_and, bad, hv_69, hv_75, hg_109, hg_138, hg_140, hg_141, ha_142, hr_144, hr_146]
           try exact se5
         ·
          have hr_144 : (List.map encL_enc_api_Had o4_62).getD r_70.1.toNat [] = [] := by rw [List.getD_eq_getElem?_getD, List.getElem?_eq_none (by simpa using hi_143)]; rfl
          rcases Nat.lt_or_ge ((IntKind.i64.wrap (r_70.1 + 1)).toNat) o3_61.length with hi_147 | hi_147
          ·
           have hr_148 := getD_encB (l := o3_61) (e := ecS) (d := []) (i := (IntKind.i64.wrap (r_70.1 + 1)).toNat) hi_147 []
           subst hv_106
           subst hv_108
           simp only [go_sem, simprocAttr, false_implies, and_true, true_and, bad, hv_69, hv_75, hg_109, hg_138, hg_140, hg_141, ha_142, hr_144, hr_148]
           try refine ⟨by first | exact sd | ((repeat' apply And.intro) <;> first | assumption | omega | (simp only [List.length_append, List.length_map, List.length_cons, List.length_nil, List.length_set, List.length_replicate] at c_102 c_104 ⊢; omega)), ?_⟩
           refine Rg.skipG (v := .p (.b r_103)) (gw := ?gw42) (by simp only [go_sem, simprocAttr, false_implies, and_true, true_and, bad, hv_69, hv_75, hg_109, hg_138, hg_140, hg_141, ha_142, hr_144, hr_148]; exact Is.mk) (by simp only [go_sem, simprocAttr, false_implies, and_true, true_and, bad, hv_69, hv_75, hg_109, hg_138, hg_140, hg_141, ha_142, hr_144, hr_148]; exact Is.mk) (by simp only [go_sem, simprocAttr, false_implies, and_true, true_and, bad, hv_69, hv_75, hg_109, hg_138, hg_140, hg_141, ha_142, hr_144, hr_148]) ?cont42
           simp only [go_sem, simprocAttr, false_implies, and_true, true_and, bad, hv_69, hv_75, hg_109, hg_138, hg_140, hg_141, ha_142, hr_144, hr_148]
           first | refine hW32 _ _ _ _ ?_ hcont32 | refine ⟨by first | exact sd | ((repeat' apply And.intro) <;> first | assumption | omega | (simp only [List.length_append, List.length_map, List.length_cons, List.length_nil, List.length_set, List.length_replicate] at c_102 c_104 ⊢; omega)), hW32 _ _ _ _ ?_ hcont32⟩
           simp only [go_sem, simprocAttr, false_implies, and_true, true_and, bad, hv_69, hv_75, hg_109, hg_138, hg_140, hg_141, ha_142, hr_144, hr_148]
           try exact se5
          ·
           have hr_148 : (List.map ecS o3_61).getD ((IntKind.i64.wrap (r_70.1 + 1)).toNat) [] = [] := by rw [List.getD_eq_getElem?_getD, List.getElem?_eq_none (by simpa using hi_147)]; rfl
           subst hv_106
           subst hv_108
           simp only [go_sem, simprocAttr, false_implies, and_true, true_and, bad, hv_69, hv_75, hg_109, hg_138, hg_140, hg_141, ha_142, hr_144, hr_148]
           try refine ⟨by first | exact sd | ((repeat' apply And.intro) <;> first | assumption | omega | (simp only [List.length_append, List.length_map, List.length_cons, List.length_nil, List.length_set, List.length_replicate] at c_102 c_104 ⊢; omega)), ?_⟩
           refine Rg.skipG (v := .p (.b r_103)) (gw := ?gw43) (by simp only [go_sem, simprocAttr, false_implies, and_true, true_and, bad, hv_69, hv_75, hg_109, hg_138, hg_140, hg_141, ha_142, hr_144, hr_148]; exact Is.mk) (by simp only [go_sem, simprocAttr, false_implies, and_true, true_and, bad, hv_69, hv_75, hg_109, hg_138, hg_140, hg_141, ha_142, hr_144, hr_148]; exact Is.mk) (by simp only [go_sem, simprocAttr, false_implies, and_true, true_and, bad, hv_69, hv_75, hg_109, hg_138, hg_140, hg_141, ha_142, hr_144, hr_148]) ?cont43
           simp only [go_sem, simprocAttr, false_implies, and_true, true_and, bad, hv_69, hv_75, hg_109, hg_138, hg_140, hg_141, ha_142, hr_144, hr_148]
           first | refine hW32 _ _ _ _ ?_ hcont32 | refine ⟨by first | exact sd | ((repeat' apply And.intro) <;> first | assumption | omega | (simp only [List.length_append, List.length_map, List.length_cons, List.length_nil, List.length_set, List.length_replicate] at c_102 c_104 ⊢; omega)), hW32 _ _ _ _ ?_ hcont32⟩
           simp only [go_sem, simprocAttr, false_implies, and_true, true_and, bad, hv_69, hv_75, hg_109, hg_138, hg_140, hg_141, ha_142, hr_144, hr_148]
           try exact se5
        ·
         have ha_149 : ((decide (r_101.2 = 0)) && r_103) = false := by revert hg_109 hg_138 hg_140 hg_141; generalize decide ((IntKind.i64.wrap (r_70.1 + 1)) = (o3_61.length : Int)) = x0; generalize decide (r_101.2 = 0) = x1; generalize r_103 = x2; revert x0 x1 x2; decide
         rcases Nat.lt_or_ge r_70.1.toNat o4_62.length with hi_150 | hi_150
         ·
          have hr_151 := getD_encB (l := o4_62) (e := encL_enc_api_Had) (d := []) (i := r_70.1.toNat) hi_150 []
          rcases Nat.lt_or_ge ((IntKind.i64.wrap (r_70.1 + 1)).toNat) o3_61.length with hi_152 | hi_152
          ·
           have hr_153 := getD_encB (l := o3_61) (e := ecS) (d := []) (i := (IntKind.i64.wrap (r_70.1 + 1)).toNat) hi_152 []
           subst hv_106
           subst hv_108
           simp only [go_sem, simprocAttr, false_implies, and_true, true_and, bad, hv_69, hv_75, hg_109, hg_138, hg_140, hg_141, ha_149, hr_151, hr_153]
           try refine ⟨by first | exact sd | ((repeat' apply And.intro) <;> first | assumption | omega | (simp only [List.length_append, List.length_map, List.length_cons, List.length_nil, List.length_set, List.length_replicate] at c_102 c_104 ⊢; omega)), ?_⟩
           refine Rg.skipG (v := .p (.b r_103)) (gw := ?gw44) (by simp only [go_sem, simprocAttr, false_implies, and_true, true_and, bad, hv_69, hv_75, hg_109, hg_138, hg_140, hg_141, ha_149, hr_151, hr_153]; exact Is.mk) (by simp only [go_sem, simprocAttr, false_implies, and_true, true_and, bad, hv_69, hv_75, hg_109, hg_138, hg_140, hg_141, ha_149, hr_151, hr_153]; exact Is.mk) (by simp only [go_sem, simprocAttr, false_implies, and_true, true_and, bad, hv_69, hv_75, hg_109, hg_138, hg_140, hg_141, ha_149, hr_151, hr_153]) ?cont44
           simp only [go_sem, simprocAttr, false_implies, and_true, true_and, bad, hv_69, hv_75, hg_109, hg_138, hg_140, hg_141, ha_149, hr_151, hr_153]
           first | refine hW32 _ _ _ _ ?_ hcont32 | refine ⟨by first | exact sd | ((repeat' apply And.intro) <;> first | assumption | omega | (simp only [List.length_append, List.length_map, List.length_cons, List.length_nil, List.length_set, List.length_replicate] at c_102 c_104 ⊢; omega)), hW32 _ _ _ _ ?_ hcont32⟩
           simp only [go_sem, simprocAttr, false_implies, and_true, true_and, bad, hv_69, hv_75, hg_109, hg_138, hg_140, hg_141, ha_149, hr_151, hr_153]
           try exact se5
          ·
           have hr_153 : (List.map ecS o3_61).getD ((IntKind.i64.wrap (r_70.1 + 1)).toNat) [] = [] := by rw [List.getD_eq_getElem?_getD, List.getElem?_eq_none (by simpa using hi_152)]; rfl
           subst hv_106
           subst hv_108
           simp only [go_sem, simprocAttr, false_implies, and_true, true_and, bad, hv_69, hv_75, hg_109, hg_138, hg_140, hg_141, ha_149, hr_151, hr_153]
           try refine ⟨by first | exact sd | ((repeat' apply And.intro) <;> first | assumption | omega | (simp only [List.length_append, List.length_map, List.length_cons, List.length_nil, List.length_set, List.length_replicate] at c_102 c_104 ⊢; omega)), ?_⟩
           refine Rg.skipG (v := .p (.b r_103)) (gw := ?gw45) (by simp only [go_sem, simprocAttr, false_implies, and_true, true_and, bad, hv_69, hv_75, hg_109, hg_138, hg_140, hg_141, ha_149, hr_151, hr_153]; exact Is.mk) (by simp only [go_sem, simprocAttr, false_implies, and_true, true_and, bad, hv_69, hv_75, hg_109, hg_138, hg_140, hg_141, ha_149, hr_151, hr_153]; exact Is.mk) (by simp only [go_sem, simprocAttr, false_implies, and_true, true_and, bad, hv_69, hv_75, hg_109, hg_138, hg_140, hg_141, ha_149, hr_151, hr_153]) ?cont45
           simp only [go_sem, simprocAttr, false_implies, and_true, true_and, bad, hv_69, hv_75, hg_109, hg_138, hg_140, hg_141, ha_149, hr_151, hr_153]
           first | refine hW32 _ _ _ _ ?_ hcont32 | refine ⟨by first | exact sd | ((repeat' apply And.intro) <;> first | assumption | omega | (simp only [List.length_append, List.length_map, List.length_cons, List.length_nil, List.length_set, List.length_replicate] at c_102 c_104 ⊢; omega)), hW32 _ _ _ _ ?_ hcont32⟩
           simp only [go_sem, simprocAttr, false_implies, and_true, true_and, bad, hv_69, hv_75, hg_109, hg_138, hg_140, hg_141, ha_149, hr_151, hr_153]
           try exact se5
         ·
          have hr_151 : (List.map encL_enc_api_Had o4_62).getD r_70.1.toNat [] = [] := by rw [List.getD_eq_getElem?_getD, List.getElem?_eq_none (by simpa using hi_150)]; rfl
          rcases Nat.lt_or_ge ((IntKind.i64.wrap (r_70.1 + 1)).toNat) o3_61.length with hi_154 | hi_154
          ·
           have hr_155 := getD_encB (l := o3_61) (e := ecS) (d := []) (i := (IntKind.i64.wrap (r_70.1 + 1)).toNat) hi_154 []
           subst hv_106
           subst hv_108
           simp only [go_sem, simprocAttr, false_implies, and_true, true_and, bad, hv_69, hv_75, hg_109, hg_138, hg_140, hg_141, ha_149, hr_151, hr_155]
           try refine ⟨by first | exact sd | ((repeat' apply And.intro) <;> first | assumption | omega | (simp only [List.length_append, List.length_map, List.length_cons, List.length_nil, List.length_set, List.length_replicate] at c_102 c_104 ⊢; omega)), ?_⟩
           refine Rg.skipG (v := .p (.b r_103)) (gw := ?gw46) (by simp only [go_sem, simprocAttr, false_implies, and_true, true_and, bad, hv_69, hv_75, hg_109, hg_138, hg_140, hg_141, ha_149, hr_151, hr_155]; exact Is.mk) (by simp only [go_sem, simprocAttr, false_implies, and_true, true_and, bad, hv_69, hv_75, hg_109, hg_138, hg_140, hg_141, ha_149, hr_151, hr_155]; exact Is.mk) (by simp only [go_sem, simprocAttr, false_implies, and_true, true_and, bad, hv_69, hv_75, hg_109, hg_138, hg_140, hg_141, ha_149, hr_151, hr_155]) ?cont46
           simp only [go_sem, simprocAttr, false_implies, and_true, true_and, bad, hv_69, hv_75, hg_109, hg_138, hg_140, hg_141, ha_149, hr_151, hr_155]
           first | refine hW32 _ _ _ _ ?_ hcont32 | refine ⟨by first | exact sd | ((repeat' apply And.intro) <;> first | assumption | omega | (simp only [List.length_append, List.length_map, List.length_cons, List.length_nil, List.length_set, List.length_replicate] at c_102 c_104 ⊢; omega)), hW32 _ _ _ _ ?_ hcont32⟩
           simp only [go_sem, simprocAttr, false_implies, and_true, true_and, bad, hv_69, hv_75, hg_109, hg_138, hg_140, hg_141, ha_149, hr_151, hr_155]
           try exact se5
          ·
           have hr_155 : (List.map ecS o3_61).getD ((IntKind.i64.wrap (r_70.1 + 1)).toNat) [] = [] := by rw [List.getD_eq_getElem?_getD, List.getElem?_eq_none (by simpa using hi_154)]; rfl
           subst hv_106
           subst hv_108
           simp only [go_sem, simprocAttr, false_implies, and_true, true_and, bad, hv_69, hv_75, hg_109, hg_138, hg_140, hg_141, ha_149, hr_151, hr_155]
           try refine ⟨by first | exact sd | ((repeat' apply And.intro) <;> first | assumption | omega | (simp only [List.length_append, List.length_map, List.length_cons, List.length_nil, List.length_set, List.length_replicate] at c_102 c_104 ⊢; omega)), ?_⟩
           refine Rg.skipG (v := .p (.b r_103)) (gw := ?gw47) (by simp only [go_sem, simprocAttr, false_implies, and_true, true_and, bad, hv_69, hv_75, hg_109, hg_138, hg_140, hg_141, ha_149, hr_151, hr_155]; exact Is.mk) (by simp only [go_sem, simprocAttr, false_implies, and_true, true_and, bad, hv_69, hv_75, hg_109, hg_138, hg_140, hg_141, ha_149, hr_151, hr_155]; exact Is.mk) (by simp only [go_sem, simprocAttr, false_implies, and_true, true_and, bad, hv_69, hv_75, hg_109, hg_138, hg_140, hg_141, ha_149, hr_151, hr_155]) ?cont47
           simp only [go_sem, simprocAttr, false_implies, and_true, true_and, bad, hv_69, hv_75, hg_109, hg_138, hg_140, hg_141, ha_149, hr_151, hr_155]
           first | refine hW32 _ _ _ _ ?_ hcont32 | refine ⟨by first | exact sd | ((repeat' apply And.intro) <;> first | assumption | omega | (simp only [List.length_append, List.length_map, List.length_cons, List.length_nil, List.length_set, List.length_replicate] at c_102 c_104 ⊢; omega)), hW32 _ _ _ _ ?_ hcont32⟩
           simp only [go_sem, simprocAttr, false_implies, and_true, true_and, bad, hv_69, hv_75, hg_109, hg_138, hg_140, hg_141, ha_149, hr_151, hr_155]
           try exact se5
       ·
        rcases Bool.eq_false_or_eq_true r_103 with hg_156 | hg_156
        ·
         have ha_157 : ((decide (r_101.2 = 0)) && r_103) = false := by revert hg_109 hg_138 hg_140 hg_156; generalize decide ((IntKind.i64.wrap (r_70.1 + 1)) = (o3_61.length : Int)) = x0; generalize decide (r_101.2 = 0) = x1; generalize r_103 = x2; revert x0 x1 x2; decide
         rcases Nat.lt_or_ge r_70.1.toNat o4_62.length with hi_158 | hi_158
         ·
          have hr_159 := getD_encB (l := o4_62) (e := encL_enc_api_Had) (d := []) (i := r_70.1.toNat) hi_158 []
          rcases Nat.lt_or_ge ((IntKind.i64.wrap (r_70.1 + 1)).toNat) o3_61.length with hi_160 | hi_160
          ·
           have hr_161 := getD_encB (l := o3_61) (e := ecS) (d := []) (i := (IntKind.i64.wrap (r_70.1 + 1)).toNat) hi_160 []
           subst hv_106
           subst hv_108
           simp only [go_sem, simprocAttr, false_implies, and_true, true_and, bad, hv_69, hv_75, hg_109, hg_138, hg_140, hg_156, ha_157, hr_159, hr_161]
           try refine ⟨by first | exact sd | ((repeat' apply And.intro) <;> first | assumption | omega | (simp only [List.length_append, List.length_map, List.length_cons, List.length_nil, List.length_set, List.length_replicate] at c_102 c_104 ⊢; omega)), ?_⟩
           refine Rg.skipG (v := .p (.b r_103)) (gw := ?gw48) (by simp only [go_sem, simprocAttr, false_implies, and_true, true_and, bad, hv_69, hv_75, hg_109, hg_138, hg_140, hg_156, ha_157, hr_159, hr_161]; exact Is.mk) (by simp only [go_sem, simprocAttr, false_implies, and_true, true_and, bad, hv_69, hv_75, hg_109, hg_138, hg_140, hg_156, ha_157, hr_159, hr_161]; exact Is.mk) (by simp only [go_sem, simprocAttr, false_implies, and_true, true_and, bad, hv_69, hv_75, hg_109, hg_138, hg_140, hg_156, ha_157, hr_159, hr_161]) ?cont48
           simp only [go_sem, simprocAttr, false_implies, and_true, true_and, bad, hv_69, hv_75, hg_109, hg_138, hg_140, hg_156, ha_157, hr_159, hr_161]
           first | refine hW32 _ _ _ _ ?_ hcont32 | refine ⟨by first | exact sd | ((repeat' apply And.intro) <;> first | assumption | omega | (simp only [List.length_append, List.length_map, List.length_cons, List.length_nil, List.length_set, List.length_replicate] at c_102 c_104 ⊢; omega)), hW32 _ _ _ _ ?_ hcont32⟩
           simp only [go_sem, simprocAttr, false_implies, and_true, true_and, bad, hv_69, hv_75, hg_109, hg_138, hg_140, hg_156, ha_157, hr_159, hr_161]
           try exact se5
          ·
           have hr_161 : (List.map ecS o3_61).getD ((IntKind.i64.wrap (r_70.1 + 1)).toNat) [] = [] := by rw [List.getD_eq_getElem?_getD, List.getElem?_eq_none (by simpa using hi_160)]; rfl
           subst hv_106
           subst hv_108
           simp only [go_sem, simprocAttr, false_implies, and_true, true_and, bad, hv_69, hv_75, hg_109, hg_138, hg_140, hg_156, ha_157, hr_159, hr_161]
           try refine ⟨by first | exact sd | ((repeat' apply And.intro) <;> first | assumption | omega | (simp only [List.length_append, List.length_map, List.length_cons, List.length_nil, List.length_set, List.length_replicate] at c_102 c_104 ⊢; omega)), ?_⟩
           refine Rg.skipG (v := .p (.b r_103)) (gw := ?gw49) (by simp only [go_sem, simprocAttr, false_implies, and_true, true_and, bad, hv_69, hv_75, hg_109, hg_138, hg_140, hg_156, ha_157, hr_159, hr_161]; exact Is.mk) (by simp only [go_sem, simprocAttr, false_implies, and_true, true_and, bad, hv_69, hv_75, hg_109, hg_138, hg_140, hg_156, ha_157, hr_159, hr_161]; exact Is.mk) (by simp only [go_sem, simprocAttr, false_implies, and_true, true_and, bad, hv_69, hv_75, hg_109, hg_138, hg_140, hg_156, ha_157, hr_159, hr_161]) ?cont49
           simp only [go_sem, simprocAttr, false_implies, and_true, true_and, bad, hv_69, hv_75, hg_109, hg_138, hg_140, hg_156, ha_157, hr_159, hr_161]
           first | refine hW32 _ _ _ _ ?_ hcont32 | refine ⟨by first | exact sd | ((repeat' apply And.intro) <;> first | assumption | omega | (simp only [List.length_append, List.length_map, List.length_cons, List.length_nil, List.length_set, List.length_replicate] at c_102 c_104 ⊢; omega)), hW32 _ _ _ _ ?_ hcont32⟩
           simp only [go_sem, simprocAttr, false_implies, and_true, true_and, bad, hv_69, hv_75, hg_109, hg_138, hg_140, hg_156, ha_157, hr_159, hr_161]
           try exact se5
         ·
          have hr_159 : (List.map encL_enc_api_Had o4_62).getD r_70.1.toNat [] = [] := by rw [List.getD_eq_getElem?_getD, List.getElem?_eq_none (by simpa using hi_158)]; rfl
          rcases Nat.lt_or_ge ((IntKind.i64.wrap (r_70.1 + 1)).toNat) o3_61.length with hi_162 | hi_162
          ·
           have hr_163 := getD_encB (l := o3_61) (e := ecS) (d := []) (i := (IntKind.i64.wrap (r_70.1 + 1)).toNat) hi_162 []
           subst hv_106
           subst hv_108
           simp only [go_sem, simprocAttr, false_implies, and_true, true_and, bad, hv_69, hv_75, hg_109, hg_138, hg_140, hg_156, ha_157, hr_159, hr_163]
           try refine ⟨by first | exact sd | ((repeat' apply And.intro) <;> first | assumption | omega | (simp only [List.length_append, List.length_map, List.length_cons, List.length_nil, List.length_set, List.length_replicate] at c_102 c_104 ⊢; omega)), ?_⟩
           refine Rg.skipG (v := .p (.b r_103)) (gw := ?gw50) (by simp only [go_sem, simprocAttr, false_implies, and_true, true_and, bad, hv_69, hv_75, hg_109, hg_138, hg_140, hg_156, ha_157, hr_159, hr_163]; exact Is.mk) (by simp only [go_sem, simprocAttr, false_implies, and_true, true_and, bad, hv_69, hv_75, hg_109, hg_138, hg_140, hg_156, ha_157, hr_159, hr_163]; exact Is.mk) (by simp only [go_sem, simprocAttr, false_implies, and_true, true_and, bad, hv_69, hv_75, hg_109, hg_138, hg_140, hg_156, ha_157, hr_159, hr_163]) ?cont50
           simp only [go_sem, simprocAttr, false_implies, and_true, true_and, bad, hv_69, hv_75, hg_109, hg_138, hg_140, hg_156, ha_157, hr_159, hr_163]
           first | refine hW32 _ _ _ _ ?_ hcont32 | refine ⟨by first | exact sd | ((repeat' apply And.intro) <;> first | assumption | omega | (simp only [List.length_append, List.length_map, List.length_cons, List.length_nil, List.length_set, List.length_replicate] at c_102 c_104 ⊢; omega)), hW32 _ _ _ _ ?_ hcont32⟩
           simp only [go_sem, simprocAttr, false_implies, and_true, true_and, bad, hv_69, hv_75, hg_109, hg_138, hg_140, hg_156, ha_157, hr_159, hr_163]
           try exact se5
          ·
           have hr_163 : (List.map ecS o3_61).getD ((IntKind.i64.wrap (r_70.1 + 1)).toNat) [] = [] := by rw [List.getD_eq_getElem?_getD, List.getElem?_eq_none (by simpa using hi_162)]; rfl
           subst hv_106
           subst hv_108
           simp only [go_sem, simprocAttr, false_implies, and_true, true_and, bad, hv_69, hv_75, hg_109, hg_138, hg_140, hg_156, ha_157, hr_159, hr_163]
           try refine ⟨by first | exact sd | ((repeat' apply And.intro) <;> first | assumption | omega | (simp only [List.length_append, List.length_map, List.length_cons, List.length_nil, List.length_set, List.length_replicate] at c_102 c_104 ⊢; omega)), ?_⟩
           refine Rg.skipG (v := .p (.b r_103)) (gw := ?gw51) (by simp only [go_sem, simprocAttr, false_implies, and_true, true_and, bad, hv_69, hv_75, hg_109, hg_138, hg_140, hg_156, ha_157, hr_159, hr_163]; exact Is.mk) (by simp only [go_sem, simprocAttr, false_implies, and_true, true_and, bad, hv_69, hv_75, hg_109, hg_138, hg_140, hg_156, ha_157, hr_159, hr_163]; exact Is.mk) (by simp only [go_sem, simprocAttr, false_implies, and_true, true_and, bad, hv_69, hv_75, hg_109, hg_138, hg_140, hg_156, ha_157, hr_159, hr_163]) ?cont51
           simp only [go_sem, simprocAttr, false_implies, and_true, true_and, bad, hv_69, hv_75, hg_109, hg_138, hg_140, hg_156, ha_157, hr_159, hr_163]
           first | refine hW32 _ _ _ _ ?_ hcont32 | refine ⟨by first | exact sd | ((repeat' apply And.intro) <;> first | assumption | omega | (simp only [List.length_append, List.length_map, List.length_cons, List.length_nil, List.length_set, List.length_replicate] at c_102 c_104 ⊢; omega)), hW32 _ _ _ _ ?_ hcont32⟩
           simp only [go_sem, simprocAttr, false_implies, and_true, true_and, bad, hv_69, hv_75, hg_109, hg_138, hg_140, hg_156, ha_157, hr_159, hr_163]
           try exact se5
        ·
         have ha_164 : ((decide (r_101.2 = 0)) && r_103) = false := by revert hg_109 hg_138 hg_140 hg_156; generalize decide ((IntKind.i64.wrap (r_70.1 + 1)) = (o3_61.length : Int)) = x0; generalize decide (r_101.2 = 0) = x1; generalize r_103 = x2; revert x0 x1 x2; decide
         rcases Nat.lt_or_ge r_70.1.toNat o4_62.length with hi_165 | hi_165
         ·
          have hr_166 := getD_encB (l := o4_62) (e := encL_enc_api_Had) (d := []) (i := r_70.1.toNat) hi_165 []
          rcases Nat.lt_or_ge ((IntKind.i64.wrap (r_70.1 + 1)).toNat) o3_61.length with hi_167 | hi_167
          ·
           have hr_168 := getD_encB (l := o3_61) (e := ecS) (d := []) (i := (IntKind.i64.wrap (r_70.1 + 1)).toNat) hi_167 []
           subst hv_106
           subst hv_108
           simp only [go_sem, simprocAttr, false_implies, and_true, true_and, bad, hv_69, hv_75, hg_109, hg_138, hg_140, hg_156, ha_164, hr_166, hr_168]
           try refine ⟨by first | exact sd | ((repeat' apply And.intro) <;> first | assumption | omega | (simp only [List.length_append, List.length_map, List.length_cons, List.length_nil, List.length_set, List.length_replicate] at c_102 c_104 ⊢; omega)), ?_⟩
           refine Rg.skipG (v := .p (.b r_103)) (gw := ?gw52) (by simp only [go_sem, simprocAttr, false_implies, and_true, true_and, bad, hv_69, hv_75, hg_109, hg_138, hg_140, hg_156, ha_164, hr_166, hr_168]; exact Is.mk) (by simp only [go_sem, simprocAttr, false_implies, and_true, true_and, bad, hv_69, hv_75, hg_109, hg_138, hg_140, hg_156, ha_164, hr_166, hr_168]; exact Is.mk) (by simp only [go_sem, simprocAttr, false_implies, and_true, true_and, bad, hv_69, hv_75, hg_109, hg_138, hg_140, hg_156, ha_164, hr_166, hr_168]) ?cont52
           simp only [go_sem, simprocAttr, false_implies, and_true, true_and, bad, hv_69, hv_75, hg_109, hg_138, hg_140, hg_156, ha_164, hr_166, hr_168]
           first | refine hW32 _ _ _ _ ?_ hcont32 | refine ⟨by first | exact sd | ((repeat' apply And.intro) <;> first | assumption | omega | (simp only [List.length_append, List.length_map, List.length_cons, List.length_nil, List.length_set, List.length_replicate] at c_102 c_104 ⊢; omega)), hW32 _ _ _ _ ?_ hcont32⟩
           simp only [go_sem, simprocAttr, false_implies, and_true, true_and, bad, hv_69, hv_75, hg_109, hg_138, hg_140, hg_156, ha_164, hr_166, hr_168]
           try exact se5
          ·
           have hr_168 : (List.map ecS o3_61).getD ((IntKind.i64.wrap (r_70.1 + 1)).toNat) [] = [] := by rw [List.getD_eq_getElem?_getD, List.getElem?_eq_none (by simpa using hi_167)]; rfl
           subst hv_106
           subst hv_108
           simp only [go_sem, simprocAttr, false_implies, and_true, true_and, bad, hv_69, hv_75, hg_109, hg_138, hg_140, hg_156, ha_164, hr_166, hr_168]
           try refine ⟨by first | exact sd | ((repeat' apply And.intro) <;> first | assumption | omega | (simp only [List.length_append, List.length_map, List.length_cons, List.length_nil, List.length_set, List.length_replicate] at c_102 c_104 ⊢; omega)), ?_⟩
           refine Rg.skipG (v := .p (.b r_103)) (gw := ?gw53) (by simp only [go_sem, simprocAttr, false_implies, and_true, true_and, bad, hv_69, hv_75, hg_109, hg_138, hg_140, hg_156, ha_164, hr_166, hr_168]; exact Is.mk) (by simp only [go_sem, simprocAttr, false_implies, and_true, true_and, bad, hv_69, hv_75, hg_109, hg_138, hg_140, hg_156, ha_164, hr_166, hr_168]; exact Is.mk) (by simp only [go_sem, simprocAttr, false_implies, and_true, true_and, bad, hv_69, hv_75, hg_109, hg_138, hg_140, hg_156, ha_164, hr_166, hr_168]) ?cont53
           simp only [go_sem, simprocAttr, false_implies, and_true, true_and, bad, hv_69, hv_75, hg_109, hg_138, hg_140, hg_156, ha_164, hr_166, hr_168]
           first | refine hW32 _ _ _ _ ?_ hcont32 | refine ⟨by first | exact sd | ((repeat' apply And.intro) <;> first | assumption | omega | (simp only [List.length_append, List.length_map, List.length_cons, List.length_nil, List.length_set, List.length_replicate] at c_102 c_104 ⊢; omega)), hW32 _ _ _ _ ?_ hcont32⟩
           simp only [go_sem, simprocAttr, false_implies, and_true, true_and, bad, hv_69, hv_75, hg_109, hg_138, hg_140, hg_156, ha_164, hr_166, hr_168]
           try exact se5
         ·
          have hr_166 : (List.map encL_enc_api_Had o4_62).getD r_70.1.toNat [] = [] := by rw [List.getD_eq_getElem?_getD, List.getElem?_eq_none (by simpa using hi_165)]; rfl
          rcases Nat.lt_or_ge ((IntKind.i64.wrap (r_70.1 + 1)).toNat) o3_61.length with hi_169 | hi_169
          ·
           have hr_170 := getD_encB (l := o3_61) (e := ecS) (d := []) (i := (IntKind.i64.wrap (r_70.1 + 1)).toNat) hi_169 []
           subst hv_106
           subst hv_108
           simp only [go_sem, simprocAttr, false_implies, and_true, true_and, bad, hv_69, hv_75, hg_109, hg_138, hg_140, hg_156, ha_164, hr_166, hr_170]
           try refine ⟨by first | exact sd | ((repeat' apply And.intro) <;> first | assumption | omega | (simp only [List.length_append, List.length_map, List.length_cons, List.length_nil, List.length_set, List.length_replicate] at c_102 c_104 ⊢; omega)), ?_⟩
           refine Rg.skipG (v := .p (.b r_103)) (gw := ?gw54) (by simp only [go_sem, simprocAttr, false_implies, and_true, true_and, bad, hv_69, hv_75, hg_109, hg_138, hg_140, hg_156, ha_164, hr_166, hr_170]; exact Is.mk) (by simp only [go_sem, simprocAttr, false_implies, and_true, true_and, bad, hv_69, hv_75, hg_109, hg_138, hg_140, hg_156, ha_164, hr_166, hr_170]; exact Is.mk) (by simp only [go_sem, simprocAttr, false_implies, and_true, true_and, bad, hv_69, hv_75, hg_109, hg_138, hg_140, hg_156, ha_164, hr_166, hr_170]) ?cont54
           simp only [go_sem, simprocAttr, false_implies, and_true, true_and, bad, hv_69, hv_75, hg_109, hg_138, hg_140, hg_156, ha_164, hr_166, hr_170]
           first | refine hW32 _ _ _ _ ?_ hcont32 | refine ⟨by first | exact sd | ((repeat' apply And.intro) <;> first | assumption | omega | (simp only [List.length_append, List.length_map, List.length_cons, List.length_nil, List.length_set, List.length_replicate] at c_102 c_104 ⊢; omega)), hW32 _ _ _ _ ?_ hcont32⟩
           simp only [go_sem, simprocAttr, false_implies, and_true, true_and, bad, hv_69, hv_75, hg_109, hg_138, hg_140, hg_156, ha_164, hr_166, hr_170]
           try exact se5
          ·
           have hr_170 : (List.map ecS o3_61).getD ((IntKind.i64.wrap (r_70.1 + 1)).toNat) [] = [] := by rw [List.getD_eq_getElem?_getD, List.getElem?_eq_none (by simpa using hi_169)]; rfl
           subst hv_106
           subst hv_108
           simp only [go_sem, simprocAttr, false_implies, and_true, true_and, bad, hv_69, hv_75, hg_109, hg_138, hg_140, hg_156, ha_164, hr_166, hr_170]
           try refine ⟨by first | exact sd | ((repeat' apply And.intro) <;> first | assumption | omega | (simp only [List.length_append, List.length_map, List.length_cons, List.length_nil, List.length_set, List.length_replicate] at c_102 c_104 ⊢; omega)), ?_⟩
           refine Rg.skipG (v := .p (.b r_103)) (gw := ?gw55) (by simp only [go_sem, simprocAttr, false_implies, and_true, true_and, bad, hv_69, hv_75, hg_109, hg_138, hg_140, hg_156, ha_164, hr_166, hr_170]; exact Is.mk) (by simp only [go_sem, simprocAttr, false_implies, and_true, true_and, bad, hv_69, hv_75, hg_109, hg_138, hg_140, hg_156, ha_164, hr_166, hr_170]; exact Is.mk) (by simp only [go_sem, simprocAttr, false_implies, and_true, true_and, bad, hv_69, hv_75, hg_109, hg_138, hg_140, hg_156, ha_164, hr_166, hr_170]) ?cont55
           simp only [go_sem, simprocAttr, false_implies, and_true, true_and, bad, hv_69, hv_75, hg_109, hg_138, hg_140, hg_156, ha_164, hr_166, hr_170]
           first | refine hW32 _ _ _ _ ?_ hcont32 | refine ⟨by first | exact sd | ((repeat' apply And.intro) <;> first | assumption | omega | (simp only [List.length_append, List.length_map, List.length_cons, List.length_nil, List.length_set, List.length_replicate] at c_102 c_104 ⊢; omega)), hW32 _ _ _ _ ?_ hcont32⟩
           simp only [go_sem, simprocAttr, false_implies, and_true, true_and, bad, hv_69, hv_75, hg_109, hg_138, hg_140, hg_156, ha_164, hr_166, hr_170]
           try exact se5
    refine hK32 _ _ ?_
    refine Wp.ret ?_
    refine retQ_ret ?_
    cases hm
    simp only [go_sem, simprocAttr, hv_69, hv_75, hv_106, hv_108]
    try exact se5
  clear hK12 hk_65
  obtain ⟨c_171, hm⟩ := chk_elim hm
  refine Wp.seqR fun K56 hK56 => ?_
  simp only [go_sem, simprocAttr]
  first | apply hK56 | refine ⟨by first | exact sd | ((repeat' apply And.intro) <;> first | assumption | omega | (simp only [List.length_append, List.length_map, List.length_cons, List.length_nil, List.length_set, List.length_replicate] at c_171 ⊢; omega)), hK56 _ _ ?_⟩
  refine Wp.block ?_
  refine Wp.adoptO 2 0 30 13 rfl rfl ?_
  simp only [go_sem, simprocAttr]
  refine Wp.adoptO 2 1 9 1 rfl rfl ?_
  simp only [go_sem, simprocAttr]
  obtain ⟨k_211, hk_211, hm⟩ := forL_cont hm
  refine Wp.fact 30 fun hl_214 => ?_
  replace hl_214 : (List.take ((min (l_1.length : Int) 30).toNat) l_1).length ≤ 274877906944 := by
   simp only [go_sem, simprocAttr, List.length_map] at hl_214
   omega
  refine Wp.forL (fun i_213 s => [(1, .p (.i .i64 cut_2)), (5, .ptr 2 0), (6, .buf 3), (7, .buf 4), (30, .p (.l (List.map enc_api_Record (List.take ((min (l_1.length : Int) 30).toNat) l_1)))), (31, .p (.i .i64 ((List.take ((min (l_1.length : Int) 30).toNat) l_1).length : Int))), (32, .p (.i .i64 (i_213 : Int)))]) (fun i_213 s => [.mp true (encM Dt.s enc_log_had s.1), .cells 99 [.mp 0, .p (.i .i64 s.2.1)], .cells 63 [.buf 5, .buf 6, .p (.s s.2.2.1), .ptr 1 0], .buf 9 1 (List.map ecS s.2.2.2.1), .buf 52 1 (List.map encL_enc_api_Had s.2.2.2.2.1), .buf 30 13 (List.map enc_api_Record s.2.2.2.2.2.1), .buf 9 1 (List.map ecS s.2.2.2.2.2.2)]) ?_ hm ?_
  ·
   exact fse5
  clear hm
  intro i_213 s hii_213 hm
  obtain ⟨m0_197, o1_1_198, o2_2_199, o3_200, o4_201, o5_202, o6_203⟩ := s
  try dsimp only at hm
  try dsimp only
  refine qS ?_
  refine Wp.seqW fun K58 hK58 hW58 => ?_
  refine Wp.cond rfl ⟨⟩ (fun hc58 => ?_) (fun hc58 => ?_)
  rotate_left
  ·refine Wp.exit ?_
   have hm := hk_211 _ (forL_end hm (ge_nat (by first | exact hc58 | simpa using hc58)))
   try dsimp only at hm
   refine hW12 _ _ _ _ ?_ (hcut12 (m0_197, o1_1_198, o2_2_199, o3_200, o4_201, o5_202, o6_203) hm)
   exact fse5
  have hlt58 := lt_nat (by first | exact hc58 | simpa using hc58)
  have hw58 := wrap_succ hlt58 hl_214
  obtain ⟨r_215, nx_212, hxr_215, hyr_215, hnx_212, hm⟩ := forL_step hm hlt58
  replace hxr_215 := hxr_215 enc_api_Record
  refine Wp.skip ?_
  simp only [thenQ]
  refine hK58 _ _ ?_
  refine Wp.seqW fun K59 hK59 hW59 => ?_
  refine Wp.block ?_
  refine Wp.seqR fun K60 hK60 => ?_
  simp only [go_sem, simprocAttr, hw58, hxr_215]
  first | apply hK60 | refine ⟨sd, hK60 _ _ ?_⟩
  refine Wp.seqW fun K61 hK61 hW61 => ?_
  obtain ⟨r_216, hr_216, hm⟩ := call_elim hm
  refine Wp.seqR fun K62 hK62 => ?_
  simp only [go_sem, simprocAttr, hw58, hxr_215]
  try refine ⟨sd, ?_⟩
  refine Rg.callO (av := ?av63) [2, 5, 6, 1, 0] (ok_log_Log_Add_i1 r_215 o2_2_199 o5_202 o6_203 o1_1_198 m0_197 _ hr_216) (by simp only [go_sem, simprocAttr, hw58, hxr_215]; exact Is.mk) (by simp only [go_sem, simprocAttr, hw58, hxr_215]; exact Is.mk) (by simp only [go_sem, simprocAttr, hw58, hxr_215]; exact Is.mk) (by simp only [go_sem, simprocAttr, hw58, hxr_215]) (by simp only [go_sem, simprocAttr, hw58, hxr_215]) ?cont63
  rintro _ _ ⟨rfl, rfl⟩ hv63
  simp only [go_sem, simprocAttr, hw58, hxr_215]
  first | apply hK62 | refine ⟨sd, hK62 _ _ ?_⟩
  refine cM hm (fun hc64 hm => ?_) (fun hc64 hm => ?_)
  ·refine Wp.exit ?_
   refine hK59 _ _ ?_
   refine Wp.region fun K65 hK65 => ?_
   simp only [go_sem, simprocAttr, hw58, hxr_215]
   first | apply hK65 | refine ⟨sd, hK65 _ _ ?_⟩
   simp only [thenQ, blockQ, ↓reduceIte]
   refine ⟨(r_216.2.2.2.2.2, r_216.2.2.2.2.1, r_216.2.1, o3_200, o4_201, r_216.2.2.1, r_216.2.2.2.1), hlt58, hnx_212 _ hm, ?_⟩
   simp only [go_sem, simprocAttr, hw58, hxr_215]
   try exact se5
  ·refine Wp.skip ?_
   refine hK61 _ _ ?_
   obtain ⟨r_217, hr_217, hm⟩ := call_elim hm
   obtain ⟨r_218, hr_218, hm⟩ := call_elim hm
   refine Wp.seqR fun K66 hK66 => ?_
   simp only [go_sem, simprocAttr, hw58, hxr_215]
   try refine ⟨sd, ?_⟩
   refine Rg.callO (av := ?av67) [2, 5, 6, 1, 0] (ok_log_Log_Records_i1 r_216.2.1 r_216.2.2.1 r_216.2.2.2.1 r_216.2.2.2.2.1 r_216.2.2.2.2.2 _ hr_217) (by simp only [go_sem, simprocAttr, hw58, hxr_215]; exact Is.mk) (by simp only [go_sem, simprocAttr, hw58, hxr_215]; exact Is.mk) (by simp only [go_sem, simprocAttr, hw58, hxr_215]; exact Is.mk) (by simp only [go_sem, simprocAttr, hw58, hxr_215]) (by simp only [go_sem, simprocAttr, hw58, hxr_215]) ?cont67
   rintro _ _ ⟨rfl, rfl⟩ hv67
   simp only [go_sem, simprocAttr, hw58, hxr_215]
   try refine ⟨sd, ?_⟩
   refine Rg.callF (av := ?av68) (ok_log_Installed r_217 _ hr_218) (by simp only [go_sem, simprocAttr, hw58, hxr_215]; exact Is.mk) (by simp only [go_sem, simprocAttr, hw58, hxr_215]; exact Is.mk) (by simp only [go_sem, simprocAttr, hw58, hxr_215]) ?cont68
   intro hv68
   simp only [go_sem, simprocAttr, hw58, hxr_215]
   first | apply hK66 | refine ⟨sd, hK66 _ _ ?_⟩
   refine Wp.seqW fun K69 hK69 hW69 => ?_
   refine Wp.seqR fun K70 hK70 => ?_
   simp only [go_sem, simprocAttr, hw58, hxr_215]
   first | apply hK70 | refine ⟨sd, hK70 _ _ ?_⟩
   refine cM hm (fun hc71 hm => ?_) (fun hc71 hm => ?_)
   ·refine Wp.seqR fun K72 hK72 => ?_
    simp only [go_sem, simprocAttr, hw58, hxr_215]
    first | apply hK72 | refine ⟨sd, hK72 _ _ ?_⟩
    refine Wp.ret ?_
    refine retQ_ret ?_
    cases hm
    simp only [go_sem, simprocAttr, hw58, hxr_215]
    try exact se5
   ·refine Wp.skip ?_
    refine hK69 _ _ ?_
    obtain ⟨r_219, hr_219, hm⟩ := call_elim hm
    obtain ⟨c_220, hm⟩ := chk_elim hm
    obtain ⟨c_221, hm⟩ := chk_elim hm
    refine Wp.region fun K73 hK73 => ?_
    simp only [go_sem, simprocAttr, hw58, hxr_215]
    try refine ⟨by first | exact sd | ((repeat' apply And.intro) <;> first | assumption | omega | (simp only [List.length_append, List.length_map, List.length_cons, List.length_nil, List.length_set, List.length_replicate] at c_220 c_221 ⊢; omega)), ?_⟩
    refine Rg.callO (av := ?av74) [2, 5, 6, 1, 0] (ok_log_Log_Text_i1 r_216.2.1 r_216.2.2.1 r_216.2.2.2.1 r_216.2.2.2.2.1 r_216.2.2.2.2.2 _ hr_219) (by simp only [go_sem, simprocAttr, hw58, hxr_215]; exact Is.mk) (by simp only [go_sem, simprocAttr, hw58, hxr_215]; exact Is.mk) (by simp only [go_sem, simprocAttr, hw58, hxr_215]; exact Is.mk) (by simp only [go_sem, simprocAttr, hw58, hxr_215]) (by simp only [go_sem, simprocAttr, hw58, hxr_215]) ?cont74
    rintro _ _ ⟨rfl, rfl⟩ hv74
    simp only [go_sem, simprocAttr, hw58, hxr_215]
    first | apply hK73 | refine ⟨by first | exact sd | ((repeat' apply And.intro) <;> first | assumption | omega | (simp only [List.length_append, List.length_map, List.length_cons, List.length_nil, List.length_set, List.length_replicate] at c_220 c_221 ⊢; omega)), hK73 _ _ ?_⟩
    refine hK59 _ _ ?_
    refine Wp.region fun K75 hK75 => ?_
    simp only [go_sem, simprocAttr, hw58, hxr_215]
    first | apply hK75 | refine ⟨sd, hK75 _ _ ?_⟩
    simp only [thenQ, blockQ, ↓reduceIte]
    refine ⟨(r_216.2.2.2.2.2, r_216.2.2.2.2.1, r_216.2.1, o3_200 ++ [r_219], o4_201 ++ [r_218.1], r_216.2.2.1, r_216.2.2.2.1), hlt58, hnx_212 _ hm, ?_⟩
    simp only [go_sem, simprocAttr, hw58, hxr_215]
    try exact se5
end Go.Proofs.YtmnohdgjkcjdeaaGreatDoor
