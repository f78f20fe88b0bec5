/- That the code does what the models say (part 2). -/
import Derived.Test.YtkekfenkeeiigaaDoorLbWk0
import Derived.Test.YtkekfenkeeiigaaDoorLbWk1
set_option linter.unusedSimpArgs false
set_option linter.unusedVariables false
open Go.Proofs Go.Shelf
namespace Go.Proofs.YtkekfenkeeiigaaDoor
open Go.Vc Go.Md
set_option maxRecDepth 100000
set_option maxHeartbeats 4000000
theorem ok_delta_common (x_1 : List Str) (y_2 : List Str) (z : List Arr2_Int) (hm : delta_common x_1 y_2 = some z) : Does Tryd.prog 42 [.p (.l (List.map ecS x_1)), .p (.l (List.map ecS y_2))] [] (fun r X => r = .p (.l (List.map enc_Arr2_Int z)) ∧ X = []) := by
 unfold delta_common at hm
 refine Does.of_wp 0 161 [.tmp 4] Tryd.func42 rfl (by decide) rfl rfl (Nat.le_of_ble_eq_true rfl) fun B => ?_
 refine qS ?_
 refine qS ?_
 obtain ⟨r_3, hr_3, hm⟩ := call_elim hm
 refine Wp.seqR fun K3 hK3 => ?_
 simp only [go_sem, simprocAttr]
 try refine ⟨sd, ?_⟩
 refine Rg.callO (av := ?av4) [0] (ok_delta_numbered_i1 x_1 [] _ hr_3) si si si sg sg ?cont4
 rintro _ _ ⟨rfl, rfl⟩ hv4
 simp only [go_sem, simprocAttr]
 first | apply hK3 | refine ⟨sd, hK3 _ _ ?_⟩
 obtain ⟨r_4, hr_4, hm⟩ := call_elim hm
 refine Wp.seqR fun K5 hK5 => ?_
 simp only [go_sem, simprocAttr]
 try refine ⟨sd, ?_⟩
 refine Rg.callO (av := ?av6) [0] (ok_delta_numbered_i1 y_2 r_3.2 _ hr_4) si si si sg sg ?cont6
 rintro _ _ ⟨rfl, rfl⟩ hv6
 simp only [go_sem, simprocAttr]
 first | apply hK5 | refine ⟨sd, hK5 _ _ ?_⟩
 obtain ⟨c_5, hm⟩ := chk_elim hm
 obtain ⟨v_6, hv_7, hm⟩ := letv_elim hm
 refine Wp.seqRW fun K7 hK7 hW7 => ?_
 suffices hcont7 : K7 [(0, .p (.l (List.map ecS x_1))), (1, .p (.l (List.map ecS y_2))), (4, .nils), (5, .mp 0), (6, .p (.l (List.map ecI_i64 r_3.1))), (7, .p (.l (List.map ecI_i64 r_4.1))), (8, .buf 1), (16, .mp 0), (17, .p (.l (List.map ecS x_1))), (18, .mp 0), (19, .p (.l (List.map ecI_i64 r_3.1))), (20, .p (.l (List.map ecS y_2))), (21, .mp 0), (22, .p (.l (List.map ecI_i64 r_4.1)))] [.mp false (encM Dt.s ecI_i64 r_4.2), .nst false 57 1 0 2 (List.map eN_encL_ecI_i64 v_6) none, .inn 3 1 (List.map iN_encL_ecI_i64 v_6)] by
  subst hv_7
  simp only [go_sem, simprocAttr, false_implies, and_true, true_and, bad]
  first | refine hW7 _ _ _ _ ?_ hcont7 | refine ⟨by first | exact sd | ((repeat' apply And.intro) <;> first | assumption | omega | (simp only [List.length_append, List.length_map, List.length_cons, List.length_nil, List.length_set, List.length_replicate] at c_5 ⊢; omega)), hW7 _ _ _ _ ?_ hcont7⟩
  simp only [go_sem, simprocAttr, false_implies, and_true, true_and, bad]
  try exact se3
 refine hK7 _ _ ?_
 refine Wp.seqW fun K8 hK8 hW8 => ?_
 obtain ⟨k_32, hk_32, hm⟩ := jp_elim hm
 have hcut8 : ∀ s, k_32 s = some z → K8 [(6, .p (.l (List.map ecI_i64 r_3.1))), (7, .p (.l (List.map ecI_i64 r_4.1))), (8, .buf 1)] [.mp false (encM Dt.s ecI_i64 r_4.2), .nst false 57 1 0 2 (List.map eN_encL_ecI_i64 s) none, .inn 3 1 (List.map iN_encL_ecI_i64 s)] := by
  intro o1_31 hs
  have hm := hk_32 _ hs
  clear hs
  try dsimp only at hm
  try dsimp only
  refine hK8 _ _ ?_
  refine Wp.seqW fun K9 hK9 hW9 => ?_
  obtain ⟨k_651, hk_651, hm⟩ := jp_elim hm
  have hcut9 : ∀ s, k_651 s = some z → K9 [(6, .p (.l (List.map ecI_i64 r_3.1))), (7, .p (.l (List.map ecI_i64 r_4.1))), (8, .buf 1)] [.mp false (encM Dt.s ecI_i64 r_4.2), .nst false 57 1 0 2 (List.map eN_encL_ecI_i64 s) none, .inn 3 1 (List.map iN_encL_ecI_i64 s)] := by
   intro o1_650 hs
   have hm := hk_651 _ hs
   clear hs
   try dsimp only at hm
   try dsimp only
   refine hK9 _ _ ?_
   refine Wp.seqR fun K10 hK10 => ?_
   simp only [go_sem, simprocAttr, hv_7]
   first | apply hK10 | refine ⟨sd, hK10 _ _ ?_⟩
   refine Wp.seqR fun K11 hK11 => ?_
   simp only [go_sem, simprocAttr, hv_7]
   first | apply hK11 | refine ⟨sd, hK11 _ _ ?_⟩
   refine Wp.seqW fun K12 hK12 hW12 => ?_
   obtain ⟨k_773, hk_773, hm⟩ := jp_elim hm
   have hcut12 : ∀ s, k_773 s = some z → K12 [(12, .buf 3)] [.mp false (encM Dt.s ecI_i64 r_4.2), .gone, .gone, .buf 29 2 (List.map enc_Arr2_Int s)] := by
    intro o3_772 hs
    have hm := hk_773 _ hs
    clear hs
    try dsimp only at hm
    try dsimp only
    refine hK12 _ _ ?_
    refine Wp.seqR fun K13 hK13 => ?_
    simp only [go_sem, simprocAttr, hv_7]
    first | apply hK13 | refine ⟨sd, hK13 _ _ ?_⟩
    refine Wp.ret ?_
    refine retQ_ret ?_
    cases hm
    simp only [go_sem, simprocAttr, hv_7]
    try exact se3
   clear hK12 hk_773
   refine Wp.seqR fun K14 hK14 => ?_
   simp only [go_sem, simprocAttr, hv_7]
   first | apply hK14 | refine ⟨sd, hK14 _ _ ?_⟩
   refine Wp.block ?_
   refine Wp.adopt 12 29 2 rfl ?_
   simp only [go_sem, simprocAttr, hv_7]
   obtain ⟨k_853, hk_853, hm⟩ := forL_cont hm
   refine Wp.fact 6 fun hl_856 => ?_
   replace hl_856 : r_3.1.length ≤ 274877906944 := by
    simp only [go_sem, simprocAttr, List.length_map] at hl_856
    omega
   refine Wp.forL (fun i_855 s => [(6, .p (.l (List.map ecI_i64 r_3.1))), (7, .p (.l (List.map ecI_i64 r_4.1))), (8, .buf 1), (12, .buf 3), (13, .p (.i .i64 s.1)), (14, .p (.i .i64 (i_855 : Int)))]) (fun i_855 s => [.mp false (encM Dt.s ecI_i64 r_4.2), .nst false 57 1 0 2 (List.map eN_encL_ecI_i64 o1_650) none, .inn 3 1 (List.map iN_encL_ecI_i64 o1_650), .buf 29 2 (List.map enc_Arr2_Int s.2)]) ?_ hm ?_
   ·
    simp only [go_sem, simprocAttr, hv_7]
    try exact se3
   clear hm
   intro i_855 s hii_855 hm
   obtain ⟨k_813, o3_815⟩ := s
   try dsimp only at hm
   try dsimp only
   refine Wp.seqW fun K15 hK15 hW15 => ?_
   refine Wp.seqR fun K16 hK16 => ?_
   simp only [go_sem, simprocAttr, hv_7]
   first | apply hK16 | refine ⟨sd, hK16 _ _ ?_⟩
   refine Wp.cond rfl ⟨⟩ (fun hc15 => ?_) (fun hc15 => ?_)
   rotate_left
   ·refine Wp.exit ?_
    have hm := hk_853 _ (forL_end hm (ge_nat (by first | exact hc15 | simpa using hc15)))
    try dsimp only at hm
    refine hW12 _ _ _ _ ?_ (hcut12 o3_815 hm)
    simp only [go_sem, simprocAttr, hv_7]
    try exact se3
   have hlt15 := lt_nat (by first | exact hc15 | simpa using hc15)
   have hw15 := wrap_succ hlt15 hl_856
   obtain ⟨n_857, nx_854, hxn_857, hyn_857, hnx_854, hm⟩ := forL_step hm hlt15
   replace hxn_857 := hxn_857 ecI_i64
   refine Wp.skip ?_
   simp only [thenQ]
   refine hK15 _ _ ?_
   refine Wp.seqW fun K17 hK17 hW17 => ?_
   refine Wp.block ?_
   obtain ⟨c_858, hm⟩ := chk_elim hm
   obtain ⟨r_859, hr_859, hm⟩ := call_elim hm
   refine Wp.seqD (plan := pl [(0, none), (1, none), (2, none), (3, none), (4, none), (5, none), (6, none), (7, none), (8, none)]) (by kernel_rfl) rfl (by kernel_rfl) fun K18 hK18 => ?_
   simp only [go_sem, simprocAttr, hv_7, hw15, hxn_857]
   try refine ⟨by first | exact sd | ((repeat' apply And.intro) <;> first | assumption | omega | (simp only [List.length_append, List.length_map, List.length_cons, List.length_nil, List.length_set, List.length_replicate] at c_858 ⊢; omega)), ?_⟩
   refine Dr.callF (av := ?av19) (g := true) (o := ?o19) (fun hg => ok_slices_Index_int_int (List.drop k_813.toNat r_4.1) n_857 _ hr_859) (by simp only [go_sem, simprocAttr, hv_7, hw15, hxn_857]; exact Is.mk) (by simp only [go_sem, simprocAttr, hv_7, hw15, hxn_857]; exact Is.mk) (by simp only [go_sem, simprocAttr, hv_7, hw15, hxn_857]; exact Is.mk) (by simp only [go_sem, simprocAttr, hv_7, hw15, hxn_857]; exact Is.mk) (by simp only [go_sem, simprocAttr, hv_7, hw15, hxn_857]) (by simp only [go_sem, simprocAttr, hv_7, hw15, hxn_857]; exact Is.mk) ?cont19
   simp only [go_sem, simprocAttr, hv_7, hw15, hxn_857]
   first | apply hK18 | refine ⟨by first | exact sd | ((repeat' apply And.intro) <;> first | assumption | omega | (simp only [List.length_append, List.length_map, List.length_cons, List.length_nil, List.length_set, List.length_replicate] at c_858 ⊢; omega)), hK18 _ _ ?_⟩
   refine Wp.seqW fun K20 hK20 hW20 => ?_
   obtain ⟨c_860, hm⟩ := chk_elim hm
   obtain ⟨c_861, hm⟩ := chk_elim hm
   obtain ⟨c_862, hm⟩ := chk_elim hm
   obtain ⟨c_863, hm⟩ := chk_elim hm
   refine Wp.seqDW (plan := pl [(0, none), (1, none), (2, none), (3, none), (4, none), (5, none), (6, none), (7, none), (8, none), (9, none), (10, none), (11, none), (12, none), (13, none), (14, none), (15, none), (16, none), (17, none), (18, none), (19, none), (20, none), (21, none), (22, none), (23, none)]) (by kernel_rfl) rfl (by kernel_rfl) fun K21 hK21 hW21 => ?_
   suffices hcont21 : K21 [(6, .p (.l (List.map ecI_i64 r_3.1))), (7, .p (.l (List.map ecI_i64 r_4.1))), (8, .buf 1), (12, .buf 3), (13, .p (.i .i64 k_813)), (14, .p (.i .i64 (i_855 : Int))), (15, .p (.i .i64 r_859)), (110, .p (.i .i64 (i_855 : Int))), (111, .p (.l (List.map ecI_i64 r_3.1))), (112, .p (.i .i64 (r_3.1.length : Int))), (113, .p (.b (decide ((i_855 : Int) < (r_3.1.length : Int))))), (116, .p (.l (List.map ecI_i64 r_4.1))), (117, .p (.i .i64 k_813)), (118, .p (.l (List.map ecI_i64 (List.drop k_813.toNat r_4.1)))), (119, .p (.l (List.map ecI_i64 r_3.1))), (120, .p (.i .i64 (i_855 : Int))), (121, .rp [.i .i64 n_857]), (122, .p (.i .i64 n_857)), (123, .p (.i .i64 r_859)), (147, .p (.b ((decide (r_859 < 0)) || (!decide ((IntKind.i64.wrap (1 + ((o1_650.getD ((IntKind.i64.wrap ((i_855 : Int) + 1)).toNat) []).getD ((IntKind.i64.wrap ((IntKind.i64.wrap (k_813 + r_859)) + 1)).toNat) 0))) = ((o1_650.getD i_855 []).getD k_813.toNat 0))))))] [.mp false (encM Dt.s ecI_i64 r_4.2), .nst false 57 1 0 2 (List.map eN_encL_ecI_i64 o1_650) none, .inn 3 1 (List.map iN_encL_ecI_i64 o1_650), .buf 29 2 (List.map enc_Arr2_Int o3_815)] by
    rcases Bool.eq_false_or_eq_true (decide (r_859 < 0)) with hg_864 | hg_864
    ·
     have hg_865 : (!(decide (r_859 < 0))) = false := by revert hg_864; generalize decide (r_859 < 0) = x0; revert x0; decide
     rcases Nat.lt_or_ge ((IntKind.i64.wrap ((i_855 : Int) + 1)).toNat) o1_650.length with hi_866 | hi_866
     ·
      have hr_867 := getD_innB (l := o1_650) (f := iN_encL_ecI_i64) (d := []) (i := (IntKind.i64.wrap ((i_855 : Int) + 1)).toNat) hi_866 []
      rcases Nat.lt_or_ge ((IntKind.i64.wrap ((IntKind.i64.wrap (k_813 + r_859)) + 1)).toNat) (o1_650.getD ((IntKind.i64.wrap ((i_855 : Int) + 1)).toNat) []).length with hi_868 | hi_868
      ·
       have hr_869 := getD_encB (l := (o1_650.getD ((IntKind.i64.wrap ((i_855 : Int) + 1)).toNat) [])) (e := ecI_i64) (d := 0) (i := (IntKind.i64.wrap ((IntKind.i64.wrap (k_813 + r_859)) + 1)).toNat) hi_868 []
       rcases Nat.lt_or_ge i_855 o1_650.length with hi_870 | hi_870
       ·
        have hr_871 := getD_innB (l := o1_650) (f := iN_encL_ecI_i64) (d := []) (i := i_855) hi_870 []
        rcases Nat.lt_or_ge k_813.toNat (o1_650.getD i_855 []).length with hi_872 | hi_872
        ·
         have hr_873 := getD_encB (l := (o1_650.getD i_855 [])) (e := ecI_i64) (d := 0) (i := k_813.toNat) hi_872 []
         simp only [go_sem, simprocAttr, false_implies, and_true, true_and, bad, hv_7, hw15, hxn_857, hg_864, hg_865, hr_867, hr_869, hr_871, hr_873]
         first | refine hW21 _ _ _ _ ?_ hcont21 | refine ⟨by first | exact sd | ((repeat' apply And.intro) <;> first | assumption | omega | (simp only [List.length_append, List.length_map, List.length_cons, List.length_nil, List.length_set, List.length_replicate] at c_860 c_861 c_862 c_863 ⊢; omega)), hW21 _ _ _ _ ?_ hcont21⟩
         simp only [go_sem, simprocAttr, false_implies, and_true, true_and, bad, hv_7, hw15, hxn_857, hg_864, hg_865, hr_867, hr_869, hr_871, hr_873]
         try exact se3
        ·
         have hr_873 : (List.map ecI_i64 (o1_650.getD i_855 [])).getD k_813.toNat [] = [] := by rw [List.getD_eq_getElem?_getD, List.getElem?_eq_none (by simpa using hi_872)]; rfl
         simp only [go_sem, simprocAttr, false_implies, and_true, true_and, bad, hv_7, hw15, hxn_857, hg_864, hg_865, hr_867, hr_869, hr_871, hr_873]
         first | refine hW21 _ _ _ _ ?_ hcont21 | refine ⟨by first | exact sd | ((repeat' apply And.intro) <;> first | assumption | omega | (simp only [List.length_append, List.length_map, List.length_cons, List.length_nil, List.length_set, List.length_replicate] at c_860 c_861 c_862 c_863 ⊢; omega)), hW21 _ _ _ _ ?_ hcont21⟩
         simp only [go_sem, simprocAttr, false_implies, and_true, true_and, bad, hv_7, hw15, hxn_857, hg_864, hg_865, hr_867, hr_869, hr_871, hr_873]
         try exact se3
       ·
        have hr_871 : (List.map iN_encL_ecI_i64 o1_650).getD i_855 [] = [] := by rw [List.getD_eq_getElem?_getD, List.getElem?_eq_none (by simpa using hi_870)]; rfl
        simp only [go_sem, simprocAttr, false_implies, and_true, true_and, bad, hv_7, hw15, hxn_857, hg_864, hg_865, hr_867, hr_869, hr_871]
        first | refine hW21 _ _ _ _ ?_ hcont21 | refine ⟨by first | exact sd | ((repeat' apply And.intro) <;> first | assumption | omega | (simp only [List.length_append, List.length_map, List.length_cons, List.length_nil, List.length_set, List.length_replicate] at c_860 c_861 c_862 c_863 ⊢; omega)), hW21 _ _ _ _ ?_ hcont21⟩
        simp only [go_sem, simprocAttr, false_implies, and_true, true_and, bad, hv_7, hw15, hxn_857, hg_864, hg_865, hr_867, hr_869, hr_871]
        try exact se3
      ·
       have hr_869 : (List.map ecI_i64 (o1_650.getD ((IntKind.i64.wrap ((i_855 : Int) + 1)).toNat) [])).getD ((IntKind.i64.wrap ((IntKind.i64.wrap (k_813 + r_859)) + 1)).toNat) [] = [] := by rw [List.getD_eq_getElem?_getD, List.getElem?_eq_none (by simpa using hi_868)]; rfl
       rcases Nat.lt_or_ge i_855 o1_650.length with hi_874 | hi_874
       ·
        have hr_875 := getD_innB (l := o1_650) (f := iN_encL_ecI_i64) (d := []) (i := i_855) hi_874 []
        rcases Nat.lt_or_ge k_813.toNat (o1_650.getD i_855 []).length with hi_876 | hi_876
        ·
         have hr_877 := getD_encB (l := (o1_650.getD i_855 [])) (e := ecI_i64) (d := 0) (i := k_813.toNat) hi_876 []
         simp only [go_sem, simprocAttr, false_implies, and_true, true_and, bad, hv_7, hw15, hxn_857, hg_864, hg_865, hr_867, hr_869, hr_875, hr_877]
         first | refine hW21 _ _ _ _ ?_ hcont21 | refine ⟨by first | exact sd | ((repeat' apply And.intro) <;> first | assumption | omega | (simp only [List.length_append, List.length_map, List.length_cons, List.length_nil, List.length_set, List.length_replicate] at c_860 c_861 c_862 c_863 ⊢; omega)), hW21 _ _ _ _ ?_ hcont21⟩
         simp only [go_sem, simprocAttr, false_implies, and_true, true_and, bad, hv_7, hw15, hxn_857, hg_864, hg_865, hr_867, hr_869, hr_875, hr_877]
         try exact se3
        ·
         have hr_877 : (List.map ecI_i64 (o1_650.getD i_855 [])).getD k_813.toNat [] = [] := by rw [List.getD_eq_getElem?_getD, List.getElem?_eq_none (by simpa using hi_876)]; rfl
         simp only [go_sem, simprocAttr, false_implies, and_true, true_and, bad, hv_7, hw15, hxn_857, hg_864, hg_865, hr_867, hr_869, hr_875, hr_877]
         first | refine hW21 _ _ _ _ ?_ hcont21 | refine ⟨by first | exact sd | ((repeat' apply And.intro) <;> first | assumption | omega | (simp only [List.length_append, List.length_map, List.length_cons, List.length_nil, List.length_set, List.length_replicate] at c_860 c_861 c_862 c_863 ⊢; omega)), hW21 _ _ _ _ ?_ hcont21⟩
         simp only [go_sem, simprocAttr, false_implies, and_true, true_and, bad, hv_7, hw15, hxn_857, hg_864, hg_865, hr_867, hr_869, hr_875, hr_877]
         try exact se3
       ·
        have hr_875 : (List.map iN_encL_ecI_i64 o1_650).getD i_855 [] = [] := by rw [List.getD_eq_getElem?_getD, List.getElem?_eq_none (by simpa using hi_874)]; rfl
        simp only [go_sem, simprocAttr, false_implies, and_true, true_and, bad, hv_7, hw15, hxn_857, hg_864, hg_865, hr_867, hr_869, hr_875]
        first | refine hW21 _ _ _ _ ?_ hcont21 | refine ⟨by first | exact sd | ((repeat' apply And.intro) <;> first | assumption | omega | (simp only [List.length_append, List.length_map, List.length_cons, List.length_nil, List.length_set, List.length_replicate] at c_860 c_861 c_862 c_863 ⊢; omega)), hW21 _ _ _ _ ?_ hcont21⟩
        simp only [go_sem, simprocAttr, false_implies, and_true, true_and, bad, hv_7, hw15, hxn_857, hg_864, hg_865, hr_867, hr_869, hr_875]
        try exact se3
     ·
      have hr_867 : (List.map iN_encL_ecI_i64 o1_650).getD ((IntKind.i64.wrap ((i_855 : Int) + 1)).toNat) [] = [] := by rw [List.getD_eq_getElem?_getD, List.getElem?_eq_none (by simpa using hi_866)]; rfl
      rcases Nat.lt_or_ge i_855 o1_650.length with hi_878 | hi_878
      ·
       have hr_879 := getD_innB (l := o1_650) (f := iN_encL_ecI_i64) (d := []) (i := i_855) hi_878 []
       rcases Nat.lt_or_ge k_813.toNat (o1_650.getD i_855 []).length with hi_880 | hi_880
       ·
        have hr_881 := getD_encB (l := (o1_650.getD i_855 [])) (e := ecI_i64) (d := 0) (i := k_813.toNat) hi_880 []
        simp only [go_sem, simprocAttr, false_implies, and_true, true_and, bad, hv_7, hw15, hxn_857, hg_864, hg_865, hr_867, hr_879, hr_881]
        first | refine hW21 _ _ _ _ ?_ hcont21 | refine ⟨by first | exact sd | ((repeat' apply And.intro) <;> first | assumption | omega | (simp only [List.length_append, List.length_map, List.length_cons, List.length_nil, List.length_set, List.length_replicate] at c_860 c_861 c_862 c_863 ⊢; omega)), hW21 _ _ _ _ ?_ hcont21⟩
        simp only [go_sem, simprocAttr, false_implies, and_true, true_and, bad, hv_7, hw15, hxn_857, hg_864, hg_865, hr_867, hr_879, hr_881]
        try exact se3
       ·
        have hr_881 : (List.map ecI_i64 (o1_650.getD i_855 [])).getD k_813.toNat [] = [] := by rw [List.getD_eq_getElem?_getD, List.getElem?_eq_none (by simpa using hi_880)]; rfl
        simp only [go_sem, simprocAttr, false_implies, and_true, true_and, bad, hv_7, hw15, hxn_857, hg_864, hg_865, hr_867, hr_879, hr_881]
        first | refine hW21 _ _ _ _ ?_ hcont21 | refine ⟨by first | exact sd | ((repeat' apply And.intro) <;> first | assumption | omega | (simp only [List.length_append, List.length_map, List.length_cons, List.length_nil, List.length_set, List.length_replicate] at c_860 c_861 c_862 c_863 ⊢; omega)), hW21 _ _ _ _ ?_ hcont21⟩
        simp only [go_sem, simprocAttr, false_implies, and_true, true_and, bad, hv_7, hw15, hxn_857, hg_864, hg_865, hr_867, hr_879, hr_881]
        try exact se3
      ·
       have hr_879 : (List.map iN_encL_ecI_i64 o1_650).getD i_855 [] = [] := by rw [List.getD_eq_getElem?_getD, List.getElem?_eq_none (by simpa using hi_878)]; rfl
       simp only [go_sem, simprocAttr, false_implies, and_true, true_and, bad, hv_7, hw15, hxn_857, hg_864, hg_865, hr_867, hr_879]
       first | refine hW21 _ _ _ _ ?_ hcont21 | refine ⟨by first | exact sd | ((repeat' apply And.intro) <;> first | assumption | omega | (simp only [List.length_append, List.length_map, List.length_cons, List.length_nil, List.length_set, List.length_replicate] at c_860 c_861 c_862 c_863 ⊢; omega)), hW21 _ _ _ _ ?_ hcont21⟩
       simp only [go_sem, simprocAttr, false_implies, and_true, true_and, bad, hv_7, hw15, hxn_857, hg_864, hg_865, hr_867, hr_879]
       try exact se3
    ·
     have hg_882 : (!(decide (r_859 < 0))) = true := by revert hg_864; generalize decide (r_859 < 0) = x0; revert x0; decide
     have c_883 := c_860 hg_882
     try dsimp only at c_883
     have c_884 := c_861 hg_882
     try dsimp only at c_884
     have c_885 := c_862 hg_882
     try dsimp only at c_885
     have c_886 := c_863 hg_882
     try dsimp only at c_886
     have hr_887 := getD_encB (l := o1_650) (e := eN_encL_ecI_i64) (d := []) (i := (IntKind.i64.wrap ((i_855 : Int) + 1)).toNat) (by omega) []
     try simp only [hw15, Int.toNat_natCast] at hr_887
     have hr_888 := getD_innB (l := o1_650) (f := iN_encL_ecI_i64) (d := []) (i := (IntKind.i64.wrap ((i_855 : Int) + 1)).toNat) (by omega) []
     try simp only [hw15, Int.toNat_natCast] at hr_888
     have hr_889 := getD_encB (l := (o1_650.getD ((IntKind.i64.wrap ((i_855 : Int) + 1)).toNat) [])) (e := ecI_i64) (d := 0) (i := (IntKind.i64.wrap ((IntKind.i64.wrap (k_813 + r_859)) + 1)).toNat) (by omega) []
     try simp only [hw15, Int.toNat_natCast] at hr_889
     have hr_890 := fun h => getD_encB (l := o1_650) (e := eN_encL_ecI_i64) (d := []) (i := i_855) h []
     have hr_891 := fun h => getD_innB (l := o1_650) (f := iN_encL_ecI_i64) (d := []) (i := i_855) h []
     have hr_892 := fun h => getD_encB (l := (o1_650.getD i_855 [])) (e := ecI_i64) (d := 0) (i := k_813.toNat) h []
     simp only [go_sem, simprocAttr, false_implies, and_true, true_and, bad, hv_7, hw15, hxn_857, hg_864, hg_882, hr_887, hr_888, hr_889, hr_890 (by omega), hr_891 (by omega), hr_892 (by omega)]
     first | refine hW21 _ _ _ _ ?_ hcont21 | refine ⟨by first | exact sd | ((repeat' apply And.intro) <;> first | assumption | omega | (simp only [List.length_append, List.length_map, List.length_cons, List.length_nil, List.length_set, List.length_replicate] at c_860 c_861 c_862 c_863 c_883 c_884 c_885 c_886 ⊢; omega)), hW21 _ _ _ _ ?_ hcont21⟩
     simp only [go_sem, simprocAttr, false_implies, and_true, true_and, bad, hv_7, hw15, hxn_857, hg_864, hg_882, hr_887, hr_888, hr_889, hr_890 (by omega), hr_891 (by omega), hr_892 (by omega)]
     try exact se3
   refine hK21 _ _ ?_
   refine cM hm (fun hc22 hm => ?_) (fun hc22 hm => ?_)
   ·refine Wp.exit ?_
    refine hK17 _ _ ?_
    refine Wp.region fun K23 hK23 => ?_
    simp only [go_sem, simprocAttr, hv_7, hw15, hxn_857]
    first | apply hK23 | refine ⟨sd, hK23 _ _ ?_⟩
    simp only [thenQ, blockQ, ↓reduceIte]
    refine ⟨(k_813, o3_815), hlt15, hnx_854 _ hm, ?_⟩
    simp only [go_sem, simprocAttr, hv_7, hw15, hxn_857]
    try exact se3
   ·refine Wp.skip ?_
    refine hK20 _ _ ?_
    obtain ⟨c_893, hm⟩ := chk_elim hm
    refine Wp.seqR fun K24 hK24 => ?_
    simp only [go_sem, simprocAttr, hv_7, hw15, hxn_857]
    first | apply hK24 | refine ⟨by first | exact sd | ((repeat' apply And.intro) <;> first | assumption | omega | (simp only [List.length_append, List.length_map, List.length_cons, List.length_nil, List.length_set, List.length_replicate] at c_893 ⊢; omega)), hK24 _ _ ?_⟩
    refine Wp.region fun K25 hK25 => ?_
    simp only [go_sem, simprocAttr, hv_7, hw15, hxn_857]
    first | apply hK25 | refine ⟨sd, hK25 _ _ ?_⟩
    refine hK17 _ _ ?_
    refine Wp.region fun K26 hK26 => ?_
    simp only [go_sem, simprocAttr, hv_7, hw15, hxn_857]
    first | apply hK26 | refine ⟨sd, hK26 _ _ ?_⟩
    simp only [thenQ, blockQ, ↓reduceIte]
    refine ⟨(IntKind.i64.wrap (k_813 + (IntKind.i64.wrap (r_859 + 1))), o3_815 ++ [(Arr2_Int.mk (i_855 : Int) (IntKind.i64.wrap (k_813 + r_859)))]), hlt15, hnx_854 _ hm, ?_⟩
    simp only [go_sem, simprocAttr, hv_7, hw15, hxn_857]
    try exact se3
  clear hK9 hk_651
  refine Wp.seqR fun K27 hK27 => ?_
  simp only [go_sem, simprocAttr, hv_7]
  first | apply hK27 | refine ⟨sd, hK27 _ _ ?_⟩
  refine Wp.block ?_
  obtain ⟨k_1305, hk_1305, hm⟩ := loopN_cont hm
  refine Wp.loopN (fun s => [(6, .p (.l (List.map ecI_i64 r_3.1))), (7, .p (.l (List.map ecI_i64 r_4.1))), (8, .buf 1), (10, .p (.i .i64 s.1))]) (fun s => [.mp false (encM Dt.s ecI_i64 r_4.2), .nst false 57 1 0 2 (List.map eN_encL_ecI_i64 s.2) none, .inn 3 1 (List.map iN_encL_ecI_i64 s.2)]) ?_ hm ?_
  ·
   simp only [go_sem, simprocAttr, hv_7]
   try exact se3
  clear hm
  intro s nx_1306 hm
  obtain ⟨i_1099, o1_1100⟩ := s
  try dsimp only at hm
  try dsimp only
  refine Wp.seqW fun K28 hK28 hW28 => ?_
  refine Wp.seqR fun K29 hK29 => ?_
  simp only [go_sem, simprocAttr, hv_7]
  first | apply hK29 | refine ⟨sd, hK29 _ _ ?_⟩
  refine cM hm (fun hc30 hm => ?_) (fun hc30 hm => ?_)
  ·refine Wp.skip ?_
   refine hK28 _ _ ?_
   refine Wp.seqW fun K31 hK31 hW31 => ?_
   obtain ⟨k_1409, hk_1409, hm⟩ := jp_elim hm
   have hcut31 : ∀ s, k_1409 s = some z → K31 [(6, .p (.l (List.map ecI_i64 r_3.1))), (7, .p (.l (List.map ecI_i64 r_4.1))), (8, .buf 1), (10, .p (.i .i64 i_1099))] [.mp false (encM Dt.s ecI_i64 r_4.2), .nst false 57 1 0 2 (List.map eN_encL_ecI_i64 s) none, .inn 3 1 (List.map iN_encL_ecI_i64 s)] := by
    intro o1_1408 hs
    have hm := hk_1409 _ hs
    clear hs
    try dsimp only at hm
    try dsimp only
    refine hK31 _ _ ?_
    refine Wp.region fun K32 hK32 => ?_
    simp only [go_sem, simprocAttr, hv_7]
    first | apply hK32 | refine ⟨sd, hK32 _ _ ?_⟩
    simp only [thenQ, blockQ, ↓reduceIte]
    refine ⟨(IntKind.i64.wrap (i_1099 - 1), o1_1408), hm, ?_⟩
    simp only [go_sem, simprocAttr, hv_7]
    try exact se3
   clear hK31 hk_1409
   refine Wp.block ?_
   refine Wp.seqR fun K33 hK33 => ?_
   simp only [go_sem, simprocAttr, hv_7]
   first | apply hK33 | refine ⟨sd, hK33 _ _ ?_⟩
   refine Wp.block ?_
   obtain ⟨k_1477, hk_1477, hm⟩ := loopN_cont hm
   refine Wp.loopN (fun s => [(6, .p (.l (List.map ecI_i64 r_3.1))), (7, .p (.l (List.map ecI_i64 r_4.1))), (8, .buf 1), (10, .p (.i .i64 i_1099)), (11, .p (.i .i64 s.1))]) (fun s => [.mp false (encM Dt.s ecI_i64 r_4.2), .nst false 57 1 0 2 (List.map eN_encL_ecI_i64 s.2) none, .inn 3 1 (List.map iN_encL_ecI_i64 s.2)]) ?_ hm ?_
   ·
    simp only [go_sem, simprocAttr, hv_7]
    try exact se3
   clear hm
   intro s nx_1478 hm
   obtain ⟨k_1443, o1_1444⟩ := s
   try dsimp only at hm
   try dsimp only
   refine Wp.seqW fun K34 hK34 hW34 => ?_
   refine Wp.seqR fun K35 hK35 => ?_
   simp only [go_sem, simprocAttr, hv_7]
   first | apply hK35 | refine ⟨sd, hK35 _ _ ?_⟩
   refine cM hm (fun hc36 hm => ?_) (fun hc36 hm => ?_)
   ·refine Wp.skip ?_
    refine hK34 _ _ ?_
    refine Wp.seqW fun K37 hK37 hW37 => ?_
    refine Wp.block ?_
    obtain ⟨c_1479, hm⟩ := chk_elim hm
    obtain ⟨c_1480, hm⟩ := chk_elim hm
    obtain ⟨c_1481, hm⟩ := chk_elim hm
    obtain ⟨c_1482, hm⟩ := chk_elim hm
    obtain ⟨c_1483, hm⟩ := chk_elim hm
    obtain ⟨c_1484, hm⟩ := chk_elim hm
    have hs_1485 := map_set_same (f := eN_encL_ecI_i64) (l := o1_1444) (d := []) (i := i_1099.toNat) (x := List.set (o1_1444.getD i_1099.toNat []) k_1443.toNat (max ((o1_1444.getD ((IntKind.i64.wrap (i_1099 + 1)).toNat) []).getD k_1443.toNat 0) ((o1_1444.getD i_1099.toNat []).getD ((IntKind.i64.wrap (k_1443 + 1)).toNat) 0))) (by first | omega | (simp only [List.length_set, List.length_append, List.length_cons, List.length_nil] at *; omega)) rfl
    obtain ⟨v_1486, hv_1487, hm⟩ := letv_elim hm
    refine Wp.seqDW (plan := pl [(0, none), (1, none), (2, none), (3, none), (4, none), (5, none), (6, none), (7, none), (8, none), (9, none), (10, none), (11, none), (12, none), (13, none), (14, none), (15, none), (16, none), (17, none), (18, none), (19, none), (20, none), (21, none), (22, none), (23, some [])]) (by kernel_rfl) rfl (by kernel_rfl) fun K38 hK38 hW38 => ?_
    suffices hcont38 : K38 [(6, .p (.l (List.map ecI_i64 r_3.1))), (7, .p (.l (List.map ecI_i64 r_4.1))), (8, .buf 1), (10, .p (.i .i64 i_1099)), (11, .p (.i .i64 k_1443)), (50, .p (.i .i64 k_1443)), (51, .p (.b (decide (0 ≤ k_1443))))] [.mp false (encM Dt.s ecI_i64 r_4.2), .nst false 57 1 0 2 (List.map eN_encL_ecI_i64 v_1486) none, .inn 3 1 (List.map iN_encL_ecI_i64 v_1486)] by
     have hr_1488 := fun h => getD_encB (l := o1_1444) (e := eN_encL_ecI_i64) (d := []) (i := i_1099.toNat) h []
     have hr_1489 := fun h => getD_encB (l := o1_1444) (e := eN_encL_ecI_i64) (d := []) (i := (IntKind.i64.wrap (i_1099 + 1)).toNat) h []
     have hr_1490 := fun h => getD_innB (l := o1_1444) (f := iN_encL_ecI_i64) (d := []) (i := (IntKind.i64.wrap (i_1099 + 1)).toNat) h []
     have hr_1491 := fun h => getD_encB (l := (o1_1444.getD ((IntKind.i64.wrap (i_1099 + 1)).toNat) [])) (e := ecI_i64) (d := 0) (i := k_1443.toNat) h []
     have hr_1492 := fun h => getD_innB (l := o1_1444) (f := iN_encL_ecI_i64) (d := []) (i := i_1099.toNat) h []
     have hr_1493 := fun h => getD_encB (l := (o1_1444.getD i_1099.toNat [])) (e := ecI_i64) (d := 0) (i := (IntKind.i64.wrap (k_1443 + 1)).toNat) h []
     subst hv_1487
     simp only [go_sem, simprocAttr, false_implies, and_true, true_and, bad, hv_7, hs_1485, hr_1488 (by omega), hr_1489 (by omega), hr_1490 (by omega), hr_1491 (by omega), hr_1492 (by omega), hr_1493 (by omega)]
     first | refine hW38 _ _ _ _ ?_ hcont38 | refine ⟨by first | exact sd | ((repeat' apply And.intro) <;> first | assumption | omega | (simp only [List.length_append, List.length_map, List.length_cons, List.length_nil, List.length_set, List.length_replicate] at c_1479 c_1480 c_1481 c_1482 c_1483 c_1484 ⊢; omega)), hW38 _ _ _ _ ?_ hcont38⟩
     simp only [go_sem, simprocAttr, false_implies, and_true, true_and, bad, hv_7, hs_1485, hr_1488 (by omega), hr_1489 (by omega), hr_1490 (by omega), hr_1491 (by omega), hr_1492 (by omega), hr_1493 (by omega)]
     try exact se3
    refine hK38 _ _ ?_
    obtain ⟨n_1494, hbn_1494, hxn_1494, hyn_1494, hm⟩ := idx_elim hm
    replace hxn_1494 : ∀ d, (List.map ecI_i64 r_3.1).getD i_1099.toNat d = ecI_i64 n_1494 := hxn_1494 ecI_i64
    obtain ⟨n_1495, hbn_1495, hxn_1495, hyn_1495, hm⟩ := idx_elim hm
    replace hxn_1495 : ∀ d, (List.map ecI_i64 r_4.1).getD k_1443.toNat d = ecI_i64 n_1495 := hxn_1495 ecI_i64
    refine Wp.seqD (plan := pl [(0, none), (1, none), (2, none), (3, none), (4, none), (5, none), (6, none), (7, none), (8, none)]) (by kernel_rfl) rfl (by kernel_rfl) fun K39 hK39 => ?_
    simp only [go_sem, simprocAttr, hv_7, hs_1485, hv_1487, hxn_1494, hxn_1495]
    first | apply hK39 | refine ⟨sd, hK39 _ _ ?_⟩
    refine cM hm (fun hc40 hm => ?_) (fun hc40 hm => ?_)
    ·obtain ⟨c_1496, hm⟩ := chk_elim hm
     obtain ⟨c_1497, hm⟩ := chk_elim hm
     obtain ⟨c_1498, hm⟩ := chk_elim hm
     obtain ⟨c_1499, hm⟩ := chk_elim hm
     obtain ⟨c_1500, hm⟩ := chk_elim hm
     obtain ⟨c_1501, hm⟩ := chk_elim hm
     have hs_1502 := map_set_same (f := eN_encL_ecI_i64) (l := v_1486) (d := []) (i := i_1099.toNat) (x := List.set (v_1486.getD i_1099.toNat []) k_1443.toNat (max ((v_1486.getD i_1099.toNat []).getD k_1443.toNat 0) (IntKind.i64.wrap (1 + ((v_1486.getD ((IntKind.i64.wrap (i_1099 + 1)).toNat) []).getD ((IntKind.i64.wrap (k_1443 + 1)).toNat) 0))))) (by first | omega | (simp only [List.length_set, List.length_append, List.length_cons, List.length_nil] at *; omega)) rfl
     obtain ⟨v_1503, hv_1504, hm⟩ := letv_elim hm
     refine Wp.regDW (plan := pl [(0, none), (1, none), (2, none), (3, none), (4, none), (5, none), (6, none), (7, none), (8, none), (9, none), (10, none), (11, none), (12, none), (13, none), (14, none), (15, none), (16, none), (17, none), (18, none), (19, none), (20, none), (21, none), (22, none), (23, none), (24, some [])]) (by kernel_rfl) rfl (by kernel_rfl) fun K41 hK41 hW41 => ?_
     suffices hcont41 : K41 [(6, .p (.l (List.map ecI_i64 r_3.1))), (7, .p (.l (List.map ecI_i64 r_4.1))), (8, .buf 1), (10, .p (.i .i64 i_1099)), (11, .p (.i .i64 k_1443)), (50, .p (.i .i64 k_1443)), (51, .p (.b (decide (0 ≤ k_1443)))), (77, .p (.l (List.map ecI_i64 r_3.1))), (78, .p (.i .i64 i_1099)), (79, .rp [.i .i64 n_1494]), (80, .p (.i .i64 n_1494)), (81, .p (.l (List.map ecI_i64 r_4.1))), (82, .p (.i .i64 k_1443)), (83, .rp [.i .i64 n_1495]), (84, .p (.i .i64 n_1495)), (85, .p (.b (decide (n_1494 = n_1495))))] [.mp false (encM Dt.s ecI_i64 r_4.2), .nst false 57 1 0 2 (List.map eN_encL_ecI_i64 v_1503) none, .inn 3 1 (List.map iN_encL_ecI_i64 v_1503)] by
      have hr_1505 := fun h => getD_encB (l := v_1486) (e := eN_encL_ecI_i64) (d := []) (i := i_1099.toNat) h []
      have hr_1506 := fun h => getD_innB (l := v_1486) (f := iN_encL_ecI_i64) (d := []) (i := i_1099.toNat) h []
      have hr_1507 := fun h => getD_encB (l := (v_1486.getD i_1099.toNat [])) (e := ecI_i64) (d := 0) (i := k_1443.toNat) h []
      have hr_1508 := fun h => getD_encB (l := v_1486) (e := eN_encL_ecI_i64) (d := []) (i := (IntKind.i64.wrap (i_1099 + 1)).toNat) h []
      have hr_1509 := fun h => getD_innB (l := v_1486) (f := iN_encL_ecI_i64) (d := []) (i := (IntKind.i64.wrap (i_1099 + 1)).toNat) h []
      have hr_1510 := fun h => getD_encB (l := (v_1486.getD ((IntKind.i64.wrap (i_1099 + 1)).toNat) [])) (e := ecI_i64) (d := 0) (i := (IntKind.i64.wrap (k_1443 + 1)).toNat) h []
      subst hv_1504
      simp only [go_sem, simprocAttr, false_implies, and_true, true_and, bad, hv_7, hs_1485, hv_1487, hxn_1494, hxn_1495, hs_1502, hr_1505 (by omega), hr_1506 (by omega), hr_1507 (by omega), hr_1508 (by omega), hr_1509 (by omega), hr_1510 (by omega)]
      first | refine hW41 _ _ _ _ ?_ hcont41 | refine ⟨by first | exact sd | ((repeat' apply And.intro) <;> first | assumption | omega | (simp only [List.length_append, List.length_map, List.length_cons, List.length_nil, List.length_set, List.length_replicate] at c_1496 c_1497 c_1498 c_1499 c_1500 c_1501 ⊢; omega)), hW41 _ _ _ _ ?_ hcont41⟩
      simp only [go_sem, simprocAttr, false_implies, and_true, true_and, bad, hv_7, hs_1485, hv_1487, hxn_1494, hxn_1495, hs_1502, hr_1505 (by omega), hr_1506 (by omega), hr_1507 (by omega), hr_1508 (by omega), hr_1509 (by omega), hr_1510 (by omega)]
      try exact se3
     refine hK41 _ _ ?_
     refine hK37 _ _ ?_
     refine Wp.region fun K42 hK42 => ?_
     simp only [go_sem, simprocAttr, hv_7, hs_1485, hv_1487, hxn_1494, hxn_1495, hs_1502, hv_1504]
     first | apply hK42 | refine ⟨sd, hK42 _ _ ?_⟩
     simp only [thenQ, blockQ, ↓reduceIte]
     refine ⟨(IntKind.i64.wrap (k_1443 - 1), v_1503), hm, ?_⟩
     simp only [go_sem, simprocAttr, hv_7, hs_1485, hv_1487, hxn_1494, hxn_1495, hs_1502, hv_1504]
     try exact se3
    ·refine Wp.skip ?_
     refine hK37 _ _ ?_
     refine Wp.region fun K43 hK43 => ?_
     simp only [go_sem, simprocAttr, hv_7, hs_1485, hv_1487, hxn_1494, hxn_1495]
     first | apply hK43 | refine ⟨sd, hK43 _ _ ?_⟩
     simp only [thenQ, blockQ, ↓reduceIte]
     refine ⟨(IntKind.i64.wrap (k_1443 - 1), v_1486), hm, ?_⟩
     simp only [go_sem, simprocAttr, hv_7, hs_1485, hv_1487, hxn_1494, hxn_1495]
     try exact se3
   ·refine Wp.exit ?_
    simp only [thenQ, blockQ, ↓reduceIte]
    have hm := hk_1477 _ hm
    try dsimp only at hm
    refine hW31 _ _ _ _ ?_ (hcut31 o1_1444 hm)
    simp only [go_sem, simprocAttr, hv_7]
    try exact se3
  ·refine Wp.exit ?_
   simp only [thenQ, blockQ, ↓reduceIte]
   have hm := hk_1305 _ hm
   try dsimp only at hm
   refine hW9 _ _ _ _ ?_ (hcut9 o1_1100 hm)
   simp only [go_sem, simprocAttr, hv_7]
   try exact se3
 clear hK8 hk_32
 refine Wp.seqR fun K44 hK44 => ?_
 simp only [go_sem, simprocAttr, hv_7]
 first | apply hK44 | refine ⟨sd, hK44 _ _ ?_⟩
 refine Wp.block ?_
 obtain ⟨k_1526, hk_1526, hm⟩ := loopN_cont hm
 refine Wp.loopN (fun s => [(6, .p (.l (List.map ecI_i64 r_3.1))), (7, .p (.l (List.map ecI_i64 r_4.1))), (8, .buf 1), (28, .p (.i .i64 (v_6.length : Int))), (29, .p (.i .i64 s.1))]) (fun s => [.mp false (encM Dt.s ecI_i64 r_4.2), .nst false 57 1 0 2 (List.map eN_encL_ecI_i64 s.2) none, .inn 3 1 (List.map iN_encL_ecI_i64 s.2)]) ?_ hm ?_
 ·
  simp only [go_sem, simprocAttr, hv_7]
  try exact se3
 clear hm
 intro s nx_1527 hm
 obtain ⟨t29_1518, o1_1519⟩ := s
 try dsimp only at hm
 try dsimp only
 refine Wp.seqR fun K45 hK45 => ?_
 simp only [go_sem, simprocAttr, hv_7]
 first | apply hK45 | refine ⟨sd, hK45 _ _ ?_⟩
 refine Wp.seqW fun K46 hK46 hW46 => ?_
 refine cM hm (fun hc47 hm => ?_) (fun hc47 hm => ?_)
 ·refine Wp.skip ?_
  refine hK46 _ _ ?_
  refine Wp.seqW fun K48 hK48 hW48 => ?_
  refine Wp.block ?_
  refine Wp.seqR fun K49 hK49 => ?_
  simp only [go_sem, simprocAttr, hv_7]
  first | apply hK49 | refine ⟨sd, hK49 _ _ ?_⟩
  obtain ⟨c_1528, hm⟩ := chk_elim hm
  obtain ⟨c_1529, hm⟩ := chk_elim hm
  have hs_1530 := map_set_same (f := eN_encL_ecI_i64) (l := o1_1519) (d := []) (i := t29_1518.toNat) (x := List.replicate ((IntKind.i64.wrap ((r_4.1.length : Int) + 1)).toNat) 0) (by first | omega | (simp only [List.length_set, List.length_append, List.length_cons, List.length_nil] at *; omega)) rfl
  obtain ⟨v_1531, hv_1532, hm⟩ := letv_elim hm
  refine Wp.regRW fun K50 hK50 hW50 => ?_
  suffices hcont50 : K50 [(6, .p (.l (List.map ecI_i64 r_3.1))), (7, .p (.l (List.map ecI_i64 r_4.1))), (8, .buf 1), (9, .p (.i .i64 t29_1518)), (28, .p (.i .i64 (v_6.length : Int))), (29, .p (.i .i64 t29_1518)), (30, .p (.b (decide (t29_1518 < (v_6.length : Int))))), (31, .p (.i .i64 t29_1518))] [.mp false (encM Dt.s ecI_i64 r_4.2), .nst false 57 1 0 2 (List.map eN_encL_ecI_i64 v_1531) none, .inn 3 1 (List.map iN_encL_ecI_i64 v_1531), .gone] by
   have hr_1533 := fun h => getD_innB (l := o1_1519) (f := iN_encL_ecI_i64) (d := []) (i := t29_1518.toNat) h []
   subst hv_1532
   simp only [go_sem, simprocAttr, false_implies, and_true, true_and, bad, hv_7, hs_1530, hr_1533 (by omega)]
   first | refine hW50 _ _ _ _ ?_ hcont50 | refine ⟨by first | exact sd | ((repeat' apply And.intro) <;> first | assumption | omega | (simp only [List.length_append, List.length_map, List.length_cons, List.length_nil, List.length_set, List.length_replicate] at c_1528 c_1529 ⊢; omega)), hW50 _ _ _ _ ?_ hcont50⟩
   simp only [go_sem, simprocAttr, false_implies, and_true, true_and, bad, hv_7, hs_1530, hr_1533 (by omega)]
   try exact se3
  refine hK50 _ _ ?_
  refine hK48 _ _ ?_
  refine Wp.region fun K51 hK51 => ?_
  simp only [go_sem, simprocAttr, hv_7, hs_1530, hv_1532]
  first | apply hK51 | refine ⟨sd, hK51 _ _ ?_⟩
  simp only [thenQ, blockQ, ↓reduceIte]
  refine ⟨(IntKind.i64.wrap (t29_1518 + 1), v_1531), hm, ?_⟩
  simp only [go_sem, simprocAttr, hv_7, hs_1530, hv_1532]
  try exact se3
 ·refine Wp.exit ?_
  simp only [thenQ, blockQ, ↓reduceIte]
  have hm := hk_1526 _ hm
  try dsimp only at hm
  refine hW8 _ _ _ _ ?_ (hcut8 o1_1519 hm)
  simp only [go_sem, simprocAttr, hv_7]
  try exact se3
theorem ok_delta_Lines (a_1 : Str) (b_2 : Str) (z : List Arr2_Int × Int) (hm : delta_Lines a_1 b_2 = some z) : Does Tryd.prog 11 [.p (.s a_1), .p (.s b_2)] [] (fun r X => r = .tup [.p (.l (List.map enc_Arr2_Int z.1)), .p (.i .i64 z.2)] ∧ X = []) := by
 unfold delta_Lines at hm
 refine Does.of_wp 0 29 [.tmp 4, .tmp 5] Tryd.func11 rfl (by decide) rfl rfl (Nat.le_of_ble_eq_true rfl) fun B => ?_
 refine qS ?_
 obtain ⟨r_3, hr_3, hm⟩ := call_elim hm
 obtain ⟨r_4, hr_4, hm⟩ := call_elim hm
 refine Wp.seqR fun K2 hK2 => ?_
 simp only [go_sem, simprocAttr]
 try refine ⟨sd, ?_⟩
 refine Rg.callF (av := ?av3) (ok_delta_linesOf a_1 _ hr_3) si si sg ?cont3
 intro hv3
 simp only [go_sem, simprocAttr]
 try refine ⟨sd, ?_⟩
 refine Rg.callF (av := ?av4) (ok_delta_linesOf b_2 _ hr_4) si si sg ?cont4
 intro hv4
 simp only [go_sem, simprocAttr]
 first | apply hK2 | refine ⟨sd, hK2 _ _ ?_⟩
 refine Wp.seqW fun K5 hK5 hW5 => ?_
 obtain ⟨r_5, hr_5, hm⟩ := call_elim hm
 refine Wp.seqR fun K6 hK6 => ?_
 simp only [go_sem, simprocAttr]
 try refine ⟨sd, ?_⟩
 refine Rg.callX (av := ?av7) (g := true) (fun hg => ok_delta_linesFault a_1 r_3 _ hr_5) si si si sg si ?cont7
 intro hv7
 simp only [go_sem, simprocAttr]
 first | apply hK6 | refine ⟨sd, hK6 _ _ ?_⟩
 refine qS ?_
 refine cM hm (fun hc9 hm => ?_) (fun hc9 hm => ?_)
 ·refine qS ?_
  refine Wp.ret ?_
  simp only [thenQ, blockQ]
  refine retQ_retE ?_
  cases hm
  exact fse3
 ·refine Wp.skip ?_
  refine hK5 _ _ ?_
  refine Wp.seqW fun K11 hK11 hW11 => ?_
  obtain ⟨r_6, hr_6, hm⟩ := call_elim hm
  refine Wp.seqR fun K12 hK12 => ?_
  simp only [go_sem, simprocAttr]
  try refine ⟨sd, ?_⟩
  refine Rg.callX (av := ?av13) (g := true) (fun hg => ok_delta_linesFault b_2 r_4 _ hr_6) si si si sg si ?cont13
  intro hv13
  simp only [go_sem, simprocAttr]
  first | apply hK12 | refine ⟨sd, hK12 _ _ ?_⟩
  refine qS ?_
  refine cM hm (fun hc15 hm => ?_) (fun hc15 hm => ?_)
  ·refine qS ?_
   refine Wp.ret ?_
   simp only [thenQ, blockQ]
   refine retQ_retE ?_
   cases hm
   exact fse3
  ·refine Wp.skip ?_
   refine hK11 _ _ ?_
   obtain ⟨r_7, hr_7, hm⟩ := call_elim hm
   refine Wp.seqR fun K17 hK17 => ?_
   simp only [go_sem, simprocAttr]
   try refine ⟨sd, ?_⟩
   refine Rg.callF (av := ?av18) (ok_delta_common r_3 r_4 _ hr_7) si si sg ?cont18
   intro hv18
   simp only [go_sem, simprocAttr]
   first | apply hK17 | refine ⟨sd, hK17 _ _ ?_⟩
   refine Wp.ret ?_
   refine retQ_ret ?_
   cases hm
   exact fse3
theorem ok_delta_places (pairs_1 : List Arr2_Int) (many_2 : Int) (z : List Int) (hm : delta_places pairs_1 many_2 = some z) : Does Tryd.prog 46 [.p (.l (List.map enc_Arr2_Int pairs_1)), .p (.i .i64 many_2)] [] (fun r X => r = .p (.l (List.map ecI_i64 z)) ∧ X = []) := by
 unfold delta_places at hm
 refine Does.of_wp 0 34 [.tmp 4] Tryd.func46 rfl (by decide) rfl rfl (Nat.le_of_ble_eq_true rfl) fun B => ?_
 refine qS ?_
 obtain ⟨c_3, hm⟩ := chk_elim hm
 refine Wp.seqR fun K2 hK2 => ?_
 simp only [go_sem, simprocAttr]
 first | apply hK2 | refine ⟨by first | exact sd | ((repeat' apply And.intro) <;> first | assumption | omega | (simp only [List.length_append, List.length_map, List.length_cons, List.length_nil, List.length_set, List.length_replicate] at c_3 ⊢; omega)), hK2 _ _ ?_⟩
 refine Wp.seqW fun K3 hK3 hW3 => ?_
 obtain ⟨k_13, hk_13, hm⟩ := jp_elim hm
 have hcut3 : ∀ s, k_13 s = some z → K3 [(0, .p (.l (List.map enc_Arr2_Int pairs_1))), (5, .buf 0)] [.buf 3 1 (List.map ecI_i64 s)] := by
  intro o0_12 hs
  have hm := hk_13 _ hs
  clear hs
  try dsimp only at hm
  try dsimp only
  refine hK3 _ _ ?_
  refine Wp.seqW fun K4 hK4 hW4 => ?_
  obtain ⟨k_28, hk_28, hm⟩ := jp_elim hm
  have hcut4 : ∀ s, k_28 s = some z → K4 [(5, .buf 0)] [.buf 3 1 (List.map ecI_i64 s)] := by
   intro o0_27 hs
   have hm := hk_28 _ hs
   clear hs
   try dsimp only at hm
   try dsimp only
   refine hK4 _ _ ?_
   refine qS ?_
   refine Wp.ret ?_
   refine retQ_ret ?_
   cases hm
   exact fse3
  clear hK4 hk_28
  refine qS ?_
  refine Wp.block ?_
  obtain ⟨k_36, hk_36, hm⟩ := forL_cont hm
  refine Wp.fact 20 fun hl_39 => ?_
  replace hl_39 : pairs_1.length ≤ 274877906944 := by
   simp only [go_sem, simprocAttr, List.length_map] at hl_39
   omega
  refine Wp.forL (fun i_38 s => [(5, .buf 0), (20, .p (.l (List.map enc_Arr2_Int pairs_1))), (21, .p (.i .i64 (pairs_1.length : Int))), (22, .p (.i .i64 (i_38 : Int)))]) (fun i_38 s => [.buf 3 1 (List.map ecI_i64 s)]) ?_ hm ?_
  ·
   exact fse3
  clear hm
  intro i_38 o0_33 hii_38 hm
  try dsimp only at hm
  try dsimp only
  refine qS ?_
  refine Wp.seqW fun K8 hK8 hW8 => ?_
  refine Wp.cond rfl ⟨⟩ (fun hc8 => ?_) (fun hc8 => ?_)
  rotate_left
  ·refine Wp.exit ?_
   have hm := hk_36 _ (forL_end hm (ge_nat (by first | exact hc8 | simpa using hc8)))
   try dsimp only at hm
   refine hW4 _ _ _ _ ?_ (hcut4 o0_33 hm)
   exact fse3
  have hlt8 := lt_nat (by first | exact hc8 | simpa using hc8)
  have hw8 := wrap_succ hlt8 hl_39
  obtain ⟨x_40, nx_37, hxx_40, hyx_40, hnx_37, hm⟩ := forL_step hm hlt8
  replace hxx_40 := hxx_40 enc_Arr2_Int
  refine Wp.skip ?_
  simp only [thenQ]
  refine hK8 _ _ ?_
  refine Wp.seqW fun K9 hK9 hW9 => ?_
  refine Wp.block ?_
  refine Wp.seqR fun K10 hK10 => ?_
  simp only [go_sem, simprocAttr, hw8, hxx_40]
  first | apply hK10 | refine ⟨sd, hK10 _ _ ?_⟩
  obtain ⟨c_41, hm⟩ := chk_elim hm
  refine Wp.region fun K11 hK11 => ?_
  simp only [go_sem, simprocAttr, hw8, hxx_40]
  first | apply hK11 | refine ⟨by first | exact sd | ((repeat' apply And.intro) <;> first | assumption | omega | (simp only [List.length_append, List.length_map, List.length_cons, List.length_nil, List.length_set, List.length_replicate] at c_41 ⊢; omega)), hK11 _ _ ?_⟩
  refine hK9 _ _ ?_
  refine Wp.region fun K12 hK12 => ?_
  simp only [go_sem, simprocAttr, hw8, hxx_40]
  first | apply hK12 | refine ⟨sd, hK12 _ _ ?_⟩
  simp only [thenQ, blockQ, ↓reduceIte]
  refine ⟨List.set o0_33 x_40.a0.toNat x_40.a1, hlt8, hnx_37 _ hm, ?_⟩
  simp only [go_sem, simprocAttr, hw8, hxx_40]
  try exact se3
 clear hK3 hk_13
 refine qS ?_
 refine Wp.block ?_
 obtain ⟨k_47, hk_47, hm⟩ := loopN_cont hm
 refine Wp.loopN (fun s => [(0, .p (.l (List.map enc_Arr2_Int pairs_1))), (5, .buf 0), (12, .p (.i .i64 ((List.replicate many_2.toNat 0).length : Int))), (13, .p (.i .i64 s.1))]) (fun s => [.buf 3 1 (List.map ecI_i64 s.2)]) ?_ hm ?_
 ·
  exact fse3
 clear hm
 intro s nx_48 hm
 obtain ⟨t13_44, o0_45⟩ := s
 try dsimp only at hm
 try dsimp only
 refine qS ?_
 refine Wp.seqW fun K15 hK15 hW15 => ?_
 refine cM hm (fun hc16 hm => ?_) (fun hc16 hm => ?_)
 ·refine Wp.skip ?_
  refine hK15 _ _ ?_
  refine Wp.seqW fun K17 hK17 hW17 => ?_
  refine Wp.block ?_
  refine qS ?_
  obtain ⟨c_49, hm⟩ := chk_elim hm
  refine Wp.region fun K19 hK19 => ?_
  simp only [go_sem, simprocAttr]
  first | apply hK19 | refine ⟨by first | exact sd | ((repeat' apply And.intro) <;> first | assumption | omega | (simp only [List.length_append, List.length_map, List.length_cons, List.length_nil, List.length_set, List.length_replicate] at c_49 ⊢; omega)), hK19 _ _ ?_⟩
  refine hK17 _ _ ?_
  refine qR ?_
  simp only [thenQ, blockQ, ↓reduceIte]
  refine ⟨(IntKind.i64.wrap (t13_44 + 1), List.set o0_45 t13_44.toNat (-1)), hm, ?_⟩
  exact fse3
 ·refine Wp.exit ?_
  simp only [thenQ, blockQ, ↓reduceIte]
  have hm := hk_47 _ hm
  try dsimp only at hm
  refine hW3 _ _ _ _ ?_ (hcut3 o0_45 hm)
  exact fse3
theorem ok_strings_Builder_Grow (n : Int) (o0 : Str) (z : Unit) (hm : strings_Builder_Grow n o0 = some z) : Does Tryd.prog 62 [.ptr 0 0, .p (.i .i64 n)] [.cells 81 [.np 0, .buf 1], .sb 5 o0] (fun r X => r = .tup [] ∧ X = [.cells 81 [.np 0, .buf 1], .sb 5 o0]) := by
 obtain ⟨h, -⟩ := chk_elim hm
 obtain ⟨k, rfl⟩ := Int.eq_ofNat_of_zero_le h.1
 exact Does.grow growLay growExt k o0 (by omega)
theorem ok_strings_Builder_copyCheck_i1 (o1_1 : Str) (z : Unit) (hm : strings_Builder_copyCheck_i1 o1_1 = some z) : Does Tryd.prog 99 [.ptr 0 0] [.cells 81 [.nil, .buf 1], .sb 5 o1_1] (fun r X => r = .tup [] ∧ X = [.cells 81 [.ptr 0 0, .buf 1], .sb 5 o1_1]) := by
 unfold strings_Builder_copyCheck_i1 at hm
 refine Does.of_wp 2 20 [] Tryd.func99 rfl (by decide) rfl rfl (Nat.le_of_ble_eq_true rfl) fun B => ?_
 refine qS ?_
 refine Wp.cond rfl ⟨⟩ (fun hc2 => ?_) (fun hc2 => ?_)
 rotate_left
 ·cases hc2
 refine Wp.region fun K3 hK3 => ?_
 simp only [go_sem, simprocAttr]
 try refine ⟨sd, ?_⟩
 refine Rg.callI (v := ?av4) (g := true) nvi_115 si si sg ?cont4
 simp only [go_sem, simprocAttr]
 first | apply hK3 | refine ⟨sd, hK3 _ _ ?_⟩
 refine retQ_normal ?_
 cases hm
 exact fse3
theorem ok_strings_Builder_copyCheck_i2 (o1_1 : Str) (z : Unit) (hm : strings_Builder_copyCheck_i2 o1_1 = some z) : Does Tryd.prog 99 [.ptr 0 0] [.cells 81 [.ptr 0 0, .buf 1], .sb 5 o1_1] (fun r X => r = .tup [] ∧ X = [.cells 81 [.ptr 0 0, .buf 1], .sb 5 o1_1]) := by
 unfold strings_Builder_copyCheck_i2 at hm
 refine Does.of_wp 2 20 [] Tryd.func99 rfl (by decide) rfl rfl (Nat.le_of_ble_eq_true rfl) fun B => ?_
 refine qS ?_
 refine Wp.cond rfl ⟨⟩ (fun hc2 => ?_) (fun hc2 => ?_)
 ·cases hc2
 refine qS ?_
 refine Wp.cond rfl ⟨⟩ (fun hc4 => ?_) (fun hc4 => ?_)
 ·cases hc4
 refine Wp.skip ?_
 refine retQ_normal ?_
 cases hm
 exact fse3
theorem ok_strings_Builder_copyCheck_np (o0 : Str) (z : Unit) (hm : strings_Builder_copyCheck_np o0 = some z) : Does Tryd.prog 99 [.ptr 0 0] [.cells 81 [.np 0, .buf 1], .sb 5 o0] (fun r X => r = .tup [] ∧ X = [.cells 81 [.np 0, .buf 1], .sb 5 o0]) :=
 Does.np (ok_strings_Builder_copyCheck_i1 o0 () rfl) (ok_strings_Builder_copyCheck_i2 o0 () rfl)
theorem ok_strings_Builder_WriteString_i1 (s_1 : Str) (o1_2 : Str) (z : Int × Str) (hm : strings_Builder_WriteString_i1 s_1 o1_2 = some z) : Does Tryd.prog 50 [.ptr 0 0, .p (.s s_1)] [.cells 81 [.np 0, .buf 1], .sb 5 o1_2] (fun r X => r = .tup [.p (.i .i64 z.1), .raw .nilIface] ∧ X = [.cells 81 [.np 0, .buf 1], .sb 5 z.2]) := by
 unfold strings_Builder_WriteString_i1 at hm
 refine Does.of_wp 2 19 [.tmp 4, .tmp 5] Tryd.func50 rfl (by decide) rfl rfl (Nat.le_of_ble_eq_true rfl) fun B => ?_
 refine qS ?_
 obtain ⟨r_5, hr_5, hm⟩ := call_elim hm
 refine Wp.seqR fun K2 hK2 => ?_
 simp only [go_sem, simprocAttr]
 try refine ⟨sd, ?_⟩
 refine Rg.callO (av := ?av3) [0, 1] (ok_strings_Builder_copyCheck_np o1_2 _ hr_5) si si si sg sg ?cont3
 rintro _ _ ⟨rfl, rfl⟩ hv3
 simp only [go_sem, simprocAttr]
 first | apply hK2 | refine ⟨sd, hK2 _ _ ?_⟩
 obtain ⟨c_6, hm⟩ := chk_elim hm
 refine Wp.seqR fun K4 hK4 => ?_
 simp only [go_sem, simprocAttr]
 first | apply hK4 | refine ⟨by first | exact sd | ((repeat' apply And.intro) <;> first | assumption | omega | (simp only [List.length_append, List.length_map, List.length_cons, List.length_nil, List.length_set, List.length_replicate] at c_6 ⊢; omega)), hK4 _ _ ?_⟩
 refine qS ?_
 refine Wp.ret ?_
 refine retQ_ret ?_
 cases hm
 exact fse3
theorem ok_strings_Builder_String_i1 (o1_1 : Str) (z : Str) (hm : strings_Builder_String_i1 o1_1 = some z) : Does Tryd.prog 52 [.ptr 0 0] [.cells 81 [.np 0, .buf 1], .sb 5 o1_1] (fun r X => r = .p (.s z) ∧ X = [.cells 81 [.np 0, .buf 1], .sb 5 o1_1]) := by
 unfold strings_Builder_String_i1 at hm
 refine Does.of_wp 2 14 [.tmp 2] Tryd.func52 rfl (by decide) rfl rfl (Nat.le_of_ble_eq_true rfl) fun B => ?_
 refine qS ?_
 refine Wp.seqD (plan := pl [(0, none), (1, none), (2, none), (3, none), (5, none), (6, none), (7, none), (8, none), (9, none), (4, some [5, 6, 7, 8, 9]), (10, some []), (11, none)]) (by kernel_rfl) rfl (by kernel_rfl) fun K2 hK2 => ?_
 simp only [go_sem, simprocAttr]
 first | apply hK2 | refine ⟨sd, hK2 _ _ ?_⟩
 refine Wp.ret ?_
 refine retQ_ret ?_
 cases hm
 exact fse3
end Go.Proofs.YtkekfenkeeiigaaDoor
