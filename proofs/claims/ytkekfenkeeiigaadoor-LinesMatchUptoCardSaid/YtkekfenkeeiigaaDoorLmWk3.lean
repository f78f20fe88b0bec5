/- That the code does what the models say (part 3). -/
import Derived.Test.YtkekfenkeeiigaaDoorLmWk0
import Derived.Test.YtkekfenkeeiigaaDoorLmWk2
set_option linter.unusedSimpArgs false
set_option linter.unusedVariables false
open Go.Proofs Go.Shelf
namespace Go.Proofs.YtkekfenkeeiigaaDoor
open Go.Vc Go.Md
set_option maxRecDepth 100000
set_option maxHeartbeats 4000000
theorem ok_R_Pairs (x_1 : List Str) (y_2 : List Str) (z : List Arr2_Int) (hm : R_Pairs x_1 y_2 = some z) : Does Tryd.prog 13 [.p (.l (List.map ecS x_1)), .p (.l (List.map ecS y_2))] [] (fun r X => r = .p (.l (List.map enc_Arr2_Int z)) ∧ X = []) := by
 unfold R_Pairs at hm
 refine Does.of_wp 0 158 [.tmp 4] Tryd.func13 rfl (by decide) rfl rfl (Nat.le_of_ble_eq_true rfl) fun B => ?_
 refine qS ?_
 refine qS ?_
 obtain ⟨c_3, hm⟩ := chk_elim hm
 obtain ⟨v_4, hv_5, hm⟩ := letv_elim hm
 refine Wp.seqRW fun K3 hK3 hW3 => ?_
 suffices hcont3 : K3 [(0, .p (.l (List.map ecS x_1))), (1, .p (.l (List.map ecS y_2))), (4, .nils), (5, .p (.i .i64 (x_1.length : Int))), (6, .p (.i .i64 (y_2.length : Int))), (7, .buf 0), (18, .p (.l (List.map ecS x_1))), (19, .p (.i .i64 (x_1.length : Int))), (20, .p (.l (List.map ecS y_2))), (21, .p (.i .i64 (y_2.length : Int)))] [.nst false 57 1 0 1 (List.map eN_encL_ecI_i64 v_4) none, .inn 3 1 (List.map iN_encL_ecI_i64 v_4)] by
  subst hv_5
  simp only [go_sem, simprocAttr, false_implies, and_true, true_and, bad]
  first | refine hW3 _ _ _ _ ?_ hcont3 | refine ⟨by first | exact sd | ((repeat' apply And.intro) <;> first | assumption | omega | (simp only [List.length_append, List.length_map, List.length_cons, List.length_nil, List.length_set, List.length_replicate] at c_3 ⊢; omega)), hW3 _ _ _ _ ?_ hcont3⟩
  simp only [go_sem, simprocAttr, false_implies, and_true, true_and, bad]
  try exact se3
 refine hK3 _ _ ?_
 refine Wp.seqW fun K4 hK4 hW4 => ?_
 obtain ⟨k_30, hk_30, hm⟩ := jp_elim hm
 have hcut4 : ∀ s, k_30 s = some z → K4 [(0, .p (.l (List.map ecS x_1))), (1, .p (.l (List.map ecS y_2))), (5, .p (.i .i64 (x_1.length : Int))), (6, .p (.i .i64 (y_2.length : Int))), (7, .buf 0)] [.nst false 57 1 0 1 (List.map eN_encL_ecI_i64 s) none, .inn 3 1 (List.map iN_encL_ecI_i64 s)] := by
  intro o0_29 hs
  have hm := hk_30 _ hs
  clear hs
  try dsimp only at hm
  try dsimp only
  refine hK4 _ _ ?_
  refine Wp.seqW fun K5 hK5 hW5 => ?_
  obtain ⟨k_649, hk_649, hm⟩ := jp_elim hm
  have hcut5 : ∀ s, k_649 s = some z → K5 [(0, .p (.l (List.map ecS x_1))), (1, .p (.l (List.map ecS y_2))), (7, .buf 0)] [.nst false 57 1 0 1 (List.map eN_encL_ecI_i64 s) none, .inn 3 1 (List.map iN_encL_ecI_i64 s)] := by
   intro o0_648 hs
   have hm := hk_649 _ hs
   clear hs
   try dsimp only at hm
   try dsimp only
   refine hK5 _ _ ?_
   refine Wp.seqR fun K6 hK6 => ?_
   simp only [go_sem, simprocAttr, hv_5]
   first | apply hK6 | refine ⟨sd, hK6 _ _ ?_⟩
   refine Wp.seqW fun K7 hK7 hW7 => ?_
   obtain ⟨k_675, hk_675, hm⟩ := jp_elim hm
   have hcut7 : ∀ s, k_675 s = some z → K7 [(0, .p (.l (List.map ecS x_1))), (1, .p (.l (List.map ecS y_2))), (11, .buf 2)] [.gone, .gone, .buf 3 1 (List.map ecI_i64 s)] := by
    intro o2_674 hs
    have hm := hk_675 _ hs
    clear hs
    try dsimp only at hm
    try dsimp only
    refine hK7 _ _ ?_
    refine Wp.seqR fun K8 hK8 => ?_
    simp only [go_sem, simprocAttr, hv_5]
    first | apply hK8 | refine ⟨sd, hK8 _ _ ?_⟩
    refine Wp.seqR fun K9 hK9 => ?_
    simp only [go_sem, simprocAttr, hv_5]
    first | apply hK9 | refine ⟨sd, hK9 _ _ ?_⟩
    refine Wp.seqW fun K10 hK10 hW10 => ?_
    obtain ⟨k_808, hk_808, hm⟩ := jp_elim hm
    have hcut10 : ∀ s, k_808 s = some z → K10 [(14, .buf 3)] [.gone, .gone, .gone, .buf 29 2 (List.map enc_Arr2_Int s)] := by
     intro o3_807 hs
     have hm := hk_808 _ hs
     clear hs
     try dsimp only at hm
     try dsimp only
     refine hK10 _ _ ?_
     refine Wp.seqR fun K11 hK11 => ?_
     simp only [go_sem, simprocAttr, hv_5]
     first | apply hK11 | refine ⟨sd, hK11 _ _ ?_⟩
     refine Wp.ret ?_
     refine retQ_ret ?_
     cases hm
     simp only [go_sem, simprocAttr, hv_5]
     try exact se3
    clear hK10 hk_808
    refine Wp.seqR fun K12 hK12 => ?_
    simp only [go_sem, simprocAttr, hv_5]
    first | apply hK12 | refine ⟨sd, hK12 _ _ ?_⟩
    refine Wp.block ?_
    refine Wp.adopt 14 29 2 rfl ?_
    simp only [go_sem, simprocAttr, hv_5]
    obtain ⟨k_896, hk_896, hm⟩ := forC_cont hm
    refine Wp.factO 2 fun hl_899 => ?_
    replace hl_899 : o2_674.length ≤ 274877906944 := by
     simp only [go_sem, simprocAttr, List.length_map] at hl_899
     omega
    refine Wp.forC (fun i_898 s => [(0, .p (.l (List.map ecS x_1))), (1, .p (.l (List.map ecS y_2))), (14, .buf 3), (15, .p (.i .i64 s.1)), (131, .buf 2), (132, .p (.i .i64 (o2_674.length : Int))), (133, .p (.i .i64 (i_898 : Int)))]) (fun i_898 s => [.gone, .gone, .buf 3 1 (List.map ecI_i64 o2_674), .buf 29 2 (List.map enc_Arr2_Int s.2)]) ?_ hm ?_
    ·
     simp only [go_sem, simprocAttr, hv_5]
     try exact se3
    clear hm
    intro i_898 s hii_898 hm
    obtain ⟨j_852, o3_854⟩ := s
    try dsimp only at hm
    try dsimp only
    refine Wp.seqR fun K13 hK13 => ?_
    simp only [go_sem, simprocAttr, hv_5]
    first | apply hK13 | refine ⟨sd, hK13 _ _ ?_⟩
    refine Wp.seqW fun K14 hK14 hW14 => ?_
    refine Wp.cond rfl ⟨⟩ (fun hc14 => ?_) (fun hc14 => ?_)
    rotate_left
    ·refine Wp.exit ?_
     have hm := hk_896 _ (forC_end hm (ge_nat (by first | exact hc14 | simpa using hc14)))
     try dsimp only at hm
     refine hW10 _ _ _ _ ?_ (hcut10 o3_854 hm)
     simp only [go_sem, simprocAttr, hv_5]
     try exact se3
    have hlt14 := lt_nat (by first | exact hc14 | simpa using hc14)
    have hw14 := wrap_succ hlt14 hl_899
    obtain ⟨nx_897, hnx_897, hm⟩ := forC_step hm hlt14
    refine Wp.skip ?_
    simp only [thenQ]
    refine hK14 _ _ ?_
    refine Wp.seqW fun K15 hK15 hW15 => ?_
    obtain ⟨k_921, hk_921, hm⟩ := jp_elim hm
    have hcut15 : ∀ s, k_921 s = some z → K15 [(0, .p (.l (List.map ecS x_1))), (1, .p (.l (List.map ecS y_2))), (14, .buf 3), (15, .p (.i .i64 s.1)), (131, .buf 2), (132, .p (.i .i64 (o2_674.length : Int))), (133, .p (.i .i64 (i_898 : Int)))] [.gone, .gone, .buf 3 1 (List.map ecI_i64 o2_674), .buf 29 2 (List.map enc_Arr2_Int s.2)] := by
     intro s hs
     have hm := hk_921 _ hs
     clear hs
     obtain ⟨j_919, o3_920⟩ := s
     try dsimp only at hm
     try dsimp only
     refine hK15 _ _ ?_
     refine Wp.region fun K16 hK16 => ?_
     simp only [go_sem, simprocAttr, hv_5, hw14]
     first | apply hK16 | refine ⟨sd, hK16 _ _ ?_⟩
     simp only [thenQ, blockQ, ↓reduceIte]
     refine ⟨(j_919, o3_920), hlt14, hnx_897 _ hm, ?_⟩
     simp only [go_sem, simprocAttr, hv_5, hw14]
     try exact se3
    clear hK15 hk_921
    refine Wp.block ?_
    have hr_922 := fun h => getD_encB (l := o2_674) (e := ecI_i64) (d := 0) (i := i_898) h []
    refine Wp.seqR fun K17 hK17 => ?_
    simp only [go_sem, simprocAttr, hv_5, hw14, hr_922 (by omega)]
    first | apply hK17 | refine ⟨sd, hK17 _ _ ?_⟩
    refine Wp.seqW fun K18 hK18 hW18 => ?_
    obtain ⟨k_931, hk_931, hm⟩ := jp_elim hm
    have hcut18 : ∀ s, k_931 s = some z → K18 [(0, .p (.l (List.map ecS x_1))), (1, .p (.l (List.map ecS y_2))), (14, .buf 3), (15, .p (.i .i64 s)), (17, .p (.i .i64 (o2_674.getD i_898 0))), (131, .buf 2), (132, .p (.i .i64 (o2_674.length : Int))), (133, .p (.i .i64 (i_898 : Int)))] [.gone, .gone, .buf 3 1 (List.map ecI_i64 o2_674), .buf 29 2 (List.map enc_Arr2_Int o3_854)] := by
     intro j_930 hs
     have hm := hk_931 _ hs
     clear hs
     try dsimp only at hm
     try dsimp only
     refine hK18 _ _ ?_
     obtain ⟨c_932, hm⟩ := chk_elim hm
     refine Wp.seqR fun K19 hK19 => ?_
     simp only [go_sem, simprocAttr, hv_5, hw14]
     first | apply hK19 | refine ⟨by first | exact sd | ((repeat' apply And.intro) <;> first | assumption | omega | (simp only [List.length_append, List.length_map, List.length_cons, List.length_nil, List.length_set, List.length_replicate] at c_932 ⊢; omega)), hK19 _ _ ?_⟩
     refine Wp.region fun K20 hK20 => ?_
     simp only [go_sem, simprocAttr, hv_5, hw14]
     first | apply hK20 | refine ⟨sd, hK20 _ _ ?_⟩
     refine hW15 _ _ _ _ ?_ (hcut15 (IntKind.i64.wrap (j_930 + 1), o3_854 ++ [(Arr2_Int.mk (o2_674.getD i_898 0) j_930)]) hm)
     simp only [go_sem, simprocAttr, hv_5, hw14]
     try exact se3
    clear hK18 hk_931
    refine Wp.block ?_
    obtain ⟨k_936, hk_936, hm⟩ := loopN_cont hm
    refine Wp.loopN (fun s => [(0, .p (.l (List.map ecS x_1))), (1, .p (.l (List.map ecS y_2))), (14, .buf 3), (15, .p (.i .i64 s)), (17, .p (.i .i64 (o2_674.getD i_898 0))), (131, .buf 2), (132, .p (.i .i64 (o2_674.length : Int))), (133, .p (.i .i64 (i_898 : Int)))]) (fun s => [.gone, .gone, .buf 3 1 (List.map ecI_i64 o2_674), .buf 29 2 (List.map enc_Arr2_Int o3_854)]) ?_ hm ?_
    ·
     simp only [go_sem, simprocAttr, hv_5, hw14]
     try exact se3
    clear hm
    intro j_933 nx_937 hm
    try dsimp only at hm
    try dsimp only
    refine Wp.seqW fun K21 hK21 hW21 => ?_
    obtain ⟨s_938, hbs_938, hxs_938, hys_938, hm⟩ := idx_elim hm
    replace hxs_938 : ∀ d, (List.map ecS y_2).getD j_933.toNat d = ecS s_938 := hxs_938 ecS
    obtain ⟨s_939, hbs_939, hxs_939, hys_939, hm⟩ := idx_elim hm
    replace hxs_939 : ∀ d, (List.map ecS x_1).getD ((o2_674.getD i_898 0).toNat) d = ecS s_939 := hxs_939 ecS
    refine Wp.seqD (plan := pl [(0, none), (1, none), (2, none), (3, none), (4, none), (5, none), (6, none), (7, none), (8, none)]) (by kernel_rfl) rfl (by kernel_rfl) fun K22 hK22 => ?_
    simp only [go_sem, simprocAttr, hv_5, hw14, hxs_938, hxs_939]
    first | apply hK22 | refine ⟨sd, hK22 _ _ ?_⟩
    refine cM hm (fun hc23 hm => ?_) (fun hc23 hm => ?_)
    ·refine Wp.skip ?_
     refine hK21 _ _ ?_
     refine Wp.block ?_
     refine Wp.region fun K24 hK24 => ?_
     simp only [go_sem, simprocAttr, hv_5, hw14, hxs_938, hxs_939]
     first | apply hK24 | refine ⟨sd, hK24 _ _ ?_⟩
     simp only [thenQ, blockQ, ↓reduceIte]
     refine ⟨IntKind.i64.wrap (j_933 + 1), hm, ?_⟩
     simp only [go_sem, simprocAttr, hv_5, hw14, hxs_938, hxs_939]
     try exact se3
    ·refine Wp.exit ?_
     simp only [thenQ, blockQ, ↓reduceIte]
     have hm := hk_936 _ hm
     try dsimp only at hm
     refine hW18 _ _ _ _ ?_ (hcut18 j_933 hm)
     simp only [go_sem, simprocAttr, hv_5, hw14, hxs_938, hxs_939]
     try exact se3
   clear hK7 hk_675
   obtain ⟨c_940, hm⟩ := chk_elim hm
   obtain ⟨c_941, hm⟩ := chk_elim hm
   have hr_942 := fun h => getD_encB (l := o0_648) (e := eN_encL_ecI_i64) (d := []) (i := 0) h []
   have hr_943 := fun h => getD_innB (l := o0_648) (f := iN_encL_ecI_i64) (d := []) (i := 0) h []
   have hr_944 := fun h => getD_encB (l := (o0_648.getD 0 [])) (e := ecI_i64) (d := 0) (i := 0) h []
   refine Wp.seqD (plan := pl [(0, none), (1, none), (2, none), (3, none), (4, none), (5, none), (6, none)]) (by kernel_rfl) rfl (by kernel_rfl) fun K25 hK25 => ?_
   simp only [go_sem, simprocAttr, hv_5, hr_942 (by omega), hr_943 (by omega), hr_944 (by omega)]
   first | apply hK25 | refine ⟨by first | exact sd | ((repeat' apply And.intro) <;> first | assumption | omega | (simp only [List.length_append, List.length_map, List.length_cons, List.length_nil, List.length_set, List.length_replicate] at c_940 c_941 ⊢; omega)), hK25 _ _ ?_⟩
   refine Wp.block ?_
   refine Wp.adopt 11 3 1 rfl ?_
   simp only [go_sem, simprocAttr, hv_5]
   obtain ⟨k_958, hk_958, hm⟩ := loopN_cont hm
   refine Wp.loopN (fun s => [(0, .p (.l (List.map ecS x_1))), (1, .p (.l (List.map ecS y_2))), (7, .buf 0), (11, .buf 2), (12, .p (.i .i64 s.1)), (13, .p (.i .i64 s.2.1))]) (fun s => [.nst false 57 1 0 1 (List.map eN_encL_ecI_i64 o0_648) none, .inn 3 1 (List.map iN_encL_ecI_i64 o0_648), .buf 3 1 (List.map ecI_i64 s.2.2)]) ?_ hm ?_
   ·
    simp only [go_sem, simprocAttr, hv_5]
    try exact se3
   clear hm
   intro s nx_959 hm
   obtain ⟨i_951, left_952, o2_953⟩ := s
   try dsimp only at hm
   try dsimp only
   refine Wp.seqW fun K26 hK26 hW26 => ?_
   refine Wp.seqR fun K27 hK27 => ?_
   simp only [go_sem, simprocAttr, hv_5]
   first | apply hK27 | refine ⟨sd, hK27 _ _ ?_⟩
   refine cM hm (fun hc28 hm => ?_) (fun hc28 hm => ?_)
   ·refine Wp.skip ?_
    refine hK26 _ _ ?_
    refine Wp.seqW fun K29 hK29 hW29 => ?_
    refine Wp.block ?_
    obtain ⟨r_960, hr_960, hm⟩ := call_elim hm
    obtain ⟨c_961, hm⟩ := chk_elim hm
    obtain ⟨r_962, hr_962, hm⟩ := call_elim hm
    refine Wp.seqR fun K30 hK30 => ?_
    simp only [go_sem, simprocAttr, hv_5]
    try refine ⟨by first | exact sd | ((repeat' apply And.intro) <;> first | assumption | omega | (simp only [List.length_append, List.length_map, List.length_cons, List.length_nil, List.length_set, List.length_replicate] at c_961 ⊢; omega)), ?_⟩
    refine Rg.callLN (av := ?av31) (ok_slices_Clone_int_int_new o2_953 _ hr_960) (flatRs_map (fun _ => rfl) _) (by simp only [go_sem, simprocAttr, hv_5]; exact Is.mk) (by simp only [go_sem, simprocAttr, hv_5]; exact Is.mk) (by simp only [go_sem, simprocAttr, hv_5]) ?cont31
    simp only [go_sem, simprocAttr, hv_5]
    try refine ⟨by first | exact sd | ((repeat' apply And.intro) <;> first | assumption | omega | (simp only [List.length_append, List.length_map, List.length_cons, List.length_nil, List.length_set, List.length_replicate] at c_961 ⊢; omega)), ?_⟩
    refine Rg.callX (av := ?av32) (g := true) (fun hg => ok_R_fits x_1 y_2 (r_960 ++ [i_951]) (IntKind.i64.wrap (left_952 - 1)) o0_648 _ hr_962) (by simp only [go_sem, simprocAttr, hv_5]; exact Is.mk) (by simp only [go_sem, simprocAttr, hv_5]; exact Is.mk) (by simp only [go_sem, simprocAttr, hv_5, List.map_append, List.map_cons, List.map_nil]; exact Is.mk) (by simp only [go_sem, simprocAttr, hv_5]) (by simp only [go_sem, simprocAttr, hv_5]; exact Is.mk) ?cont32
    intro hv32
    simp only [go_sem, simprocAttr, hv_5]
    first | apply hK30 | refine ⟨by first | exact sd | ((repeat' apply And.intro) <;> first | assumption | omega | (simp only [List.length_append, List.length_map, List.length_cons, List.length_nil, List.length_set, List.length_replicate] at c_961 ⊢; omega)), hK30 _ _ ?_⟩
    refine cM hm (fun hc33 hm => ?_) (fun hc33 hm => ?_)
    ·obtain ⟨c_963, hm⟩ := chk_elim hm
     refine Wp.seqR fun K34 hK34 => ?_
     simp only [go_sem, simprocAttr, hv_5]
     first | apply hK34 | refine ⟨by first | exact sd | ((repeat' apply And.intro) <;> first | assumption | omega | (simp only [List.length_append, List.length_map, List.length_cons, List.length_nil, List.length_set, List.length_replicate] at c_963 ⊢; omega)), hK34 _ _ ?_⟩
     refine Wp.region fun K35 hK35 => ?_
     simp only [go_sem, simprocAttr, hv_5]
     first | apply hK35 | refine ⟨sd, hK35 _ _ ?_⟩
     refine hK29 _ _ ?_
     refine Wp.region fun K36 hK36 => ?_
     simp only [go_sem, simprocAttr, hv_5]
     first | apply hK36 | refine ⟨sd, hK36 _ _ ?_⟩
     simp only [thenQ, blockQ, ↓reduceIte]
     refine ⟨(IntKind.i64.wrap (i_951 + 1), IntKind.i64.wrap (left_952 - 1), o2_953 ++ [i_951]), hm, ?_⟩
     simp only [go_sem, simprocAttr, hv_5]
     try exact se3
    ·refine Wp.skip ?_
     refine hK29 _ _ ?_
     refine Wp.region fun K37 hK37 => ?_
     simp only [go_sem, simprocAttr, hv_5]
     first | apply hK37 | refine ⟨sd, hK37 _ _ ?_⟩
     simp only [thenQ, blockQ, ↓reduceIte]
     refine ⟨(IntKind.i64.wrap (i_951 + 1), left_952, o2_953), hm, ?_⟩
     simp only [go_sem, simprocAttr, hv_5]
     try exact se3
   ·refine Wp.exit ?_
    simp only [thenQ, blockQ, ↓reduceIte]
    have hm := hk_958 _ hm
    try dsimp only at hm
    refine hW7 _ _ _ _ ?_ (hcut7 o2_953 hm)
    simp only [go_sem, simprocAttr, hv_5]
    try exact se3
  clear hK5 hk_649
  refine Wp.seqR fun K38 hK38 => ?_
  simp only [go_sem, simprocAttr, hv_5]
  first | apply hK38 | refine ⟨sd, hK38 _ _ ?_⟩
  refine Wp.block ?_
  obtain ⟨k_1375, hk_1375, hm⟩ := loopN_cont hm
  refine Wp.loopN (fun s => [(0, .p (.l (List.map ecS x_1))), (1, .p (.l (List.map ecS y_2))), (6, .p (.i .i64 (y_2.length : Int))), (7, .buf 0), (9, .p (.i .i64 s.1))]) (fun s => [.nst false 57 1 0 1 (List.map eN_encL_ecI_i64 s.2) none, .inn 3 1 (List.map iN_encL_ecI_i64 s.2)]) ?_ hm ?_
  ·
   simp only [go_sem, simprocAttr, hv_5]
   try exact se3
  clear hm
  intro s nx_1376 hm
  obtain ⟨i_1169, o0_1170⟩ := s
  try dsimp only at hm
  try dsimp only
  refine Wp.seqW fun K39 hK39 hW39 => ?_
  refine Wp.seqR fun K40 hK40 => ?_
  simp only [go_sem, simprocAttr, hv_5]
  first | apply hK40 | refine ⟨sd, hK40 _ _ ?_⟩
  refine cM hm (fun hc41 hm => ?_) (fun hc41 hm => ?_)
  ·refine Wp.skip ?_
   refine hK39 _ _ ?_
   refine Wp.seqW fun K42 hK42 hW42 => ?_
   obtain ⟨k_1479, hk_1479, hm⟩ := jp_elim hm
   have hcut42 : ∀ s, k_1479 s = some z → K42 [(0, .p (.l (List.map ecS x_1))), (1, .p (.l (List.map ecS y_2))), (6, .p (.i .i64 (y_2.length : Int))), (7, .buf 0), (9, .p (.i .i64 i_1169))] [.nst false 57 1 0 1 (List.map eN_encL_ecI_i64 s) none, .inn 3 1 (List.map iN_encL_ecI_i64 s)] := by
    intro o0_1478 hs
    have hm := hk_1479 _ hs
    clear hs
    try dsimp only at hm
    try dsimp only
    refine hK42 _ _ ?_
    refine Wp.region fun K43 hK43 => ?_
    simp only [go_sem, simprocAttr, hv_5]
    first | apply hK43 | refine ⟨sd, hK43 _ _ ?_⟩
    simp only [thenQ, blockQ, ↓reduceIte]
    refine ⟨(IntKind.i64.wrap (i_1169 - 1), o0_1478), hm, ?_⟩
    simp only [go_sem, simprocAttr, hv_5]
    try exact se3
   clear hK42 hk_1479
   refine Wp.block ?_
   refine Wp.seqR fun K44 hK44 => ?_
   simp only [go_sem, simprocAttr, hv_5]
   first | apply hK44 | refine ⟨sd, hK44 _ _ ?_⟩
   refine Wp.block ?_
   obtain ⟨k_1547, hk_1547, hm⟩ := loopN_cont hm
   refine Wp.loopN (fun s => [(0, .p (.l (List.map ecS x_1))), (1, .p (.l (List.map ecS y_2))), (6, .p (.i .i64 (y_2.length : Int))), (7, .buf 0), (9, .p (.i .i64 i_1169)), (10, .p (.i .i64 s.1))]) (fun s => [.nst false 57 1 0 1 (List.map eN_encL_ecI_i64 s.2) none, .inn 3 1 (List.map iN_encL_ecI_i64 s.2)]) ?_ hm ?_
   ·
    simp only [go_sem, simprocAttr, hv_5]
    try exact se3
   clear hm
   intro s nx_1548 hm
   obtain ⟨j_1513, o0_1514⟩ := s
   try dsimp only at hm
   try dsimp only
   refine Wp.seqW fun K45 hK45 hW45 => ?_
   refine Wp.seqR fun K46 hK46 => ?_
   simp only [go_sem, simprocAttr, hv_5]
   first | apply hK46 | refine ⟨sd, hK46 _ _ ?_⟩
   refine cM hm (fun hc47 hm => ?_) (fun hc47 hm => ?_)
   ·refine Wp.skip ?_
    refine hK45 _ _ ?_
    refine Wp.seqW fun K48 hK48 hW48 => ?_
    refine Wp.block ?_
    obtain ⟨c_1549, hm⟩ := chk_elim hm
    obtain ⟨c_1550, hm⟩ := chk_elim hm
    obtain ⟨c_1551, hm⟩ := chk_elim hm
    obtain ⟨c_1552, hm⟩ := chk_elim hm
    obtain ⟨c_1553, hm⟩ := chk_elim hm
    obtain ⟨c_1554, hm⟩ := chk_elim hm
    have hs_1555 := map_set_same (f := eN_encL_ecI_i64) (l := o0_1514) (d := []) (i := i_1169.toNat) (x := List.set (o0_1514.getD i_1169.toNat []) j_1513.toNat (max ((o0_1514.getD ((IntKind.i64.wrap (i_1169 + 1)).toNat) []).getD j_1513.toNat 0) ((o0_1514.getD i_1169.toNat []).getD ((IntKind.i64.wrap (j_1513 + 1)).toNat) 0))) (by first | omega | (simp only [List.length_set, List.length_append, List.length_cons, List.length_nil] at *; omega)) rfl
    obtain ⟨v_1556, hv_1557, hm⟩ := letv_elim hm
    refine Wp.seqDW (plan := pl [(0, none), (1, none), (2, none), (3, none), (4, none), (5, none), (6, none), (7, none), (8, none), (9, none), (10, none), (11, none), (12, none), (13, none), (14, none), (15, none), (16, none), (17, none), (18, none), (19, none), (20, none), (21, none), (22, none), (23, some [])]) (by kernel_rfl) rfl (by kernel_rfl) fun K49 hK49 hW49 => ?_
    suffices hcont49 : K49 [(0, .p (.l (List.map ecS x_1))), (1, .p (.l (List.map ecS y_2))), (6, .p (.i .i64 (y_2.length : Int))), (7, .buf 0), (9, .p (.i .i64 i_1169)), (10, .p (.i .i64 j_1513)), (45, .p (.i .i64 j_1513)), (46, .p (.b (decide (0 ≤ j_1513))))] [.nst false 57 1 0 1 (List.map eN_encL_ecI_i64 v_1556) none, .inn 3 1 (List.map iN_encL_ecI_i64 v_1556)] by
     have hr_1558 := fun h => getD_encB (l := o0_1514) (e := eN_encL_ecI_i64) (d := []) (i := i_1169.toNat) h []
     have hr_1559 := fun h => getD_encB (l := o0_1514) (e := eN_encL_ecI_i64) (d := []) (i := (IntKind.i64.wrap (i_1169 + 1)).toNat) h []
     have hr_1560 := fun h => getD_innB (l := o0_1514) (f := iN_encL_ecI_i64) (d := []) (i := (IntKind.i64.wrap (i_1169 + 1)).toNat) h []
     have hr_1561 := fun h => getD_encB (l := (o0_1514.getD ((IntKind.i64.wrap (i_1169 + 1)).toNat) [])) (e := ecI_i64) (d := 0) (i := j_1513.toNat) h []
     have hr_1562 := fun h => getD_innB (l := o0_1514) (f := iN_encL_ecI_i64) (d := []) (i := i_1169.toNat) h []
     have hr_1563 := fun h => getD_encB (l := (o0_1514.getD i_1169.toNat [])) (e := ecI_i64) (d := 0) (i := (IntKind.i64.wrap (j_1513 + 1)).toNat) h []
     subst hv_1557
     simp only [go_sem, simprocAttr, false_implies, and_true, true_and, bad, hv_5, hs_1555, hr_1558 (by omega), hr_1559 (by omega), hr_1560 (by omega), hr_1561 (by omega), hr_1562 (by omega), hr_1563 (by omega)]
     first | refine hW49 _ _ _ _ ?_ hcont49 | refine ⟨by first | exact sd | ((repeat' apply And.intro) <;> first | assumption | omega | (simp only [List.length_append, List.length_map, List.length_cons, List.length_nil, List.length_set, List.length_replicate] at c_1549 c_1550 c_1551 c_1552 c_1553 c_1554 ⊢; omega)), hW49 _ _ _ _ ?_ hcont49⟩
     simp only [go_sem, simprocAttr, false_implies, and_true, true_and, bad, hv_5, hs_1555, hr_1558 (by omega), hr_1559 (by omega), hr_1560 (by omega), hr_1561 (by omega), hr_1562 (by omega), hr_1563 (by omega)]
     try exact se3
    refine hK49 _ _ ?_
    obtain ⟨s_1564, hbs_1564, hxs_1564, hys_1564, hm⟩ := idx_elim hm
    replace hxs_1564 : ∀ d, (List.map ecS x_1).getD i_1169.toNat d = ecS s_1564 := hxs_1564 ecS
    obtain ⟨s_1565, hbs_1565, hxs_1565, hys_1565, hm⟩ := idx_elim hm
    replace hxs_1565 : ∀ d, (List.map ecS y_2).getD j_1513.toNat d = ecS s_1565 := hxs_1565 ecS
    refine Wp.seqD (plan := pl [(0, none), (1, none), (2, none), (3, none), (4, none), (5, none), (6, none), (7, none), (8, none)]) (by kernel_rfl) rfl (by kernel_rfl) fun K50 hK50 => ?_
    simp only [go_sem, simprocAttr, hv_5, hs_1555, hv_1557, hxs_1564, hxs_1565]
    first | apply hK50 | refine ⟨sd, hK50 _ _ ?_⟩
    refine cM hm (fun hc51 hm => ?_) (fun hc51 hm => ?_)
    ·obtain ⟨c_1566, hm⟩ := chk_elim hm
     obtain ⟨c_1567, hm⟩ := chk_elim hm
     obtain ⟨c_1568, hm⟩ := chk_elim hm
     obtain ⟨c_1569, hm⟩ := chk_elim hm
     obtain ⟨c_1570, hm⟩ := chk_elim hm
     obtain ⟨c_1571, hm⟩ := chk_elim hm
     have hs_1572 := map_set_same (f := eN_encL_ecI_i64) (l := v_1556) (d := []) (i := i_1169.toNat) (x := List.set (v_1556.getD i_1169.toNat []) j_1513.toNat (max ((v_1556.getD i_1169.toNat []).getD j_1513.toNat 0) (IntKind.i64.wrap (1 + ((v_1556.getD ((IntKind.i64.wrap (i_1169 + 1)).toNat) []).getD ((IntKind.i64.wrap (j_1513 + 1)).toNat) 0))))) (by first | omega | (simp only [List.length_set, List.length_append, List.length_cons, List.length_nil] at *; omega)) rfl
     obtain ⟨v_1573, hv_1574, hm⟩ := letv_elim hm
     refine Wp.regDW (plan := pl [(0, none), (1, none), (2, none), (3, none), (4, none), (5, none), (6, none), (7, none), (8, none), (9, none), (10, none), (11, none), (12, none), (13, none), (14, none), (15, none), (16, none), (17, none), (18, none), (19, none), (20, none), (21, none), (22, none), (23, none), (24, some [])]) (by kernel_rfl) rfl (by kernel_rfl) fun K52 hK52 hW52 => ?_
     suffices hcont52 : K52 [(0, .p (.l (List.map ecS x_1))), (1, .p (.l (List.map ecS y_2))), (6, .p (.i .i64 (y_2.length : Int))), (7, .buf 0), (9, .p (.i .i64 i_1169)), (10, .p (.i .i64 j_1513)), (45, .p (.i .i64 j_1513)), (46, .p (.b (decide (0 ≤ j_1513)))), (72, .p (.l (List.map ecS x_1))), (73, .p (.i .i64 i_1169)), (74, .rp [.s s_1564]), (75, .p (.s s_1564)), (76, .p (.l (List.map ecS y_2))), (77, .p (.i .i64 j_1513)), (78, .rp [.s s_1565]), (79, .p (.s s_1565)), (80, .p (.b (decide (s_1564 = s_1565))))] [.nst false 57 1 0 1 (List.map eN_encL_ecI_i64 v_1573) none, .inn 3 1 (List.map iN_encL_ecI_i64 v_1573)] by
      have hr_1575 := fun h => getD_encB (l := v_1556) (e := eN_encL_ecI_i64) (d := []) (i := i_1169.toNat) h []
      have hr_1576 := fun h => getD_innB (l := v_1556) (f := iN_encL_ecI_i64) (d := []) (i := i_1169.toNat) h []
      have hr_1577 := fun h => getD_encB (l := (v_1556.getD i_1169.toNat [])) (e := ecI_i64) (d := 0) (i := j_1513.toNat) h []
      have hr_1578 := fun h => getD_encB (l := v_1556) (e := eN_encL_ecI_i64) (d := []) (i := (IntKind.i64.wrap (i_1169 + 1)).toNat) h []
      have hr_1579 := fun h => getD_innB (l := v_1556) (f := iN_encL_ecI_i64) (d := []) (i := (IntKind.i64.wrap (i_1169 + 1)).toNat) h []
      have hr_1580 := fun h => getD_encB (l := (v_1556.getD ((IntKind.i64.wrap (i_1169 + 1)).toNat) [])) (e := ecI_i64) (d := 0) (i := (IntKind.i64.wrap (j_1513 + 1)).toNat) h []
      subst hv_1574
      simp only [go_sem, simprocAttr, false_implies, and_true, true_and, bad, hv_5, hs_1555, hv_1557, hxs_1564, hxs_1565, hs_1572, hr_1575 (by omega), hr_1576 (by omega), hr_1577 (by omega), hr_1578 (by omega), hr_1579 (by omega), hr_1580 (by omega)]
      first | refine hW52 _ _ _ _ ?_ hcont52 | refine ⟨by first | exact sd | ((repeat' apply And.intro) <;> first | assumption | omega | (simp only [List.length_append, List.length_map, List.length_cons, List.length_nil, List.length_set, List.length_replicate] at c_1566 c_1567 c_1568 c_1569 c_1570 c_1571 ⊢; omega)), hW52 _ _ _ _ ?_ hcont52⟩
      simp only [go_sem, simprocAttr, false_implies, and_true, true_and, bad, hv_5, hs_1555, hv_1557, hxs_1564, hxs_1565, hs_1572, hr_1575 (by omega), hr_1576 (by omega), hr_1577 (by omega), hr_1578 (by omega), hr_1579 (by omega), hr_1580 (by omega)]
      try exact se3
     refine hK52 _ _ ?_
     refine hK48 _ _ ?_
     refine Wp.region fun K53 hK53 => ?_
     simp only [go_sem, simprocAttr, hv_5, hs_1555, hv_1557, hxs_1564, hxs_1565, hs_1572, hv_1574]
     first | apply hK53 | refine ⟨sd, hK53 _ _ ?_⟩
     simp only [thenQ, blockQ, ↓reduceIte]
     refine ⟨(IntKind.i64.wrap (j_1513 - 1), v_1573), hm, ?_⟩
     simp only [go_sem, simprocAttr, hv_5, hs_1555, hv_1557, hxs_1564, hxs_1565, hs_1572, hv_1574]
     try exact se3
    ·refine Wp.skip ?_
     refine hK48 _ _ ?_
     refine Wp.region fun K54 hK54 => ?_
     simp only [go_sem, simprocAttr, hv_5, hs_1555, hv_1557, hxs_1564, hxs_1565]
     first | apply hK54 | refine ⟨sd, hK54 _ _ ?_⟩
     simp only [thenQ, blockQ, ↓reduceIte]
     refine ⟨(IntKind.i64.wrap (j_1513 - 1), v_1556), hm, ?_⟩
     simp only [go_sem, simprocAttr, hv_5, hs_1555, hv_1557, hxs_1564, hxs_1565]
     try exact se3
   ·refine Wp.exit ?_
    simp only [thenQ, blockQ, ↓reduceIte]
    have hm := hk_1547 _ hm
    try dsimp only at hm
    refine hW42 _ _ _ _ ?_ (hcut42 o0_1514 hm)
    simp only [go_sem, simprocAttr, hv_5]
    try exact se3
  ·refine Wp.exit ?_
   simp only [thenQ, blockQ, ↓reduceIte]
   have hm := hk_1375 _ hm
   try dsimp only at hm
   refine hW5 _ _ _ _ ?_ (hcut5 o0_1170 hm)
   simp only [go_sem, simprocAttr, hv_5]
   try exact se3
 clear hK4 hk_30
 refine Wp.seqR fun K55 hK55 => ?_
 simp only [go_sem, simprocAttr, hv_5]
 first | apply hK55 | refine ⟨sd, hK55 _ _ ?_⟩
 refine Wp.block ?_
 obtain ⟨k_1596, hk_1596, hm⟩ := loopN_cont hm
 refine Wp.loopN (fun s => [(0, .p (.l (List.map ecS x_1))), (1, .p (.l (List.map ecS y_2))), (5, .p (.i .i64 (x_1.length : Int))), (6, .p (.i .i64 (y_2.length : Int))), (7, .buf 0), (26, .p (.i .i64 (v_4.length : Int))), (27, .p (.i .i64 s.1))]) (fun s => [.nst false 57 1 0 1 (List.map eN_encL_ecI_i64 s.2) none, .inn 3 1 (List.map iN_encL_ecI_i64 s.2)]) ?_ hm ?_
 ·
  simp only [go_sem, simprocAttr, hv_5]
  try exact se3
 clear hm
 intro s nx_1597 hm
 obtain ⟨t27_1588, o0_1589⟩ := s
 try dsimp only at hm
 try dsimp only
 refine Wp.seqR fun K56 hK56 => ?_
 simp only [go_sem, simprocAttr, hv_5]
 first | apply hK56 | refine ⟨sd, hK56 _ _ ?_⟩
 refine Wp.seqW fun K57 hK57 hW57 => ?_
 refine cM hm (fun hc58 hm => ?_) (fun hc58 hm => ?_)
 ·refine Wp.skip ?_
  refine hK57 _ _ ?_
  refine Wp.seqW fun K59 hK59 hW59 => ?_
  refine Wp.block ?_
  refine Wp.seqR fun K60 hK60 => ?_
  simp only [go_sem, simprocAttr, hv_5]
  first | apply hK60 | refine ⟨sd, hK60 _ _ ?_⟩
  obtain ⟨c_1598, hm⟩ := chk_elim hm
  obtain ⟨c_1599, hm⟩ := chk_elim hm
  have hs_1600 := map_set_same (f := eN_encL_ecI_i64) (l := o0_1589) (d := []) (i := t27_1588.toNat) (x := List.replicate ((IntKind.i64.wrap ((y_2.length : Int) + 1)).toNat) 0) (by first | omega | (simp only [List.length_set, List.length_append, List.length_cons, List.length_nil] at *; omega)) rfl
  obtain ⟨v_1601, hv_1602, hm⟩ := letv_elim hm
  refine Wp.regRW fun K61 hK61 hW61 => ?_
  suffices hcont61 : K61 [(0, .p (.l (List.map ecS x_1))), (1, .p (.l (List.map ecS y_2))), (5, .p (.i .i64 (x_1.length : Int))), (6, .p (.i .i64 (y_2.length : Int))), (7, .buf 0), (8, .p (.i .i64 t27_1588)), (26, .p (.i .i64 (v_4.length : Int))), (27, .p (.i .i64 t27_1588)), (28, .p (.b (decide (t27_1588 < (v_4.length : Int))))), (29, .p (.i .i64 t27_1588))] [.nst false 57 1 0 1 (List.map eN_encL_ecI_i64 v_1601) none, .inn 3 1 (List.map iN_encL_ecI_i64 v_1601), .gone] by
   have hr_1603 := fun h => getD_innB (l := o0_1589) (f := iN_encL_ecI_i64) (d := []) (i := t27_1588.toNat) h []
   subst hv_1602
   simp only [go_sem, simprocAttr, false_implies, and_true, true_and, bad, hv_5, hs_1600, hr_1603 (by omega)]
   first | refine hW61 _ _ _ _ ?_ hcont61 | refine ⟨by first | exact sd | ((repeat' apply And.intro) <;> first | assumption | omega | (simp only [List.length_append, List.length_map, List.length_cons, List.length_nil, List.length_set, List.length_replicate] at c_1598 c_1599 ⊢; omega)), hW61 _ _ _ _ ?_ hcont61⟩
   simp only [go_sem, simprocAttr, false_implies, and_true, true_and, bad, hv_5, hs_1600, hr_1603 (by omega)]
   try exact se3
  refine hK61 _ _ ?_
  refine hK59 _ _ ?_
  refine Wp.region fun K62 hK62 => ?_
  simp only [go_sem, simprocAttr, hv_5, hs_1600, hv_1602]
  first | apply hK62 | refine ⟨sd, hK62 _ _ ?_⟩
  simp only [thenQ, blockQ, ↓reduceIte]
  refine ⟨(IntKind.i64.wrap (t27_1588 + 1), v_1601), hm, ?_⟩
  simp only [go_sem, simprocAttr, hv_5, hs_1600, hv_1602]
  try exact se3
 ·refine Wp.exit ?_
  simp only [thenQ, blockQ, ↓reduceIte]
  have hm := hk_1596 _ hm
  try dsimp only at hm
  refine hW4 _ _ _ _ ?_ (hcut4 o0_1589 hm)
  simp only [go_sem, simprocAttr, hv_5]
  try exact se3
theorem ok_slices_Equal_2_int_2_int (s1_1 : List Arr2_Int) (s2_2 : List Arr2_Int) (z : Bool) (hm : slices_Equal_2_int_2_int s1_1 s2_2 = some z) : Does Tryd.prog 12 [.p (.l (List.map enc_Arr2_Int s1_1)), .p (.l (List.map enc_Arr2_Int s2_2))] [] (fun r X => r = .p (.b z) ∧ X = []) := by
 unfold slices_Equal_2_int_2_int at hm
 refine Does.of_wp 0 26 [.tmp 4] Tryd.func12 rfl (by decide) rfl rfl (Nat.le_of_ble_eq_true rfl) fun B => ?_
 refine qS ?_
 refine Wp.seqW fun K2 hK2 hW2 => ?_
 refine qS ?_
 refine cM hm (fun hc4 hm => ?_) (fun hc4 hm => ?_)
 ·refine qS ?_
  refine Wp.ret ?_
  refine retQ_ret ?_
  cases hm
  exact fse3
 ·refine Wp.skip ?_
  refine hK2 _ _ ?_
  refine Wp.seqW fun K6 hK6 hW6 => ?_
  obtain ⟨k_12, hk_12, hm⟩ := jp_elim hm
  have hcut6 : ∀ s, k_12 s = some z → K6 [] [] := by
   intro s hs
   have hm := hk_12 _ hs
   clear hs
   try dsimp only at hm
   try dsimp only
   refine hK6 _ _ ?_
   refine qS ?_
   refine Wp.ret ?_
   refine retQ_ret ?_
   cases hm
   exact fse3
  clear hK6 hk_12
  refine qS ?_
  refine Wp.block ?_
  obtain ⟨k_16, hk_16, hm⟩ := forL_cont hm
  refine Wp.fact 0 fun hl_19 => ?_
  replace hl_19 : s1_1.length ≤ 274877906944 := by
   simp only [go_sem, simprocAttr, List.length_map] at hl_19
   omega
  refine Wp.forL (fun i_18 s => [(0, .p (.l (List.map enc_Arr2_Int s1_1))), (1, .p (.l (List.map enc_Arr2_Int s2_2))), (12, .p (.i .i64 (s1_1.length : Int))), (13, .p (.i .i64 (i_18 : Int)))]) (fun i_18 s => []) ?_ hm ?_
  ·
   exact fse3
  clear hm
  intro i_18 s hii_18 hm
  try dsimp only at hm
  try dsimp only
  refine qS ?_
  refine Wp.seqW fun K10 hK10 hW10 => ?_
  refine Wp.cond rfl ⟨⟩ (fun hc10 => ?_) (fun hc10 => ?_)
  rotate_left
  ·refine Wp.exit ?_
   have hm := hk_16 _ (forL_end hm (ge_nat (by first | exact hc10 | simpa using hc10)))
   try dsimp only at hm
   refine hW6 _ _ _ _ ?_ (hcut6 () hm)
   exact fse3
  have hlt10 := lt_nat (by first | exact hc10 | simpa using hc10)
  have hw10 := wrap_succ hlt10 hl_19
  obtain ⟨x_20, nx_17, hxx_20, hyx_20, hnx_17, hm⟩ := forL_step hm hlt10
  replace hxx_20 := hxx_20 enc_Arr2_Int
  refine Wp.skip ?_
  simp only [thenQ]
  refine hK10 _ _ ?_
  refine Wp.seqW fun K11 hK11 hW11 => ?_
  refine Wp.block ?_
  refine Wp.seqR fun K12 hK12 => ?_
  simp only [go_sem, simprocAttr, hw10, hxx_20]
  first | apply hK12 | refine ⟨sd, hK12 _ _ ?_⟩
  obtain ⟨x_21, hbx_21, hxx_21, hyx_21, hm⟩ := idx_elim hm
  replace hxx_21 : ∀ d, (List.map enc_Arr2_Int s2_2).getD i_18 d = enc_Arr2_Int x_21 := hxx_21 enc_Arr2_Int
  refine Wp.seqD (plan := pl [(0, none), (1, none), (2, none), (3, none), (4, none), (5, none), (6, none), (7, none), (8, none)]) (by kernel_rfl) rfl (by kernel_rfl) fun K13 hK13 => ?_
  simp only [go_sem, simprocAttr, hw10, hxx_20, hxx_21]
  first | apply hK13 | refine ⟨sd, hK13 _ _ ?_⟩
  refine cM hm (fun hc14 hm => ?_) (fun hc14 hm => ?_)
  ·refine Wp.seqR fun K15 hK15 => ?_
   simp only [go_sem, simprocAttr, hw10, hxx_20, hxx_21]
   first | apply hK15 | refine ⟨sd, hK15 _ _ ?_⟩
   refine Wp.ret ?_
   refine retQ_ret ?_
   cases hm
   simp only [go_sem, simprocAttr, hw10, hxx_20, hxx_21]
   try exact se3
  ·refine Wp.skip ?_
   refine hK11 _ _ ?_
   refine Wp.region fun K16 hK16 => ?_
   simp only [go_sem, simprocAttr, hw10, hxx_20, hxx_21]
   first | apply hK16 | refine ⟨sd, hK16 _ _ ?_⟩
   simp only [thenQ, blockQ, ↓reduceIte]
   refine ⟨(), hlt10, hnx_17 _ hm, ?_⟩
   simp only [go_sem, simprocAttr, hw10, hxx_20, hxx_21]
   try exact se3
theorem ok_delta_places (pairs_1 : List Arr2_Int) (many_2 : Int) (z : List Int) (hm : delta_places pairs_1 many_2 = some z) : Does Tryd.prog 46 [.p (.l (List.map enc_Arr2_Int pairs_1)), .p (.i .i64 many_2)] [] (fun r X => r = .p (.l (List.map ecI_i64 z)) ∧ X = []) := by
 unfold delta_places at hm
 refine Does.of_wp 0 34 [.tmp 4] Tryd.func46 rfl (by decide) rfl rfl (Nat.le_of_ble_eq_true rfl) fun B => ?_
 refine qS ?_
 obtain ⟨c_3, hm⟩ := chk_elim hm
 refine Wp.seqR fun K2 hK2 => ?_
 simp only [go_sem, simprocAttr]
 first | apply hK2 | refine ⟨by first | exact sd | ((repeat' apply And.intro) <;> first | assumption | omega | (simp only [List.length_append, List.length_map, List.length_cons, List.length_nil, List.length_set, List.length_replicate] at c_3 ⊢; omega)), hK2 _ _ ?_⟩
 refine Wp.seqW fun K3 hK3 hW3 => ?_
 obtain ⟨k_13, hk_13, hm⟩ := jp_elim hm
 have hcut3 : ∀ s, k_13 s = some z → K3 [(0, .p (.l (List.map enc_Arr2_Int pairs_1))), (5, .buf 0)] [.buf 3 1 (List.map ecI_i64 s)] := by
  intro o0_12 hs
  have hm := hk_13 _ hs
  clear hs
  try dsimp only at hm
  try dsimp only
  refine hK3 _ _ ?_
  refine Wp.seqW fun K4 hK4 hW4 => ?_
  obtain ⟨k_28, hk_28, hm⟩ := jp_elim hm
  have hcut4 : ∀ s, k_28 s = some z → K4 [(5, .buf 0)] [.buf 3 1 (List.map ecI_i64 s)] := by
   intro o0_27 hs
   have hm := hk_28 _ hs
   clear hs
   try dsimp only at hm
   try dsimp only
   refine hK4 _ _ ?_
   refine qS ?_
   refine Wp.ret ?_
   refine retQ_ret ?_
   cases hm
   exact fse3
  clear hK4 hk_28
  refine qS ?_
  refine Wp.block ?_
  obtain ⟨k_36, hk_36, hm⟩ := forL_cont hm
  refine Wp.fact 20 fun hl_39 => ?_
  replace hl_39 : pairs_1.length ≤ 274877906944 := by
   simp only [go_sem, simprocAttr, List.length_map] at hl_39
   omega
  refine Wp.forL (fun i_38 s => [(5, .buf 0), (20, .p (.l (List.map enc_Arr2_Int pairs_1))), (21, .p (.i .i64 (pairs_1.length : Int))), (22, .p (.i .i64 (i_38 : Int)))]) (fun i_38 s => [.buf 3 1 (List.map ecI_i64 s)]) ?_ hm ?_
  ·
   exact fse3
  clear hm
  intro i_38 o0_33 hii_38 hm
  try dsimp only at hm
  try dsimp only
  refine qS ?_
  refine Wp.seqW fun K8 hK8 hW8 => ?_
  refine Wp.cond rfl ⟨⟩ (fun hc8 => ?_) (fun hc8 => ?_)
  rotate_left
  ·refine Wp.exit ?_
   have hm := hk_36 _ (forL_end hm (ge_nat (by first | exact hc8 | simpa using hc8)))
   try dsimp only at hm
   refine hW4 _ _ _ _ ?_ (hcut4 o0_33 hm)
   exact fse3
  have hlt8 := lt_nat (by first | exact hc8 | simpa using hc8)
  have hw8 := wrap_succ hlt8 hl_39
  obtain ⟨x_40, nx_37, hxx_40, hyx_40, hnx_37, hm⟩ := forL_step hm hlt8
  replace hxx_40 := hxx_40 enc_Arr2_Int
  refine Wp.skip ?_
  simp only [thenQ]
  refine hK8 _ _ ?_
  refine Wp.seqW fun K9 hK9 hW9 => ?_
  refine Wp.block ?_
  refine Wp.seqR fun K10 hK10 => ?_
  simp only [go_sem, simprocAttr, hw8, hxx_40]
  first | apply hK10 | refine ⟨sd, hK10 _ _ ?_⟩
  obtain ⟨c_41, hm⟩ := chk_elim hm
  refine Wp.region fun K11 hK11 => ?_
  simp only [go_sem, simprocAttr, hw8, hxx_40]
  first | apply hK11 | refine ⟨by first | exact sd | ((repeat' apply And.intro) <;> first | assumption | omega | (simp only [List.length_append, List.length_map, List.length_cons, List.length_nil, List.length_set, List.length_replicate] at c_41 ⊢; omega)), hK11 _ _ ?_⟩
  refine hK9 _ _ ?_
  refine Wp.region fun K12 hK12 => ?_
  simp only [go_sem, simprocAttr, hw8, hxx_40]
  first | apply hK12 | refine ⟨sd, hK12 _ _ ?_⟩
  simp only [thenQ, blockQ, ↓reduceIte]
  refine ⟨List.set o0_33 x_40.a0.toNat x_40.a1, hlt8, hnx_37 _ hm, ?_⟩
  simp only [go_sem, simprocAttr, hw8, hxx_40]
  try exact se3
 clear hK3 hk_13
 refine qS ?_
 refine Wp.block ?_
 obtain ⟨k_47, hk_47, hm⟩ := loopN_cont hm
 refine Wp.loopN (fun s => [(0, .p (.l (List.map enc_Arr2_Int pairs_1))), (5, .buf 0), (12, .p (.i .i64 ((List.replicate many_2.toNat 0).length : Int))), (13, .p (.i .i64 s.1))]) (fun s => [.buf 3 1 (List.map ecI_i64 s.2)]) ?_ hm ?_
 ·
  exact fse3
 clear hm
 intro s nx_48 hm
 obtain ⟨t13_44, o0_45⟩ := s
 try dsimp only at hm
 try dsimp only
 refine qS ?_
 refine Wp.seqW fun K15 hK15 hW15 => ?_
 refine cM hm (fun hc16 hm => ?_) (fun hc16 hm => ?_)
 ·refine Wp.skip ?_
  refine hK15 _ _ ?_
  refine Wp.seqW fun K17 hK17 hW17 => ?_
  refine Wp.block ?_
  refine qS ?_
  obtain ⟨c_49, hm⟩ := chk_elim hm
  refine Wp.region fun K19 hK19 => ?_
  simp only [go_sem, simprocAttr]
  first | apply hK19 | refine ⟨by first | exact sd | ((repeat' apply And.intro) <;> first | assumption | omega | (simp only [List.length_append, List.length_map, List.length_cons, List.length_nil, List.length_set, List.length_replicate] at c_49 ⊢; omega)), hK19 _ _ ?_⟩
  refine hK17 _ _ ?_
  refine qR ?_
  simp only [thenQ, blockQ, ↓reduceIte]
  refine ⟨(IntKind.i64.wrap (t13_44 + 1), List.set o0_45 t13_44.toNat (-1)), hm, ?_⟩
  exact fse3
 ·refine Wp.exit ?_
  simp only [thenQ, blockQ, ↓reduceIte]
  have hm := hk_47 _ hm
  try dsimp only at hm
  refine hW3 _ _ _ _ ?_ (hcut3 o0_45 hm)
  exact fse3
theorem ok_strings_Builder_Grow (n : Int) (o0 : Str) (z : Unit) (hm : strings_Builder_Grow n o0 = some z) : Does Tryd.prog 62 [.ptr 0 0, .p (.i .i64 n)] [.cells 81 [.np 0, .buf 1], .sb 5 o0] (fun r X => r = .tup [] ∧ X = [.cells 81 [.np 0, .buf 1], .sb 5 o0]) := by
 obtain ⟨h, -⟩ := chk_elim hm
 obtain ⟨k, rfl⟩ := Int.eq_ofNat_of_zero_le h.1
 exact Does.grow growLay growExt k o0 (by omega)
theorem ok_strings_Builder_copyCheck_i1 (o1_1 : Str) (z : Unit) (hm : strings_Builder_copyCheck_i1 o1_1 = some z) : Does Tryd.prog 99 [.ptr 0 0] [.cells 81 [.nil, .buf 1], .sb 5 o1_1] (fun r X => r = .tup [] ∧ X = [.cells 81 [.ptr 0 0, .buf 1], .sb 5 o1_1]) := by
 unfold strings_Builder_copyCheck_i1 at hm
 refine Does.of_wp 2 20 [] Tryd.func99 rfl (by decide) rfl rfl (Nat.le_of_ble_eq_true rfl) fun B => ?_
 refine qS ?_
 refine Wp.cond rfl ⟨⟩ (fun hc2 => ?_) (fun hc2 => ?_)
 rotate_left
 ·cases hc2
 refine Wp.region fun K3 hK3 => ?_
 simp only [go_sem, simprocAttr]
 try refine ⟨sd, ?_⟩
 refine Rg.callI (v := ?av4) (g := true) nvi_115 si si sg ?cont4
 simp only [go_sem, simprocAttr]
 first | apply hK3 | refine ⟨sd, hK3 _ _ ?_⟩
 refine retQ_normal ?_
 cases hm
 exact fse3
theorem ok_strings_Builder_copyCheck_i2 (o1_1 : Str) (z : Unit) (hm : strings_Builder_copyCheck_i2 o1_1 = some z) : Does Tryd.prog 99 [.ptr 0 0] [.cells 81 [.ptr 0 0, .buf 1], .sb 5 o1_1] (fun r X => r = .tup [] ∧ X = [.cells 81 [.ptr 0 0, .buf 1], .sb 5 o1_1]) := by
 unfold strings_Builder_copyCheck_i2 at hm
 refine Does.of_wp 2 20 [] Tryd.func99 rfl (by decide) rfl rfl (Nat.le_of_ble_eq_true rfl) fun B => ?_
 refine qS ?_
 refine Wp.cond rfl ⟨⟩ (fun hc2 => ?_) (fun hc2 => ?_)
 ·cases hc2
 refine qS ?_
 refine Wp.cond rfl ⟨⟩ (fun hc4 => ?_) (fun hc4 => ?_)
 ·cases hc4
 refine Wp.skip ?_
 refine retQ_normal ?_
 cases hm
 exact fse3
theorem ok_strings_Builder_copyCheck_np (o0 : Str) (z : Unit) (hm : strings_Builder_copyCheck_np o0 = some z) : Does Tryd.prog 99 [.ptr 0 0] [.cells 81 [.np 0, .buf 1], .sb 5 o0] (fun r X => r = .tup [] ∧ X = [.cells 81 [.np 0, .buf 1], .sb 5 o0]) :=
 Does.np (ok_strings_Builder_copyCheck_i1 o0 () rfl) (ok_strings_Builder_copyCheck_i2 o0 () rfl)
theorem ok_strings_Builder_WriteString_i1 (s_1 : Str) (o1_2 : Str) (z : Int × Str) (hm : strings_Builder_WriteString_i1 s_1 o1_2 = some z) : Does Tryd.prog 50 [.ptr 0 0, .p (.s s_1)] [.cells 81 [.np 0, .buf 1], .sb 5 o1_2] (fun r X => r = .tup [.p (.i .i64 z.1), .raw .nilIface] ∧ X = [.cells 81 [.np 0, .buf 1], .sb 5 z.2]) := by
 unfold strings_Builder_WriteString_i1 at hm
 refine Does.of_wp 2 19 [.tmp 4, .tmp 5] Tryd.func50 rfl (by decide) rfl rfl (Nat.le_of_ble_eq_true rfl) fun B => ?_
 refine qS ?_
 obtain ⟨r_5, hr_5, hm⟩ := call_elim hm
 refine Wp.seqR fun K2 hK2 => ?_
 simp only [go_sem, simprocAttr]
 try refine ⟨sd, ?_⟩
 refine Rg.callO (av := ?av3) [0, 1] (ok_strings_Builder_copyCheck_np o1_2 _ hr_5) si si si sg sg ?cont3
 rintro _ _ ⟨rfl, rfl⟩ hv3
 simp only [go_sem, simprocAttr]
 first | apply hK2 | refine ⟨sd, hK2 _ _ ?_⟩
 obtain ⟨c_6, hm⟩ := chk_elim hm
 refine Wp.seqR fun K4 hK4 => ?_
 simp only [go_sem, simprocAttr]
 first | apply hK4 | refine ⟨by first | exact sd | ((repeat' apply And.intro) <;> first | assumption | omega | (simp only [List.length_append, List.length_map, List.length_cons, List.length_nil, List.length_set, List.length_replicate] at c_6 ⊢; omega)), hK4 _ _ ?_⟩
 refine qS ?_
 refine Wp.ret ?_
 refine retQ_ret ?_
 cases hm
 exact fse3
theorem ok_strings_Builder_String_i1 (o1_1 : Str) (z : Str) (hm : strings_Builder_String_i1 o1_1 = some z) : Does Tryd.prog 52 [.ptr 0 0] [.cells 81 [.np 0, .buf 1], .sb 5 o1_1] (fun r X => r = .p (.s z) ∧ X = [.cells 81 [.np 0, .buf 1], .sb 5 o1_1]) := by
 unfold strings_Builder_String_i1 at hm
 refine Does.of_wp 2 14 [.tmp 2] Tryd.func52 rfl (by decide) rfl rfl (Nat.le_of_ble_eq_true rfl) fun B => ?_
 refine qS ?_
 refine Wp.seqD (plan := pl [(0, none), (1, none), (2, none), (3, none), (5, none), (6, none), (7, none), (8, none), (9, none), (4, some [5, 6, 7, 8, 9]), (10, some []), (11, none)]) (by kernel_rfl) rfl (by kernel_rfl) fun K2 hK2 => ?_
 simp only [go_sem, simprocAttr]
 first | apply hK2 | refine ⟨sd, hK2 _ _ ?_⟩
 refine Wp.ret ?_
 refine retQ_ret ?_
 cases hm
 exact fse3
end Go.Proofs.YtkekfenkeeiigaaDoor
