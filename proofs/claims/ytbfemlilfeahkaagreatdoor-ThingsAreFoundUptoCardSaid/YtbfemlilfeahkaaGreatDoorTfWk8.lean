/- That the code does what the models say (part 8). -/
import Derived.Test.YtbfemlilfeahkaaGreatDoorTfWk0
import Derived.Test.YtbfemlilfeahkaaGreatDoorTfWk1
import Derived.Test.YtbfemlilfeahkaaGreatDoorTfWk4
import Derived.Test.YtbfemlilfeahkaaGreatDoorTfWk6
import Derived.Test.YtbfemlilfeahkaaGreatDoorTfWk7
set_option linter.unusedSimpArgs false
set_option linter.unusedVariables false
open Go.Proofs Go.Shelf
namespace Go.Proofs.YtbfemlilfeahkaaGreatDoor
open Go.Vc Go.Md
set_option maxRecDepth 100000
set_option maxHeartbeats 4000000
theorem ok_disk_pathOf (f_1 : api_File) (z : Str) (hm : disk_pathOf f_1 = some z) : Does Tryz.prog 80 [.agg [.p (.s f_1.Path), .p (.s f_1.Data), .p (.b f_1.Runs)]] [] (fun r X => r = .p (.s z) ∧ X = []) := by
  unfold disk_pathOf at hm
  refine Does.of_wp 0 5 [.tmp 2] Tryz.func80 rfl (by decide) rfl rfl (Nat.le_of_ble_eq_true rfl) fun B => ?_
  refine Wp.seqR fun K1 hK1 => ?_
  simp only [go_sem, simprocAttr]
  first | refine hK1 _ _ ?_ | refine ⟨sd, hK1 _ _ ?_⟩
  refine Wp.seqR fun K2 hK2 => ?_
  simp only [go_sem, simprocAttr]
  first | refine hK2 _ _ ?_ | refine ⟨sd, hK2 _ _ ?_⟩
  refine Wp.ret ?_
  refine retQ_ret ?_
  cases hm
  simp only [go_sem, simprocAttr]
  try exact se2
theorem ok_disk_found_api_File_1_i1 (x_1 : api_File) (k_2 : Str) (z : Int) (hm : disk_found_api_File_1_i1 x_1 k_2 = some z) : Does Tryz.prog 175 [.agg [.p (.s x_1.Path), .p (.s x_1.Data), .p (.b x_1.Runs)], .p (.s k_2), .ptr 0 0] [.cells 107 [.fn 80 []]] (fun r X => r = .p (.i .i64 z) ∧ X = [.cells 107 [.fn 80 []]]) := by
  unfold disk_found_api_File_1_i1 at hm
  refine Does.of_wp 1 11 [.tmp 5] Tryz.func175 rfl (by decide) rfl rfl (Nat.le_of_ble_eq_true rfl) fun B => ?_
  refine Wp.seqR fun K1 hK1 => ?_
  simp only [go_sem, simprocAttr]
  first | refine hK1 _ _ ?_ | refine ⟨sd, hK1 _ _ ?_⟩
  obtain ⟨r_5, hr_5, hm⟩ := call_elim hm
  obtain ⟨r_6, hr_6, hm⟩ := call_elim hm
  refine Wp.seqR fun K2 hK2 => ?_
  simp only [go_sem, simprocAttr]
  try refine ⟨sd, ?_⟩
  refine Rg.callX (av := ?av3) (g := true) (fun hg => ok_disk_pathOf x_1 _ hr_5) si si si sg si ?cont3
  intro hv3
  simp only [go_sem, simprocAttr]
  try refine ⟨sd, ?_⟩
  refine Rg.callX (av := ?av4) (g := true) (fun hg => ok_strings_Compare r_5 k_2 _ hr_6) si si si sg si ?cont4
  intro hv4
  simp only [go_sem, simprocAttr]
  first | refine hK2 _ _ ?_ | refine ⟨sd, hK2 _ _ ?_⟩
  refine Wp.ret ?_
  refine retQ_ret ?_
  cases hm
  simp only [go_sem, simprocAttr]
  try exact se2
theorem ok_slices_BinarySearchFunc_api_File_api_File_string_i1 (x_1 : List api_File) (target_2 : Str) (z : Int × Bool) (hm : slices_BinarySearchFunc_api_File_api_File_string_i1 x_1 target_2 = some z) : Does Tryz.prog 174 [.p (.l (List.map enc_api_File x_1)), .p (.s target_2), .fn 175 [.ptr 0 0]] [.cells 107 [.fn 80 []]] (fun r X => r = .tup [.p (.i .i64 z.1), .p (.b z.2)] ∧ X = [.cells 107 [.fn 80 []]]) := by
  unfold slices_BinarySearchFunc_api_File_api_File_string_i1 at hm
  refine Does.of_wp 1 49 [.tmp 6, .tmp 7] Tryz.func174 rfl (by decide) rfl rfl (Nat.le_of_ble_eq_true rfl) fun B => ?_
  refine Wp.seqR fun K1 hK1 => ?_
  simp only [go_sem, simprocAttr]
  first | refine hK1 _ _ ?_ | refine ⟨sd, hK1 _ _ ?_⟩
  refine Wp.seqR fun K2 hK2 => ?_
  simp only [go_sem, simprocAttr]
  first | refine hK2 _ _ ?_ | refine ⟨sd, hK2 _ _ ?_⟩
  refine Wp.seqR fun K3 hK3 => ?_
  simp only [go_sem, simprocAttr]
  first | refine hK3 _ _ ?_ | refine ⟨sd, hK3 _ _ ?_⟩
  refine Wp.seqW fun K4 hK4 hW4 => ?_
  obtain ⟨k_33, hk_33, hm⟩ := jp_elim hm
  have hcut4 : ∀ s, k_33 s = some z → K4 [(0, .p (.l (List.map enc_api_File x_1))), (1, .p (.s target_2)), (2, .fn 175 [.ptr 0 0]), (8, .p (.i .i64 (x_1.length : Int))), (9, .p (.i .i64 s))] [.cells 107 [.fn 80 []]] := by
    intro i_32 hs
    have hm := hk_33 _ hs
    clear hs
    try dsimp only at hm
    try dsimp only
    refine hK4 _ _ ?_
    obtain ⟨c_34, hm⟩ := chk_elim hm
    obtain ⟨r_35, hr_35, hm⟩ := callG_elim hm
    have hr_36 := getD_enc (l := x_1) (e := enc_api_File) (d := (api_File.mk [] [] false)) (i := i_32.toNat)
    simp only [enc_api_File, List.map_nil] at hr_36
    refine Wp.seqR fun K5 hK5 => ?_
    simp only [go_sem, simprocAttr, hr_36]
    try refine ⟨by first | exact sd | ((repeat' apply And.intro) <;> first | assumption | omega | (simp only [List.length_append, List.length_map, List.length_cons, List.length_nil, List.length_set, List.length_replicate] at c_34 ⊢; omega)), ?_⟩
    refine Rg.callR (av := ?av6) (g := decide (i_32 < (x_1.length : Int))) [0] (fun hg => ok_disk_found_api_File_1_i1 (api_File.mk ((x_1.getD i_32.toNat (api_File.mk [] [] false)).Path) ((x_1.getD i_32.toNat (api_File.mk [] [] false)).Data) ((x_1.getD i_32.toNat (api_File.mk [] [] false)).Runs)) target_2 _ (hr_35 hg)) (by simp only [go_sem, simprocAttr, hr_36]; exact Is.mk) (by simp only [go_sem, simprocAttr, hr_36]; exact Is.mk) (by simp only [go_sem, simprocAttr, hr_36]; exact Is.mk) (by simp only [go_sem, simprocAttr, hr_36]; exact Is.mk) (by simp only [go_sem, simprocAttr, hr_36]) (by simp only [go_sem, simprocAttr, hr_36]) (by simp only [go_sem, simprocAttr, hr_36]) ?cont6
    simp only [go_sem, simprocAttr, hr_36]
    first | refine hK5 _ _ ?_ | refine ⟨by first | exact sd | ((repeat' apply And.intro) <;> first | assumption | omega | (simp only [List.length_append, List.length_map, List.length_cons, List.length_nil, List.length_set, List.length_replicate] at c_34 ⊢; omega)), hK5 _ _ ?_⟩
    refine Wp.ret ?_
    refine retQ_ret ?_
    cases hm
    simp only [go_sem, simprocAttr]
    try exact se2
  clear hK4 hk_33
  refine Wp.block ?_
  obtain ⟨k_41, hk_41, hm⟩ := loopN_cont hm
  refine Wp.loopN (fun s => [(0, .p (.l (List.map enc_api_File x_1))), (1, .p (.s target_2)), (2, .fn 175 [.ptr 0 0]), (8, .p (.i .i64 (x_1.length : Int))), (9, .p (.i .i64 s.1)), (10, .p (.i .i64 s.2))]) (fun s => [.cells 107 [.fn 80 []]]) ?_ hm ?_
  ·
    simp only [go_sem, simprocAttr]
    try exact se2
  clear hm
  intro s nx_42 hm
  obtain ⟨i_37, j_38⟩ := s
  try dsimp only at hm
  try dsimp only
  refine Wp.seqW fun K7 hK7 hW7 => ?_
  refine Wp.seqR fun K8 hK8 => ?_
  simp only [go_sem, simprocAttr]
  first | refine hK8 _ _ ?_ | refine ⟨sd, hK8 _ _ ?_⟩
  refine Wp.cond rfl ⟨⟩ (fun hc9 => ?_) (fun hc9 => ?_)
  · have hm := brT hm (sb hc9)
    refine Wp.skip ?_
    simp only [thenQ, blockQ, ↓reduceIte]
    refine hK7 _ _ ?_
    refine Wp.block ?_
    refine Wp.seqR fun K10 hK10 => ?_
    simp only [go_sem, simprocAttr]
    first | refine hK10 _ _ ?_ | refine ⟨sd, hK10 _ _ ?_⟩
    obtain ⟨f_43, hbf_43, hxf_43, hyf_43, hm⟩ := idx_elim hm
    replace hxf_43 : ∀ d, (List.map enc_api_File x_1).getD ((IntKind.i64.wrap (Int.fdiv (IntKind.u64.wrap (IntKind.i64.wrap (i_37 + j_38))) (2 ^ (shI .u64 1)))).toNat) d = enc_api_File f_43 := hxf_43 enc_api_File
    obtain ⟨r_44, hr_44, hm⟩ := call_elim hm
    refine Wp.seqR fun K11 hK11 => ?_
    simp only [go_sem, simprocAttr, hxf_43]
    try refine ⟨sd, ?_⟩
    refine Rg.callR (av := ?av12) (g := true) [0] (fun hg => ok_disk_found_api_File_1_i1 f_43 target_2 _ hr_44) (by simp only [go_sem, simprocAttr, hxf_43]; exact Is.mk) (by simp only [go_sem, simprocAttr, hxf_43]; exact Is.mk) (by simp only [go_sem, simprocAttr, hxf_43]; exact Is.mk) (by simp only [go_sem, simprocAttr, hxf_43]; exact Is.mk) (by simp only [go_sem, simprocAttr, hxf_43]) (by simp only [go_sem, simprocAttr, hxf_43]) (by simp only [go_sem, simprocAttr, hxf_43]) ?cont12
    simp only [go_sem, simprocAttr, hxf_43]
    first | refine hK11 _ _ ?_ | refine ⟨sd, hK11 _ _ ?_⟩
    refine Wp.cond rfl ⟨⟩ (fun hc13 => ?_) (fun hc13 => ?_)
    · have hm := brT hm (sb hc13)
      refine Wp.region fun K14 hK14 => ?_
      simp only [go_sem, simprocAttr, hxf_43]
      first | refine hK14 _ _ ?_ | refine ⟨sd, hK14 _ _ ?_⟩
      simp only [thenQ, blockQ, ↓reduceIte]
      refine ⟨(IntKind.i64.wrap ((IntKind.i64.wrap (Int.fdiv (IntKind.u64.wrap (IntKind.i64.wrap (i_37 + j_38))) (2 ^ (shI .u64 1)))) + 1), j_38), hm, ?_⟩
      simp only [go_sem, simprocAttr, hxf_43]
      try exact se2
    · have hm := brF hm (sb hc13)
      refine Wp.region fun K15 hK15 => ?_
      simp only [go_sem, simprocAttr, hxf_43]
      first | refine hK15 _ _ ?_ | refine ⟨sd, hK15 _ _ ?_⟩
      simp only [thenQ, blockQ, ↓reduceIte]
      refine ⟨(i_37, IntKind.i64.wrap (Int.fdiv (IntKind.u64.wrap (IntKind.i64.wrap (i_37 + j_38))) (2 ^ (shI .u64 1)))), hm, ?_⟩
      simp only [go_sem, simprocAttr, hxf_43]
      try exact se2
  · have hm := brF hm (sb hc9)
    refine Wp.exit ?_
    simp only [thenQ, blockQ, ↓reduceIte]
    have hm := hk_41 _ hm
    try dsimp only at hm
    refine hW4 _ _ _ _ ?_ (hcut4 i_37 hm)
    simp only [go_sem, simprocAttr]
    try exact se2
theorem ok_disk_found_api_File_i1 (l_1 : List api_File) (key_2 : Str) (z : api_File × Bool) (hm : disk_found_api_File_i1 l_1 key_2 = some z) : Does Tryz.prog 132 [.p (.l (List.map enc_api_File l_1)), .p (.s key_2), .fn 80 []] [] (fun r X => r = .tup [.agg [.p (.s z.1.Path), .p (.s z.1.Data), .p (.b z.1.Runs)], .p (.b z.2)] ∧ X = []) := by
  unfold disk_found_api_File_i1 at hm
  refine Does.of_wp 0 25 [.cell 6 37, .tmp 7] Tryz.func132 rfl (by decide) rfl rfl (Nat.le_of_ble_eq_true rfl) fun B => ?_
  refine Wp.seqR fun K1 hK1 => ?_
  simp only [go_sem, simprocAttr]
  first | refine hK1 _ _ ?_ | refine ⟨sd, hK1 _ _ ?_⟩
  obtain ⟨r_3, hr_3, hm⟩ := call_elim hm
  refine Wp.seqR fun K2 hK2 => ?_
  simp only [go_sem, simprocAttr]
  try refine ⟨sd, ?_⟩
  refine Rg.callR (av := ?av3) (g := true) [0] (fun hg => ok_slices_BinarySearchFunc_api_File_api_File_string_i1 l_1 key_2 _ hr_3) si si si si sg sg sg ?cont3
  simp only [go_sem, simprocAttr]
  first | refine hK2 _ _ ?_ | refine ⟨sd, hK2 _ _ ?_⟩
  refine Wp.seqW fun K4 hK4 hW4 => ?_
  refine Wp.seqR fun K5 hK5 => ?_
  simp only [go_sem, simprocAttr]
  first | refine hK5 _ _ ?_ | refine ⟨sd, hK5 _ _ ?_⟩
  refine Wp.cond rfl ⟨⟩ (fun hc6 => ?_) (fun hc6 => ?_)
  · have hm := brT hm (sb hc6)
    refine Wp.seqR fun K7 hK7 => ?_
    simp only [go_sem, simprocAttr]
    first | refine hK7 _ _ ?_ | refine ⟨sd, hK7 _ _ ?_⟩
    refine Wp.seqR fun K8 hK8 => ?_
    simp only [go_sem, simprocAttr]
    first | refine hK8 _ _ ?_ | refine ⟨sd, hK8 _ _ ?_⟩
    refine Wp.ret ?_
    simp only [thenQ, blockQ]
    refine retQ_ret ?_
    cases hm
    simp only [go_sem, simprocAttr]
    try exact se2
  · have hm := brF hm (sb hc6)
    refine Wp.skip ?_
    simp only [thenQ, blockQ, ↓reduceIte]
    refine hK4 _ _ ?_
    obtain ⟨f_4, hbf_4, hxf_4, hyf_4, hm⟩ := idx_elim hm
    replace hxf_4 : ∀ d, (List.map enc_api_File l_1).getD r_3.1.toNat d = enc_api_File f_4 := hxf_4 enc_api_File
    refine Wp.seqR fun K9 hK9 => ?_
    simp only [go_sem, simprocAttr, hxf_4]
    first | refine hK9 _ _ ?_ | refine ⟨sd, hK9 _ _ ?_⟩
    refine Wp.ret ?_
    refine retQ_ret ?_
    cases hm
    simp only [go_sem, simprocAttr, hxf_4]
    try exact se2
theorem ok_disk_ask_api_File_i1 (m_1 : api_Machine) (l_2 : List api_File) (key_3 : Str) (z : api_File × Int) (hm : disk_ask_api_File_i1 m_1 l_2 key_3 = some z) : Does Tryz.prog 78 [.agg [.p (.l (List.map enc_api_Setting m_1.Facts)), .p (.l (List.map enc_api_File m_1.Files)), .p (.l (List.map enc_api_Setting m_1.Settings)), .p (.l (List.map enc_api_Service m_1.Services))], .p (.l (List.map enc_api_File l_2)), .p (.s key_3), .fn 79 [], .fn 80 []] [] (fun r X => r = .tup [.agg [.p (.s z.1.Path), .p (.s z.1.Data), .p (.b z.1.Runs)], .p (.i .i64 z.2)] ∧ X = []) := by
  unfold disk_ask_api_File_i1 at hm
  refine Does.of_wp 0 38 [.cell 10 37, .tmp 11] Tryz.func78 rfl (by decide) rfl rfl (Nat.le_of_ble_eq_true rfl) fun B => ?_
  refine Wp.seqR fun K1 hK1 => ?_
  simp only [go_sem, simprocAttr]
  first | refine hK1 _ _ ?_ | refine ⟨sd, hK1 _ _ ?_⟩
  refine Wp.seqR fun K2 hK2 => ?_
  simp only [go_sem, simprocAttr]
  first | refine hK2 _ _ ?_ | refine ⟨sd, hK2 _ _ ?_⟩
  refine Wp.seqW fun K3 hK3 hW3 => ?_
  obtain ⟨r_4, hr_4, hm⟩ := call_elim hm
  refine Wp.seqR fun K4 hK4 => ?_
  simp only [go_sem, simprocAttr]
  try refine ⟨sd, ?_⟩
  refine Rg.callX (av := ?av5) (g := true) (fun hg => ok_disk_Check m_1 _ hr_4) si si si sg si ?cont5
  intro hv5
  simp only [go_sem, simprocAttr]
  first | refine hK4 _ _ ?_ | refine ⟨sd, hK4 _ _ ?_⟩
  refine Wp.seqR fun K6 hK6 => ?_
  simp only [go_sem, simprocAttr]
  first | refine hK6 _ _ ?_ | refine ⟨sd, hK6 _ _ ?_⟩
  refine Wp.cond rfl ⟨⟩ (fun hc7 => ?_) (fun hc7 => ?_)
  · have hm := brT hm (sb hc7)
    refine Wp.seqR fun K8 hK8 => ?_
    simp only [go_sem, simprocAttr]
    first | refine hK8 _ _ ?_ | refine ⟨sd, hK8 _ _ ?_⟩
    refine Wp.ret ?_
    simp only [thenQ, blockQ]
    refine retQ_ret ?_
    cases hm
    simp only [go_sem, simprocAttr]
    try exact se2
  · have hm := brF hm (sb hc7)
    refine Wp.skip ?_
    simp only [thenQ, blockQ, ↓reduceIte]
    refine hK3 _ _ ?_
    refine Wp.seqW fun K9 hK9 hW9 => ?_
    obtain ⟨r_5, hr_5, hm⟩ := call_elim hm
    refine Wp.seqR fun K10 hK10 => ?_
    simp only [go_sem, simprocAttr]
    try refine ⟨sd, ?_⟩
    refine Rg.callX (av := ?av11) (g := true) (fun hg => ok_ver_IsPath key_3 _ hr_5) si si si sg si ?cont11
    intro hv11
    simp only [go_sem, simprocAttr]
    first | refine hK10 _ _ ?_ | refine ⟨sd, hK10 _ _ ?_⟩
    refine Wp.cond rfl ⟨⟩ (fun hc12 => ?_) (fun hc12 => ?_)
    · have hm := brT hm (sb hc12)
      refine Wp.seqR fun K13 hK13 => ?_
      simp only [go_sem, simprocAttr]
      first | refine hK13 _ _ ?_ | refine ⟨sd, hK13 _ _ ?_⟩
      refine Wp.ret ?_
      simp only [thenQ, blockQ]
      refine retQ_ret ?_
      cases hm
      simp only [go_sem, simprocAttr]
      try exact se2
    · have hm := brF hm (sb hc12)
      refine Wp.skip ?_
      simp only [thenQ, blockQ, ↓reduceIte]
      refine hK9 _ _ ?_
      obtain ⟨r_6, hr_6, hm⟩ := call_elim hm
      refine Wp.seqR fun K14 hK14 => ?_
      simp only [go_sem, simprocAttr]
      try refine ⟨sd, ?_⟩
      refine Rg.callX (av := ?av15) (g := true) (fun hg => ok_disk_found_api_File_i1 l_2 key_3 _ hr_6) si si si sg si ?cont15
      intro hv15
      simp only [go_sem, simprocAttr]
      first | refine hK14 _ _ ?_ | refine ⟨sd, hK14 _ _ ?_⟩
      refine Wp.seqW fun K16 hK16 hW16 => ?_
      refine Wp.seqR fun K17 hK17 => ?_
      simp only [go_sem, simprocAttr]
      first | refine hK17 _ _ ?_ | refine ⟨sd, hK17 _ _ ?_⟩
      refine Wp.cond rfl ⟨⟩ (fun hc18 => ?_) (fun hc18 => ?_)
      · have hm := brT hm (sb hc18)
        refine Wp.seqR fun K19 hK19 => ?_
        simp only [go_sem, simprocAttr]
        first | refine hK19 _ _ ?_ | refine ⟨sd, hK19 _ _ ?_⟩
        refine Wp.ret ?_
        simp only [thenQ, blockQ]
        refine retQ_ret ?_
        cases hm
        simp only [go_sem, simprocAttr]
        try exact se2
      · have hm := brF hm (sb hc18)
        refine Wp.skip ?_
        simp only [thenQ, blockQ, ↓reduceIte]
        refine hK16 _ _ ?_
        refine Wp.seqR fun K20 hK20 => ?_
        simp only [go_sem, simprocAttr]
        first | refine hK20 _ _ ?_ | refine ⟨sd, hK20 _ _ ?_⟩
        refine Wp.ret ?_
        refine retQ_ret ?_
        cases hm
        simp only [go_sem, simprocAttr]
        try exact se2
theorem ok_disk_File (m_1 : api_Machine) (path_2 : Str) (z : api_File × Int) (hm : disk_File m_1 path_2 = some z) : Does Tryz.prog 21 [.agg [.p (.l (List.map enc_api_Setting m_1.Facts)), .p (.l (List.map enc_api_File m_1.Files)), .p (.l (List.map enc_api_Setting m_1.Settings)), .p (.l (List.map enc_api_Service m_1.Services))], .p (.s path_2)] [] (fun r X => r = .tup [.agg [.p (.s z.1.Path), .p (.s z.1.Data), .p (.b z.1.Runs)], .p (.i .i64 z.2)] ∧ X = []) := by
  unfold disk_File at hm
  refine Does.of_wp 0 13 [.cell 4 37, .tmp 5] Tryz.func21 rfl (by decide) rfl rfl (Nat.le_of_ble_eq_true rfl) fun B => ?_
  refine Wp.seqR fun K1 hK1 => ?_
  simp only [go_sem, simprocAttr]
  first | refine hK1 _ _ ?_ | refine ⟨sd, hK1 _ _ ?_⟩
  obtain ⟨r_3, hr_3, hm⟩ := call_elim hm
  refine Wp.seqR fun K2 hK2 => ?_
  simp only [go_sem, simprocAttr]
  try refine ⟨sd, ?_⟩
  refine Rg.callX (av := ?av3) (g := true) (fun hg => ok_disk_ask_api_File_i1 m_1 m_1.Files path_2 _ hr_3) si si si sg si ?cont3
  intro hv3
  simp only [go_sem, simprocAttr]
  first | refine hK2 _ _ ?_ | refine ⟨sd, hK2 _ _ ?_⟩
  refine Wp.ret ?_
  refine retQ_ret ?_
  cases hm
  simp only [go_sem, simprocAttr]
  try exact se2
theorem ok_disk_ask_api_Setting_i2 (m_1 : api_Machine) (l_2 : List api_Setting) (key_3 : Str) (z : api_Setting × Int) (hm : disk_ask_api_Setting_i2 m_1 l_2 key_3 = some z) : Does Tryz.prog 76 [.agg [.p (.l (List.map enc_api_Setting m_1.Facts)), .p (.l (List.map enc_api_File m_1.Files)), .p (.l (List.map enc_api_Setting m_1.Settings)), .p (.l (List.map enc_api_Service m_1.Services))], .p (.l (List.map enc_api_Setting l_2)), .p (.s key_3), .fn 79 [], .fn 77 []] [] (fun r X => r = .tup [.agg [.p (.s z.1.Key), .p (.s z.1.Value)], .p (.i .i64 z.2)] ∧ X = []) := by
  unfold disk_ask_api_Setting_i2 at hm
  refine Does.of_wp 0 38 [.cell 10 33, .tmp 11] Tryz.func76 rfl (by decide) rfl rfl (Nat.le_of_ble_eq_true rfl) fun B => ?_
  refine Wp.seqR fun K1 hK1 => ?_
  simp only [go_sem, simprocAttr]
  first | refine hK1 _ _ ?_ | refine ⟨sd, hK1 _ _ ?_⟩
  refine Wp.seqR fun K2 hK2 => ?_
  simp only [go_sem, simprocAttr]
  first | refine hK2 _ _ ?_ | refine ⟨sd, hK2 _ _ ?_⟩
  refine Wp.seqW fun K3 hK3 hW3 => ?_
  obtain ⟨r_4, hr_4, hm⟩ := call_elim hm
  refine Wp.seqR fun K4 hK4 => ?_
  simp only [go_sem, simprocAttr]
  try refine ⟨sd, ?_⟩
  refine Rg.callX (av := ?av5) (g := true) (fun hg => ok_disk_Check m_1 _ hr_4) si si si sg si ?cont5
  intro hv5
  simp only [go_sem, simprocAttr]
  first | refine hK4 _ _ ?_ | refine ⟨sd, hK4 _ _ ?_⟩
  refine Wp.seqR fun K6 hK6 => ?_
  simp only [go_sem, simprocAttr]
  first | refine hK6 _ _ ?_ | refine ⟨sd, hK6 _ _ ?_⟩
  refine Wp.cond rfl ⟨⟩ (fun hc7 => ?_) (fun hc7 => ?_)
  · have hm := brT hm (sb hc7)
    refine Wp.seqR fun K8 hK8 => ?_
    simp only [go_sem, simprocAttr]
    first | refine hK8 _ _ ?_ | refine ⟨sd, hK8 _ _ ?_⟩
    refine Wp.ret ?_
    simp only [thenQ, blockQ]
    refine retQ_ret ?_
    cases hm
    simp only [go_sem, simprocAttr]
    try exact se2
  · have hm := brF hm (sb hc7)
    refine Wp.skip ?_
    simp only [thenQ, blockQ, ↓reduceIte]
    refine hK3 _ _ ?_
    refine Wp.seqW fun K9 hK9 hW9 => ?_
    obtain ⟨r_5, hr_5, hm⟩ := call_elim hm
    refine Wp.seqR fun K10 hK10 => ?_
    simp only [go_sem, simprocAttr]
    try refine ⟨sd, ?_⟩
    refine Rg.callX (av := ?av11) (g := true) (fun hg => ok_ver_IsPath key_3 _ hr_5) si si si sg si ?cont11
    intro hv11
    simp only [go_sem, simprocAttr]
    first | refine hK10 _ _ ?_ | refine ⟨sd, hK10 _ _ ?_⟩
    refine Wp.cond rfl ⟨⟩ (fun hc12 => ?_) (fun hc12 => ?_)
    · have hm := brT hm (sb hc12)
      refine Wp.seqR fun K13 hK13 => ?_
      simp only [go_sem, simprocAttr]
      first | refine hK13 _ _ ?_ | refine ⟨sd, hK13 _ _ ?_⟩
      refine Wp.ret ?_
      simp only [thenQ, blockQ]
      refine retQ_ret ?_
      cases hm
      simp only [go_sem, simprocAttr]
      try exact se2
    · have hm := brF hm (sb hc12)
      refine Wp.skip ?_
      simp only [thenQ, blockQ, ↓reduceIte]
      refine hK9 _ _ ?_
      obtain ⟨r_6, hr_6, hm⟩ := call_elim hm
      refine Wp.seqR fun K14 hK14 => ?_
      simp only [go_sem, simprocAttr]
      try refine ⟨sd, ?_⟩
      refine Rg.callX (av := ?av15) (g := true) (fun hg => ok_disk_found_api_Setting_i1 l_2 key_3 _ hr_6) si si si sg si ?cont15
      intro hv15
      simp only [go_sem, simprocAttr]
      first | refine hK14 _ _ ?_ | refine ⟨sd, hK14 _ _ ?_⟩
      refine Wp.seqW fun K16 hK16 hW16 => ?_
      refine Wp.seqR fun K17 hK17 => ?_
      simp only [go_sem, simprocAttr]
      first | refine hK17 _ _ ?_ | refine ⟨sd, hK17 _ _ ?_⟩
      refine Wp.cond rfl ⟨⟩ (fun hc18 => ?_) (fun hc18 => ?_)
      · have hm := brT hm (sb hc18)
        refine Wp.seqR fun K19 hK19 => ?_
        simp only [go_sem, simprocAttr]
        first | refine hK19 _ _ ?_ | refine ⟨sd, hK19 _ _ ?_⟩
        refine Wp.ret ?_
        simp only [thenQ, blockQ]
        refine retQ_ret ?_
        cases hm
        simp only [go_sem, simprocAttr]
        try exact se2
      · have hm := brF hm (sb hc18)
        refine Wp.skip ?_
        simp only [thenQ, blockQ, ↓reduceIte]
        refine hK16 _ _ ?_
        refine Wp.seqR fun K20 hK20 => ?_
        simp only [go_sem, simprocAttr]
        first | refine hK20 _ _ ?_ | refine ⟨sd, hK20 _ _ ?_⟩
        refine Wp.ret ?_
        refine retQ_ret ?_
        cases hm
        simp only [go_sem, simprocAttr]
        try exact se2
theorem ok_disk_Setting (m_1 : api_Machine) (key_2 : Str) (z : Str × Int) (hm : disk_Setting m_1 key_2 = some z) : Does Tryz.prog 23 [.agg [.p (.l (List.map enc_api_Setting m_1.Facts)), .p (.l (List.map enc_api_File m_1.Files)), .p (.l (List.map enc_api_Setting m_1.Settings)), .p (.l (List.map enc_api_Service m_1.Services))], .p (.s key_2)] [] (fun r X => r = .tup [.p (.s z.1), .p (.i .i64 z.2)] ∧ X = []) := by
  unfold disk_Setting at hm
  refine Does.of_wp 0 19 [.tmp 4, .tmp 5] Tryz.func23 rfl (by decide) rfl rfl (Nat.le_of_ble_eq_true rfl) fun B => ?_
  refine Wp.seqR fun K1 hK1 => ?_
  simp only [go_sem, simprocAttr]
  first | refine hK1 _ _ ?_ | refine ⟨sd, hK1 _ _ ?_⟩
  obtain ⟨r_3, hr_3, hm⟩ := call_elim hm
  refine Wp.seqR fun K2 hK2 => ?_
  simp only [go_sem, simprocAttr]
  try refine ⟨sd, ?_⟩
  refine Rg.callX (av := ?av3) (g := true) (fun hg => ok_disk_ask_api_Setting_i2 m_1 m_1.Settings key_2 _ hr_3) si si si sg si ?cont3
  intro hv3
  simp only [go_sem, simprocAttr]
  first | refine hK2 _ _ ?_ | refine ⟨sd, hK2 _ _ ?_⟩
  refine Wp.seqR fun K4 hK4 => ?_
  simp only [go_sem, simprocAttr]
  first | refine hK4 _ _ ?_ | refine ⟨sd, hK4 _ _ ?_⟩
  refine Wp.ret ?_
  refine retQ_ret ?_
  cases hm
  simp only [go_sem, simprocAttr]
  try exact se2
theorem ok_disk_found_api_Service_1_i1 (x_1 : api_Service) (k_2 : Str) (z : Int) (hm : disk_found_api_Service_1_i1 x_1 k_2 = some z) : Does Tryz.prog 180 [.agg [.p (.s x_1.Name), .p (.s x_1.Path), .p (.b x_1.Auto), .p (.b x_1.On)], .p (.s k_2), .ptr 0 0] [.cells 110 [.fn 84 []]] (fun r X => r = .p (.i .i64 z) ∧ X = [.cells 110 [.fn 84 []]]) := by
  unfold disk_found_api_Service_1_i1 at hm
  refine Does.of_wp 1 11 [.tmp 5] Tryz.func180 rfl (by decide) rfl rfl (Nat.le_of_ble_eq_true rfl) fun B => ?_
  refine Wp.seqR fun K1 hK1 => ?_
  simp only [go_sem, simprocAttr]
  first | refine hK1 _ _ ?_ | refine ⟨sd, hK1 _ _ ?_⟩
  obtain ⟨r_5, hr_5, hm⟩ := call_elim hm
  obtain ⟨r_6, hr_6, hm⟩ := call_elim hm
  refine Wp.seqR fun K2 hK2 => ?_
  simp only [go_sem, simprocAttr]
  try refine ⟨sd, ?_⟩
  refine Rg.callX (av := ?av3) (g := true) (fun hg => ok_disk_nameOf x_1 _ hr_5) si si si sg si ?cont3
  intro hv3
  simp only [go_sem, simprocAttr]
  try refine ⟨sd, ?_⟩
  refine Rg.callX (av := ?av4) (g := true) (fun hg => ok_strings_Compare r_5 k_2 _ hr_6) si si si sg si ?cont4
  intro hv4
  simp only [go_sem, simprocAttr]
  first | refine hK2 _ _ ?_ | refine ⟨sd, hK2 _ _ ?_⟩
  refine Wp.ret ?_
  refine retQ_ret ?_
  cases hm
  simp only [go_sem, simprocAttr]
  try exact se2
theorem ok_slices_BinarySearchFunc_api_Service_api_Service_string_i1 (x_1 : List api_Service) (target_2 : Str) (z : Int × Bool) (hm : slices_BinarySearchFunc_api_Service_api_Service_string_i1 x_1 target_2 = some z) : Does Tryz.prog 179 [.p (.l (List.map enc_api_Service x_1)), .p (.s target_2), .fn 180 [.ptr 0 0]] [.cells 110 [.fn 84 []]] (fun r X => r = .tup [.p (.i .i64 z.1), .p (.b z.2)] ∧ X = [.cells 110 [.fn 84 []]]) := by
  unfold slices_BinarySearchFunc_api_Service_api_Service_string_i1 at hm
  refine Does.of_wp 1 49 [.tmp 6, .tmp 7] Tryz.func179 rfl (by decide) rfl rfl (Nat.le_of_ble_eq_true rfl) fun B => ?_
  refine Wp.seqR fun K1 hK1 => ?_
  simp only [go_sem, simprocAttr]
  first | refine hK1 _ _ ?_ | refine ⟨sd, hK1 _ _ ?_⟩
  refine Wp.seqR fun K2 hK2 => ?_
  simp only [go_sem, simprocAttr]
  first | refine hK2 _ _ ?_ | refine ⟨sd, hK2 _ _ ?_⟩
  refine Wp.seqR fun K3 hK3 => ?_
  simp only [go_sem, simprocAttr]
  first | refine hK3 _ _ ?_ | refine ⟨sd, hK3 _ _ ?_⟩
  refine Wp.seqW fun K4 hK4 hW4 => ?_
  obtain ⟨k_33, hk_33, hm⟩ := jp_elim hm
  have hcut4 : ∀ s, k_33 s = some z → K4 [(0, .p (.l (List.map enc_api_Service x_1))), (1, .p (.s target_2)), (2, .fn 180 [.ptr 0 0]), (8, .p (.i .i64 (x_1.length : Int))), (9, .p (.i .i64 s))] [.cells 110 [.fn 84 []]] := by
    intro i_32 hs
    have hm := hk_33 _ hs
    clear hs
    try dsimp only at hm
    try dsimp only
    refine hK4 _ _ ?_
    obtain ⟨c_34, hm⟩ := chk_elim hm
    obtain ⟨r_35, hr_35, hm⟩ := callG_elim hm
    have hr_36 := getD_enc (l := x_1) (e := enc_api_Service) (d := (api_Service.mk [] [] false false)) (i := i_32.toNat)
    simp only [enc_api_Service, List.map_nil] at hr_36
    refine Wp.seqR fun K5 hK5 => ?_
    simp only [go_sem, simprocAttr, hr_36]
    try refine ⟨by first | exact sd | ((repeat' apply And.intro) <;> first | assumption | omega | (simp only [List.length_append, List.length_map, List.length_cons, List.length_nil, List.length_set, List.length_replicate] at c_34 ⊢; omega)), ?_⟩
    refine Rg.callR (av := ?av6) (g := decide (i_32 < (x_1.length : Int))) [0] (fun hg => ok_disk_found_api_Service_1_i1 (api_Service.mk ((x_1.getD i_32.toNat (api_Service.mk [] [] false false)).Name) ((x_1.getD i_32.toNat (api_Service.mk [] [] false false)).Path) ((x_1.getD i_32.toNat (api_Service.mk [] [] false false)).Auto) ((x_1.getD i_32.toNat (api_Service.mk [] [] false false)).On)) target_2 _ (hr_35 hg)) (by simp only [go_sem, simprocAttr, hr_36]; exact Is.mk) (by simp only [go_sem, simprocAttr, hr_36]; exact Is.mk) (by simp only [go_sem, simprocAttr, hr_36]; exact Is.mk) (by simp only [go_sem, simprocAttr, hr_36]; exact Is.mk) (by simp only [go_sem, simprocAttr, hr_36]) (by simp only [go_sem, simprocAttr, hr_36]) (by simp only [go_sem, simprocAttr, hr_36]) ?cont6
    simp only [go_sem, simprocAttr, hr_36]
    first | refine hK5 _ _ ?_ | refine ⟨by first | exact sd | ((repeat' apply And.intro) <;> first | assumption | omega | (simp only [List.length_append, List.length_map, List.length_cons, List.length_nil, List.length_set, List.length_replicate] at c_34 ⊢; omega)), hK5 _ _ ?_⟩
    refine Wp.ret ?_
    refine retQ_ret ?_
    cases hm
    simp only [go_sem, simprocAttr]
    try exact se2
  clear hK4 hk_33
  refine Wp.block ?_
  obtain ⟨k_41, hk_41, hm⟩ := loopN_cont hm
  refine Wp.loopN (fun s => [(0, .p (.l (List.map enc_api_Service x_1))), (1, .p (.s target_2)), (2, .fn 180 [.ptr 0 0]), (8, .p (.i .i64 (x_1.length : Int))), (9, .p (.i .i64 s.1)), (10, .p (.i .i64 s.2))]) (fun s => [.cells 110 [.fn 84 []]]) ?_ hm ?_
  ·
    simp only [go_sem, simprocAttr]
    try exact se2
  clear hm
  intro s nx_42 hm
  obtain ⟨i_37, j_38⟩ := s
  try dsimp only at hm
  try dsimp only
  refine Wp.seqW fun K7 hK7 hW7 => ?_
  refine Wp.seqR fun K8 hK8 => ?_
  simp only [go_sem, simprocAttr]
  first | refine hK8 _ _ ?_ | refine ⟨sd, hK8 _ _ ?_⟩
  refine Wp.cond rfl ⟨⟩ (fun hc9 => ?_) (fun hc9 => ?_)
  · have hm := brT hm (sb hc9)
    refine Wp.skip ?_
    simp only [thenQ, blockQ, ↓reduceIte]
    refine hK7 _ _ ?_
    refine Wp.block ?_
    refine Wp.seqR fun K10 hK10 => ?_
    simp only [go_sem, simprocAttr]
    first | refine hK10 _ _ ?_ | refine ⟨sd, hK10 _ _ ?_⟩
    obtain ⟨s_43, hbs_43, hxs_43, hys_43, hm⟩ := idx_elim hm
    replace hxs_43 : ∀ d, (List.map enc_api_Service x_1).getD ((IntKind.i64.wrap (Int.fdiv (IntKind.u64.wrap (IntKind.i64.wrap (i_37 + j_38))) (2 ^ (shI .u64 1)))).toNat) d = enc_api_Service s_43 := hxs_43 enc_api_Service
    obtain ⟨r_44, hr_44, hm⟩ := call_elim hm
    refine Wp.seqR fun K11 hK11 => ?_
    simp only [go_sem, simprocAttr, hxs_43]
    try refine ⟨sd, ?_⟩
    refine Rg.callR (av := ?av12) (g := true) [0] (fun hg => ok_disk_found_api_Service_1_i1 s_43 target_2 _ hr_44) (by simp only [go_sem, simprocAttr, hxs_43]; exact Is.mk) (by simp only [go_sem, simprocAttr, hxs_43]; exact Is.mk) (by simp only [go_sem, simprocAttr, hxs_43]; exact Is.mk) (by simp only [go_sem, simprocAttr, hxs_43]; exact Is.mk) (by simp only [go_sem, simprocAttr, hxs_43]) (by simp only [go_sem, simprocAttr, hxs_43]) (by simp only [go_sem, simprocAttr, hxs_43]) ?cont12
    simp only [go_sem, simprocAttr, hxs_43]
    first | refine hK11 _ _ ?_ | refine ⟨sd, hK11 _ _ ?_⟩
    refine Wp.cond rfl ⟨⟩ (fun hc13 => ?_) (fun hc13 => ?_)
    · have hm := brT hm (sb hc13)
      refine Wp.region fun K14 hK14 => ?_
      simp only [go_sem, simprocAttr, hxs_43]
      first | refine hK14 _ _ ?_ | refine ⟨sd, hK14 _ _ ?_⟩
      simp only [thenQ, blockQ, ↓reduceIte]
      refine ⟨(IntKind.i64.wrap ((IntKind.i64.wrap (Int.fdiv (IntKind.u64.wrap (IntKind.i64.wrap (i_37 + j_38))) (2 ^ (shI .u64 1)))) + 1), j_38), hm, ?_⟩
      simp only [go_sem, simprocAttr, hxs_43]
      try exact se2
    · have hm := brF hm (sb hc13)
      refine Wp.region fun K15 hK15 => ?_
      simp only [go_sem, simprocAttr, hxs_43]
      first | refine hK15 _ _ ?_ | refine ⟨sd, hK15 _ _ ?_⟩
      simp only [thenQ, blockQ, ↓reduceIte]
      refine ⟨(i_37, IntKind.i64.wrap (Int.fdiv (IntKind.u64.wrap (IntKind.i64.wrap (i_37 + j_38))) (2 ^ (shI .u64 1)))), hm, ?_⟩
      simp only [go_sem, simprocAttr, hxs_43]
      try exact se2
  · have hm := brF hm (sb hc9)
    refine Wp.exit ?_
    simp only [thenQ, blockQ, ↓reduceIte]
    have hm := hk_41 _ hm
    try dsimp only at hm
    refine hW4 _ _ _ _ ?_ (hcut4 i_37 hm)
    simp only [go_sem, simprocAttr]
    try exact se2
theorem ok_disk_found_api_Service_i1 (l_1 : List api_Service) (key_2 : Str) (z : api_Service × Bool) (hm : disk_found_api_Service_i1 l_1 key_2 = some z) : Does Tryz.prog 135 [.p (.l (List.map enc_api_Service l_1)), .p (.s key_2), .fn 84 []] [] (fun r X => r = .tup [.agg [.p (.s z.1.Name), .p (.s z.1.Path), .p (.b z.1.Auto), .p (.b z.1.On)], .p (.b z.2)] ∧ X = []) := by
  unfold disk_found_api_Service_i1 at hm
  refine Does.of_wp 0 25 [.cell 6 41, .tmp 7] Tryz.func135 rfl (by decide) rfl rfl (Nat.le_of_ble_eq_true rfl) fun B => ?_
  refine Wp.seqR fun K1 hK1 => ?_
  simp only [go_sem, simprocAttr]
  first | refine hK1 _ _ ?_ | refine ⟨sd, hK1 _ _ ?_⟩
  obtain ⟨r_3, hr_3, hm⟩ := call_elim hm
  refine Wp.seqR fun K2 hK2 => ?_
  simp only [go_sem, simprocAttr]
  try refine ⟨sd, ?_⟩
  refine Rg.callR (av := ?av3) (g := true) [0] (fun hg => ok_slices_BinarySearchFunc_api_Service_api_Service_string_i1 l_1 key_2 _ hr_3) si si si si sg sg sg ?cont3
  simp only [go_sem, simprocAttr]
  first | refine hK2 _ _ ?_ | refine ⟨sd, hK2 _ _ ?_⟩
  refine Wp.seqW fun K4 hK4 hW4 => ?_
  refine Wp.seqR fun K5 hK5 => ?_
  simp only [go_sem, simprocAttr]
  first | refine hK5 _ _ ?_ | refine ⟨sd, hK5 _ _ ?_⟩
  refine Wp.cond rfl ⟨⟩ (fun hc6 => ?_) (fun hc6 => ?_)
  · have hm := brT hm (sb hc6)
    refine Wp.seqR fun K7 hK7 => ?_
    simp only [go_sem, simprocAttr]
    first | refine hK7 _ _ ?_ | refine ⟨sd, hK7 _ _ ?_⟩
    refine Wp.seqR fun K8 hK8 => ?_
    simp only [go_sem, simprocAttr]
    first | refine hK8 _ _ ?_ | refine ⟨sd, hK8 _ _ ?_⟩
    refine Wp.ret ?_
    simp only [thenQ, blockQ]
    refine retQ_ret ?_
    cases hm
    simp only [go_sem, simprocAttr]
    try exact se2
  · have hm := brF hm (sb hc6)
    refine Wp.skip ?_
    simp only [thenQ, blockQ, ↓reduceIte]
    refine hK4 _ _ ?_
    obtain ⟨s_4, hbs_4, hxs_4, hys_4, hm⟩ := idx_elim hm
    replace hxs_4 : ∀ d, (List.map enc_api_Service l_1).getD r_3.1.toNat d = enc_api_Service s_4 := hxs_4 enc_api_Service
    refine Wp.seqR fun K9 hK9 => ?_
    simp only [go_sem, simprocAttr, hxs_4]
    first | refine hK9 _ _ ?_ | refine ⟨sd, hK9 _ _ ?_⟩
    refine Wp.ret ?_
    refine retQ_ret ?_
    cases hm
    simp only [go_sem, simprocAttr, hxs_4]
    try exact se2
theorem ok_disk_ask_api_Service_i1 (m_1 : api_Machine) (l_2 : List api_Service) (key_3 : Str) (z : api_Service × Int) (hm : disk_ask_api_Service_i1 m_1 l_2 key_3 = some z) : Does Tryz.prog 83 [.agg [.p (.l (List.map enc_api_Setting m_1.Facts)), .p (.l (List.map enc_api_File m_1.Files)), .p (.l (List.map enc_api_Setting m_1.Settings)), .p (.l (List.map enc_api_Service m_1.Services))], .p (.l (List.map enc_api_Service l_2)), .p (.s key_3), .fn 68 [], .fn 84 []] [] (fun r X => r = .tup [.agg [.p (.s z.1.Name), .p (.s z.1.Path), .p (.b z.1.Auto), .p (.b z.1.On)], .p (.i .i64 z.2)] ∧ X = []) := by
  unfold disk_ask_api_Service_i1 at hm
  refine Does.of_wp 0 38 [.cell 10 41, .tmp 11] Tryz.func83 rfl (by decide) rfl rfl (Nat.le_of_ble_eq_true rfl) fun B => ?_
  refine Wp.seqR fun K1 hK1 => ?_
  simp only [go_sem, simprocAttr]
  first | refine hK1 _ _ ?_ | refine ⟨sd, hK1 _ _ ?_⟩
  refine Wp.seqR fun K2 hK2 => ?_
  simp only [go_sem, simprocAttr]
  first | refine hK2 _ _ ?_ | refine ⟨sd, hK2 _ _ ?_⟩
  refine Wp.seqW fun K3 hK3 hW3 => ?_
  obtain ⟨r_4, hr_4, hm⟩ := call_elim hm
  refine Wp.seqR fun K4 hK4 => ?_
  simp only [go_sem, simprocAttr]
  try refine ⟨sd, ?_⟩
  refine Rg.callX (av := ?av5) (g := true) (fun hg => ok_disk_Check m_1 _ hr_4) si si si sg si ?cont5
  intro hv5
  simp only [go_sem, simprocAttr]
  first | refine hK4 _ _ ?_ | refine ⟨sd, hK4 _ _ ?_⟩
  refine Wp.seqR fun K6 hK6 => ?_
  simp only [go_sem, simprocAttr]
  first | refine hK6 _ _ ?_ | refine ⟨sd, hK6 _ _ ?_⟩
  refine Wp.cond rfl ⟨⟩ (fun hc7 => ?_) (fun hc7 => ?_)
  · have hm := brT hm (sb hc7)
    refine Wp.seqR fun K8 hK8 => ?_
    simp only [go_sem, simprocAttr]
    first | refine hK8 _ _ ?_ | refine ⟨sd, hK8 _ _ ?_⟩
    refine Wp.ret ?_
    simp only [thenQ, blockQ]
    refine retQ_ret ?_
    cases hm
    simp only [go_sem, simprocAttr]
    try exact se2
  · have hm := brF hm (sb hc7)
    refine Wp.skip ?_
    simp only [thenQ, blockQ, ↓reduceIte]
    refine hK3 _ _ ?_
    refine Wp.seqW fun K9 hK9 hW9 => ?_
    obtain ⟨r_5, hr_5, hm⟩ := call_elim hm
    refine Wp.seqR fun K10 hK10 => ?_
    simp only [go_sem, simprocAttr]
    try refine ⟨sd, ?_⟩
    refine Rg.callX (av := ?av11) (g := true) (fun hg => ok_ver_IsName key_3 _ hr_5) si si si sg si ?cont11
    intro hv11
    simp only [go_sem, simprocAttr]
    first | refine hK10 _ _ ?_ | refine ⟨sd, hK10 _ _ ?_⟩
    refine Wp.cond rfl ⟨⟩ (fun hc12 => ?_) (fun hc12 => ?_)
    · have hm := brT hm (sb hc12)
      refine Wp.seqR fun K13 hK13 => ?_
      simp only [go_sem, simprocAttr]
      first | refine hK13 _ _ ?_ | refine ⟨sd, hK13 _ _ ?_⟩
      refine Wp.ret ?_
      simp only [thenQ, blockQ]
      refine retQ_ret ?_
      cases hm
      simp only [go_sem, simprocAttr]
      try exact se2
    · have hm := brF hm (sb hc12)
      refine Wp.skip ?_
      simp only [thenQ, blockQ, ↓reduceIte]
      refine hK9 _ _ ?_
      obtain ⟨r_6, hr_6, hm⟩ := call_elim hm
      refine Wp.seqR fun K14 hK14 => ?_
      simp only [go_sem, simprocAttr]
      try refine ⟨sd, ?_⟩
      refine Rg.callX (av := ?av15) (g := true) (fun hg => ok_disk_found_api_Service_i1 l_2 key_3 _ hr_6) si si si sg si ?cont15
      intro hv15
      simp only [go_sem, simprocAttr]
      first | refine hK14 _ _ ?_ | refine ⟨sd, hK14 _ _ ?_⟩
      refine Wp.seqW fun K16 hK16 hW16 => ?_
      refine Wp.seqR fun K17 hK17 => ?_
      simp only [go_sem, simprocAttr]
      first | refine hK17 _ _ ?_ | refine ⟨sd, hK17 _ _ ?_⟩
      refine Wp.cond rfl ⟨⟩ (fun hc18 => ?_) (fun hc18 => ?_)
      · have hm := brT hm (sb hc18)
        refine Wp.seqR fun K19 hK19 => ?_
        simp only [go_sem, simprocAttr]
        first | refine hK19 _ _ ?_ | refine ⟨sd, hK19 _ _ ?_⟩
        refine Wp.ret ?_
        simp only [thenQ, blockQ]
        refine retQ_ret ?_
        cases hm
        simp only [go_sem, simprocAttr]
        try exact se2
      · have hm := brF hm (sb hc18)
        refine Wp.skip ?_
        simp only [thenQ, blockQ, ↓reduceIte]
        refine hK16 _ _ ?_
        refine Wp.seqR fun K20 hK20 => ?_
        simp only [go_sem, simprocAttr]
        first | refine hK20 _ _ ?_ | refine ⟨sd, hK20 _ _ ?_⟩
        refine Wp.ret ?_
        refine retQ_ret ?_
        cases hm
        simp only [go_sem, simprocAttr]
        try exact se2
theorem ok_disk_Service (m_1 : api_Machine) (name_2 : Str) (z : api_Service × Int) (hm : disk_Service m_1 name_2 = some z) : Does Tryz.prog 24 [.agg [.p (.l (List.map enc_api_Setting m_1.Facts)), .p (.l (List.map enc_api_File m_1.Files)), .p (.l (List.map enc_api_Setting m_1.Settings)), .p (.l (List.map enc_api_Service m_1.Services))], .p (.s name_2)] [] (fun r X => r = .tup [.agg [.p (.s z.1.Name), .p (.s z.1.Path), .p (.b z.1.Auto), .p (.b z.1.On)], .p (.i .i64 z.2)] ∧ X = []) := by
  unfold disk_Service at hm
  refine Does.of_wp 0 13 [.cell 4 41, .tmp 5] Tryz.func24 rfl (by decide) rfl rfl (Nat.le_of_ble_eq_true rfl) fun B => ?_
  refine Wp.seqR fun K1 hK1 => ?_
  simp only [go_sem, simprocAttr]
  first | refine hK1 _ _ ?_ | refine ⟨sd, hK1 _ _ ?_⟩
  obtain ⟨r_3, hr_3, hm⟩ := call_elim hm
  refine Wp.seqR fun K2 hK2 => ?_
  simp only [go_sem, simprocAttr]
  try refine ⟨sd, ?_⟩
  refine Rg.callX (av := ?av3) (g := true) (fun hg => ok_disk_ask_api_Service_i1 m_1 m_1.Services name_2 _ hr_3) si si si sg si ?cont3
  intro hv3
  simp only [go_sem, simprocAttr]
  first | refine hK2 _ _ ?_ | refine ⟨sd, hK2 _ _ ?_⟩
  refine Wp.ret ?_
  refine retQ_ret ?_
  cases hm
  simp only [go_sem, simprocAttr]
  try exact se2
theorem ok_disk_IsBelow (path_1 : Str) (dir_2 : Str) (z : Bool) (hm : disk_IsBelow path_1 dir_2 = some z) : Does Tryz.prog 86 [.p (.s path_1), .p (.s dir_2)] [] (fun r X => r = .p (.b z) ∧ X = []) := by
  unfold disk_IsBelow at hm
  refine Does.of_wp 0 9 [.tmp 4] Tryz.func86 rfl (by decide) rfl rfl (Nat.le_of_ble_eq_true rfl) fun B => ?_
  refine Wp.seqR fun K1 hK1 => ?_
  simp only [go_sem, simprocAttr]
  first | refine hK1 _ _ ?_ | refine ⟨sd, hK1 _ _ ?_⟩
  obtain ⟨c_3, hm⟩ := chk_elim hm
  obtain ⟨r_4, hr_4, hm⟩ := call_elim hm
  refine Wp.seqR fun K2 hK2 => ?_
  simp only [go_sem, simprocAttr]
  try refine ⟨by first | exact sd | ((repeat' apply And.intro) <;> first | assumption | omega | (simp only [List.length_append, List.length_map, List.length_cons, List.length_nil, List.length_set, List.length_replicate] at c_3 ⊢; omega)), ?_⟩
  refine Rg.callX (av := ?av3) (g := true) (fun hg => ok_strings_HasPrefix path_1 (dir_2 ++ ([47] : Str)) _ hr_4) si si si sg si ?cont3
  intro hv3
  simp only [go_sem, simprocAttr]
  first | refine hK2 _ _ ?_ | refine ⟨by first | exact sd | ((repeat' apply And.intro) <;> first | assumption | omega | (simp only [List.length_append, List.length_map, List.length_cons, List.length_nil, List.length_set, List.length_replicate] at c_3 ⊢; omega)), hK2 _ _ ?_⟩
  refine Wp.ret ?_
  refine retQ_ret ?_
  cases hm
  simp only [go_sem, simprocAttr]
  try exact se2
theorem ok_disk_Below (m_1 : api_Machine) (dir_2 : Str) (z : List Str × Int) (hm : disk_Below m_1 dir_2 = some z) : Does Tryz.prog 25 [.agg [.p (.l (List.map enc_api_Setting m_1.Facts)), .p (.l (List.map enc_api_File m_1.Files)), .p (.l (List.map enc_api_Setting m_1.Settings)), .p (.l (List.map enc_api_Service m_1.Services))], .p (.s dir_2)] [] (fun r X => r = .tup [.p (.l (List.map ecS z.1)), .p (.i .i64 z.2)] ∧ X = []) := by
  unfold disk_Below at hm
  refine Does.of_wp 0 44 [.tmp 4, .tmp 5] Tryz.func25 rfl (by decide) rfl rfl (Nat.le_of_ble_eq_true rfl) fun B => ?_
  refine Wp.seqR fun K1 hK1 => ?_
  simp only [go_sem, simprocAttr]
  first | refine hK1 _ _ ?_ | refine ⟨sd, hK1 _ _ ?_⟩
  refine Wp.seqW fun K2 hK2 hW2 => ?_
  obtain ⟨r_3, hr_3, hm⟩ := call_elim hm
  refine Wp.seqR fun K3 hK3 => ?_
  simp only [go_sem, simprocAttr]
  try refine ⟨sd, ?_⟩
  refine Rg.callX (av := ?av4) (g := true) (fun hg => ok_disk_Check m_1 _ hr_3) si si si sg si ?cont4
  intro hv4
  simp only [go_sem, simprocAttr]
  first | refine hK3 _ _ ?_ | refine ⟨sd, hK3 _ _ ?_⟩
  refine Wp.seqR fun K5 hK5 => ?_
  simp only [go_sem, simprocAttr]
  first | refine hK5 _ _ ?_ | refine ⟨sd, hK5 _ _ ?_⟩
  refine Wp.cond rfl ⟨⟩ (fun hc6 => ?_) (fun hc6 => ?_)
  · have hm := brT hm (sb hc6)
    refine Wp.seqR fun K7 hK7 => ?_
    simp only [go_sem, simprocAttr]
    first | refine hK7 _ _ ?_ | refine ⟨sd, hK7 _ _ ?_⟩
    refine Wp.ret ?_
    simp only [thenQ, blockQ]
    refine retQ_retE ?_
    cases hm
    simp only [go_sem, simprocAttr]
    try exact se2
  · have hm := brF hm (sb hc6)
    refine Wp.skip ?_
    simp only [thenQ, blockQ, ↓reduceIte]
    refine hK2 _ _ ?_
    refine Wp.seqW fun K8 hK8 hW8 => ?_
    obtain ⟨r_4, hr_4, hm⟩ := callG_elim hm
    refine Wp.seqR fun K9 hK9 => ?_
    simp only [go_sem, simprocAttr]
    try refine ⟨sd, ?_⟩
    refine Rg.callX (av := ?av10) (g := !decide (dir_2 = [])) (fun hg => ok_ver_IsPath dir_2 _ (hr_4 hg)) si si si sg si ?cont10
    intro hv10
    simp only [go_sem, simprocAttr]
    first | refine hK9 _ _ ?_ | refine ⟨sd, hK9 _ _ ?_⟩
    refine Wp.cond rfl ⟨⟩ (fun hc11 => ?_) (fun hc11 => ?_)
    · have hm := brT hm (sb hc11)
      refine Wp.seqR fun K12 hK12 => ?_
      simp only [go_sem, simprocAttr]
      first | refine hK12 _ _ ?_ | refine ⟨sd, hK12 _ _ ?_⟩
      refine Wp.ret ?_
      simp only [thenQ, blockQ]
      refine retQ_retE ?_
      cases hm
      simp only [go_sem, simprocAttr]
      try exact se2
    · have hm := brF hm (sb hc11)
      refine Wp.skip ?_
      simp only [thenQ, blockQ, ↓reduceIte]
      refine hK8 _ _ ?_
      refine Wp.seqR fun K13 hK13 => ?_
      simp only [go_sem, simprocAttr]
      first | refine hK13 _ _ ?_ | refine ⟨sd, hK13 _ _ ?_⟩
      refine Wp.seqW fun K14 hK14 hW14 => ?_
      obtain ⟨k_22, hk_22, hm⟩ := jp_elim hm
      have hcut14 : ∀ s, k_22 s = some z → K14 [(7, .buf 1)] [.cells 26 [.top, .top, .top, .top], .buf 9 1 (List.map ecS s)] := by
        intro o1_21 hs
        have hm := hk_22 _ hs
        clear hs
        try dsimp only at hm
        try dsimp only
        refine hK14 _ _ ?_
        refine Wp.seqR fun K15 hK15 => ?_
        simp only [go_sem, simprocAttr]
        first | refine hK15 _ _ ?_ | refine ⟨sd, hK15 _ _ ?_⟩
        refine Wp.ret ?_
        refine retQ_ret ?_
        cases hm
        simp only [go_sem, simprocAttr]
        try exact se2
      clear hK14 hk_22
      refine Wp.seqR fun K16 hK16 => ?_
      simp only [go_sem, simprocAttr]
      first | refine hK16 _ _ ?_ | refine ⟨sd, hK16 _ _ ?_⟩
      refine Wp.block ?_
      refine Wp.adopt 7 9 1 rfl ?_
      simp only [go_sem, simprocAttr]
      obtain ⟨k_32, hk_32, hm⟩ := forL_cont hm
      refine Wp.fact 23 fun hl_35 => ?_
      replace hl_35 : m_1.Files.length ≤ 274877906944 := by
        simp only [go_sem, simprocAttr, List.length_map] at hl_35
        omega
      refine Wp.forL (fun i_34 s => [(1, .p (.s dir_2)), (7, .buf 1), (23, .p (.l (List.map enc_api_File m_1.Files))), (24, .p (.i .i64 (m_1.Files.length : Int))), (25, .p (.i .i64 (i_34 : Int)))]) (fun i_34 s => [.cells 26 [.p (.l (List.map enc_api_Setting m_1.Facts)), .p (.l (List.map enc_api_File m_1.Files)), .p (.l (List.map enc_api_Setting m_1.Settings)), .p (.l (List.map enc_api_Service m_1.Services))], .buf 9 1 (List.map ecS s)]) ?_ hm ?_
      ·
        simp only [go_sem, simprocAttr]
        try exact se2
      clear hm
      intro i_34 o1_28 hii_34 hm
      try dsimp only at hm
      try dsimp only
      refine Wp.seqR fun K17 hK17 => ?_
      simp only [go_sem, simprocAttr]
      first | refine hK17 _ _ ?_ | refine ⟨sd, hK17 _ _ ?_⟩
      refine Wp.seqW fun K18 hK18 hW18 => ?_
      refine Wp.cond rfl ⟨⟩ (fun hc18 => ?_) (fun hc18 => ?_)
      rotate_left
      · refine Wp.exit ?_
        have hm := hk_32 _ (forL_end hm (ge_nat (by first | exact hc18 | simpa using hc18)))
        try dsimp only at hm
        simp only [thenQ, blockQ, ↓reduceIte]
        refine hW14 _ _ _ _ ?_ (hcut14 o1_28 hm)
        simp only [go_sem, simprocAttr]
        try exact se2
      have hlt18 := lt_nat (by first | exact hc18 | simpa using hc18)
      have hw18 := wrap_succ hlt18 hl_35
      obtain ⟨f_36, nx_33, hxf_36, hyf_36, hnx_33, hm⟩ := forL_step hm hlt18
      replace hxf_36 := hxf_36 enc_api_File
      refine Wp.skip ?_
      simp only [thenQ]
      refine hK18 _ _ ?_
      refine Wp.seqW fun K19 hK19 hW19 => ?_
      refine Wp.block ?_
      refine Wp.seqR fun K20 hK20 => ?_
      simp only [go_sem, simprocAttr, hw18, hxf_36]
      first | refine hK20 _ _ ?_ | refine ⟨sd, hK20 _ _ ?_⟩
      obtain ⟨r_37, hr_37, hm⟩ := callG_elim hm
      refine Wp.seqR fun K21 hK21 => ?_
      simp only [go_sem, simprocAttr, hw18, hxf_36]
      try refine ⟨sd, ?_⟩
      refine Rg.callX (av := ?av22) (g := !(decide (dir_2 = []))) (fun hg => ok_disk_IsBelow f_36.Path dir_2 _ (hr_37 hg)) (by simp only [go_sem, simprocAttr, hw18, hxf_36]; exact Is.mk) (by simp only [go_sem, simprocAttr, hw18, hxf_36]; exact Is.mk) (by simp only [go_sem, simprocAttr, hw18, hxf_36]; exact Is.mk) (by simp only [go_sem, simprocAttr, hw18, hxf_36]) (by simp only [go_sem, simprocAttr, hw18, hxf_36]; exact Is.mk) ?cont22
      intro hv22
      simp only [go_sem, simprocAttr, hw18, hxf_36]
      first | refine hK21 _ _ ?_ | refine ⟨sd, hK21 _ _ ?_⟩
      refine Wp.cond rfl ⟨⟩ (fun hc23 => ?_) (fun hc23 => ?_)
      · have hm := brT hm (sb hc23)
        obtain ⟨c_38, hm⟩ := chk_elim hm
        refine Wp.region fun K24 hK24 => ?_
        simp only [go_sem, simprocAttr, hw18, hxf_36]
        first | refine hK24 _ _ ?_ | refine ⟨by first | exact sd | ((repeat' apply And.intro) <;> first | assumption | omega | (simp only [List.length_append, List.length_map, List.length_cons, List.length_nil, List.length_set, List.length_replicate] at c_38 ⊢; omega)), hK24 _ _ ?_⟩
        simp only [thenQ, blockQ, ↓reduceIte]
        refine hK19 _ _ ?_
        refine Wp.region fun K25 hK25 => ?_
        simp only [go_sem, simprocAttr, hw18, hxf_36]
        first | refine hK25 _ _ ?_ | refine ⟨sd, hK25 _ _ ?_⟩
        simp only [thenQ, blockQ, ↓reduceIte]
        refine ⟨o1_28 ++ [f_36.Path], hlt18, hnx_33 _ hm, ?_⟩
        simp only [go_sem, simprocAttr, hw18, hxf_36]
        try exact se2
      · have hm := brF hm (sb hc23)
        refine Wp.skip ?_
        simp only [thenQ, blockQ, ↓reduceIte]
        refine hK19 _ _ ?_
        refine Wp.region fun K26 hK26 => ?_
        simp only [go_sem, simprocAttr, hw18, hxf_36]
        first | refine hK26 _ _ ?_ | refine ⟨sd, hK26 _ _ ?_⟩
        simp only [thenQ, blockQ, ↓reduceIte]
        refine ⟨o1_28, hlt18, hnx_33 _ hm, ?_⟩
        simp only [go_sem, simprocAttr, hw18, hxf_36]
        try exact se2
theorem ok_slices_Equal_string_string (s1_1 : List Str) (s2_2 : List Str) (z : Bool) (hm : slices_Equal_string_string s1_1 s2_2 = some z) : Does Tryz.prog 27 [.p (.l (List.map ecS s1_1)), .p (.l (List.map ecS s2_2))] [] (fun r X => r = .p (.b z) ∧ X = []) := by
  unfold slices_Equal_string_string at hm
  refine Does.of_wp 0 26 [.tmp 4] Tryz.func27 rfl (by decide) rfl rfl (Nat.le_of_ble_eq_true rfl) fun B => ?_
  refine Wp.seqR fun K1 hK1 => ?_
  simp only [go_sem, simprocAttr]
  first | refine hK1 _ _ ?_ | refine ⟨sd, hK1 _ _ ?_⟩
  refine Wp.seqW fun K2 hK2 hW2 => ?_
  refine Wp.seqR fun K3 hK3 => ?_
  simp only [go_sem, simprocAttr]
  first | refine hK3 _ _ ?_ | refine ⟨sd, hK3 _ _ ?_⟩
  refine Wp.cond rfl ⟨⟩ (fun hc4 => ?_) (fun hc4 => ?_)
  · have hm := brT hm (sb hc4)
    refine Wp.seqR fun K5 hK5 => ?_
    simp only [go_sem, simprocAttr]
    first | refine hK5 _ _ ?_ | refine ⟨sd, hK5 _ _ ?_⟩
    refine Wp.ret ?_
    simp only [thenQ, blockQ]
    refine retQ_ret ?_
    cases hm
    simp only [go_sem, simprocAttr]
    try exact se2
  · have hm := brF hm (sb hc4)
    refine Wp.skip ?_
    simp only [thenQ, blockQ, ↓reduceIte]
    refine hK2 _ _ ?_
    refine Wp.seqW fun K6 hK6 hW6 => ?_
    obtain ⟨k_12, hk_12, hm⟩ := jp_elim hm
    have hcut6 : ∀ s, k_12 s = some z → K6 [] [] := by
      intro s hs
      have hm := hk_12 _ hs
      clear hs
      try dsimp only at hm
      try dsimp only
      refine hK6 _ _ ?_
      refine Wp.seqR fun K7 hK7 => ?_
      simp only [go_sem, simprocAttr]
      first | refine hK7 _ _ ?_ | refine ⟨sd, hK7 _ _ ?_⟩
      refine Wp.ret ?_
      refine retQ_ret ?_
      cases hm
      simp only [go_sem, simprocAttr]
      try exact se2
    clear hK6 hk_12
    refine Wp.seqR fun K8 hK8 => ?_
    simp only [go_sem, simprocAttr]
    first | refine hK8 _ _ ?_ | refine ⟨sd, hK8 _ _ ?_⟩
    refine Wp.block ?_
    obtain ⟨k_16, hk_16, hm⟩ := forL_cont hm
    refine Wp.fact 0 fun hl_19 => ?_
    replace hl_19 : s1_1.length ≤ 274877906944 := by
      simp only [go_sem, simprocAttr, List.length_map] at hl_19
      omega
    refine Wp.forL (fun i_18 s => [(0, .p (.l (List.map ecS s1_1))), (1, .p (.l (List.map ecS s2_2))), (12, .p (.i .i64 (s1_1.length : Int))), (13, .p (.i .i64 (i_18 : Int)))]) (fun i_18 s => []) ?_ hm ?_
    ·
      simp only [go_sem, simprocAttr]
      try exact se2
    clear hm
    intro i_18 s hii_18 hm
    try dsimp only at hm
    try dsimp only
    refine Wp.seqR fun K9 hK9 => ?_
    simp only [go_sem, simprocAttr]
    first | refine hK9 _ _ ?_ | refine ⟨sd, hK9 _ _ ?_⟩
    refine Wp.seqW fun K10 hK10 hW10 => ?_
    refine Wp.cond rfl ⟨⟩ (fun hc10 => ?_) (fun hc10 => ?_)
    rotate_left
    · refine Wp.exit ?_
      have hm := hk_16 _ (forL_end hm (ge_nat (by first | exact hc10 | simpa using hc10)))
      try dsimp only at hm
      simp only [thenQ, blockQ, ↓reduceIte]
      refine hW6 _ _ _ _ ?_ (hcut6 () hm)
      simp only [go_sem, simprocAttr]
      try exact se2
    have hlt10 := lt_nat (by first | exact hc10 | simpa using hc10)
    have hw10 := wrap_succ hlt10 hl_19
    obtain ⟨s_20, nx_17, hxs_20, hys_20, hnx_17, hm⟩ := forL_step hm hlt10
    replace hxs_20 := hxs_20 ecS
    refine Wp.skip ?_
    simp only [thenQ]
    refine hK10 _ _ ?_
    refine Wp.seqW fun K11 hK11 hW11 => ?_
    refine Wp.block ?_
    refine Wp.seqR fun K12 hK12 => ?_
    simp only [go_sem, simprocAttr, hw10, hxs_20]
    first | refine hK12 _ _ ?_ | refine ⟨sd, hK12 _ _ ?_⟩
    obtain ⟨s_21, hbs_21, hxs_21, hys_21, hm⟩ := idx_elim hm
    replace hxs_21 : ∀ d, (List.map ecS s2_2).getD i_18 d = ecS s_21 := hxs_21 ecS
    refine Wp.seqD (plan := [(0, none), (1, none), (2, none), (3, none), (4, none), (5, none), (6, none), (7, none), (8, none)]) (by kernel_rfl) rfl (by kernel_rfl) fun K13 hK13 => ?_
    simp only [go_sem, simprocAttr, hw10, hxs_20, hxs_21]
    first | refine hK13 _ _ ?_ | refine ⟨sd, hK13 _ _ ?_⟩
    refine Wp.cond rfl ⟨⟩ (fun hc14 => ?_) (fun hc14 => ?_)
    · have hm := brT hm (sb hc14)
      refine Wp.seqR fun K15 hK15 => ?_
      simp only [go_sem, simprocAttr, hw10, hxs_20, hxs_21]
      first | refine hK15 _ _ ?_ | refine ⟨sd, hK15 _ _ ?_⟩
      refine Wp.ret ?_
      simp only [thenQ, blockQ]
      refine retQ_ret ?_
      cases hm
      simp only [go_sem, simprocAttr, hw10, hxs_20, hxs_21]
      try exact se2
    · have hm := brF hm (sb hc14)
      refine Wp.skip ?_
      simp only [thenQ, blockQ, ↓reduceIte]
      refine hK11 _ _ ?_
      refine Wp.region fun K16 hK16 => ?_
      simp only [go_sem, simprocAttr, hw10, hxs_20, hxs_21]
      first | refine hK16 _ _ ?_ | refine ⟨sd, hK16 _ _ ?_⟩
      simp only [thenQ, blockQ, ↓reduceIte]
      refine ⟨(), hlt10, hnx_17 _ hm, ?_⟩
      simp only [go_sem, simprocAttr, hw10, hxs_20, hxs_21]
      try exact se2
end Go.Proofs.YtbfemlilfeahkaaGreatDoor
