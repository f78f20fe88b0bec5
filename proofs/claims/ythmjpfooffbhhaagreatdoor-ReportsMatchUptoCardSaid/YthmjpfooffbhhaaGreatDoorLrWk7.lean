/- That the code does what the models say (part 7). -/
import Derived.Test.YthmjpfooffbhhaaGreatDoorLrWk0
import Derived.Test.YthmjpfooffbhhaaGreatDoorLrWk5
import Derived.Test.YthmjpfooffbhhaaGreatDoorLrWk6
set_option linter.unusedSimpArgs false
set_option linter.unusedVariables false
open Go.Proofs Go.Shelf
namespace Go.Proofs.YthmjpfooffbhhaaGreatDoor
open Go.Vc Go.Md
set_option maxRecDepth 100000
set_option maxHeartbeats 4000000
theorem ok_slices_BinarySearchFunc_api_Record_api_Record_int_i1 (x_1 : List api_Record) (target_2 : Int) (z : Int × Bool) (hm : slices_BinarySearchFunc_api_Record_api_Record_int_i1 x_1 target_2 = some z) : Does Tryz.prog 62 [.p (.l (List.map enc_api_Record x_1)), .p (.i .i64 target_2), .fn 63 []] [] (fun r X => r = .tup [.p (.i .i64 z.1), .p (.b z.2)] ∧ X = []) := by
 unfold slices_BinarySearchFunc_api_Record_api_Record_int_i1 at hm
 refine Does.of_wp 0 49 [.tmp 6, .tmp 7] Tryz.func62 rfl (by decide) rfl rfl (Nat.le_of_ble_eq_true rfl) fun B => ?_
 refine qS ?_
 refine qS ?_
 refine qS ?_
 refine Wp.seqW fun K4 hK4 hW4 => ?_
 obtain ⟨k_12, hk_12, hm⟩ := jp_elim hm
 have hcut4 : ∀ s, k_12 s = some z → K4 [(0, .p (.l (List.map enc_api_Record x_1))), (1, .p (.i .i64 target_2)), (2, .fn 63 []), (8, .p (.i .i64 (x_1.length : Int))), (9, .p (.i .i64 s))] [] := by
  intro i_11 hs
  have hm := hk_12 _ hs
  clear hs
  try dsimp only at hm
  try dsimp only
  refine hK4 _ _ ?_
  obtain ⟨c_13, hm⟩ := chk_elim hm
  obtain ⟨r_14, hr_14, hm⟩ := callG_elim hm
  have hr_15 := getD_enc (l := x_1) (e := enc_api_Record) (d := (api_Record.mk 0 0 [] (api_Version.mk 0 0 0 []) (api_Version.mk 0 0 0 []) 0 [])) (i := i_11.toNat)
  simp only [enc_api_Record, List.map_nil] at hr_15
  refine Wp.seqR fun K5 hK5 => ?_
  simp only [go_sem, simprocAttr, hr_15]
  try refine ⟨by first | exact sd | ((repeat' apply And.intro) <;> first | assumption | omega | (simp only [List.length_append, List.length_map, List.length_cons, List.length_nil, List.length_set, List.length_replicate] at c_13 ⊢; omega)), ?_⟩
  refine Rg.callX (av := ?av6) (g := decide (i_11 < (x_1.length : Int))) (fun hg => ok_log_until_1 (api_Record.mk ((x_1.getD i_11.toNat (api_Record.mk 0 0 [] (api_Version.mk 0 0 0 []) (api_Version.mk 0 0 0 []) 0 [])).Time) ((x_1.getD i_11.toNat (api_Record.mk 0 0 [] (api_Version.mk 0 0 0 []) (api_Version.mk 0 0 0 []) 0 [])).Kind) ((x_1.getD i_11.toNat (api_Record.mk 0 0 [] (api_Version.mk 0 0 0 []) (api_Version.mk 0 0 0 []) 0 [])).Pack) (api_Version.mk (((x_1.getD i_11.toNat (api_Record.mk 0 0 [] (api_Version.mk 0 0 0 []) (api_Version.mk 0 0 0 []) 0 [])).From).Major) (((x_1.getD i_11.toNat (api_Record.mk 0 0 [] (api_Version.mk 0 0 0 []) (api_Version.mk 0 0 0 []) 0 [])).From).Minor) (((x_1.getD i_11.toNat (api_Record.mk 0 0 [] (api_Version.mk 0 0 0 []) (api_Version.mk 0 0 0 []) 0 [])).From).Patch) (((x_1.getD i_11.toNat (api_Record.mk 0 0 [] (api_Version.mk 0 0 0 []) (api_Version.mk 0 0 0 []) 0 [])).From).Early)) (api_Version.mk (((x_1.getD i_11.toNat (api_Record.mk 0 0 [] (api_Version.mk 0 0 0 []) (api_Version.mk 0 0 0 []) 0 [])).To).Major) (((x_1.getD i_11.toNat (api_Record.mk 0 0 [] (api_Version.mk 0 0 0 []) (api_Version.mk 0 0 0 []) 0 [])).To).Minor) (((x_1.getD i_11.toNat (api_Record.mk 0 0 [] (api_Version.mk 0 0 0 []) (api_Version.mk 0 0 0 []) 0 [])).To).Patch) (((x_1.getD i_11.toNat (api_Record.mk 0 0 [] (api_Version.mk 0 0 0 []) (api_Version.mk 0 0 0 []) 0 [])).To).Early)) ((x_1.getD i_11.toNat (api_Record.mk 0 0 [] (api_Version.mk 0 0 0 []) (api_Version.mk 0 0 0 []) 0 [])).Result) ((x_1.getD i_11.toNat (api_Record.mk 0 0 [] (api_Version.mk 0 0 0 []) (api_Version.mk 0 0 0 []) 0 [])).Note)) target_2 _ (hr_14 hg)) (by simp only [go_sem, simprocAttr, hr_15]; exact Is.mk) (by simp only [go_sem, simprocAttr, hr_15]; exact Is.mk) (by simp only [go_sem, simprocAttr, hr_15]; exact Is.mk) (by simp only [go_sem, simprocAttr, hr_15]) (by simp only [go_sem, simprocAttr, hr_15]; exact Is.mk) ?cont6
  intro hv6
  simp only [go_sem, simprocAttr, hr_15]
  first | apply hK5 | refine ⟨by first | exact sd | ((repeat' apply And.intro) <;> first | assumption | omega | (simp only [List.length_append, List.length_map, List.length_cons, List.length_nil, List.length_set, List.length_replicate] at c_13 ⊢; omega)), hK5 _ _ ?_⟩
  refine Wp.ret ?_
  refine retQ_ret ?_
  cases hm
  exact fse3
 clear hK4 hk_12
 refine Wp.block ?_
 obtain ⟨k_20, hk_20, hm⟩ := loopN_cont hm
 refine Wp.loopN (fun s => [(0, .p (.l (List.map enc_api_Record x_1))), (1, .p (.i .i64 target_2)), (2, .fn 63 []), (8, .p (.i .i64 (x_1.length : Int))), (9, .p (.i .i64 s.1)), (10, .p (.i .i64 s.2))]) (fun s => []) ?_ hm ?_
 ·
  exact fse3
 clear hm
 intro s nx_21 hm
 obtain ⟨i_16, j_17⟩ := s
 try dsimp only at hm
 try dsimp only
 refine Wp.seqW fun K7 hK7 hW7 => ?_
 refine qS ?_
 refine cM hm (fun hc9 hm => ?_) (fun hc9 hm => ?_)
 ·refine Wp.skip ?_
  refine hK7 _ _ ?_
  refine Wp.block ?_
  refine qS ?_
  obtain ⟨r_22, hbr_22, hxr_22, hyr_22, hm⟩ := idx_elim hm
  replace hxr_22 : ∀ d, (List.map enc_api_Record x_1).getD ((IntKind.i64.wrap (Int.fdiv (IntKind.u64.wrap (IntKind.i64.wrap (i_16 + j_17))) (2 ^ (shI .u64 1)))).toNat) d = enc_api_Record r_22 := hxr_22 enc_api_Record
  obtain ⟨r_23, hr_23, hm⟩ := call_elim hm
  refine Wp.seqR fun K11 hK11 => ?_
  simp only [go_sem, simprocAttr, hxr_22]
  try refine ⟨sd, ?_⟩
  refine Rg.callX (av := ?av12) (g := true) (fun hg => ok_log_until_1 r_22 target_2 _ hr_23) (by simp only [go_sem, simprocAttr, hxr_22]; exact Is.mk) (by simp only [go_sem, simprocAttr, hxr_22]; exact Is.mk) (by simp only [go_sem, simprocAttr, hxr_22]; exact Is.mk) (by simp only [go_sem, simprocAttr, hxr_22]) (by simp only [go_sem, simprocAttr, hxr_22]; exact Is.mk) ?cont12
  intro hv12
  simp only [go_sem, simprocAttr, hxr_22]
  first | apply hK11 | refine ⟨sd, hK11 _ _ ?_⟩
  refine cM hm (fun hc13 hm => ?_) (fun hc13 hm => ?_)
  ·refine Wp.region fun K14 hK14 => ?_
   simp only [go_sem, simprocAttr, hxr_22]
   first | apply hK14 | refine ⟨sd, hK14 _ _ ?_⟩
   simp only [thenQ, blockQ, ↓reduceIte]
   refine ⟨(IntKind.i64.wrap ((IntKind.i64.wrap (Int.fdiv (IntKind.u64.wrap (IntKind.i64.wrap (i_16 + j_17))) (2 ^ (shI .u64 1)))) + 1), j_17), hm, ?_⟩
   simp only [go_sem, simprocAttr, hxr_22]
   try exact se3
  ·refine Wp.region fun K15 hK15 => ?_
   simp only [go_sem, simprocAttr, hxr_22]
   first | apply hK15 | refine ⟨sd, hK15 _ _ ?_⟩
   simp only [thenQ, blockQ, ↓reduceIte]
   refine ⟨(i_16, IntKind.i64.wrap (Int.fdiv (IntKind.u64.wrap (IntKind.i64.wrap (i_16 + j_17))) (2 ^ (shI .u64 1)))), hm, ?_⟩
   simp only [go_sem, simprocAttr, hxr_22]
   try exact se3
 ·refine Wp.exit ?_
  simp only [thenQ, blockQ, ↓reduceIte]
  have hm := hk_20 _ hm
  try dsimp only at hm
  refine hW4 _ _ _ _ ?_ (hcut4 i_16 hm)
  exact fse3
theorem ok_log_until (l_1 : List api_Record) (time_2 : Int) (z : Int) (hm : log_until l_1 time_2 = some z) : Does Tryz.prog 34 [.p (.l (List.map enc_api_Record l_1)), .p (.i .i64 time_2)] [] (fun r X => r = .p (.i .i64 z) ∧ X = []) := by
 unfold log_until at hm
 refine Does.of_wp 0 14 [.tmp 4] Tryz.func34 rfl (by decide) rfl rfl (Nat.le_of_ble_eq_true rfl) fun B => ?_
 refine qS ?_
 obtain ⟨r_3, hr_3, hm⟩ := call_elim hm
 refine Wp.seqR fun K2 hK2 => ?_
 simp only [go_sem, simprocAttr]
 try refine ⟨sd, ?_⟩
 refine Rg.callX (av := ?av3) (g := true) (fun hg => ok_slices_BinarySearchFunc_api_Record_api_Record_int_i1 l_1 time_2 _ hr_3) si si si sg si ?cont3
 intro hv3
 simp only [go_sem, simprocAttr]
 first | apply hK2 | refine ⟨sd, hK2 _ _ ?_⟩
 refine qS ?_
 refine Wp.ret ?_
 refine retQ_ret ?_
 cases hm
 exact fse3
theorem ok_log_span (l_1 : List api_Record) (from_2 : Int) (to_3 : Int) (z : List api_Record × Int) (hm : log_span l_1 from_2 to_3 = some z) : Does Tryz.prog 33 [.p (.l (List.map enc_api_Record l_1)), .p (.i .i64 from_2), .p (.i .i64 to_3)] [] (fun r X => r = .tup [.p (.l (List.map enc_api_Record z.1)), .p (.i .i64 z.2)] ∧ X = []) := by
 unfold log_span at hm
 refine Does.of_wp 0 30 [.tmp 6, .tmp 7] Tryz.func33 rfl (by decide) rfl rfl (Nat.le_of_ble_eq_true rfl) fun B => ?_
 refine qS ?_
 refine Wp.seqW fun K2 hK2 hW2 => ?_
 obtain ⟨r_4, hr_4, hm⟩ := call_elim hm
 refine Wp.seqR fun K3 hK3 => ?_
 simp only [go_sem, simprocAttr]
 try refine ⟨sd, ?_⟩
 refine Rg.callX (av := ?av4) (g := true) (fun hg => ok_log_timed l_1 [from_2, to_3] _ hr_4) si si si sg si ?cont4
 intro hv4
 simp only [go_sem, simprocAttr]
 first | apply hK3 | refine ⟨sd, hK3 _ _ ?_⟩
 refine qS ?_
 refine cM hm (fun hc6 hm => ?_) (fun hc6 hm => ?_)
 ·refine qS ?_
  refine Wp.ret ?_
  simp only [thenQ, blockQ]
  refine retQ_retE ?_
  cases hm
  exact fse3
 ·refine Wp.skip ?_
  refine hK2 _ _ ?_
  refine Wp.seqW fun K8 hK8 hW8 => ?_
  refine qS ?_
  refine cM hm (fun hc10 hm => ?_) (fun hc10 hm => ?_)
  ·refine qS ?_
   refine Wp.ret ?_
   simp only [thenQ, blockQ]
   refine retQ_retE ?_
   cases hm
   exact fse3
  ·refine Wp.skip ?_
   refine hK8 _ _ ?_
   obtain ⟨r_5, hr_5, hm⟩ := call_elim hm
   obtain ⟨r_6, hr_6, hm⟩ := call_elim hm
   obtain ⟨c_7, hm⟩ := chk_elim hm
   refine Wp.seqR fun K12 hK12 => ?_
   simp only [go_sem, simprocAttr]
   try refine ⟨by first | exact sd | ((repeat' apply And.intro) <;> first | assumption | omega | (simp only [List.length_append, List.length_map, List.length_cons, List.length_nil, List.length_set, List.length_replicate] at c_7 ⊢; omega)), ?_⟩
   refine Rg.callX (av := ?av13) (g := true) (fun hg => ok_log_until l_1 (IntKind.i64.wrap (from_2 - 1)) _ hr_5) si si si sg si ?cont13
   intro hv13
   simp only [go_sem, simprocAttr]
   try refine ⟨by first | exact sd | ((repeat' apply And.intro) <;> first | assumption | omega | (simp only [List.length_append, List.length_map, List.length_cons, List.length_nil, List.length_set, List.length_replicate] at c_7 ⊢; omega)), ?_⟩
   refine Rg.callX (av := ?av14) (g := true) (fun hg => ok_log_until l_1 (IntKind.i64.wrap (to_3 - 1)) _ hr_6) si si si sg si ?cont14
   intro hv14
   simp only [go_sem, simprocAttr]
   first | apply hK12 | refine ⟨by first | exact sd | ((repeat' apply And.intro) <;> first | assumption | omega | (simp only [List.length_append, List.length_map, List.length_cons, List.length_nil, List.length_set, List.length_replicate] at c_7 ⊢; omega)), hK12 _ _ ?_⟩
   refine Wp.ret ?_
   refine retQ_ret ?_
   cases hm
   exact fse3
theorem ok_maps_Keys_map_string_log_done_string_log_done_i1 (m0_1 : List (Str × log_done)) (z : Unit) (hm : maps_Keys_map_string_log_done_string_log_done_i1 m0_1 = some z) : Does Tryz.prog 36 [.mp 0] [.mp true (encM Dt.s enc_log_done m0_1)] (fun r X => r = .fn 65 [.ptr 1 0] ∧ X = [.mp true (encM Dt.s enc_log_done m0_1), .cells 64 [.mp 0]]) := by
 unfold maps_Keys_map_string_log_done_string_log_done_i1 at hm
 refine Does.of_wp 2 4 [.tmp 2] Tryz.func36 rfl (by decide) rfl rfl (Nat.le_of_ble_eq_true rfl) fun B => ?_
 refine qS ?_
 refine qS ?_
 refine Wp.ret ?_
 refine retQ_ret ?_
 cases hm
 exact fse4
theorem ok_slices_Sorted_keys_65 (m1 : List (Str × log_done)) (z : List Str) (hm : slices_Sorted_keys_65 m1 = some z) : Does Tryz.prog 35 [.fn 65 [.ptr 0 0]] [.cells 64 [.mp 1], .mp true (encM Dt.s enc_log_done m1)] (fun r X => r = .p (.l (List.map ecS z)) ∧ X = [.cells 64 [.mp 1], .mp true (encM Dt.s enc_log_done m1)]) := by
 cases hm
 exact Does.sortedKeys Tryz.sortedL Tryz.keys65L ⟨_, Tryz.func35, by kernel_rfl, by kernel_rfl⟩ (fun m => ⟨fun blk off cap ss W hH hblk hsz => callsIn_wide.2 (AnyM.slices_Sort_string Tryz.sortL blk off cap ss W hH hblk hsz), fun p cap W => callsIn_wide.2 (AnyM.slices_Sort_string_none Tryz.sortL p cap W)⟩) (enters_of Tryz.func60 (by kernel_rfl) rfl) (enters_of Tryz.func65 (by kernel_rfl) rfl) rfl 64 true enc_log_done m1
theorem ok_strconv_Itoa (n : Int) (z : Str) (hm : strconv_Itoa n = some z) : Does Tryz.prog 39 [.p (.i .i64 n)] [] (fun r X => r = .p (.s z) ∧ X = []) := by
 obtain ⟨⟨h1, h2⟩, h⟩ := chk_elim hm
 cases h
 exact Does.itoa Tryz.itoaL ⟨_, Tryz.func39, by kernel_rfl, by kernel_rfl⟩ (b := 1) (by kernel_rfl) (tab_1.trans (by rw [show tabL_1 = Go.Lib.pow10Tab by decide +kernel])) n h1 h2
theorem ok_ver_text (v_1 : api_Version) (z : Str) (hm : ver_text v_1 = some z) : Does Tryz.prog 67 [.agg [.p (.i .i64 v_1.Major), .p (.i .i64 v_1.Minor), .p (.i .i64 v_1.Patch), .p (.s v_1.Early)]] [] (fun r X => r = .p (.s z) ∧ X = []) := by
 unfold ver_text at hm
 refine Does.of_wp 0 26 [.tmp 2] Tryz.func67 rfl (by decide) rfl rfl (Nat.le_of_ble_eq_true rfl) fun B => ?_
 refine qS ?_
 obtain ⟨r_2, hr_2, hm⟩ := call_elim hm
 obtain ⟨c_3, hm⟩ := chk_elim hm
 obtain ⟨r_4, hr_4, hm⟩ := call_elim hm
 obtain ⟨c_5, hm⟩ := chk_elim hm
 obtain ⟨c_6, hm⟩ := chk_elim hm
 obtain ⟨r_7, hr_7, hm⟩ := call_elim hm
 obtain ⟨c_8, hm⟩ := chk_elim hm
 refine Wp.seqD (plan := pl [(0, none), (1, none), (2, none), (3, none), (4, none), (5, none), (6, none), (7, none), (8, none), (9, none), (10, none), (11, none), (12, none), (13, none)]) (by kernel_rfl) rfl (by kernel_rfl) fun K2 hK2 => ?_
 simp only [go_sem, simprocAttr]
 try refine ⟨by first | exact sd | ((repeat' apply And.intro) <;> first | assumption | omega | (simp only [List.length_append, List.length_map, List.length_cons, List.length_nil, List.length_set, List.length_replicate] at c_3 c_5 c_6 c_8 ⊢; omega)), ?_⟩
 refine Dr.callF (av := ?av3) (g := true) (o := ?o3) (fun hg => ok_strconv_Itoa v_1.Major _ hr_2) si si si si sg si ?cont3
 simp only [go_sem, simprocAttr]
 try refine ⟨by first | exact sd | ((repeat' apply And.intro) <;> first | assumption | omega | (simp only [List.length_append, List.length_map, List.length_cons, List.length_nil, List.length_set, List.length_replicate] at c_3 c_5 c_6 c_8 ⊢; omega)), ?_⟩
 refine Dr.callF (av := ?av4) (g := true) (o := ?o4) (fun hg => ok_strconv_Itoa v_1.Minor _ hr_4) si si si si sg si ?cont4
 simp only [go_sem, simprocAttr]
 try refine ⟨by first | exact sd | ((repeat' apply And.intro) <;> first | assumption | omega | (simp only [List.length_append, List.length_map, List.length_cons, List.length_nil, List.length_set, List.length_replicate] at c_3 c_5 c_6 c_8 ⊢; omega)), ?_⟩
 refine Dr.callF (av := ?av5) (g := true) (o := ?o5) (fun hg => ok_strconv_Itoa v_1.Patch _ hr_7) si si si si sg si ?cont5
 simp only [go_sem, simprocAttr]
 first | apply hK2 | refine ⟨by first | exact sd | ((repeat' apply And.intro) <;> first | assumption | omega | (simp only [List.length_append, List.length_map, List.length_cons, List.length_nil, List.length_set, List.length_replicate] at c_3 c_5 c_6 c_8 ⊢; omega)), hK2 _ _ ?_⟩
 refine Wp.seqW fun K6 hK6 hW6 => ?_
 refine qS ?_
 refine cM hm (fun hc8 hm => ?_) (fun hc8 hm => ?_)
 ·obtain ⟨c_9, hm⟩ := chk_elim hm
  obtain ⟨c_10, hm⟩ := chk_elim hm
  refine Wp.region fun K9 hK9 => ?_
  simp only [go_sem, simprocAttr]
  first | apply hK9 | refine ⟨by first | exact sd | ((repeat' apply And.intro) <;> first | assumption | omega | (simp only [List.length_append, List.length_map, List.length_cons, List.length_nil, List.length_set, List.length_replicate] at c_9 c_10 ⊢; omega)), hK9 _ _ ?_⟩
  refine hK6 _ _ ?_
  refine qS ?_
  refine Wp.ret ?_
  refine retQ_ret ?_
  cases hm
  exact fse4
 ·refine Wp.skip ?_
  refine hK6 _ _ ?_
  refine qS ?_
  refine Wp.ret ?_
  refine retQ_ret ?_
  cases hm
  exact fse4
theorem ok_ver_Print (v_1 : api_Version) (z : Str × Int) (hm : ver_Print v_1 = some z) : Does Tryz.prog 37 [.agg [.p (.i .i64 v_1.Major), .p (.i .i64 v_1.Minor), .p (.i .i64 v_1.Patch), .p (.s v_1.Early)]] [] (fun r X => r = .tup [.p (.s z.1), .p (.i .i64 z.2)] ∧ X = []) := by
 unfold ver_Print at hm
 refine Does.of_wp 0 12 [.tmp 2, .tmp 3] Tryz.func37 rfl (by decide) rfl rfl (Nat.le_of_ble_eq_true rfl) fun B => ?_
 refine qS ?_
 refine Wp.seqW fun K2 hK2 hW2 => ?_
 obtain ⟨r_2, hr_2, hm⟩ := call_elim hm
 refine Wp.seqR fun K3 hK3 => ?_
 simp only [go_sem, simprocAttr]
 try refine ⟨sd, ?_⟩
 refine Rg.callX (av := ?av4) (g := true) (fun hg => ok_ver_Check v_1 _ hr_2) si si si sg si ?cont4
 intro hv4
 simp only [go_sem, simprocAttr]
 first | apply hK3 | refine ⟨sd, hK3 _ _ ?_⟩
 refine qS ?_
 refine cM hm (fun hc6 hm => ?_) (fun hc6 hm => ?_)
 ·refine qS ?_
  refine Wp.ret ?_
  refine retQ_ret ?_
  cases hm
  exact fse4
 ·refine Wp.skip ?_
  refine hK2 _ _ ?_
  obtain ⟨r_3, hr_3, hm⟩ := call_elim hm
  refine Wp.seqR fun K8 hK8 => ?_
  simp only [go_sem, simprocAttr]
  try refine ⟨sd, ?_⟩
  refine Rg.callX (av := ?av9) (g := true) (fun hg => ok_ver_text v_1 _ hr_3) si si si sg si ?cont9
  intro hv9
  simp only [go_sem, simprocAttr]
  first | apply hK8 | refine ⟨sd, hK8 _ _ ?_⟩
  refine Wp.ret ?_
  refine retQ_ret ?_
  cases hm
  exact fse4
theorem ok_strings_Builder_copyCheck_i1 (o1_1 : Str) (z : Unit) (hm : strings_Builder_copyCheck_i1 o1_1 = some z) : Does Tryz.prog 68 [.ptr 0 0] [.cells 71 [.nil, .buf 1], .sb 5 o1_1] (fun r X => r = .tup [] ∧ X = [.cells 71 [.ptr 0 0, .buf 1], .sb 5 o1_1]) := by
 unfold strings_Builder_copyCheck_i1 at hm
 refine Does.of_wp 2 20 [] Tryz.func68 rfl (by decide) rfl rfl (Nat.le_of_ble_eq_true rfl) fun B => ?_
 refine qS ?_
 refine Wp.cond rfl ⟨⟩ (fun hc2 => ?_) (fun hc2 => ?_)
 rotate_left
 ·cases hc2
 refine Wp.region fun K3 hK3 => ?_
 simp only [go_sem, simprocAttr]
 try refine ⟨sd, ?_⟩
 refine Rg.callI (v := ?av4) (g := true) nvi_90 si si sg ?cont4
 simp only [go_sem, simprocAttr]
 first | apply hK3 | refine ⟨sd, hK3 _ _ ?_⟩
 refine retQ_normal ?_
 cases hm
 exact fse4
theorem ok_strings_Builder_copyCheck_i2 (o1_1 : Str) (z : Unit) (hm : strings_Builder_copyCheck_i2 o1_1 = some z) : Does Tryz.prog 68 [.ptr 0 0] [.cells 71 [.ptr 0 0, .buf 1], .sb 5 o1_1] (fun r X => r = .tup [] ∧ X = [.cells 71 [.ptr 0 0, .buf 1], .sb 5 o1_1]) := by
 unfold strings_Builder_copyCheck_i2 at hm
 refine Does.of_wp 2 20 [] Tryz.func68 rfl (by decide) rfl rfl (Nat.le_of_ble_eq_true rfl) fun B => ?_
 refine qS ?_
 refine Wp.cond rfl ⟨⟩ (fun hc2 => ?_) (fun hc2 => ?_)
 ·cases hc2
 refine qS ?_
 refine Wp.cond rfl ⟨⟩ (fun hc4 => ?_) (fun hc4 => ?_)
 ·cases hc4
 refine Wp.skip ?_
 refine retQ_normal ?_
 cases hm
 exact fse4
theorem ok_strings_Builder_copyCheck_np (o0 : Str) (z : Unit) (hm : strings_Builder_copyCheck_np o0 = some z) : Does Tryz.prog 68 [.ptr 0 0] [.cells 71 [.np 0, .buf 1], .sb 5 o0] (fun r X => r = .tup [] ∧ X = [.cells 71 [.np 0, .buf 1], .sb 5 o0]) :=
 Does.np (ok_strings_Builder_copyCheck_i1 o0 () rfl) (ok_strings_Builder_copyCheck_i2 o0 () rfl)
theorem ok_strings_Builder_WriteString_i1 (s_1 : Str) (o1_2 : Str) (z : Int × Str) (hm : strings_Builder_WriteString_i1 s_1 o1_2 = some z) : Does Tryz.prog 38 [.ptr 0 0, .p (.s s_1)] [.cells 71 [.np 0, .buf 1], .sb 5 o1_2] (fun r X => r = .tup [.p (.i .i64 z.1), .raw .nilIface] ∧ X = [.cells 71 [.np 0, .buf 1], .sb 5 z.2]) := by
 unfold strings_Builder_WriteString_i1 at hm
 refine Does.of_wp 2 19 [.tmp 4, .tmp 5] Tryz.func38 rfl (by decide) rfl rfl (Nat.le_of_ble_eq_true rfl) fun B => ?_
 refine qS ?_
 obtain ⟨r_5, hr_5, hm⟩ := call_elim hm
 refine Wp.seqR fun K2 hK2 => ?_
 simp only [go_sem, simprocAttr]
 try refine ⟨sd, ?_⟩
 refine Rg.callO (av := ?av3) [0, 1] (ok_strings_Builder_copyCheck_np o1_2 _ hr_5) si si si sg sg ?cont3
 rintro _ _ ⟨rfl, rfl⟩ hv3
 simp only [go_sem, simprocAttr]
 first | apply hK2 | refine ⟨sd, hK2 _ _ ?_⟩
 obtain ⟨c_6, hm⟩ := chk_elim hm
 refine Wp.seqR fun K4 hK4 => ?_
 simp only [go_sem, simprocAttr]
 first | apply hK4 | refine ⟨by first | exact sd | ((repeat' apply And.intro) <;> first | assumption | omega | (simp only [List.length_append, List.length_map, List.length_cons, List.length_nil, List.length_set, List.length_replicate] at c_6 ⊢; omega)), hK4 _ _ ?_⟩
 refine qS ?_
 refine Wp.ret ?_
 refine retQ_ret ?_
 cases hm
 exact fse4
theorem ok_strings_Builder_String_i1 (o1_1 : Str) (z : Str) (hm : strings_Builder_String_i1 o1_1 = some z) : Does Tryz.prog 40 [.ptr 0 0] [.cells 71 [.np 0, .buf 1], .sb 5 o1_1] (fun r X => r = .p (.s z) ∧ X = [.cells 71 [.np 0, .buf 1], .sb 5 o1_1]) := by
 unfold strings_Builder_String_i1 at hm
 refine Does.of_wp 2 14 [.tmp 2] Tryz.func40 rfl (by decide) rfl rfl (Nat.le_of_ble_eq_true rfl) fun B => ?_
 refine qS ?_
 refine Wp.seqD (plan := pl [(0, none), (1, none), (2, none), (3, none), (5, none), (6, none), (7, none), (8, none), (9, none), (4, some [5, 6, 7, 8, 9]), (10, some []), (11, none)]) (by kernel_rfl) rfl (by kernel_rfl) fun K2 hK2 => ?_
 simp only [go_sem, simprocAttr]
 first | apply hK2 | refine ⟨sd, hK2 _ _ ?_⟩
 refine Wp.ret ?_
 refine retQ_ret ?_
 cases hm
 exact fse4
theorem ok_log_Report (l_1 : List api_Record) (from_2 : Int) (to_3 : Int) (z : Str × Int) (hm : log_Report l_1 from_2 to_3 = some z) : Does Tryz.prog 17 [.p (.l (List.map enc_api_Record l_1)), .p (.i .i64 from_2), .p (.i .i64 to_3)] [] (fun r X => r = .tup [.p (.s z.1), .p (.i .i64 z.2)] ∧ X = []) := by
 unfold log_Report at hm
 refine Does.of_wp 0 116 [.tmp 6, .tmp 7] Tryz.func17 rfl (by decide) rfl rfl (Nat.le_of_ble_eq_true rfl) fun B => ?_
 refine qS ?_
 obtain ⟨r_4, hr_4, hm⟩ := call_elim hm
 refine Wp.seqR fun K2 hK2 => ?_
 simp only [go_sem, simprocAttr]
 try refine ⟨sd, ?_⟩
 refine Rg.callF (av := ?av3) (ok_log_span l_1 from_2 to_3 _ hr_4) si si sg ?cont3
 intro hv3
 simp only [go_sem, simprocAttr]
 first | apply hK2 | refine ⟨sd, hK2 _ _ ?_⟩
 refine Wp.seqW fun K4 hK4 hW4 => ?_
 refine qS ?_
 refine cM hm (fun hc6 hm => ?_) (fun hc6 hm => ?_)
 ·refine qS ?_
  refine Wp.ret ?_
  refine retQ_ret ?_
  cases hm
  exact fse3
 ·refine Wp.skip ?_
  refine hK4 _ _ ?_
  refine qS ?_
  refine Wp.seqW fun K9 hK9 hW9 => ?_
  obtain ⟨k_40, hk_40, hm⟩ := jp_elim hm
  have hcut9 : ∀ s, k_40 s = some z → K9 [(0, .p (.l (List.map enc_api_Record l_1))), (2, .p (.i .i64 to_3)), (10, .mp 0)] [.mp true (encM Dt.s enc_log_done s)] := by
   intro m0_39 hs
   have hm := hk_40 _ hs
   clear hs
   try dsimp only at hm
   try dsimp only
   refine hK9 _ _ ?_
   obtain ⟨r_41, hr_41, hm⟩ := call_elim hm
   obtain ⟨c_42, hm⟩ := chk_elim hm
   obtain ⟨r_43, hr_43, hm⟩ := call_elim hm
   refine Wp.seqR fun K10 hK10 => ?_
   simp only [go_sem, simprocAttr]
   try refine ⟨by first | exact sd | ((repeat' apply And.intro) <;> first | assumption | omega | (simp only [List.length_append, List.length_map, List.length_cons, List.length_nil, List.length_set, List.length_replicate] at c_42 ⊢; omega)), ?_⟩
   refine Rg.callX (av := ?av11) (g := true) (fun hg => ok_log_until l_1 (IntKind.i64.wrap (to_3 - 1)) _ hr_41) si si si sg si ?cont11
   intro hv11
   simp only [go_sem, simprocAttr]
   try refine ⟨by first | exact sd | ((repeat' apply And.intro) <;> first | assumption | omega | (simp only [List.length_append, List.length_map, List.length_cons, List.length_nil, List.length_set, List.length_replicate] at c_42 ⊢; omega)), ?_⟩
   refine Rg.callO (av := ?av12) [] (ok_log_behind (List.take r_41.toNat l_1) _ hr_43) si si si sg sg ?cont12
   rintro _ _ ⟨rfl, rfl⟩ hv12
   simp only [go_sem, simprocAttr]
   first | apply hK10 | refine ⟨by first | exact sd | ((repeat' apply And.intro) <;> first | assumption | omega | (simp only [List.length_append, List.length_map, List.length_cons, List.length_nil, List.length_set, List.length_replicate] at c_42 ⊢; omega)), hK10 _ _ ?_⟩
   refine qS ?_
   refine Wp.adoptB 3 5 rfl ?_
   simp only [go_sem, simprocAttr]
   refine Wp.seqW fun K14 hK14 hW14 => ?_
   obtain ⟨k_149, hk_149, hm⟩ := jp_elim hm
   have hcut14 : ∀ s, k_149 s = some z → K14 [(15, .ptr 3 0)] [.mp true (encM Dt.s enc_log_done m0_39), .mp true (encM Dt.s enc_log_had r_43.1), .cells 81 [.top, .top], .cells 71 [.np 3, .buf 4], .sb 5 s] := by
    intro o4_148 hs
    have hm := hk_149 _ hs
    clear hs
    try dsimp only at hm
    try dsimp only
    refine hK14 _ _ ?_
    obtain ⟨r_150, hr_150, hm⟩ := call_elim hm
    refine Wp.seqR fun K15 hK15 => ?_
    simp only [go_sem, simprocAttr]
    try refine ⟨sd, ?_⟩
    refine Rg.callO (av := ?av16) [3, 4] (ok_strings_Builder_String_i1 o4_148 _ hr_150) si si si sg sg ?cont16
    rintro _ _ ⟨rfl, rfl⟩ hv16
    simp only [go_sem, simprocAttr]
    first | apply hK15 | refine ⟨sd, hK15 _ _ ?_⟩
    refine Wp.ret ?_
    refine retQ_ret ?_
    cases hm
    exact fse4
   clear hK14 hk_149
   obtain ⟨r_151, hr_151, hm⟩ := call_elim hm
   obtain ⟨r_152, hr_152, hm⟩ := call_elim hm
   refine Wp.seqR fun K17 hK17 => ?_
   simp only [go_sem, simprocAttr]
   try refine ⟨sd, ?_⟩
   refine Rg.callO (av := ?av18) [0] (ok_maps_Keys_map_string_log_done_string_log_done_i1 m0_39 _ hr_151) si si si sg sg ?cont18
   rintro _ _ ⟨rfl, rfl⟩ hv18
   simp only [go_sem, simprocAttr]
   try refine ⟨sd, ?_⟩
   refine Rg.callR (av := ?av19) (g := true) [5, 0] (fun hg => ok_slices_Sorted_keys_65 m0_39 _ hr_152) si si si si sg sg sg ?cont19
   simp only [go_sem, simprocAttr]
   first | apply hK17 | refine ⟨sd, hK17 _ _ ?_⟩
   refine Wp.block ?_
   obtain ⟨k_220, hk_220, hm⟩ := forL_cont hm
   refine Wp.fact 73 fun hl_223 => ?_
   replace hl_223 : r_152.length ≤ 274877906944 := by
    simp only [go_sem, simprocAttr, List.length_map] at hl_223
    omega
   refine Wp.forL (fun i_222 s => [(10, .mp 0), (14, .ptr 2 0), (15, .ptr 3 0), (73, .p (.l (List.map ecS r_152))), (74, .p (.i .i64 (r_152.length : Int))), (75, .p (.i .i64 (i_222 : Int)))]) (fun i_222 s => [.mp true (encM Dt.s enc_log_done m0_39), .mp true (encM Dt.s enc_log_had r_43.1), .cells 81 [.mp 1, .p (.i .i64 r_43.2)], .cells 71 [.np 3, .buf 4], .sb 5 s, .cells 64 [.top]]) ?_ hm ?_
   ·
    exact fse4
   clear hm
   intro i_222 o4_198 hii_222 hm
   try dsimp only at hm
   try dsimp only
   refine qS ?_
   refine Wp.seqW fun K21 hK21 hW21 => ?_
   refine Wp.cond rfl ⟨⟩ (fun hc21 => ?_) (fun hc21 => ?_)
   rotate_left
   ·refine Wp.exit ?_
    have hm := hk_220 _ (forL_end hm (ge_nat (by first | exact hc21 | simpa using hc21)))
    try dsimp only at hm
    refine hW14 _ _ _ _ ?_ (hcut14 o4_198 hm)
    exact fse4
   have hlt21 := lt_nat (by first | exact hc21 | simpa using hc21)
   have hw21 := wrap_succ hlt21 hl_223
   obtain ⟨s_224, nx_221, hxs_224, hys_224, hnx_221, hm⟩ := forL_step hm hlt21
   replace hxs_224 := hxs_224 ecS
   refine Wp.skip ?_
   simp only [thenQ]
   refine hK21 _ _ ?_
   refine Wp.seqW fun K22 hK22 hW22 => ?_
   refine Wp.block ?_
   refine Wp.seqR fun K23 hK23 => ?_
   simp only [go_sem, simprocAttr, hw21, hxs_224]
   first | apply hK23 | refine ⟨sd, hK23 _ _ ?_⟩
   obtain ⟨q_225, hq_226, hm⟩ := letv_elim hm
   have hq_226d := mlookD_enc (e := enc_log_done) keq_s m0_39 s_224 (log_done.mk 0 0)
   have hq_226s := mlook_some (e := enc_log_done) keq_s m0_39 s_224
   simp only [hq_226, enc_log_done, List.map_nil] at hq_226d hq_226s
   refine Wp.seqR fun K24 hK24 => ?_
   simp only [go_sem, simprocAttr, hw21, hxs_224, hq_226d, hq_226s]
   first | apply hK24 | refine ⟨sd, hK24 _ _ ?_⟩
   refine Wp.seqR fun K25 hK25 => ?_
   simp only [go_sem, simprocAttr, hw21, hxs_224]
   first | apply hK25 | refine ⟨sd, hK25 _ _ ?_⟩
   refine Wp.seqW fun K26 hK26 hW26 => ?_
   obtain ⟨k_231, hk_231, hm⟩ := jp_elim hm
   have hcut26 : ∀ s, k_231 s = some z → K26 [(10, .mp 0), (14, .ptr 2 0), (15, .ptr 3 0), (17, .p (.s s_224)), (18, .ptr 6 0), (19, .p (.s s)), (73, .p (.l (List.map ecS r_152))), (74, .p (.i .i64 (r_152.length : Int))), (75, .p (.i .i64 (i_222 : Int)))] [.mp true (encM Dt.s enc_log_done m0_39), .mp true (encM Dt.s enc_log_had r_43.1), .cells 81 [.mp 1, .p (.i .i64 r_43.2)], .cells 71 [.np 3, .buf 4], .sb 5 o4_198, .cells 64 [.top], .cells 66 [.p (.i .i64 ((q_225.getD (log_done.mk 0 0)).well)), .p (.i .i64 ((q_225.getD (log_done.mk 0 0)).failed))]] := by
    intro version_230 hs
    have hm := hk_231 _ hs
    clear hs
    try dsimp only at hm
    try dsimp only
    refine hK26 _ _ ?_
    obtain ⟨c_232, hm⟩ := chk_elim hm
    obtain ⟨r_233, hr_233, hm⟩ := call_elim hm
    obtain ⟨c_234, hm⟩ := chk_elim hm
    obtain ⟨c_235, hm⟩ := chk_elim hm
    obtain ⟨r_236, hr_236, hm⟩ := call_elim hm
    obtain ⟨c_237, hm⟩ := chk_elim hm
    obtain ⟨c_238, hm⟩ := chk_elim hm
    obtain ⟨c_239, hm⟩ := chk_elim hm
    obtain ⟨c_240, hm⟩ := chk_elim hm
    obtain ⟨r_241, hr_241, hm⟩ := call_elim hm
    refine Wp.regD (plan := pl [(0, none), (1, none), (2, none), (3, none), (4, none), (5, none), (6, none), (7, none), (8, none), (9, none), (10, none), (11, none), (12, none), (13, none), (14, none), (15, some [])]) (by kernel_rfl) rfl (by kernel_rfl) fun K27 hK27 => ?_
    simp only [go_sem, simprocAttr, hw21, hxs_224]
    try refine ⟨by first | exact sd | ((repeat' apply And.intro) <;> first | assumption | omega | (simp only [List.length_append, List.length_map, List.length_cons, List.length_nil, List.length_set, List.length_replicate] at c_232 c_234 c_235 c_237 c_238 c_239 c_240 ⊢; omega)), ?_⟩
    refine Dr.callF (av := ?av28) (g := true) (o := ?o28) (fun hg => ok_strconv_Itoa ((q_225.getD (log_done.mk 0 0)).well) _ hr_233) (by simp only [go_sem, simprocAttr, hw21, hxs_224]; exact Is.mk) (by simp only [go_sem, simprocAttr, hw21, hxs_224]; exact Is.mk) (by simp only [go_sem, simprocAttr, hw21, hxs_224]; exact Is.mk) (by simp only [go_sem, simprocAttr, hw21, hxs_224]; exact Is.mk) (by simp only [go_sem, simprocAttr, hw21, hxs_224]) (by simp only [go_sem, simprocAttr, hw21, hxs_224]; exact Is.mk) ?cont28
    simp only [go_sem, simprocAttr, hw21, hxs_224]
    try refine ⟨by first | exact sd | ((repeat' apply And.intro) <;> first | assumption | omega | (simp only [List.length_append, List.length_map, List.length_cons, List.length_nil, List.length_set, List.length_replicate] at c_232 c_234 c_235 c_237 c_238 c_239 c_240 ⊢; omega)), ?_⟩
    refine Dr.callF (av := ?av29) (g := true) (o := ?o29) (fun hg => ok_strconv_Itoa ((q_225.getD (log_done.mk 0 0)).failed) _ hr_236) (by simp only [go_sem, simprocAttr, hw21, hxs_224]; exact Is.mk) (by simp only [go_sem, simprocAttr, hw21, hxs_224]; exact Is.mk) (by simp only [go_sem, simprocAttr, hw21, hxs_224]; exact Is.mk) (by simp only [go_sem, simprocAttr, hw21, hxs_224]; exact Is.mk) (by simp only [go_sem, simprocAttr, hw21, hxs_224]) (by simp only [go_sem, simprocAttr, hw21, hxs_224]; exact Is.mk) ?cont29
    simp only [go_sem, simprocAttr, hw21, hxs_224]
    try refine ⟨by first | exact sd | ((repeat' apply And.intro) <;> first | assumption | omega | (simp only [List.length_append, List.length_map, List.length_cons, List.length_nil, List.length_set, List.length_replicate] at c_232 c_234 c_235 c_237 c_238 c_239 c_240 ⊢; omega)), ?_⟩
    refine Dr.of_br (Br.callS (av := ?av30) (o := ?o30) 4 [3, 4] (ok_strings_Builder_WriteString_i1 (((((((s_224 ++ ([58, 32] : Str)) ++ r_233) ++ ([32, 100, 111, 110, 101, 44, 32] : Str)) ++ r_236) ++ ([32, 102, 97, 105, 108, 101, 100, 44, 32, 110, 111, 119, 32] : Str)) ++ version_230) ++ ([10] : Str)) o4_198 _ hr_241) (by simp only [go_sem, simprocAttr, hw21, hxs_224]; exact Is.mk) (by simp only [go_sem, simprocAttr, hw21, hxs_224]; exact Is.mk) (by simp only [go_sem, simprocAttr, hw21, hxs_224]; exact Is.mk) (by simp only [go_sem, simprocAttr, hw21, hxs_224]; exact Is.mk) (by simp only [go_sem, simprocAttr, hw21, hxs_224]; first | exact Is.mk | (simp only [List.map_append, List.map_cons, List.map_nil, ecB, ecI_i64, ecI_u8, ecS, enc_api_Record, enc_api_Version]; exact Is.mk)) (by simp only [go_sem, simprocAttr, hw21, hxs_224]) (by simp only [go_sem, simprocAttr, hw21, hxs_224]) (by simp only [go_sem, simprocAttr, hw21, hxs_224]) (by simp only [go_sem, simprocAttr, hw21, hxs_224]) ?cont30)
    simp only [go_sem, simprocAttr, hw21, hxs_224]
    first | apply hK27 | refine ⟨by first | exact sd | ((repeat' apply And.intro) <;> first | assumption | omega | (simp only [List.length_append, List.length_map, List.length_cons, List.length_nil, List.length_set, List.length_replicate] at c_232 c_234 c_235 c_237 c_238 c_239 c_240 ⊢; omega)), hK27 _ _ ?_⟩
    refine hK22 _ _ ?_
    refine Wp.region fun K31 hK31 => ?_
    simp only [go_sem, simprocAttr, hw21, hxs_224]
    first | apply hK31 | refine ⟨sd, hK31 _ _ ?_⟩
    simp only [thenQ, blockQ, ↓reduceIte]
    refine ⟨r_241.2, hlt21, hnx_221 _ hm, ?_⟩
    simp only [go_sem, simprocAttr, hw21, hxs_224]
    try exact se4
   clear hK26 hk_231
   obtain ⟨q_242, hq_243, hm⟩ := letv_elim hm
   have hq_243d := mlookD_enc (e := enc_log_had) keq_s r_43.1 s_224 (log_had.mk (api_Version.mk 0 0 0 []) 0)
   have hq_243s := mlook_some (e := enc_log_had) keq_s r_43.1 s_224
   simp only [hq_243, enc_log_had, List.map_nil] at hq_243d hq_243s
   refine Wp.seqR fun K32 hK32 => ?_
   simp only [go_sem, simprocAttr, hw21, hxs_224, hq_243d, hq_243s]
   first | apply hK32 | refine ⟨sd, hK32 _ _ ?_⟩
   refine Wp.seqR fun K33 hK33 => ?_
   simp only [go_sem, simprocAttr, hw21, hxs_224]
   first | apply hK33 | refine ⟨sd, hK33 _ _ ?_⟩
   refine cM hm (fun hc34 hm => ?_) (fun hc34 hm => ?_)
   ·obtain ⟨r_244, hr_244, hm⟩ := call_elim hm
    refine Wp.region fun K35 hK35 => ?_
    simp only [go_sem, simprocAttr, hw21, hxs_224]
    try refine ⟨sd, ?_⟩
    refine Rg.callX (av := ?av36) (g := true) (fun hg => ok_ver_Print ((q_242.getD (log_had.mk (api_Version.mk 0 0 0 []) 0)).v) _ hr_244) (by simp only [go_sem, simprocAttr, hw21, hxs_224]; exact Is.mk) (by simp only [go_sem, simprocAttr, hw21, hxs_224]; exact Is.mk) (by simp only [go_sem, simprocAttr, hw21, hxs_224]; exact Is.mk) (by simp only [go_sem, simprocAttr, hw21, hxs_224]) (by simp only [go_sem, simprocAttr, hw21, hxs_224]; exact Is.mk) ?cont36
    intro hv36
    simp only [go_sem, simprocAttr, hw21, hxs_224]
    first | apply hK35 | refine ⟨sd, hK35 _ _ ?_⟩
    refine hW26 _ _ _ _ ?_ (hcut26 r_244.1 hm)
    simp only [go_sem, simprocAttr, hw21, hxs_224]
    try exact se4
   ·refine Wp.skip ?_
    refine hW26 _ _ _ _ ?_ (hcut26 ([45] : Str) hm)
    simp only [go_sem, simprocAttr, hw21, hxs_224]
    try exact se4
  clear hK9 hk_40
  refine qS ?_
  refine Wp.block ?_
  obtain ⟨k_266, hk_266, hm⟩ := forL_cont hm
  refine Wp.fact 33 fun hl_269 => ?_
  replace hl_269 : r_4.1.length ≤ 274877906944 := by
   simp only [go_sem, simprocAttr, List.length_map] at hl_269
   omega
  refine Wp.forL (fun i_268 s => [(0, .p (.l (List.map enc_api_Record l_1))), (2, .p (.i .i64 to_3)), (10, .mp 0), (33, .p (.l (List.map enc_api_Record r_4.1))), (34, .p (.i .i64 (r_4.1.length : Int))), (35, .p (.i .i64 (i_268 : Int)))]) (fun i_268 s => [.mp true (encM Dt.s enc_log_done s)]) ?_ hm ?_
  ·
   exact fse4
  clear hm
  intro i_268 m0_256 hii_268 hm
  try dsimp only at hm
  try dsimp only
  refine qS ?_
  refine Wp.seqW fun K39 hK39 hW39 => ?_
  refine Wp.cond rfl ⟨⟩ (fun hc39 => ?_) (fun hc39 => ?_)
  rotate_left
  ·refine Wp.exit ?_
   have hm := hk_266 _ (forL_end hm (ge_nat (by first | exact hc39 | simpa using hc39)))
   try dsimp only at hm
   refine hW9 _ _ _ _ ?_ (hcut9 m0_256 hm)
   exact fse4
  have hlt39 := lt_nat (by first | exact hc39 | simpa using hc39)
  have hw39 := wrap_succ hlt39 hl_269
  obtain ⟨r_270, nx_267, hxr_270, hyr_270, hnx_267, hm⟩ := forL_step hm hlt39
  replace hxr_270 := hxr_270 enc_api_Record
  refine Wp.skip ?_
  simp only [thenQ]
  refine hK39 _ _ ?_
  refine Wp.seqW fun K40 hK40 hW40 => ?_
  refine Wp.block ?_
  refine Wp.seqR fun K41 hK41 => ?_
  simp only [go_sem, simprocAttr, hw39, hxr_270]
  first | apply hK41 | refine ⟨sd, hK41 _ _ ?_⟩
  obtain ⟨q_271, hq_272, hm⟩ := letv_elim hm
  have hq_272d := mlookD_enc (e := enc_log_done) keq_s m0_256 r_270.Pack (log_done.mk 0 0)
  have hq_272s := mlook_some (e := enc_log_done) keq_s m0_256 r_270.Pack
  simp only [hq_272, enc_log_done, List.map_nil] at hq_272d hq_272s
  refine Wp.seqR fun K42 hK42 => ?_
  simp only [go_sem, simprocAttr, hw39, hxr_270, hq_272d, hq_272s]
  first | apply hK42 | refine ⟨sd, hK42 _ _ ?_⟩
  refine Wp.seqW fun K43 hK43 hW43 => ?_
  refine Wp.block ?_
  refine Wp.seqR fun K44 hK44 => ?_
  simp only [go_sem, simprocAttr, hw39, hxr_270]
  first | apply hK44 | refine ⟨sd, hK44 _ _ ?_⟩
  refine cM hm (fun hc45 hm => ?_) (fun hc45 hm => ?_)
  ·refine Wp.skip ?_
   refine hK43 _ _ ?_
   obtain ⟨c_274, hm⟩ := chk_elim hm
   have hp_273 := mset_enc (e := enc_log_done) keq_s m0_256 r_270.Pack (q_271.getD (log_done.mk 0 0))
   simp only [enc_log_done] at hp_273
   refine Wp.region fun K46 hK46 => ?_
   simp only [go_sem, simprocAttr, hw39, hxr_270, hp_273]
   first | apply hK46 | refine ⟨by first | exact sd | ((repeat' apply And.intro) <;> first | assumption | omega | (simp only [List.length_append, List.length_map, List.length_cons, List.length_nil, List.length_set, List.length_replicate] at c_274 ⊢; omega)), hK46 _ _ ?_⟩
   refine hK40 _ _ ?_
   refine Wp.region fun K47 hK47 => ?_
   simp only [go_sem, simprocAttr, hw39, hxr_270]
   first | apply hK47 | refine ⟨sd, hK47 _ _ ?_⟩
   simp only [thenQ, blockQ, ↓reduceIte]
   refine ⟨aset m0_256 r_270.Pack (q_271.getD (log_done.mk 0 0)), hlt39, hnx_267 _ hm, ?_⟩
   simp only [go_sem, simprocAttr, hw39, hxr_270]
   try exact se4
  ·refine Wp.seqR fun K48 hK48 => ?_
   simp only [go_sem, simprocAttr, hw39, hxr_270]
   first | apply hK48 | refine ⟨sd, hK48 _ _ ?_⟩
   refine cM hm (fun hc49 hm => ?_) (fun hc49 hm => ?_)
   ·refine Wp.region fun K50 hK50 => ?_
    simp only [go_sem, simprocAttr, hw39, hxr_270]
    first | apply hK50 | refine ⟨sd, hK50 _ _ ?_⟩
    refine hK43 _ _ ?_
    obtain ⟨c_276, hm⟩ := chk_elim hm
    have hp_275 := mset_enc (e := enc_log_done) keq_s m0_256 r_270.Pack (log_done.mk (IntKind.i64.wrap (((q_271.getD (log_done.mk 0 0)).well) + 1)) ((q_271.getD (log_done.mk 0 0)).failed))
    simp only [enc_log_done] at hp_275
    refine Wp.region fun K51 hK51 => ?_
    simp only [go_sem, simprocAttr, hw39, hxr_270, hp_275]
    first | apply hK51 | refine ⟨by first | exact sd | ((repeat' apply And.intro) <;> first | assumption | omega | (simp only [List.length_append, List.length_map, List.length_cons, List.length_nil, List.length_set, List.length_replicate] at c_276 ⊢; omega)), hK51 _ _ ?_⟩
    refine hK40 _ _ ?_
    refine Wp.region fun K52 hK52 => ?_
    simp only [go_sem, simprocAttr, hw39, hxr_270]
    first | apply hK52 | refine ⟨sd, hK52 _ _ ?_⟩
    simp only [thenQ, blockQ, ↓reduceIte]
    refine ⟨aset m0_256 r_270.Pack (log_done.mk (IntKind.i64.wrap (((q_271.getD (log_done.mk 0 0)).well) + 1)) ((q_271.getD (log_done.mk 0 0)).failed)), hlt39, hnx_267 _ hm, ?_⟩
    simp only [go_sem, simprocAttr, hw39, hxr_270]
    try exact se4
   ·refine Wp.region fun K53 hK53 => ?_
    simp only [go_sem, simprocAttr, hw39, hxr_270]
    first | apply hK53 | refine ⟨sd, hK53 _ _ ?_⟩
    refine hK43 _ _ ?_
    obtain ⟨c_278, hm⟩ := chk_elim hm
    have hp_277 := mset_enc (e := enc_log_done) keq_s m0_256 r_270.Pack (log_done.mk ((q_271.getD (log_done.mk 0 0)).well) (IntKind.i64.wrap (((q_271.getD (log_done.mk 0 0)).failed) + 1)))
    simp only [enc_log_done] at hp_277
    refine Wp.region fun K54 hK54 => ?_
    simp only [go_sem, simprocAttr, hw39, hxr_270, hp_277]
    first | apply hK54 | refine ⟨by first | exact sd | ((repeat' apply And.intro) <;> first | assumption | omega | (simp only [List.length_append, List.length_map, List.length_cons, List.length_nil, List.length_set, List.length_replicate] at c_278 ⊢; omega)), hK54 _ _ ?_⟩
    refine hK40 _ _ ?_
    refine Wp.region fun K55 hK55 => ?_
    simp only [go_sem, simprocAttr, hw39, hxr_270]
    first | apply hK55 | refine ⟨sd, hK55 _ _ ?_⟩
    simp only [thenQ, blockQ, ↓reduceIte]
    refine ⟨aset m0_256 r_270.Pack (log_done.mk ((q_271.getD (log_done.mk 0 0)).well) (IntKind.i64.wrap (((q_271.getD (log_done.mk 0 0)).failed) + 1))), hlt39, hnx_267 _ hm, ?_⟩
    simp only [go_sem, simprocAttr, hw39, hxr_270]
    try exact se4
theorem ok_R_Until_1_i1 (r_1 : api_Record) (o0_0_2 : Int) (z : Bool) (hm : R_Until_1_i1 r_1 o0_0_2 = some z) : Does Tryz.prog 71 [.agg [.p (.i .i64 r_1.Time), .p (.i .i64 r_1.Kind), .p (.s r_1.Pack), .p (.i .i64 r_1.From.Major), .p (.i .i64 r_1.From.Minor), .p (.i .i64 r_1.From.Patch), .p (.s r_1.From.Early), .p (.i .i64 r_1.To.Major), .p (.i .i64 r_1.To.Minor), .p (.i .i64 r_1.To.Patch), .p (.s r_1.To.Early), .p (.i .i64 r_1.Result), .p (.s r_1.Note)], .ptr 0 0] [.cells 3 [.p (.i .i64 o0_0_2)]] (fun r X => r = .p (.b z) ∧ X = [.cells 3 [.p (.i .i64 o0_0_2)]]) := by
 unfold R_Until_1_i1 at hm
 refine Does.of_wp 1 8 [.tmp 3] Tryz.func71 rfl (by decide) rfl rfl (Nat.le_of_ble_eq_true rfl) fun B => ?_
 refine qS ?_
 refine qS ?_
 refine Wp.ret ?_
 refine retQ_ret ?_
 cases hm
 exact fse4
theorem ok_slices_IndexFunc_api_Record_api_Record_i1 (s_1 : List api_Record) (o0_0_2 : Int) (z : Int) (hm : slices_IndexFunc_api_Record_api_Record_i1 s_1 o0_0_2 = some z) : Does Tryz.prog 70 [.p (.l (List.map enc_api_Record s_1)), .fn 71 [.ptr 0 0]] [.cells 3 [.p (.i .i64 o0_0_2)]] (fun r X => r = .p (.i .i64 z) ∧ X = [.cells 3 [.p (.i .i64 o0_0_2)]]) := by
 unfold slices_IndexFunc_api_Record_api_Record_i1 at hm
 refine Does.of_wp 1 19 [.tmp 4] Tryz.func70 rfl (by decide) rfl rfl (Nat.le_of_ble_eq_true rfl) fun B => ?_
 refine qS ?_
 refine Wp.seqW fun K2 hK2 hW2 => ?_
 obtain ⟨k_31, hk_31, hm⟩ := jp_elim hm
 have hcut2 : ∀ s, k_31 s = some z → K2 [] [.cells 3 [.p (.i .i64 o0_0_2)]] := by
  intro s hs
  have hm := hk_31 _ hs
  clear hs
  try dsimp only at hm
  try dsimp only
  refine hK2 _ _ ?_
  refine qS ?_
  refine Wp.ret ?_
  refine retQ_ret ?_
  cases hm
  exact fse4
 clear hK2 hk_31
 refine qS ?_
 refine Wp.block ?_
 obtain ⟨k_35, hk_35, hm⟩ := forL_cont hm
 refine Wp.fact 0 fun hl_38 => ?_
 replace hl_38 : s_1.length ≤ 274877906944 := by
  simp only [go_sem, simprocAttr, List.length_map] at hl_38
  omega
 refine Wp.forL (fun i_37 s => [(0, .p (.l (List.map enc_api_Record s_1))), (1, .fn 71 [.ptr 0 0]), (7, .p (.i .i64 (s_1.length : Int))), (8, .p (.i .i64 (i_37 : Int)))]) (fun i_37 s => [.cells 3 [.p (.i .i64 o0_0_2)]]) ?_ hm ?_
 ·
  exact fse4
 clear hm
 intro i_37 s hii_37 hm
 try dsimp only at hm
 try dsimp only
 refine qS ?_
 refine Wp.seqW fun K6 hK6 hW6 => ?_
 refine Wp.cond rfl ⟨⟩ (fun hc6 => ?_) (fun hc6 => ?_)
 rotate_left
 ·refine Wp.exit ?_
  have hm := hk_35 _ (forL_end hm (ge_nat (by first | exact hc6 | simpa using hc6)))
  try dsimp only at hm
  refine hW2 _ _ _ _ ?_ (hcut2 () hm)
  exact fse4
 have hlt6 := lt_nat (by first | exact hc6 | simpa using hc6)
 have hw6 := wrap_succ hlt6 hl_38
 obtain ⟨r_39, nx_36, hxr_39, hyr_39, hnx_36, hm⟩ := forL_step hm hlt6
 replace hxr_39 := hxr_39 enc_api_Record
 refine Wp.skip ?_
 simp only [thenQ]
 refine hK6 _ _ ?_
 refine Wp.seqW fun K7 hK7 hW7 => ?_
 refine Wp.block ?_
 refine Wp.seqR fun K8 hK8 => ?_
 simp only [go_sem, simprocAttr, hw6, hxr_39]
 first | apply hK8 | refine ⟨sd, hK8 _ _ ?_⟩
 obtain ⟨r_40, hr_40, hm⟩ := call_elim hm
 refine Wp.seqR fun K9 hK9 => ?_
 simp only [go_sem, simprocAttr, hw6, hxr_39]
 try refine ⟨sd, ?_⟩
 refine Rg.callR (av := ?av10) (g := true) [0] (fun hg => ok_R_Until_1_i1 r_39 o0_0_2 _ hr_40) (by simp only [go_sem, simprocAttr, hw6, hxr_39]; exact Is.mk) (by simp only [go_sem, simprocAttr, hw6, hxr_39]; exact Is.mk) (by simp only [go_sem, simprocAttr, hw6, hxr_39]; exact Is.mk) (by simp only [go_sem, simprocAttr, hw6, hxr_39]; exact Is.mk) (by simp only [go_sem, simprocAttr, hw6, hxr_39]) (by simp only [go_sem, simprocAttr, hw6, hxr_39]) (by simp only [go_sem, simprocAttr, hw6, hxr_39]) ?cont10
 simp only [go_sem, simprocAttr, hw6, hxr_39]
 first | apply hK9 | refine ⟨sd, hK9 _ _ ?_⟩
 refine cM hm (fun hc11 hm => ?_) (fun hc11 hm => ?_)
 ·refine Wp.seqR fun K12 hK12 => ?_
  simp only [go_sem, simprocAttr, hw6, hxr_39]
  first | apply hK12 | refine ⟨sd, hK12 _ _ ?_⟩
  refine Wp.ret ?_
  refine retQ_ret ?_
  cases hm
  simp only [go_sem, simprocAttr, hw6, hxr_39]
  try exact se4
 ·refine Wp.skip ?_
  refine hK7 _ _ ?_
  refine Wp.region fun K13 hK13 => ?_
  simp only [go_sem, simprocAttr, hw6, hxr_39]
  first | apply hK13 | refine ⟨sd, hK13 _ _ ?_⟩
  simp only [thenQ, blockQ, ↓reduceIte]
  refine ⟨(), hlt6, hnx_36 _ hm, ?_⟩
  simp only [go_sem, simprocAttr, hw6, hxr_39]
  try exact se4
theorem ok_R_Until (l_1 : List api_Record) (time_2 : Int) (z : List api_Record) (hm : R_Until l_1 time_2 = some z) : Does Tryz.prog 41 [.p (.l (List.map enc_api_Record l_1)), .p (.i .i64 time_2)] [] (fun r X => r = .p (.l (List.map enc_api_Record z)) ∧ X = []) := by
 unfold R_Until at hm
 refine Does.of_wp 0 15 [.tmp 4] Tryz.func41 rfl (by decide) rfl rfl (Nat.le_of_ble_eq_true rfl) fun B => ?_
 refine qS ?_
 obtain ⟨r_3, hr_3, hm⟩ := call_elim hm
 refine Wp.seqR fun K2 hK2 => ?_
 simp only [go_sem, simprocAttr]
 try refine ⟨sd, ?_⟩
 refine Rg.callR (av := ?av3) (g := true) [0] (fun hg => ok_slices_IndexFunc_api_Record_api_Record_i1 l_1 time_2 _ hr_3) si si si si sg sg sg ?cont3
 simp only [go_sem, simprocAttr]
 first | apply hK2 | refine ⟨sd, hK2 _ _ ?_⟩
 refine Wp.seqW fun K4 hK4 hW4 => ?_
 refine qS ?_
 refine cM hm (fun hc6 hm => ?_) (fun hc6 hm => ?_)
 ·refine qS ?_
  refine Wp.ret ?_
  refine retQ_ret ?_
  cases hm
  exact fse4
 ·refine Wp.skip ?_
  refine hK4 _ _ ?_
  obtain ⟨c_4, hm⟩ := chk_elim hm
  refine Wp.seqR fun K8 hK8 => ?_
  simp only [go_sem, simprocAttr]
  first | apply hK8 | refine ⟨by first | exact sd | ((repeat' apply And.intro) <;> first | assumption | omega | (simp only [List.length_append, List.length_map, List.length_cons, List.length_nil, List.length_set, List.length_replicate] at c_4 ⊢; omega)), hK8 _ _ ?_⟩
  refine Wp.ret ?_
  refine retQ_ret ?_
  cases hm
  exact fse4
theorem ok_R_keys_int_i1 (m0_1 : List (Str × Int)) (z : List Str) (hm : R_keys_int_i1 m0_1 = some z) : Does Tryz.prog 42 [.mp 0] [.mp false (encM Dt.s ecI_i64 m0_1)] (fun r X => r = .p (.l (List.map ecS z)) ∧ X = [.mp false (encM Dt.s ecI_i64 m0_1)]) := by
 unfold R_keys_int_i1 at hm
 refine Does.of_wp 1 18 [.tmp 2] Tryz.func42 rfl (by decide) rfl rfl (Nat.le_of_ble_eq_true rfl) fun B => ?_
 refine qS ?_
 refine qS ?_
 refine Wp.seqW fun K3 hK3 hW3 => ?_
 obtain ⟨k_75, hk_75, hm⟩ := jp_elim hm
 have hcut3 : ∀ s, k_75 s = some z → K3 [(3, .buf 2)] [.mp false (encM Dt.s ecI_i64 m0_1), .gone, .buf 9 1 (List.map ecS s)] := by
  intro o2_74 hs
  have hm := hk_75 _ hs
  clear hs
  try dsimp only at hm
  try dsimp only
  refine hK3 _ _ ?_
  refine Wp.toFix 2 (by simp only [go_sem, simprocAttr]; exact Is.mk) (by simp only [go_sem, simprocAttr]) ?_
  simp only [go_sem, simprocAttr]
  obtain ⟨r_76, hr_76, hm⟩ := call_elim hm
  refine Wp.seqR fun K4 hK4 => ?_
  simp only [go_sem, simprocAttr]
  try refine ⟨sd, ?_⟩
  refine Rg.callO (av := ?av5) [2] (ok_slices_Sort_str o2_74 _ hr_76) si si si sg sg ?cont5
  rintro _ _ ⟨rfl, rfl⟩ hv5
  simp only [go_sem, simprocAttr]
  first | apply hK4 | refine ⟨sd, hK4 _ _ ?_⟩
  refine Wp.toBuf 2 (by simp only [go_sem, simprocAttr]; exact Is.mk) (by simp only [go_sem, simprocAttr]) ?_
  simp only [go_sem, simprocAttr]
  refine qS ?_
  refine Wp.ret ?_
  refine retQ_ret ?_
  cases hm
  exact fse4
 clear hK3 hk_75
 refine Wp.seqR fun K7 hK7 => ?_
 simp only [go_sem, simprocAttr]
 try refine ⟨sd, ?_⟩
 refine Rg.range (i := 0) (ag := ?ag8) (es := ?es8) (kt := ?kt8) (et := ?et8) Is.mk Is.mk sg sg si si si ?cont8
 intro bs_77 cl_78 hb_79 hn_80 hl_81
 replace hb_79 := encM_bs hb_79
 simp only [go_sem, simprocAttr]
 first | apply hK7 | refine ⟨sd, hK7 _ _ ?_⟩
 refine Wp.block ?_
 refine Wp.adopt 3 9 1 rfl ?_
 simp only [go_sem, simprocAttr]
 obtain ⟨k_90, hk_90, hm⟩ := forM_cont hm
 refine Wp.forM (bs := bs_77) (fun sn_92 s => [(3, .buf 2), (6, .ptr 1 0)]) (fun sn_92 s => [.mpb false (encM Dt.s ecI_i64 m0_1) bs_77 cl_78, .it 0 cl_78 sn_92, .buf 9 1 (List.map ecS s)]) hb_79 ?_ hm ?_
 ·
  exact fse4
 clear hm
 intro sn_92 o2_85 hm
 try dsimp only at hm
 try dsimp only
 refine Wp.seqR fun K9 hK9 => ?_
 simp only [go_sem, simprocAttr]
 try refine ⟨by exact sd, ?_⟩
 refine Rg.next (q := 1) (i := 0) (cl := cl_78) (bs := bs_77) (seen := sn_92) (ag := ?ag9) (es := ?es9) Is.mk Is.mk sg sg si si si sg ?hb9 hn_80 hl_81 ?he9 ?hs9
 case hb9 => rw [encM_len]; exact hb_79
 case he9 =>
  intro hend
  simp only [go_sem, simprocAttr]
  first | apply hK9 | refine ⟨by exact sd, hK9 _ _ ?_⟩
  refine Wp.seqW fun K10 hK10 hW10 => ?_
  refine Wp.cond rfl ⟨⟩ (fun h => ?_) (fun h => ?_)
  ·cases h
  refine Wp.endM 0 1 (by simp only [go_sem, simprocAttr]; exact Is.mk) (by simp only [go_sem, simprocAttr]; exact Is.mk) (by simp only [go_sem, simprocAttr]) ?_
  simp only [go_sem, simprocAttr]
  refine Wp.exit ?_
  have hm := hk_90 _ (forM_end hm ((left_length (m := bs_77) hb_79 rfl).trans hend))
  try dsimp only at hm
  refine hW3 _ _ _ _ ?_ (hcut3 o2_85 hm)
  exact fse4
 case hs9 =>
  intro j_93 p_94 st_95 hok_96
  simp only [go_sem, simprocAttr]
  first | apply hK9 | refine ⟨by exact sd, hK9 _ _ ?_⟩
  refine Wp.seqW fun K10 hK10 hW10 => ?_
  refine Wp.cond rfl ⟨⟩ (fun h => ?_) (fun h => ?_)
  rotate_left
  ·cases h
  refine Wp.skip ?_
  simp only [thenQ]
  refine hK10 _ _ ?_
  obtain ⟨e_97, nx_91, hx_98, hnx_91, hm⟩ := forM_step hm (hok_96.er _ hb_79).1
  replace hx_98 := (hok_96.er _ hb_79).2.2.symm.trans hx_98
  refine Wp.block ?_
  refine Wp.seqR fun K11 hK11 => ?_
  simp only [go_sem, simprocAttr]
  try refine ⟨sd, ?_⟩
  refine Rg.entry (q := 1) (i := 0) (cl := cl_78) (bs := bs_77) (seen := sn_92) (ag := ?ag12) (es := ?es12) (d := ?d12) (row := ?row12) Is.mk Is.mk sg sg si si si hn_80 hok_96.hp ?he12 ?cont12
  case he12 => exact encM_get hx_98
  simp only [go_sem, simprocAttr]
  first | apply hK11 | refine ⟨sd, hK11 _ _ ?_⟩
  obtain ⟨c_99, hm⟩ := chk_elim hm
  refine Wp.region fun K13 hK13 => ?_
  simp only [go_sem, simprocAttr]
  first | apply hK13 | refine ⟨by first | exact sd | ((repeat' apply And.intro) <;> first | assumption | omega | (simp only [List.length_append, List.length_map, List.length_cons, List.length_nil, List.length_set, List.length_replicate] at c_99 ⊢; omega)), hK13 _ _ ?_⟩
  simp only [thenQ, blockQ, ↓reduceIte]
  refine ⟨_, o2_85 ++ [e_97.1], (forM_next hok_96 hb_79 (hnx_91 _ hm)).1, (forM_next hok_96 hb_79 (hnx_91 _ hm)).2, ?_⟩
  exact fse4
theorem ok_R_VersionText (v_1 : api_Version) (z : Str) (hm : R_VersionText v_1 = some z) : Does Tryz.prog 43 [.agg [.p (.i .i64 v_1.Major), .p (.i .i64 v_1.Minor), .p (.i .i64 v_1.Patch), .p (.s v_1.Early)]] [] (fun r X => r = .p (.s z) ∧ X = []) := by
 unfold R_VersionText at hm
 refine Does.of_wp 0 26 [.tmp 2] Tryz.func43 rfl (by decide) rfl rfl (Nat.le_of_ble_eq_true rfl) fun B => ?_
 refine qS ?_
 obtain ⟨r_2, hr_2, hm⟩ := call_elim hm
 obtain ⟨c_3, hm⟩ := chk_elim hm
 obtain ⟨r_4, hr_4, hm⟩ := call_elim hm
 obtain ⟨c_5, hm⟩ := chk_elim hm
 obtain ⟨c_6, hm⟩ := chk_elim hm
 obtain ⟨r_7, hr_7, hm⟩ := call_elim hm
 obtain ⟨c_8, hm⟩ := chk_elim hm
 refine Wp.seqD (plan := pl [(0, none), (1, none), (2, none), (3, none), (4, none), (5, none), (6, none), (7, none), (8, none), (9, none), (10, none), (11, none), (12, none), (13, none)]) (by kernel_rfl) rfl (by kernel_rfl) fun K2 hK2 => ?_
 simp only [go_sem, simprocAttr]
 try refine ⟨by first | exact sd | ((repeat' apply And.intro) <;> first | assumption | omega | (simp only [List.length_append, List.length_map, List.length_cons, List.length_nil, List.length_set, List.length_replicate] at c_3 c_5 c_6 c_8 ⊢; omega)), ?_⟩
 refine Dr.callF (av := ?av3) (g := true) (o := ?o3) (fun hg => ok_strconv_Itoa v_1.Major _ hr_2) si si si si sg si ?cont3
 simp only [go_sem, simprocAttr]
 try refine ⟨by first | exact sd | ((repeat' apply And.intro) <;> first | assumption | omega | (simp only [List.length_append, List.length_map, List.length_cons, List.length_nil, List.length_set, List.length_replicate] at c_3 c_5 c_6 c_8 ⊢; omega)), ?_⟩
 refine Dr.callF (av := ?av4) (g := true) (o := ?o4) (fun hg => ok_strconv_Itoa v_1.Minor _ hr_4) si si si si sg si ?cont4
 simp only [go_sem, simprocAttr]
 try refine ⟨by first | exact sd | ((repeat' apply And.intro) <;> first | assumption | omega | (simp only [List.length_append, List.length_map, List.length_cons, List.length_nil, List.length_set, List.length_replicate] at c_3 c_5 c_6 c_8 ⊢; omega)), ?_⟩
 refine Dr.callF (av := ?av5) (g := true) (o := ?o5) (fun hg => ok_strconv_Itoa v_1.Patch _ hr_7) si si si si sg si ?cont5
 simp only [go_sem, simprocAttr]
 first | apply hK2 | refine ⟨by first | exact sd | ((repeat' apply And.intro) <;> first | assumption | omega | (simp only [List.length_append, List.length_map, List.length_cons, List.length_nil, List.length_set, List.length_replicate] at c_3 c_5 c_6 c_8 ⊢; omega)), hK2 _ _ ?_⟩
 refine Wp.seqW fun K6 hK6 hW6 => ?_
 refine qS ?_
 refine cM hm (fun hc8 hm => ?_) (fun hc8 hm => ?_)
 ·obtain ⟨c_9, hm⟩ := chk_elim hm
  obtain ⟨c_10, hm⟩ := chk_elim hm
  refine Wp.region fun K9 hK9 => ?_
  simp only [go_sem, simprocAttr]
  first | apply hK9 | refine ⟨by first | exact sd | ((repeat' apply And.intro) <;> first | assumption | omega | (simp only [List.length_append, List.length_map, List.length_cons, List.length_nil, List.length_set, List.length_replicate] at c_9 c_10 ⊢; omega)), hK9 _ _ ?_⟩
  refine hK6 _ _ ?_
  refine qS ?_
  refine Wp.ret ?_
  refine retQ_ret ?_
  cases hm
  exact fse4
 ·refine Wp.skip ?_
  refine hK6 _ _ ?_
  refine qS ?_
  refine Wp.ret ?_
  refine retQ_ret ?_
  cases hm
  exact fse4
end Go.Proofs.YthmjpfooffbhhaaGreatDoor
