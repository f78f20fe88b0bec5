/- That the code does what the models say (part 1). -/
import Derived.Test.YthmjpfooffbhhaaGreatDoorLrWk0
set_option linter.unusedSimpArgs false
set_option linter.unusedVariables false
open Go.Proofs Go.Shelf
namespace Go.Proofs.YthmjpfooffbhhaaGreatDoor
open Go.Vc Go.Md
set_option maxRecDepth 100000
set_option maxHeartbeats 4000000
theorem ok_ver_isSmall (c_1 : Int) (z : Bool) (hm : ver_isSmall c_1 = some z) : Does Tryz.prog 46 [.p (.i .u8 c_1)] [] (fun r X => r = .p (.b z) ∧ X = []) := by
 unfold ver_isSmall at hm
 refine Does.of_wp 0 9 [.tmp 2] Tryz.func46 rfl (by decide) rfl rfl (Nat.le_of_ble_eq_true rfl) fun B => ?_
 refine qS ?_
 refine qS ?_
 refine Wp.ret ?_
 refine retQ_ret ?_
 cases hm
 exact fse1
theorem ok_ver_isDigit (c_1 : Int) (z : Bool) (hm : ver_isDigit c_1 = some z) : Does Tryz.prog 47 [.p (.i .u8 c_1)] [] (fun r X => r = .p (.b z) ∧ X = []) := by
 unfold ver_isDigit at hm
 refine Does.of_wp 0 9 [.tmp 2] Tryz.func47 rfl (by decide) rfl rfl (Nat.le_of_ble_eq_true rfl) fun B => ?_
 refine qS ?_
 refine qS ?_
 refine Wp.ret ?_
 refine retQ_ret ?_
 cases hm
 exact fse1
theorem ok_ver_IsName_1 (c_1 : Int) (z : Bool) (hm : ver_IsName_1 c_1 = some z) : Does Tryz.prog 45 [.p (.i .u8 c_1)] [] (fun r X => r = .p (.b z) ∧ X = []) := by
 unfold ver_IsName_1 at hm
 refine Does.of_wp 0 17 [.tmp 2] Tryz.func45 rfl (by decide) rfl rfl (Nat.le_of_ble_eq_true rfl) fun B => ?_
 refine qS ?_
 obtain ⟨r_2, hr_2, hm⟩ := call_elim hm
 obtain ⟨r_3, hr_3, hm⟩ := callG_elim hm
 refine Wp.seqR fun K2 hK2 => ?_
 simp only [go_sem, simprocAttr]
 try refine ⟨sd, ?_⟩
 refine Rg.callX (av := ?av3) (g := true) (fun hg => ok_ver_isSmall c_1 _ hr_2) si si si sg si ?cont3
 intro hv3
 simp only [go_sem, simprocAttr]
 try refine ⟨sd, ?_⟩
 refine Rg.callX (av := ?av4) (g := !r_2) (fun hg => ok_ver_isDigit c_1 _ (hr_3 hg)) si si si sg si ?cont4
 intro hv4
 simp only [go_sem, simprocAttr]
 first | apply hK2 | refine ⟨sd, hK2 _ _ ?_⟩
 refine Wp.ret ?_
 refine retQ_ret ?_
 cases hm
 exact fse1
theorem ok_ver_each_i1 (s_1 : Str) (most_2 : Int) (z : Bool) (hm : ver_each_i1 s_1 most_2 = some z) : Does Tryz.prog 44 [.p (.s s_1), .p (.i .i64 most_2), .fn 45 []] [] (fun r X => r = .p (.b z) ∧ X = []) := by
 unfold ver_each_i1 at hm
 refine Does.of_wp 0 28 [.tmp 6] Tryz.func44 rfl (by decide) rfl rfl (Nat.le_of_ble_eq_true rfl) fun B => ?_
 refine qS ?_
 refine Wp.seqW fun K2 hK2 hW2 => ?_
 obtain ⟨k_12, hk_12, hm⟩ := jp_elim hm
 have hcut2 : ∀ s, k_12 s = some z → K2 [(0, .p (.s s_1)), (1, .p (.i .i64 most_2))] [] := by
  intro s hs
  have hm := hk_12 _ hs
  clear hs
  try dsimp only at hm
  try dsimp only
  refine hK2 _ _ ?_
  refine qS ?_
  refine Wp.ret ?_
  refine retQ_ret ?_
  cases hm
  exact fse1
 clear hK2 hk_12
 refine qS ?_
 refine Wp.block ?_
 obtain ⟨k_16, hk_16, hm⟩ := forL_cont hm
 refine Wp.fact 0 fun hl_19 => ?_
 replace hl_19 : s_1.length ≤ 274877906944 := by
  simp only [go_sem, simprocAttr, List.length_map] at hl_19
  omega
 refine Wp.forL (fun i_18 s => [(0, .p (.s s_1)), (1, .p (.i .i64 most_2)), (2, .fn 45 []), (7, .p (.i .i64 (i_18 : Int)))]) (fun i_18 s => []) ?_ hm ?_
 ·
  exact fse1
 clear hm
 intro i_18 s hii_18 hm
 try dsimp only at hm
 try dsimp only
 refine Wp.seqW fun K5 hK5 hW5 => ?_
 refine qS ?_
 refine Wp.cond rfl ⟨⟩ (fun hc5 => ?_) (fun hc5 => ?_)
 rotate_left
 ·refine Wp.exit ?_
  have hm := hk_16 _ (forL_end hm (ge_nat (by first | exact hc5 | simpa using hc5)))
  try dsimp only at hm
  refine hW2 _ _ _ _ ?_ (hcut2 () hm)
  exact fse1
 have hlt5 := lt_nat (by first | exact hc5 | simpa using hc5)
 have hw5 := wrap_succ hlt5 hl_19
 obtain ⟨c_20, nx_17, hxc_20, hyc_20, hnx_17, hm⟩ := forL_step hm hlt5
 clear hxc_20
 refine Wp.skip ?_
 simp only [thenQ]
 refine hK5 _ _ ?_
 refine Wp.seqW fun K7 hK7 hW7 => ?_
 refine Wp.block ?_
 obtain ⟨r_21, hr_21, hm⟩ := call_elim hm
 refine Wp.seqR fun K8 hK8 => ?_
 simp only [go_sem, simprocAttr, hw5, hyc_20]
 try refine ⟨sd, ?_⟩
 refine Rg.callX (av := ?av9) (g := true) (fun hg => ok_ver_IsName_1 (c_20.toNat : Int) _ hr_21) (by simp only [go_sem, simprocAttr, hw5, hyc_20]; exact Is.mk) (by simp only [go_sem, simprocAttr, hw5, hyc_20]; exact Is.mk) (by simp only [go_sem, simprocAttr, hw5, hyc_20]; exact Is.mk) (by simp only [go_sem, simprocAttr, hw5, hyc_20]) (by simp only [go_sem, simprocAttr, hw5, hyc_20]; exact Is.mk) ?cont9
 intro hv9
 simp only [go_sem, simprocAttr, hw5, hyc_20]
 first | apply hK8 | refine ⟨sd, hK8 _ _ ?_⟩
 refine cM hm (fun hc10 hm => ?_) (fun hc10 hm => ?_)
 ·refine Wp.seqR fun K11 hK11 => ?_
  simp only [go_sem, simprocAttr, hw5, hyc_20]
  first | apply hK11 | refine ⟨sd, hK11 _ _ ?_⟩
  refine Wp.ret ?_
  refine retQ_ret ?_
  cases hm
  simp only [go_sem, simprocAttr, hw5, hyc_20]
  try exact se1
 ·refine Wp.skip ?_
  refine hK7 _ _ ?_
  refine Wp.region fun K12 hK12 => ?_
  simp only [go_sem, simprocAttr, hw5, hyc_20]
  first | apply hK12 | refine ⟨sd, hK12 _ _ ?_⟩
  simp only [thenQ, blockQ, ↓reduceIte]
  refine ⟨(), hlt5, hnx_17 _ hm, ?_⟩
  simp only [go_sem, simprocAttr, hw5, hyc_20]
  try exact se1
theorem ok_ver_IsName (s_1 : Str) (z : Bool) (hm : ver_IsName s_1 = some z) : Does Tryz.prog 19 [.p (.s s_1)] [] (fun r X => r = .p (.b z) ∧ X = []) := by
 unfold ver_IsName at hm
 refine Does.of_wp 0 10 [.tmp 2] Tryz.func19 rfl (by decide) rfl rfl (Nat.le_of_ble_eq_true rfl) fun B => ?_
 refine qS ?_
 obtain ⟨r_2, hr_2, hm⟩ := call_elim hm
 obtain ⟨c_3, hm⟩ := chk_elim hm
 obtain ⟨r_4, hr_4, hm⟩ := callG_elim hm
 refine Wp.seqR fun K2 hK2 => ?_
 simp only [go_sem, simprocAttr]
 try refine ⟨by first | exact sd | ((repeat' apply And.intro) <;> first | assumption | omega | (simp only [List.length_append, List.length_map, List.length_cons, List.length_nil, List.length_set, List.length_replicate] at c_3 ⊢; omega)), ?_⟩
 refine Rg.callX (av := ?av3) (g := true) (fun hg => ok_ver_each_i1 s_1 40 _ hr_2) si si si sg si ?cont3
 intro hv3
 simp only [go_sem, simprocAttr]
 try refine ⟨by first | exact sd | ((repeat' apply And.intro) <;> first | assumption | omega | (simp only [List.length_append, List.length_map, List.length_cons, List.length_nil, List.length_set, List.length_replicate] at c_3 ⊢; omega)), ?_⟩
 refine Rg.callX (av := ?av4) (g := r_2) (fun hg => ok_ver_isSmall ((s_1.getD 0 0).toNat : Int) _ (hr_4 hg)) si si si sg si ?cont4
 intro hv4
 simp only [go_sem, simprocAttr]
 first | apply hK2 | refine ⟨by first | exact sd | ((repeat' apply And.intro) <;> first | assumption | omega | (simp only [List.length_append, List.length_map, List.length_cons, List.length_nil, List.length_set, List.length_replicate] at c_3 ⊢; omega)), hK2 _ _ ?_⟩
 refine Wp.ret ?_
 refine retQ_ret ?_
 cases hm
 exact fse1
theorem ok_Law_landed  (z : Bool) (hm : Law_landed = some z) : Does Tryz.prog 6 [] [] (fun r X => r = .p (.b z) ∧ X = []) := by
 unfold Law_landed at hm
 refine Does.of_wp 0 2 [.tmp 0] Tryz.func6 rfl (by decide) rfl rfl (Nat.le_of_ble_eq_true rfl) fun B => ?_
 refine qS ?_
 obtain ⟨r_1, hr_1, hm⟩ := call_elim hm
 refine Wp.seqR fun K2 hK2 => ?_
 simp only [go_sem, simprocAttr]
 try refine ⟨sd, ?_⟩
 refine Rg.callX (av := ?av3) (g := true) (fun hg => ok_ver_IsName ([97] : Str) _ hr_1) si si si sg si ?cont3
 intro hv3
 simp only [go_sem, simprocAttr]
 first | apply hK2 | refine ⟨sd, hK2 _ _ ?_⟩
 refine Wp.ret ?_
 refine retQ_ret ?_
 cases hm
 exact fse1
theorem ok_slices_Clone_api_Record_api_Record_new (s_1 : List api_Record) (z : List api_Record) (hm : slices_Clone_api_Record_api_Record_new s_1 = some z) : Does Tryz.prog 20 [.p (.l (List.map enc_api_Record s_1))] [] (fun r X => r = .buf 0 ∧ X = [.buf 32 13 (List.map enc_api_Record z)]) := by
 unfold slices_Clone_api_Record_api_Record_new at hm
 refine Does.of_wp 1 8 [.tmp 2] Tryz.func20 rfl (by decide) rfl rfl (Nat.le_of_ble_eq_true rfl) fun B => ?_
 refine qS ?_
 refine Wp.seqW fun K2 hK2 hW2 => ?_
 refine Wp.seqR fun K3 hK3 => ?_
 simp only [go_sem, simprocAttr]
 try refine ⟨sd, ?_⟩
 refine Rg.isnil (rows := ?rows4) (e := ?e4) (esz := ?esz4) (eb := ?eb4) (ez := ?ez4) Is.mk Is.mk sg sg si si ?cont4
 intro b_5 hb_6
 replace hm := anyOf_elim hm b_5 (fun h => List.map_eq_nil_iff.1 (hb_6 h))
 try dsimp only at hm
 simp only [go_sem, simprocAttr]
 first | apply hK3 | refine ⟨sd, hK3 _ _ ?_⟩
 refine cM hm (fun hc5 hm => ?_) (fun hc5 hm => ?_)
 ·refine qS ?_
  refine Wp.adopt 2 32 13 rfl ?_
  simp only [go_sem, simprocAttr]
  refine Wp.ret ?_
  refine retQ_ret ?_
  cases hm
  exact fse1
 ·refine Wp.skip ?_
  refine hK2 _ _ ?_
  obtain ⟨c_7, hm⟩ := chk_elim hm
  refine Wp.seqR fun K7 hK7 => ?_
  simp only [go_sem, simprocAttr]
  first | apply hK7 | refine ⟨by first | exact sd | ((repeat' apply And.intro) <;> first | assumption | omega | (simp only [List.length_append, List.length_map, List.length_cons, List.length_nil, List.length_set, List.length_replicate] at c_7 ⊢; omega)), hK7 _ _ ?_⟩
  refine Wp.ret ?_
  refine retQ_ret ?_
  cases hm
  exact fse1
theorem ok_Law_could_1 (a_1 : api_Record) (b_2 : api_Record) (z : Int) (hm : Law_could_1 a_1 b_2 = some z) : Does Tryz.prog 22 [.agg [.p (.i .i64 a_1.Time), .p (.i .i64 a_1.Kind), .p (.s a_1.Pack), .p (.i .i64 a_1.From.Major), .p (.i .i64 a_1.From.Minor), .p (.i .i64 a_1.From.Patch), .p (.s a_1.From.Early), .p (.i .i64 a_1.To.Major), .p (.i .i64 a_1.To.Minor), .p (.i .i64 a_1.To.Patch), .p (.s a_1.To.Early), .p (.i .i64 a_1.Result), .p (.s a_1.Note)], .agg [.p (.i .i64 b_2.Time), .p (.i .i64 b_2.Kind), .p (.s b_2.Pack), .p (.i .i64 b_2.From.Major), .p (.i .i64 b_2.From.Minor), .p (.i .i64 b_2.From.Patch), .p (.s b_2.From.Early), .p (.i .i64 b_2.To.Major), .p (.i .i64 b_2.To.Minor), .p (.i .i64 b_2.To.Patch), .p (.s b_2.To.Early), .p (.i .i64 b_2.Result), .p (.s b_2.Note)]] [] (fun r X => r = .p (.i .i64 z) ∧ X = []) := by
 unfold Law_could_1 at hm
 refine Does.of_wp 0 10 [.tmp 4] Tryz.func22 rfl (by decide) rfl rfl (Nat.le_of_ble_eq_true rfl) fun B => ?_
 refine qS ?_
 refine qS ?_
 refine Wp.ret ?_
 refine retQ_ret ?_
 cases hm
 exact fse1
theorem ok_slices_insertionSortCmpFunc_api_Record_i1 (a_1 : Int) (b_2 : Int) (o0_3 : List api_Record) (z : List api_Record) (hm : slices_insertionSortCmpFunc_api_Record_i1 a_1 b_2 o0_3 = some z) : Does Tryz.prog 72 [.buf 0, .p (.i .i64 a_1), .p (.i .i64 b_2), .fn 22 []] [.fx 32 13 (List.map enc_api_Record o0_3)] (fun r X => r = .tup [] ∧ X = [.fx 32 13 (List.map enc_api_Record z)]) := by
 unfold slices_insertionSortCmpFunc_api_Record_i1 at hm
 refine Does.of_wp 1 53 [] Tryz.func72 rfl (by decide) rfl rfl (Nat.le_of_ble_eq_true rfl) fun B => ?_
 refine qS ?_
 refine Wp.block ?_
 obtain ⟨k_672, hk_672, hm⟩ := loopN_cont hm
 refine Wp.loopN (fun s => [(0, .buf 0), (1, .p (.i .i64 a_1)), (2, .p (.i .i64 b_2)), (3, .fn 22 []), (8, .p (.i .i64 s.1))]) (fun s => [.fx 32 13 (List.map enc_api_Record s.2)]) ?_ hm ?_
 ·
  exact fse1
 clear hm
 intro s nx_673 hm
 obtain ⟨i_538, o0_539⟩ := s
 try dsimp only at hm
 try dsimp only
 refine Wp.seqW fun K2 hK2 hW2 => ?_
 refine qS ?_
 refine cM hm (fun hc4 hm => ?_) (fun hc4 hm => ?_)
 ·refine Wp.skip ?_
  refine hK2 _ _ ?_
  refine Wp.seqW fun K5 hK5 hW5 => ?_
  obtain ⟨k_740, hk_740, hm⟩ := jp_elim hm
  have hcut5 : ∀ s, k_740 s = some z → K5 [(0, .buf 0), (1, .p (.i .i64 a_1)), (2, .p (.i .i64 b_2)), (3, .fn 22 []), (8, .p (.i .i64 i_538))] [.fx 32 13 (List.map enc_api_Record s)] := by
   intro o0_739 hs
   have hm := hk_740 _ hs
   clear hs
   try dsimp only at hm
   try dsimp only
   refine hK5 _ _ ?_
   refine qR ?_
   simp only [thenQ, blockQ, ↓reduceIte]
   refine ⟨(IntKind.i64.wrap (i_538 + 1), o0_739), hm, ?_⟩
   exact fse1
  clear hK5 hk_740
  refine Wp.block ?_
  refine qS ?_
  refine Wp.block ?_
  obtain ⟨k_784, hk_784, hm⟩ := loopN_cont hm
  refine Wp.loopN (fun s => [(0, .buf 0), (1, .p (.i .i64 a_1)), (2, .p (.i .i64 b_2)), (3, .fn 22 []), (8, .p (.i .i64 i_538)), (9, .p (.i .i64 s.1))]) (fun s => [.fx 32 13 (List.map enc_api_Record s.2)]) ?_ hm ?_
  ·
   exact fse1
  clear hm
  intro s nx_785 hm
  obtain ⟨j_762, o0_763⟩ := s
  try dsimp only at hm
  try dsimp only
  refine Wp.seqW fun K8 hK8 hW8 => ?_
  obtain ⟨c_786, hm⟩ := chk_elim hm
  obtain ⟨c_787, hm⟩ := chk_elim hm
  obtain ⟨r_788, hr_788, hm⟩ := callG_elim hm
  refine Wp.seqDW (plan := pl [(0, none), (1, none), (2, none), (3, none), (4, none), (5, none), (6, none), (7, none), (8, none), (9, none), (10, none), (11, none), (12, none), (13, none), (14, none), (15, none), (16, none)]) (by kernel_rfl) rfl (by kernel_rfl) fun K9 hK9 hW9 => ?_
  suffices hcont9 : K9 [(0, .buf 0), (1, .p (.i .i64 a_1)), (2, .p (.i .i64 b_2)), (3, .fn 22 []), (8, .p (.i .i64 i_538)), (9, .p (.i .i64 j_762)), (18, .p (.i .i64 j_762)), (19, .p (.i .i64 a_1)), (20, .p (.b (decide (a_1 < j_762)))), (21, .p (.b (decide (a_1 < j_762)))), (34, .p (.b ((decide (a_1 < j_762)) && (decide (r_788 < 0)))))] [.fx 32 13 (List.map enc_api_Record o0_763)] by
   rcases Bool.eq_false_or_eq_true (decide (a_1 < j_762)) with hg_789 | hg_789
   ·
    have c_790 := c_786 hg_789
    have c_791 := c_787 hg_789
    have hr_792 := fun h => getD_encB (l := o0_763) (e := enc_api_Record) (d := (api_Record.mk 0 0 [] (api_Version.mk 0 0 0 []) (api_Version.mk 0 0 0 []) 0 [])) (i := j_762.toNat) h []
    have hr_793 := fun h => getD_encB (l := o0_763) (e := enc_api_Record) (d := (api_Record.mk 0 0 [] (api_Version.mk 0 0 0 []) (api_Version.mk 0 0 0 []) 0 [])) (i := (IntKind.i64.wrap (j_762 - 1)).toNat) h []
    simp only [go_sem, simprocAttr, false_implies, and_true, true_and, bad, hg_789, hr_792 (by omega), hr_793 (by omega)]
    try refine ⟨by first | exact sd | ((repeat' apply And.intro) <;> first | assumption | omega | (simp only [List.length_append, List.length_map, List.length_cons, List.length_nil, List.length_set, List.length_replicate] at c_786 c_787 c_790 c_791 ⊢; omega)), ?_⟩
    refine Dr.callF (av := ?av10) (g := decide (a_1 < j_762)) (o := ?o10) (fun hg => ok_Law_could_1 (o0_763.getD j_762.toNat (api_Record.mk 0 0 [] (api_Version.mk 0 0 0 []) (api_Version.mk 0 0 0 []) 0 [])) (o0_763.getD ((IntKind.i64.wrap (j_762 - 1)).toNat) (api_Record.mk 0 0 [] (api_Version.mk 0 0 0 []) (api_Version.mk 0 0 0 []) 0 [])) _ (hr_788 hg)) (by simp only [go_sem, simprocAttr, false_implies, and_true, true_and, bad, hg_789, hr_792 (by omega), hr_793 (by omega)]; exact Is.mk) (by simp only [go_sem, simprocAttr, false_implies, and_true, true_and, bad, hg_789, hr_792 (by omega), hr_793 (by omega)]; exact Is.mk) (by simp only [go_sem, simprocAttr, false_implies, and_true, true_and, bad, hg_789, hr_792 (by omega), hr_793 (by omega)]; exact Is.mk) (by simp only [go_sem, simprocAttr, false_implies, and_true, true_and, bad, hg_789, hr_792 (by omega), hr_793 (by omega)]; exact Is.mk) (by simp only [go_sem, simprocAttr, false_implies, and_true, true_and, bad, hg_789, hr_792 (by omega), hr_793 (by omega)]) (by simp only [go_sem, simprocAttr, false_implies, and_true, true_and, bad, hg_789, hr_792 (by omega), hr_793 (by omega)]; exact Is.mk) ?cont10
    simp only [go_sem, simprocAttr, false_implies, and_true, true_and, bad, hg_789, hr_792 (by omega), hr_793 (by omega)]
    first | refine hW9 _ _ _ _ ?_ hcont9 | refine ⟨by first | exact sd | ((repeat' apply And.intro) <;> first | assumption | omega | (simp only [List.length_append, List.length_map, List.length_cons, List.length_nil, List.length_set, List.length_replicate] at c_786 c_787 c_790 c_791 ⊢; omega)), hW9 _ _ _ _ ?_ hcont9⟩
    simp only [go_sem, simprocAttr, false_implies, and_true, true_and, bad, hg_789, hr_792 (by omega), hr_793 (by omega)]
    try exact se1
   ·
    rcases Nat.lt_or_ge j_762.toNat o0_763.length with hi_794 | hi_794
    ·
     have hr_795 := getD_encB (l := o0_763) (e := enc_api_Record) (d := (api_Record.mk 0 0 [] (api_Version.mk 0 0 0 []) (api_Version.mk 0 0 0 []) 0 [])) (i := j_762.toNat) hi_794 []
     rcases Nat.lt_or_ge ((IntKind.i64.wrap (j_762 - 1)).toNat) o0_763.length with hi_796 | hi_796
     ·
      have hr_797 := getD_encB (l := o0_763) (e := enc_api_Record) (d := (api_Record.mk 0 0 [] (api_Version.mk 0 0 0 []) (api_Version.mk 0 0 0 []) 0 [])) (i := (IntKind.i64.wrap (j_762 - 1)).toNat) hi_796 []
      simp only [go_sem, simprocAttr, false_implies, and_true, true_and, bad, hg_789, hr_795, hr_797]
      try refine ⟨by first | exact sd | ((repeat' apply And.intro) <;> first | assumption | omega | (simp only [List.length_append, List.length_map, List.length_cons, List.length_nil, List.length_set, List.length_replicate] at c_786 c_787 ⊢; omega)), ?_⟩
      refine Dr.skipG (o := ?o11) (v := .p (.i .i64 r_788)) (gw := ?gw11) (by simp only [go_sem, simprocAttr, false_implies, and_true, true_and, bad, hg_789, hr_795, hr_797]; exact Is.mk) (by simp only [go_sem, simprocAttr, false_implies, and_true, true_and, bad, hg_789, hr_795, hr_797]; exact Is.mk) (by simp only [go_sem, simprocAttr, false_implies, and_true, true_and, bad, hg_789, hr_795, hr_797]; exact Is.mk) (by simp only [go_sem, simprocAttr, false_implies, and_true, true_and, bad, hg_789, hr_795, hr_797]) ?cont11
      simp only [go_sem, simprocAttr, false_implies, and_true, true_and, bad, hg_789, hr_795, hr_797]
      first | refine hW9 _ _ _ _ ?_ hcont9 | refine ⟨by first | exact sd | ((repeat' apply And.intro) <;> first | assumption | omega | (simp only [List.length_append, List.length_map, List.length_cons, List.length_nil, List.length_set, List.length_replicate] at c_786 c_787 ⊢; omega)), hW9 _ _ _ _ ?_ hcont9⟩
      simp only [go_sem, simprocAttr, false_implies, and_true, true_and, bad, hg_789, hr_795, hr_797]
      try exact se1
     ·
      have hr_797 : (List.map enc_api_Record o0_763).getD ((IntKind.i64.wrap (j_762 - 1)).toNat) [] = [] := by rw [List.getD_eq_getElem?_getD, List.getElem?_eq_none (by simpa using hi_796)]; rfl
      simp only [go_sem, simprocAttr, false_implies, and_true, true_and, bad, hg_789, hr_795, hr_797]
      try refine ⟨by first | exact sd | ((repeat' apply And.intro) <;> first | assumption | omega | (simp only [List.length_append, List.length_map, List.length_cons, List.length_nil, List.length_set, List.length_replicate] at c_786 c_787 ⊢; omega)), ?_⟩
      refine Dr.skipG (o := ?o12) (v := .p (.i .i64 r_788)) (gw := ?gw12) (by simp only [go_sem, simprocAttr, false_implies, and_true, true_and, bad, hg_789, hr_795, hr_797]; exact Is.mk) (by simp only [go_sem, simprocAttr, false_implies, and_true, true_and, bad, hg_789, hr_795, hr_797]; exact Is.mk) (by simp only [go_sem, simprocAttr, false_implies, and_true, true_and, bad, hg_789, hr_795, hr_797]; exact Is.mk) (by simp only [go_sem, simprocAttr, false_implies, and_true, true_and, bad, hg_789, hr_795, hr_797]) ?cont12
      simp only [go_sem, simprocAttr, false_implies, and_true, true_and, bad, hg_789, hr_795, hr_797]
      first | refine hW9 _ _ _ _ ?_ hcont9 | refine ⟨by first | exact sd | ((repeat' apply And.intro) <;> first | assumption | omega | (simp only [List.length_append, List.length_map, List.length_cons, List.length_nil, List.length_set, List.length_replicate] at c_786 c_787 ⊢; omega)), hW9 _ _ _ _ ?_ hcont9⟩
      simp only [go_sem, simprocAttr, false_implies, and_true, true_and, bad, hg_789, hr_795, hr_797]
      try exact se1
    ·
     have hr_795 : (List.map enc_api_Record o0_763).getD j_762.toNat [] = [] := by rw [List.getD_eq_getElem?_getD, List.getElem?_eq_none (by simpa using hi_794)]; rfl
     rcases Nat.lt_or_ge ((IntKind.i64.wrap (j_762 - 1)).toNat) o0_763.length with hi_798 | hi_798
     ·
      have hr_799 := getD_encB (l := o0_763) (e := enc_api_Record) (d := (api_Record.mk 0 0 [] (api_Version.mk 0 0 0 []) (api_Version.mk 0 0 0 []) 0 [])) (i := (IntKind.i64.wrap (j_762 - 1)).toNat) hi_798 []
      simp only [go_sem, simprocAttr, false_implies, and_true, true_and, bad, hg_789, hr_795, hr_799]
      try refine ⟨by first | exact sd | ((repeat' apply And.intro) <;> first | assumption | omega | (simp only [List.length_append, List.length_map, List.length_cons, List.length_nil, List.length_set, List.length_replicate] at c_786 c_787 ⊢; omega)), ?_⟩
      refine Dr.skipG (o := ?o13) (v := .p (.i .i64 r_788)) (gw := ?gw13) (by simp only [go_sem, simprocAttr, false_implies, and_true, true_and, bad, hg_789, hr_795, hr_799]; exact Is.mk) (by simp only [go_sem, simprocAttr, false_implies, and_true, true_and, bad, hg_789, hr_795, hr_799]; exact Is.mk) (by simp only [go_sem, simprocAttr, false_implies, and_true, true_and, bad, hg_789, hr_795, hr_799]; exact Is.mk) (by simp only [go_sem, simprocAttr, false_implies, and_true, true_and, bad, hg_789, hr_795, hr_799]) ?cont13
      simp only [go_sem, simprocAttr, false_implies, and_true, true_and, bad, hg_789, hr_795, hr_799]
      first | refine hW9 _ _ _ _ ?_ hcont9 | refine ⟨by first | exact sd | ((repeat' apply And.intro) <;> first | assumption | omega | (simp only [List.length_append, List.length_map, List.length_cons, List.length_nil, List.length_set, List.length_replicate] at c_786 c_787 ⊢; omega)), hW9 _ _ _ _ ?_ hcont9⟩
      simp only [go_sem, simprocAttr, false_implies, and_true, true_and, bad, hg_789, hr_795, hr_799]
      try exact se1
     ·
      have hr_799 : (List.map enc_api_Record o0_763).getD ((IntKind.i64.wrap (j_762 - 1)).toNat) [] = [] := by rw [List.getD_eq_getElem?_getD, List.getElem?_eq_none (by simpa using hi_798)]; rfl
      simp only [go_sem, simprocAttr, false_implies, and_true, true_and, bad, hg_789, hr_795, hr_799]
      try refine ⟨by first | exact sd | ((repeat' apply And.intro) <;> first | assumption | omega | (simp only [List.length_append, List.length_map, List.length_cons, List.length_nil, List.length_set, List.length_replicate] at c_786 c_787 ⊢; omega)), ?_⟩
      refine Dr.skipG (o := ?o14) (v := .p (.i .i64 r_788)) (gw := ?gw14) (by simp only [go_sem, simprocAttr, false_implies, and_true, true_and, bad, hg_789, hr_795, hr_799]; exact Is.mk) (by simp only [go_sem, simprocAttr, false_implies, and_true, true_and, bad, hg_789, hr_795, hr_799]; exact Is.mk) (by simp only [go_sem, simprocAttr, false_implies, and_true, true_and, bad, hg_789, hr_795, hr_799]; exact Is.mk) (by simp only [go_sem, simprocAttr, false_implies, and_true, true_and, bad, hg_789, hr_795, hr_799]) ?cont14
      simp only [go_sem, simprocAttr, false_implies, and_true, true_and, bad, hg_789, hr_795, hr_799]
      first | refine hW9 _ _ _ _ ?_ hcont9 | refine ⟨by first | exact sd | ((repeat' apply And.intro) <;> first | assumption | omega | (simp only [List.length_append, List.length_map, List.length_cons, List.length_nil, List.length_set, List.length_replicate] at c_786 c_787 ⊢; omega)), hW9 _ _ _ _ ?_ hcont9⟩
      simp only [go_sem, simprocAttr, false_implies, and_true, true_and, bad, hg_789, hr_795, hr_799]
      try exact se1
  refine hK9 _ _ ?_
  refine cM hm (fun hc15 hm => ?_) (fun hc15 hm => ?_)
  ·refine Wp.skip ?_
   refine hK8 _ _ ?_
   refine Wp.seqW fun K16 hK16 hW16 => ?_
   refine Wp.block ?_
   obtain ⟨c_800, hm⟩ := chk_elim hm
   obtain ⟨c_801, hm⟩ := chk_elim hm
   obtain ⟨c_802, hm⟩ := chk_elim hm
   obtain ⟨c_803, hm⟩ := chk_elim hm
   have hr_804 := fun h => getD_encB (l := o0_763) (e := enc_api_Record) (d := (api_Record.mk 0 0 [] (api_Version.mk 0 0 0 []) (api_Version.mk 0 0 0 []) 0 [])) (i := (IntKind.i64.wrap (j_762 - 1)).toNat) h []
   have hr_805 := fun h => getD_encB (l := o0_763) (e := enc_api_Record) (d := (api_Record.mk 0 0 [] (api_Version.mk 0 0 0 []) (api_Version.mk 0 0 0 []) 0 [])) (i := j_762.toNat) h []
   refine Wp.regD (plan := pl [(0, none), (1, none), (2, none), (3, none), (4, none), (5, none), (6, none), (7, none), (8, none), (9, none), (10, none), (11, none), (12, none), (13, none), (14, none), (15, some [2, 3, 4]), (16, none), (17, some [])]) (by kernel_rfl) rfl (by kernel_rfl) fun K17 hK17 => ?_
   simp only [go_sem, simprocAttr, hr_804 (by omega), hr_805 (by omega)]
   first | apply hK17 | refine ⟨by first | exact sd | ((repeat' apply And.intro) <;> first | assumption | omega | (simp only [List.length_append, List.length_map, List.length_cons, List.length_nil, List.length_set, List.length_replicate] at c_800 c_801 c_802 c_803 ⊢; omega)), hK17 _ _ ?_⟩
   refine hK16 _ _ ?_
   refine qR ?_
   simp only [thenQ, blockQ, ↓reduceIte]
   refine ⟨(IntKind.i64.wrap (j_762 - 1), List.set (List.set o0_763 j_762.toNat (o0_763.getD ((IntKind.i64.wrap (j_762 - 1)).toNat) (api_Record.mk 0 0 [] (api_Version.mk 0 0 0 []) (api_Version.mk 0 0 0 []) 0 []))) ((IntKind.i64.wrap (j_762 - 1)).toNat) (o0_763.getD j_762.toNat (api_Record.mk 0 0 [] (api_Version.mk 0 0 0 []) (api_Version.mk 0 0 0 []) 0 []))), hm, ?_⟩
   exact fse1
  ·refine Wp.exit ?_
   simp only [thenQ, blockQ, ↓reduceIte]
   have hm := hk_784 _ hm
   try dsimp only at hm
   refine hW5 _ _ _ _ ?_ (hcut5 o0_763 hm)
   exact fse1
 ·refine Wp.exit ?_
  simp only [thenQ, blockQ, ↓reduceIte]
  have hm := hk_672 _ hm
  try dsimp only at hm
  refine retQ_normal ?_
  cases hm
  exact fse1
theorem ok_slices_swapRangeCmpFunc_api_Record_i1 (a_1 : Int) (b_2 : Int) (n_3 : Int) (o0_4 : List api_Record) (z : List api_Record) (hm : slices_swapRangeCmpFunc_api_Record_i1 a_1 b_2 n_3 o0_4 = some z) : Does Tryz.prog 118 [.buf 0, .p (.i .i64 a_1), .p (.i .i64 b_2), .p (.i .i64 n_3), .fn 22 []] [.fx 32 13 (List.map enc_api_Record o0_4)] (fun r X => r = .tup [] ∧ X = [.fx 32 13 (List.map enc_api_Record z)]) := by
 unfold slices_swapRangeCmpFunc_api_Record_i1 at hm
 refine Does.of_wp 1 38 [] Tryz.func118 rfl (by decide) rfl rfl (Nat.le_of_ble_eq_true rfl) fun B => ?_
 refine qS ?_
 refine Wp.block ?_
 obtain ⟨k_43, hk_43, hm⟩ := loopN_cont hm
 refine Wp.loopN (fun s => [(0, .buf 0), (1, .p (.i .i64 a_1)), (2, .p (.i .i64 b_2)), (3, .p (.i .i64 n_3)), (10, .p (.i .i64 s.1))]) (fun s => [.fx 32 13 (List.map enc_api_Record s.2)]) ?_ hm ?_
 ·
  exact fse1
 clear hm
 intro s nx_44 hm
 obtain ⟨i_35, o0_36⟩ := s
 try dsimp only at hm
 try dsimp only
 refine Wp.seqW fun K2 hK2 hW2 => ?_
 refine qS ?_
 refine cM hm (fun hc4 hm => ?_) (fun hc4 hm => ?_)
 ·refine Wp.skip ?_
  refine hK2 _ _ ?_
  refine Wp.seqW fun K5 hK5 hW5 => ?_
  refine Wp.block ?_
  obtain ⟨c_45, hm⟩ := chk_elim hm
  obtain ⟨c_46, hm⟩ := chk_elim hm
  obtain ⟨c_47, hm⟩ := chk_elim hm
  obtain ⟨c_48, hm⟩ := chk_elim hm
  have hr_49 := fun h => getD_encB (l := o0_36) (e := enc_api_Record) (d := (api_Record.mk 0 0 [] (api_Version.mk 0 0 0 []) (api_Version.mk 0 0 0 []) 0 [])) (i := (IntKind.i64.wrap (b_2 + i_35)).toNat) h []
  have hr_50 := fun h => getD_encB (l := o0_36) (e := enc_api_Record) (d := (api_Record.mk 0 0 [] (api_Version.mk 0 0 0 []) (api_Version.mk 0 0 0 []) 0 [])) (i := (IntKind.i64.wrap (a_1 + i_35)).toNat) h []
  refine Wp.regD (plan := pl [(0, none), (1, none), (2, none), (3, none), (4, none), (5, none), (6, none), (7, none), (8, none), (9, none), (10, none), (11, none), (12, none), (13, none), (14, none), (15, none), (16, none), (17, none), (18, none), (19, none), (20, none), (21, some [4, 5, 6, 7]), (22, none), (23, some [])]) (by kernel_rfl) rfl (by kernel_rfl) fun K6 hK6 => ?_
  simp only [go_sem, simprocAttr, hr_49 (by omega), hr_50 (by omega)]
  first | apply hK6 | refine ⟨by first | exact sd | ((repeat' apply And.intro) <;> first | assumption | omega | (simp only [List.length_append, List.length_map, List.length_cons, List.length_nil, List.length_set, List.length_replicate] at c_45 c_46 c_47 c_48 ⊢; omega)), hK6 _ _ ?_⟩
  refine hK5 _ _ ?_
  refine qR ?_
  simp only [thenQ, blockQ, ↓reduceIte]
  refine ⟨(IntKind.i64.wrap (i_35 + 1), List.set (List.set o0_36 ((IntKind.i64.wrap (a_1 + i_35)).toNat) (o0_36.getD ((IntKind.i64.wrap (b_2 + i_35)).toNat) (api_Record.mk 0 0 [] (api_Version.mk 0 0 0 []) (api_Version.mk 0 0 0 []) 0 []))) ((IntKind.i64.wrap (b_2 + i_35)).toNat) (o0_36.getD ((IntKind.i64.wrap (a_1 + i_35)).toNat) (api_Record.mk 0 0 [] (api_Version.mk 0 0 0 []) (api_Version.mk 0 0 0 []) 0 []))), hm, ?_⟩
  exact fse1
 ·refine Wp.exit ?_
  simp only [thenQ, blockQ, ↓reduceIte]
  have hm := hk_43 _ hm
  try dsimp only at hm
  refine retQ_normal ?_
  cases hm
  exact fse1
theorem ok_slices_rotateCmpFunc_api_Record_i1 (a_1 : Int) (m_2 : Int) (b_3 : Int) (o0_4 : List api_Record) (z : List api_Record) (hm : slices_rotateCmpFunc_api_Record_i1 a_1 m_2 b_3 o0_4 = some z) : Does Tryz.prog 92 [.buf 0, .p (.i .i64 a_1), .p (.i .i64 m_2), .p (.i .i64 b_3), .fn 22 []] [.fx 32 13 (List.map enc_api_Record o0_4)] (fun r X => r = .tup [] ∧ X = [.fx 32 13 (List.map enc_api_Record z)]) := by
 unfold slices_rotateCmpFunc_api_Record_i1 at hm
 refine Does.of_wp 1 58 [] Tryz.func92 rfl (by decide) rfl rfl (Nat.le_of_ble_eq_true rfl) fun B => ?_
 refine qS ?_
 refine qS ?_
 refine Wp.seqW fun K3 hK3 hW3 => ?_
 obtain ⟨k_50, hk_50, hm⟩ := jp_elim hm
 have hcut3 : ∀ s, k_50 s = some z → K3 [(0, .buf 0), (2, .p (.i .i64 m_2)), (4, .fn 22 []), (10, .p (.i .i64 s.1))] [.fx 32 13 (List.map enc_api_Record s.2)] := by
  intro s hs
  have hm := hk_50 _ hs
  clear hs
  obtain ⟨i_48, o0_49⟩ := s
  try dsimp only at hm
  try dsimp only
  refine hK3 _ _ ?_
  obtain ⟨r_51, hr_51, hm⟩ := call_elim hm
  refine Wp.region fun K4 hK4 => ?_
  simp only [go_sem, simprocAttr]
  try refine ⟨sd, ?_⟩
  refine Rg.callO (av := ?av5) [0] (ok_slices_swapRangeCmpFunc_api_Record_i1 (IntKind.i64.wrap (m_2 - i_48)) m_2 i_48 o0_49 _ hr_51) si si si sg sg ?cont5
  rintro _ _ ⟨rfl, rfl⟩ hv5
  simp only [go_sem, simprocAttr]
  first | apply hK4 | refine ⟨sd, hK4 _ _ ?_⟩
  refine retQ_normal ?_
  cases hm
  exact fse1
 clear hK3 hk_50
 refine Wp.block ?_
 obtain ⟨k_61, hk_61, hm⟩ := loopN_cont hm
 refine Wp.loopN (fun s => [(0, .buf 0), (2, .p (.i .i64 m_2)), (4, .fn 22 []), (10, .p (.i .i64 s.1)), (11, .p (.i .i64 s.2.1))]) (fun s => [.fx 32 13 (List.map enc_api_Record s.2.2)]) ?_ hm ?_
 ·
  exact fse1
 clear hm
 intro s nx_62 hm
 obtain ⟨i_56, j_57, o0_58⟩ := s
 try dsimp only at hm
 try dsimp only
 refine Wp.seqW fun K6 hK6 hW6 => ?_
 refine qS ?_
 refine cM hm (fun hc8 hm => ?_) (fun hc8 hm => ?_)
 ·refine Wp.skip ?_
  refine hK6 _ _ ?_
  refine Wp.block ?_
  refine qS ?_
  refine cM hm (fun hc10 hm => ?_) (fun hc10 hm => ?_)
  ·obtain ⟨r_63, hr_63, hm⟩ := call_elim hm
   refine Wp.seqR fun K11 hK11 => ?_
   simp only [go_sem, simprocAttr]
   try refine ⟨sd, ?_⟩
   refine Rg.callO (av := ?av12) [0] (ok_slices_swapRangeCmpFunc_api_Record_i1 (IntKind.i64.wrap (m_2 - i_56)) m_2 j_57 o0_58 _ hr_63) si si si sg sg ?cont12
   rintro _ _ ⟨rfl, rfl⟩ hv12
   simp only [go_sem, simprocAttr]
   first | apply hK11 | refine ⟨sd, hK11 _ _ ?_⟩
   refine qR ?_
   simp only [thenQ, blockQ, ↓reduceIte]
   refine ⟨(IntKind.i64.wrap (i_56 - j_57), j_57, r_63), hm, ?_⟩
   exact fse1
  ·obtain ⟨r_64, hr_64, hm⟩ := call_elim hm
   refine Wp.seqR fun K14 hK14 => ?_
   simp only [go_sem, simprocAttr]
   try refine ⟨sd, ?_⟩
   refine Rg.callO (av := ?av15) [0] (ok_slices_swapRangeCmpFunc_api_Record_i1 (IntKind.i64.wrap (m_2 - i_56)) (IntKind.i64.wrap ((IntKind.i64.wrap (m_2 + j_57)) - i_56)) i_56 o0_58 _ hr_64) si si si sg sg ?cont15
   rintro _ _ ⟨rfl, rfl⟩ hv15
   simp only [go_sem, simprocAttr]
   first | apply hK14 | refine ⟨sd, hK14 _ _ ?_⟩
   refine qR ?_
   simp only [thenQ, blockQ, ↓reduceIte]
   refine ⟨(i_56, IntKind.i64.wrap (j_57 - i_56), r_64), hm, ?_⟩
   exact fse1
 ·refine Wp.exit ?_
  simp only [thenQ, blockQ, ↓reduceIte]
  have hm := hk_61 _ hm
  try dsimp only at hm
  refine hW3 _ _ _ _ ?_ (hcut3 (i_56, o0_58) hm)
  exact fse1
end Go.Proofs.YthmjpfooffbhhaaGreatDoor
