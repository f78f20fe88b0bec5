/- That the code does what the models say (part 11). -/
import Derived.Test.YthmjpfooffbhhaaGreatDoorLcWk0
import Derived.Test.YthmjpfooffbhhaaGreatDoorLcWk1
import Derived.Test.YthmjpfooffbhhaaGreatDoorLcWk4
import Derived.Test.YthmjpfooffbhhaaGreatDoorLcWk5
import Derived.Test.YthmjpfooffbhhaaGreatDoorLcWk6
import Derived.Test.YthmjpfooffbhhaaGreatDoorLcWk9
import Derived.Test.YthmjpfooffbhhaaGreatDoorLcWk10
set_option linter.unusedSimpArgs false
set_option linter.unusedVariables false
open Go.Proofs Go.Shelf
namespace Go.Proofs.YthmjpfooffbhhaaGreatDoor
open Go.Vc Go.Md
set_option maxRecDepth 100000
set_option maxHeartbeats 4000000
theorem ok_R_Compacted (l_1 : List api_Record) (z : List api_Record) (hm : R_Compacted l_1 = some z) : Does Tryz.prog 13 [.p (.l (List.map enc_api_Record l_1))] [] (fun r X => r = .p (.l (List.map enc_api_Record z)) ∧ X = []) := by
 unfold R_Compacted at hm
 refine Does.of_wp 0 27 [.tmp 2] Tryz.func13 rfl (by decide) rfl rfl (Nat.le_of_ble_eq_true rfl) fun B => ?_
 refine qS ?_
 refine qS ?_
 refine Wp.seqW fun K3 hK3 hW3 => ?_
 obtain ⟨k_17, hk_17, hm⟩ := jp_elim hm
 have hcut3 : ∀ s, k_17 s = some z → K3 [(3, .buf 0)] [.buf 32 13 (List.map enc_api_Record s)] := by
  intro o0_16 hs
  have hm := hk_17 _ hs
  clear hs
  try dsimp only at hm
  try dsimp only
  refine hK3 _ _ ?_
  refine Wp.toFix 0 (by simp only [go_sem, simprocAttr]; exact Is.mk) (by simp only [go_sem, simprocAttr]) ?_
  simp only [go_sem, simprocAttr]
  obtain ⟨r_18, hr_18, hm⟩ := call_elim hm
  refine Wp.seqR fun K4 hK4 => ?_
  simp only [go_sem, simprocAttr]
  try refine ⟨sd, ?_⟩
  refine Rg.callO (av := ?av5) [0] (ok_slices_SortStableFunc_api_Record_api_Record_i3 o0_16 _ hr_18) si si si sg sg ?cont5
  rintro _ _ ⟨rfl, rfl⟩ hv5
  simp only [go_sem, simprocAttr]
  first | apply hK4 | refine ⟨sd, hK4 _ _ ?_⟩
  refine Wp.toBuf 0 (by simp only [go_sem, simprocAttr]; exact Is.mk) (by simp only [go_sem, simprocAttr]) ?_
  simp only [go_sem, simprocAttr]
  refine qS ?_
  refine Wp.ret ?_
  refine retQ_ret ?_
  cases hm
  exact fse3
 clear hK3 hk_17
 obtain ⟨r_19, hr_19, hm⟩ := call_elim hm
 refine Wp.seqR fun K7 hK7 => ?_
 simp only [go_sem, simprocAttr]
 try refine ⟨sd, ?_⟩
 refine Rg.callF (av := ?av8) (ok_R_Installed l_1 _ hr_19) si si sg ?cont8
 intro hv8
 simp only [go_sem, simprocAttr]
 first | apply hK7 | refine ⟨sd, hK7 _ _ ?_⟩
 refine Wp.block ?_
 refine Wp.adopt 3 32 13 rfl ?_
 simp only [go_sem, simprocAttr]
 obtain ⟨k_27, hk_27, hm⟩ := forL_cont hm
 refine Wp.fact 7 fun hl_30 => ?_
 replace hl_30 : r_19.length ≤ 274877906944 := by
  simp only [go_sem, simprocAttr, List.length_map] at hl_30
  omega
 refine Wp.forL (fun i_29 s => [(3, .buf 0), (7, .p (.l (List.map enc_api_Had r_19))), (8, .p (.i .i64 (r_19.length : Int))), (9, .p (.i .i64 (i_29 : Int)))]) (fun i_29 s => [.buf 32 13 (List.map enc_api_Record s)]) ?_ hm ?_
 ·
  exact fse3
 clear hm
 intro i_29 o0_24 hii_29 hm
 try dsimp only at hm
 try dsimp only
 refine qS ?_
 refine Wp.seqW fun K10 hK10 hW10 => ?_
 refine Wp.cond rfl ⟨⟩ (fun hc10 => ?_) (fun hc10 => ?_)
 rotate_left
 ·refine Wp.exit ?_
  have hm := hk_27 _ (forL_end hm (ge_nat (by first | exact hc10 | simpa using hc10)))
  try dsimp only at hm
  refine hW3 _ _ _ _ ?_ (hcut3 o0_24 hm)
  exact fse3
 have hlt10 := lt_nat (by first | exact hc10 | simpa using hc10)
 have hw10 := wrap_succ hlt10 hl_30
 obtain ⟨h_31, nx_28, hxh_31, hyh_31, hnx_28, hm⟩ := forL_step hm hlt10
 replace hxh_31 := hxh_31 enc_api_Had
 refine Wp.skip ?_
 simp only [thenQ]
 refine hK10 _ _ ?_
 refine Wp.seqW fun K11 hK11 hW11 => ?_
 refine Wp.block ?_
 refine Wp.seqR fun K12 hK12 => ?_
 simp only [go_sem, simprocAttr, hw10, hxh_31]
 first | apply hK12 | refine ⟨sd, hK12 _ _ ?_⟩
 obtain ⟨c_32, hm⟩ := chk_elim hm
 refine Wp.region fun K13 hK13 => ?_
 simp only [go_sem, simprocAttr, hw10, hxh_31]
 first | apply hK13 | refine ⟨by first | exact sd | ((repeat' apply And.intro) <;> first | assumption | omega | (simp only [List.length_append, List.length_map, List.length_cons, List.length_nil, List.length_set, List.length_replicate] at c_32 ⊢; omega)), hK13 _ _ ?_⟩
 refine hK11 _ _ ?_
 refine Wp.region fun K14 hK14 => ?_
 simp only [go_sem, simprocAttr, hw10, hxh_31]
 first | apply hK14 | refine ⟨sd, hK14 _ _ ?_⟩
 simp only [thenQ, blockQ, ↓reduceIte]
 refine ⟨o0_24 ++ [(api_Record.mk h_31.Since 1 h_31.Pack (api_Version.mk 0 0 0 []) h_31.Version 0 [])], hlt10, hnx_28 _ hm, ?_⟩
 simp only [go_sem, simprocAttr, hw10, hxh_31]
 try exact se3
theorem ok_slices_Equal_api_Had_api_Had (s1_1 : List api_Had) (s2_2 : List api_Had) (z : Bool) (hm : slices_Equal_api_Had_api_Had s1_1 s2_2 = some z) : Does Tryz.prog 15 [.p (.l (List.map enc_api_Had s1_1)), .p (.l (List.map enc_api_Had s2_2))] [] (fun r X => r = .p (.b z) ∧ X = []) := by
 unfold slices_Equal_api_Had_api_Had at hm
 refine Does.of_wp 0 26 [.tmp 4] Tryz.func15 rfl (by decide) rfl rfl (Nat.le_of_ble_eq_true rfl) fun B => ?_
 refine qS ?_
 refine Wp.seqW fun K2 hK2 hW2 => ?_
 refine qS ?_
 refine cM hm (fun hc4 hm => ?_) (fun hc4 hm => ?_)
 ·refine qS ?_
  refine Wp.ret ?_
  refine retQ_ret ?_
  cases hm
  exact fse3
 ·refine Wp.skip ?_
  refine hK2 _ _ ?_
  refine Wp.seqW fun K6 hK6 hW6 => ?_
  obtain ⟨k_12, hk_12, hm⟩ := jp_elim hm
  have hcut6 : ∀ s, k_12 s = some z → K6 [] [] := by
   intro s hs
   have hm := hk_12 _ hs
   clear hs
   try dsimp only at hm
   try dsimp only
   refine hK6 _ _ ?_
   refine qS ?_
   refine Wp.ret ?_
   refine retQ_ret ?_
   cases hm
   exact fse3
  clear hK6 hk_12
  refine qS ?_
  refine Wp.block ?_
  obtain ⟨k_16, hk_16, hm⟩ := forL_cont hm
  refine Wp.fact 0 fun hl_19 => ?_
  replace hl_19 : s1_1.length ≤ 274877906944 := by
   simp only [go_sem, simprocAttr, List.length_map] at hl_19
   omega
  refine Wp.forL (fun i_18 s => [(0, .p (.l (List.map enc_api_Had s1_1))), (1, .p (.l (List.map enc_api_Had s2_2))), (12, .p (.i .i64 (s1_1.length : Int))), (13, .p (.i .i64 (i_18 : Int)))]) (fun i_18 s => []) ?_ hm ?_
  ·
   exact fse3
  clear hm
  intro i_18 s hii_18 hm
  try dsimp only at hm
  try dsimp only
  refine qS ?_
  refine Wp.seqW fun K10 hK10 hW10 => ?_
  refine Wp.cond rfl ⟨⟩ (fun hc10 => ?_) (fun hc10 => ?_)
  rotate_left
  ·refine Wp.exit ?_
   have hm := hk_16 _ (forL_end hm (ge_nat (by first | exact hc10 | simpa using hc10)))
   try dsimp only at hm
   refine hW6 _ _ _ _ ?_ (hcut6 () hm)
   exact fse3
  have hlt10 := lt_nat (by first | exact hc10 | simpa using hc10)
  have hw10 := wrap_succ hlt10 hl_19
  obtain ⟨h_20, nx_17, hxh_20, hyh_20, hnx_17, hm⟩ := forL_step hm hlt10
  replace hxh_20 := hxh_20 enc_api_Had
  refine Wp.skip ?_
  simp only [thenQ]
  refine hK10 _ _ ?_
  refine Wp.seqW fun K11 hK11 hW11 => ?_
  refine Wp.block ?_
  refine Wp.seqR fun K12 hK12 => ?_
  simp only [go_sem, simprocAttr, hw10, hxh_20]
  first | apply hK12 | refine ⟨sd, hK12 _ _ ?_⟩
  obtain ⟨h_21, hbh_21, hxh_21, hyh_21, hm⟩ := idx_elim hm
  replace hxh_21 : ∀ d, (List.map enc_api_Had s2_2).getD i_18 d = enc_api_Had h_21 := hxh_21 enc_api_Had
  refine Wp.seqD (plan := pl [(0, none), (1, none), (2, none), (3, none), (4, none), (5, none), (6, none), (7, none), (8, none)]) (by kernel_rfl) rfl (by kernel_rfl) fun K13 hK13 => ?_
  simp only [go_sem, simprocAttr, hw10, hxh_20, hxh_21]
  first | apply hK13 | refine ⟨sd, hK13 _ _ ?_⟩
  refine cM hm (fun hc14 hm => ?_) (fun hc14 hm => ?_)
  ·refine Wp.seqR fun K15 hK15 => ?_
   simp only [go_sem, simprocAttr, hw10, hxh_20, hxh_21]
   first | apply hK15 | refine ⟨sd, hK15 _ _ ?_⟩
   refine Wp.ret ?_
   refine retQ_ret ?_
   cases hm
   simp only [go_sem, simprocAttr, hw10, hxh_20, hxh_21]
   try exact se3
  ·refine Wp.skip ?_
   refine hK11 _ _ ?_
   refine Wp.region fun K16 hK16 => ?_
   simp only [go_sem, simprocAttr, hw10, hxh_20, hxh_21]
   first | apply hK16 | refine ⟨sd, hK16 _ _ ?_⟩
   simp only [thenQ, blockQ, ↓reduceIte]
   refine ⟨(), hlt10, hnx_17 _ hm, ?_⟩
   simp only [go_sem, simprocAttr, hw10, hxh_20, hxh_21]
   try exact se3
theorem ok_Law_LogsCompact (l_1 : List api_Record) (raw_2 : Bool) (z : Bool) (hm : Law_LogsCompact l_1 raw_2 = some z) : Does Tryz.prog 4 [.p (.l (List.map enc_api_Record l_1)), .p (.b raw_2)] [] (fun r X => r = .p (.b z) ∧ X = []) := by
 unfold Law_LogsCompact at hm
 refine Does.of_wp 0 53 [.tmp 4] Tryz.func4 rfl (by decide) rfl rfl (Nat.le_of_ble_eq_true rfl) fun B => ?_
 refine qS ?_
 refine Wp.seqW fun K2 hK2 hW2 => ?_
 obtain ⟨r_3, hr_3, hm⟩ := call_elim hm
 refine Wp.seqR fun K3 hK3 => ?_
 simp only [go_sem, simprocAttr]
 try refine ⟨sd, ?_⟩
 refine Rg.callX (av := ?av4) (g := true) (fun hg => ok_Law_landed  _ hr_3) si si si sg si ?cont4
 intro hv4
 simp only [go_sem, simprocAttr]
 first | apply hK3 | refine ⟨sd, hK3 _ _ ?_⟩
 refine cM hm (fun hc5 hm => ?_) (fun hc5 hm => ?_)
 ·refine qS ?_
  refine Wp.ret ?_
  refine retQ_ret ?_
  cases hm
  exact fse3
 ·refine Wp.skip ?_
  refine hK2 _ _ ?_
  obtain ⟨r_4, hr_4, hm⟩ := call_elim hm
  refine Wp.seqR fun K7 hK7 => ?_
  simp only [go_sem, simprocAttr]
  try refine ⟨sd, ?_⟩
  refine Rg.callF (av := ?av8) (ok_Law_could l_1 raw_2 _ hr_4) si si sg ?cont8
  intro hv8
  simp only [go_sem, simprocAttr]
  first | apply hK7 | refine ⟨sd, hK7 _ _ ?_⟩
  obtain ⟨r_5, hr_5, hm⟩ := call_elim hm
  refine Wp.seqR fun K9 hK9 => ?_
  simp only [go_sem, simprocAttr]
  try refine ⟨sd, ?_⟩
  refine Rg.callF (av := ?av10) (ok_log_Compact r_4 _ hr_5) si si sg ?cont10
  intro hv10
  simp only [go_sem, simprocAttr]
  first | apply hK9 | refine ⟨sd, hK9 _ _ ?_⟩
  refine Wp.seqW fun K11 hK11 hW11 => ?_
  obtain ⟨r_6, hr_6, hm⟩ := call_elim hm
  refine Wp.seqR fun K12 hK12 => ?_
  simp only [go_sem, simprocAttr]
  try refine ⟨sd, ?_⟩
  refine Rg.callX (av := ?av13) (g := true) (fun hg => ok_R_RecordsError r_4 _ hr_6) si si si sg si ?cont13
  intro hv13
  simp only [go_sem, simprocAttr]
  first | apply hK12 | refine ⟨sd, hK12 _ _ ?_⟩
  refine qS ?_
  refine cM hm (fun hc15 hm => ?_) (fun hc15 hm => ?_)
  ·refine qS ?_
   refine Wp.ret ?_
   refine retQ_ret ?_
   cases hm
   exact fse3
  ·refine Wp.skip ?_
   refine hK11 _ _ ?_
   refine Wp.seqW fun K17 hK17 hW17 => ?_
   obtain ⟨r_7, hr_7, hr_7d, hm⟩ := callG_elim2 hm
   obtain ⟨r_8, hr_8, hm⟩ := callG_elim hm
   refine Wp.seqR fun K18 hK18 => ?_
   simp only [go_sem, simprocAttr]
   try refine ⟨sd, ?_⟩
   refine Rg.callGO (av := ?av19) (g := !(!decide (r_5.2 = 0))) [] (fun hg => ok_R_Compacted r_4 _ (hr_7 hg)) (fun hg => by obtain rfl := hr_7d hg; rfl) si si si si sg sg ?cont19
   simp only [go_sem, simprocAttr]
   try refine ⟨sd, ?_⟩
   refine Rg.callX (av := ?av20) (g := !(!decide (r_5.2 = 0))) (fun hg => ok_slices_Equal_api_Record_api_Record r_5.1 r_7 _ (hr_8 hg)) si si si sg si ?cont20
   intro hv20
   simp only [go_sem, simprocAttr]
   first | apply hK18 | refine ⟨sd, hK18 _ _ ?_⟩
   refine cM hm (fun hc21 hm => ?_) (fun hc21 hm => ?_)
   ·refine qS ?_
    refine Wp.ret ?_
    refine retQ_ret ?_
    cases hm
    exact fse3
   ·refine Wp.skip ?_
    refine hK17 _ _ ?_
    obtain ⟨r_9, hr_9, hm⟩ := call_elim hm
    refine Wp.seqR fun K23 hK23 => ?_
    simp only [go_sem, simprocAttr]
    try refine ⟨sd, ?_⟩
    refine Rg.callF (av := ?av24) (ok_log_Installed r_5.1 _ hr_9) si si sg ?cont24
    intro hv24
    simp only [go_sem, simprocAttr]
    first | apply hK23 | refine ⟨sd, hK23 _ _ ?_⟩
    obtain ⟨r_10, hr_10, hr_10d, hm⟩ := callG_elim2 hm
    obtain ⟨r_11, hr_11, hm⟩ := callG_elim hm
    refine Wp.seqR fun K25 hK25 => ?_
    simp only [go_sem, simprocAttr]
    try refine ⟨sd, ?_⟩
    refine Rg.callGO (av := ?av26) (g := decide (r_9.2 = 0)) [] (fun hg => ok_R_Installed r_4 _ (hr_10 hg)) (fun hg => by obtain rfl := hr_10d hg; rfl) si si si si sg sg ?cont26
    simp only [go_sem, simprocAttr]
    try refine ⟨sd, ?_⟩
    refine Rg.callX (av := ?av27) (g := decide (r_9.2 = 0)) (fun hg => ok_slices_Equal_api_Had_api_Had r_9.1 r_10 _ (hr_11 hg)) si si si sg si ?cont27
    intro hv27
    simp only [go_sem, simprocAttr]
    first | apply hK25 | refine ⟨sd, hK25 _ _ ?_⟩
    refine Wp.ret ?_
    refine retQ_ret ?_
    cases hm
    exact fse3
end Go.Proofs.YthmjpfooffbhhaaGreatDoor
