/- That the code does what the models say (part 9). -/
import Derived.Test.YthmjpfooffbhhaaGreatDoorLcWk0
import Derived.Test.YthmjpfooffbhhaaGreatDoorLcWk3
import Derived.Test.YthmjpfooffbhhaaGreatDoorLcWk4
import Derived.Test.YthmjpfooffbhhaaGreatDoorLcWk6
import Derived.Test.YthmjpfooffbhhaaGreatDoorLcWk8
set_option linter.unusedSimpArgs false
set_option linter.unusedVariables false
open Go.Proofs Go.Shelf
namespace Go.Proofs.YthmjpfooffbhhaaGreatDoor
open Go.Vc Go.Md
set_option maxRecDepth 100000
set_option maxHeartbeats 4000000
theorem ok_log_Compact (l_1 : List api_Record) (z : List api_Record × Int) (hm : log_Compact l_1 = some z) : Does Tryz.prog 12 [.p (.l (List.map enc_api_Record l_1))] [] (fun r X => r = .tup [.p (.l (List.map enc_api_Record z.1)), .p (.i .i64 z.2)] ∧ X = []) := by
 unfold log_Compact at hm
 refine Does.of_wp 0 37 [.tmp 2, .tmp 3] Tryz.func12 rfl (by decide) rfl rfl (Nat.le_of_ble_eq_true rfl) fun B => ?_
 refine qS ?_
 obtain ⟨r_2, hr_2, hm⟩ := call_elim hm
 refine Wp.seqR fun K2 hK2 => ?_
 simp only [go_sem, simprocAttr]
 try refine ⟨sd, ?_⟩
 refine Rg.callF (av := ?av3) (ok_log_Installed l_1 _ hr_2) si si sg ?cont3
 intro hv3
 simp only [go_sem, simprocAttr]
 first | apply hK2 | refine ⟨sd, hK2 _ _ ?_⟩
 refine Wp.seqW fun K4 hK4 hW4 => ?_
 refine qS ?_
 refine cM hm (fun hc6 hm => ?_) (fun hc6 hm => ?_)
 ·refine qS ?_
  refine Wp.ret ?_
  simp only [thenQ, blockQ]
  refine retQ_retE ?_
  cases hm
  exact fse3
 ·refine Wp.skip ?_
  refine hK4 _ _ ?_
  refine qS ?_
  refine Wp.seqW fun K9 hK9 hW9 => ?_
  obtain ⟨k_17, hk_17, hm⟩ := jp_elim hm
  have hcut9 : ∀ s, k_17 s = some z → K9 [(6, .buf 0)] [.buf 32 13 (List.map enc_api_Record s)] := by
   intro o0_16 hs
   have hm := hk_17 _ hs
   clear hs
   try dsimp only at hm
   try dsimp only
   refine hK9 _ _ ?_
   refine Wp.toFix 0 (by simp only [go_sem, simprocAttr]; exact Is.mk) (by simp only [go_sem, simprocAttr]) ?_
   simp only [go_sem, simprocAttr]
   obtain ⟨r_18, hr_18, hm⟩ := call_elim hm
   refine Wp.seqR fun K10 hK10 => ?_
   simp only [go_sem, simprocAttr]
   try refine ⟨sd, ?_⟩
   refine Rg.callO (av := ?av11) [0] (ok_slices_SortStableFunc_api_Record_api_Record_i2 o0_16 _ hr_18) si si si sg sg ?cont11
   rintro _ _ ⟨rfl, rfl⟩ hv11
   simp only [go_sem, simprocAttr]
   first | apply hK10 | refine ⟨sd, hK10 _ _ ?_⟩
   refine Wp.toBuf 0 (by simp only [go_sem, simprocAttr]; exact Is.mk) (by simp only [go_sem, simprocAttr]) ?_
   simp only [go_sem, simprocAttr]
   refine qS ?_
   refine Wp.ret ?_
   refine retQ_ret ?_
   cases hm
   exact fse3
  clear hK9 hk_17
  refine qS ?_
  refine Wp.block ?_
  refine Wp.adopt 6 32 13 rfl ?_
  simp only [go_sem, simprocAttr]
  obtain ⟨k_26, hk_26, hm⟩ := forL_cont hm
  refine Wp.fact 17 fun hl_29 => ?_
  replace hl_29 : r_2.1.length ≤ 274877906944 := by
   simp only [go_sem, simprocAttr, List.length_map] at hl_29
   omega
  refine Wp.forL (fun i_28 s => [(6, .buf 0), (17, .p (.l (List.map enc_api_Had r_2.1))), (18, .p (.i .i64 (r_2.1.length : Int))), (19, .p (.i .i64 (i_28 : Int)))]) (fun i_28 s => [.buf 32 13 (List.map enc_api_Record s)]) ?_ hm ?_
  ·
   exact fse3
  clear hm
  intro i_28 o0_23 hii_28 hm
  try dsimp only at hm
  try dsimp only
  refine qS ?_
  refine Wp.seqW fun K15 hK15 hW15 => ?_
  refine Wp.cond rfl ⟨⟩ (fun hc15 => ?_) (fun hc15 => ?_)
  rotate_left
  ·refine Wp.exit ?_
   have hm := hk_26 _ (forL_end hm (ge_nat (by first | exact hc15 | simpa using hc15)))
   try dsimp only at hm
   refine hW9 _ _ _ _ ?_ (hcut9 o0_23 hm)
   exact fse3
  have hlt15 := lt_nat (by first | exact hc15 | simpa using hc15)
  have hw15 := wrap_succ hlt15 hl_29
  obtain ⟨h_30, nx_27, hxh_30, hyh_30, hnx_27, hm⟩ := forL_step hm hlt15
  replace hxh_30 := hxh_30 enc_api_Had
  refine Wp.skip ?_
  simp only [thenQ]
  refine hK15 _ _ ?_
  refine Wp.seqW fun K16 hK16 hW16 => ?_
  refine Wp.block ?_
  refine Wp.seqR fun K17 hK17 => ?_
  simp only [go_sem, simprocAttr, hw15, hxh_30]
  first | apply hK17 | refine ⟨sd, hK17 _ _ ?_⟩
  obtain ⟨c_31, hm⟩ := chk_elim hm
  refine Wp.region fun K18 hK18 => ?_
  simp only [go_sem, simprocAttr, hw15, hxh_30]
  first | apply hK18 | refine ⟨by first | exact sd | ((repeat' apply And.intro) <;> first | assumption | omega | (simp only [List.length_append, List.length_map, List.length_cons, List.length_nil, List.length_set, List.length_replicate] at c_31 ⊢; omega)), hK18 _ _ ?_⟩
  refine hK16 _ _ ?_
  refine Wp.region fun K19 hK19 => ?_
  simp only [go_sem, simprocAttr, hw15, hxh_30]
  first | apply hK19 | refine ⟨sd, hK19 _ _ ?_⟩
  simp only [thenQ, blockQ, ↓reduceIte]
  refine ⟨o0_23 ++ [(api_Record.mk h_30.Since 1 h_30.Pack (api_Version.mk 0 0 0 []) h_30.Version 0 [])], hlt15, hnx_27 _ hm, ?_⟩
  simp only [go_sem, simprocAttr, hw15, hxh_30]
  try exact se3
theorem ok_slices_Sort_str (o0 z : List Str) (hm : slices_Sort_str o0 = some z) : Does Tryz.prog 60 [.buf 0] [.fx 9 1 (List.map ecS o0)] (fun r X => r = .tup [] ∧ X = [.fx 9 1 (List.map ecS z)]) := by
 cases hm
 exact Does.sortS Tryz.sortL ⟨_, Tryz.func60, by kernel_rfl, by kernel_rfl⟩ 9 o0
theorem ok_R_keys_api_Had_i1 (m0_1 : List (Str × api_Had)) (z : List Str) (hm : R_keys_api_Had_i1 m0_1 = some z) : Does Tryz.prog 32 [.mp 0] [.mp true (encM Dt.s enc_api_Had m0_1)] (fun r X => r = .p (.l (List.map ecS z)) ∧ X = [.mp true (encM Dt.s enc_api_Had m0_1)]) := by
 unfold R_keys_api_Had_i1 at hm
 refine Does.of_wp 1 18 [.tmp 2] Tryz.func32 rfl (by decide) rfl rfl (Nat.le_of_ble_eq_true rfl) fun B => ?_
 refine qS ?_
 refine qS ?_
 refine Wp.seqW fun K3 hK3 hW3 => ?_
 obtain ⟨k_75, hk_75, hm⟩ := jp_elim hm
 have hcut3 : ∀ s, k_75 s = some z → K3 [(3, .buf 2)] [.mp true (encM Dt.s enc_api_Had m0_1), .gone, .buf 9 1 (List.map ecS s)] := by
  intro o2_74 hs
  have hm := hk_75 _ hs
  clear hs
  try dsimp only at hm
  try dsimp only
  refine hK3 _ _ ?_
  refine Wp.toFix 2 (by simp only [go_sem, simprocAttr]; exact Is.mk) (by simp only [go_sem, simprocAttr]) ?_
  simp only [go_sem, simprocAttr]
  obtain ⟨r_76, hr_76, hm⟩ := call_elim hm
  refine Wp.seqR fun K4 hK4 => ?_
  simp only [go_sem, simprocAttr]
  try refine ⟨sd, ?_⟩
  refine Rg.callO (av := ?av5) [2] (ok_slices_Sort_str o2_74 _ hr_76) si si si sg sg ?cont5
  rintro _ _ ⟨rfl, rfl⟩ hv5
  simp only [go_sem, simprocAttr]
  first | apply hK4 | refine ⟨sd, hK4 _ _ ?_⟩
  refine Wp.toBuf 2 (by simp only [go_sem, simprocAttr]; exact Is.mk) (by simp only [go_sem, simprocAttr]) ?_
  simp only [go_sem, simprocAttr]
  refine qS ?_
  refine Wp.ret ?_
  refine retQ_ret ?_
  cases hm
  exact fse3
 clear hK3 hk_75
 refine Wp.seqR fun K7 hK7 => ?_
 simp only [go_sem, simprocAttr]
 try refine ⟨sd, ?_⟩
 refine Rg.range (i := 0) (ag := ?ag8) (es := ?es8) (kt := ?kt8) (et := ?et8) Is.mk Is.mk sg sg si si si ?cont8
 intro bs_77 cl_78 hb_79 hn_80 hl_81
 replace hb_79 := encM_bs hb_79
 simp only [go_sem, simprocAttr]
 first | apply hK7 | refine ⟨sd, hK7 _ _ ?_⟩
 refine Wp.block ?_
 refine Wp.adopt 3 9 1 rfl ?_
 simp only [go_sem, simprocAttr]
 obtain ⟨k_90, hk_90, hm⟩ := forM_cont hm
 refine Wp.forM (bs := bs_77) (fun sn_92 s => [(3, .buf 2), (6, .ptr 1 0)]) (fun sn_92 s => [.mpb true (encM Dt.s enc_api_Had m0_1) bs_77 cl_78, .it 0 cl_78 sn_92, .buf 9 1 (List.map ecS s)]) hb_79 ?_ hm ?_
 ·
  exact fse3
 clear hm
 intro sn_92 o2_85 hm
 try dsimp only at hm
 try dsimp only
 refine Wp.seqR fun K9 hK9 => ?_
 simp only [go_sem, simprocAttr]
 try refine ⟨by exact sd, ?_⟩
 refine Rg.next (q := 1) (i := 0) (cl := cl_78) (bs := bs_77) (seen := sn_92) (ag := ?ag9) (es := ?es9) Is.mk Is.mk sg sg si si si sg ?hb9 hn_80 hl_81 ?he9 ?hs9
 case hb9 => rw [encM_len]; exact hb_79
 case he9 =>
  intro hend
  simp only [go_sem, simprocAttr]
  first | apply hK9 | refine ⟨by exact sd, hK9 _ _ ?_⟩
  refine Wp.seqW fun K10 hK10 hW10 => ?_
  refine Wp.cond rfl ⟨⟩ (fun h => ?_) (fun h => ?_)
  ·cases h
  refine Wp.endM 0 1 (by simp only [go_sem, simprocAttr]; exact Is.mk) (by simp only [go_sem, simprocAttr]; exact Is.mk) (by simp only [go_sem, simprocAttr]) ?_
  simp only [go_sem, simprocAttr]
  refine Wp.exit ?_
  have hm := hk_90 _ (forM_end hm ((left_length (m := bs_77) hb_79 rfl).trans hend))
  try dsimp only at hm
  refine hW3 _ _ _ _ ?_ (hcut3 o2_85 hm)
  exact fse3
 case hs9 =>
  intro j_93 p_94 st_95 hok_96
  simp only [go_sem, simprocAttr]
  first | apply hK9 | refine ⟨by exact sd, hK9 _ _ ?_⟩
  refine Wp.seqW fun K10 hK10 hW10 => ?_
  refine Wp.cond rfl ⟨⟩ (fun h => ?_) (fun h => ?_)
  rotate_left
  ·cases h
  refine Wp.skip ?_
  simp only [thenQ]
  refine hK10 _ _ ?_
  obtain ⟨e_97, nx_91, hx_98, hnx_91, hm⟩ := forM_step hm (hok_96.er _ hb_79).1
  replace hx_98 := (hok_96.er _ hb_79).2.2.symm.trans hx_98
  refine Wp.block ?_
  refine Wp.seqR fun K11 hK11 => ?_
  simp only [go_sem, simprocAttr]
  try refine ⟨sd, ?_⟩
  refine Rg.entry (q := 1) (i := 0) (cl := cl_78) (bs := bs_77) (seen := sn_92) (ag := ?ag12) (es := ?es12) (d := ?d12) (row := ?row12) Is.mk Is.mk sg sg si si si hn_80 hok_96.hp ?he12 ?cont12
  case he12 => exact encM_get hx_98
  simp only [go_sem, simprocAttr]
  first | apply hK11 | refine ⟨sd, hK11 _ _ ?_⟩
  obtain ⟨c_99, hm⟩ := chk_elim hm
  refine Wp.region fun K13 hK13 => ?_
  simp only [go_sem, simprocAttr]
  first | apply hK13 | refine ⟨by first | exact sd | ((repeat' apply And.intro) <;> first | assumption | omega | (simp only [List.length_append, List.length_map, List.length_cons, List.length_nil, List.length_set, List.length_replicate] at c_99 ⊢; omega)), hK13 _ _ ?_⟩
  simp only [thenQ, blockQ, ↓reduceIte]
  refine ⟨_, o2_85 ++ [e_97.1], (forM_next hok_96 hb_79 (hnx_91 _ hm)).1, (forM_next hok_96 hb_79 (hnx_91 _ hm)).2, ?_⟩
  exact fse3
theorem ok_R_Installed (l_1 : List api_Record) (z : List api_Had) (hm : R_Installed l_1 = some z) : Does Tryz.prog 16 [.p (.l (List.map enc_api_Record l_1))] [] (fun r X => r = .p (.l (List.map enc_api_Had z)) ∧ X = []) := by
 unfold R_Installed at hm
 refine Does.of_wp 0 35 [.tmp 2] Tryz.func16 rfl (by decide) rfl rfl (Nat.le_of_ble_eq_true rfl) fun B => ?_
 refine qS ?_
 refine qS ?_
 refine Wp.seqW fun K3 hK3 hW3 => ?_
 obtain ⟨k_16, hk_16, hm⟩ := jp_elim hm
 have hcut3 : ∀ s, k_16 s = some z → K3 [(3, .mp 0)] [.mp true (encM Dt.s enc_api_Had s)] := by
  intro m0_15 hs
  have hm := hk_16 _ hs
  clear hs
  try dsimp only at hm
  try dsimp only
  refine hK3 _ _ ?_
  refine qS ?_
  refine Wp.seqW fun K5 hK5 hW5 => ?_
  obtain ⟨k_38, hk_38, hm⟩ := jp_elim hm
  have hcut5 : ∀ s, k_38 s = some z → K5 [(6, .buf 1)] [.mp true (encM Dt.s enc_api_Had m0_15), .buf 42 6 (List.map enc_api_Had s)] := by
   intro o1_37 hs
   have hm := hk_38 _ hs
   clear hs
   try dsimp only at hm
   try dsimp only
   refine hK5 _ _ ?_
   refine qS ?_
   refine Wp.ret ?_
   refine retQ_ret ?_
   cases hm
   exact fse3
  clear hK5 hk_38
  obtain ⟨r_39, hr_39, hm⟩ := call_elim hm
  refine Wp.seqR fun K7 hK7 => ?_
  simp only [go_sem, simprocAttr]
  try refine ⟨sd, ?_⟩
  refine Rg.callR (av := ?av8) (g := true) [0] (fun hg => ok_R_keys_api_Had_i1 m0_15 _ hr_39) si si si si sg sg sg ?cont8
  simp only [go_sem, simprocAttr]
  first | apply hK7 | refine ⟨sd, hK7 _ _ ?_⟩
  refine Wp.block ?_
  refine Wp.adopt 6 42 6 rfl ?_
  simp only [go_sem, simprocAttr]
  obtain ⟨k_51, hk_51, hm⟩ := forL_cont hm
  refine Wp.fact 21 fun hl_54 => ?_
  replace hl_54 : r_39.length ≤ 274877906944 := by
   simp only [go_sem, simprocAttr, List.length_map] at hl_54
   omega
  refine Wp.forL (fun i_53 s => [(3, .mp 0), (6, .buf 1), (21, .p (.l (List.map ecS r_39))), (22, .p (.i .i64 (r_39.length : Int))), (23, .p (.i .i64 (i_53 : Int)))]) (fun i_53 s => [.mp true (encM Dt.s enc_api_Had m0_15), .buf 42 6 (List.map enc_api_Had s)]) ?_ hm ?_
  ·
   exact fse3
  clear hm
  intro i_53 o1_46 hii_53 hm
  try dsimp only at hm
  try dsimp only
  refine qS ?_
  refine Wp.seqW fun K10 hK10 hW10 => ?_
  refine Wp.cond rfl ⟨⟩ (fun hc10 => ?_) (fun hc10 => ?_)
  rotate_left
  ·refine Wp.exit ?_
   have hm := hk_51 _ (forL_end hm (ge_nat (by first | exact hc10 | simpa using hc10)))
   try dsimp only at hm
   refine hW5 _ _ _ _ ?_ (hcut5 o1_46 hm)
   exact fse3
  have hlt10 := lt_nat (by first | exact hc10 | simpa using hc10)
  have hw10 := wrap_succ hlt10 hl_54
  obtain ⟨s_55, nx_52, hxs_55, hys_55, hnx_52, hm⟩ := forL_step hm hlt10
  replace hxs_55 := hxs_55 ecS
  refine Wp.skip ?_
  simp only [thenQ]
  refine hK10 _ _ ?_
  refine Wp.seqW fun K11 hK11 hW11 => ?_
  refine Wp.block ?_
  refine Wp.seqR fun K12 hK12 => ?_
  simp only [go_sem, simprocAttr, hw10, hxs_55]
  first | apply hK12 | refine ⟨sd, hK12 _ _ ?_⟩
  obtain ⟨q_56, hq_57, hm⟩ := letv_elim hm
  have hq_57d := mlookD_enc (e := enc_api_Had) keq_s m0_15 s_55 (api_Had.mk [] (api_Version.mk 0 0 0 []) 0)
  have hq_57s := mlook_some (e := enc_api_Had) keq_s m0_15 s_55
  simp only [hq_57, enc_api_Had, List.map_nil] at hq_57d hq_57s
  obtain ⟨c_58, hm⟩ := chk_elim hm
  refine Wp.region fun K13 hK13 => ?_
  simp only [go_sem, simprocAttr, hw10, hxs_55, hq_57d, hq_57s]
  first | apply hK13 | refine ⟨by first | exact sd | ((repeat' apply And.intro) <;> first | assumption | omega | (simp only [List.length_append, List.length_map, List.length_cons, List.length_nil, List.length_set, List.length_replicate] at c_58 ⊢; omega)), hK13 _ _ ?_⟩
  refine hK11 _ _ ?_
  refine Wp.region fun K14 hK14 => ?_
  simp only [go_sem, simprocAttr, hw10, hxs_55]
  first | apply hK14 | refine ⟨sd, hK14 _ _ ?_⟩
  simp only [thenQ, blockQ, ↓reduceIte]
  refine ⟨o1_46 ++ [(q_56.getD (api_Had.mk [] (api_Version.mk 0 0 0 []) 0))], hlt10, hnx_52 _ hm, ?_⟩
  simp only [go_sem, simprocAttr, hw10, hxs_55]
  try exact se3
 clear hK3 hk_16
 refine qS ?_
 refine Wp.block ?_
 obtain ⟨k_66, hk_66, hm⟩ := forL_cont hm
 refine Wp.fact 10 fun hl_69 => ?_
 replace hl_69 : l_1.length ≤ 274877906944 := by
  simp only [go_sem, simprocAttr, List.length_map] at hl_69
  omega
 refine Wp.forL (fun i_68 s => [(3, .mp 0), (10, .p (.l (List.map enc_api_Record l_1))), (11, .p (.i .i64 (l_1.length : Int))), (12, .p (.i .i64 (i_68 : Int)))]) (fun i_68 s => [.mp true (encM Dt.s enc_api_Had s)]) ?_ hm ?_
 ·
  exact fse3
 clear hm
 intro i_68 m0_63 hii_68 hm
 try dsimp only at hm
 try dsimp only
 refine qS ?_
 refine Wp.seqW fun K17 hK17 hW17 => ?_
 refine Wp.cond rfl ⟨⟩ (fun hc17 => ?_) (fun hc17 => ?_)
 rotate_left
 ·refine Wp.exit ?_
  have hm := hk_66 _ (forL_end hm (ge_nat (by first | exact hc17 | simpa using hc17)))
  try dsimp only at hm
  refine hW3 _ _ _ _ ?_ (hcut3 m0_63 hm)
  exact fse3
 have hlt17 := lt_nat (by first | exact hc17 | simpa using hc17)
 have hw17 := wrap_succ hlt17 hl_69
 obtain ⟨r_70, nx_67, hxr_70, hyr_70, hnx_67, hm⟩ := forL_step hm hlt17
 replace hxr_70 := hxr_70 enc_api_Record
 refine Wp.skip ?_
 simp only [thenQ]
 refine hK17 _ _ ?_
 refine Wp.seqW fun K18 hK18 hW18 => ?_
 refine Wp.block ?_
 refine Wp.seqR fun K19 hK19 => ?_
 simp only [go_sem, simprocAttr, hw17, hxr_70]
 first | apply hK19 | refine ⟨sd, hK19 _ _ ?_⟩
 obtain ⟨r_71, hr_71, hm⟩ := call_elim hm
 refine Wp.region fun K20 hK20 => ?_
 simp only [go_sem, simprocAttr, hw17, hxr_70]
 try refine ⟨sd, ?_⟩
 refine Rg.callO (av := ?av21) [0] (ok_R_could_i1 r_70 m0_63 _ hr_71) (by simp only [go_sem, simprocAttr, hw17, hxr_70]; exact Is.mk) (by simp only [go_sem, simprocAttr, hw17, hxr_70]; exact Is.mk) (by simp only [go_sem, simprocAttr, hw17, hxr_70]; exact Is.mk) (by simp only [go_sem, simprocAttr, hw17, hxr_70]) (by simp only [go_sem, simprocAttr, hw17, hxr_70]) ?cont21
 rintro _ _ ⟨rfl, rfl⟩ hv21
 simp only [go_sem, simprocAttr, hw17, hxr_70]
 first | apply hK20 | refine ⟨sd, hK20 _ _ ?_⟩
 refine hK18 _ _ ?_
 refine Wp.region fun K22 hK22 => ?_
 simp only [go_sem, simprocAttr, hw17, hxr_70]
 first | apply hK22 | refine ⟨sd, hK22 _ _ ?_⟩
 simp only [thenQ, blockQ, ↓reduceIte]
 refine ⟨r_71.2, hlt17, hnx_67 _ hm, ?_⟩
 simp only [go_sem, simprocAttr, hw17, hxr_70]
 try exact se3
theorem ok_R_Compacted_1 (a_1 : api_Record) (b_2 : api_Record) (z : Int) (hm : R_Compacted_1 a_1 b_2 = some z) : Does Tryz.prog 29 [.agg [.p (.i .i64 a_1.Time), .p (.i .i64 a_1.Kind), .p (.s a_1.Pack), .p (.i .i64 a_1.From.Major), .p (.i .i64 a_1.From.Minor), .p (.i .i64 a_1.From.Patch), .p (.s a_1.From.Early), .p (.i .i64 a_1.To.Major), .p (.i .i64 a_1.To.Minor), .p (.i .i64 a_1.To.Patch), .p (.s a_1.To.Early), .p (.i .i64 a_1.Result), .p (.s a_1.Note)], .agg [.p (.i .i64 b_2.Time), .p (.i .i64 b_2.Kind), .p (.s b_2.Pack), .p (.i .i64 b_2.From.Major), .p (.i .i64 b_2.From.Minor), .p (.i .i64 b_2.From.Patch), .p (.s b_2.From.Early), .p (.i .i64 b_2.To.Major), .p (.i .i64 b_2.To.Minor), .p (.i .i64 b_2.To.Patch), .p (.s b_2.To.Early), .p (.i .i64 b_2.Result), .p (.s b_2.Note)]] [] (fun r X => r = .p (.i .i64 z) ∧ X = []) := by
 unfold R_Compacted_1 at hm
 refine Does.of_wp 0 10 [.tmp 4] Tryz.func29 rfl (by decide) rfl rfl (Nat.le_of_ble_eq_true rfl) fun B => ?_
 refine qS ?_
 obtain ⟨r_3, hr_3, hm⟩ := call_elim hm
 refine Wp.seqR fun K2 hK2 => ?_
 simp only [go_sem, simprocAttr]
 try refine ⟨sd, ?_⟩
 refine Rg.callX (av := ?av3) (g := true) (fun hg => ok_cmp_Compare_int a_1.Time b_2.Time _ hr_3) si si si sg si ?cont3
 intro hv3
 simp only [go_sem, simprocAttr]
 first | apply hK2 | refine ⟨sd, hK2 _ _ ?_⟩
 refine Wp.ret ?_
 refine retQ_ret ?_
 cases hm
 exact fse3
theorem ok_slices_insertionSortCmpFunc_api_Record_i3 (a_1 : Int) (b_2 : Int) (o0_3 : List api_Record) (z : List api_Record) (hm : slices_insertionSortCmpFunc_api_Record_i3 a_1 b_2 o0_3 = some z) : Does Tryz.prog 72 [.buf 0, .p (.i .i64 a_1), .p (.i .i64 b_2), .fn 29 []] [.fx 32 13 (List.map enc_api_Record o0_3)] (fun r X => r = .tup [] ∧ X = [.fx 32 13 (List.map enc_api_Record z)]) := by
 unfold slices_insertionSortCmpFunc_api_Record_i3 at hm
 refine Does.of_wp 1 53 [] Tryz.func72 rfl (by decide) rfl rfl (Nat.le_of_ble_eq_true rfl) fun B => ?_
 refine qS ?_
 refine Wp.block ?_
 obtain ⟨k_672, hk_672, hm⟩ := loopN_cont hm
 refine Wp.loopN (fun s => [(0, .buf 0), (1, .p (.i .i64 a_1)), (2, .p (.i .i64 b_2)), (3, .fn 29 []), (8, .p (.i .i64 s.1))]) (fun s => [.fx 32 13 (List.map enc_api_Record s.2)]) ?_ hm ?_
 ·
  exact fse3
 clear hm
 intro s nx_673 hm
 obtain ⟨i_538, o0_539⟩ := s
 try dsimp only at hm
 try dsimp only
 refine Wp.seqW fun K2 hK2 hW2 => ?_
 refine qS ?_
 refine cM hm (fun hc4 hm => ?_) (fun hc4 hm => ?_)
 ·refine Wp.skip ?_
  refine hK2 _ _ ?_
  refine Wp.seqW fun K5 hK5 hW5 => ?_
  obtain ⟨k_740, hk_740, hm⟩ := jp_elim hm
  have hcut5 : ∀ s, k_740 s = some z → K5 [(0, .buf 0), (1, .p (.i .i64 a_1)), (2, .p (.i .i64 b_2)), (3, .fn 29 []), (8, .p (.i .i64 i_538))] [.fx 32 13 (List.map enc_api_Record s)] := by
   intro o0_739 hs
   have hm := hk_740 _ hs
   clear hs
   try dsimp only at hm
   try dsimp only
   refine hK5 _ _ ?_
   refine qR ?_
   simp only [thenQ, blockQ, ↓reduceIte]
   refine ⟨(IntKind.i64.wrap (i_538 + 1), o0_739), hm, ?_⟩
   exact fse3
  clear hK5 hk_740
  refine Wp.block ?_
  refine qS ?_
  refine Wp.block ?_
  obtain ⟨k_784, hk_784, hm⟩ := loopN_cont hm
  refine Wp.loopN (fun s => [(0, .buf 0), (1, .p (.i .i64 a_1)), (2, .p (.i .i64 b_2)), (3, .fn 29 []), (8, .p (.i .i64 i_538)), (9, .p (.i .i64 s.1))]) (fun s => [.fx 32 13 (List.map enc_api_Record s.2)]) ?_ hm ?_
  ·
   exact fse3
  clear hm
  intro s nx_785 hm
  obtain ⟨j_762, o0_763⟩ := s
  try dsimp only at hm
  try dsimp only
  refine Wp.seqW fun K8 hK8 hW8 => ?_
  obtain ⟨c_786, hm⟩ := chk_elim hm
  obtain ⟨c_787, hm⟩ := chk_elim hm
  obtain ⟨r_788, hr_788, hm⟩ := callG_elim hm
  refine Wp.seqDW (plan := pl [(0, none), (1, none), (2, none), (3, none), (4, none), (5, none), (6, none), (7, none), (8, none), (9, none), (10, none), (11, none), (12, none), (13, none), (14, none), (15, none), (16, none)]) (by kernel_rfl) rfl (by kernel_rfl) fun K9 hK9 hW9 => ?_
  suffices hcont9 : K9 [(0, .buf 0), (1, .p (.i .i64 a_1)), (2, .p (.i .i64 b_2)), (3, .fn 29 []), (8, .p (.i .i64 i_538)), (9, .p (.i .i64 j_762)), (18, .p (.i .i64 j_762)), (19, .p (.i .i64 a_1)), (20, .p (.b (decide (a_1 < j_762)))), (21, .p (.b (decide (a_1 < j_762)))), (34, .p (.b ((decide (a_1 < j_762)) && (decide (r_788 < 0)))))] [.fx 32 13 (List.map enc_api_Record o0_763)] by
   rcases Bool.eq_false_or_eq_true (decide (a_1 < j_762)) with hg_789 | hg_789
   ·
    have c_790 := c_786 hg_789
    have c_791 := c_787 hg_789
    have hr_792 := fun h => getD_encB (l := o0_763) (e := enc_api_Record) (d := (api_Record.mk 0 0 [] (api_Version.mk 0 0 0 []) (api_Version.mk 0 0 0 []) 0 [])) (i := j_762.toNat) h []
    have hr_793 := fun h => getD_encB (l := o0_763) (e := enc_api_Record) (d := (api_Record.mk 0 0 [] (api_Version.mk 0 0 0 []) (api_Version.mk 0 0 0 []) 0 [])) (i := (IntKind.i64.wrap (j_762 - 1)).toNat) h []
    simp only [go_sem, simprocAttr, false_implies, and_true, true_and, bad, hg_789, hr_792 (by omega), hr_793 (by omega)]
    try refine ⟨by first | exact sd | ((repeat' apply And.intro) <;> first | assumption | omega | (simp only [List.length_append, List.length_map, List.length_cons, List.length_nil, List.length_set, List.length_replicate] at c_786 c_787 c_790 c_791 ⊢; omega)), ?_⟩
    refine Dr.callF (av := ?av10) (g := decide (a_1 < j_762)) (o := ?o10) (fun hg => ok_R_Compacted_1 (o0_763.getD j_762.toNat (api_Record.mk 0 0 [] (api_Version.mk 0 0 0 []) (api_Version.mk 0 0 0 []) 0 [])) (o0_763.getD ((IntKind.i64.wrap (j_762 - 1)).toNat) (api_Record.mk 0 0 [] (api_Version.mk 0 0 0 []) (api_Version.mk 0 0 0 []) 0 [])) _ (hr_788 hg)) (by simp only [go_sem, simprocAttr, false_implies, and_true, true_and, bad, hg_789, hr_792 (by omega), hr_793 (by omega)]; exact Is.mk) (by simp only [go_sem, simprocAttr, false_implies, and_true, true_and, bad, hg_789, hr_792 (by omega), hr_793 (by omega)]; exact Is.mk) (by simp only [go_sem, simprocAttr, false_implies, and_true, true_and, bad, hg_789, hr_792 (by omega), hr_793 (by omega)]; exact Is.mk) (by simp only [go_sem, simprocAttr, false_implies, and_true, true_and, bad, hg_789, hr_792 (by omega), hr_793 (by omega)]; exact Is.mk) (by simp only [go_sem, simprocAttr, false_implies, and_true, true_and, bad, hg_789, hr_792 (by omega), hr_793 (by omega)]) (by simp only [go_sem, simprocAttr, false_implies, and_true, true_and, bad, hg_789, hr_792 (by omega), hr_793 (by omega)]; exact Is.mk) ?cont10
    simp only [go_sem, simprocAttr, false_implies, and_true, true_and, bad, hg_789, hr_792 (by omega), hr_793 (by omega)]
    first | refine hW9 _ _ _ _ ?_ hcont9 | refine ⟨by first | exact sd | ((repeat' apply And.intro) <;> first | assumption | omega | (simp only [List.length_append, List.length_map, List.length_cons, List.length_nil, List.length_set, List.length_replicate] at c_786 c_787 c_790 c_791 ⊢; omega)), hW9 _ _ _ _ ?_ hcont9⟩
    simp only [go_sem, simprocAttr, false_implies, and_true, true_and, bad, hg_789, hr_792 (by omega), hr_793 (by omega)]
    try exact se3
   ·
    rcases Nat.lt_or_ge j_762.toNat o0_763.length with hi_794 | hi_794
    ·
     have hr_795 := getD_encB (l := o0_763) (e := enc_api_Record) (d := (api_Record.mk 0 0 [] (api_Version.mk 0 0 0 []) (api_Version.mk 0 0 0 []) 0 [])) (i := j_762.toNat) hi_794 []
     rcases Nat.lt_or_ge ((IntKind.i64.wrap (j_762 - 1)).toNat) o0_763.length with hi_796 | hi_796
     ·
      have hr_797 := getD_encB (l := o0_763) (e := enc_api_Record) (d := (api_Record.mk 0 0 [] (api_Version.mk 0 0 0 []) (api_Version.mk 0 0 0 []) 0 [])) (i := (IntKind.i64.wrap (j_762 - 1)).toNat) hi_796 []
      simp only [go_sem, simprocAttr, false_implies, and_true, true_and, bad, hg_789, hr_795, hr_797]
      try refine ⟨by first | exact sd | ((repeat' apply And.intro) <;> first | assumption | omega | (simp only [List.length_append, List.length_map, List.length_cons, List.length_nil, List.length_set, List.length_replicate] at c_786 c_787 ⊢; omega)), ?_⟩
      refine Dr.skipG (o := ?o11) (v := .p (.i .i64 r_788)) (gw := ?gw11) (by simp only [go_sem, simprocAttr, false_implies, and_true, true_and, bad, hg_789, hr_795, hr_797]; exact Is.mk) (by simp only [go_sem, simprocAttr, false_implies, and_true, true_and, bad, hg_789, hr_795, hr_797]; exact Is.mk) (by simp only [go_sem, simprocAttr, false_implies, and_true, true_and, bad, hg_789, hr_795, hr_797]; exact Is.mk) (by simp only [go_sem, simprocAttr, false_implies, and_true, true_and, bad, hg_789, hr_795, hr_797]) ?cont11
      simp only [go_sem, simprocAttr, false_implies, and_true, true_and, bad, hg_789, hr_795, hr_797]
      first | refine hW9 _ _ _ _ ?_ hcont9 | refine ⟨by first | exact sd | ((repeat' apply And.intro) <;> first | assumption | omega | (simp only [List.length_append, List.length_map, List.length_cons, List.length_nil, List.length_set, List.length_replicate] at c_786 c_787 ⊢; omega)), hW9 _ _ _ _ ?_ hcont9⟩
      simp only [go_sem, simprocAttr, false_implies, and_true, true_and, bad, hg_789, hr_795, hr_797]
      try exact se3
     ·
      have hr_797 : (List.map enc_api_Record o0_763).getD ((IntKind.i64.wrap (j_762 - 1)).toNat) [] = [] := by rw [List.getD_eq_getElem?_getD, List.getElem?_eq_none (by simpa using hi_796)]; rfl
      simp only [go_sem, simprocAttr, false_implies, and_true, true_and, bad, hg_789, hr_795, hr_797]
      try refine ⟨by first | exact sd | ((repeat' apply And.intro) <;> first | assumption | omega | (simp only [List.length_append, List.length_map, List.length_cons, List.length_nil, List.length_set, List.length_replicate] at c_786 c_787 ⊢; omega)), ?_⟩
      refine Dr.skipG (o := ?o12) (v := .p (.i .i64 r_788)) (gw := ?gw12) (by simp only [go_sem, simprocAttr, false_implies, and_true, true_and, bad, hg_789, hr_795, hr_797]; exact Is.mk) (by simp only [go_sem, simprocAttr, false_implies, and_true, true_and, bad, hg_789, hr_795, hr_797]; exact Is.mk) (by simp only [go_sem, simprocAttr, false_implies, and_true, true_and, bad, hg_789, hr_795, hr_797]; exact Is.mk) (by simp only [go_sem, simprocAttr, false_implies, and_true, true_and, bad, hg_789, hr_795, hr_797]) ?cont12
      simp only [go_sem, simprocAttr, false_implies, and_true, true_and, bad, hg_789, hr_795, hr_797]
      first | refine hW9 _ _ _ _ ?_ hcont9 | refine ⟨by first | exact sd | ((repeat' apply And.intro) <;> first | assumption | omega | (simp only [List.length_append, List.length_map, List.length_cons, List.length_nil, List.length_set, List.length_replicate] at c_786 c_787 ⊢; omega)), hW9 _ _ _ _ ?_ hcont9⟩
      simp only [go_sem, simprocAttr, false_implies, and_true, true_and, bad, hg_789, hr_795, hr_797]
      try exact se3
    ·
     have hr_795 : (List.map enc_api_Record o0_763).getD j_762.toNat [] = [] := by rw [List.getD_eq_getElem?_getD, List.getElem?_eq_none (by simpa using hi_794)]; rfl
     rcases Nat.lt_or_ge ((IntKind.i64.wrap (j_762 - 1)).toNat) o0_763.length with hi_798 | hi_798
     ·
      have hr_799 := getD_encB (l := o0_763) (e := enc_api_Record) (d := (api_Record.mk 0 0 [] (api_Version.mk 0 0 0 []) (api_Version.mk 0 0 0 []) 0 [])) (i := (IntKind.i64.wrap (j_762 - 1)).toNat) hi_798 []
      simp only [go_sem, simprocAttr, false_implies, and_true, true_and, bad, hg_789, hr_795, hr_799]
      try refine ⟨by first | exact sd | ((repeat' apply And.intro) <;> first | assumption | omega | (simp only [List.length_append, List.length_map, List.length_cons, List.length_nil, List.length_set, List.length_replicate] at c_786 c_787 ⊢; omega)), ?_⟩
      refine Dr.skipG (o := ?o13) (v := .p (.i .i64 r_788)) (gw := ?gw13) (by simp only [go_sem, simprocAttr, false_implies, and_true, true_and, bad, hg_789, hr_795, hr_799]; exact Is.mk) (by simp only [go_sem, simprocAttr, false_implies, and_true, true_and, bad, hg_789, hr_795, hr_799]; exact Is.mk) (by simp only [go_sem, simprocAttr, false_implies, and_true, true_and, bad, hg_789, hr_795, hr_799]; exact Is.mk) (by simp only [go_sem, simprocAttr, false_implies, and_true, true_and, bad, hg_789, hr_795, hr_799]) ?cont13
      simp only [go_sem, simprocAttr, false_implies, and_true, true_and, bad, hg_789, hr_795, hr_799]
      first | refine hW9 _ _ _ _ ?_ hcont9 | refine ⟨by first | exact sd | ((repeat' apply And.intro) <;> first | assumption | omega | (simp only [List.length_append, List.length_map, List.length_cons, List.length_nil, List.length_set, List.length_replicate] at c_786 c_787 ⊢; omega)), hW9 _ _ _ _ ?_ hcont9⟩
      simp only [go_sem, simprocAttr, false_implies, and_true, true_and, bad, hg_789, hr_795, hr_799]
      try exact se3
     ·
      have hr_799 : (List.map enc_api_Record o0_763).getD ((IntKind.i64.wrap (j_762 - 1)).toNat) [] = [] := by rw [List.getD_eq_getElem?_getD, List.getElem?_eq_none (by simpa using hi_798)]; rfl
      simp only [go_sem, simprocAttr, false_implies, and_true, true_and, bad, hg_789, hr_795, hr_799]
      try refine ⟨by first | exact sd | ((repeat' apply And.intro) <;> first | assumption | omega | (simp only [List.length_append, List.length_map, List.length_cons, List.length_nil, List.length_set, List.length_replicate] at c_786 c_787 ⊢; omega)), ?_⟩
      refine Dr.skipG (o := ?o14) (v := .p (.i .i64 r_788)) (gw := ?gw14) (by simp only [go_sem, simprocAttr, false_implies, and_true, true_and, bad, hg_789, hr_795, hr_799]; exact Is.mk) (by simp only [go_sem, simprocAttr, false_implies, and_true, true_and, bad, hg_789, hr_795, hr_799]; exact Is.mk) (by simp only [go_sem, simprocAttr, false_implies, and_true, true_and, bad, hg_789, hr_795, hr_799]; exact Is.mk) (by simp only [go_sem, simprocAttr, false_implies, and_true, true_and, bad, hg_789, hr_795, hr_799]) ?cont14
      simp only [go_sem, simprocAttr, false_implies, and_true, true_and, bad, hg_789, hr_795, hr_799]
      first | refine hW9 _ _ _ _ ?_ hcont9 | refine ⟨by first | exact sd | ((repeat' apply And.intro) <;> first | assumption | omega | (simp only [List.length_append, List.length_map, List.length_cons, List.length_nil, List.length_set, List.length_replicate] at c_786 c_787 ⊢; omega)), hW9 _ _ _ _ ?_ hcont9⟩
      simp only [go_sem, simprocAttr, false_implies, and_true, true_and, bad, hg_789, hr_795, hr_799]
      try exact se3
  refine hK9 _ _ ?_
  refine cM hm (fun hc15 hm => ?_) (fun hc15 hm => ?_)
  ·refine Wp.skip ?_
   refine hK8 _ _ ?_
   refine Wp.seqW fun K16 hK16 hW16 => ?_
   refine Wp.block ?_
   obtain ⟨c_800, hm⟩ := chk_elim hm
   obtain ⟨c_801, hm⟩ := chk_elim hm
   obtain ⟨c_802, hm⟩ := chk_elim hm
   obtain ⟨c_803, hm⟩ := chk_elim hm
   have hr_804 := fun h => getD_encB (l := o0_763) (e := enc_api_Record) (d := (api_Record.mk 0 0 [] (api_Version.mk 0 0 0 []) (api_Version.mk 0 0 0 []) 0 [])) (i := (IntKind.i64.wrap (j_762 - 1)).toNat) h []
   have hr_805 := fun h => getD_encB (l := o0_763) (e := enc_api_Record) (d := (api_Record.mk 0 0 [] (api_Version.mk 0 0 0 []) (api_Version.mk 0 0 0 []) 0 [])) (i := j_762.toNat) h []
   refine Wp.regD (plan := pl [(0, none), (1, none), (2, none), (3, none), (4, none), (5, none), (6, none), (7, none), (8, none), (9, none), (10, none), (11, none), (12, none), (13, none), (14, none), (15, some [2, 3, 4]), (16, none), (17, some [])]) (by kernel_rfl) rfl (by kernel_rfl) fun K17 hK17 => ?_
   simp only [go_sem, simprocAttr, hr_804 (by omega), hr_805 (by omega)]
   first | apply hK17 | refine ⟨by first | exact sd | ((repeat' apply And.intro) <;> first | assumption | omega | (simp only [List.length_append, List.length_map, List.length_cons, List.length_nil, List.length_set, List.length_replicate] at c_800 c_801 c_802 c_803 ⊢; omega)), hK17 _ _ ?_⟩
   refine hK16 _ _ ?_
   refine qR ?_
   simp only [thenQ, blockQ, ↓reduceIte]
   refine ⟨(IntKind.i64.wrap (j_762 - 1), List.set (List.set o0_763 j_762.toNat (o0_763.getD ((IntKind.i64.wrap (j_762 - 1)).toNat) (api_Record.mk 0 0 [] (api_Version.mk 0 0 0 []) (api_Version.mk 0 0 0 []) 0 []))) ((IntKind.i64.wrap (j_762 - 1)).toNat) (o0_763.getD j_762.toNat (api_Record.mk 0 0 [] (api_Version.mk 0 0 0 []) (api_Version.mk 0 0 0 []) 0 []))), hm, ?_⟩
   exact fse3
  ·refine Wp.exit ?_
   simp only [thenQ, blockQ, ↓reduceIte]
   have hm := hk_784 _ hm
   try dsimp only at hm
   refine hW5 _ _ _ _ ?_ (hcut5 o0_763 hm)
   exact fse3
 ·refine Wp.exit ?_
  simp only [thenQ, blockQ, ↓reduceIte]
  have hm := hk_672 _ hm
  try dsimp only at hm
  refine retQ_normal ?_
  cases hm
  exact fse3
theorem ok_slices_swapRangeCmpFunc_api_Record_i3 (a_1 : Int) (b_2 : Int) (n_3 : Int) (o0_4 : List api_Record) (z : List api_Record) (hm : slices_swapRangeCmpFunc_api_Record_i3 a_1 b_2 n_3 o0_4 = some z) : Does Tryz.prog 118 [.buf 0, .p (.i .i64 a_1), .p (.i .i64 b_2), .p (.i .i64 n_3), .fn 29 []] [.fx 32 13 (List.map enc_api_Record o0_4)] (fun r X => r = .tup [] ∧ X = [.fx 32 13 (List.map enc_api_Record z)]) := by
 unfold slices_swapRangeCmpFunc_api_Record_i3 at hm
 refine Does.of_wp 1 38 [] Tryz.func118 rfl (by decide) rfl rfl (Nat.le_of_ble_eq_true rfl) fun B => ?_
 refine qS ?_
 refine Wp.block ?_
 obtain ⟨k_43, hk_43, hm⟩ := loopN_cont hm
 refine Wp.loopN (fun s => [(0, .buf 0), (1, .p (.i .i64 a_1)), (2, .p (.i .i64 b_2)), (3, .p (.i .i64 n_3)), (10, .p (.i .i64 s.1))]) (fun s => [.fx 32 13 (List.map enc_api_Record s.2)]) ?_ hm ?_
 ·
  exact fse3
 clear hm
 intro s nx_44 hm
 obtain ⟨i_35, o0_36⟩ := s
 try dsimp only at hm
 try dsimp only
 refine Wp.seqW fun K2 hK2 hW2 => ?_
 refine qS ?_
 refine cM hm (fun hc4 hm => ?_) (fun hc4 hm => ?_)
 ·refine Wp.skip ?_
  refine hK2 _ _ ?_
  refine Wp.seqW fun K5 hK5 hW5 => ?_
  refine Wp.block ?_
  obtain ⟨c_45, hm⟩ := chk_elim hm
  obtain ⟨c_46, hm⟩ := chk_elim hm
  obtain ⟨c_47, hm⟩ := chk_elim hm
  obtain ⟨c_48, hm⟩ := chk_elim hm
  have hr_49 := fun h => getD_encB (l := o0_36) (e := enc_api_Record) (d := (api_Record.mk 0 0 [] (api_Version.mk 0 0 0 []) (api_Version.mk 0 0 0 []) 0 [])) (i := (IntKind.i64.wrap (b_2 + i_35)).toNat) h []
  have hr_50 := fun h => getD_encB (l := o0_36) (e := enc_api_Record) (d := (api_Record.mk 0 0 [] (api_Version.mk 0 0 0 []) (api_Version.mk 0 0 0 []) 0 [])) (i := (IntKind.i64.wrap (a_1 + i_35)).toNat) h []
  refine Wp.regD (plan := pl [(0, none), (1, none), (2, none), (3, none), (4, none), (5, none), (6, none), (7, none), (8, none), (9, none), (10, none), (11, none), (12, none), (13, none), (14, none), (15, none), (16, none), (17, none), (18, none), (19, none), (20, none), (21, some [4, 5, 6, 7]), (22, none), (23, some [])]) (by kernel_rfl) rfl (by kernel_rfl) fun K6 hK6 => ?_
  simp only [go_sem, simprocAttr, hr_49 (by omega), hr_50 (by omega)]
  first | apply hK6 | refine ⟨by first | exact sd | ((repeat' apply And.intro) <;> first | assumption | omega | (simp only [List.length_append, List.length_map, List.length_cons, List.length_nil, List.length_set, List.length_replicate] at c_45 c_46 c_47 c_48 ⊢; omega)), hK6 _ _ ?_⟩
  refine hK5 _ _ ?_
  refine qR ?_
  simp only [thenQ, blockQ, ↓reduceIte]
  refine ⟨(IntKind.i64.wrap (i_35 + 1), List.set (List.set o0_36 ((IntKind.i64.wrap (a_1 + i_35)).toNat) (o0_36.getD ((IntKind.i64.wrap (b_2 + i_35)).toNat) (api_Record.mk 0 0 [] (api_Version.mk 0 0 0 []) (api_Version.mk 0 0 0 []) 0 []))) ((IntKind.i64.wrap (b_2 + i_35)).toNat) (o0_36.getD ((IntKind.i64.wrap (a_1 + i_35)).toNat) (api_Record.mk 0 0 [] (api_Version.mk 0 0 0 []) (api_Version.mk 0 0 0 []) 0 []))), hm, ?_⟩
  exact fse3
 ·refine Wp.exit ?_
  simp only [thenQ, blockQ, ↓reduceIte]
  have hm := hk_43 _ hm
  try dsimp only at hm
  refine retQ_normal ?_
  cases hm
  exact fse3
theorem ok_slices_rotateCmpFunc_api_Record_i3 (a_1 : Int) (m_2 : Int) (b_3 : Int) (o0_4 : List api_Record) (z : List api_Record) (hm : slices_rotateCmpFunc_api_Record_i3 a_1 m_2 b_3 o0_4 = some z) : Does Tryz.prog 92 [.buf 0, .p (.i .i64 a_1), .p (.i .i64 m_2), .p (.i .i64 b_3), .fn 29 []] [.fx 32 13 (List.map enc_api_Record o0_4)] (fun r X => r = .tup [] ∧ X = [.fx 32 13 (List.map enc_api_Record z)]) := by
 unfold slices_rotateCmpFunc_api_Record_i3 at hm
 refine Does.of_wp 1 58 [] Tryz.func92 rfl (by decide) rfl rfl (Nat.le_of_ble_eq_true rfl) fun B => ?_
 refine qS ?_
 refine qS ?_
 refine Wp.seqW fun K3 hK3 hW3 => ?_
 obtain ⟨k_50, hk_50, hm⟩ := jp_elim hm
 have hcut3 : ∀ s, k_50 s = some z → K3 [(0, .buf 0), (2, .p (.i .i64 m_2)), (4, .fn 29 []), (10, .p (.i .i64 s.1))] [.fx 32 13 (List.map enc_api_Record s.2)] := by
  intro s hs
  have hm := hk_50 _ hs
  clear hs
  obtain ⟨i_48, o0_49⟩ := s
  try dsimp only at hm
  try dsimp only
  refine hK3 _ _ ?_
  obtain ⟨r_51, hr_51, hm⟩ := call_elim hm
  refine Wp.region fun K4 hK4 => ?_
  simp only [go_sem, simprocAttr]
  try refine ⟨sd, ?_⟩
  refine Rg.callO (av := ?av5) [0] (ok_slices_swapRangeCmpFunc_api_Record_i3 (IntKind.i64.wrap (m_2 - i_48)) m_2 i_48 o0_49 _ hr_51) si si si sg sg ?cont5
  rintro _ _ ⟨rfl, rfl⟩ hv5
  simp only [go_sem, simprocAttr]
  first | apply hK4 | refine ⟨sd, hK4 _ _ ?_⟩
  refine retQ_normal ?_
  cases hm
  exact fse3
 clear hK3 hk_50
 refine Wp.block ?_
 obtain ⟨k_61, hk_61, hm⟩ := loopN_cont hm
 refine Wp.loopN (fun s => [(0, .buf 0), (2, .p (.i .i64 m_2)), (4, .fn 29 []), (10, .p (.i .i64 s.1)), (11, .p (.i .i64 s.2.1))]) (fun s => [.fx 32 13 (List.map enc_api_Record s.2.2)]) ?_ hm ?_
 ·
  exact fse3
 clear hm
 intro s nx_62 hm
 obtain ⟨i_56, j_57, o0_58⟩ := s
 try dsimp only at hm
 try dsimp only
 refine Wp.seqW fun K6 hK6 hW6 => ?_
 refine qS ?_
 refine cM hm (fun hc8 hm => ?_) (fun hc8 hm => ?_)
 ·refine Wp.skip ?_
  refine hK6 _ _ ?_
  refine Wp.block ?_
  refine qS ?_
  refine cM hm (fun hc10 hm => ?_) (fun hc10 hm => ?_)
  ·obtain ⟨r_63, hr_63, hm⟩ := call_elim hm
   refine Wp.seqR fun K11 hK11 => ?_
   simp only [go_sem, simprocAttr]
   try refine ⟨sd, ?_⟩
   refine Rg.callO (av := ?av12) [0] (ok_slices_swapRangeCmpFunc_api_Record_i3 (IntKind.i64.wrap (m_2 - i_56)) m_2 j_57 o0_58 _ hr_63) si si si sg sg ?cont12
   rintro _ _ ⟨rfl, rfl⟩ hv12
   simp only [go_sem, simprocAttr]
   first | apply hK11 | refine ⟨sd, hK11 _ _ ?_⟩
   refine qR ?_
   simp only [thenQ, blockQ, ↓reduceIte]
   refine ⟨(IntKind.i64.wrap (i_56 - j_57), j_57, r_63), hm, ?_⟩
   exact fse3
  ·obtain ⟨r_64, hr_64, hm⟩ := call_elim hm
   refine Wp.seqR fun K14 hK14 => ?_
   simp only [go_sem, simprocAttr]
   try refine ⟨sd, ?_⟩
   refine Rg.callO (av := ?av15) [0] (ok_slices_swapRangeCmpFunc_api_Record_i3 (IntKind.i64.wrap (m_2 - i_56)) (IntKind.i64.wrap ((IntKind.i64.wrap (m_2 + j_57)) - i_56)) i_56 o0_58 _ hr_64) si si si sg sg ?cont15
   rintro _ _ ⟨rfl, rfl⟩ hv15
   simp only [go_sem, simprocAttr]
   first | apply hK14 | refine ⟨sd, hK14 _ _ ?_⟩
   refine qR ?_
   simp only [thenQ, blockQ, ↓reduceIte]
   refine ⟨(i_56, IntKind.i64.wrap (j_57 - i_56), r_64), hm, ?_⟩
   exact fse3
 ·refine Wp.exit ?_
  simp only [thenQ, blockQ, ↓reduceIte]
  have hm := hk_61 _ hm
  try dsimp only at hm
  refine hW3 _ _ _ _ ?_ (hcut3 (i_56, o0_58) hm)
  exact fse3
end Go.Proofs.YthmjpfooffbhhaaGreatDoor
