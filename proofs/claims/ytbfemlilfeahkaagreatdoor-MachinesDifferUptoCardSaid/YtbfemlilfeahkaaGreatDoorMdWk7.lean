/- That the code does what the models say (part 7). -/
import Derived.Test.YtbfemlilfeahkaaGreatDoorMdWk0
import Derived.Test.YtbfemlilfeahkaaGreatDoorMdWk3
import Derived.Test.YtbfemlilfeahkaaGreatDoorMdWk5
import Derived.Test.YtbfemlilfeahkaaGreatDoorMdWk6
set_option linter.unusedSimpArgs false
set_option linter.unusedVariables false
open Go.Proofs Go.Shelf
namespace Go.Proofs.YtbfemlilfeahkaaGreatDoor
open Go.Vc Go.Md
set_option maxRecDepth 100000
set_option maxHeartbeats 4000000
theorem ok_disk_missing_api_Setting_i1 (key_1 : Str) (m0_2 : List (Str × api_Setting)) (z : Bool) (hm : disk_missing_api_Setting_i1 key_1 m0_2 = some z) : Does Tryz.prog 192 [.mp 0, .p (.s key_1)] [.mp true (encM Dt.s enc_api_Setting m0_2)] (fun r X => r = .p (.b z) ∧ X = [.mp true (encM Dt.s enc_api_Setting m0_2)]) := by
 unfold disk_missing_api_Setting_i1 at hm
 refine Does.of_wp 1 15 [.tmp 4] Tryz.func192 rfl (by decide) rfl rfl (Nat.le_of_ble_eq_true rfl) fun B => ?_
 refine qS ?_
 obtain ⟨q_5, hq_6, hm⟩ := letv_elim hm
 have hq_6d := mlookD_enc (e := enc_api_Setting) keq_s m0_2 key_1 (api_Setting.mk [] [])
 have hq_6s := mlook_some (e := enc_api_Setting) keq_s m0_2 key_1
 simp only [hq_6, enc_api_Setting, List.map_nil] at hq_6d hq_6s
 refine Wp.seqR fun K2 hK2 => ?_
 simp only [go_sem, simprocAttr, hq_6d, hq_6s]
 first | apply hK2 | refine ⟨sd, hK2 _ _ ?_⟩
 refine qS ?_
 refine Wp.ret ?_
 refine retQ_ret ?_
 cases hm
 exact fse4
theorem ok_disk_missing_api_Service_i1 (key_1 : Str) (m0_2 : List (Str × api_Service)) (z : Bool) (hm : disk_missing_api_Service_i1 key_1 m0_2 = some z) : Does Tryz.prog 193 [.mp 0, .p (.s key_1)] [.mp true (encM Dt.s enc_api_Service m0_2)] (fun r X => r = .p (.b z) ∧ X = [.mp true (encM Dt.s enc_api_Service m0_2)]) := by
 unfold disk_missing_api_Service_i1 at hm
 refine Does.of_wp 1 15 [.tmp 4] Tryz.func193 rfl (by decide) rfl rfl (Nat.le_of_ble_eq_true rfl) fun B => ?_
 refine qS ?_
 obtain ⟨q_5, hq_6, hm⟩ := letv_elim hm
 have hq_6d := mlookD_enc (e := enc_api_Service) keq_s m0_2 key_1 (api_Service.mk [] [] false false)
 have hq_6s := mlook_some (e := enc_api_Service) keq_s m0_2 key_1
 simp only [hq_6, enc_api_Service, List.map_nil] at hq_6d hq_6s
 refine Wp.seqR fun K2 hK2 => ?_
 simp only [go_sem, simprocAttr, hq_6d, hq_6s]
 first | apply hK2 | refine ⟨sd, hK2 _ _ ?_⟩
 refine qS ?_
 refine Wp.ret ?_
 refine retQ_ret ?_
 cases hm
 exact fse4
theorem ok_disk_bench_fault_i1 (c_1 : api_Change) (o0_0_2 : List api_Setting) (m1_3 : List (Str × api_File)) (m2_4 : List (Str × Int)) (m3_5 : List (Str × api_Setting)) (m4_6 : List (Str × api_Service)) (z : Int) (hm : disk_bench_fault_i1 c_1 o0_0_2 m1_3 m2_4 m3_5 m4_6 = some z) : Does Tryz.prog 153 [.ptr 0 0, .agg [.p (.i .i64 c_1.Kind), .p (.s c_1.File.Path), .p (.s c_1.File.Data), .p (.b c_1.File.Runs), .p (.s c_1.Setting.Key), .p (.s c_1.Setting.Value), .p (.s c_1.Service.Name), .p (.s c_1.Service.Path), .p (.b c_1.Service.Auto), .p (.b c_1.Service.On)]] [.cells 187 [.p (.l (List.map enc_api_Setting o0_0_2)), .mp 1, .mp 2, .mp 3, .mp 4], .mp true (encM Dt.s enc_api_File m1_3), .mp false (encM Dt.s ecI_i64 m2_4), .mp true (encM Dt.s enc_api_Setting m3_5), .mp true (encM Dt.s enc_api_Service m4_6)] (fun r X => r = .p (.i .i64 z) ∧ X = [.cells 187 [.p (.l (List.map enc_api_Setting o0_0_2)), .mp 1, .mp 2, .mp 3, .mp 4], .mp true (encM Dt.s enc_api_File m1_3), .mp false (encM Dt.s ecI_i64 m2_4), .mp true (encM Dt.s enc_api_Setting m3_5), .mp true (encM Dt.s enc_api_Service m4_6)]) := by
 unfold disk_bench_fault_i1 at hm
 refine Does.of_wp 5 97 [.tmp 4] Tryz.func153 rfl (by decide) rfl rfl (Nat.le_of_ble_eq_true rfl) fun B => ?_
 refine qS ?_
 refine qS ?_
 refine Wp.seqW fun K3 hK3 hW3 => ?_
 obtain ⟨k_41, hk_41, hm⟩ := jp_elim hm
 have hcut3 : ∀ s, k_41 s = some z → K3 [(5, .p (.b s.1)), (6, .p (.i .i64 s.2.1)), (7, .p (.i .i64 s.2.2))] [.cells 187 [.p (.l (List.map enc_api_Setting o0_0_2)), .mp 1, .mp 2, .mp 3, .mp 4], .mp true (encM Dt.s enc_api_File m1_3), .mp false (encM Dt.s ecI_i64 m2_4), .mp true (encM Dt.s enc_api_Setting m3_5), .mp true (encM Dt.s enc_api_Service m4_6)] := by
  intro s hs
  have hm := hk_41 _ hs
  clear hs
  obtain ⟨gone_38, many_39, most_40⟩ := s
  try dsimp only at hm
  try dsimp only
  refine hK3 _ _ ?_
  refine Wp.seqW fun K4 hK4 hW4 => ?_
  refine qS ?_
  refine cM hm (fun hc6 hm => ?_) (fun hc6 hm => ?_)
  ·refine qS ?_
   refine Wp.ret ?_
   refine retQ_ret ?_
   cases hm
   exact fse4
  ·refine Wp.skip ?_
   refine hK4 _ _ ?_
   refine Wp.seqW fun K8 hK8 hW8 => ?_
   refine qS ?_
   refine cM hm (fun hc10 hm => ?_) (fun hc10 hm => ?_)
   ·refine qS ?_
    refine Wp.ret ?_
    refine retQ_ret ?_
    cases hm
    exact fse4
   ·refine Wp.skip ?_
    refine hK8 _ _ ?_
    refine qS ?_
    refine Wp.ret ?_
    refine retQ_ret ?_
    cases hm
    exact fse4
 clear hK3 hk_41
 refine qS ?_
 refine Wp.block ?_
 refine qS ?_
 refine cM hm (fun hc15 hm => ?_) (fun hc15 hm => ?_)
 ·refine Wp.seqW fun K16 hK16 hW16 => ?_
  obtain ⟨r_42, hr_42, hm⟩ := call_elim hm
  refine Wp.seqR fun K17 hK17 => ?_
  simp only [go_sem, simprocAttr]
  try refine ⟨sd, ?_⟩
  refine Rg.callR (av := ?av18) (g := true) [0, 1, 2, 3, 4] (fun hg => ok_disk_bench_conflict_i1 c_1.File.Path o0_0_2 m1_3 m2_4 m3_5 m4_6 _ hr_42) si si si si sg sg sg ?cont18
  simp only [go_sem, simprocAttr]
  first | apply hK17 | refine ⟨sd, hK17 _ _ ?_⟩
  refine cM hm (fun hc19 hm => ?_) (fun hc19 hm => ?_)
  ·refine qS ?_
   refine Wp.ret ?_
   refine retQ_ret ?_
   cases hm
   exact fse4
  ·refine Wp.skip ?_
   refine hK16 _ _ ?_
   obtain ⟨r_43, hr_43, hm⟩ := call_elim hm
   refine Wp.seqD (plan := [(0, none), (1, none), (2, none), (3, none), (4, none), (5, none), (6, none), (7, some [])]) (by kernel_rfl) rfl (by kernel_rfl) fun K21 hK21 => ?_
   simp only [go_sem, simprocAttr]
   try refine ⟨sd, ?_⟩
   refine Dr.callE (av := ?av22) (o := ?o22) [1] (ok_disk_missing_api_File_i1 c_1.File.Path m1_3 _ hr_43) si si si si si sg sg sg sg ?cont22
   simp only [go_sem, simprocAttr]
   first | apply hK21 | refine ⟨sd, hK21 _ _ ?_⟩
   refine cM hm (fun hc23 hm => ?_) (fun hc23 hm => ?_)
   ·refine qR ?_
    refine hW3 _ _ _ _ ?_ (hcut3 (false, IntKind.i64.wrap ((m1_3.length : Int) + 1), 2000) hm)
    exact fse4
   ·refine Wp.skip ?_
    refine hW3 _ _ _ _ ?_ (hcut3 (false, 0, 1) hm)
    exact fse4
 ·refine qS ?_
  refine cM hm (fun hc26 hm => ?_) (fun hc26 hm => ?_)
  ·obtain ⟨r_44, hr_44, hm⟩ := call_elim hm
   refine Wp.regD (plan := [(0, none), (1, none), (2, none), (3, none), (4, none), (5, none), (6, none), (7, some []), (8, none)]) (by kernel_rfl) rfl (by kernel_rfl) fun K27 hK27 => ?_
   simp only [go_sem, simprocAttr]
   try refine ⟨sd, ?_⟩
   refine Dr.callE (av := ?av28) (o := ?o28) [1] (ok_disk_missing_api_File_i1 c_1.File.Path m1_3 _ hr_44) si si si si si sg sg sg sg ?cont28
   simp only [go_sem, simprocAttr]
   first | apply hK27 | refine ⟨sd, hK27 _ _ ?_⟩
   refine hW3 _ _ _ _ ?_ (hcut3 (r_44, 0, 1) hm)
   exact fse4
  ·refine qS ?_
   refine cM hm (fun hc30 hm => ?_) (fun hc30 hm => ?_)
   ·obtain ⟨r_45, hr_45, hm⟩ := call_elim hm
    refine Wp.seqD (plan := [(0, none), (1, none), (2, none), (3, none), (4, none), (5, none), (6, none), (7, some [])]) (by kernel_rfl) rfl (by kernel_rfl) fun K31 hK31 => ?_
    simp only [go_sem, simprocAttr]
    try refine ⟨sd, ?_⟩
    refine Dr.callE (av := ?av32) (o := ?o32) [3] (ok_disk_missing_api_Setting_i1 c_1.Setting.Key m3_5 _ hr_45) si si si si si sg sg sg sg ?cont32
    simp only [go_sem, simprocAttr]
    first | apply hK31 | refine ⟨sd, hK31 _ _ ?_⟩
    refine cM hm (fun hc33 hm => ?_) (fun hc33 hm => ?_)
    ·refine qR ?_
     refine hW3 _ _ _ _ ?_ (hcut3 (false, IntKind.i64.wrap ((m3_5.length : Int) + 1), 2000) hm)
     exact fse4
    ·refine Wp.skip ?_
     refine hW3 _ _ _ _ ?_ (hcut3 (false, 0, 1) hm)
     exact fse4
   ·refine qS ?_
    refine cM hm (fun hc36 hm => ?_) (fun hc36 hm => ?_)
    ·obtain ⟨r_46, hr_46, hm⟩ := call_elim hm
     refine Wp.regD (plan := [(0, none), (1, none), (2, none), (3, none), (4, none), (5, none), (6, none), (7, some []), (8, none)]) (by kernel_rfl) rfl (by kernel_rfl) fun K37 hK37 => ?_
     simp only [go_sem, simprocAttr]
     try refine ⟨sd, ?_⟩
     refine Dr.callE (av := ?av38) (o := ?o38) [3] (ok_disk_missing_api_Setting_i1 c_1.Setting.Key m3_5 _ hr_46) si si si si si sg sg sg sg ?cont38
     simp only [go_sem, simprocAttr]
     first | apply hK37 | refine ⟨sd, hK37 _ _ ?_⟩
     refine hW3 _ _ _ _ ?_ (hcut3 (r_46, 0, 1) hm)
     exact fse4
    ·refine qS ?_
     refine cM hm (fun hc40 hm => ?_) (fun hc40 hm => ?_)
     ·obtain ⟨r_47, hr_47, hm⟩ := call_elim hm
      refine Wp.seqD (plan := [(0, none), (1, none), (2, none), (3, none), (4, none), (5, none), (6, none), (7, some [])]) (by kernel_rfl) rfl (by kernel_rfl) fun K41 hK41 => ?_
      simp only [go_sem, simprocAttr]
      try refine ⟨sd, ?_⟩
      refine Dr.callE (av := ?av42) (o := ?o42) [4] (ok_disk_missing_api_Service_i1 c_1.Service.Name m4_6 _ hr_47) si si si si si sg sg sg sg ?cont42
      simp only [go_sem, simprocAttr]
      first | apply hK41 | refine ⟨sd, hK41 _ _ ?_⟩
      refine cM hm (fun hc43 hm => ?_) (fun hc43 hm => ?_)
      ·refine qR ?_
       refine hW3 _ _ _ _ ?_ (hcut3 (false, IntKind.i64.wrap ((m4_6.length : Int) + 1), 100) hm)
       exact fse4
      ·refine Wp.skip ?_
       refine hW3 _ _ _ _ ?_ (hcut3 (false, 0, 1) hm)
       exact fse4
     ·refine qS ?_
      refine cM hm (fun hc46 hm => ?_) (fun hc46 hm => ?_)
      ·obtain ⟨r_48, hr_48, hm⟩ := call_elim hm
       refine Wp.regD (plan := [(0, none), (1, none), (2, none), (3, none), (4, none), (5, none), (6, none), (7, some []), (8, none)]) (by kernel_rfl) rfl (by kernel_rfl) fun K47 hK47 => ?_
       simp only [go_sem, simprocAttr]
       try refine ⟨sd, ?_⟩
       refine Dr.callE (av := ?av48) (o := ?o48) [4] (ok_disk_missing_api_Service_i1 c_1.Service.Name m4_6 _ hr_48) si si si si si sg sg sg sg ?cont48
       simp only [go_sem, simprocAttr]
       first | apply hK47 | refine ⟨sd, hK47 _ _ ?_⟩
       refine hW3 _ _ _ _ ?_ (hcut3 (r_48, 0, 1) hm)
       exact fse4
      ·refine Wp.skip ?_
       refine hW3 _ _ _ _ ?_ (hcut3 (false, 0, 1) hm)
       exact fse4
theorem ok_disk_bench_remove_i1 (path_1 : Str) (o0_0_2 : List api_Setting) (m1_3 : List (Str × api_File)) (m2_4 : List (Str × Int)) (m3_5 : List (Str × api_Setting)) (m4_6 : List (Str × api_Service)) (z : (List (Str × api_File)) × (List (Str × Int))) (hm : disk_bench_remove_i1 path_1 o0_0_2 m1_3 m2_4 m3_5 m4_6 = some z) : Does Tryz.prog 154 [.ptr 0 0, .p (.s path_1)] [.cells 187 [.p (.l (List.map enc_api_Setting o0_0_2)), .mp 1, .mp 2, .mp 3, .mp 4], .mp true (encM Dt.s enc_api_File m1_3), .mp false (encM Dt.s ecI_i64 m2_4), .mp true (encM Dt.s enc_api_Setting m3_5), .mp true (encM Dt.s enc_api_Service m4_6)] (fun r X => r = .tup [] ∧ X = [.cells 187 [.p (.l (List.map enc_api_Setting o0_0_2)), .mp 1, .mp 2, .mp 3, .mp 4], .mp true (encM Dt.s enc_api_File z.1), .mp false (encM Dt.s ecI_i64 z.2), .mp true (encM Dt.s enc_api_Setting m3_5), .mp true (encM Dt.s enc_api_Service m4_6)]) := by
 unfold disk_bench_remove_i1 at hm
 refine Does.of_wp 5 12 [] Tryz.func154 rfl (by decide) rfl rfl (Nat.le_of_ble_eq_true rfl) fun B => ?_
 have hp_9 := mdel_enc (e := enc_api_File) keq_s m1_3 path_1
 refine Wp.seqR fun K1 hK1 => ?_
 simp only [go_sem, simprocAttr, hp_9]
 first | apply hK1 | refine ⟨sd, hK1 _ _ ?_⟩
 obtain ⟨r_10, hr_10, hm⟩ := call_elim hm
 refine Wp.region fun K2 hK2 => ?_
 simp only [go_sem, simprocAttr]
 try refine ⟨sd, ?_⟩
 refine Rg.callO (av := ?av3) [0, 1, 2, 3, 4] (ok_disk_bench_count_i1 path_1 (-1) o0_0_2 (adel m1_3 path_1) m2_4 m3_5 m4_6 _ hr_10) si si si sg sg ?cont3
 rintro _ _ ⟨rfl, rfl⟩ hv3
 simp only [go_sem, simprocAttr]
 first | apply hK2 | refine ⟨sd, hK2 _ _ ?_⟩
 refine retQ_normal ?_
 cases hm
 exact fse4
theorem ok_disk_bench_do_i1 (c_1 : api_Change) (o0_0_2 : List api_Setting) (m1_3 : List (Str × api_File)) (m2_4 : List (Str × Int)) (m3_5 : List (Str × api_Setting)) (m4_6 : List (Str × api_Service)) (z : Int × (List (Str × api_File)) × (List (Str × Int)) × (List (Str × api_Setting)) × (List (Str × api_Service))) (hm : disk_bench_do_i1 c_1 o0_0_2 m1_3 m2_4 m3_5 m4_6 = some z) : Does Tryz.prog 109 [.ptr 0 0, .agg [.p (.i .i64 c_1.Kind), .p (.s c_1.File.Path), .p (.s c_1.File.Data), .p (.b c_1.File.Runs), .p (.s c_1.Setting.Key), .p (.s c_1.Setting.Value), .p (.s c_1.Service.Name), .p (.s c_1.Service.Path), .p (.b c_1.Service.Auto), .p (.b c_1.Service.On)]] [.cells 187 [.p (.l (List.map enc_api_Setting o0_0_2)), .mp 1, .mp 2, .mp 3, .mp 4], .mp true (encM Dt.s enc_api_File m1_3), .mp false (encM Dt.s ecI_i64 m2_4), .mp true (encM Dt.s enc_api_Setting m3_5), .mp true (encM Dt.s enc_api_Service m4_6)] (fun r X => r = .p (.i .i64 z.1) ∧ X = [.cells 187 [.p (.l (List.map enc_api_Setting o0_0_2)), .mp 1, .mp 2, .mp 3, .mp 4], .mp true (encM Dt.s enc_api_File z.2.1), .mp false (encM Dt.s ecI_i64 z.2.2.1), .mp true (encM Dt.s enc_api_Setting z.2.2.2.1), .mp true (encM Dt.s enc_api_Service z.2.2.2.2)]) := by
 unfold disk_bench_do_i1 at hm
 refine Does.of_wp 5 73 [.tmp 4] Tryz.func109 rfl (by decide) rfl rfl (Nat.le_of_ble_eq_true rfl) fun B => ?_
 refine qS ?_
 refine Wp.seqW fun K2 hK2 hW2 => ?_
 obtain ⟨r_17, hr_17, hm⟩ := call_elim hm
 refine Wp.seqR fun K3 hK3 => ?_
 simp only [go_sem, simprocAttr]
 try refine ⟨sd, ?_⟩
 refine Rg.callX (av := ?av4) (g := true) (fun hg => ok_disk_CheckChange c_1 _ hr_17) si si si sg si ?cont4
 intro hv4
 simp only [go_sem, simprocAttr]
 first | apply hK3 | refine ⟨sd, hK3 _ _ ?_⟩
 refine qS ?_
 refine cM hm (fun hc6 hm => ?_) (fun hc6 hm => ?_)
 ·refine qS ?_
  refine Wp.ret ?_
  refine retQ_ret ?_
  cases hm
  exact fse4
 ·refine Wp.skip ?_
  refine hK2 _ _ ?_
  refine Wp.seqW fun K8 hK8 hW8 => ?_
  obtain ⟨r_18, hr_18, hm⟩ := call_elim hm
  refine Wp.seqR fun K9 hK9 => ?_
  simp only [go_sem, simprocAttr]
  try refine ⟨sd, ?_⟩
  refine Rg.callR (av := ?av10) (g := true) [0, 1, 2, 3, 4] (fun hg => ok_disk_bench_fault_i1 c_1 o0_0_2 m1_3 m2_4 m3_5 m4_6 _ hr_18) si si si si sg sg sg ?cont10
  simp only [go_sem, simprocAttr]
  first | apply hK9 | refine ⟨sd, hK9 _ _ ?_⟩
  refine qS ?_
  refine cM hm (fun hc12 hm => ?_) (fun hc12 hm => ?_)
  ·refine qS ?_
   refine Wp.ret ?_
   refine retQ_ret ?_
   cases hm
   exact fse4
  ·refine Wp.skip ?_
   refine hK8 _ _ ?_
   refine Wp.seqW fun K14 hK14 hW14 => ?_
   refine qS ?_
   refine Wp.block ?_
   refine qS ?_
   refine cM hm (fun hc17 hm => ?_) (fun hc17 hm => ?_)
   ·obtain ⟨r_19, hr_19, hm⟩ := call_elim hm
    refine Wp.region fun K18 hK18 => ?_
    simp only [go_sem, simprocAttr]
    try refine ⟨sd, ?_⟩
    refine Rg.callO (av := ?av19) [0, 1, 2, 3, 4] (ok_disk_bench_put_i1 c_1.File o0_0_2 m1_3 m2_4 m3_5 m4_6 _ hr_19) si si si sg sg ?cont19
    rintro _ _ ⟨rfl, rfl⟩ hv19
    simp only [go_sem, simprocAttr]
    first | apply hK18 | refine ⟨sd, hK18 _ _ ?_⟩
    refine hK14 _ _ ?_
    refine qS ?_
    refine Wp.ret ?_
    refine retQ_ret ?_
    cases hm
    exact fse4
   ·refine qS ?_
    refine cM hm (fun hc22 hm => ?_) (fun hc22 hm => ?_)
    ·obtain ⟨r_20, hr_20, hm⟩ := call_elim hm
     refine Wp.region fun K23 hK23 => ?_
     simp only [go_sem, simprocAttr]
     try refine ⟨sd, ?_⟩
     refine Rg.callO (av := ?av24) [0, 1, 2, 3, 4] (ok_disk_bench_remove_i1 c_1.File.Path o0_0_2 m1_3 m2_4 m3_5 m4_6 _ hr_20) si si si sg sg ?cont24
     rintro _ _ ⟨rfl, rfl⟩ hv24
     simp only [go_sem, simprocAttr]
     first | apply hK23 | refine ⟨sd, hK23 _ _ ?_⟩
     refine hK14 _ _ ?_
     refine qS ?_
     refine Wp.ret ?_
     refine retQ_ret ?_
     cases hm
     exact fse4
    ·refine qS ?_
     refine cM hm (fun hc27 hm => ?_) (fun hc27 hm => ?_)
     ·obtain ⟨c_22, hm⟩ := chk_elim hm
      have hp_21 := mset_enc (e := enc_api_Setting) keq_s m3_5 c_1.Setting.Key c_1.Setting
      simp only [enc_api_Setting] at hp_21
      refine Wp.regD (plan := [(0, none), (1, none), (2, none), (3, none), (4, none), (5, none), (6, none), (7, none), (8, none), (9, some [])]) (by kernel_rfl) rfl (by kernel_rfl) fun K28 hK28 => ?_
      simp only [go_sem, simprocAttr, hp_21]
      first | apply hK28 | refine ⟨by first | exact sd | ((repeat' apply And.intro) <;> first | assumption | omega | (simp only [List.length_append, List.length_map, List.length_cons, List.length_nil, List.length_set, List.length_replicate] at c_22 ⊢; omega)), hK28 _ _ ?_⟩
      refine hK14 _ _ ?_
      refine qS ?_
      refine Wp.ret ?_
      refine retQ_ret ?_
      cases hm
      exact fse4
     ·refine qS ?_
      refine cM hm (fun hc31 hm => ?_) (fun hc31 hm => ?_)
      ·have hp_23 := mdel_enc (e := enc_api_Setting) keq_s m3_5 c_1.Setting.Key
       refine Wp.regD (plan := [(0, none), (1, none), (2, none), (3, none), (4, none), (5, none), (6, none), (7, some [])]) (by kernel_rfl) rfl (by kernel_rfl) fun K32 hK32 => ?_
       simp only [go_sem, simprocAttr, hp_23]
       first | apply hK32 | refine ⟨sd, hK32 _ _ ?_⟩
       refine hK14 _ _ ?_
       refine qS ?_
       refine Wp.ret ?_
       refine retQ_ret ?_
       cases hm
       exact fse4
      ·refine qS ?_
       refine cM hm (fun hc35 hm => ?_) (fun hc35 hm => ?_)
       ·obtain ⟨c_25, hm⟩ := chk_elim hm
        have hp_24 := mset_enc (e := enc_api_Service) keq_s m4_6 c_1.Service.Name c_1.Service
        simp only [enc_api_Service] at hp_24
        refine Wp.regD (plan := [(0, none), (1, none), (2, none), (3, none), (4, none), (5, none), (6, none), (7, none), (8, none), (9, some [])]) (by kernel_rfl) rfl (by kernel_rfl) fun K36 hK36 => ?_
        simp only [go_sem, simprocAttr, hp_24]
        first | apply hK36 | refine ⟨by first | exact sd | ((repeat' apply And.intro) <;> first | assumption | omega | (simp only [List.length_append, List.length_map, List.length_cons, List.length_nil, List.length_set, List.length_replicate] at c_25 ⊢; omega)), hK36 _ _ ?_⟩
        refine hK14 _ _ ?_
        refine qS ?_
        refine Wp.ret ?_
        refine retQ_ret ?_
        cases hm
        exact fse4
       ·refine qS ?_
        refine cM hm (fun hc39 hm => ?_) (fun hc39 hm => ?_)
        ·have hp_26 := mdel_enc (e := enc_api_Service) keq_s m4_6 c_1.Service.Name
         refine Wp.regD (plan := [(0, none), (1, none), (2, none), (3, none), (4, none), (5, none), (6, none), (7, some [])]) (by kernel_rfl) rfl (by kernel_rfl) fun K40 hK40 => ?_
         simp only [go_sem, simprocAttr, hp_26]
         first | apply hK40 | refine ⟨sd, hK40 _ _ ?_⟩
         refine hK14 _ _ ?_
         refine qS ?_
         refine Wp.ret ?_
         refine retQ_ret ?_
         cases hm
         exact fse4
        ·refine Wp.skip ?_
         refine hK14 _ _ ?_
         refine qS ?_
         refine Wp.ret ?_
         refine retQ_ret ?_
         cases hm
         exact fse4
theorem ok_maps_Keys_map_string_api_File_string_api_File_i1 (m0_1 : List (Str × api_File)) (z : Unit) (hm : maps_Keys_map_string_api_File_string_api_File_i1 m0_1 = some z) : Does Tryz.prog 196 [.mp 0] [.mp true (encM Dt.s enc_api_File m0_1)] (fun r X => r = .fn 218 [.ptr 1 0] ∧ X = [.mp true (encM Dt.s enc_api_File m0_1), .cells 145 [.mp 0]]) := by
 unfold maps_Keys_map_string_api_File_string_api_File_i1 at hm
 refine Does.of_wp 2 4 [.tmp 2] Tryz.func196 rfl (by decide) rfl rfl (Nat.le_of_ble_eq_true rfl) fun B => ?_
 refine qS ?_
 refine qS ?_
 refine Wp.ret ?_
 refine retQ_ret ?_
 cases hm
 exact fse4
theorem ok_slices_Sorted_keys_218 (m1 : List (Str × api_File)) (z : List Str) (hm : slices_Sorted_keys_218 m1 = some z) : Does Tryz.prog 195 [.fn 218 [.ptr 0 0]] [.cells 145 [.mp 1], .mp true (encM Dt.s enc_api_File m1)] (fun r X => r = .p (.l (List.map ecS z)) ∧ X = [.cells 145 [.mp 1], .mp true (encM Dt.s enc_api_File m1)]) := by
 cases hm
 exact Does.sortedKeys Tryz.sortedL Tryz.keys218L ⟨_, Tryz.func195, by kernel_rfl, by kernel_rfl⟩ (fun m => ⟨fun blk off cap ss W hH hblk hsz => callsIn_wide.2 (AnyM.slices_Sort_string Tryz.sortL blk off cap ss W hH hblk hsz), fun p cap W => callsIn_wide.2 (AnyM.slices_Sort_string_none Tryz.sortL p cap W)⟩) (enters_of Tryz.func164 (by kernel_rfl) rfl) (enters_of Tryz.func218 (by kernel_rfl) rfl) rfl 145 true enc_api_File m1
theorem ok_disk_inOrder_api_File_i1 (m0_1 : List (Str × api_File)) (z : List api_File) (hm : disk_inOrder_api_File_i1 m0_1 = some z) : Does Tryz.prog 157 [.mp 0] [.mp true (encM Dt.s enc_api_File m0_1)] (fun r X => r = .p (.l (List.map enc_api_File z)) ∧ X = [.mp true (encM Dt.s enc_api_File m0_1)]) := by
 unfold disk_inOrder_api_File_i1 at hm
 refine Does.of_wp 1 22 [.tmp 2] Tryz.func157 rfl (by decide) rfl rfl (Nat.le_of_ble_eq_true rfl) fun B => ?_
 refine qS ?_
 refine qS ?_
 refine Wp.seqW fun K3 hK3 hW3 => ?_
 obtain ⟨k_68, hk_68, hm⟩ := jp_elim hm
 have hcut3 : ∀ s, k_68 s = some z → K3 [(3, .buf 2)] [.mp true (encM Dt.s enc_api_File m0_1), .cells 145 [.top], .buf 37 3 (List.map enc_api_File s)] := by
  intro o2_67 hs
  have hm := hk_68 _ hs
  clear hs
  try dsimp only at hm
  try dsimp only
  refine hK3 _ _ ?_
  refine qS ?_
  refine Wp.ret ?_
  refine retQ_ret ?_
  cases hm
  exact fse4
 clear hK3 hk_68
 obtain ⟨r_69, hr_69, hm⟩ := call_elim hm
 obtain ⟨r_70, hr_70, hm⟩ := call_elim hm
 refine Wp.seqR fun K5 hK5 => ?_
 simp only [go_sem, simprocAttr]
 try refine ⟨sd, ?_⟩
 refine Rg.callO (av := ?av6) [0] (ok_maps_Keys_map_string_api_File_string_api_File_i1 m0_1 _ hr_69) si si si sg sg ?cont6
 rintro _ _ ⟨rfl, rfl⟩ hv6
 simp only [go_sem, simprocAttr]
 try refine ⟨sd, ?_⟩
 refine Rg.callR (av := ?av7) (g := true) [1, 0] (fun hg => ok_slices_Sorted_keys_218 m0_1 _ hr_70) si si si si sg sg sg ?cont7
 simp only [go_sem, simprocAttr]
 first | apply hK5 | refine ⟨sd, hK5 _ _ ?_⟩
 refine Wp.block ?_
 refine Wp.adopt 3 37 3 rfl ?_
 simp only [go_sem, simprocAttr]
 obtain ⟨k_82, hk_82, hm⟩ := forL_cont hm
 refine Wp.fact 8 fun hl_85 => ?_
 replace hl_85 : r_70.length ≤ 274877906944 := by
  simp only [go_sem, simprocAttr, List.length_map] at hl_85
  omega
 refine Wp.forL (fun i_84 s => [(0, .mp 0), (3, .buf 2), (8, .p (.l (List.map ecS r_70))), (9, .p (.i .i64 (r_70.length : Int))), (10, .p (.i .i64 (i_84 : Int)))]) (fun i_84 s => [.mp true (encM Dt.s enc_api_File m0_1), .cells 145 [.mp 0], .buf 37 3 (List.map enc_api_File s)]) ?_ hm ?_
 ·
  exact fse4
 clear hm
 intro i_84 o2_77 hii_84 hm
 try dsimp only at hm
 try dsimp only
 refine qS ?_
 refine Wp.seqW fun K9 hK9 hW9 => ?_
 refine Wp.cond rfl ⟨⟩ (fun hc9 => ?_) (fun hc9 => ?_)
 rotate_left
 ·refine Wp.exit ?_
  have hm := hk_82 _ (forL_end hm (ge_nat (by first | exact hc9 | simpa using hc9)))
  try dsimp only at hm
  refine hW3 _ _ _ _ ?_ (hcut3 o2_77 hm)
  exact fse4
 have hlt9 := lt_nat (by first | exact hc9 | simpa using hc9)
 have hw9 := wrap_succ hlt9 hl_85
 obtain ⟨s_86, nx_83, hxs_86, hys_86, hnx_83, hm⟩ := forL_step hm hlt9
 replace hxs_86 := hxs_86 ecS
 refine Wp.skip ?_
 simp only [thenQ]
 refine hK9 _ _ ?_
 refine Wp.seqW fun K10 hK10 hW10 => ?_
 refine Wp.block ?_
 refine Wp.seqR fun K11 hK11 => ?_
 simp only [go_sem, simprocAttr, hw9, hxs_86]
 first | apply hK11 | refine ⟨sd, hK11 _ _ ?_⟩
 obtain ⟨q_87, hq_88, hm⟩ := letv_elim hm
 have hq_88d := mlookD_enc (e := enc_api_File) keq_s m0_1 s_86 (api_File.mk [] [] false)
 have hq_88s := mlook_some (e := enc_api_File) keq_s m0_1 s_86
 simp only [hq_88, enc_api_File, List.map_nil] at hq_88d hq_88s
 obtain ⟨c_89, hm⟩ := chk_elim hm
 refine Wp.region fun K12 hK12 => ?_
 simp only [go_sem, simprocAttr, hw9, hxs_86, hq_88d, hq_88s]
 first | apply hK12 | refine ⟨by first | exact sd | ((repeat' apply And.intro) <;> first | assumption | omega | (simp only [List.length_append, List.length_map, List.length_cons, List.length_nil, List.length_set, List.length_replicate] at c_89 ⊢; omega)), hK12 _ _ ?_⟩
 refine hK10 _ _ ?_
 refine Wp.region fun K13 hK13 => ?_
 simp only [go_sem, simprocAttr, hw9, hxs_86]
 first | apply hK13 | refine ⟨sd, hK13 _ _ ?_⟩
 simp only [thenQ, blockQ, ↓reduceIte]
 refine ⟨o2_77 ++ [(api_File.mk ((q_87.getD (api_File.mk [] [] false)).Path) ((q_87.getD (api_File.mk [] [] false)).Data) ((q_87.getD (api_File.mk [] [] false)).Runs))], hlt9, hnx_83 _ hm, ?_⟩
 simp only [go_sem, simprocAttr, hw9, hxs_86]
 try exact se4
theorem ok_maps_Keys_map_string_api_Setting_string_api_Setting_i1 (m0_1 : List (Str × api_Setting)) (z : Unit) (hm : maps_Keys_map_string_api_Setting_string_api_Setting_i1 m0_1 = some z) : Does Tryz.prog 197 [.mp 0] [.mp true (encM Dt.s enc_api_Setting m0_1)] (fun r X => r = .fn 219 [.ptr 1 0] ∧ X = [.mp true (encM Dt.s enc_api_Setting m0_1), .cells 185 [.mp 0]]) := by
 unfold maps_Keys_map_string_api_Setting_string_api_Setting_i1 at hm
 refine Does.of_wp 2 4 [.tmp 2] Tryz.func197 rfl (by decide) rfl rfl (Nat.le_of_ble_eq_true rfl) fun B => ?_
 refine qS ?_
 refine qS ?_
 refine Wp.ret ?_
 refine retQ_ret ?_
 cases hm
 exact fse4
theorem ok_slices_Sorted_keys_219 (m1 : List (Str × api_Setting)) (z : List Str) (hm : slices_Sorted_keys_219 m1 = some z) : Does Tryz.prog 195 [.fn 219 [.ptr 0 0]] [.cells 185 [.mp 1], .mp true (encM Dt.s enc_api_Setting m1)] (fun r X => r = .p (.l (List.map ecS z)) ∧ X = [.cells 185 [.mp 1], .mp true (encM Dt.s enc_api_Setting m1)]) := by
 cases hm
 exact Does.sortedKeys Tryz.sortedL Tryz.keys219L ⟨_, Tryz.func195, by kernel_rfl, by kernel_rfl⟩ (fun m => ⟨fun blk off cap ss W hH hblk hsz => callsIn_wide.2 (AnyM.slices_Sort_string Tryz.sortL blk off cap ss W hH hblk hsz), fun p cap W => callsIn_wide.2 (AnyM.slices_Sort_string_none Tryz.sortL p cap W)⟩) (enters_of Tryz.func164 (by kernel_rfl) rfl) (enters_of Tryz.func219 (by kernel_rfl) rfl) rfl 185 true enc_api_Setting m1
theorem ok_disk_inOrder_api_Setting_i1 (m0_1 : List (Str × api_Setting)) (z : List api_Setting) (hm : disk_inOrder_api_Setting_i1 m0_1 = some z) : Does Tryz.prog 158 [.mp 0] [.mp true (encM Dt.s enc_api_Setting m0_1)] (fun r X => r = .p (.l (List.map enc_api_Setting z)) ∧ X = [.mp true (encM Dt.s enc_api_Setting m0_1)]) := by
 unfold disk_inOrder_api_Setting_i1 at hm
 refine Does.of_wp 1 22 [.tmp 2] Tryz.func158 rfl (by decide) rfl rfl (Nat.le_of_ble_eq_true rfl) fun B => ?_
 refine qS ?_
 refine qS ?_
 refine Wp.seqW fun K3 hK3 hW3 => ?_
 obtain ⟨k_68, hk_68, hm⟩ := jp_elim hm
 have hcut3 : ∀ s, k_68 s = some z → K3 [(3, .buf 2)] [.mp true (encM Dt.s enc_api_Setting m0_1), .cells 185 [.top], .buf 33 2 (List.map enc_api_Setting s)] := by
  intro o2_67 hs
  have hm := hk_68 _ hs
  clear hs
  try dsimp only at hm
  try dsimp only
  refine hK3 _ _ ?_
  refine qS ?_
  refine Wp.ret ?_
  refine retQ_ret ?_
  cases hm
  exact fse4
 clear hK3 hk_68
 obtain ⟨r_69, hr_69, hm⟩ := call_elim hm
 obtain ⟨r_70, hr_70, hm⟩ := call_elim hm
 refine Wp.seqR fun K5 hK5 => ?_
 simp only [go_sem, simprocAttr]
 try refine ⟨sd, ?_⟩
 refine Rg.callO (av := ?av6) [0] (ok_maps_Keys_map_string_api_Setting_string_api_Setting_i1 m0_1 _ hr_69) si si si sg sg ?cont6
 rintro _ _ ⟨rfl, rfl⟩ hv6
 simp only [go_sem, simprocAttr]
 try refine ⟨sd, ?_⟩
 refine Rg.callR (av := ?av7) (g := true) [1, 0] (fun hg => ok_slices_Sorted_keys_219 m0_1 _ hr_70) si si si si sg sg sg ?cont7
 simp only [go_sem, simprocAttr]
 first | apply hK5 | refine ⟨sd, hK5 _ _ ?_⟩
 refine Wp.block ?_
 refine Wp.adopt 3 33 2 rfl ?_
 simp only [go_sem, simprocAttr]
 obtain ⟨k_82, hk_82, hm⟩ := forL_cont hm
 refine Wp.fact 8 fun hl_85 => ?_
 replace hl_85 : r_70.length ≤ 274877906944 := by
  simp only [go_sem, simprocAttr, List.length_map] at hl_85
  omega
 refine Wp.forL (fun i_84 s => [(0, .mp 0), (3, .buf 2), (8, .p (.l (List.map ecS r_70))), (9, .p (.i .i64 (r_70.length : Int))), (10, .p (.i .i64 (i_84 : Int)))]) (fun i_84 s => [.mp true (encM Dt.s enc_api_Setting m0_1), .cells 185 [.mp 0], .buf 33 2 (List.map enc_api_Setting s)]) ?_ hm ?_
 ·
  exact fse4
 clear hm
 intro i_84 o2_77 hii_84 hm
 try dsimp only at hm
 try dsimp only
 refine qS ?_
 refine Wp.seqW fun K9 hK9 hW9 => ?_
 refine Wp.cond rfl ⟨⟩ (fun hc9 => ?_) (fun hc9 => ?_)
 rotate_left
 ·refine Wp.exit ?_
  have hm := hk_82 _ (forL_end hm (ge_nat (by first | exact hc9 | simpa using hc9)))
  try dsimp only at hm
  refine hW3 _ _ _ _ ?_ (hcut3 o2_77 hm)
  exact fse4
 have hlt9 := lt_nat (by first | exact hc9 | simpa using hc9)
 have hw9 := wrap_succ hlt9 hl_85
 obtain ⟨s_86, nx_83, hxs_86, hys_86, hnx_83, hm⟩ := forL_step hm hlt9
 replace hxs_86 := hxs_86 ecS
 refine Wp.skip ?_
 simp only [thenQ]
 refine hK9 _ _ ?_
 refine Wp.seqW fun K10 hK10 hW10 => ?_
 refine Wp.block ?_
 refine Wp.seqR fun K11 hK11 => ?_
 simp only [go_sem, simprocAttr, hw9, hxs_86]
 first | apply hK11 | refine ⟨sd, hK11 _ _ ?_⟩
 obtain ⟨q_87, hq_88, hm⟩ := letv_elim hm
 have hq_88d := mlookD_enc (e := enc_api_Setting) keq_s m0_1 s_86 (api_Setting.mk [] [])
 have hq_88s := mlook_some (e := enc_api_Setting) keq_s m0_1 s_86
 simp only [hq_88, enc_api_Setting, List.map_nil] at hq_88d hq_88s
 obtain ⟨c_89, hm⟩ := chk_elim hm
 refine Wp.region fun K12 hK12 => ?_
 simp only [go_sem, simprocAttr, hw9, hxs_86, hq_88d, hq_88s]
 first | apply hK12 | refine ⟨by first | exact sd | ((repeat' apply And.intro) <;> first | assumption | omega | (simp only [List.length_append, List.length_map, List.length_cons, List.length_nil, List.length_set, List.length_replicate] at c_89 ⊢; omega)), hK12 _ _ ?_⟩
 refine hK10 _ _ ?_
 refine Wp.region fun K13 hK13 => ?_
 simp only [go_sem, simprocAttr, hw9, hxs_86]
 first | apply hK13 | refine ⟨sd, hK13 _ _ ?_⟩
 simp only [thenQ, blockQ, ↓reduceIte]
 refine ⟨o2_77 ++ [(api_Setting.mk ((q_87.getD (api_Setting.mk [] [])).Key) ((q_87.getD (api_Setting.mk [] [])).Value))], hlt9, hnx_83 _ hm, ?_⟩
 simp only [go_sem, simprocAttr, hw9, hxs_86]
 try exact se4
theorem ok_maps_Keys_map_string_api_Service_string_api_Service_i1 (m0_1 : List (Str × api_Service)) (z : Unit) (hm : maps_Keys_map_string_api_Service_string_api_Service_i1 m0_1 = some z) : Does Tryz.prog 198 [.mp 0] [.mp true (encM Dt.s enc_api_Service m0_1)] (fun r X => r = .fn 220 [.ptr 1 0] ∧ X = [.mp true (encM Dt.s enc_api_Service m0_1), .cells 147 [.mp 0]]) := by
 unfold maps_Keys_map_string_api_Service_string_api_Service_i1 at hm
 refine Does.of_wp 2 4 [.tmp 2] Tryz.func198 rfl (by decide) rfl rfl (Nat.le_of_ble_eq_true rfl) fun B => ?_
 refine qS ?_
 refine qS ?_
 refine Wp.ret ?_
 refine retQ_ret ?_
 cases hm
 exact fse4
theorem ok_slices_Sorted_keys_220 (m1 : List (Str × api_Service)) (z : List Str) (hm : slices_Sorted_keys_220 m1 = some z) : Does Tryz.prog 195 [.fn 220 [.ptr 0 0]] [.cells 147 [.mp 1], .mp true (encM Dt.s enc_api_Service m1)] (fun r X => r = .p (.l (List.map ecS z)) ∧ X = [.cells 147 [.mp 1], .mp true (encM Dt.s enc_api_Service m1)]) := by
 cases hm
 exact Does.sortedKeys Tryz.sortedL Tryz.keys220L ⟨_, Tryz.func195, by kernel_rfl, by kernel_rfl⟩ (fun m => ⟨fun blk off cap ss W hH hblk hsz => callsIn_wide.2 (AnyM.slices_Sort_string Tryz.sortL blk off cap ss W hH hblk hsz), fun p cap W => callsIn_wide.2 (AnyM.slices_Sort_string_none Tryz.sortL p cap W)⟩) (enters_of Tryz.func164 (by kernel_rfl) rfl) (enters_of Tryz.func220 (by kernel_rfl) rfl) rfl 147 true enc_api_Service m1
theorem ok_disk_inOrder_api_Service_i1 (m0_1 : List (Str × api_Service)) (z : List api_Service) (hm : disk_inOrder_api_Service_i1 m0_1 = some z) : Does Tryz.prog 159 [.mp 0] [.mp true (encM Dt.s enc_api_Service m0_1)] (fun r X => r = .p (.l (List.map enc_api_Service z)) ∧ X = [.mp true (encM Dt.s enc_api_Service m0_1)]) := by
 unfold disk_inOrder_api_Service_i1 at hm
 refine Does.of_wp 1 22 [.tmp 2] Tryz.func159 rfl (by decide) rfl rfl (Nat.le_of_ble_eq_true rfl) fun B => ?_
 refine qS ?_
 refine qS ?_
 refine Wp.seqW fun K3 hK3 hW3 => ?_
 obtain ⟨k_68, hk_68, hm⟩ := jp_elim hm
 have hcut3 : ∀ s, k_68 s = some z → K3 [(3, .buf 2)] [.mp true (encM Dt.s enc_api_Service m0_1), .cells 147 [.top], .buf 41 4 (List.map enc_api_Service s)] := by
  intro o2_67 hs
  have hm := hk_68 _ hs
  clear hs
  try dsimp only at hm
  try dsimp only
  refine hK3 _ _ ?_
  refine qS ?_
  refine Wp.ret ?_
  refine retQ_ret ?_
  cases hm
  exact fse4
 clear hK3 hk_68
 obtain ⟨r_69, hr_69, hm⟩ := call_elim hm
 obtain ⟨r_70, hr_70, hm⟩ := call_elim hm
 refine Wp.seqR fun K5 hK5 => ?_
 simp only [go_sem, simprocAttr]
 try refine ⟨sd, ?_⟩
 refine Rg.callO (av := ?av6) [0] (ok_maps_Keys_map_string_api_Service_string_api_Service_i1 m0_1 _ hr_69) si si si sg sg ?cont6
 rintro _ _ ⟨rfl, rfl⟩ hv6
 simp only [go_sem, simprocAttr]
 try refine ⟨sd, ?_⟩
 refine Rg.callR (av := ?av7) (g := true) [1, 0] (fun hg => ok_slices_Sorted_keys_220 m0_1 _ hr_70) si si si si sg sg sg ?cont7
 simp only [go_sem, simprocAttr]
 first | apply hK5 | refine ⟨sd, hK5 _ _ ?_⟩
 refine Wp.block ?_
 refine Wp.adopt 3 41 4 rfl ?_
 simp only [go_sem, simprocAttr]
 obtain ⟨k_82, hk_82, hm⟩ := forL_cont hm
 refine Wp.fact 8 fun hl_85 => ?_
 replace hl_85 : r_70.length ≤ 274877906944 := by
  simp only [go_sem, simprocAttr, List.length_map] at hl_85
  omega
 refine Wp.forL (fun i_84 s => [(0, .mp 0), (3, .buf 2), (8, .p (.l (List.map ecS r_70))), (9, .p (.i .i64 (r_70.length : Int))), (10, .p (.i .i64 (i_84 : Int)))]) (fun i_84 s => [.mp true (encM Dt.s enc_api_Service m0_1), .cells 147 [.mp 0], .buf 41 4 (List.map enc_api_Service s)]) ?_ hm ?_
 ·
  exact fse4
 clear hm
 intro i_84 o2_77 hii_84 hm
 try dsimp only at hm
 try dsimp only
 refine qS ?_
 refine Wp.seqW fun K9 hK9 hW9 => ?_
 refine Wp.cond rfl ⟨⟩ (fun hc9 => ?_) (fun hc9 => ?_)
 rotate_left
 ·refine Wp.exit ?_
  have hm := hk_82 _ (forL_end hm (ge_nat (by first | exact hc9 | simpa using hc9)))
  try dsimp only at hm
  refine hW3 _ _ _ _ ?_ (hcut3 o2_77 hm)
  exact fse4
 have hlt9 := lt_nat (by first | exact hc9 | simpa using hc9)
 have hw9 := wrap_succ hlt9 hl_85
 obtain ⟨s_86, nx_83, hxs_86, hys_86, hnx_83, hm⟩ := forL_step hm hlt9
 replace hxs_86 := hxs_86 ecS
 refine Wp.skip ?_
 simp only [thenQ]
 refine hK9 _ _ ?_
 refine Wp.seqW fun K10 hK10 hW10 => ?_
 refine Wp.block ?_
 refine Wp.seqR fun K11 hK11 => ?_
 simp only [go_sem, simprocAttr, hw9, hxs_86]
 first | apply hK11 | refine ⟨sd, hK11 _ _ ?_⟩
 obtain ⟨q_87, hq_88, hm⟩ := letv_elim hm
 have hq_88d := mlookD_enc (e := enc_api_Service) keq_s m0_1 s_86 (api_Service.mk [] [] false false)
 have hq_88s := mlook_some (e := enc_api_Service) keq_s m0_1 s_86
 simp only [hq_88, enc_api_Service, List.map_nil] at hq_88d hq_88s
 obtain ⟨c_89, hm⟩ := chk_elim hm
 refine Wp.region fun K12 hK12 => ?_
 simp only [go_sem, simprocAttr, hw9, hxs_86, hq_88d, hq_88s]
 first | apply hK12 | refine ⟨by first | exact sd | ((repeat' apply And.intro) <;> first | assumption | omega | (simp only [List.length_append, List.length_map, List.length_cons, List.length_nil, List.length_set, List.length_replicate] at c_89 ⊢; omega)), hK12 _ _ ?_⟩
 refine hK10 _ _ ?_
 refine Wp.region fun K13 hK13 => ?_
 simp only [go_sem, simprocAttr, hw9, hxs_86]
 first | apply hK13 | refine ⟨sd, hK13 _ _ ?_⟩
 simp only [thenQ, blockQ, ↓reduceIte]
 refine ⟨o2_77 ++ [(api_Service.mk ((q_87.getD (api_Service.mk [] [] false false)).Name) ((q_87.getD (api_Service.mk [] [] false false)).Path) ((q_87.getD (api_Service.mk [] [] false false)).Auto) ((q_87.getD (api_Service.mk [] [] false false)).On))], hlt9, hnx_83 _ hm, ?_⟩
 simp only [go_sem, simprocAttr, hw9, hxs_86]
 try exact se4
theorem ok_disk_bench_machine_i1 (o0_0_1 : List api_Setting) (m1_2 : List (Str × api_File)) (m2_3 : List (Str × Int)) (m3_4 : List (Str × api_Setting)) (m4_5 : List (Str × api_Service)) (z : api_Machine) (hm : disk_bench_machine_i1 o0_0_1 m1_2 m2_3 m3_4 m4_5 = some z) : Does Tryz.prog 113 [.ptr 0 0] [.cells 187 [.p (.l (List.map enc_api_Setting o0_0_1)), .mp 1, .mp 2, .mp 3, .mp 4], .mp true (encM Dt.s enc_api_File m1_2), .mp false (encM Dt.s ecI_i64 m2_3), .mp true (encM Dt.s enc_api_Setting m3_4), .mp true (encM Dt.s enc_api_Service m4_5)] (fun r X => r = .agg [.p (.l (List.map enc_api_Setting z.Facts)), .p (.l (List.map enc_api_File z.Files)), .p (.l (List.map enc_api_Setting z.Settings)), .p (.l (List.map enc_api_Service z.Services))] ∧ X = [.cells 187 [.p (.l (List.map enc_api_Setting o0_0_1)), .mp 1, .mp 2, .mp 3, .mp 4], .mp true (encM Dt.s enc_api_File m1_2), .mp false (encM Dt.s ecI_i64 m2_3), .mp true (encM Dt.s enc_api_Setting m3_4), .mp true (encM Dt.s enc_api_Service m4_5)]) := by
 unfold disk_bench_machine_i1 at hm
 refine Does.of_wp 5 24 [.cell 2 26] Tryz.func113 rfl (by decide) rfl rfl (Nat.le_of_ble_eq_true rfl) fun B => ?_
 refine qS ?_
 obtain ⟨r_20, hr_20, hm⟩ := call_elim hm
 obtain ⟨r_21, hr_21, hm⟩ := call_elim hm
 obtain ⟨r_22, hr_22, hm⟩ := call_elim hm
 obtain ⟨r_23, hr_23, hm⟩ := call_elim hm
 refine Wp.seqD (plan := [(0, none), (1, none), (2, none), (3, none), (5, none), (6, none), (7, none), (8, none), (10, none), (11, none), (12, none), (13, none), (15, none), (16, none), (17, none), (18, none), (4, some [5, 6, 7, 8, 10, 11, 12, 13, 15, 16, 17, 18]), (9, some [10, 11, 12, 13, 15, 16, 17, 18]), (14, some [15, 16, 17, 18]), (19, some []), (20, none), (21, some [])]) (by kernel_rfl) rfl (by kernel_rfl) fun K2 hK2 => ?_
 simp only [go_sem, simprocAttr]
 try refine ⟨sd, ?_⟩
 refine Dr.callE (av := ?av3) (o := ?o3) [] (ok_slices_Clone_api_Setting_api_Setting o0_0_1 _ hr_20) si si si si si sg sg sg sg ?cont3
 simp only [go_sem, simprocAttr]
 try refine ⟨sd, ?_⟩
 refine Dr.callE (av := ?av4) (o := ?o4) [1] (ok_disk_inOrder_api_File_i1 m1_2 _ hr_21) si si si si si sg sg sg sg ?cont4
 simp only [go_sem, simprocAttr]
 try refine ⟨sd, ?_⟩
 refine Dr.callE (av := ?av5) (o := ?o5) [3] (ok_disk_inOrder_api_Setting_i1 m3_4 _ hr_22) si si si si si sg sg sg sg ?cont5
 simp only [go_sem, simprocAttr]
 try refine ⟨sd, ?_⟩
 refine Dr.callE (av := ?av6) (o := ?o6) [4] (ok_disk_inOrder_api_Service_i1 m4_5 _ hr_23) si si si si si sg sg sg sg ?cont6
 simp only [go_sem, simprocAttr]
 first | apply hK2 | refine ⟨sd, hK2 _ _ ?_⟩
 refine Wp.ret ?_
 refine retQ_ret ?_
 cases hm
 exact fse4
theorem ok_disk_apply (m_1 : api_Machine) (l_2 : List api_Change) (z : api_Machine × Int) (hm : disk_apply m_1 l_2 = some z) : Does Tryz.prog 117 [.agg [.p (.l (List.map enc_api_Setting m_1.Facts)), .p (.l (List.map enc_api_File m_1.Files)), .p (.l (List.map enc_api_Setting m_1.Settings)), .p (.l (List.map enc_api_Service m_1.Services))], .p (.l (List.map enc_api_Change l_2))] [] (fun r X => r = .tup [.agg [.p (.l (List.map enc_api_Setting z.1.Facts)), .p (.l (List.map enc_api_File z.1.Files)), .p (.l (List.map enc_api_Setting z.1.Settings)), .p (.l (List.map enc_api_Service z.1.Services))], .p (.i .i64 z.2)] ∧ X = []) := by
 unfold disk_apply at hm
 refine Does.of_wp 0 28 [.cell 4 26, .tmp 5] Tryz.func117 rfl (by decide) rfl rfl (Nat.le_of_ble_eq_true rfl) fun B => ?_
 refine qS ?_
 obtain ⟨r_3, hr_3, hm⟩ := call_elim hm
 refine Wp.seqR fun K2 hK2 => ?_
 simp only [go_sem, simprocAttr]
 try refine ⟨sd, ?_⟩
 refine Rg.callO (av := ?av3) [] (ok_disk_benchOf m_1 _ hr_3) si si si sg sg ?cont3
 rintro _ _ ⟨rfl, rfl⟩ hv3
 simp only [go_sem, simprocAttr]
 first | apply hK2 | refine ⟨sd, hK2 _ _ ?_⟩
 refine Wp.seqW fun K4 hK4 hW4 => ?_
 obtain ⟨k_24, hk_24, hm⟩ := jp_elim hm
 have hcut4 : ∀ s, k_24 s = some z → K4 [(4, .ptr 1 0), (6, .ptr 7 0)] [.cells 26 [.top, .top, .top, .top], .cells 26 [.nils, .nils, .nils, .nils], .cells 26 [.top, .top, .top, .top], .mp true (encM Dt.s enc_api_File s.1), .mp false (encM Dt.s ecI_i64 s.2.1), .mp true (encM Dt.s enc_api_Setting s.2.2.1), .mp true (encM Dt.s enc_api_Service s.2.2.2), .cells 187 [.p (.l (List.map enc_api_Setting r_3.2.2.2.2)), .mp 3, .mp 4, .mp 5, .mp 6]] := by
  intro s hs
  have hm := hk_24 _ hs
  clear hs
  obtain ⟨m3_20, m4_21, m5_22, m6_23⟩ := s
  try dsimp only at hm
  try dsimp only
  refine hK4 _ _ ?_
  obtain ⟨r_25, hr_25, hm⟩ := call_elim hm
  refine Wp.seqR fun K5 hK5 => ?_
  simp only [go_sem, simprocAttr]
  try refine ⟨sd, ?_⟩
  refine Rg.callR (av := ?av6) (g := true) [7, 3, 4, 5, 6] (fun hg => ok_disk_bench_machine_i1 r_3.2.2.2.2 m3_20 m4_21 m5_22 m6_23 _ hr_25) si si si si sg sg sg ?cont6
  simp only [go_sem, simprocAttr]
  first | apply hK5 | refine ⟨sd, hK5 _ _ ?_⟩
  refine Wp.ret ?_
  refine retQ_ret ?_
  cases hm
  exact fse4
 clear hK4 hk_24
 refine qS ?_
 refine Wp.block ?_
 obtain ⟨k_36, hk_36, hm⟩ := forL_cont hm
 refine Wp.fact 12 fun hl_39 => ?_
 replace hl_39 : l_2.length ≤ 274877906944 := by
  simp only [go_sem, simprocAttr, List.length_map] at hl_39
  omega
 refine Wp.forL (fun i_38 s => [(4, .ptr 1 0), (6, .ptr 7 0), (12, .p (.l (List.map enc_api_Change l_2))), (13, .p (.i .i64 (l_2.length : Int))), (14, .p (.i .i64 (i_38 : Int)))]) (fun i_38 s => [.cells 26 [.p (.l (List.map enc_api_Setting m_1.Facts)), .p (.l (List.map enc_api_File m_1.Files)), .p (.l (List.map enc_api_Setting m_1.Settings)), .p (.l (List.map enc_api_Service m_1.Services))], .cells 26 [.nils, .nils, .nils, .nils], .cells 26 [.top, .top, .top, .top], .mp true (encM Dt.s enc_api_File s.1), .mp false (encM Dt.s ecI_i64 s.2.1), .mp true (encM Dt.s enc_api_Setting s.2.2.1), .mp true (encM Dt.s enc_api_Service s.2.2.2), .cells 187 [.p (.l (List.map enc_api_Setting r_3.2.2.2.2)), .mp 3, .mp 4, .mp 5, .mp 6]]) ?_ hm ?_
 ·
  exact fse4
 clear hm
 intro i_38 s hii_38 hm
 obtain ⟨m3_30, m4_31, m5_32, m6_33⟩ := s
 try dsimp only at hm
 try dsimp only
 refine qS ?_
 refine Wp.seqW fun K9 hK9 hW9 => ?_
 refine Wp.cond rfl ⟨⟩ (fun hc9 => ?_) (fun hc9 => ?_)
 rotate_left
 ·refine Wp.exit ?_
  have hm := hk_36 _ (forL_end hm (ge_nat (by first | exact hc9 | simpa using hc9)))
  try dsimp only at hm
  refine hW4 _ _ _ _ ?_ (hcut4 (m3_30, m4_31, m5_32, m6_33) hm)
  exact fse4
 have hlt9 := lt_nat (by first | exact hc9 | simpa using hc9)
 have hw9 := wrap_succ hlt9 hl_39
 obtain ⟨c_40, nx_37, hxc_40, hyc_40, hnx_37, hm⟩ := forL_step hm hlt9
 replace hxc_40 := hxc_40 enc_api_Change
 refine Wp.skip ?_
 simp only [thenQ]
 refine hK9 _ _ ?_
 refine Wp.seqW fun K10 hK10 hW10 => ?_
 refine Wp.block ?_
 refine Wp.seqR fun K11 hK11 => ?_
 simp only [go_sem, simprocAttr, hw9, hxc_40]
 first | apply hK11 | refine ⟨sd, hK11 _ _ ?_⟩
 obtain ⟨r_41, hr_41, hm⟩ := call_elim hm
 refine Wp.seqR fun K12 hK12 => ?_
 simp only [go_sem, simprocAttr, hw9, hxc_40]
 try refine ⟨sd, ?_⟩
 refine Rg.callO (av := ?av13) [7, 3, 4, 5, 6] (ok_disk_bench_do_i1 c_40 r_3.2.2.2.2 m3_30 m4_31 m5_32 m6_33 _ hr_41) (by simp only [go_sem, simprocAttr, hw9, hxc_40]; exact Is.mk) (by simp only [go_sem, simprocAttr, hw9, hxc_40]; exact Is.mk) (by simp only [go_sem, simprocAttr, hw9, hxc_40]; exact Is.mk) (by simp only [go_sem, simprocAttr, hw9, hxc_40]) (by simp only [go_sem, simprocAttr, hw9, hxc_40]) ?cont13
 rintro _ _ ⟨rfl, rfl⟩ hv13
 simp only [go_sem, simprocAttr, hw9, hxc_40]
 first | apply hK12 | refine ⟨sd, hK12 _ _ ?_⟩
 refine Wp.seqR fun K14 hK14 => ?_
 simp only [go_sem, simprocAttr, hw9, hxc_40]
 first | apply hK14 | refine ⟨sd, hK14 _ _ ?_⟩
 refine cM hm (fun hc15 hm => ?_) (fun hc15 hm => ?_)
 ·refine Wp.seqR fun K16 hK16 => ?_
  simp only [go_sem, simprocAttr, hw9, hxc_40]
  first | apply hK16 | refine ⟨sd, hK16 _ _ ?_⟩
  refine Wp.ret ?_
  simp only [thenQ, blockQ]
  refine retQ_retE ?_
  cases hm
  simp only [go_sem, simprocAttr, hw9, hxc_40]
  try exact se4
 ·refine Wp.skip ?_
  refine hK10 _ _ ?_
  refine Wp.region fun K17 hK17 => ?_
  simp only [go_sem, simprocAttr, hw9, hxc_40]
  first | apply hK17 | refine ⟨sd, hK17 _ _ ?_⟩
  simp only [thenQ, blockQ, ↓reduceIte]
  refine ⟨(r_41.2.1, r_41.2.2.1, r_41.2.2.2.1, r_41.2.2.2.2), hlt9, hnx_37 _ hm, ?_⟩
  simp only [go_sem, simprocAttr, hw9, hxc_40]
  try exact se4
theorem ok_disk_Apply (m_1 : api_Machine) (l_2 : List api_Change) (z : api_Machine × Int) (hm : disk_Apply m_1 l_2 = some z) : Does Tryz.prog 53 [.agg [.p (.l (List.map enc_api_Setting m_1.Facts)), .p (.l (List.map enc_api_File m_1.Files)), .p (.l (List.map enc_api_Setting m_1.Settings)), .p (.l (List.map enc_api_Service m_1.Services))], .p (.l (List.map enc_api_Change l_2))] [] (fun r X => r = .tup [.agg [.p (.l (List.map enc_api_Setting z.1.Facts)), .p (.l (List.map enc_api_File z.1.Files)), .p (.l (List.map enc_api_Setting z.1.Settings)), .p (.l (List.map enc_api_Service z.1.Services))], .p (.i .i64 z.2)] ∧ X = []) := by
 unfold disk_Apply at hm
 refine Does.of_wp 0 18 [.cell 4 26, .tmp 5] Tryz.func53 rfl (by decide) rfl rfl (Nat.le_of_ble_eq_true rfl) fun B => ?_
 refine qS ?_
 refine Wp.seqW fun K2 hK2 hW2 => ?_
 obtain ⟨r_3, hr_3, hm⟩ := call_elim hm
 refine Wp.seqR fun K3 hK3 => ?_
 simp only [go_sem, simprocAttr]
 try refine ⟨sd, ?_⟩
 refine Rg.callX (av := ?av4) (g := true) (fun hg => ok_disk_Check m_1 _ hr_3) si si si sg si ?cont4
 intro hv4
 simp only [go_sem, simprocAttr]
 first | apply hK3 | refine ⟨sd, hK3 _ _ ?_⟩
 refine qS ?_
 refine cM hm (fun hc6 hm => ?_) (fun hc6 hm => ?_)
 ·refine qS ?_
  refine Wp.ret ?_
  simp only [thenQ, blockQ]
  refine retQ_retE ?_
  cases hm
  exact fse4
 ·refine Wp.skip ?_
  refine hK2 _ _ ?_
  obtain ⟨r_4, hr_4, hm⟩ := call_elim hm
  refine Wp.seqR fun K8 hK8 => ?_
  simp only [go_sem, simprocAttr]
  try refine ⟨sd, ?_⟩
  refine Rg.callF (av := ?av9) (ok_disk_apply m_1 l_2 _ hr_4) si si sg ?cont9
  intro hv9
  simp only [go_sem, simprocAttr]
  first | apply hK8 | refine ⟨sd, hK8 _ _ ?_⟩
  refine Wp.ret ?_
  refine retQ_ret ?_
  cases hm
  exact fse4
end Go.Proofs.YtbfemlilfeahkaaGreatDoor
