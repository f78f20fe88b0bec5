/- That the code does what the models say (part 2). -/
import Derived.Test.YtbfemlilfeahkaaDoorMcWk1
set_option linter.unusedSimpArgs false
set_option linter.unusedVariables false
namespace Go.Proofs.YtbfemlilfeahkaaDoor
open Go.Vc Go.Md
set_option maxRecDepth 100000 in
set_option maxHeartbeats 4000000 in
theorem ok_disk_fileFault (f_1 : api_File) (z : Int) (hm : disk_fileFault f_1 = some z) : Does Tryd.prog 46 [.agg [.p (.s f_1.Path), .p (.s f_1.Data), .p (.b f_1.Runs)]] [] (fun r X => r = .p (.i .i64 z) ∧ X = []) := by
  unfold disk_fileFault at hm
  refine Does.of_wp 0 11 [.tmp 2] Tryd.func46 rfl (by decide) rfl rfl (Nat.le_of_ble_eq_true rfl) fun B => ?_
  refine Wp.seqR fun K1 hK1 => ?_
  simp only [go_sem, simprocAttr]
  first
    | refine hK1 _ _ ?_
    | refine ⟨by (repeat' apply And.intro) <;> first | assumption | omega |  (intros; omega) | (intro hg; simp only [Bool.and_eq_true, Bool.or_eq_true, Bool.not_eq_true', decide_eq_true_eq, decide_eq_false_iff_not] at hg; omega) | (simp only [Bool.and_eq_true, Bool.or_eq_true, Bool.not_eq_true', Bool.and_eq_false_iff, Bool.or_eq_false_iff, Bool.not_eq_false', decide_eq_true_eq, decide_eq_false_iff_not]; omega) | (simp_all; done) | (simp_all <;> intros <;> omega), hK1 _ _ ?_⟩
  refine Wp.seqW fun K2 hK2 hW2 => ?_
  obtain ⟨r_2, hr_2, hm⟩ := call_elim hm
  refine Wp.seqR fun K3 hK3 => ?_
  simp only [go_sem, simprocAttr]
  try refine ⟨by (repeat' apply And.intro) <;> first | assumption | omega |  (intros; omega) | (intro hg; simp only [Bool.and_eq_true, Bool.or_eq_true, Bool.not_eq_true', decide_eq_true_eq, decide_eq_false_iff_not] at hg; omega) | (simp only [Bool.and_eq_true, Bool.or_eq_true, Bool.not_eq_true', Bool.and_eq_false_iff, Bool.or_eq_false_iff, Bool.not_eq_false', decide_eq_true_eq, decide_eq_false_iff_not]; omega) | (simp_all; done) | (simp_all <;> intros <;> omega), ?_⟩
  refine Rg.callX (av := ?av4) (g := true) (fun hg => ok_ver_IsPath f_1.Path _ hr_2) ?ha4 ?hb4 ?hp4 ?hok4 ?hf4 ?cont4
  case ha4 =>
    simp only [go_sem, simprocAttr]
    exact Is.mk
  case hb4 =>
    simp only [go_sem, simprocAttr]
    exact Is.mk
  case hp4 =>
    simp only [go_sem, simprocAttr]
    exact Is.mk
  case hok4 =>
    simp only [go_sem, simprocAttr]
  case hf4 =>
    simp only [go_sem, simprocAttr]
    exact Is.mk
  intro hv4
  simp only [go_sem, simprocAttr]
  first
    | refine hK3 _ _ ?_
    | refine ⟨by (repeat' apply And.intro) <;> first | assumption | omega |  (intros; omega) | (intro hg; simp only [Bool.and_eq_true, Bool.or_eq_true, Bool.not_eq_true', decide_eq_true_eq, decide_eq_false_iff_not] at hg; omega) | (simp only [Bool.and_eq_true, Bool.or_eq_true, Bool.not_eq_true', Bool.and_eq_false_iff, Bool.or_eq_false_iff, Bool.not_eq_false', decide_eq_true_eq, decide_eq_false_iff_not]; omega) | (simp_all; done) | (simp_all <;> intros <;> omega), hK3 _ _ ?_⟩
  refine Wp.cond rfl ⟨⟩ (fun hc5 => ?_) (fun hc5 => ?_)
  · have hm := brT hm (by first | exact hc5 | simpa using hc5)
    refine Wp.seqR fun K6 hK6 => ?_
    simp only [go_sem, simprocAttr]
    first
      | refine hK6 _ _ ?_
      | refine ⟨by (repeat' apply And.intro) <;> first | assumption | omega |  (intros; omega) | (intro hg; simp only [Bool.and_eq_true, Bool.or_eq_true, Bool.not_eq_true', decide_eq_true_eq, decide_eq_false_iff_not] at hg; omega) | (simp only [Bool.and_eq_true, Bool.or_eq_true, Bool.not_eq_true', Bool.and_eq_false_iff, Bool.or_eq_false_iff, Bool.not_eq_false', decide_eq_true_eq, decide_eq_false_iff_not]; omega) | (simp_all; done) | (simp_all <;> intros <;> omega), hK6 _ _ ?_⟩
    refine Wp.ret ?_
    simp only [thenQ, blockQ]
    refine retQ_ret ?_
    cases hm
    simp only [go_sem, simprocAttr]
    try simp [encB, encI_i64, encI_u8, encS, enc_api_File, enc_api_Machine, enc_api_Service, enc_api_Setting, List.map_set, List.map_replicate]
  · have hm := brF hm (by first | exact hc5 | simpa using hc5)
    refine Wp.skip ?_
    simp only [thenQ, blockQ, ↓reduceIte]
    refine hK2 _ _ ?_
    refine Wp.seqW fun K7 hK7 hW7 => ?_
    refine Wp.seqR fun K8 hK8 => ?_
    simp only [go_sem, simprocAttr]
    first
      | refine hK8 _ _ ?_
      | refine ⟨by (repeat' apply And.intro) <;> first | assumption | omega |  (intros; omega) | (intro hg; simp only [Bool.and_eq_true, Bool.or_eq_true, Bool.not_eq_true', decide_eq_true_eq, decide_eq_false_iff_not] at hg; omega) | (simp only [Bool.and_eq_true, Bool.or_eq_true, Bool.not_eq_true', Bool.and_eq_false_iff, Bool.or_eq_false_iff, Bool.not_eq_false', decide_eq_true_eq, decide_eq_false_iff_not]; omega) | (simp_all; done) | (simp_all <;> intros <;> omega), hK8 _ _ ?_⟩
    refine Wp.cond rfl ⟨⟩ (fun hc9 => ?_) (fun hc9 => ?_)
    · have hm := brT hm (by first | exact hc9 | simpa using hc9)
      refine Wp.seqR fun K10 hK10 => ?_
      simp only [go_sem, simprocAttr]
      first
        | refine hK10 _ _ ?_
        | refine ⟨by (repeat' apply And.intro) <;> first | assumption | omega |  (intros; omega) | (intro hg; simp only [Bool.and_eq_true, Bool.or_eq_true, Bool.not_eq_true', decide_eq_true_eq, decide_eq_false_iff_not] at hg; omega) | (simp only [Bool.and_eq_true, Bool.or_eq_true, Bool.not_eq_true', Bool.and_eq_false_iff, Bool.or_eq_false_iff, Bool.not_eq_false', decide_eq_true_eq, decide_eq_false_iff_not]; omega) | (simp_all; done) | (simp_all <;> intros <;> omega), hK10 _ _ ?_⟩
      refine Wp.ret ?_
      simp only [thenQ, blockQ]
      refine retQ_ret ?_
      cases hm
      simp only [go_sem, simprocAttr]
      try simp [encB, encI_i64, encI_u8, encS, enc_api_File, enc_api_Machine, enc_api_Service, enc_api_Setting, List.map_set, List.map_replicate]
    · have hm := brF hm (by first | exact hc9 | simpa using hc9)
      refine Wp.skip ?_
      simp only [thenQ, blockQ, ↓reduceIte]
      refine hK7 _ _ ?_
      refine Wp.seqR fun K11 hK11 => ?_
      simp only [go_sem, simprocAttr]
      first
        | refine hK11 _ _ ?_
        | refine ⟨by (repeat' apply And.intro) <;> first | assumption | omega |  (intros; omega) | (intro hg; simp only [Bool.and_eq_true, Bool.or_eq_true, Bool.not_eq_true', decide_eq_true_eq, decide_eq_false_iff_not] at hg; omega) | (simp only [Bool.and_eq_true, Bool.or_eq_true, Bool.not_eq_true', Bool.and_eq_false_iff, Bool.or_eq_false_iff, Bool.not_eq_false', decide_eq_true_eq, decide_eq_false_iff_not]; omega) | (simp_all; done) | (simp_all <;> intros <;> omega), hK11 _ _ ?_⟩
      refine Wp.ret ?_
      refine retQ_ret ?_
      cases hm
      simp only [go_sem, simprocAttr]
      try simp [encB, encI_i64, encI_u8, encS, enc_api_File, enc_api_Machine, enc_api_Service, enc_api_Setting, List.map_set, List.map_replicate]
set_option maxRecDepth 100000 in
set_option maxHeartbeats 4000000 in
theorem ok_disk_Check_2_i1 (dir_1 : Str) (m1_2 : List (Str × Bool)) (z : Bool) (hm : disk_Check_2_i1 dir_1 m1_2 = some z) : Does Tryd.prog 48 [.p (.s dir_1), .ptr 0 0] [.cells [.mp 1], .mp false (encM Dt.s encB m1_2)] (fun r X => r = .p (.b z) ∧ X = [.cells [.mp 1], .mp false (encM Dt.s encB m1_2)]) := by
  unfold disk_Check_2_i1 at hm
  refine Does.of_wp 2 8 [.tmp 3] Tryd.func48 rfl (by decide) rfl rfl (Nat.le_of_ble_eq_true rfl) fun B => ?_
  refine Wp.seqR fun K1 hK1 => ?_
  simp only [go_sem, simprocAttr]
  first
    | refine hK1 _ _ ?_
    | refine ⟨by (repeat' apply And.intro) <;> first | assumption | omega |  (intros; omega) | (intro hg; simp only [Bool.and_eq_true, Bool.or_eq_true, Bool.not_eq_true', decide_eq_true_eq, decide_eq_false_iff_not] at hg; omega) | (simp only [Bool.and_eq_true, Bool.or_eq_true, Bool.not_eq_true', Bool.and_eq_false_iff, Bool.or_eq_false_iff, Bool.not_eq_false', decide_eq_true_eq, decide_eq_false_iff_not]; omega) | (simp_all; done) | (simp_all <;> intros <;> omega), hK1 _ _ ?_⟩
  obtain ⟨q_5, hq_6, hm⟩ := letv_elim hm
  have hq_6d := mlookD_enc (e := encB) keq_s m1_2 dir_1 false
  have hq_6s := mlook_some (e := encB) keq_s m1_2 dir_1
  simp only [hq_6, encB, List.map_nil] at hq_6d hq_6s
  refine Wp.seqR fun K2 hK2 => ?_
  simp only [go_sem, simprocAttr, hq_6d, hq_6s]
  first
    | refine hK2 _ _ ?_
    | refine ⟨by (repeat' apply And.intro) <;> first | assumption | omega |  (intros; omega) | (intro hg; simp only [Bool.and_eq_true, Bool.or_eq_true, Bool.not_eq_true', decide_eq_true_eq, decide_eq_false_iff_not] at hg; omega) | (simp only [Bool.and_eq_true, Bool.or_eq_true, Bool.not_eq_true', Bool.and_eq_false_iff, Bool.or_eq_false_iff, Bool.not_eq_false', decide_eq_true_eq, decide_eq_false_iff_not]; omega) | (simp_all; done) | (simp_all <;> intros <;> omega), hK2 _ _ ?_⟩
  refine Wp.ret ?_
  refine retQ_ret ?_
  cases hm
  simp only [go_sem, simprocAttr]
  try simp [encB, encI_i64, encI_u8, encS, enc_api_File, enc_api_Machine, enc_api_Service, enc_api_Setting, List.map_set, List.map_replicate]
set_option maxRecDepth 100000 in
set_option maxHeartbeats 4000000 in
theorem ok_disk_above_i1 (path_1 : Str) (m1_2 : List (Str × Bool)) (z : Bool) (hm : disk_above_i1 path_1 m1_2 = some z) : Does Tryd.prog 47 [.p (.s path_1), .fn 48 [.ptr 0 0]] [.cells [.mp 1], .mp false (encM Dt.s encB m1_2)] (fun r X => r = .p (.b z) ∧ X = [.cells [.mp 1], .mp false (encM Dt.s encB m1_2)]) := by
  unfold disk_above_i1 at hm
  refine Does.of_wp 2 24 [.tmp 4] Tryd.func47 rfl (by decide) rfl rfl (Nat.le_of_ble_eq_true rfl) fun B => ?_
  refine Wp.seqR fun K1 hK1 => ?_
  simp only [go_sem, simprocAttr]
  first
    | refine hK1 _ _ ?_
    | refine ⟨by (repeat' apply And.intro) <;> first | assumption | omega |  (intros; omega) | (intro hg; simp only [Bool.and_eq_true, Bool.or_eq_true, Bool.not_eq_true', decide_eq_true_eq, decide_eq_false_iff_not] at hg; omega) | (simp only [Bool.and_eq_true, Bool.or_eq_true, Bool.not_eq_true', Bool.and_eq_false_iff, Bool.or_eq_false_iff, Bool.not_eq_false', decide_eq_true_eq, decide_eq_false_iff_not]; omega) | (simp_all; done) | (simp_all <;> intros <;> omega), hK1 _ _ ?_⟩
  refine Wp.seqW fun K2 hK2 hW2 => ?_
  obtain ⟨k_37, hk_37, hm⟩ := jp_elim hm
  have hcut2 : ∀ s, k_37 s = some z → K2 [] [.cells [.mp 1], .mp false (encM Dt.s encB m1_2)] := by
    intro s hs
    have hm := hk_37 _ hs
    clear hs
    try dsimp only at hm
    try dsimp only
    refine hK2 _ _ ?_
    refine Wp.seqR fun K3 hK3 => ?_
    simp only [go_sem, simprocAttr]
    first
      | refine hK3 _ _ ?_
      | refine ⟨by (repeat' apply And.intro) <;> first | assumption | omega |  (intros; omega) | (intro hg; simp only [Bool.and_eq_true, Bool.or_eq_true, Bool.not_eq_true', decide_eq_true_eq, decide_eq_false_iff_not] at hg; omega) | (simp only [Bool.and_eq_true, Bool.or_eq_true, Bool.not_eq_true', Bool.and_eq_false_iff, Bool.or_eq_false_iff, Bool.not_eq_false', decide_eq_true_eq, decide_eq_false_iff_not]; omega) | (simp_all; done) | (simp_all <;> intros <;> omega), hK3 _ _ ?_⟩
    refine Wp.ret ?_
    refine retQ_ret ?_
    cases hm
    simp only [go_sem, simprocAttr]
    try simp [encB, encI_i64, encI_u8, encS, enc_api_File, enc_api_Machine, enc_api_Service, enc_api_Setting, List.map_set, List.map_replicate]
  clear hK2 hk_37
  refine Wp.seqR fun K4 hK4 => ?_
  simp only [go_sem, simprocAttr]
  first
    | refine hK4 _ _ ?_
    | refine ⟨by (repeat' apply And.intro) <;> first | assumption | omega |  (intros; omega) | (intro hg; simp only [Bool.and_eq_true, Bool.or_eq_true, Bool.not_eq_true', decide_eq_true_eq, decide_eq_false_iff_not] at hg; omega) | (simp only [Bool.and_eq_true, Bool.or_eq_true, Bool.not_eq_true', Bool.and_eq_false_iff, Bool.or_eq_false_iff, Bool.not_eq_false', decide_eq_true_eq, decide_eq_false_iff_not]; omega) | (simp_all; done) | (simp_all <;> intros <;> omega), hK4 _ _ ?_⟩
  refine Wp.block ?_
  obtain ⟨k_42, hk_42, hm⟩ := forL_cont hm
  refine Wp.fact 0 fun hl_45 => ?_
  replace hl_45 : path_1.length ≤ 274877906944 := by
    simp only [go_sem, simprocAttr, List.length_map] at hl_45
    omega
  refine Wp.forL (fun i_44 s => [(0, .p (.s path_1)), (1, .fn 48 [.ptr 0 0]), (5, .p (.i .i64 (i_44 : Int)))]) (fun i_44 s => [.cells [.mp 1], .mp false (encM Dt.s encB m1_2)]) ?_ hm ?_
  ·
    simp only [go_sem, simprocAttr]
    try simp [encB, encI_i64, encI_u8, encS, enc_api_File, enc_api_Machine, enc_api_Service, enc_api_Setting, List.map_set, List.map_replicate]
  clear hm
  intro i_44 s hii_44 hm
  try dsimp only at hm
  try dsimp only
  refine Wp.seqW fun K5 hK5 hW5 => ?_
  refine Wp.seqR fun K6 hK6 => ?_
  simp only [go_sem, simprocAttr]
  first
    | refine hK6 _ _ ?_
    | refine ⟨by (repeat' apply And.intro) <;> first | assumption | omega |  (intros; omega) | (intro hg; simp only [Bool.and_eq_true, Bool.or_eq_true, Bool.not_eq_true', decide_eq_true_eq, decide_eq_false_iff_not] at hg; omega) | (simp only [Bool.and_eq_true, Bool.or_eq_true, Bool.not_eq_true', Bool.and_eq_false_iff, Bool.or_eq_false_iff, Bool.not_eq_false', decide_eq_true_eq, decide_eq_false_iff_not]; omega) | (simp_all; done) | (simp_all <;> intros <;> omega), hK6 _ _ ?_⟩
  refine Wp.cond rfl ⟨⟩ (fun hc5 => ?_) (fun hc5 => ?_)
  rotate_left
  · refine Wp.exit ?_
    have hm := hk_42 _ (forL_end hm (ge_nat (by first | exact hc5 | simpa using hc5)))
    try dsimp only at hm
    simp only [thenQ, blockQ, ↓reduceIte]
    refine hW2 _ _ _ _ ?_ (hcut2 () hm)
    simp only [go_sem, simprocAttr]
    try simp [encB, encI_i64, encI_u8, encS, enc_api_File, enc_api_Machine, enc_api_Service, enc_api_Setting, List.map_set, List.map_replicate]
  have hlt5 := lt_nat (by first | exact hc5 | simpa using hc5)
  have hw5 := wrap_succ hlt5 hl_45
  obtain ⟨c_46, nx_43, hxc_46, hyc_46, hnx_43, hm⟩ := forL_step hm hlt5
  clear hxc_46
  refine Wp.skip ?_
  simp only [thenQ]
  refine hK5 _ _ ?_
  refine Wp.seqW fun K7 hK7 hW7 => ?_
  refine Wp.block ?_
  obtain ⟨c_47, hm⟩ := chk_elim hm
  obtain ⟨r_48, hr_48, hm⟩ := callG_elim hm
  refine Wp.seqR fun K8 hK8 => ?_
  simp only [go_sem, simprocAttr, hw5, hyc_46]
  try refine ⟨by (repeat' apply And.intro) <;> first | assumption | omega | (simp only [List.length_append, List.length_map, List.length_cons, List.length_nil, List.length_set, List.length_replicate] at c_47 ⊢; omega) | (intros; omega) | (intro hg; simp only [Bool.and_eq_true, Bool.or_eq_true, Bool.not_eq_true', decide_eq_true_eq, decide_eq_false_iff_not] at hg; omega) | (simp only [Bool.and_eq_true, Bool.or_eq_true, Bool.not_eq_true', Bool.and_eq_false_iff, Bool.or_eq_false_iff, Bool.not_eq_false', decide_eq_true_eq, decide_eq_false_iff_not]; omega) | (simp_all; done) | (simp_all <;> intros <;> omega), ?_⟩
  refine Rg.callR (av := ?av9) (g := decide ((c_46.toNat : Int) = 47)) [0, 1] (fun hg => ok_disk_Check_2_i1 (List.take i_44 path_1) m1_2 _ (hr_48 hg)) ?ha9 ?hb9 ?hp9 ?hX9 ?hids9 ?hkp9 ?hok9 ?cont9
  case ha9 =>
    simp only [go_sem, simprocAttr, hw5, hyc_46]
    exact Is.mk
  case hb9 =>
    simp only [go_sem, simprocAttr, hw5, hyc_46]
    exact Is.mk
  case hp9 =>
    simp only [go_sem, simprocAttr, hw5, hyc_46]
    exact Is.mk
  case hX9 =>
    simp only [go_sem, simprocAttr, hw5, hyc_46]
    exact Is.mk
  case hids9 => simp only [go_sem, simprocAttr, hw5, hyc_46]
  case hkp9 => simp only [go_sem, simprocAttr, hw5, hyc_46]
  case hok9 => simp only [go_sem, simprocAttr, hw5, hyc_46]
  simp only [go_sem, simprocAttr, hw5, hyc_46]
  first
    | refine hK8 _ _ ?_
    | refine ⟨by (repeat' apply And.intro) <;> first | assumption | omega | (simp only [List.length_append, List.length_map, List.length_cons, List.length_nil, List.length_set, List.length_replicate] at c_47 ⊢; omega) | (intros; omega) | (intro hg; simp only [Bool.and_eq_true, Bool.or_eq_true, Bool.not_eq_true', decide_eq_true_eq, decide_eq_false_iff_not] at hg; omega) | (simp only [Bool.and_eq_true, Bool.or_eq_true, Bool.not_eq_true', Bool.and_eq_false_iff, Bool.or_eq_false_iff, Bool.not_eq_false', decide_eq_true_eq, decide_eq_false_iff_not]; omega) | (simp_all; done) | (simp_all <;> intros <;> omega), hK8 _ _ ?_⟩
  refine Wp.cond rfl ⟨⟩ (fun hc10 => ?_) (fun hc10 => ?_)
  · have hm := brT hm (by first | exact hc10 | simpa using hc10)
    refine Wp.seqR fun K11 hK11 => ?_
    simp only [go_sem, simprocAttr, hw5, hyc_46]
    first
      | refine hK11 _ _ ?_
      | refine ⟨by (repeat' apply And.intro) <;> first | assumption | omega |  (intros; omega) | (intro hg; simp only [Bool.and_eq_true, Bool.or_eq_true, Bool.not_eq_true', decide_eq_true_eq, decide_eq_false_iff_not] at hg; omega) | (simp only [Bool.and_eq_true, Bool.or_eq_true, Bool.not_eq_true', Bool.and_eq_false_iff, Bool.or_eq_false_iff, Bool.not_eq_false', decide_eq_true_eq, decide_eq_false_iff_not]; omega) | (simp_all; done) | (simp_all <;> intros <;> omega), hK11 _ _ ?_⟩
    refine Wp.ret ?_
    simp only [thenQ, blockQ]
    refine retQ_ret ?_
    cases hm
    simp only [go_sem, simprocAttr, hw5, hyc_46]
    try simp [encB, encI_i64, encI_u8, encS, enc_api_File, enc_api_Machine, enc_api_Service, enc_api_Setting, List.map_set, List.map_replicate]
  · have hm := brF hm (by first | exact hc10 | simpa using hc10)
    refine Wp.skip ?_
    simp only [thenQ, blockQ, ↓reduceIte]
    refine hK7 _ _ ?_
    refine Wp.region fun K12 hK12 => ?_
    simp only [go_sem, simprocAttr, hw5, hyc_46]
    first
      | refine hK12 _ _ ?_
      | refine ⟨by (repeat' apply And.intro) <;> first | assumption | omega |  (intros; omega) | (intro hg; simp only [Bool.and_eq_true, Bool.or_eq_true, Bool.not_eq_true', decide_eq_true_eq, decide_eq_false_iff_not] at hg; omega) | (simp only [Bool.and_eq_true, Bool.or_eq_true, Bool.not_eq_true', Bool.and_eq_false_iff, Bool.or_eq_false_iff, Bool.not_eq_false', decide_eq_true_eq, decide_eq_false_iff_not]; omega) | (simp_all; done) | (simp_all <;> intros <;> omega), hK12 _ _ ?_⟩
    simp only [thenQ, blockQ, ↓reduceIte]
    refine ⟨(), hlt5, hnx_43 _ hm, ?_⟩
    simp only [go_sem, simprocAttr, hw5, hyc_46]
    try simp [encB, encI_i64, encI_u8, encS, enc_api_File, enc_api_Machine, enc_api_Service, enc_api_Setting, List.map_set, List.map_replicate]
set_option maxRecDepth 100000 in
set_option maxHeartbeats 4000000 in
theorem ok_disk_settingFault_i2 (s_1 : api_Setting) (z : Int) (hm : disk_settingFault_i2 s_1 = some z) : Does Tryd.prog 44 [.agg [.p (.s s_1.Key), .p (.s s_1.Value)], .fn 50 []] [] (fun r X => r = .p (.i .i64 z) ∧ X = []) := by
  unfold disk_settingFault_i2 at hm
  refine Does.of_wp 0 14 [.tmp 4] Tryd.func44 rfl (by decide) rfl rfl (Nat.le_of_ble_eq_true rfl) fun B => ?_
  refine Wp.seqR fun K1 hK1 => ?_
  simp only [go_sem, simprocAttr]
  first
    | refine hK1 _ _ ?_
    | refine ⟨by (repeat' apply And.intro) <;> first | assumption | omega |  (intros; omega) | (intro hg; simp only [Bool.and_eq_true, Bool.or_eq_true, Bool.not_eq_true', decide_eq_true_eq, decide_eq_false_iff_not] at hg; omega) | (simp only [Bool.and_eq_true, Bool.or_eq_true, Bool.not_eq_true', Bool.and_eq_false_iff, Bool.or_eq_false_iff, Bool.not_eq_false', decide_eq_true_eq, decide_eq_false_iff_not]; omega) | (simp_all; done) | (simp_all <;> intros <;> omega), hK1 _ _ ?_⟩
  refine Wp.seqW fun K2 hK2 hW2 => ?_
  obtain ⟨r_2, hr_2, hm⟩ := call_elim hm
  refine Wp.seqR fun K3 hK3 => ?_
  simp only [go_sem, simprocAttr]
  try refine ⟨by (repeat' apply And.intro) <;> first | assumption | omega |  (intros; omega) | (intro hg; simp only [Bool.and_eq_true, Bool.or_eq_true, Bool.not_eq_true', decide_eq_true_eq, decide_eq_false_iff_not] at hg; omega) | (simp only [Bool.and_eq_true, Bool.or_eq_true, Bool.not_eq_true', Bool.and_eq_false_iff, Bool.or_eq_false_iff, Bool.not_eq_false', decide_eq_true_eq, decide_eq_false_iff_not]; omega) | (simp_all; done) | (simp_all <;> intros <;> omega), ?_⟩
  refine Rg.callX (av := ?av4) (g := true) (fun hg => ok_ver_IsPath s_1.Key _ hr_2) ?ha4 ?hb4 ?hp4 ?hok4 ?hf4 ?cont4
  case ha4 =>
    simp only [go_sem, simprocAttr]
    exact Is.mk
  case hb4 =>
    simp only [go_sem, simprocAttr]
    exact Is.mk
  case hp4 =>
    simp only [go_sem, simprocAttr]
    exact Is.mk
  case hok4 =>
    simp only [go_sem, simprocAttr]
  case hf4 =>
    simp only [go_sem, simprocAttr]
    exact Is.mk
  intro hv4
  simp only [go_sem, simprocAttr]
  first
    | refine hK3 _ _ ?_
    | refine ⟨by (repeat' apply And.intro) <;> first | assumption | omega |  (intros; omega) | (intro hg; simp only [Bool.and_eq_true, Bool.or_eq_true, Bool.not_eq_true', decide_eq_true_eq, decide_eq_false_iff_not] at hg; omega) | (simp only [Bool.and_eq_true, Bool.or_eq_true, Bool.not_eq_true', Bool.and_eq_false_iff, Bool.or_eq_false_iff, Bool.not_eq_false', decide_eq_true_eq, decide_eq_false_iff_not]; omega) | (simp_all; done) | (simp_all <;> intros <;> omega), hK3 _ _ ?_⟩
  refine Wp.cond rfl ⟨⟩ (fun hc5 => ?_) (fun hc5 => ?_)
  · have hm := brT hm (by first | exact hc5 | simpa using hc5)
    refine Wp.seqR fun K6 hK6 => ?_
    simp only [go_sem, simprocAttr]
    first
      | refine hK6 _ _ ?_
      | refine ⟨by (repeat' apply And.intro) <;> first | assumption | omega |  (intros; omega) | (intro hg; simp only [Bool.and_eq_true, Bool.or_eq_true, Bool.not_eq_true', decide_eq_true_eq, decide_eq_false_iff_not] at hg; omega) | (simp only [Bool.and_eq_true, Bool.or_eq_true, Bool.not_eq_true', Bool.and_eq_false_iff, Bool.or_eq_false_iff, Bool.not_eq_false', decide_eq_true_eq, decide_eq_false_iff_not]; omega) | (simp_all; done) | (simp_all <;> intros <;> omega), hK6 _ _ ?_⟩
    refine Wp.ret ?_
    simp only [thenQ, blockQ]
    refine retQ_ret ?_
    cases hm
    simp only [go_sem, simprocAttr]
    try simp [encB, encI_i64, encI_u8, encS, enc_api_File, enc_api_Machine, enc_api_Service, enc_api_Setting, List.map_set, List.map_replicate]
  · have hm := brF hm (by first | exact hc5 | simpa using hc5)
    refine Wp.skip ?_
    simp only [thenQ, blockQ, ↓reduceIte]
    refine hK2 _ _ ?_
    refine Wp.seqW fun K7 hK7 hW7 => ?_
    obtain ⟨r_3, hr_3, hm⟩ := call_elim hm
    refine Wp.seqR fun K8 hK8 => ?_
    simp only [go_sem, simprocAttr]
    try refine ⟨by (repeat' apply And.intro) <;> first | assumption | omega |  (intros; omega) | (intro hg; simp only [Bool.and_eq_true, Bool.or_eq_true, Bool.not_eq_true', decide_eq_true_eq, decide_eq_false_iff_not] at hg; omega) | (simp only [Bool.and_eq_true, Bool.or_eq_true, Bool.not_eq_true', Bool.and_eq_false_iff, Bool.or_eq_false_iff, Bool.not_eq_false', decide_eq_true_eq, decide_eq_false_iff_not]; omega) | (simp_all; done) | (simp_all <;> intros <;> omega), ?_⟩
    refine Rg.callX (av := ?av9) (g := true) (fun hg => ok_ver_IsValue s_1.Value _ hr_3) ?ha9 ?hb9 ?hp9 ?hok9 ?hf9 ?cont9
    case ha9 =>
      simp only [go_sem, simprocAttr]
      exact Is.mk
    case hb9 =>
      simp only [go_sem, simprocAttr]
      exact Is.mk
    case hp9 =>
      simp only [go_sem, simprocAttr]
      exact Is.mk
    case hok9 =>
      simp only [go_sem, simprocAttr]
    case hf9 =>
      simp only [go_sem, simprocAttr]
      exact Is.mk
    intro hv9
    simp only [go_sem, simprocAttr]
    first
      | refine hK8 _ _ ?_
      | refine ⟨by (repeat' apply And.intro) <;> first | assumption | omega |  (intros; omega) | (intro hg; simp only [Bool.and_eq_true, Bool.or_eq_true, Bool.not_eq_true', decide_eq_true_eq, decide_eq_false_iff_not] at hg; omega) | (simp only [Bool.and_eq_true, Bool.or_eq_true, Bool.not_eq_true', Bool.and_eq_false_iff, Bool.or_eq_false_iff, Bool.not_eq_false', decide_eq_true_eq, decide_eq_false_iff_not]; omega) | (simp_all; done) | (simp_all <;> intros <;> omega), hK8 _ _ ?_⟩
    refine Wp.cond rfl ⟨⟩ (fun hc10 => ?_) (fun hc10 => ?_)
    · have hm := brT hm (by first | exact hc10 | simpa using hc10)
      refine Wp.seqR fun K11 hK11 => ?_
      simp only [go_sem, simprocAttr]
      first
        | refine hK11 _ _ ?_
        | refine ⟨by (repeat' apply And.intro) <;> first | assumption | omega |  (intros; omega) | (intro hg; simp only [Bool.and_eq_true, Bool.or_eq_true, Bool.not_eq_true', decide_eq_true_eq, decide_eq_false_iff_not] at hg; omega) | (simp only [Bool.and_eq_true, Bool.or_eq_true, Bool.not_eq_true', Bool.and_eq_false_iff, Bool.or_eq_false_iff, Bool.not_eq_false', decide_eq_true_eq, decide_eq_false_iff_not]; omega) | (simp_all; done) | (simp_all <;> intros <;> omega), hK11 _ _ ?_⟩
      refine Wp.ret ?_
      simp only [thenQ, blockQ]
      refine retQ_ret ?_
      cases hm
      simp only [go_sem, simprocAttr]
      try simp [encB, encI_i64, encI_u8, encS, enc_api_File, enc_api_Machine, enc_api_Service, enc_api_Setting, List.map_set, List.map_replicate]
    · have hm := brF hm (by first | exact hc10 | simpa using hc10)
      refine Wp.skip ?_
      simp only [thenQ, blockQ, ↓reduceIte]
      refine hK7 _ _ ?_
      refine Wp.seqR fun K12 hK12 => ?_
      simp only [go_sem, simprocAttr]
      first
        | refine hK12 _ _ ?_
        | refine ⟨by (repeat' apply And.intro) <;> first | assumption | omega |  (intros; omega) | (intro hg; simp only [Bool.and_eq_true, Bool.or_eq_true, Bool.not_eq_true', decide_eq_true_eq, decide_eq_false_iff_not] at hg; omega) | (simp only [Bool.and_eq_true, Bool.or_eq_true, Bool.not_eq_true', Bool.and_eq_false_iff, Bool.or_eq_false_iff, Bool.not_eq_false', decide_eq_true_eq, decide_eq_false_iff_not]; omega) | (simp_all; done) | (simp_all <;> intros <;> omega), hK12 _ _ ?_⟩
      refine Wp.ret ?_
      refine retQ_ret ?_
      cases hm
      simp only [go_sem, simprocAttr]
      try simp [encB, encI_i64, encI_u8, encS, enc_api_File, enc_api_Machine, enc_api_Service, enc_api_Setting, List.map_set, List.map_replicate]
set_option maxRecDepth 100000 in
set_option maxHeartbeats 4000000 in
theorem ok_disk_Check_3 (s_1 : api_Setting) (z : Int) (hm : disk_Check_3 s_1 = some z) : Does Tryd.prog 49 [.agg [.p (.s s_1.Key), .p (.s s_1.Value)]] [] (fun r X => r = .p (.i .i64 z) ∧ X = []) := by
  unfold disk_Check_3 at hm
  refine Does.of_wp 0 5 [.tmp 2] Tryd.func49 rfl (by decide) rfl rfl (Nat.le_of_ble_eq_true rfl) fun B => ?_
  refine Wp.seqR fun K1 hK1 => ?_
  simp only [go_sem, simprocAttr]
  first
    | refine hK1 _ _ ?_
    | refine ⟨by (repeat' apply And.intro) <;> first | assumption | omega |  (intros; omega) | (intro hg; simp only [Bool.and_eq_true, Bool.or_eq_true, Bool.not_eq_true', decide_eq_true_eq, decide_eq_false_iff_not] at hg; omega) | (simp only [Bool.and_eq_true, Bool.or_eq_true, Bool.not_eq_true', Bool.and_eq_false_iff, Bool.or_eq_false_iff, Bool.not_eq_false', decide_eq_true_eq, decide_eq_false_iff_not]; omega) | (simp_all; done) | (simp_all <;> intros <;> omega), hK1 _ _ ?_⟩
  obtain ⟨r_2, hr_2, hm⟩ := call_elim hm
  refine Wp.seqR fun K2 hK2 => ?_
  simp only [go_sem, simprocAttr]
  try refine ⟨by (repeat' apply And.intro) <;> first | assumption | omega |  (intros; omega) | (intro hg; simp only [Bool.and_eq_true, Bool.or_eq_true, Bool.not_eq_true', decide_eq_true_eq, decide_eq_false_iff_not] at hg; omega) | (simp only [Bool.and_eq_true, Bool.or_eq_true, Bool.not_eq_true', Bool.and_eq_false_iff, Bool.or_eq_false_iff, Bool.not_eq_false', decide_eq_true_eq, decide_eq_false_iff_not]; omega) | (simp_all; done) | (simp_all <;> intros <;> omega), ?_⟩
  refine Rg.callX (av := ?av3) (g := true) (fun hg => ok_disk_settingFault_i2 s_1 _ hr_2) ?ha3 ?hb3 ?hp3 ?hok3 ?hf3 ?cont3
  case ha3 =>
    simp only [go_sem, simprocAttr]
    exact Is.mk
  case hb3 =>
    simp only [go_sem, simprocAttr]
    exact Is.mk
  case hp3 =>
    simp only [go_sem, simprocAttr]
    exact Is.mk
  case hok3 =>
    simp only [go_sem, simprocAttr]
  case hf3 =>
    simp only [go_sem, simprocAttr]
    exact Is.mk
  intro hv3
  simp only [go_sem, simprocAttr]
  first
    | refine hK2 _ _ ?_
    | refine ⟨by (repeat' apply And.intro) <;> first | assumption | omega |  (intros; omega) | (intro hg; simp only [Bool.and_eq_true, Bool.or_eq_true, Bool.not_eq_true', decide_eq_true_eq, decide_eq_false_iff_not] at hg; omega) | (simp only [Bool.and_eq_true, Bool.or_eq_true, Bool.not_eq_true', Bool.and_eq_false_iff, Bool.or_eq_false_iff, Bool.not_eq_false', decide_eq_true_eq, decide_eq_false_iff_not]; omega) | (simp_all; done) | (simp_all <;> intros <;> omega), hK2 _ _ ?_⟩
  refine Wp.ret ?_
  refine retQ_ret ?_
  cases hm
  simp only [go_sem, simprocAttr]
  try simp [encB, encI_i64, encI_u8, encS, enc_api_File, enc_api_Machine, enc_api_Service, enc_api_Setting, List.map_set, List.map_replicate]
set_option maxRecDepth 100000 in
set_option maxHeartbeats 4000000 in
theorem ok_disk_eachFault_api_Setting_i2 (l_1 : List api_Setting) (z : Int) (hm : disk_eachFault_api_Setting_i2 l_1 = some z) : Does Tryd.prog 42 [.p (.l (List.map enc_api_Setting l_1)), .fn 49 [], .fn 45 []] [] (fun r X => r = .p (.i .i64 z) ∧ X = []) := by
  unfold disk_eachFault_api_Setting_i2 at hm
  refine Does.of_wp 0 39 [.tmp 6] Tryd.func42 rfl (by decide) rfl rfl (Nat.le_of_ble_eq_true rfl) fun B => ?_
  refine Wp.seqR fun K1 hK1 => ?_
  simp only [go_sem, simprocAttr]
  first
    | refine hK1 _ _ ?_
    | refine ⟨by (repeat' apply And.intro) <;> first | assumption | omega |  (intros; omega) | (intro hg; simp only [Bool.and_eq_true, Bool.or_eq_true, Bool.not_eq_true', decide_eq_true_eq, decide_eq_false_iff_not] at hg; omega) | (simp only [Bool.and_eq_true, Bool.or_eq_true, Bool.not_eq_true', Bool.and_eq_false_iff, Bool.or_eq_false_iff, Bool.not_eq_false', decide_eq_true_eq, decide_eq_false_iff_not]; omega) | (simp_all; done) | (simp_all <;> intros <;> omega), hK1 _ _ ?_⟩
  refine Wp.seqW fun K2 hK2 hW2 => ?_
  obtain ⟨k_19, hk_19, hm⟩ := jp_elim hm
  have hcut2 : ∀ s, k_19 s = some z → K2 [] [] := by
    intro s hs
    have hm := hk_19 _ hs
    clear hs
    try dsimp only at hm
    try dsimp only
    refine hK2 _ _ ?_
    refine Wp.seqR fun K3 hK3 => ?_
    simp only [go_sem, simprocAttr]
    first
      | refine hK3 _ _ ?_
      | refine ⟨by (repeat' apply And.intro) <;> first | assumption | omega |  (intros; omega) | (intro hg; simp only [Bool.and_eq_true, Bool.or_eq_true, Bool.not_eq_true', decide_eq_true_eq, decide_eq_false_iff_not] at hg; omega) | (simp only [Bool.and_eq_true, Bool.or_eq_true, Bool.not_eq_true', Bool.and_eq_false_iff, Bool.or_eq_false_iff, Bool.not_eq_false', decide_eq_true_eq, decide_eq_false_iff_not]; omega) | (simp_all; done) | (simp_all <;> intros <;> omega), hK3 _ _ ?_⟩
    refine Wp.ret ?_
    refine retQ_ret ?_
    cases hm
    simp only [go_sem, simprocAttr]
    try simp [encB, encI_i64, encI_u8, encS, enc_api_File, enc_api_Machine, enc_api_Service, enc_api_Setting, List.map_set, List.map_replicate]
  clear hK2 hk_19
  refine Wp.seqR fun K4 hK4 => ?_
  simp only [go_sem, simprocAttr]
  first
    | refine hK4 _ _ ?_
    | refine ⟨by (repeat' apply And.intro) <;> first | assumption | omega |  (intros; omega) | (intro hg; simp only [Bool.and_eq_true, Bool.or_eq_true, Bool.not_eq_true', decide_eq_true_eq, decide_eq_false_iff_not] at hg; omega) | (simp only [Bool.and_eq_true, Bool.or_eq_true, Bool.not_eq_true', Bool.and_eq_false_iff, Bool.or_eq_false_iff, Bool.not_eq_false', decide_eq_true_eq, decide_eq_false_iff_not]; omega) | (simp_all; done) | (simp_all <;> intros <;> omega), hK4 _ _ ?_⟩
  refine Wp.block ?_
  obtain ⟨k_27, hk_27, hm⟩ := forL_cont hm
  refine Wp.fact 0 fun hl_30 => ?_
  replace hl_30 : l_1.length ≤ 274877906944 := by
    simp only [go_sem, simprocAttr, List.length_map] at hl_30
    omega
  refine Wp.forL (fun i_29 s => [(0, .p (.l (List.map enc_api_Setting l_1))), (1, .fn 49 []), (2, .fn 45 []), (10, .p (.l (List.map enc_api_Setting l_1))), (11, .p (.i .i64 (l_1.length : Int))), (12, .p (.i .i64 (i_29 : Int)))]) (fun i_29 s => []) ?_ hm ?_
  ·
    simp only [go_sem, simprocAttr]
    try simp [encB, encI_i64, encI_u8, encS, enc_api_File, enc_api_Machine, enc_api_Service, enc_api_Setting, List.map_set, List.map_replicate]
  clear hm
  intro i_29 s hii_29 hm
  try dsimp only at hm
  try dsimp only
  refine Wp.seqR fun K5 hK5 => ?_
  simp only [go_sem, simprocAttr]
  first
    | refine hK5 _ _ ?_
    | refine ⟨by (repeat' apply And.intro) <;> first | assumption | omega |  (intros; omega) | (intro hg; simp only [Bool.and_eq_true, Bool.or_eq_true, Bool.not_eq_true', decide_eq_true_eq, decide_eq_false_iff_not] at hg; omega) | (simp only [Bool.and_eq_true, Bool.or_eq_true, Bool.not_eq_true', Bool.and_eq_false_iff, Bool.or_eq_false_iff, Bool.not_eq_false', decide_eq_true_eq, decide_eq_false_iff_not]; omega) | (simp_all; done) | (simp_all <;> intros <;> omega), hK5 _ _ ?_⟩
  refine Wp.seqW fun K6 hK6 hW6 => ?_
  refine Wp.cond rfl ⟨⟩ (fun hc6 => ?_) (fun hc6 => ?_)
  rotate_left
  · refine Wp.exit ?_
    have hm := hk_27 _ (forL_end hm (ge_nat (by first | exact hc6 | simpa using hc6)))
    try dsimp only at hm
    simp only [thenQ, blockQ, ↓reduceIte]
    refine hW2 _ _ _ _ ?_ (hcut2 () hm)
    simp only [go_sem, simprocAttr]
    try simp [encB, encI_i64, encI_u8, encS, enc_api_File, enc_api_Machine, enc_api_Service, enc_api_Setting, List.map_set, List.map_replicate]
  have hlt6 := lt_nat (by first | exact hc6 | simpa using hc6)
  have hw6 := wrap_succ hlt6 hl_30
  obtain ⟨s_31, nx_28, hxs_31, hys_31, hnx_28, hm⟩ := forL_step hm hlt6
  replace hxs_31 := hxs_31 enc_api_Setting
  refine Wp.skip ?_
  simp only [thenQ]
  refine hK6 _ _ ?_
  refine Wp.seqW fun K7 hK7 hW7 => ?_
  refine Wp.block ?_
  refine Wp.seqR fun K8 hK8 => ?_
  simp only [go_sem, simprocAttr, hw6, hxs_31]
  first
    | refine hK8 _ _ ?_
    | refine ⟨by (repeat' apply And.intro) <;> first | assumption | omega |  (intros; omega) | (intro hg; simp only [Bool.and_eq_true, Bool.or_eq_true, Bool.not_eq_true', decide_eq_true_eq, decide_eq_false_iff_not] at hg; omega) | (simp only [Bool.and_eq_true, Bool.or_eq_true, Bool.not_eq_true', Bool.and_eq_false_iff, Bool.or_eq_false_iff, Bool.not_eq_false', decide_eq_true_eq, decide_eq_false_iff_not]; omega) | (simp_all; done) | (simp_all <;> intros <;> omega), hK8 _ _ ?_⟩
  refine Wp.seqW fun K9 hK9 hW9 => ?_
  obtain ⟨r_32, hr_32, hm⟩ := call_elim hm
  refine Wp.seqR fun K10 hK10 => ?_
  simp only [go_sem, simprocAttr, hw6, hxs_31]
  try refine ⟨by (repeat' apply And.intro) <;> first | assumption | omega |  (intros; omega) | (intro hg; simp only [Bool.and_eq_true, Bool.or_eq_true, Bool.not_eq_true', decide_eq_true_eq, decide_eq_false_iff_not] at hg; omega) | (simp only [Bool.and_eq_true, Bool.or_eq_true, Bool.not_eq_true', Bool.and_eq_false_iff, Bool.or_eq_false_iff, Bool.not_eq_false', decide_eq_true_eq, decide_eq_false_iff_not]; omega) | (simp_all; done) | (simp_all <;> intros <;> omega), ?_⟩
  refine Rg.callX (av := ?av11) (g := true) (fun hg => ok_disk_Check_3 s_31 _ hr_32) ?ha11 ?hb11 ?hp11 ?hok11 ?hf11 ?cont11
  case ha11 =>
    simp only [go_sem, simprocAttr, hw6, hxs_31]
    exact Is.mk
  case hb11 =>
    simp only [go_sem, simprocAttr, hw6, hxs_31]
    exact Is.mk
  case hp11 =>
    simp only [go_sem, simprocAttr, hw6, hxs_31]
    exact Is.mk
  case hok11 =>
    simp only [go_sem, simprocAttr, hw6, hxs_31]
  case hf11 =>
    simp only [go_sem, simprocAttr, hw6, hxs_31]
    exact Is.mk
  intro hv11
  simp only [go_sem, simprocAttr, hw6, hxs_31]
  first
    | refine hK10 _ _ ?_
    | refine ⟨by (repeat' apply And.intro) <;> first | assumption | omega |  (intros; omega) | (intro hg; simp only [Bool.and_eq_true, Bool.or_eq_true, Bool.not_eq_true', decide_eq_true_eq, decide_eq_false_iff_not] at hg; omega) | (simp only [Bool.and_eq_true, Bool.or_eq_true, Bool.not_eq_true', Bool.and_eq_false_iff, Bool.or_eq_false_iff, Bool.not_eq_false', decide_eq_true_eq, decide_eq_false_iff_not]; omega) | (simp_all; done) | (simp_all <;> intros <;> omega), hK10 _ _ ?_⟩
  refine Wp.seqR fun K12 hK12 => ?_
  simp only [go_sem, simprocAttr, hw6, hxs_31]
  first
    | refine hK12 _ _ ?_
    | refine ⟨by (repeat' apply And.intro) <;> first | assumption | omega |  (intros; omega) | (intro hg; simp only [Bool.and_eq_true, Bool.or_eq_true, Bool.not_eq_true', decide_eq_true_eq, decide_eq_false_iff_not] at hg; omega) | (simp only [Bool.and_eq_true, Bool.or_eq_true, Bool.not_eq_true', Bool.and_eq_false_iff, Bool.or_eq_false_iff, Bool.not_eq_false', decide_eq_true_eq, decide_eq_false_iff_not]; omega) | (simp_all; done) | (simp_all <;> intros <;> omega), hK12 _ _ ?_⟩
  refine Wp.cond rfl ⟨⟩ (fun hc13 => ?_) (fun hc13 => ?_)
  · have hm := brT hm (by first | exact hc13 | simpa using hc13)
    refine Wp.seqR fun K14 hK14 => ?_
    simp only [go_sem, simprocAttr, hw6, hxs_31]
    first
      | refine hK14 _ _ ?_
      | refine ⟨by (repeat' apply And.intro) <;> first | assumption | omega |  (intros; omega) | (intro hg; simp only [Bool.and_eq_true, Bool.or_eq_true, Bool.not_eq_true', decide_eq_true_eq, decide_eq_false_iff_not] at hg; omega) | (simp only [Bool.and_eq_true, Bool.or_eq_true, Bool.not_eq_true', Bool.and_eq_false_iff, Bool.or_eq_false_iff, Bool.not_eq_false', decide_eq_true_eq, decide_eq_false_iff_not]; omega) | (simp_all; done) | (simp_all <;> intros <;> omega), hK14 _ _ ?_⟩
    refine Wp.ret ?_
    simp only [thenQ, blockQ]
    refine retQ_ret ?_
    cases hm
    simp only [go_sem, simprocAttr, hw6, hxs_31]
    try simp [encB, encI_i64, encI_u8, encS, enc_api_File, enc_api_Machine, enc_api_Service, enc_api_Setting, List.map_set, List.map_replicate]
  · have hm := brF hm (by first | exact hc13 | simpa using hc13)
    refine Wp.skip ?_
    simp only [thenQ, blockQ, ↓reduceIte]
    refine hK9 _ _ ?_
    obtain ⟨r_33, hr_33, hm⟩ := callG_elim hm
    obtain ⟨c_34, hm⟩ := chk_elim hm
    obtain ⟨r_35, hr_35, hm⟩ := callG_elim hm
    have hr_36 := getD_enc (l := l_1) (e := enc_api_Setting) (d := (api_Setting.mk [] [])) (i := (IntKind.i64.wrap ((i_29 : Int) - 1)).toNat)
    simp only [enc_api_Setting, List.map_nil] at hr_36
    refine Wp.seqD (plan := [(0, none), (1, none), (2, none), (3, none), (4, none), (5, none), (6, none), (7, none), (8, none), (9, none), (10, none), (11, none), (12, none), (13, none), (14, none)]) (by kernel_rfl) rfl (by kernel_rfl) fun K15 hK15 => ?_
    simp only [go_sem, simprocAttr, hw6, hxs_31, hr_36]
    try refine ⟨by (repeat' apply And.intro) <;> first | assumption | omega | (simp only [List.length_append, List.length_map, List.length_cons, List.length_nil, List.length_set, List.length_replicate] at c_34 ⊢; omega) | (intros; omega) | (intro hg; simp only [Bool.and_eq_true, Bool.or_eq_true, Bool.not_eq_true', decide_eq_true_eq, decide_eq_false_iff_not] at hg; omega) | (simp only [Bool.and_eq_true, Bool.or_eq_true, Bool.not_eq_true', Bool.and_eq_false_iff, Bool.or_eq_false_iff, Bool.not_eq_false', decide_eq_true_eq, decide_eq_false_iff_not]; omega) | (simp_all; done) | (simp_all <;> intros <;> omega), ?_⟩
    refine Dr.callF (av := ?av16) (g := decide (0 < (i_29 : Int))) (o := ?o16) (fun hg => ok_disk_keyOf s_31 _ (hr_33 hg)) ?hk16 ?ha16 ?hb16 ?hp16 ?hok16 ?hf16 ?cont16
    case hk16 =>
      simp only [go_sem, simprocAttr, hw6, hxs_31, hr_36]
      exact Is.mk
    case ha16 =>
      simp only [go_sem, simprocAttr, hw6, hxs_31, hr_36]
      exact Is.mk
    case hb16 =>
      simp only [go_sem, simprocAttr, hw6, hxs_31, hr_36]
      exact Is.mk
    case hp16 =>
      simp only [go_sem, simprocAttr, hw6, hxs_31, hr_36]
      exact Is.mk
    case hok16 =>
      simp only [go_sem, simprocAttr, hw6, hxs_31, hr_36]
    case hf16 =>
      simp only [go_sem, simprocAttr, hw6, hxs_31, hr_36]
      exact Is.mk
    simp only [go_sem, simprocAttr, hw6, hxs_31, hr_36]
    try refine ⟨by (repeat' apply And.intro) <;> first | assumption | omega | (simp only [List.length_append, List.length_map, List.length_cons, List.length_nil, List.length_set, List.length_replicate] at c_34 ⊢; omega) | (intros; omega) | (intro hg; simp only [Bool.and_eq_true, Bool.or_eq_true, Bool.not_eq_true', decide_eq_true_eq, decide_eq_false_iff_not] at hg; omega) | (simp only [Bool.and_eq_true, Bool.or_eq_true, Bool.not_eq_true', Bool.and_eq_false_iff, Bool.or_eq_false_iff, Bool.not_eq_false', decide_eq_true_eq, decide_eq_false_iff_not]; omega) | (simp_all; done) | (simp_all <;> intros <;> omega), ?_⟩
    refine Dr.callF (av := ?av17) (g := decide (0 < (i_29 : Int))) (o := ?o17) (fun hg => ok_disk_keyOf (api_Setting.mk ((l_1.getD ((IntKind.i64.wrap ((i_29 : Int) - 1)).toNat) (api_Setting.mk [] [])).Key) ((l_1.getD ((IntKind.i64.wrap ((i_29 : Int) - 1)).toNat) (api_Setting.mk [] [])).Value)) _ (hr_35 hg)) ?hk17 ?ha17 ?hb17 ?hp17 ?hok17 ?hf17 ?cont17
    case hk17 =>
      simp only [go_sem, simprocAttr, hw6, hxs_31, hr_36]
      exact Is.mk
    case ha17 =>
      simp only [go_sem, simprocAttr, hw6, hxs_31, hr_36]
      exact Is.mk
    case hb17 =>
      simp only [go_sem, simprocAttr, hw6, hxs_31, hr_36]
      exact Is.mk
    case hp17 =>
      simp only [go_sem, simprocAttr, hw6, hxs_31, hr_36]
      exact Is.mk
    case hok17 =>
      simp only [go_sem, simprocAttr, hw6, hxs_31, hr_36]
    case hf17 =>
      simp only [go_sem, simprocAttr, hw6, hxs_31, hr_36]
      exact Is.mk
    simp only [go_sem, simprocAttr, hw6, hxs_31, hr_36]
    first
      | refine hK15 _ _ ?_
      | refine ⟨by (repeat' apply And.intro) <;> first | assumption | omega | (simp only [List.length_append, List.length_map, List.length_cons, List.length_nil, List.length_set, List.length_replicate] at c_34 ⊢; omega) | (intros; omega) | (intro hg; simp only [Bool.and_eq_true, Bool.or_eq_true, Bool.not_eq_true', decide_eq_true_eq, decide_eq_false_iff_not] at hg; omega) | (simp only [Bool.and_eq_true, Bool.or_eq_true, Bool.not_eq_true', Bool.and_eq_false_iff, Bool.or_eq_false_iff, Bool.not_eq_false', decide_eq_true_eq, decide_eq_false_iff_not]; omega) | (simp_all; done) | (simp_all <;> intros <;> omega), hK15 _ _ ?_⟩
    refine Wp.cond rfl ⟨⟩ (fun hc18 => ?_) (fun hc18 => ?_)
    · have hm := brT hm (by first | exact hc18 | simpa using hc18)
      refine Wp.seqR fun K19 hK19 => ?_
      simp only [go_sem, simprocAttr, hw6, hxs_31]
      first
        | refine hK19 _ _ ?_
        | refine ⟨by (repeat' apply And.intro) <;> first | assumption | omega |  (intros; omega) | (intro hg; simp only [Bool.and_eq_true, Bool.or_eq_true, Bool.not_eq_true', decide_eq_true_eq, decide_eq_false_iff_not] at hg; omega) | (simp only [Bool.and_eq_true, Bool.or_eq_true, Bool.not_eq_true', Bool.and_eq_false_iff, Bool.or_eq_false_iff, Bool.not_eq_false', decide_eq_true_eq, decide_eq_false_iff_not]; omega) | (simp_all; done) | (simp_all <;> intros <;> omega), hK19 _ _ ?_⟩
      refine Wp.ret ?_
      simp only [thenQ, blockQ]
      refine retQ_ret ?_
      cases hm
      simp only [go_sem, simprocAttr, hw6, hxs_31]
      try simp [encB, encI_i64, encI_u8, encS, enc_api_File, enc_api_Machine, enc_api_Service, enc_api_Setting, List.map_set, List.map_replicate]
    · have hm := brF hm (by first | exact hc18 | simpa using hc18)
      refine Wp.skip ?_
      simp only [thenQ, blockQ, ↓reduceIte]
      refine hK7 _ _ ?_
      refine Wp.region fun K20 hK20 => ?_
      simp only [go_sem, simprocAttr, hw6, hxs_31]
      first
        | refine hK20 _ _ ?_
        | refine ⟨by (repeat' apply And.intro) <;> first | assumption | omega |  (intros; omega) | (intro hg; simp only [Bool.and_eq_true, Bool.or_eq_true, Bool.not_eq_true', decide_eq_true_eq, decide_eq_false_iff_not] at hg; omega) | (simp only [Bool.and_eq_true, Bool.or_eq_true, Bool.not_eq_true', Bool.and_eq_false_iff, Bool.or_eq_false_iff, Bool.not_eq_false', decide_eq_true_eq, decide_eq_false_iff_not]; omega) | (simp_all; done) | (simp_all <;> intros <;> omega), hK20 _ _ ?_⟩
      simp only [thenQ, blockQ, ↓reduceIte]
      refine ⟨(), hlt6, hnx_28 _ hm, ?_⟩
      simp only [go_sem, simprocAttr, hw6, hxs_31]
      try simp [encB, encI_i64, encI_u8, encS, enc_api_File, enc_api_Machine, enc_api_Service, enc_api_Setting, List.map_set, List.map_replicate]
set_option maxRecDepth 100000 in
set_option maxHeartbeats 4000000 in
theorem ok_disk_serviceFault (s_1 : api_Service) (z : Int) (hm : disk_serviceFault s_1 = some z) : Does Tryd.prog 52 [.agg [.p (.s s_1.Name), .p (.s s_1.Path), .p (.b s_1.Auto), .p (.b s_1.On)]] [] (fun r X => r = .p (.i .i64 z) ∧ X = []) := by
  unfold disk_serviceFault at hm
  refine Does.of_wp 0 13 [.tmp 2] Tryd.func52 rfl (by decide) rfl rfl (Nat.le_of_ble_eq_true rfl) fun B => ?_
  refine Wp.seqR fun K1 hK1 => ?_
  simp only [go_sem, simprocAttr]
  first
    | refine hK1 _ _ ?_
    | refine ⟨by (repeat' apply And.intro) <;> first | assumption | omega |  (intros; omega) | (intro hg; simp only [Bool.and_eq_true, Bool.or_eq_true, Bool.not_eq_true', decide_eq_true_eq, decide_eq_false_iff_not] at hg; omega) | (simp only [Bool.and_eq_true, Bool.or_eq_true, Bool.not_eq_true', Bool.and_eq_false_iff, Bool.or_eq_false_iff, Bool.not_eq_false', decide_eq_true_eq, decide_eq_false_iff_not]; omega) | (simp_all; done) | (simp_all <;> intros <;> omega), hK1 _ _ ?_⟩
  refine Wp.seqW fun K2 hK2 hW2 => ?_
  obtain ⟨r_2, hr_2, hm⟩ := call_elim hm
  obtain ⟨r_3, hr_3, hm⟩ := callG_elim hm
  refine Wp.seqR fun K3 hK3 => ?_
  simp only [go_sem, simprocAttr]
  try refine ⟨by (repeat' apply And.intro) <;> first | assumption | omega |  (intros; omega) | (intro hg; simp only [Bool.and_eq_true, Bool.or_eq_true, Bool.not_eq_true', decide_eq_true_eq, decide_eq_false_iff_not] at hg; omega) | (simp only [Bool.and_eq_true, Bool.or_eq_true, Bool.not_eq_true', Bool.and_eq_false_iff, Bool.or_eq_false_iff, Bool.not_eq_false', decide_eq_true_eq, decide_eq_false_iff_not]; omega) | (simp_all; done) | (simp_all <;> intros <;> omega), ?_⟩
  refine Rg.callX (av := ?av4) (g := true) (fun hg => ok_ver_IsName s_1.Name _ hr_2) ?ha4 ?hb4 ?hp4 ?hok4 ?hf4 ?cont4
  case ha4 =>
    simp only [go_sem, simprocAttr]
    exact Is.mk
  case hb4 =>
    simp only [go_sem, simprocAttr]
    exact Is.mk
  case hp4 =>
    simp only [go_sem, simprocAttr]
    exact Is.mk
  case hok4 =>
    simp only [go_sem, simprocAttr]
  case hf4 =>
    simp only [go_sem, simprocAttr]
    exact Is.mk
  intro hv4
  simp only [go_sem, simprocAttr]
  try refine ⟨by (repeat' apply And.intro) <;> first | assumption | omega |  (intros; omega) | (intro hg; simp only [Bool.and_eq_true, Bool.or_eq_true, Bool.not_eq_true', decide_eq_true_eq, decide_eq_false_iff_not] at hg; omega) | (simp only [Bool.and_eq_true, Bool.or_eq_true, Bool.not_eq_true', Bool.and_eq_false_iff, Bool.or_eq_false_iff, Bool.not_eq_false', decide_eq_true_eq, decide_eq_false_iff_not]; omega) | (simp_all; done) | (simp_all <;> intros <;> omega), ?_⟩
  refine Rg.callX (av := ?av5) (g := !(!r_2)) (fun hg => ok_ver_IsPath s_1.Path _ (hr_3 hg)) ?ha5 ?hb5 ?hp5 ?hok5 ?hf5 ?cont5
  case ha5 =>
    simp only [go_sem, simprocAttr]
    exact Is.mk
  case hb5 =>
    simp only [go_sem, simprocAttr]
    exact Is.mk
  case hp5 =>
    simp only [go_sem, simprocAttr]
    exact Is.mk
  case hok5 =>
    simp only [go_sem, simprocAttr]
  case hf5 =>
    simp only [go_sem, simprocAttr]
    exact Is.mk
  intro hv5
  simp only [go_sem, simprocAttr]
  first
    | refine hK3 _ _ ?_
    | refine ⟨by (repeat' apply And.intro) <;> first | assumption | omega |  (intros; omega) | (intro hg; simp only [Bool.and_eq_true, Bool.or_eq_true, Bool.not_eq_true', decide_eq_true_eq, decide_eq_false_iff_not] at hg; omega) | (simp only [Bool.and_eq_true, Bool.or_eq_true, Bool.not_eq_true', Bool.and_eq_false_iff, Bool.or_eq_false_iff, Bool.not_eq_false', decide_eq_true_eq, decide_eq_false_iff_not]; omega) | (simp_all; done) | (simp_all <;> intros <;> omega), hK3 _ _ ?_⟩
  refine Wp.cond rfl ⟨⟩ (fun hc6 => ?_) (fun hc6 => ?_)
  · have hm := brT hm (by first | exact hc6 | simpa using hc6)
    refine Wp.seqR fun K7 hK7 => ?_
    simp only [go_sem, simprocAttr]
    first
      | refine hK7 _ _ ?_
      | refine ⟨by (repeat' apply And.intro) <;> first | assumption | omega |  (intros; omega) | (intro hg; simp only [Bool.and_eq_true, Bool.or_eq_true, Bool.not_eq_true', decide_eq_true_eq, decide_eq_false_iff_not] at hg; omega) | (simp only [Bool.and_eq_true, Bool.or_eq_true, Bool.not_eq_true', Bool.and_eq_false_iff, Bool.or_eq_false_iff, Bool.not_eq_false', decide_eq_true_eq, decide_eq_false_iff_not]; omega) | (simp_all; done) | (simp_all <;> intros <;> omega), hK7 _ _ ?_⟩
    refine Wp.ret ?_
    simp only [thenQ, blockQ]
    refine retQ_ret ?_
    cases hm
    simp only [go_sem, simprocAttr]
    try simp [encB, encI_i64, encI_u8, encS, enc_api_File, enc_api_Machine, enc_api_Service, enc_api_Setting, List.map_set, List.map_replicate]
  · have hm := brF hm (by first | exact hc6 | simpa using hc6)
    refine Wp.skip ?_
    simp only [thenQ, blockQ, ↓reduceIte]
    refine hK2 _ _ ?_
    refine Wp.seqR fun K8 hK8 => ?_
    simp only [go_sem, simprocAttr]
    first
      | refine hK8 _ _ ?_
      | refine ⟨by (repeat' apply And.intro) <;> first | assumption | omega |  (intros; omega) | (intro hg; simp only [Bool.and_eq_true, Bool.or_eq_true, Bool.not_eq_true', decide_eq_true_eq, decide_eq_false_iff_not] at hg; omega) | (simp only [Bool.and_eq_true, Bool.or_eq_true, Bool.not_eq_true', Bool.and_eq_false_iff, Bool.or_eq_false_iff, Bool.not_eq_false', decide_eq_true_eq, decide_eq_false_iff_not]; omega) | (simp_all; done) | (simp_all <;> intros <;> omega), hK8 _ _ ?_⟩
    refine Wp.ret ?_
    refine retQ_ret ?_
    cases hm
    simp only [go_sem, simprocAttr]
    try simp [encB, encI_i64, encI_u8, encS, enc_api_File, enc_api_Machine, enc_api_Service, enc_api_Setting, List.map_set, List.map_replicate]
set_option maxRecDepth 100000 in
set_option maxHeartbeats 4000000 in
theorem ok_disk_nameOf (s_1 : api_Service) (z : Str) (hm : disk_nameOf s_1 = some z) : Does Tryd.prog 53 [.agg [.p (.s s_1.Name), .p (.s s_1.Path), .p (.b s_1.Auto), .p (.b s_1.On)]] [] (fun r X => r = .p (.s z) ∧ X = []) := by
  unfold disk_nameOf at hm
  refine Does.of_wp 0 5 [.tmp 2] Tryd.func53 rfl (by decide) rfl rfl (Nat.le_of_ble_eq_true rfl) fun B => ?_
  refine Wp.seqR fun K1 hK1 => ?_
  simp only [go_sem, simprocAttr]
  first
    | refine hK1 _ _ ?_
    | refine ⟨by (repeat' apply And.intro) <;> first | assumption | omega |  (intros; omega) | (intro hg; simp only [Bool.and_eq_true, Bool.or_eq_true, Bool.not_eq_true', decide_eq_true_eq, decide_eq_false_iff_not] at hg; omega) | (simp only [Bool.and_eq_true, Bool.or_eq_true, Bool.not_eq_true', Bool.and_eq_false_iff, Bool.or_eq_false_iff, Bool.not_eq_false', decide_eq_true_eq, decide_eq_false_iff_not]; omega) | (simp_all; done) | (simp_all <;> intros <;> omega), hK1 _ _ ?_⟩
  refine Wp.seqR fun K2 hK2 => ?_
  simp only [go_sem, simprocAttr]
  first
    | refine hK2 _ _ ?_
    | refine ⟨by (repeat' apply And.intro) <;> first | assumption | omega |  (intros; omega) | (intro hg; simp only [Bool.and_eq_true, Bool.or_eq_true, Bool.not_eq_true', decide_eq_true_eq, decide_eq_false_iff_not] at hg; omega) | (simp only [Bool.and_eq_true, Bool.or_eq_true, Bool.not_eq_true', Bool.and_eq_false_iff, Bool.or_eq_false_iff, Bool.not_eq_false', decide_eq_true_eq, decide_eq_false_iff_not]; omega) | (simp_all; done) | (simp_all <;> intros <;> omega), hK2 _ _ ?_⟩
  refine Wp.ret ?_
  refine retQ_ret ?_
  cases hm
  simp only [go_sem, simprocAttr]
  try simp [encB, encI_i64, encI_u8, encS, enc_api_File, enc_api_Machine, enc_api_Service, enc_api_Setting, List.map_set, List.map_replicate]
set_option maxRecDepth 100000 in
set_option maxHeartbeats 4000000 in
theorem ok_disk_eachFault_api_Service_i1 (l_1 : List api_Service) (z : Int) (hm : disk_eachFault_api_Service_i1 l_1 = some z) : Does Tryd.prog 51 [.p (.l (List.map enc_api_Service l_1)), .fn 52 [], .fn 53 []] [] (fun r X => r = .p (.i .i64 z) ∧ X = []) := by
  unfold disk_eachFault_api_Service_i1 at hm
  refine Does.of_wp 0 39 [.tmp 6] Tryd.func51 rfl (by decide) rfl rfl (Nat.le_of_ble_eq_true rfl) fun B => ?_
  refine Wp.seqR fun K1 hK1 => ?_
  simp only [go_sem, simprocAttr]
  first
    | refine hK1 _ _ ?_
    | refine ⟨by (repeat' apply And.intro) <;> first | assumption | omega |  (intros; omega) | (intro hg; simp only [Bool.and_eq_true, Bool.or_eq_true, Bool.not_eq_true', decide_eq_true_eq, decide_eq_false_iff_not] at hg; omega) | (simp only [Bool.and_eq_true, Bool.or_eq_true, Bool.not_eq_true', Bool.and_eq_false_iff, Bool.or_eq_false_iff, Bool.not_eq_false', decide_eq_true_eq, decide_eq_false_iff_not]; omega) | (simp_all; done) | (simp_all <;> intros <;> omega), hK1 _ _ ?_⟩
  refine Wp.seqW fun K2 hK2 hW2 => ?_
  obtain ⟨k_19, hk_19, hm⟩ := jp_elim hm
  have hcut2 : ∀ s, k_19 s = some z → K2 [] [] := by
    intro s hs
    have hm := hk_19 _ hs
    clear hs
    try dsimp only at hm
    try dsimp only
    refine hK2 _ _ ?_
    refine Wp.seqR fun K3 hK3 => ?_
    simp only [go_sem, simprocAttr]
    first
      | refine hK3 _ _ ?_
      | refine ⟨by (repeat' apply And.intro) <;> first | assumption | omega |  (intros; omega) | (intro hg; simp only [Bool.and_eq_true, Bool.or_eq_true, Bool.not_eq_true', decide_eq_true_eq, decide_eq_false_iff_not] at hg; omega) | (simp only [Bool.and_eq_true, Bool.or_eq_true, Bool.not_eq_true', Bool.and_eq_false_iff, Bool.or_eq_false_iff, Bool.not_eq_false', decide_eq_true_eq, decide_eq_false_iff_not]; omega) | (simp_all; done) | (simp_all <;> intros <;> omega), hK3 _ _ ?_⟩
    refine Wp.ret ?_
    refine retQ_ret ?_
    cases hm
    simp only [go_sem, simprocAttr]
    try simp [encB, encI_i64, encI_u8, encS, enc_api_File, enc_api_Machine, enc_api_Service, enc_api_Setting, List.map_set, List.map_replicate]
  clear hK2 hk_19
  refine Wp.seqR fun K4 hK4 => ?_
  simp only [go_sem, simprocAttr]
  first
    | refine hK4 _ _ ?_
    | refine ⟨by (repeat' apply And.intro) <;> first | assumption | omega |  (intros; omega) | (intro hg; simp only [Bool.and_eq_true, Bool.or_eq_true, Bool.not_eq_true', decide_eq_true_eq, decide_eq_false_iff_not] at hg; omega) | (simp only [Bool.and_eq_true, Bool.or_eq_true, Bool.not_eq_true', Bool.and_eq_false_iff, Bool.or_eq_false_iff, Bool.not_eq_false', decide_eq_true_eq, decide_eq_false_iff_not]; omega) | (simp_all; done) | (simp_all <;> intros <;> omega), hK4 _ _ ?_⟩
  refine Wp.block ?_
  obtain ⟨k_27, hk_27, hm⟩ := forL_cont hm
  refine Wp.fact 0 fun hl_30 => ?_
  replace hl_30 : l_1.length ≤ 274877906944 := by
    simp only [go_sem, simprocAttr, List.length_map] at hl_30
    omega
  refine Wp.forL (fun i_29 s => [(0, .p (.l (List.map enc_api_Service l_1))), (1, .fn 52 []), (2, .fn 53 []), (10, .p (.l (List.map enc_api_Service l_1))), (11, .p (.i .i64 (l_1.length : Int))), (12, .p (.i .i64 (i_29 : Int)))]) (fun i_29 s => []) ?_ hm ?_
  ·
    simp only [go_sem, simprocAttr]
    try simp [encB, encI_i64, encI_u8, encS, enc_api_File, enc_api_Machine, enc_api_Service, enc_api_Setting, List.map_set, List.map_replicate]
  clear hm
  intro i_29 s hii_29 hm
  try dsimp only at hm
  try dsimp only
  refine Wp.seqR fun K5 hK5 => ?_
  simp only [go_sem, simprocAttr]
  first
    | refine hK5 _ _ ?_
    | refine ⟨by (repeat' apply And.intro) <;> first | assumption | omega |  (intros; omega) | (intro hg; simp only [Bool.and_eq_true, Bool.or_eq_true, Bool.not_eq_true', decide_eq_true_eq, decide_eq_false_iff_not] at hg; omega) | (simp only [Bool.and_eq_true, Bool.or_eq_true, Bool.not_eq_true', Bool.and_eq_false_iff, Bool.or_eq_false_iff, Bool.not_eq_false', decide_eq_true_eq, decide_eq_false_iff_not]; omega) | (simp_all; done) | (simp_all <;> intros <;> omega), hK5 _ _ ?_⟩
  refine Wp.seqW fun K6 hK6 hW6 => ?_
  refine Wp.cond rfl ⟨⟩ (fun hc6 => ?_) (fun hc6 => ?_)
  rotate_left
  · refine Wp.exit ?_
    have hm := hk_27 _ (forL_end hm (ge_nat (by first | exact hc6 | simpa using hc6)))
    try dsimp only at hm
    simp only [thenQ, blockQ, ↓reduceIte]
    refine hW2 _ _ _ _ ?_ (hcut2 () hm)
    simp only [go_sem, simprocAttr]
    try simp [encB, encI_i64, encI_u8, encS, enc_api_File, enc_api_Machine, enc_api_Service, enc_api_Setting, List.map_set, List.map_replicate]
  have hlt6 := lt_nat (by first | exact hc6 | simpa using hc6)
  have hw6 := wrap_succ hlt6 hl_30
  obtain ⟨s_31, nx_28, hxs_31, hys_31, hnx_28, hm⟩ := forL_step hm hlt6
  replace hxs_31 := hxs_31 enc_api_Service
  refine Wp.skip ?_
  simp only [thenQ]
  refine hK6 _ _ ?_
  refine Wp.seqW fun K7 hK7 hW7 => ?_
  refine Wp.block ?_
  refine Wp.seqR fun K8 hK8 => ?_
  simp only [go_sem, simprocAttr, hw6, hxs_31]
  first
    | refine hK8 _ _ ?_
    | refine ⟨by (repeat' apply And.intro) <;> first | assumption | omega |  (intros; omega) | (intro hg; simp only [Bool.and_eq_true, Bool.or_eq_true, Bool.not_eq_true', decide_eq_true_eq, decide_eq_false_iff_not] at hg; omega) | (simp only [Bool.and_eq_true, Bool.or_eq_true, Bool.not_eq_true', Bool.and_eq_false_iff, Bool.or_eq_false_iff, Bool.not_eq_false', decide_eq_true_eq, decide_eq_false_iff_not]; omega) | (simp_all; done) | (simp_all <;> intros <;> omega), hK8 _ _ ?_⟩
  refine Wp.seqW fun K9 hK9 hW9 => ?_
  obtain ⟨r_32, hr_32, hm⟩ := call_elim hm
  refine Wp.seqR fun K10 hK10 => ?_
  simp only [go_sem, simprocAttr, hw6, hxs_31]
  try refine ⟨by (repeat' apply And.intro) <;> first | assumption | omega |  (intros; omega) | (intro hg; simp only [Bool.and_eq_true, Bool.or_eq_true, Bool.not_eq_true', decide_eq_true_eq, decide_eq_false_iff_not] at hg; omega) | (simp only [Bool.and_eq_true, Bool.or_eq_true, Bool.not_eq_true', Bool.and_eq_false_iff, Bool.or_eq_false_iff, Bool.not_eq_false', decide_eq_true_eq, decide_eq_false_iff_not]; omega) | (simp_all; done) | (simp_all <;> intros <;> omega), ?_⟩
  refine Rg.callX (av := ?av11) (g := true) (fun hg => ok_disk_serviceFault s_31 _ hr_32) ?ha11 ?hb11 ?hp11 ?hok11 ?hf11 ?cont11
  case ha11 =>
    simp only [go_sem, simprocAttr, hw6, hxs_31]
    exact Is.mk
  case hb11 =>
    simp only [go_sem, simprocAttr, hw6, hxs_31]
    exact Is.mk
  case hp11 =>
    simp only [go_sem, simprocAttr, hw6, hxs_31]
    exact Is.mk
  case hok11 =>
    simp only [go_sem, simprocAttr, hw6, hxs_31]
  case hf11 =>
    simp only [go_sem, simprocAttr, hw6, hxs_31]
    exact Is.mk
  intro hv11
  simp only [go_sem, simprocAttr, hw6, hxs_31]
  first
    | refine hK10 _ _ ?_
    | refine ⟨by (repeat' apply And.intro) <;> first | assumption | omega |  (intros; omega) | (intro hg; simp only [Bool.and_eq_true, Bool.or_eq_true, Bool.not_eq_true', decide_eq_true_eq, decide_eq_false_iff_not] at hg; omega) | (simp only [Bool.and_eq_true, Bool.or_eq_true, Bool.not_eq_true', Bool.and_eq_false_iff, Bool.or_eq_false_iff, Bool.not_eq_false', decide_eq_true_eq, decide_eq_false_iff_not]; omega) | (simp_all; done) | (simp_all <;> intros <;> omega), hK10 _ _ ?_⟩
  refine Wp.seqR fun K12 hK12 => ?_
  simp only [go_sem, simprocAttr, hw6, hxs_31]
  first
    | refine hK12 _ _ ?_
    | refine ⟨by (repeat' apply And.intro) <;> first | assumption | omega |  (intros; omega) | (intro hg; simp only [Bool.and_eq_true, Bool.or_eq_true, Bool.not_eq_true', decide_eq_true_eq, decide_eq_false_iff_not] at hg; omega) | (simp only [Bool.and_eq_true, Bool.or_eq_true, Bool.not_eq_true', Bool.and_eq_false_iff, Bool.or_eq_false_iff, Bool.not_eq_false', decide_eq_true_eq, decide_eq_false_iff_not]; omega) | (simp_all; done) | (simp_all <;> intros <;> omega), hK12 _ _ ?_⟩
  refine Wp.cond rfl ⟨⟩ (fun hc13 => ?_) (fun hc13 => ?_)
  · have hm := brT hm (by first | exact hc13 | simpa using hc13)
    refine Wp.seqR fun K14 hK14 => ?_
    simp only [go_sem, simprocAttr, hw6, hxs_31]
    first
      | refine hK14 _ _ ?_
      | refine ⟨by (repeat' apply And.intro) <;> first | assumption | omega |  (intros; omega) | (intro hg; simp only [Bool.and_eq_true, Bool.or_eq_true, Bool.not_eq_true', decide_eq_true_eq, decide_eq_false_iff_not] at hg; omega) | (simp only [Bool.and_eq_true, Bool.or_eq_true, Bool.not_eq_true', Bool.and_eq_false_iff, Bool.or_eq_false_iff, Bool.not_eq_false', decide_eq_true_eq, decide_eq_false_iff_not]; omega) | (simp_all; done) | (simp_all <;> intros <;> omega), hK14 _ _ ?_⟩
    refine Wp.ret ?_
    simp only [thenQ, blockQ]
    refine retQ_ret ?_
    cases hm
    simp only [go_sem, simprocAttr, hw6, hxs_31]
    try simp [encB, encI_i64, encI_u8, encS, enc_api_File, enc_api_Machine, enc_api_Service, enc_api_Setting, List.map_set, List.map_replicate]
  · have hm := brF hm (by first | exact hc13 | simpa using hc13)
    refine Wp.skip ?_
    simp only [thenQ, blockQ, ↓reduceIte]
    refine hK9 _ _ ?_
    obtain ⟨r_33, hr_33, hm⟩ := callG_elim hm
    obtain ⟨c_34, hm⟩ := chk_elim hm
    obtain ⟨r_35, hr_35, hm⟩ := callG_elim hm
    have hr_36 := getD_enc (l := l_1) (e := enc_api_Service) (d := (api_Service.mk [] [] false false)) (i := (IntKind.i64.wrap ((i_29 : Int) - 1)).toNat)
    simp only [enc_api_Service, List.map_nil] at hr_36
    refine Wp.seqD (plan := [(0, none), (1, none), (2, none), (3, none), (4, none), (5, none), (6, none), (7, none), (8, none), (9, none), (10, none), (11, none), (12, none), (13, none), (14, none)]) (by kernel_rfl) rfl (by kernel_rfl) fun K15 hK15 => ?_
    simp only [go_sem, simprocAttr, hw6, hxs_31, hr_36]
    try refine ⟨by (repeat' apply And.intro) <;> first | assumption | omega | (simp only [List.length_append, List.length_map, List.length_cons, List.length_nil, List.length_set, List.length_replicate] at c_34 ⊢; omega) | (intros; omega) | (intro hg; simp only [Bool.and_eq_true, Bool.or_eq_true, Bool.not_eq_true', decide_eq_true_eq, decide_eq_false_iff_not] at hg; omega) | (simp only [Bool.and_eq_true, Bool.or_eq_true, Bool.not_eq_true', Bool.and_eq_false_iff, Bool.or_eq_false_iff, Bool.not_eq_false', decide_eq_true_eq, decide_eq_false_iff_not]; omega) | (simp_all; done) | (simp_all <;> intros <;> omega), ?_⟩
    refine Dr.callF (av := ?av16) (g := decide (0 < (i_29 : Int))) (o := ?o16) (fun hg => ok_disk_nameOf s_31 _ (hr_33 hg)) ?hk16 ?ha16 ?hb16 ?hp16 ?hok16 ?hf16 ?cont16
    case hk16 =>
      simp only [go_sem, simprocAttr, hw6, hxs_31, hr_36]
      exact Is.mk
    case ha16 =>
      simp only [go_sem, simprocAttr, hw6, hxs_31, hr_36]
      exact Is.mk
    case hb16 =>
      simp only [go_sem, simprocAttr, hw6, hxs_31, hr_36]
      exact Is.mk
    case hp16 =>
      simp only [go_sem, simprocAttr, hw6, hxs_31, hr_36]
      exact Is.mk
    case hok16 =>
      simp only [go_sem, simprocAttr, hw6, hxs_31, hr_36]
    case hf16 =>
      simp only [go_sem, simprocAttr, hw6, hxs_31, hr_36]
      exact Is.mk
    simp only [go_sem, simprocAttr, hw6, hxs_31, hr_36]
    try refine ⟨by (repeat' apply And.intro) <;> first | assumption | omega | (simp only [List.length_append, List.length_map, List.length_cons, List.length_nil, List.length_set, List.length_replicate] at c_34 ⊢; omega) | (intros; omega) | (intro hg; simp only [Bool.and_eq_true, Bool.or_eq_true, Bool.not_eq_true', decide_eq_true_eq, decide_eq_false_iff_not] at hg; omega) | (simp only [Bool.and_eq_true, Bool.or_eq_true, Bool.not_eq_true', Bool.and_eq_false_iff, Bool.or_eq_false_iff, Bool.not_eq_false', decide_eq_true_eq, decide_eq_false_iff_not]; omega) | (simp_all; done) | (simp_all <;> intros <;> omega), ?_⟩
    refine Dr.callF (av := ?av17) (g := decide (0 < (i_29 : Int))) (o := ?o17) (fun hg => ok_disk_nameOf (api_Service.mk ((l_1.getD ((IntKind.i64.wrap ((i_29 : Int) - 1)).toNat) (api_Service.mk [] [] false false)).Name) ((l_1.getD ((IntKind.i64.wrap ((i_29 : Int) - 1)).toNat) (api_Service.mk [] [] false false)).Path) ((l_1.getD ((IntKind.i64.wrap ((i_29 : Int) - 1)).toNat) (api_Service.mk [] [] false false)).Auto) ((l_1.getD ((IntKind.i64.wrap ((i_29 : Int) - 1)).toNat) (api_Service.mk [] [] false false)).On)) _ (hr_35 hg)) ?hk17 ?ha17 ?hb17 ?hp17 ?hok17 ?hf17 ?cont17
    case hk17 =>
      simp only [go_sem, simprocAttr, hw6, hxs_31, hr_36]
      exact Is.mk
    case ha17 =>
      simp only [go_sem, simprocAttr, hw6, hxs_31, hr_36]
      exact Is.mk
    case hb17 =>
      simp only [go_sem, simprocAttr, hw6, hxs_31, hr_36]
      exact Is.mk
    case hp17 =>
      simp only [go_sem, simprocAttr, hw6, hxs_31, hr_36]
      exact Is.mk
    case hok17 =>
      simp only [go_sem, simprocAttr, hw6, hxs_31, hr_36]
    case hf17 =>
      simp only [go_sem, simprocAttr, hw6, hxs_31, hr_36]
      exact Is.mk
    simp only [go_sem, simprocAttr, hw6, hxs_31, hr_36]
    first
      | refine hK15 _ _ ?_
      | refine ⟨by (repeat' apply And.intro) <;> first | assumption | omega | (simp only [List.length_append, List.length_map, List.length_cons, List.length_nil, List.length_set, List.length_replicate] at c_34 ⊢; omega) | (intros; omega) | (intro hg; simp only [Bool.and_eq_true, Bool.or_eq_true, Bool.not_eq_true', decide_eq_true_eq, decide_eq_false_iff_not] at hg; omega) | (simp only [Bool.and_eq_true, Bool.or_eq_true, Bool.not_eq_true', Bool.and_eq_false_iff, Bool.or_eq_false_iff, Bool.not_eq_false', decide_eq_true_eq, decide_eq_false_iff_not]; omega) | (simp_all; done) | (simp_all <;> intros <;> omega), hK15 _ _ ?_⟩
    refine Wp.cond rfl ⟨⟩ (fun hc18 => ?_) (fun hc18 => ?_)
    · have hm := brT hm (by first | exact hc18 | simpa using hc18)
      refine Wp.seqR fun K19 hK19 => ?_
      simp only [go_sem, simprocAttr, hw6, hxs_31]
      first
        | refine hK19 _ _ ?_
        | refine ⟨by (repeat' apply And.intro) <;> first | assumption | omega |  (intros; omega) | (intro hg; simp only [Bool.and_eq_true, Bool.or_eq_true, Bool.not_eq_true', decide_eq_true_eq, decide_eq_false_iff_not] at hg; omega) | (simp only [Bool.and_eq_true, Bool.or_eq_true, Bool.not_eq_true', Bool.and_eq_false_iff, Bool.or_eq_false_iff, Bool.not_eq_false', decide_eq_true_eq, decide_eq_false_iff_not]; omega) | (simp_all; done) | (simp_all <;> intros <;> omega), hK19 _ _ ?_⟩
      refine Wp.ret ?_
      simp only [thenQ, blockQ]
      refine retQ_ret ?_
      cases hm
      simp only [go_sem, simprocAttr, hw6, hxs_31]
      try simp [encB, encI_i64, encI_u8, encS, enc_api_File, enc_api_Machine, enc_api_Service, enc_api_Setting, List.map_set, List.map_replicate]
    · have hm := brF hm (by first | exact hc18 | simpa using hc18)
      refine Wp.skip ?_
      simp only [thenQ, blockQ, ↓reduceIte]
      refine hK7 _ _ ?_
      refine Wp.region fun K20 hK20 => ?_
      simp only [go_sem, simprocAttr, hw6, hxs_31]
      first
        | refine hK20 _ _ ?_
        | refine ⟨by (repeat' apply And.intro) <;> first | assumption | omega |  (intros; omega) | (intro hg; simp only [Bool.and_eq_true, Bool.or_eq_true, Bool.not_eq_true', decide_eq_true_eq, decide_eq_false_iff_not] at hg; omega) | (simp only [Bool.and_eq_true, Bool.or_eq_true, Bool.not_eq_true', Bool.and_eq_false_iff, Bool.or_eq_false_iff, Bool.not_eq_false', decide_eq_true_eq, decide_eq_false_iff_not]; omega) | (simp_all; done) | (simp_all <;> intros <;> omega), hK20 _ _ ?_⟩
      simp only [thenQ, blockQ, ↓reduceIte]
      refine ⟨(), hlt6, hnx_28 _ hm, ?_⟩
      simp only [go_sem, simprocAttr, hw6, hxs_31]
      try simp [encB, encI_i64, encI_u8, encS, enc_api_File, enc_api_Machine, enc_api_Service, enc_api_Setting, List.map_set, List.map_replicate]
set_option maxRecDepth 100000 in
set_option maxHeartbeats 4000000 in
theorem ok_disk_Check (m_1 : api_Machine) (z : Int) (hm : disk_Check m_1 = some z) : Does Tryd.prog 9 [.agg [.p (.l (List.map enc_api_Setting m_1.Facts)), .p (.l (List.map enc_api_File m_1.Files)), .p (.l (List.map enc_api_Setting m_1.Settings)), .p (.l (List.map enc_api_Service m_1.Services))]] [] (fun r X => r = .p (.i .i64 z) ∧ X = []) := by
  unfold disk_Check at hm
  refine Does.of_wp 0 80 [.tmp 2] Tryd.func9 rfl (by decide) rfl rfl (Nat.le_of_ble_eq_true rfl) fun B => ?_
  refine Wp.seqR fun K1 hK1 => ?_
  simp only [go_sem, simprocAttr]
  first
    | refine hK1 _ _ ?_
    | refine ⟨by (repeat' apply And.intro) <;> first | assumption | omega |  (intros; omega) | (intro hg; simp only [Bool.and_eq_true, Bool.or_eq_true, Bool.not_eq_true', decide_eq_true_eq, decide_eq_false_iff_not] at hg; omega) | (simp only [Bool.and_eq_true, Bool.or_eq_true, Bool.not_eq_true', Bool.and_eq_false_iff, Bool.or_eq_false_iff, Bool.not_eq_false', decide_eq_true_eq, decide_eq_false_iff_not]; omega) | (simp_all; done) | (simp_all <;> intros <;> omega), hK1 _ _ ?_⟩
  refine Wp.seqW fun K2 hK2 hW2 => ?_
  refine Wp.seqR fun K3 hK3 => ?_
  simp only [go_sem, simprocAttr]
  first
    | refine hK3 _ _ ?_
    | refine ⟨by (repeat' apply And.intro) <;> first | assumption | omega |  (intros; omega) | (intro hg; simp only [Bool.and_eq_true, Bool.or_eq_true, Bool.not_eq_true', decide_eq_true_eq, decide_eq_false_iff_not] at hg; omega) | (simp only [Bool.and_eq_true, Bool.or_eq_true, Bool.not_eq_true', Bool.and_eq_false_iff, Bool.or_eq_false_iff, Bool.not_eq_false', decide_eq_true_eq, decide_eq_false_iff_not]; omega) | (simp_all; done) | (simp_all <;> intros <;> omega), hK3 _ _ ?_⟩
  refine Wp.cond rfl ⟨⟩ (fun hc4 => ?_) (fun hc4 => ?_)
  · have hm := brT hm (by first | exact hc4 | simpa using hc4)
    refine Wp.seqR fun K5 hK5 => ?_
    simp only [go_sem, simprocAttr]
    first
      | refine hK5 _ _ ?_
      | refine ⟨by (repeat' apply And.intro) <;> first | assumption | omega |  (intros; omega) | (intro hg; simp only [Bool.and_eq_true, Bool.or_eq_true, Bool.not_eq_true', decide_eq_true_eq, decide_eq_false_iff_not] at hg; omega) | (simp only [Bool.and_eq_true, Bool.or_eq_true, Bool.not_eq_true', Bool.and_eq_false_iff, Bool.or_eq_false_iff, Bool.not_eq_false', decide_eq_true_eq, decide_eq_false_iff_not]; omega) | (simp_all; done) | (simp_all <;> intros <;> omega), hK5 _ _ ?_⟩
    refine Wp.ret ?_
    simp only [thenQ, blockQ]
    refine retQ_ret ?_
    cases hm
    simp only [go_sem, simprocAttr]
    try simp [encB, encI_i64, encI_u8, encS, enc_api_File, enc_api_Machine, enc_api_Service, enc_api_Setting, List.map_set, List.map_replicate]
  · have hm := brF hm (by first | exact hc4 | simpa using hc4)
    refine Wp.skip ?_
    simp only [thenQ, blockQ, ↓reduceIte]
    refine hK2 _ _ ?_
    refine Wp.seqW fun K6 hK6 hW6 => ?_
    obtain ⟨r_2, hr_2, hm⟩ := call_elim hm
    refine Wp.seqR fun K7 hK7 => ?_
    simp only [go_sem, simprocAttr]
    try refine ⟨by (repeat' apply And.intro) <;> first | assumption | omega |  (intros; omega) | (intro hg; simp only [Bool.and_eq_true, Bool.or_eq_true, Bool.not_eq_true', decide_eq_true_eq, decide_eq_false_iff_not] at hg; omega) | (simp only [Bool.and_eq_true, Bool.or_eq_true, Bool.not_eq_true', Bool.and_eq_false_iff, Bool.or_eq_false_iff, Bool.not_eq_false', decide_eq_true_eq, decide_eq_false_iff_not]; omega) | (simp_all; done) | (simp_all <;> intros <;> omega), ?_⟩
    refine Rg.callX (av := ?av8) (g := true) (fun hg => ok_disk_eachFault_api_Setting_i1 m_1.Facts _ hr_2) ?ha8 ?hb8 ?hp8 ?hok8 ?hf8 ?cont8
    case ha8 =>
      simp only [go_sem, simprocAttr]
      exact Is.mk
    case hb8 =>
      simp only [go_sem, simprocAttr]
      exact Is.mk
    case hp8 =>
      simp only [go_sem, simprocAttr]
      exact Is.mk
    case hok8 =>
      simp only [go_sem, simprocAttr]
    case hf8 =>
      simp only [go_sem, simprocAttr]
      exact Is.mk
    intro hv8
    simp only [go_sem, simprocAttr]
    first
      | refine hK7 _ _ ?_
      | refine ⟨by (repeat' apply And.intro) <;> first | assumption | omega |  (intros; omega) | (intro hg; simp only [Bool.and_eq_true, Bool.or_eq_true, Bool.not_eq_true', decide_eq_true_eq, decide_eq_false_iff_not] at hg; omega) | (simp only [Bool.and_eq_true, Bool.or_eq_true, Bool.not_eq_true', Bool.and_eq_false_iff, Bool.or_eq_false_iff, Bool.not_eq_false', decide_eq_true_eq, decide_eq_false_iff_not]; omega) | (simp_all; done) | (simp_all <;> intros <;> omega), hK7 _ _ ?_⟩
    refine Wp.seqR fun K9 hK9 => ?_
    simp only [go_sem, simprocAttr]
    first
      | refine hK9 _ _ ?_
      | refine ⟨by (repeat' apply And.intro) <;> first | assumption | omega |  (intros; omega) | (intro hg; simp only [Bool.and_eq_true, Bool.or_eq_true, Bool.not_eq_true', decide_eq_true_eq, decide_eq_false_iff_not] at hg; omega) | (simp only [Bool.and_eq_true, Bool.or_eq_true, Bool.not_eq_true', Bool.and_eq_false_iff, Bool.or_eq_false_iff, Bool.not_eq_false', decide_eq_true_eq, decide_eq_false_iff_not]; omega) | (simp_all; done) | (simp_all <;> intros <;> omega), hK9 _ _ ?_⟩
    refine Wp.cond rfl ⟨⟩ (fun hc10 => ?_) (fun hc10 => ?_)
    · have hm := brT hm (by first | exact hc10 | simpa using hc10)
      refine Wp.seqR fun K11 hK11 => ?_
      simp only [go_sem, simprocAttr]
      first
        | refine hK11 _ _ ?_
        | refine ⟨by (repeat' apply And.intro) <;> first | assumption | omega |  (intros; omega) | (intro hg; simp only [Bool.and_eq_true, Bool.or_eq_true, Bool.not_eq_true', decide_eq_true_eq, decide_eq_false_iff_not] at hg; omega) | (simp only [Bool.and_eq_true, Bool.or_eq_true, Bool.not_eq_true', Bool.and_eq_false_iff, Bool.or_eq_false_iff, Bool.not_eq_false', decide_eq_true_eq, decide_eq_false_iff_not]; omega) | (simp_all; done) | (simp_all <;> intros <;> omega), hK11 _ _ ?_⟩
      refine Wp.ret ?_
      simp only [thenQ, blockQ]
      refine retQ_ret ?_
      cases hm
      simp only [go_sem, simprocAttr]
      try simp [encB, encI_i64, encI_u8, encS, enc_api_File, enc_api_Machine, enc_api_Service, enc_api_Setting, List.map_set, List.map_replicate]
    · have hm := brF hm (by first | exact hc10 | simpa using hc10)
      refine Wp.skip ?_
      simp only [thenQ, blockQ, ↓reduceIte]
      refine hK6 _ _ ?_
      refine Wp.seqR fun K12 hK12 => ?_
      simp only [go_sem, simprocAttr]
      first
        | refine hK12 _ _ ?_
        | refine ⟨by (repeat' apply And.intro) <;> first | assumption | omega |  (intros; omega) | (intro hg; simp only [Bool.and_eq_true, Bool.or_eq_true, Bool.not_eq_true', decide_eq_true_eq, decide_eq_false_iff_not] at hg; omega) | (simp only [Bool.and_eq_true, Bool.or_eq_true, Bool.not_eq_true', Bool.and_eq_false_iff, Bool.or_eq_false_iff, Bool.not_eq_false', decide_eq_true_eq, decide_eq_false_iff_not]; omega) | (simp_all; done) | (simp_all <;> intros <;> omega), hK12 _ _ ?_⟩
      refine Wp.seqR fun K13 hK13 => ?_
      simp only [go_sem, simprocAttr]
      first
        | refine hK13 _ _ ?_
        | refine ⟨by (repeat' apply And.intro) <;> first | assumption | omega |  (intros; omega) | (intro hg; simp only [Bool.and_eq_true, Bool.or_eq_true, Bool.not_eq_true', decide_eq_true_eq, decide_eq_false_iff_not] at hg; omega) | (simp only [Bool.and_eq_true, Bool.or_eq_true, Bool.not_eq_true', Bool.and_eq_false_iff, Bool.or_eq_false_iff, Bool.not_eq_false', decide_eq_true_eq, decide_eq_false_iff_not]; omega) | (simp_all; done) | (simp_all <;> intros <;> omega), hK13 _ _ ?_⟩
      refine Wp.seqW fun K14 hK14 hW14 => ?_
      obtain ⟨k_27, hk_27, hm⟩ := jp_elim hm
      have hcut14 : ∀ s, k_27 s = some z → K14 [(1, .ptr 0 0)] [.cells [.p (.l (List.map enc_api_Setting m_1.Facts)), .p (.l (List.map enc_api_File m_1.Files)), .p (.l (List.map enc_api_Setting m_1.Settings)), .p (.l (List.map enc_api_Service m_1.Services))]] := by
        intro s hs
        have hm := hk_27 _ hs
        clear hs
        try dsimp only at hm
        try dsimp only
        refine hK14 _ _ ?_
        refine Wp.seqW fun K15 hK15 hW15 => ?_
        obtain ⟨r_28, hr_28, hm⟩ := call_elim hm
        refine Wp.seqR fun K16 hK16 => ?_
        simp only [go_sem, simprocAttr]
        try refine ⟨by (repeat' apply And.intro) <;> first | assumption | omega |  (intros; omega) | (intro hg; simp only [Bool.and_eq_true, Bool.or_eq_true, Bool.not_eq_true', decide_eq_true_eq, decide_eq_false_iff_not] at hg; omega) | (simp only [Bool.and_eq_true, Bool.or_eq_true, Bool.not_eq_true', Bool.and_eq_false_iff, Bool.or_eq_false_iff, Bool.not_eq_false', decide_eq_true_eq, decide_eq_false_iff_not]; omega) | (simp_all; done) | (simp_all <;> intros <;> omega), ?_⟩
        refine Rg.callX (av := ?av17) (g := true) (fun hg => ok_disk_eachFault_api_Setting_i2 m_1.Settings _ hr_28) ?ha17 ?hb17 ?hp17 ?hok17 ?hf17 ?cont17
        case ha17 =>
          simp only [go_sem, simprocAttr]
          exact Is.mk
        case hb17 =>
          simp only [go_sem, simprocAttr]
          exact Is.mk
        case hp17 =>
          simp only [go_sem, simprocAttr]
          exact Is.mk
        case hok17 =>
          simp only [go_sem, simprocAttr]
        case hf17 =>
          simp only [go_sem, simprocAttr]
          exact Is.mk
        intro hv17
        simp only [go_sem, simprocAttr]
        first
          | refine hK16 _ _ ?_
          | refine ⟨by (repeat' apply And.intro) <;> first | assumption | omega |  (intros; omega) | (intro hg; simp only [Bool.and_eq_true, Bool.or_eq_true, Bool.not_eq_true', decide_eq_true_eq, decide_eq_false_iff_not] at hg; omega) | (simp only [Bool.and_eq_true, Bool.or_eq_true, Bool.not_eq_true', Bool.and_eq_false_iff, Bool.or_eq_false_iff, Bool.not_eq_false', decide_eq_true_eq, decide_eq_false_iff_not]; omega) | (simp_all; done) | (simp_all <;> intros <;> omega), hK16 _ _ ?_⟩
        refine Wp.seqR fun K18 hK18 => ?_
        simp only [go_sem, simprocAttr]
        first
          | refine hK18 _ _ ?_
          | refine ⟨by (repeat' apply And.intro) <;> first | assumption | omega |  (intros; omega) | (intro hg; simp only [Bool.and_eq_true, Bool.or_eq_true, Bool.not_eq_true', decide_eq_true_eq, decide_eq_false_iff_not] at hg; omega) | (simp only [Bool.and_eq_true, Bool.or_eq_true, Bool.not_eq_true', Bool.and_eq_false_iff, Bool.or_eq_false_iff, Bool.not_eq_false', decide_eq_true_eq, decide_eq_false_iff_not]; omega) | (simp_all; done) | (simp_all <;> intros <;> omega), hK18 _ _ ?_⟩
        refine Wp.cond rfl ⟨⟩ (fun hc19 => ?_) (fun hc19 => ?_)
        · have hm := brT hm (by first | exact hc19 | simpa using hc19)
          refine Wp.seqR fun K20 hK20 => ?_
          simp only [go_sem, simprocAttr]
          first
            | refine hK20 _ _ ?_
            | refine ⟨by (repeat' apply And.intro) <;> first | assumption | omega |  (intros; omega) | (intro hg; simp only [Bool.and_eq_true, Bool.or_eq_true, Bool.not_eq_true', decide_eq_true_eq, decide_eq_false_iff_not] at hg; omega) | (simp only [Bool.and_eq_true, Bool.or_eq_true, Bool.not_eq_true', Bool.and_eq_false_iff, Bool.or_eq_false_iff, Bool.not_eq_false', decide_eq_true_eq, decide_eq_false_iff_not]; omega) | (simp_all; done) | (simp_all <;> intros <;> omega), hK20 _ _ ?_⟩
          refine Wp.ret ?_
          simp only [thenQ, blockQ]
          refine retQ_ret ?_
          cases hm
          simp only [go_sem, simprocAttr]
          try simp [encB, encI_i64, encI_u8, encS, enc_api_File, enc_api_Machine, enc_api_Service, enc_api_Setting, List.map_set, List.map_replicate]
        · have hm := brF hm (by first | exact hc19 | simpa using hc19)
          refine Wp.skip ?_
          simp only [thenQ, blockQ, ↓reduceIte]
          refine hK15 _ _ ?_
          obtain ⟨r_29, hr_29, hm⟩ := call_elim hm
          refine Wp.seqR fun K21 hK21 => ?_
          simp only [go_sem, simprocAttr]
          try refine ⟨by (repeat' apply And.intro) <;> first | assumption | omega |  (intros; omega) | (intro hg; simp only [Bool.and_eq_true, Bool.or_eq_true, Bool.not_eq_true', decide_eq_true_eq, decide_eq_false_iff_not] at hg; omega) | (simp only [Bool.and_eq_true, Bool.or_eq_true, Bool.not_eq_true', Bool.and_eq_false_iff, Bool.or_eq_false_iff, Bool.not_eq_false', decide_eq_true_eq, decide_eq_false_iff_not]; omega) | (simp_all; done) | (simp_all <;> intros <;> omega), ?_⟩
          refine Rg.callX (av := ?av22) (g := true) (fun hg => ok_disk_eachFault_api_Service_i1 m_1.Services _ hr_29) ?ha22 ?hb22 ?hp22 ?hok22 ?hf22 ?cont22
          case ha22 =>
            simp only [go_sem, simprocAttr]
            exact Is.mk
          case hb22 =>
            simp only [go_sem, simprocAttr]
            exact Is.mk
          case hp22 =>
            simp only [go_sem, simprocAttr]
            exact Is.mk
          case hok22 =>
            simp only [go_sem, simprocAttr]
          case hf22 =>
            simp only [go_sem, simprocAttr]
            exact Is.mk
          intro hv22
          simp only [go_sem, simprocAttr]
          first
            | refine hK21 _ _ ?_
            | refine ⟨by (repeat' apply And.intro) <;> first | assumption | omega |  (intros; omega) | (intro hg; simp only [Bool.and_eq_true, Bool.or_eq_true, Bool.not_eq_true', decide_eq_true_eq, decide_eq_false_iff_not] at hg; omega) | (simp only [Bool.and_eq_true, Bool.or_eq_true, Bool.not_eq_true', Bool.and_eq_false_iff, Bool.or_eq_false_iff, Bool.not_eq_false', decide_eq_true_eq, decide_eq_false_iff_not]; omega) | (simp_all; done) | (simp_all <;> intros <;> omega), hK21 _ _ ?_⟩
          refine Wp.ret ?_
          refine retQ_ret ?_
          cases hm
          simp only [go_sem, simprocAttr]
          try simp [encB, encI_i64, encI_u8, encS, enc_api_File, enc_api_Machine, enc_api_Service, enc_api_Setting, List.map_set, List.map_replicate]
      clear hK14 hk_27
      refine Wp.seqR fun K23 hK23 => ?_
      simp only [go_sem, simprocAttr]
      first
        | refine hK23 _ _ ?_
        | refine ⟨by (repeat' apply And.intro) <;> first | assumption | omega |  (intros; omega) | (intro hg; simp only [Bool.and_eq_true, Bool.or_eq_true, Bool.not_eq_true', decide_eq_true_eq, decide_eq_false_iff_not] at hg; omega) | (simp only [Bool.and_eq_true, Bool.or_eq_true, Bool.not_eq_true', Bool.and_eq_false_iff, Bool.or_eq_false_iff, Bool.not_eq_false', decide_eq_true_eq, decide_eq_false_iff_not]; omega) | (simp_all; done) | (simp_all <;> intros <;> omega), hK23 _ _ ?_⟩
      refine Wp.block ?_
      obtain ⟨k_45, hk_45, hm⟩ := forL_cont hm
      refine Wp.fact 40 fun hl_48 => ?_
      replace hl_48 : m_1.Files.length ≤ 274877906944 := by
        simp only [go_sem, simprocAttr, List.length_map] at hl_48
        omega
      refine Wp.forL (fun i_47 s => [(1, .ptr 0 0), (4, .p (.s s.1)), (5, .ptr 2 0), (40, .p (.l (List.map enc_api_File m_1.Files))), (41, .p (.i .i64 (m_1.Files.length : Int))), (42, .p (.i .i64 (i_47 : Int)))]) (fun i_47 s => [.cells [.p (.l (List.map enc_api_Setting m_1.Facts)), .p (.l (List.map enc_api_File m_1.Files)), .p (.l (List.map enc_api_Setting m_1.Settings)), .p (.l (List.map enc_api_Service m_1.Services))], .mp false (encM Dt.s encB s.2), .cells [.mp 1]]) ?_ hm ?_
      ·
        simp only [go_sem, simprocAttr]
        try simp [encB, encI_i64, encI_u8, encS, enc_api_File, enc_api_Machine, enc_api_Service, enc_api_Setting, List.map_set, List.map_replicate]
      clear hm
      intro i_47 s hii_47 hm
      obtain ⟨before_37, m1_39⟩ := s
      try dsimp only at hm
      try dsimp only
      refine Wp.seqR fun K24 hK24 => ?_
      simp only [go_sem, simprocAttr]
      first
        | refine hK24 _ _ ?_
        | refine ⟨by (repeat' apply And.intro) <;> first | assumption | omega |  (intros; omega) | (intro hg; simp only [Bool.and_eq_true, Bool.or_eq_true, Bool.not_eq_true', decide_eq_true_eq, decide_eq_false_iff_not] at hg; omega) | (simp only [Bool.and_eq_true, Bool.or_eq_true, Bool.not_eq_true', Bool.and_eq_false_iff, Bool.or_eq_false_iff, Bool.not_eq_false', decide_eq_true_eq, decide_eq_false_iff_not]; omega) | (simp_all; done) | (simp_all <;> intros <;> omega), hK24 _ _ ?_⟩
      refine Wp.seqW fun K25 hK25 hW25 => ?_
      refine Wp.cond rfl ⟨⟩ (fun hc25 => ?_) (fun hc25 => ?_)
      rotate_left
      · refine Wp.exit ?_
        have hm := hk_45 _ (forL_end hm (ge_nat (by first | exact hc25 | simpa using hc25)))
        try dsimp only at hm
        simp only [thenQ, blockQ, ↓reduceIte]
        refine hW14 _ _ _ _ ?_ (hcut14 () hm)
        simp only [go_sem, simprocAttr]
        try simp [encB, encI_i64, encI_u8, encS, enc_api_File, enc_api_Machine, enc_api_Service, enc_api_Setting, List.map_set, List.map_replicate]
      have hlt25 := lt_nat (by first | exact hc25 | simpa using hc25)
      have hw25 := wrap_succ hlt25 hl_48
      obtain ⟨f_49, nx_46, hxf_49, hyf_49, hnx_46, hm⟩ := forL_step hm hlt25
      replace hxf_49 := hxf_49 enc_api_File
      refine Wp.skip ?_
      simp only [thenQ]
      refine hK25 _ _ ?_
      refine Wp.seqW fun K26 hK26 hW26 => ?_
      refine Wp.block ?_
      refine Wp.seqR fun K27 hK27 => ?_
      simp only [go_sem, simprocAttr, hw25, hxf_49]
      first
        | refine hK27 _ _ ?_
        | refine ⟨by (repeat' apply And.intro) <;> first | assumption | omega |  (intros; omega) | (intro hg; simp only [Bool.and_eq_true, Bool.or_eq_true, Bool.not_eq_true', decide_eq_true_eq, decide_eq_false_iff_not] at hg; omega) | (simp only [Bool.and_eq_true, Bool.or_eq_true, Bool.not_eq_true', Bool.and_eq_false_iff, Bool.or_eq_false_iff, Bool.not_eq_false', decide_eq_true_eq, decide_eq_false_iff_not]; omega) | (simp_all; done) | (simp_all <;> intros <;> omega), hK27 _ _ ?_⟩
      refine Wp.seqW fun K28 hK28 hW28 => ?_
      obtain ⟨r_50, hr_50, hm⟩ := call_elim hm
      refine Wp.seqR fun K29 hK29 => ?_
      simp only [go_sem, simprocAttr, hw25, hxf_49]
      try refine ⟨by (repeat' apply And.intro) <;> first | assumption | omega |  (intros; omega) | (intro hg; simp only [Bool.and_eq_true, Bool.or_eq_true, Bool.not_eq_true', decide_eq_true_eq, decide_eq_false_iff_not] at hg; omega) | (simp only [Bool.and_eq_true, Bool.or_eq_true, Bool.not_eq_true', Bool.and_eq_false_iff, Bool.or_eq_false_iff, Bool.not_eq_false', decide_eq_true_eq, decide_eq_false_iff_not]; omega) | (simp_all; done) | (simp_all <;> intros <;> omega), ?_⟩
      refine Rg.callX (av := ?av30) (g := true) (fun hg => ok_disk_fileFault f_49 _ hr_50) ?ha30 ?hb30 ?hp30 ?hok30 ?hf30 ?cont30
      case ha30 =>
        simp only [go_sem, simprocAttr, hw25, hxf_49]
        exact Is.mk
      case hb30 =>
        simp only [go_sem, simprocAttr, hw25, hxf_49]
        exact Is.mk
      case hp30 =>
        simp only [go_sem, simprocAttr, hw25, hxf_49]
        exact Is.mk
      case hok30 =>
        simp only [go_sem, simprocAttr, hw25, hxf_49]
      case hf30 =>
        simp only [go_sem, simprocAttr, hw25, hxf_49]
        exact Is.mk
      intro hv30
      simp only [go_sem, simprocAttr, hw25, hxf_49]
      first
        | refine hK29 _ _ ?_
        | refine ⟨by (repeat' apply And.intro) <;> first | assumption | omega |  (intros; omega) | (intro hg; simp only [Bool.and_eq_true, Bool.or_eq_true, Bool.not_eq_true', decide_eq_true_eq, decide_eq_false_iff_not] at hg; omega) | (simp only [Bool.and_eq_true, Bool.or_eq_true, Bool.not_eq_true', Bool.and_eq_false_iff, Bool.or_eq_false_iff, Bool.not_eq_false', decide_eq_true_eq, decide_eq_false_iff_not]; omega) | (simp_all; done) | (simp_all <;> intros <;> omega), hK29 _ _ ?_⟩
      refine Wp.seqR fun K31 hK31 => ?_
      simp only [go_sem, simprocAttr, hw25, hxf_49]
      first
        | refine hK31 _ _ ?_
        | refine ⟨by (repeat' apply And.intro) <;> first | assumption | omega |  (intros; omega) | (intro hg; simp only [Bool.and_eq_true, Bool.or_eq_true, Bool.not_eq_true', decide_eq_true_eq, decide_eq_false_iff_not] at hg; omega) | (simp only [Bool.and_eq_true, Bool.or_eq_true, Bool.not_eq_true', Bool.and_eq_false_iff, Bool.or_eq_false_iff, Bool.not_eq_false', decide_eq_true_eq, decide_eq_false_iff_not]; omega) | (simp_all; done) | (simp_all <;> intros <;> omega), hK31 _ _ ?_⟩
      refine Wp.cond rfl ⟨⟩ (fun hc32 => ?_) (fun hc32 => ?_)
      · have hm := brT hm (by first | exact hc32 | simpa using hc32)
        refine Wp.seqR fun K33 hK33 => ?_
        simp only [go_sem, simprocAttr, hw25, hxf_49]
        first
          | refine hK33 _ _ ?_
          | refine ⟨by (repeat' apply And.intro) <;> first | assumption | omega |  (intros; omega) | (intro hg; simp only [Bool.and_eq_true, Bool.or_eq_true, Bool.not_eq_true', decide_eq_true_eq, decide_eq_false_iff_not] at hg; omega) | (simp only [Bool.and_eq_true, Bool.or_eq_true, Bool.not_eq_true', Bool.and_eq_false_iff, Bool.or_eq_false_iff, Bool.not_eq_false', decide_eq_true_eq, decide_eq_false_iff_not]; omega) | (simp_all; done) | (simp_all <;> intros <;> omega), hK33 _ _ ?_⟩
        refine Wp.ret ?_
        simp only [thenQ, blockQ]
        refine retQ_ret ?_
        cases hm
        simp only [go_sem, simprocAttr, hw25, hxf_49]
        try simp [encB, encI_i64, encI_u8, encS, enc_api_File, enc_api_Machine, enc_api_Service, enc_api_Setting, List.map_set, List.map_replicate]
      · have hm := brF hm (by first | exact hc32 | simpa using hc32)
        refine Wp.skip ?_
        simp only [thenQ, blockQ, ↓reduceIte]
        refine hK28 _ _ ?_
        refine Wp.seqW fun K34 hK34 hW34 => ?_
        refine Wp.seqR fun K35 hK35 => ?_
        simp only [go_sem, simprocAttr, hw25, hxf_49]
        first
          | refine hK35 _ _ ?_
          | refine ⟨by (repeat' apply And.intro) <;> first | assumption | omega |  (intros; omega) | (intro hg; simp only [Bool.and_eq_true, Bool.or_eq_true, Bool.not_eq_true', decide_eq_true_eq, decide_eq_false_iff_not] at hg; omega) | (simp only [Bool.and_eq_true, Bool.or_eq_true, Bool.not_eq_true', Bool.and_eq_false_iff, Bool.or_eq_false_iff, Bool.not_eq_false', decide_eq_true_eq, decide_eq_false_iff_not]; omega) | (simp_all; done) | (simp_all <;> intros <;> omega), hK35 _ _ ?_⟩
        refine Wp.cond rfl ⟨⟩ (fun hc36 => ?_) (fun hc36 => ?_)
        · have hm := brT hm (by first | exact hc36 | simpa using hc36)
          refine Wp.seqR fun K37 hK37 => ?_
          simp only [go_sem, simprocAttr, hw25, hxf_49]
          first
            | refine hK37 _ _ ?_
            | refine ⟨by (repeat' apply And.intro) <;> first | assumption | omega |  (intros; omega) | (intro hg; simp only [Bool.and_eq_true, Bool.or_eq_true, Bool.not_eq_true', decide_eq_true_eq, decide_eq_false_iff_not] at hg; omega) | (simp only [Bool.and_eq_true, Bool.or_eq_true, Bool.not_eq_true', Bool.and_eq_false_iff, Bool.or_eq_false_iff, Bool.not_eq_false', decide_eq_true_eq, decide_eq_false_iff_not]; omega) | (simp_all; done) | (simp_all <;> intros <;> omega), hK37 _ _ ?_⟩
          refine Wp.ret ?_
          simp only [thenQ, blockQ]
          refine retQ_ret ?_
          cases hm
          simp only [go_sem, simprocAttr, hw25, hxf_49]
          try simp [encB, encI_i64, encI_u8, encS, enc_api_File, enc_api_Machine, enc_api_Service, enc_api_Setting, List.map_set, List.map_replicate]
        · have hm := brF hm (by first | exact hc36 | simpa using hc36)
          refine Wp.skip ?_
          simp only [thenQ, blockQ, ↓reduceIte]
          refine hK34 _ _ ?_
          refine Wp.seqW fun K38 hK38 hW38 => ?_
          obtain ⟨r_51, hr_51, hm⟩ := call_elim hm
          refine Wp.seqR fun K39 hK39 => ?_
          simp only [go_sem, simprocAttr, hw25, hxf_49]
          try refine ⟨by (repeat' apply And.intro) <;> first | assumption | omega |  (intros; omega) | (intro hg; simp only [Bool.and_eq_true, Bool.or_eq_true, Bool.not_eq_true', decide_eq_true_eq, decide_eq_false_iff_not] at hg; omega) | (simp only [Bool.and_eq_true, Bool.or_eq_true, Bool.not_eq_true', Bool.and_eq_false_iff, Bool.or_eq_false_iff, Bool.not_eq_false', decide_eq_true_eq, decide_eq_false_iff_not]; omega) | (simp_all; done) | (simp_all <;> intros <;> omega), ?_⟩
          refine Rg.callR (av := ?av40) (g := true) [2, 1] (fun hg => ok_disk_above_i1 f_49.Path m1_39 _ hr_51) ?ha40 ?hb40 ?hp40 ?hX40 ?hids40 ?hkp40 ?hok40 ?cont40
          case ha40 =>
            simp only [go_sem, simprocAttr, hw25, hxf_49]
            exact Is.mk
          case hb40 =>
            simp only [go_sem, simprocAttr, hw25, hxf_49]
            exact Is.mk
          case hp40 =>
            simp only [go_sem, simprocAttr, hw25, hxf_49]
            exact Is.mk
          case hX40 =>
            simp only [go_sem, simprocAttr, hw25, hxf_49]
            exact Is.mk
          case hids40 => simp only [go_sem, simprocAttr, hw25, hxf_49]
          case hkp40 => simp only [go_sem, simprocAttr, hw25, hxf_49]
          case hok40 => simp only [go_sem, simprocAttr, hw25, hxf_49]
          simp only [go_sem, simprocAttr, hw25, hxf_49]
          first
            | refine hK39 _ _ ?_
            | refine ⟨by (repeat' apply And.intro) <;> first | assumption | omega |  (intros; omega) | (intro hg; simp only [Bool.and_eq_true, Bool.or_eq_true, Bool.not_eq_true', decide_eq_true_eq, decide_eq_false_iff_not] at hg; omega) | (simp only [Bool.and_eq_true, Bool.or_eq_true, Bool.not_eq_true', Bool.and_eq_false_iff, Bool.or_eq_false_iff, Bool.not_eq_false', decide_eq_true_eq, decide_eq_false_iff_not]; omega) | (simp_all; done) | (simp_all <;> intros <;> omega), hK39 _ _ ?_⟩
          refine Wp.cond rfl ⟨⟩ (fun hc41 => ?_) (fun hc41 => ?_)
          · have hm := brT hm (by first | exact hc41 | simpa using hc41)
            refine Wp.seqR fun K42 hK42 => ?_
            simp only [go_sem, simprocAttr, hw25, hxf_49]
            first
              | refine hK42 _ _ ?_
              | refine ⟨by (repeat' apply And.intro) <;> first | assumption | omega |  (intros; omega) | (intro hg; simp only [Bool.and_eq_true, Bool.or_eq_true, Bool.not_eq_true', decide_eq_true_eq, decide_eq_false_iff_not] at hg; omega) | (simp only [Bool.and_eq_true, Bool.or_eq_true, Bool.not_eq_true', Bool.and_eq_false_iff, Bool.or_eq_false_iff, Bool.not_eq_false', decide_eq_true_eq, decide_eq_false_iff_not]; omega) | (simp_all; done) | (simp_all <;> intros <;> omega), hK42 _ _ ?_⟩
            refine Wp.ret ?_
            simp only [thenQ, blockQ]
            refine retQ_ret ?_
            cases hm
            simp only [go_sem, simprocAttr, hw25, hxf_49]
            try simp [encB, encI_i64, encI_u8, encS, enc_api_File, enc_api_Machine, enc_api_Service, enc_api_Setting, List.map_set, List.map_replicate]
          · have hm := brF hm (by first | exact hc41 | simpa using hc41)
            refine Wp.skip ?_
            simp only [thenQ, blockQ, ↓reduceIte]
            refine hK38 _ _ ?_
            obtain ⟨c_53, hm⟩ := chk_elim hm
            have hp_52 := mset_enc (e := encB) keq_s m1_39 f_49.Path true
            simp only [encB] at hp_52
            refine Wp.regD (plan := [(0, none), (1, none), (2, none), (3, none), (4, none), (5, none), (6, some [])]) (by kernel_rfl) rfl (by kernel_rfl) fun K43 hK43 => ?_
            simp only [go_sem, simprocAttr, hw25, hxf_49, hp_52]
            first
              | refine hK43 _ _ ?_
              | refine ⟨by (repeat' apply And.intro) <;> first | assumption | omega | (simp only [List.length_append, List.length_map, List.length_cons, List.length_nil, List.length_set, List.length_replicate] at c_53 ⊢; omega) | (intros; omega) | (intro hg; simp only [Bool.and_eq_true, Bool.or_eq_true, Bool.not_eq_true', decide_eq_true_eq, decide_eq_false_iff_not] at hg; omega) | (simp only [Bool.and_eq_true, Bool.or_eq_true, Bool.not_eq_true', Bool.and_eq_false_iff, Bool.or_eq_false_iff, Bool.not_eq_false', decide_eq_true_eq, decide_eq_false_iff_not]; omega) | (simp_all; done) | (simp_all <;> intros <;> omega), hK43 _ _ ?_⟩
            simp only [thenQ, blockQ, ↓reduceIte]
            refine hK26 _ _ ?_
            refine Wp.region fun K44 hK44 => ?_
            simp only [go_sem, simprocAttr, hw25, hxf_49]
            first
              | refine hK44 _ _ ?_
              | refine ⟨by (repeat' apply And.intro) <;> first | assumption | omega |  (intros; omega) | (intro hg; simp only [Bool.and_eq_true, Bool.or_eq_true, Bool.not_eq_true', decide_eq_true_eq, decide_eq_false_iff_not] at hg; omega) | (simp only [Bool.and_eq_true, Bool.or_eq_true, Bool.not_eq_true', Bool.and_eq_false_iff, Bool.or_eq_false_iff, Bool.not_eq_false', decide_eq_true_eq, decide_eq_false_iff_not]; omega) | (simp_all; done) | (simp_all <;> intros <;> omega), hK44 _ _ ?_⟩
            simp only [thenQ, blockQ, ↓reduceIte]
            refine ⟨(f_49.Path, aset m1_39 f_49.Path true), hlt25, hnx_46 _ hm, ?_⟩
            simp only [go_sem, simprocAttr, hw25, hxf_49]
            try simp [encB, encI_i64, encI_u8, encS, enc_api_File, enc_api_Machine, enc_api_Service, enc_api_Setting, List.map_set, List.map_replicate]
set_option maxRecDepth 100000 in
set_option maxHeartbeats 4000000 in
theorem ok_disk_Size (m_1 : api_Machine) (z : Int × Int) (hm : disk_Size m_1 = some z) : Does Tryd.prog 10 [.agg [.p (.l (List.map enc_api_Setting m_1.Facts)), .p (.l (List.map enc_api_File m_1.Files)), .p (.l (List.map enc_api_Setting m_1.Settings)), .p (.l (List.map enc_api_Service m_1.Services))]] [] (fun r X => r = .tup [.p (.i .i64 z.1), .p (.i .i64 z.2)] ∧ X = []) := by
  unfold disk_Size at hm
  refine Does.of_wp 0 27 [.tmp 2, .tmp 3] Tryd.func10 rfl (by decide) rfl rfl (Nat.le_of_ble_eq_true rfl) fun B => ?_
  refine Wp.seqR fun K1 hK1 => ?_
  simp only [go_sem, simprocAttr]
  first
    | refine hK1 _ _ ?_
    | refine ⟨by (repeat' apply And.intro) <;> first | assumption | omega |  (intros; omega) | (intro hg; simp only [Bool.and_eq_true, Bool.or_eq_true, Bool.not_eq_true', decide_eq_true_eq, decide_eq_false_iff_not] at hg; omega) | (simp only [Bool.and_eq_true, Bool.or_eq_true, Bool.not_eq_true', Bool.and_eq_false_iff, Bool.or_eq_false_iff, Bool.not_eq_false', decide_eq_true_eq, decide_eq_false_iff_not]; omega) | (simp_all; done) | (simp_all <;> intros <;> omega), hK1 _ _ ?_⟩
  refine Wp.seqW fun K2 hK2 hW2 => ?_
  obtain ⟨r_2, hr_2, hm⟩ := call_elim hm
  refine Wp.seqR fun K3 hK3 => ?_
  simp only [go_sem, simprocAttr]
  try refine ⟨by (repeat' apply And.intro) <;> first | assumption | omega |  (intros; omega) | (intro hg; simp only [Bool.and_eq_true, Bool.or_eq_true, Bool.not_eq_true', decide_eq_true_eq, decide_eq_false_iff_not] at hg; omega) | (simp only [Bool.and_eq_true, Bool.or_eq_true, Bool.not_eq_true', Bool.and_eq_false_iff, Bool.or_eq_false_iff, Bool.not_eq_false', decide_eq_true_eq, decide_eq_false_iff_not]; omega) | (simp_all; done) | (simp_all <;> intros <;> omega), ?_⟩
  refine Rg.callX (av := ?av4) (g := true) (fun hg => ok_disk_Check m_1 _ hr_2) ?ha4 ?hb4 ?hp4 ?hok4 ?hf4 ?cont4
  case ha4 =>
    simp only [go_sem, simprocAttr]
    exact Is.mk
  case hb4 =>
    simp only [go_sem, simprocAttr]
    exact Is.mk
  case hp4 =>
    simp only [go_sem, simprocAttr]
    exact Is.mk
  case hok4 =>
    simp only [go_sem, simprocAttr]
  case hf4 =>
    simp only [go_sem, simprocAttr]
    exact Is.mk
  intro hv4
  simp only [go_sem, simprocAttr]
  first
    | refine hK3 _ _ ?_
    | refine ⟨by (repeat' apply And.intro) <;> first | assumption | omega |  (intros; omega) | (intro hg; simp only [Bool.and_eq_true, Bool.or_eq_true, Bool.not_eq_true', decide_eq_true_eq, decide_eq_false_iff_not] at hg; omega) | (simp only [Bool.and_eq_true, Bool.or_eq_true, Bool.not_eq_true', Bool.and_eq_false_iff, Bool.or_eq_false_iff, Bool.not_eq_false', decide_eq_true_eq, decide_eq_false_iff_not]; omega) | (simp_all; done) | (simp_all <;> intros <;> omega), hK3 _ _ ?_⟩
  refine Wp.seqR fun K5 hK5 => ?_
  simp only [go_sem, simprocAttr]
  first
    | refine hK5 _ _ ?_
    | refine ⟨by (repeat' apply And.intro) <;> first | assumption | omega |  (intros; omega) | (intro hg; simp only [Bool.and_eq_true, Bool.or_eq_true, Bool.not_eq_true', decide_eq_true_eq, decide_eq_false_iff_not] at hg; omega) | (simp only [Bool.and_eq_true, Bool.or_eq_true, Bool.not_eq_true', Bool.and_eq_false_iff, Bool.or_eq_false_iff, Bool.not_eq_false', decide_eq_true_eq, decide_eq_false_iff_not]; omega) | (simp_all; done) | (simp_all <;> intros <;> omega), hK5 _ _ ?_⟩
  refine Wp.cond rfl ⟨⟩ (fun hc6 => ?_) (fun hc6 => ?_)
  · have hm := brT hm (by first | exact hc6 | simpa using hc6)
    refine Wp.seqR fun K7 hK7 => ?_
    simp only [go_sem, simprocAttr]
    first
      | refine hK7 _ _ ?_
      | refine ⟨by (repeat' apply And.intro) <;> first | assumption | omega |  (intros; omega) | (intro hg; simp only [Bool.and_eq_true, Bool.or_eq_true, Bool.not_eq_true', decide_eq_true_eq, decide_eq_false_iff_not] at hg; omega) | (simp only [Bool.and_eq_true, Bool.or_eq_true, Bool.not_eq_true', Bool.and_eq_false_iff, Bool.or_eq_false_iff, Bool.not_eq_false', decide_eq_true_eq, decide_eq_false_iff_not]; omega) | (simp_all; done) | (simp_all <;> intros <;> omega), hK7 _ _ ?_⟩
    refine Wp.ret ?_
    simp only [thenQ, blockQ]
    refine retQ_ret ?_
    cases hm
    simp only [go_sem, simprocAttr]
    try simp [encB, encI_i64, encI_u8, encS, enc_api_File, enc_api_Machine, enc_api_Service, enc_api_Setting, List.map_set, List.map_replicate]
  · have hm := brF hm (by first | exact hc6 | simpa using hc6)
    refine Wp.skip ?_
    simp only [thenQ, blockQ, ↓reduceIte]
    refine hK2 _ _ ?_
    refine Wp.seqR fun K8 hK8 => ?_
    simp only [go_sem, simprocAttr]
    first
      | refine hK8 _ _ ?_
      | refine ⟨by (repeat' apply And.intro) <;> first | assumption | omega |  (intros; omega) | (intro hg; simp only [Bool.and_eq_true, Bool.or_eq_true, Bool.not_eq_true', decide_eq_true_eq, decide_eq_false_iff_not] at hg; omega) | (simp only [Bool.and_eq_true, Bool.or_eq_true, Bool.not_eq_true', Bool.and_eq_false_iff, Bool.or_eq_false_iff, Bool.not_eq_false', decide_eq_true_eq, decide_eq_false_iff_not]; omega) | (simp_all; done) | (simp_all <;> intros <;> omega), hK8 _ _ ?_⟩
    refine Wp.seqW fun K9 hK9 hW9 => ?_
    obtain ⟨k_12, hk_12, hm⟩ := jp_elim hm
    have hcut9 : ∀ s, k_12 s = some z → K9 [(5, .p (.i .i64 s))] [] := by
      intro n_11 hs
      have hm := hk_12 _ hs
      clear hs
      try dsimp only at hm
      try dsimp only
      refine hK9 _ _ ?_
      refine Wp.seqR fun K10 hK10 => ?_
      simp only [go_sem, simprocAttr]
      first
        | refine hK10 _ _ ?_
        | refine ⟨by (repeat' apply And.intro) <;> first | assumption | omega |  (intros; omega) | (intro hg; simp only [Bool.and_eq_true, Bool.or_eq_true, Bool.not_eq_true', decide_eq_true_eq, decide_eq_false_iff_not] at hg; omega) | (simp only [Bool.and_eq_true, Bool.or_eq_true, Bool.not_eq_true', Bool.and_eq_false_iff, Bool.or_eq_false_iff, Bool.not_eq_false', decide_eq_true_eq, decide_eq_false_iff_not]; omega) | (simp_all; done) | (simp_all <;> intros <;> omega), hK10 _ _ ?_⟩
      refine Wp.ret ?_
      refine retQ_ret ?_
      cases hm
      simp only [go_sem, simprocAttr]
      try simp [encB, encI_i64, encI_u8, encS, enc_api_File, enc_api_Machine, enc_api_Service, enc_api_Setting, List.map_set, List.map_replicate]
    clear hK9 hk_12
    refine Wp.seqR fun K11 hK11 => ?_
    simp only [go_sem, simprocAttr]
    first
      | refine hK11 _ _ ?_
      | refine ⟨by (repeat' apply And.intro) <;> first | assumption | omega |  (intros; omega) | (intro hg; simp only [Bool.and_eq_true, Bool.or_eq_true, Bool.not_eq_true', decide_eq_true_eq, decide_eq_false_iff_not] at hg; omega) | (simp only [Bool.and_eq_true, Bool.or_eq_true, Bool.not_eq_true', Bool.and_eq_false_iff, Bool.or_eq_false_iff, Bool.not_eq_false', decide_eq_true_eq, decide_eq_false_iff_not]; omega) | (simp_all; done) | (simp_all <;> intros <;> omega), hK11 _ _ ?_⟩
    refine Wp.block ?_
    obtain ⟨k_16, hk_16, hm⟩ := forL_cont hm
    refine Wp.fact 14 fun hl_19 => ?_
    replace hl_19 : m_1.Files.length ≤ 274877906944 := by
      simp only [go_sem, simprocAttr, List.length_map] at hl_19
      omega
    refine Wp.forL (fun i_18 s => [(5, .p (.i .i64 s)), (14, .p (.l (List.map enc_api_File m_1.Files))), (15, .p (.i .i64 (m_1.Files.length : Int))), (16, .p (.i .i64 (i_18 : Int)))]) (fun i_18 s => [.cells [.p (.l (List.map enc_api_Setting m_1.Facts)), .p (.l (List.map enc_api_File m_1.Files)), .p (.l (List.map enc_api_Setting m_1.Settings)), .p (.l (List.map enc_api_Service m_1.Services))]]) ?_ hm ?_
    ·
      simp only [go_sem, simprocAttr]
      try simp [encB, encI_i64, encI_u8, encS, enc_api_File, enc_api_Machine, enc_api_Service, enc_api_Setting, List.map_set, List.map_replicate]
    clear hm
    intro i_18 n_13 hii_18 hm
    try dsimp only at hm
    try dsimp only
    refine Wp.seqR fun K12 hK12 => ?_
    simp only [go_sem, simprocAttr]
    first
      | refine hK12 _ _ ?_
      | refine ⟨by (repeat' apply And.intro) <;> first | assumption | omega |  (intros; omega) | (intro hg; simp only [Bool.and_eq_true, Bool.or_eq_true, Bool.not_eq_true', decide_eq_true_eq, decide_eq_false_iff_not] at hg; omega) | (simp only [Bool.and_eq_true, Bool.or_eq_true, Bool.not_eq_true', Bool.and_eq_false_iff, Bool.or_eq_false_iff, Bool.not_eq_false', decide_eq_true_eq, decide_eq_false_iff_not]; omega) | (simp_all; done) | (simp_all <;> intros <;> omega), hK12 _ _ ?_⟩
    refine Wp.seqW fun K13 hK13 hW13 => ?_
    refine Wp.cond rfl ⟨⟩ (fun hc13 => ?_) (fun hc13 => ?_)
    rotate_left
    · refine Wp.exit ?_
      have hm := hk_16 _ (forL_end hm (ge_nat (by first | exact hc13 | simpa using hc13)))
      try dsimp only at hm
      simp only [thenQ, blockQ, ↓reduceIte]
      refine hW9 _ _ _ _ ?_ (hcut9 n_13 hm)
      simp only [go_sem, simprocAttr]
      try simp [encB, encI_i64, encI_u8, encS, enc_api_File, enc_api_Machine, enc_api_Service, enc_api_Setting, List.map_set, List.map_replicate]
    have hlt13 := lt_nat (by first | exact hc13 | simpa using hc13)
    have hw13 := wrap_succ hlt13 hl_19
    obtain ⟨f_20, nx_17, hxf_20, hyf_20, hnx_17, hm⟩ := forL_step hm hlt13
    replace hxf_20 := hxf_20 enc_api_File
    refine Wp.skip ?_
    simp only [thenQ]
    refine hK13 _ _ ?_
    refine Wp.seqW fun K14 hK14 hW14 => ?_
    refine Wp.block ?_
    refine Wp.seqR fun K15 hK15 => ?_
    simp only [go_sem, simprocAttr, hw13, hxf_20]
    first
      | refine hK15 _ _ ?_
      | refine ⟨by (repeat' apply And.intro) <;> first | assumption | omega |  (intros; omega) | (intro hg; simp only [Bool.and_eq_true, Bool.or_eq_true, Bool.not_eq_true', decide_eq_true_eq, decide_eq_false_iff_not] at hg; omega) | (simp only [Bool.and_eq_true, Bool.or_eq_true, Bool.not_eq_true', Bool.and_eq_false_iff, Bool.or_eq_false_iff, Bool.not_eq_false', decide_eq_true_eq, decide_eq_false_iff_not]; omega) | (simp_all; done) | (simp_all <;> intros <;> omega), hK15 _ _ ?_⟩
    refine Wp.region fun K16 hK16 => ?_
    simp only [go_sem, simprocAttr, hw13, hxf_20]
    first
      | refine hK16 _ _ ?_
      | refine ⟨by (repeat' apply And.intro) <;> first | assumption | omega |  (intros; omega) | (intro hg; simp only [Bool.and_eq_true, Bool.or_eq_true, Bool.not_eq_true', decide_eq_true_eq, decide_eq_false_iff_not] at hg; omega) | (simp only [Bool.and_eq_true, Bool.or_eq_true, Bool.not_eq_true', Bool.and_eq_false_iff, Bool.or_eq_false_iff, Bool.not_eq_false', decide_eq_true_eq, decide_eq_false_iff_not]; omega) | (simp_all; done) | (simp_all <;> intros <;> omega), hK16 _ _ ?_⟩
    simp only [thenQ, blockQ, ↓reduceIte]
    refine hK14 _ _ ?_
    refine Wp.region fun K17 hK17 => ?_
    simp only [go_sem, simprocAttr, hw13, hxf_20]
    first
      | refine hK17 _ _ ?_
      | refine ⟨by (repeat' apply And.intro) <;> first | assumption | omega |  (intros; omega) | (intro hg; simp only [Bool.and_eq_true, Bool.or_eq_true, Bool.not_eq_true', decide_eq_true_eq, decide_eq_false_iff_not] at hg; omega) | (simp only [Bool.and_eq_true, Bool.or_eq_true, Bool.not_eq_true', Bool.and_eq_false_iff, Bool.or_eq_false_iff, Bool.not_eq_false', decide_eq_true_eq, decide_eq_false_iff_not]; omega) | (simp_all; done) | (simp_all <;> intros <;> omega), hK17 _ _ ?_⟩
    simp only [thenQ, blockQ, ↓reduceIte]
    refine ⟨IntKind.i64.wrap (n_13 + (f_20.Data.length : Int)), hlt13, hnx_17 _ hm, ?_⟩
    simp only [go_sem, simprocAttr, hw13, hxf_20]
    try simp [encB, encI_i64, encI_u8, encS, enc_api_File, enc_api_Machine, enc_api_Service, enc_api_Setting, List.map_set, List.map_replicate]
set_option maxRecDepth 100000 in
set_option maxHeartbeats 4000000 in
theorem ok_disk_Print (m_1 : api_Machine) (z : Str × Int) (hm : disk_Print m_1 = some z) : Does Tryd.prog 12 [.agg [.p (.l (List.map enc_api_Setting m_1.Facts)), .p (.l (List.map enc_api_File m_1.Files)), .p (.l (List.map enc_api_Setting m_1.Settings)), .p (.l (List.map enc_api_Service m_1.Services))]] [] (fun r X => r = .tup [.p (.s z.1), .p (.i .i64 z.2)] ∧ X = []) := by
  unfold disk_Print at hm
  refine Does.of_wp 0 15 [.tmp 2, .tmp 3] Tryd.func12 rfl (by decide) rfl rfl (Nat.le_of_ble_eq_true rfl) fun B => ?_
  refine Wp.seqR fun K1 hK1 => ?_
  simp only [go_sem, simprocAttr]
  first
    | refine hK1 _ _ ?_
    | refine ⟨by (repeat' apply And.intro) <;> first | assumption | omega |  (intros; omega) | (intro hg; simp only [Bool.and_eq_true, Bool.or_eq_true, Bool.not_eq_true', decide_eq_true_eq, decide_eq_false_iff_not] at hg; omega) | (simp only [Bool.and_eq_true, Bool.or_eq_true, Bool.not_eq_true', Bool.and_eq_false_iff, Bool.or_eq_false_iff, Bool.not_eq_false', decide_eq_true_eq, decide_eq_false_iff_not]; omega) | (simp_all; done) | (simp_all <;> intros <;> omega), hK1 _ _ ?_⟩
  refine Wp.seqW fun K2 hK2 hW2 => ?_
  obtain ⟨r_2, hr_2, hm⟩ := call_elim hm
  refine Wp.seqR fun K3 hK3 => ?_
  simp only [go_sem, simprocAttr]
  try refine ⟨by (repeat' apply And.intro) <;> first | assumption | omega |  (intros; omega) | (intro hg; simp only [Bool.and_eq_true, Bool.or_eq_true, Bool.not_eq_true', decide_eq_true_eq, decide_eq_false_iff_not] at hg; omega) | (simp only [Bool.and_eq_true, Bool.or_eq_true, Bool.not_eq_true', Bool.and_eq_false_iff, Bool.or_eq_false_iff, Bool.not_eq_false', decide_eq_true_eq, decide_eq_false_iff_not]; omega) | (simp_all; done) | (simp_all <;> intros <;> omega), ?_⟩
  refine Rg.callX (av := ?av4) (g := true) (fun hg => ok_disk_Check m_1 _ hr_2) ?ha4 ?hb4 ?hp4 ?hok4 ?hf4 ?cont4
  case ha4 =>
    simp only [go_sem, simprocAttr]
    exact Is.mk
  case hb4 =>
    simp only [go_sem, simprocAttr]
    exact Is.mk
  case hp4 =>
    simp only [go_sem, simprocAttr]
    exact Is.mk
  case hok4 =>
    simp only [go_sem, simprocAttr]
  case hf4 =>
    simp only [go_sem, simprocAttr]
    exact Is.mk
  intro hv4
  simp only [go_sem, simprocAttr]
  first
    | refine hK3 _ _ ?_
    | refine ⟨by (repeat' apply And.intro) <;> first | assumption | omega |  (intros; omega) | (intro hg; simp only [Bool.and_eq_true, Bool.or_eq_true, Bool.not_eq_true', decide_eq_true_eq, decide_eq_false_iff_not] at hg; omega) | (simp only [Bool.and_eq_true, Bool.or_eq_true, Bool.not_eq_true', Bool.and_eq_false_iff, Bool.or_eq_false_iff, Bool.not_eq_false', decide_eq_true_eq, decide_eq_false_iff_not]; omega) | (simp_all; done) | (simp_all <;> intros <;> omega), hK3 _ _ ?_⟩
  refine Wp.seqR fun K5 hK5 => ?_
  simp only [go_sem, simprocAttr]
  first
    | refine hK5 _ _ ?_
    | refine ⟨by (repeat' apply And.intro) <;> first | assumption | omega |  (intros; omega) | (intro hg; simp only [Bool.and_eq_true, Bool.or_eq_true, Bool.not_eq_true', decide_eq_true_eq, decide_eq_false_iff_not] at hg; omega) | (simp only [Bool.and_eq_true, Bool.or_eq_true, Bool.not_eq_true', Bool.and_eq_false_iff, Bool.or_eq_false_iff, Bool.not_eq_false', decide_eq_true_eq, decide_eq_false_iff_not]; omega) | (simp_all; done) | (simp_all <;> intros <;> omega), hK5 _ _ ?_⟩
  refine Wp.cond rfl ⟨⟩ (fun hc6 => ?_) (fun hc6 => ?_)
  · have hm := brT hm (by first | exact hc6 | simpa using hc6)
    refine Wp.seqR fun K7 hK7 => ?_
    simp only [go_sem, simprocAttr]
    first
      | refine hK7 _ _ ?_
      | refine ⟨by (repeat' apply And.intro) <;> first | assumption | omega |  (intros; omega) | (intro hg; simp only [Bool.and_eq_true, Bool.or_eq_true, Bool.not_eq_true', decide_eq_true_eq, decide_eq_false_iff_not] at hg; omega) | (simp only [Bool.and_eq_true, Bool.or_eq_true, Bool.not_eq_true', Bool.and_eq_false_iff, Bool.or_eq_false_iff, Bool.not_eq_false', decide_eq_true_eq, decide_eq_false_iff_not]; omega) | (simp_all; done) | (simp_all <;> intros <;> omega), hK7 _ _ ?_⟩
    refine Wp.ret ?_
    simp only [thenQ, blockQ]
    refine retQ_ret ?_
    cases hm
    simp only [go_sem, simprocAttr]
    try simp [encB, encI_i64, encI_u8, encS, enc_api_File, enc_api_Machine, enc_api_Service, enc_api_Setting, List.map_set, List.map_replicate]
  · have hm := brF hm (by first | exact hc6 | simpa using hc6)
    refine Wp.skip ?_
    simp only [thenQ, blockQ, ↓reduceIte]
    refine hK2 _ _ ?_
    cases hm
set_option maxRecDepth 100000 in
set_option maxHeartbeats 4000000 in
theorem ok_disk_SumOf (text_1 : Str) (z : Str) (hm : disk_SumOf text_1 = some z) : Does Tryd.prog 54 [.p (.s text_1)] [] (fun r X => r = .p (.s z) ∧ X = []) := by
  unfold disk_SumOf at hm
  refine Does.of_wp 0 39 [.tmp 2] Tryd.func54 rfl (by decide) rfl rfl (Nat.le_of_ble_eq_true rfl) fun B => ?_
  refine Wp.seqR fun K1 hK1 => ?_
  simp only [go_sem, simprocAttr]
  first
    | refine hK1 _ _ ?_
    | refine ⟨by (repeat' apply And.intro) <;> first | assumption | omega |  (intros; omega) | (intro hg; simp only [Bool.and_eq_true, Bool.or_eq_true, Bool.not_eq_true', decide_eq_true_eq, decide_eq_false_iff_not] at hg; omega) | (simp only [Bool.and_eq_true, Bool.or_eq_true, Bool.not_eq_true', Bool.and_eq_false_iff, Bool.or_eq_false_iff, Bool.not_eq_false', decide_eq_true_eq, decide_eq_false_iff_not]; omega) | (simp_all; done) | (simp_all <;> intros <;> omega), hK1 _ _ ?_⟩
  refine Wp.seqR fun K2 hK2 => ?_
  simp only [go_sem, simprocAttr]
  first
    | refine hK2 _ _ ?_
    | refine ⟨by (repeat' apply And.intro) <;> first | assumption | omega |  (intros; omega) | (intro hg; simp only [Bool.and_eq_true, Bool.or_eq_true, Bool.not_eq_true', decide_eq_true_eq, decide_eq_false_iff_not] at hg; omega) | (simp only [Bool.and_eq_true, Bool.or_eq_true, Bool.not_eq_true', Bool.and_eq_false_iff, Bool.or_eq_false_iff, Bool.not_eq_false', decide_eq_true_eq, decide_eq_false_iff_not]; omega) | (simp_all; done) | (simp_all <;> intros <;> omega), hK2 _ _ ?_⟩
  refine Wp.seqW fun K3 hK3 hW3 => ?_
  obtain ⟨k_11, hk_11, hm⟩ := jp_elim hm
  have hcut3 : ∀ s, k_11 s = some z → K3 [(3, .p (.i .u64 s))] [] := by
    intro n_10 hs
    have hm := hk_11 _ hs
    clear hs
    try dsimp only at hm
    try dsimp only
    refine hK3 _ _ ?_
    refine Wp.seqR fun K4 hK4 => ?_
    simp only [go_sem, simprocAttr]
    first
      | refine hK4 _ _ ?_
      | refine ⟨by (repeat' apply And.intro) <;> first | assumption | omega |  (intros; omega) | (intro hg; simp only [Bool.and_eq_true, Bool.or_eq_true, Bool.not_eq_true', decide_eq_true_eq, decide_eq_false_iff_not] at hg; omega) | (simp only [Bool.and_eq_true, Bool.or_eq_true, Bool.not_eq_true', Bool.and_eq_false_iff, Bool.or_eq_false_iff, Bool.not_eq_false', decide_eq_true_eq, decide_eq_false_iff_not]; omega) | (simp_all; done) | (simp_all <;> intros <;> omega), hK4 _ _ ?_⟩
    refine Wp.seqW fun K5 hK5 hW5 => ?_
    obtain ⟨k_30, hk_30, hm⟩ := jp_elim hm
    have hcut5 : ∀ s, k_30 s = some z → K5 [(5, .buf 0)] [.buf 5 1 (List.map encI_u8 s)] := by
      intro o0_29 hs
      have hm := hk_30 _ hs
      clear hs
      try dsimp only at hm
      try dsimp only
      refine hK5 _ _ ?_
      refine Wp.seqR fun K6 hK6 => ?_
      simp only [go_sem, simprocAttr]
      first
        | refine hK6 _ _ ?_
        | refine ⟨by (repeat' apply And.intro) <;> first | assumption | omega |  (intros; omega) | (intro hg; simp only [Bool.and_eq_true, Bool.or_eq_true, Bool.not_eq_true', decide_eq_true_eq, decide_eq_false_iff_not] at hg; omega) | (simp only [Bool.and_eq_true, Bool.or_eq_true, Bool.not_eq_true', Bool.and_eq_false_iff, Bool.or_eq_false_iff, Bool.not_eq_false', decide_eq_true_eq, decide_eq_false_iff_not]; omega) | (simp_all; done) | (simp_all <;> intros <;> omega), hK6 _ _ ?_⟩
      refine Wp.ret ?_
      refine retQ_ret ?_
      cases hm
      simp only [go_sem, simprocAttr]
      try simp [encB, encI_i64, encI_u8, encS, enc_api_File, enc_api_Machine, enc_api_Service, enc_api_Setting, List.map_set, List.map_replicate]
    clear hK5 hk_30
    refine Wp.seqR fun K7 hK7 => ?_
    simp only [go_sem, simprocAttr]
    first
      | refine hK7 _ _ ?_
      | refine ⟨by (repeat' apply And.intro) <;> first | assumption | omega |  (intros; omega) | (intro hg; simp only [Bool.and_eq_true, Bool.or_eq_true, Bool.not_eq_true', decide_eq_true_eq, decide_eq_false_iff_not] at hg; omega) | (simp only [Bool.and_eq_true, Bool.or_eq_true, Bool.not_eq_true', Bool.and_eq_false_iff, Bool.or_eq_false_iff, Bool.not_eq_false', decide_eq_true_eq, decide_eq_false_iff_not]; omega) | (simp_all; done) | (simp_all <;> intros <;> omega), hK7 _ _ ?_⟩
    refine Wp.block ?_
    obtain ⟨k_42, hk_42, hm⟩ := loopN_cont hm
    refine Wp.loopN (fun s => [(3, .p (.i .u64 n_10)), (5, .buf 0), (22, .p (.i .i64 ((List.replicate 16 0).length : Int))), (23, .p (.i .i64 s.1))]) (fun s => [.buf 5 1 (List.map encI_u8 s.2)]) ?_ hm ?_
    ·
      simp only [go_sem, simprocAttr]
      try simp [encB, encI_i64, encI_u8, encS, enc_api_File, enc_api_Machine, enc_api_Service, enc_api_Setting, List.map_set, List.map_replicate]
    clear hm
    intro s nx_43 hm
    obtain ⟨t23_36, o0_37⟩ := s
    try dsimp only at hm
    try dsimp only
    refine Wp.seqR fun K8 hK8 => ?_
    simp only [go_sem, simprocAttr]
    first
      | refine hK8 _ _ ?_
      | refine ⟨by (repeat' apply And.intro) <;> first | assumption | omega |  (intros; omega) | (intro hg; simp only [Bool.and_eq_true, Bool.or_eq_true, Bool.not_eq_true', decide_eq_true_eq, decide_eq_false_iff_not] at hg; omega) | (simp only [Bool.and_eq_true, Bool.or_eq_true, Bool.not_eq_true', Bool.and_eq_false_iff, Bool.or_eq_false_iff, Bool.not_eq_false', decide_eq_true_eq, decide_eq_false_iff_not]; omega) | (simp_all; done) | (simp_all <;> intros <;> omega), hK8 _ _ ?_⟩
    refine Wp.seqW fun K9 hK9 hW9 => ?_
    refine Wp.cond rfl ⟨⟩ (fun hc10 => ?_) (fun hc10 => ?_)
    · have hm := brT hm (by first | exact hc10 | simpa using hc10)
      refine Wp.skip ?_
      simp only [thenQ, blockQ, ↓reduceIte]
      refine hK9 _ _ ?_
      refine Wp.seqW fun K11 hK11 hW11 => ?_
      refine Wp.block ?_
      refine Wp.seqR fun K12 hK12 => ?_
      simp only [go_sem, simprocAttr]
      first
        | refine hK12 _ _ ?_
        | refine ⟨by (repeat' apply And.intro) <;> first | assumption | omega |  (intros; omega) | (intro hg; simp only [Bool.and_eq_true, Bool.or_eq_true, Bool.not_eq_true', decide_eq_true_eq, decide_eq_false_iff_not] at hg; omega) | (simp only [Bool.and_eq_true, Bool.or_eq_true, Bool.not_eq_true', Bool.and_eq_false_iff, Bool.or_eq_false_iff, Bool.not_eq_false', decide_eq_true_eq, decide_eq_false_iff_not]; omega) | (simp_all; done) | (simp_all <;> intros <;> omega), hK12 _ _ ?_⟩
      obtain ⟨c_44, hm⟩ := chk_elim hm
      obtain ⟨c_45, hbc_45, hxc_45, hm⟩ := idxS_elim hm
      replace hxc_45 : ((([48, 49, 50, 51, 52, 53, 54, 55, 56, 57, 97, 98, 99, 100, 101, 102] : Str).getD ((bitsI .and .u64 (Int.fdiv n_10 (2 ^ (shI .u64 (IntKind.i64.wrap (60 - (IntKind.i64.wrap (4 * t23_36))))))) 15).toNat) 0).toNat : Int) = c_45 := hxc_45
      obtain ⟨c_46, hm⟩ := chk_elim hm
      have hr_47 := fun h => getD_encB (l := o0_37) (e := encI_u8) (d := 0) (i := t23_36.toNat) h []
      refine Wp.region fun K13 hK13 => ?_
      simp only [go_sem, simprocAttr, hxc_45, hr_47 (by omega)]
      first
        | refine hK13 _ _ ?_
        | refine ⟨by (repeat' apply And.intro) <;> first | assumption | omega | (simp only [List.length_append, List.length_map, List.length_cons, List.length_nil, List.length_set, List.length_replicate] at c_44 c_46 ⊢; omega) | (intros; omega) | (intro hg; simp only [Bool.and_eq_true, Bool.or_eq_true, Bool.not_eq_true', decide_eq_true_eq, decide_eq_false_iff_not] at hg; omega) | (simp only [Bool.and_eq_true, Bool.or_eq_true, Bool.not_eq_true', Bool.and_eq_false_iff, Bool.or_eq_false_iff, Bool.not_eq_false', decide_eq_true_eq, decide_eq_false_iff_not]; omega) | (simp_all; done) | (simp_all <;> intros <;> omega), hK13 _ _ ?_⟩
      simp only [thenQ, blockQ, ↓reduceIte]
      refine hK11 _ _ ?_
      refine Wp.region fun K14 hK14 => ?_
      simp only [go_sem, simprocAttr, hxc_45]
      first
        | refine hK14 _ _ ?_
        | refine ⟨by (repeat' apply And.intro) <;> first | assumption | omega |  (intros; omega) | (intro hg; simp only [Bool.and_eq_true, Bool.or_eq_true, Bool.not_eq_true', decide_eq_true_eq, decide_eq_false_iff_not] at hg; omega) | (simp only [Bool.and_eq_true, Bool.or_eq_true, Bool.not_eq_true', Bool.and_eq_false_iff, Bool.or_eq_false_iff, Bool.not_eq_false', decide_eq_true_eq, decide_eq_false_iff_not]; omega) | (simp_all; done) | (simp_all <;> intros <;> omega), hK14 _ _ ?_⟩
      simp only [thenQ, blockQ, ↓reduceIte]
      refine ⟨(IntKind.i64.wrap (t23_36 + 1), List.set o0_37 t23_36.toNat c_45), hm, ?_⟩
      simp only [go_sem, simprocAttr, hxc_45]
      try simp [encB, encI_i64, encI_u8, encS, enc_api_File, enc_api_Machine, enc_api_Service, enc_api_Setting, List.map_set, List.map_replicate]
    · have hm := brF hm (by first | exact hc10 | simpa using hc10)
      refine Wp.exit ?_
      simp only [thenQ, blockQ, ↓reduceIte]
      have hm := hk_42 _ hm
      try dsimp only at hm
      refine hW5 _ _ _ _ ?_ (hcut5 o0_37 hm)
      simp only [go_sem, simprocAttr]
      try simp [encB, encI_i64, encI_u8, encS, enc_api_File, enc_api_Machine, enc_api_Service, enc_api_Setting, List.map_set, List.map_replicate]
  clear hK3 hk_11
  refine Wp.seqR fun K15 hK15 => ?_
  simp only [go_sem, simprocAttr]
  first
    | refine hK15 _ _ ?_
    | refine ⟨by (repeat' apply And.intro) <;> first | assumption | omega |  (intros; omega) | (intro hg; simp only [Bool.and_eq_true, Bool.or_eq_true, Bool.not_eq_true', decide_eq_true_eq, decide_eq_false_iff_not] at hg; omega) | (simp only [Bool.and_eq_true, Bool.or_eq_true, Bool.not_eq_true', Bool.and_eq_false_iff, Bool.or_eq_false_iff, Bool.not_eq_false', decide_eq_true_eq, decide_eq_false_iff_not]; omega) | (simp_all; done) | (simp_all <;> intros <;> omega), hK15 _ _ ?_⟩
  refine Wp.block ?_
  obtain ⟨k_51, hk_51, hm⟩ := forL_cont hm
  refine Wp.fact 0 fun hl_54 => ?_
  replace hl_54 : text_1.length ≤ 274877906944 := by
    simp only [go_sem, simprocAttr, List.length_map] at hl_54
    omega
  refine Wp.forL (fun i_53 s => [(0, .p (.s text_1)), (3, .p (.i .u64 s)), (4, .p (.i .i64 (i_53 : Int)))]) (fun i_53 s => []) ?_ hm ?_
  ·
    simp only [go_sem, simprocAttr]
    try simp [encB, encI_i64, encI_u8, encS, enc_api_File, enc_api_Machine, enc_api_Service, enc_api_Setting, List.map_set, List.map_replicate]
  clear hm
  intro i_53 n_48 hii_53 hm
  try dsimp only at hm
  try dsimp only
  refine Wp.seqW fun K16 hK16 hW16 => ?_
  refine Wp.seqR fun K17 hK17 => ?_
  simp only [go_sem, simprocAttr]
  first
    | refine hK17 _ _ ?_
    | refine ⟨by (repeat' apply And.intro) <;> first | assumption | omega |  (intros; omega) | (intro hg; simp only [Bool.and_eq_true, Bool.or_eq_true, Bool.not_eq_true', decide_eq_true_eq, decide_eq_false_iff_not] at hg; omega) | (simp only [Bool.and_eq_true, Bool.or_eq_true, Bool.not_eq_true', Bool.and_eq_false_iff, Bool.or_eq_false_iff, Bool.not_eq_false', decide_eq_true_eq, decide_eq_false_iff_not]; omega) | (simp_all; done) | (simp_all <;> intros <;> omega), hK17 _ _ ?_⟩
  refine Wp.cond rfl ⟨⟩ (fun hc16 => ?_) (fun hc16 => ?_)
  rotate_left
  · refine Wp.exit ?_
    have hm := hk_51 _ (forL_end hm (ge_nat (by first | exact hc16 | simpa using hc16)))
    try dsimp only at hm
    simp only [thenQ, blockQ, ↓reduceIte]
    refine hW3 _ _ _ _ ?_ (hcut3 n_48 hm)
    simp only [go_sem, simprocAttr]
    try simp [encB, encI_i64, encI_u8, encS, enc_api_File, enc_api_Machine, enc_api_Service, enc_api_Setting, List.map_set, List.map_replicate]
  have hlt16 := lt_nat (by first | exact hc16 | simpa using hc16)
  have hw16 := wrap_succ hlt16 hl_54
  obtain ⟨c_55, nx_52, hxc_55, hyc_55, hnx_52, hm⟩ := forL_step hm hlt16
  clear hxc_55
  refine Wp.skip ?_
  simp only [thenQ]
  refine hK16 _ _ ?_
  refine Wp.seqW fun K18 hK18 hW18 => ?_
  refine Wp.block ?_
  refine Wp.region fun K19 hK19 => ?_
  simp only [go_sem, simprocAttr, hw16, hyc_55]
  first
    | refine hK19 _ _ ?_
    | refine ⟨by (repeat' apply And.intro) <;> first | assumption | omega |  (intros; omega) | (intro hg; simp only [Bool.and_eq_true, Bool.or_eq_true, Bool.not_eq_true', decide_eq_true_eq, decide_eq_false_iff_not] at hg; omega) | (simp only [Bool.and_eq_true, Bool.or_eq_true, Bool.not_eq_true', Bool.and_eq_false_iff, Bool.or_eq_false_iff, Bool.not_eq_false', decide_eq_true_eq, decide_eq_false_iff_not]; omega) | (simp_all; done) | (simp_all <;> intros <;> omega), hK19 _ _ ?_⟩
  simp only [thenQ, blockQ, ↓reduceIte]
  refine hK18 _ _ ?_
  refine Wp.region fun K20 hK20 => ?_
  simp only [go_sem, simprocAttr, hw16, hyc_55]
  first
    | refine hK20 _ _ ?_
    | refine ⟨by (repeat' apply And.intro) <;> first | assumption | omega |  (intros; omega) | (intro hg; simp only [Bool.and_eq_true, Bool.or_eq_true, Bool.not_eq_true', decide_eq_true_eq, decide_eq_false_iff_not] at hg; omega) | (simp only [Bool.and_eq_true, Bool.or_eq_true, Bool.not_eq_true', Bool.and_eq_false_iff, Bool.or_eq_false_iff, Bool.not_eq_false', decide_eq_true_eq, decide_eq_false_iff_not]; omega) | (simp_all; done) | (simp_all <;> intros <;> omega), hK20 _ _ ?_⟩
  simp only [thenQ, blockQ, ↓reduceIte]
  refine ⟨IntKind.u64.wrap ((bitsI .xor .u64 n_48 (IntKind.u64.wrap (c_55.toNat : Int))) * 1099511628211), hlt16, hnx_52 _ hm, ?_⟩
  simp only [go_sem, simprocAttr, hw16, hyc_55]
  try simp [encB, encI_i64, encI_u8, encS, enc_api_File, enc_api_Machine, enc_api_Service, enc_api_Setting, List.map_set, List.map_replicate]
set_option maxRecDepth 100000 in
set_option maxHeartbeats 4000000 in
theorem ok_disk_Sum (m_1 : api_Machine) (z : Str × Int) (hm : disk_Sum m_1 = some z) : Does Tryd.prog 11 [.agg [.p (.l (List.map enc_api_Setting m_1.Facts)), .p (.l (List.map enc_api_File m_1.Files)), .p (.l (List.map enc_api_Setting m_1.Settings)), .p (.l (List.map enc_api_Service m_1.Services))]] [] (fun r X => r = .tup [.p (.s z.1), .p (.i .i64 z.2)] ∧ X = []) := by
  unfold disk_Sum at hm
  refine Does.of_wp 0 16 [.tmp 2, .tmp 3] Tryd.func11 rfl (by decide) rfl rfl (Nat.le_of_ble_eq_true rfl) fun B => ?_
  refine Wp.seqR fun K1 hK1 => ?_
  simp only [go_sem, simprocAttr]
  first
    | refine hK1 _ _ ?_
    | refine ⟨by (repeat' apply And.intro) <;> first | assumption | omega |  (intros; omega) | (intro hg; simp only [Bool.and_eq_true, Bool.or_eq_true, Bool.not_eq_true', decide_eq_true_eq, decide_eq_false_iff_not] at hg; omega) | (simp only [Bool.and_eq_true, Bool.or_eq_true, Bool.not_eq_true', Bool.and_eq_false_iff, Bool.or_eq_false_iff, Bool.not_eq_false', decide_eq_true_eq, decide_eq_false_iff_not]; omega) | (simp_all; done) | (simp_all <;> intros <;> omega), hK1 _ _ ?_⟩
  obtain ⟨r_2, hr_2, hm⟩ := call_elim hm
  refine Wp.seqR fun K2 hK2 => ?_
  simp only [go_sem, simprocAttr]
  try refine ⟨by (repeat' apply And.intro) <;> first | assumption | omega |  (intros; omega) | (intro hg; simp only [Bool.and_eq_true, Bool.or_eq_true, Bool.not_eq_true', decide_eq_true_eq, decide_eq_false_iff_not] at hg; omega) | (simp only [Bool.and_eq_true, Bool.or_eq_true, Bool.not_eq_true', Bool.and_eq_false_iff, Bool.or_eq_false_iff, Bool.not_eq_false', decide_eq_true_eq, decide_eq_false_iff_not]; omega) | (simp_all; done) | (simp_all <;> intros <;> omega), ?_⟩
  refine Rg.callX (av := ?av3) (g := true) (fun hg => ok_disk_Print m_1 _ hr_2) ?ha3 ?hb3 ?hp3 ?hok3 ?hf3 ?cont3
  case ha3 =>
    simp only [go_sem, simprocAttr]
    exact Is.mk
  case hb3 =>
    simp only [go_sem, simprocAttr]
    exact Is.mk
  case hp3 =>
    simp only [go_sem, simprocAttr]
    exact Is.mk
  case hok3 =>
    simp only [go_sem, simprocAttr]
  case hf3 =>
    simp only [go_sem, simprocAttr]
    exact Is.mk
  intro hv3
  simp only [go_sem, simprocAttr]
  first
    | refine hK2 _ _ ?_
    | refine ⟨by (repeat' apply And.intro) <;> first | assumption | omega |  (intros; omega) | (intro hg; simp only [Bool.and_eq_true, Bool.or_eq_true, Bool.not_eq_true', decide_eq_true_eq, decide_eq_false_iff_not] at hg; omega) | (simp only [Bool.and_eq_true, Bool.or_eq_true, Bool.not_eq_true', Bool.and_eq_false_iff, Bool.or_eq_false_iff, Bool.not_eq_false', decide_eq_true_eq, decide_eq_false_iff_not]; omega) | (simp_all; done) | (simp_all <;> intros <;> omega), hK2 _ _ ?_⟩
  refine Wp.seqW fun K4 hK4 hW4 => ?_
  refine Wp.seqR fun K5 hK5 => ?_
  simp only [go_sem, simprocAttr]
  first
    | refine hK5 _ _ ?_
    | refine ⟨by (repeat' apply And.intro) <;> first | assumption | omega |  (intros; omega) | (intro hg; simp only [Bool.and_eq_true, Bool.or_eq_true, Bool.not_eq_true', decide_eq_true_eq, decide_eq_false_iff_not] at hg; omega) | (simp only [Bool.and_eq_true, Bool.or_eq_true, Bool.not_eq_true', Bool.and_eq_false_iff, Bool.or_eq_false_iff, Bool.not_eq_false', decide_eq_true_eq, decide_eq_false_iff_not]; omega) | (simp_all; done) | (simp_all <;> intros <;> omega), hK5 _ _ ?_⟩
  refine Wp.cond rfl ⟨⟩ (fun hc6 => ?_) (fun hc6 => ?_)
  · have hm := brT hm (by first | exact hc6 | simpa using hc6)
    refine Wp.seqR fun K7 hK7 => ?_
    simp only [go_sem, simprocAttr]
    first
      | refine hK7 _ _ ?_
      | refine ⟨by (repeat' apply And.intro) <;> first | assumption | omega |  (intros; omega) | (intro hg; simp only [Bool.and_eq_true, Bool.or_eq_true, Bool.not_eq_true', decide_eq_true_eq, decide_eq_false_iff_not] at hg; omega) | (simp only [Bool.and_eq_true, Bool.or_eq_true, Bool.not_eq_true', Bool.and_eq_false_iff, Bool.or_eq_false_iff, Bool.not_eq_false', decide_eq_true_eq, decide_eq_false_iff_not]; omega) | (simp_all; done) | (simp_all <;> intros <;> omega), hK7 _ _ ?_⟩
    refine Wp.ret ?_
    simp only [thenQ, blockQ]
    refine retQ_ret ?_
    cases hm
    simp only [go_sem, simprocAttr]
    try simp [encB, encI_i64, encI_u8, encS, enc_api_File, enc_api_Machine, enc_api_Service, enc_api_Setting, List.map_set, List.map_replicate]
  · have hm := brF hm (by first | exact hc6 | simpa using hc6)
    refine Wp.skip ?_
    simp only [thenQ, blockQ, ↓reduceIte]
    refine hK4 _ _ ?_
    obtain ⟨r_3, hr_3, hm⟩ := call_elim hm
    refine Wp.seqR fun K8 hK8 => ?_
    simp only [go_sem, simprocAttr]
    try refine ⟨by (repeat' apply And.intro) <;> first | assumption | omega |  (intros; omega) | (intro hg; simp only [Bool.and_eq_true, Bool.or_eq_true, Bool.not_eq_true', decide_eq_true_eq, decide_eq_false_iff_not] at hg; omega) | (simp only [Bool.and_eq_true, Bool.or_eq_true, Bool.not_eq_true', Bool.and_eq_false_iff, Bool.or_eq_false_iff, Bool.not_eq_false', decide_eq_true_eq, decide_eq_false_iff_not]; omega) | (simp_all; done) | (simp_all <;> intros <;> omega), ?_⟩
    refine Rg.callX (av := ?av9) (g := true) (fun hg => ok_disk_SumOf r_2.1 _ hr_3) ?ha9 ?hb9 ?hp9 ?hok9 ?hf9 ?cont9
    case ha9 =>
      simp only [go_sem, simprocAttr]
      exact Is.mk
    case hb9 =>
      simp only [go_sem, simprocAttr]
      exact Is.mk
    case hp9 =>
      simp only [go_sem, simprocAttr]
      exact Is.mk
    case hok9 =>
      simp only [go_sem, simprocAttr]
    case hf9 =>
      simp only [go_sem, simprocAttr]
      exact Is.mk
    intro hv9
    simp only [go_sem, simprocAttr]
    first
      | refine hK8 _ _ ?_
      | refine ⟨by (repeat' apply And.intro) <;> first | assumption | omega |  (intros; omega) | (intro hg; simp only [Bool.and_eq_true, Bool.or_eq_true, Bool.not_eq_true', decide_eq_true_eq, decide_eq_false_iff_not] at hg; omega) | (simp only [Bool.and_eq_true, Bool.or_eq_true, Bool.not_eq_true', Bool.and_eq_false_iff, Bool.or_eq_false_iff, Bool.not_eq_false', decide_eq_true_eq, decide_eq_false_iff_not]; omega) | (simp_all; done) | (simp_all <;> intros <;> omega), hK8 _ _ ?_⟩
    refine Wp.ret ?_
    refine retQ_ret ?_
    cases hm
    simp only [go_sem, simprocAttr]
    try simp [encB, encI_i64, encI_u8, encS, enc_api_File, enc_api_Machine, enc_api_Service, enc_api_Setting, List.map_set, List.map_replicate]
set_option maxRecDepth 100000 in
set_option maxHeartbeats 4000000 in
theorem ok_disk_Boot (m_1 : api_Machine) (z : api_Machine × Int) (hm : disk_Boot m_1 = some z) : Does Tryd.prog 13 [.agg [.p (.l (List.map enc_api_Setting m_1.Facts)), .p (.l (List.map enc_api_File m_1.Files)), .p (.l (List.map enc_api_Setting m_1.Settings)), .p (.l (List.map enc_api_Service m_1.Services))]] [] (fun r X => r = .tup [.agg [.p (.l (List.map enc_api_Setting z.1.Facts)), .p (.l (List.map enc_api_File z.1.Files)), .p (.l (List.map enc_api_Setting z.1.Settings)), .p (.l (List.map enc_api_Service z.1.Services))], .p (.i .i64 z.2)] ∧ X = []) := by
  unfold disk_Boot at hm
  refine Does.of_wp 0 13 [.cell 2 26, .tmp 3] Tryd.func13 rfl (by decide) rfl rfl (Nat.le_of_ble_eq_true rfl) fun B => ?_
  refine Wp.seqR fun K1 hK1 => ?_
  simp only [go_sem, simprocAttr]
  first
    | refine hK1 _ _ ?_
    | refine ⟨by (repeat' apply And.intro) <;> first | assumption | omega |  (intros; omega) | (intro hg; simp only [Bool.and_eq_true, Bool.or_eq_true, Bool.not_eq_true', decide_eq_true_eq, decide_eq_false_iff_not] at hg; omega) | (simp only [Bool.and_eq_true, Bool.or_eq_true, Bool.not_eq_true', Bool.and_eq_false_iff, Bool.or_eq_false_iff, Bool.not_eq_false', decide_eq_true_eq, decide_eq_false_iff_not]; omega) | (simp_all; done) | (simp_all <;> intros <;> omega), hK1 _ _ ?_⟩
  refine Wp.seqW fun K2 hK2 hW2 => ?_
  obtain ⟨r_2, hr_2, hm⟩ := call_elim hm
  refine Wp.seqR fun K3 hK3 => ?_
  simp only [go_sem, simprocAttr]
  try refine ⟨by (repeat' apply And.intro) <;> first | assumption | omega |  (intros; omega) | (intro hg; simp only [Bool.and_eq_true, Bool.or_eq_true, Bool.not_eq_true', decide_eq_true_eq, decide_eq_false_iff_not] at hg; omega) | (simp only [Bool.and_eq_true, Bool.or_eq_true, Bool.not_eq_true', Bool.and_eq_false_iff, Bool.or_eq_false_iff, Bool.not_eq_false', decide_eq_true_eq, decide_eq_false_iff_not]; omega) | (simp_all; done) | (simp_all <;> intros <;> omega), ?_⟩
  refine Rg.callX (av := ?av4) (g := true) (fun hg => ok_disk_Check m_1 _ hr_2) ?ha4 ?hb4 ?hp4 ?hok4 ?hf4 ?cont4
  case ha4 =>
    simp only [go_sem, simprocAttr]
    exact Is.mk
  case hb4 =>
    simp only [go_sem, simprocAttr]
    exact Is.mk
  case hp4 =>
    simp only [go_sem, simprocAttr]
    exact Is.mk
  case hok4 =>
    simp only [go_sem, simprocAttr]
  case hf4 =>
    simp only [go_sem, simprocAttr]
    exact Is.mk
  intro hv4
  simp only [go_sem, simprocAttr]
  first
    | refine hK3 _ _ ?_
    | refine ⟨by (repeat' apply And.intro) <;> first | assumption | omega |  (intros; omega) | (intro hg; simp only [Bool.and_eq_true, Bool.or_eq_true, Bool.not_eq_true', decide_eq_true_eq, decide_eq_false_iff_not] at hg; omega) | (simp only [Bool.and_eq_true, Bool.or_eq_true, Bool.not_eq_true', Bool.and_eq_false_iff, Bool.or_eq_false_iff, Bool.not_eq_false', decide_eq_true_eq, decide_eq_false_iff_not]; omega) | (simp_all; done) | (simp_all <;> intros <;> omega), hK3 _ _ ?_⟩
  refine Wp.seqR fun K5 hK5 => ?_
  simp only [go_sem, simprocAttr]
  first
    | refine hK5 _ _ ?_
    | refine ⟨by (repeat' apply And.intro) <;> first | assumption | omega |  (intros; omega) | (intro hg; simp only [Bool.and_eq_true, Bool.or_eq_true, Bool.not_eq_true', decide_eq_true_eq, decide_eq_false_iff_not] at hg; omega) | (simp only [Bool.and_eq_true, Bool.or_eq_true, Bool.not_eq_true', Bool.and_eq_false_iff, Bool.or_eq_false_iff, Bool.not_eq_false', decide_eq_true_eq, decide_eq_false_iff_not]; omega) | (simp_all; done) | (simp_all <;> intros <;> omega), hK5 _ _ ?_⟩
  refine Wp.cond rfl ⟨⟩ (fun hc6 => ?_) (fun hc6 => ?_)
  · have hm := brT hm (by first | exact hc6 | simpa using hc6)
    refine Wp.seqR fun K7 hK7 => ?_
    simp only [go_sem, simprocAttr]
    first
      | refine hK7 _ _ ?_
      | refine ⟨by (repeat' apply And.intro) <;> first | assumption | omega |  (intros; omega) | (intro hg; simp only [Bool.and_eq_true, Bool.or_eq_true, Bool.not_eq_true', decide_eq_true_eq, decide_eq_false_iff_not] at hg; omega) | (simp only [Bool.and_eq_true, Bool.or_eq_true, Bool.not_eq_true', Bool.and_eq_false_iff, Bool.or_eq_false_iff, Bool.not_eq_false', decide_eq_true_eq, decide_eq_false_iff_not]; omega) | (simp_all; done) | (simp_all <;> intros <;> omega), hK7 _ _ ?_⟩
    refine Wp.ret ?_
    simp only [thenQ, blockQ]
    refine retQ_retE ?_
    cases hm
    simp only [go_sem, simprocAttr]
    try simp [encB, encI_i64, encI_u8, encS, enc_api_File, enc_api_Machine, enc_api_Service, enc_api_Setting, List.map_set, List.map_replicate]
  · have hm := brF hm (by first | exact hc6 | simpa using hc6)
    refine Wp.skip ?_
    simp only [thenQ, blockQ, ↓reduceIte]
    refine hK2 _ _ ?_
    cases hm
set_option maxRecDepth 100000 in
set_option maxHeartbeats 4000000 in
theorem ok_slices_Equal_api_Setting_api_Setting (s1_1 : List api_Setting) (s2_2 : List api_Setting) (z : Bool) (hm : slices_Equal_api_Setting_api_Setting s1_1 s2_2 = some z) : Does Tryd.prog 67 [.p (.l (List.map enc_api_Setting s1_1)), .p (.l (List.map enc_api_Setting s2_2))] [] (fun r X => r = .p (.b z) ∧ X = []) := by
  unfold slices_Equal_api_Setting_api_Setting at hm
  refine Does.of_wp 0 26 [.tmp 4] Tryd.func67 rfl (by decide) rfl rfl (Nat.le_of_ble_eq_true rfl) fun B => ?_
  refine Wp.seqR fun K1 hK1 => ?_
  simp only [go_sem, simprocAttr]
  first
    | refine hK1 _ _ ?_
    | refine ⟨by (repeat' apply And.intro) <;> first | assumption | omega |  (intros; omega) | (intro hg; simp only [Bool.and_eq_true, Bool.or_eq_true, Bool.not_eq_true', decide_eq_true_eq, decide_eq_false_iff_not] at hg; omega) | (simp only [Bool.and_eq_true, Bool.or_eq_true, Bool.not_eq_true', Bool.and_eq_false_iff, Bool.or_eq_false_iff, Bool.not_eq_false', decide_eq_true_eq, decide_eq_false_iff_not]; omega) | (simp_all; done) | (simp_all <;> intros <;> omega), hK1 _ _ ?_⟩
  refine Wp.seqW fun K2 hK2 hW2 => ?_
  refine Wp.seqR fun K3 hK3 => ?_
  simp only [go_sem, simprocAttr]
  first
    | refine hK3 _ _ ?_
    | refine ⟨by (repeat' apply And.intro) <;> first | assumption | omega |  (intros; omega) | (intro hg; simp only [Bool.and_eq_true, Bool.or_eq_true, Bool.not_eq_true', decide_eq_true_eq, decide_eq_false_iff_not] at hg; omega) | (simp only [Bool.and_eq_true, Bool.or_eq_true, Bool.not_eq_true', Bool.and_eq_false_iff, Bool.or_eq_false_iff, Bool.not_eq_false', decide_eq_true_eq, decide_eq_false_iff_not]; omega) | (simp_all; done) | (simp_all <;> intros <;> omega), hK3 _ _ ?_⟩
  refine Wp.cond rfl ⟨⟩ (fun hc4 => ?_) (fun hc4 => ?_)
  · have hm := brT hm (by first | exact hc4 | simpa using hc4)
    refine Wp.seqR fun K5 hK5 => ?_
    simp only [go_sem, simprocAttr]
    first
      | refine hK5 _ _ ?_
      | refine ⟨by (repeat' apply And.intro) <;> first | assumption | omega |  (intros; omega) | (intro hg; simp only [Bool.and_eq_true, Bool.or_eq_true, Bool.not_eq_true', decide_eq_true_eq, decide_eq_false_iff_not] at hg; omega) | (simp only [Bool.and_eq_true, Bool.or_eq_true, Bool.not_eq_true', Bool.and_eq_false_iff, Bool.or_eq_false_iff, Bool.not_eq_false', decide_eq_true_eq, decide_eq_false_iff_not]; omega) | (simp_all; done) | (simp_all <;> intros <;> omega), hK5 _ _ ?_⟩
    refine Wp.ret ?_
    simp only [thenQ, blockQ]
    refine retQ_ret ?_
    cases hm
    simp only [go_sem, simprocAttr]
    try simp [encB, encI_i64, encI_u8, encS, enc_api_File, enc_api_Machine, enc_api_Service, enc_api_Setting, List.map_set, List.map_replicate]
  · have hm := brF hm (by first | exact hc4 | simpa using hc4)
    refine Wp.skip ?_
    simp only [thenQ, blockQ, ↓reduceIte]
    refine hK2 _ _ ?_
    refine Wp.seqW fun K6 hK6 hW6 => ?_
    obtain ⟨k_12, hk_12, hm⟩ := jp_elim hm
    have hcut6 : ∀ s, k_12 s = some z → K6 [] [] := by
      intro s hs
      have hm := hk_12 _ hs
      clear hs
      try dsimp only at hm
      try dsimp only
      refine hK6 _ _ ?_
      refine Wp.seqR fun K7 hK7 => ?_
      simp only [go_sem, simprocAttr]
      first
        | refine hK7 _ _ ?_
        | refine ⟨by (repeat' apply And.intro) <;> first | assumption | omega |  (intros; omega) | (intro hg; simp only [Bool.and_eq_true, Bool.or_eq_true, Bool.not_eq_true', decide_eq_true_eq, decide_eq_false_iff_not] at hg; omega) | (simp only [Bool.and_eq_true, Bool.or_eq_true, Bool.not_eq_true', Bool.and_eq_false_iff, Bool.or_eq_false_iff, Bool.not_eq_false', decide_eq_true_eq, decide_eq_false_iff_not]; omega) | (simp_all; done) | (simp_all <;> intros <;> omega), hK7 _ _ ?_⟩
      refine Wp.ret ?_
      refine retQ_ret ?_
      cases hm
      simp only [go_sem, simprocAttr]
      try simp [encB, encI_i64, encI_u8, encS, enc_api_File, enc_api_Machine, enc_api_Service, enc_api_Setting, List.map_set, List.map_replicate]
    clear hK6 hk_12
    refine Wp.seqR fun K8 hK8 => ?_
    simp only [go_sem, simprocAttr]
    first
      | refine hK8 _ _ ?_
      | refine ⟨by (repeat' apply And.intro) <;> first | assumption | omega |  (intros; omega) | (intro hg; simp only [Bool.and_eq_true, Bool.or_eq_true, Bool.not_eq_true', decide_eq_true_eq, decide_eq_false_iff_not] at hg; omega) | (simp only [Bool.and_eq_true, Bool.or_eq_true, Bool.not_eq_true', Bool.and_eq_false_iff, Bool.or_eq_false_iff, Bool.not_eq_false', decide_eq_true_eq, decide_eq_false_iff_not]; omega) | (simp_all; done) | (simp_all <;> intros <;> omega), hK8 _ _ ?_⟩
    refine Wp.block ?_
    obtain ⟨k_16, hk_16, hm⟩ := forL_cont hm
    refine Wp.fact 0 fun hl_19 => ?_
    replace hl_19 : s1_1.length ≤ 274877906944 := by
      simp only [go_sem, simprocAttr, List.length_map] at hl_19
      omega
    refine Wp.forL (fun i_18 s => [(0, .p (.l (List.map enc_api_Setting s1_1))), (1, .p (.l (List.map enc_api_Setting s2_2))), (12, .p (.i .i64 (s1_1.length : Int))), (13, .p (.i .i64 (i_18 : Int)))]) (fun i_18 s => []) ?_ hm ?_
    ·
      simp only [go_sem, simprocAttr]
      try simp [encB, encI_i64, encI_u8, encS, enc_api_File, enc_api_Machine, enc_api_Service, enc_api_Setting, List.map_set, List.map_replicate]
    clear hm
    intro i_18 s hii_18 hm
    try dsimp only at hm
    try dsimp only
    refine Wp.seqR fun K9 hK9 => ?_
    simp only [go_sem, simprocAttr]
    first
      | refine hK9 _ _ ?_
      | refine ⟨by (repeat' apply And.intro) <;> first | assumption | omega |  (intros; omega) | (intro hg; simp only [Bool.and_eq_true, Bool.or_eq_true, Bool.not_eq_true', decide_eq_true_eq, decide_eq_false_iff_not] at hg; omega) | (simp only [Bool.and_eq_true, Bool.or_eq_true, Bool.not_eq_true', Bool.and_eq_false_iff, Bool.or_eq_false_iff, Bool.not_eq_false', decide_eq_true_eq, decide_eq_false_iff_not]; omega) | (simp_all; done) | (simp_all <;> intros <;> omega), hK9 _ _ ?_⟩
    refine Wp.seqW fun K10 hK10 hW10 => ?_
    refine Wp.cond rfl ⟨⟩ (fun hc10 => ?_) (fun hc10 => ?_)
    rotate_left
    · refine Wp.exit ?_
      have hm := hk_16 _ (forL_end hm (ge_nat (by first | exact hc10 | simpa using hc10)))
      try dsimp only at hm
      simp only [thenQ, blockQ, ↓reduceIte]
      refine hW6 _ _ _ _ ?_ (hcut6 () hm)
      simp only [go_sem, simprocAttr]
      try simp [encB, encI_i64, encI_u8, encS, enc_api_File, enc_api_Machine, enc_api_Service, enc_api_Setting, List.map_set, List.map_replicate]
    have hlt10 := lt_nat (by first | exact hc10 | simpa using hc10)
    have hw10 := wrap_succ hlt10 hl_19
    obtain ⟨s_20, nx_17, hxs_20, hys_20, hnx_17, hm⟩ := forL_step hm hlt10
    replace hxs_20 := hxs_20 enc_api_Setting
    refine Wp.skip ?_
    simp only [thenQ]
    refine hK10 _ _ ?_
    refine Wp.seqW fun K11 hK11 hW11 => ?_
    refine Wp.block ?_
    refine Wp.seqR fun K12 hK12 => ?_
    simp only [go_sem, simprocAttr, hw10, hxs_20]
    first
      | refine hK12 _ _ ?_
      | refine ⟨by (repeat' apply And.intro) <;> first | assumption | omega |  (intros; omega) | (intro hg; simp only [Bool.and_eq_true, Bool.or_eq_true, Bool.not_eq_true', decide_eq_true_eq, decide_eq_false_iff_not] at hg; omega) | (simp only [Bool.and_eq_true, Bool.or_eq_true, Bool.not_eq_true', Bool.and_eq_false_iff, Bool.or_eq_false_iff, Bool.not_eq_false', decide_eq_true_eq, decide_eq_false_iff_not]; omega) | (simp_all; done) | (simp_all <;> intros <;> omega), hK12 _ _ ?_⟩
    obtain ⟨s_21, hbs_21, hxs_21, hys_21, hm⟩ := idx_elim hm
    replace hxs_21 : ∀ d, (List.map enc_api_Setting s2_2).getD i_18 d = enc_api_Setting s_21 := hxs_21 enc_api_Setting
    refine Wp.seqD (plan := [(0, none), (1, none), (2, none), (3, none), (4, none), (5, none), (6, none), (7, none), (8, none)]) (by kernel_rfl) rfl (by kernel_rfl) fun K13 hK13 => ?_
    simp only [go_sem, simprocAttr, hw10, hxs_20, hxs_21]
    first
      | refine hK13 _ _ ?_
      | refine ⟨by (repeat' apply And.intro) <;> first | assumption | omega |  (intros; omega) | (intro hg; simp only [Bool.and_eq_true, Bool.or_eq_true, Bool.not_eq_true', decide_eq_true_eq, decide_eq_false_iff_not] at hg; omega) | (simp only [Bool.and_eq_true, Bool.or_eq_true, Bool.not_eq_true', Bool.and_eq_false_iff, Bool.or_eq_false_iff, Bool.not_eq_false', decide_eq_true_eq, decide_eq_false_iff_not]; omega) | (simp_all; done) | (simp_all <;> intros <;> omega), hK13 _ _ ?_⟩
    refine Wp.cond rfl ⟨⟩ (fun hc14 => ?_) (fun hc14 => ?_)
    · have hm := brT hm (by first | exact hc14 | simpa using hc14)
      refine Wp.seqR fun K15 hK15 => ?_
      simp only [go_sem, simprocAttr, hw10, hxs_20, hxs_21]
      first
        | refine hK15 _ _ ?_
        | refine ⟨by (repeat' apply And.intro) <;> first | assumption | omega |  (intros; omega) | (intro hg; simp only [Bool.and_eq_true, Bool.or_eq_true, Bool.not_eq_true', decide_eq_true_eq, decide_eq_false_iff_not] at hg; omega) | (simp only [Bool.and_eq_true, Bool.or_eq_true, Bool.not_eq_true', Bool.and_eq_false_iff, Bool.or_eq_false_iff, Bool.not_eq_false', decide_eq_true_eq, decide_eq_false_iff_not]; omega) | (simp_all; done) | (simp_all <;> intros <;> omega), hK15 _ _ ?_⟩
      refine Wp.ret ?_
      simp only [thenQ, blockQ]
      refine retQ_ret ?_
      cases hm
      simp only [go_sem, simprocAttr, hw10, hxs_20, hxs_21]
      try simp [encB, encI_i64, encI_u8, encS, enc_api_File, enc_api_Machine, enc_api_Service, enc_api_Setting, List.map_set, List.map_replicate]
    · have hm := brF hm (by first | exact hc14 | simpa using hc14)
      refine Wp.skip ?_
      simp only [thenQ, blockQ, ↓reduceIte]
      refine hK11 _ _ ?_
      refine Wp.region fun K16 hK16 => ?_
      simp only [go_sem, simprocAttr, hw10, hxs_20, hxs_21]
      first
        | refine hK16 _ _ ?_
        | refine ⟨by (repeat' apply And.intro) <;> first | assumption | omega |  (intros; omega) | (intro hg; simp only [Bool.and_eq_true, Bool.or_eq_true, Bool.not_eq_true', decide_eq_true_eq, decide_eq_false_iff_not] at hg; omega) | (simp only [Bool.and_eq_true, Bool.or_eq_true, Bool.not_eq_true', Bool.and_eq_false_iff, Bool.or_eq_false_iff, Bool.not_eq_false', decide_eq_true_eq, decide_eq_false_iff_not]; omega) | (simp_all; done) | (simp_all <;> intros <;> omega), hK16 _ _ ?_⟩
      simp only [thenQ, blockQ, ↓reduceIte]
      refine ⟨(), hlt10, hnx_17 _ hm, ?_⟩
      simp only [go_sem, simprocAttr, hw10, hxs_20, hxs_21]
      try simp [encB, encI_i64, encI_u8, encS, enc_api_File, enc_api_Machine, enc_api_Service, enc_api_Setting, List.map_set, List.map_replicate]
set_option maxRecDepth 100000 in
set_option maxHeartbeats 4000000 in
theorem ok_slices_Equal_api_File_api_File (s1_1 : List api_File) (s2_2 : List api_File) (z : Bool) (hm : slices_Equal_api_File_api_File s1_1 s2_2 = some z) : Does Tryd.prog 68 [.p (.l (List.map enc_api_File s1_1)), .p (.l (List.map enc_api_File s2_2))] [] (fun r X => r = .p (.b z) ∧ X = []) := by
  unfold slices_Equal_api_File_api_File at hm
  refine Does.of_wp 0 26 [.tmp 4] Tryd.func68 rfl (by decide) rfl rfl (Nat.le_of_ble_eq_true rfl) fun B => ?_
  refine Wp.seqR fun K1 hK1 => ?_
  simp only [go_sem, simprocAttr]
  first
    | refine hK1 _ _ ?_
    | refine ⟨by (repeat' apply And.intro) <;> first | assumption | omega |  (intros; omega) | (intro hg; simp only [Bool.and_eq_true, Bool.or_eq_true, Bool.not_eq_true', decide_eq_true_eq, decide_eq_false_iff_not] at hg; omega) | (simp only [Bool.and_eq_true, Bool.or_eq_true, Bool.not_eq_true', Bool.and_eq_false_iff, Bool.or_eq_false_iff, Bool.not_eq_false', decide_eq_true_eq, decide_eq_false_iff_not]; omega) | (simp_all; done) | (simp_all <;> intros <;> omega), hK1 _ _ ?_⟩
  refine Wp.seqW fun K2 hK2 hW2 => ?_
  refine Wp.seqR fun K3 hK3 => ?_
  simp only [go_sem, simprocAttr]
  first
    | refine hK3 _ _ ?_
    | refine ⟨by (repeat' apply And.intro) <;> first | assumption | omega |  (intros; omega) | (intro hg; simp only [Bool.and_eq_true, Bool.or_eq_true, Bool.not_eq_true', decide_eq_true_eq, decide_eq_false_iff_not] at hg; omega) | (simp only [Bool.and_eq_true, Bool.or_eq_true, Bool.not_eq_true', Bool.and_eq_false_iff, Bool.or_eq_false_iff, Bool.not_eq_false', decide_eq_true_eq, decide_eq_false_iff_not]; omega) | (simp_all; done) | (simp_all <;> intros <;> omega), hK3 _ _ ?_⟩
  refine Wp.cond rfl ⟨⟩ (fun hc4 => ?_) (fun hc4 => ?_)
  · have hm := brT hm (by first | exact hc4 | simpa using hc4)
    refine Wp.seqR fun K5 hK5 => ?_
    simp only [go_sem, simprocAttr]
    first
      | refine hK5 _ _ ?_
      | refine ⟨by (repeat' apply And.intro) <;> first | assumption | omega |  (intros; omega) | (intro hg; simp only [Bool.and_eq_true, Bool.or_eq_true, Bool.not_eq_true', decide_eq_true_eq, decide_eq_false_iff_not] at hg; omega) | (simp only [Bool.and_eq_true, Bool.or_eq_true, Bool.not_eq_true', Bool.and_eq_false_iff, Bool.or_eq_false_iff, Bool.not_eq_false', decide_eq_true_eq, decide_eq_false_iff_not]; omega) | (simp_all; done) | (simp_all <;> intros <;> omega), hK5 _ _ ?_⟩
    refine Wp.ret ?_
    simp only [thenQ, blockQ]
    refine retQ_ret ?_
    cases hm
    simp only [go_sem, simprocAttr]
    try simp [encB, encI_i64, encI_u8, encS, enc_api_File, enc_api_Machine, enc_api_Service, enc_api_Setting, List.map_set, List.map_replicate]
  · have hm := brF hm (by first | exact hc4 | simpa using hc4)
    refine Wp.skip ?_
    simp only [thenQ, blockQ, ↓reduceIte]
    refine hK2 _ _ ?_
    refine Wp.seqW fun K6 hK6 hW6 => ?_
    obtain ⟨k_12, hk_12, hm⟩ := jp_elim hm
    have hcut6 : ∀ s, k_12 s = some z → K6 [] [] := by
      intro s hs
      have hm := hk_12 _ hs
      clear hs
      try dsimp only at hm
      try dsimp only
      refine hK6 _ _ ?_
      refine Wp.seqR fun K7 hK7 => ?_
      simp only [go_sem, simprocAttr]
      first
        | refine hK7 _ _ ?_
        | refine ⟨by (repeat' apply And.intro) <;> first | assumption | omega |  (intros; omega) | (intro hg; simp only [Bool.and_eq_true, Bool.or_eq_true, Bool.not_eq_true', decide_eq_true_eq, decide_eq_false_iff_not] at hg; omega) | (simp only [Bool.and_eq_true, Bool.or_eq_true, Bool.not_eq_true', Bool.and_eq_false_iff, Bool.or_eq_false_iff, Bool.not_eq_false', decide_eq_true_eq, decide_eq_false_iff_not]; omega) | (simp_all; done) | (simp_all <;> intros <;> omega), hK7 _ _ ?_⟩
      refine Wp.ret ?_
      refine retQ_ret ?_
      cases hm
      simp only [go_sem, simprocAttr]
      try simp [encB, encI_i64, encI_u8, encS, enc_api_File, enc_api_Machine, enc_api_Service, enc_api_Setting, List.map_set, List.map_replicate]
    clear hK6 hk_12
    refine Wp.seqR fun K8 hK8 => ?_
    simp only [go_sem, simprocAttr]
    first
      | refine hK8 _ _ ?_
      | refine ⟨by (repeat' apply And.intro) <;> first | assumption | omega |  (intros; omega) | (intro hg; simp only [Bool.and_eq_true, Bool.or_eq_true, Bool.not_eq_true', decide_eq_true_eq, decide_eq_false_iff_not] at hg; omega) | (simp only [Bool.and_eq_true, Bool.or_eq_true, Bool.not_eq_true', Bool.and_eq_false_iff, Bool.or_eq_false_iff, Bool.not_eq_false', decide_eq_true_eq, decide_eq_false_iff_not]; omega) | (simp_all; done) | (simp_all <;> intros <;> omega), hK8 _ _ ?_⟩
    refine Wp.block ?_
    obtain ⟨k_16, hk_16, hm⟩ := forL_cont hm
    refine Wp.fact 0 fun hl_19 => ?_
    replace hl_19 : s1_1.length ≤ 274877906944 := by
      simp only [go_sem, simprocAttr, List.length_map] at hl_19
      omega
    refine Wp.forL (fun i_18 s => [(0, .p (.l (List.map enc_api_File s1_1))), (1, .p (.l (List.map enc_api_File s2_2))), (12, .p (.i .i64 (s1_1.length : Int))), (13, .p (.i .i64 (i_18 : Int)))]) (fun i_18 s => []) ?_ hm ?_
    ·
      simp only [go_sem, simprocAttr]
      try simp [encB, encI_i64, encI_u8, encS, enc_api_File, enc_api_Machine, enc_api_Service, enc_api_Setting, List.map_set, List.map_replicate]
    clear hm
    intro i_18 s hii_18 hm
    try dsimp only at hm
    try dsimp only
    refine Wp.seqR fun K9 hK9 => ?_
    simp only [go_sem, simprocAttr]
    first
      | refine hK9 _ _ ?_
      | refine ⟨by (repeat' apply And.intro) <;> first | assumption | omega |  (intros; omega) | (intro hg; simp only [Bool.and_eq_true, Bool.or_eq_true, Bool.not_eq_true', decide_eq_true_eq, decide_eq_false_iff_not] at hg; omega) | (simp only [Bool.and_eq_true, Bool.or_eq_true, Bool.not_eq_true', Bool.and_eq_false_iff, Bool.or_eq_false_iff, Bool.not_eq_false', decide_eq_true_eq, decide_eq_false_iff_not]; omega) | (simp_all; done) | (simp_all <;> intros <;> omega), hK9 _ _ ?_⟩
    refine Wp.seqW fun K10 hK10 hW10 => ?_
    refine Wp.cond rfl ⟨⟩ (fun hc10 => ?_) (fun hc10 => ?_)
    rotate_left
    · refine Wp.exit ?_
      have hm := hk_16 _ (forL_end hm (ge_nat (by first | exact hc10 | simpa using hc10)))
      try dsimp only at hm
      simp only [thenQ, blockQ, ↓reduceIte]
      refine hW6 _ _ _ _ ?_ (hcut6 () hm)
      simp only [go_sem, simprocAttr]
      try simp [encB, encI_i64, encI_u8, encS, enc_api_File, enc_api_Machine, enc_api_Service, enc_api_Setting, List.map_set, List.map_replicate]
    have hlt10 := lt_nat (by first | exact hc10 | simpa using hc10)
    have hw10 := wrap_succ hlt10 hl_19
    obtain ⟨f_20, nx_17, hxf_20, hyf_20, hnx_17, hm⟩ := forL_step hm hlt10
    replace hxf_20 := hxf_20 enc_api_File
    refine Wp.skip ?_
    simp only [thenQ]
    refine hK10 _ _ ?_
    refine Wp.seqW fun K11 hK11 hW11 => ?_
    refine Wp.block ?_
    refine Wp.seqR fun K12 hK12 => ?_
    simp only [go_sem, simprocAttr, hw10, hxf_20]
    first
      | refine hK12 _ _ ?_
      | refine ⟨by (repeat' apply And.intro) <;> first | assumption | omega |  (intros; omega) | (intro hg; simp only [Bool.and_eq_true, Bool.or_eq_true, Bool.not_eq_true', decide_eq_true_eq, decide_eq_false_iff_not] at hg; omega) | (simp only [Bool.and_eq_true, Bool.or_eq_true, Bool.not_eq_true', Bool.and_eq_false_iff, Bool.or_eq_false_iff, Bool.not_eq_false', decide_eq_true_eq, decide_eq_false_iff_not]; omega) | (simp_all; done) | (simp_all <;> intros <;> omega), hK12 _ _ ?_⟩
    obtain ⟨f_21, hbf_21, hxf_21, hyf_21, hm⟩ := idx_elim hm
    replace hxf_21 : ∀ d, (List.map enc_api_File s2_2).getD i_18 d = enc_api_File f_21 := hxf_21 enc_api_File
    refine Wp.seqD (plan := [(0, none), (1, none), (2, none), (3, none), (4, none), (5, none), (6, none), (7, none), (8, none)]) (by kernel_rfl) rfl (by kernel_rfl) fun K13 hK13 => ?_
    simp only [go_sem, simprocAttr, hw10, hxf_20, hxf_21]
    first
      | refine hK13 _ _ ?_
      | refine ⟨by (repeat' apply And.intro) <;> first | assumption | omega |  (intros; omega) | (intro hg; simp only [Bool.and_eq_true, Bool.or_eq_true, Bool.not_eq_true', decide_eq_true_eq, decide_eq_false_iff_not] at hg; omega) | (simp only [Bool.and_eq_true, Bool.or_eq_true, Bool.not_eq_true', Bool.and_eq_false_iff, Bool.or_eq_false_iff, Bool.not_eq_false', decide_eq_true_eq, decide_eq_false_iff_not]; omega) | (simp_all; done) | (simp_all <;> intros <;> omega), hK13 _ _ ?_⟩
    refine Wp.cond rfl ⟨⟩ (fun hc14 => ?_) (fun hc14 => ?_)
    · have hm := brT hm (by first | exact hc14 | simpa using hc14)
      refine Wp.seqR fun K15 hK15 => ?_
      simp only [go_sem, simprocAttr, hw10, hxf_20, hxf_21]
      first
        | refine hK15 _ _ ?_
        | refine ⟨by (repeat' apply And.intro) <;> first | assumption | omega |  (intros; omega) | (intro hg; simp only [Bool.and_eq_true, Bool.or_eq_true, Bool.not_eq_true', decide_eq_true_eq, decide_eq_false_iff_not] at hg; omega) | (simp only [Bool.and_eq_true, Bool.or_eq_true, Bool.not_eq_true', Bool.and_eq_false_iff, Bool.or_eq_false_iff, Bool.not_eq_false', decide_eq_true_eq, decide_eq_false_iff_not]; omega) | (simp_all; done) | (simp_all <;> intros <;> omega), hK15 _ _ ?_⟩
      refine Wp.ret ?_
      simp only [thenQ, blockQ]
      refine retQ_ret ?_
      cases hm
      simp only [go_sem, simprocAttr, hw10, hxf_20, hxf_21]
      try simp [encB, encI_i64, encI_u8, encS, enc_api_File, enc_api_Machine, enc_api_Service, enc_api_Setting, List.map_set, List.map_replicate]
    · have hm := brF hm (by first | exact hc14 | simpa using hc14)
      refine Wp.skip ?_
      simp only [thenQ, blockQ, ↓reduceIte]
      refine hK11 _ _ ?_
      refine Wp.region fun K16 hK16 => ?_
      simp only [go_sem, simprocAttr, hw10, hxf_20, hxf_21]
      first
        | refine hK16 _ _ ?_
        | refine ⟨by (repeat' apply And.intro) <;> first | assumption | omega |  (intros; omega) | (intro hg; simp only [Bool.and_eq_true, Bool.or_eq_true, Bool.not_eq_true', decide_eq_true_eq, decide_eq_false_iff_not] at hg; omega) | (simp only [Bool.and_eq_true, Bool.or_eq_true, Bool.not_eq_true', Bool.and_eq_false_iff, Bool.or_eq_false_iff, Bool.not_eq_false', decide_eq_true_eq, decide_eq_false_iff_not]; omega) | (simp_all; done) | (simp_all <;> intros <;> omega), hK16 _ _ ?_⟩
      simp only [thenQ, blockQ, ↓reduceIte]
      refine ⟨(), hlt10, hnx_17 _ hm, ?_⟩
      simp only [go_sem, simprocAttr, hw10, hxf_20, hxf_21]
      try simp [encB, encI_i64, encI_u8, encS, enc_api_File, enc_api_Machine, enc_api_Service, enc_api_Setting, List.map_set, List.map_replicate]
set_option maxRecDepth 100000 in
set_option maxHeartbeats 4000000 in
theorem ok_slices_Equal_api_Service_api_Service (s1_1 : List api_Service) (s2_2 : List api_Service) (z : Bool) (hm : slices_Equal_api_Service_api_Service s1_1 s2_2 = some z) : Does Tryd.prog 69 [.p (.l (List.map enc_api_Service s1_1)), .p (.l (List.map enc_api_Service s2_2))] [] (fun r X => r = .p (.b z) ∧ X = []) := by
  unfold slices_Equal_api_Service_api_Service at hm
  refine Does.of_wp 0 26 [.tmp 4] Tryd.func69 rfl (by decide) rfl rfl (Nat.le_of_ble_eq_true rfl) fun B => ?_
  refine Wp.seqR fun K1 hK1 => ?_
  simp only [go_sem, simprocAttr]
  first
    | refine hK1 _ _ ?_
    | refine ⟨by (repeat' apply And.intro) <;> first | assumption | omega |  (intros; omega) | (intro hg; simp only [Bool.and_eq_true, Bool.or_eq_true, Bool.not_eq_true', decide_eq_true_eq, decide_eq_false_iff_not] at hg; omega) | (simp only [Bool.and_eq_true, Bool.or_eq_true, Bool.not_eq_true', Bool.and_eq_false_iff, Bool.or_eq_false_iff, Bool.not_eq_false', decide_eq_true_eq, decide_eq_false_iff_not]; omega) | (simp_all; done) | (simp_all <;> intros <;> omega), hK1 _ _ ?_⟩
  refine Wp.seqW fun K2 hK2 hW2 => ?_
  refine Wp.seqR fun K3 hK3 => ?_
  simp only [go_sem, simprocAttr]
  first
    | refine hK3 _ _ ?_
    | refine ⟨by (repeat' apply And.intro) <;> first | assumption | omega |  (intros; omega) | (intro hg; simp only [Bool.and_eq_true, Bool.or_eq_true, Bool.not_eq_true', decide_eq_true_eq, decide_eq_false_iff_not] at hg; omega) | (simp only [Bool.and_eq_true, Bool.or_eq_true, Bool.not_eq_true', Bool.and_eq_false_iff, Bool.or_eq_false_iff, Bool.not_eq_false', decide_eq_true_eq, decide_eq_false_iff_not]; omega) | (simp_all; done) | (simp_all <;> intros <;> omega), hK3 _ _ ?_⟩
  refine Wp.cond rfl ⟨⟩ (fun hc4 => ?_) (fun hc4 => ?_)
  · have hm := brT hm (by first | exact hc4 | simpa using hc4)
    refine Wp.seqR fun K5 hK5 => ?_
    simp only [go_sem, simprocAttr]
    first
      | refine hK5 _ _ ?_
      | refine ⟨by (repeat' apply And.intro) <;> first | assumption | omega |  (intros; omega) | (intro hg; simp only [Bool.and_eq_true, Bool.or_eq_true, Bool.not_eq_true', decide_eq_true_eq, decide_eq_false_iff_not] at hg; omega) | (simp only [Bool.and_eq_true, Bool.or_eq_true, Bool.not_eq_true', Bool.and_eq_false_iff, Bool.or_eq_false_iff, Bool.not_eq_false', decide_eq_true_eq, decide_eq_false_iff_not]; omega) | (simp_all; done) | (simp_all <;> intros <;> omega), hK5 _ _ ?_⟩
    refine Wp.ret ?_
    simp only [thenQ, blockQ]
    refine retQ_ret ?_
    cases hm
    simp only [go_sem, simprocAttr]
    try simp [encB, encI_i64, encI_u8, encS, enc_api_File, enc_api_Machine, enc_api_Service, enc_api_Setting, List.map_set, List.map_replicate]
  · have hm := brF hm (by first | exact hc4 | simpa using hc4)
    refine Wp.skip ?_
    simp only [thenQ, blockQ, ↓reduceIte]
    refine hK2 _ _ ?_
    refine Wp.seqW fun K6 hK6 hW6 => ?_
    obtain ⟨k_12, hk_12, hm⟩ := jp_elim hm
    have hcut6 : ∀ s, k_12 s = some z → K6 [] [] := by
      intro s hs
      have hm := hk_12 _ hs
      clear hs
      try dsimp only at hm
      try dsimp only
      refine hK6 _ _ ?_
      refine Wp.seqR fun K7 hK7 => ?_
      simp only [go_sem, simprocAttr]
      first
        | refine hK7 _ _ ?_
        | refine ⟨by (repeat' apply And.intro) <;> first | assumption | omega |  (intros; omega) | (intro hg; simp only [Bool.and_eq_true, Bool.or_eq_true, Bool.not_eq_true', decide_eq_true_eq, decide_eq_false_iff_not] at hg; omega) | (simp only [Bool.and_eq_true, Bool.or_eq_true, Bool.not_eq_true', Bool.and_eq_false_iff, Bool.or_eq_false_iff, Bool.not_eq_false', decide_eq_true_eq, decide_eq_false_iff_not]; omega) | (simp_all; done) | (simp_all <;> intros <;> omega), hK7 _ _ ?_⟩
      refine Wp.ret ?_
      refine retQ_ret ?_
      cases hm
      simp only [go_sem, simprocAttr]
      try simp [encB, encI_i64, encI_u8, encS, enc_api_File, enc_api_Machine, enc_api_Service, enc_api_Setting, List.map_set, List.map_replicate]
    clear hK6 hk_12
    refine Wp.seqR fun K8 hK8 => ?_
    simp only [go_sem, simprocAttr]
    first
      | refine hK8 _ _ ?_
      | refine ⟨by (repeat' apply And.intro) <;> first | assumption | omega |  (intros; omega) | (intro hg; simp only [Bool.and_eq_true, Bool.or_eq_true, Bool.not_eq_true', decide_eq_true_eq, decide_eq_false_iff_not] at hg; omega) | (simp only [Bool.and_eq_true, Bool.or_eq_true, Bool.not_eq_true', Bool.and_eq_false_iff, Bool.or_eq_false_iff, Bool.not_eq_false', decide_eq_true_eq, decide_eq_false_iff_not]; omega) | (simp_all; done) | (simp_all <;> intros <;> omega), hK8 _ _ ?_⟩
    refine Wp.block ?_
    obtain ⟨k_16, hk_16, hm⟩ := forL_cont hm
    refine Wp.fact 0 fun hl_19 => ?_
    replace hl_19 : s1_1.length ≤ 274877906944 := by
      simp only [go_sem, simprocAttr, List.length_map] at hl_19
      omega
    refine Wp.forL (fun i_18 s => [(0, .p (.l (List.map enc_api_Service s1_1))), (1, .p (.l (List.map enc_api_Service s2_2))), (12, .p (.i .i64 (s1_1.length : Int))), (13, .p (.i .i64 (i_18 : Int)))]) (fun i_18 s => []) ?_ hm ?_
    ·
      simp only [go_sem, simprocAttr]
      try simp [encB, encI_i64, encI_u8, encS, enc_api_File, enc_api_Machine, enc_api_Service, enc_api_Setting, List.map_set, List.map_replicate]
    clear hm
    intro i_18 s hii_18 hm
    try dsimp only at hm
    try dsimp only
    refine Wp.seqR fun K9 hK9 => ?_
    simp only [go_sem, simprocAttr]
    first
      | refine hK9 _ _ ?_
      | refine ⟨by (repeat' apply And.intro) <;> first | assumption | omega |  (intros; omega) | (intro hg; simp only [Bool.and_eq_true, Bool.or_eq_true, Bool.not_eq_true', decide_eq_true_eq, decide_eq_false_iff_not] at hg; omega) | (simp only [Bool.and_eq_true, Bool.or_eq_true, Bool.not_eq_true', Bool.and_eq_false_iff, Bool.or_eq_false_iff, Bool.not_eq_false', decide_eq_true_eq, decide_eq_false_iff_not]; omega) | (simp_all; done) | (simp_all <;> intros <;> omega), hK9 _ _ ?_⟩
    refine Wp.seqW fun K10 hK10 hW10 => ?_
    refine Wp.cond rfl ⟨⟩ (fun hc10 => ?_) (fun hc10 => ?_)
    rotate_left
    · refine Wp.exit ?_
      have hm := hk_16 _ (forL_end hm (ge_nat (by first | exact hc10 | simpa using hc10)))
      try dsimp only at hm
      simp only [thenQ, blockQ, ↓reduceIte]
      refine hW6 _ _ _ _ ?_ (hcut6 () hm)
      simp only [go_sem, simprocAttr]
      try simp [encB, encI_i64, encI_u8, encS, enc_api_File, enc_api_Machine, enc_api_Service, enc_api_Setting, List.map_set, List.map_replicate]
    have hlt10 := lt_nat (by first | exact hc10 | simpa using hc10)
    have hw10 := wrap_succ hlt10 hl_19
    obtain ⟨s_20, nx_17, hxs_20, hys_20, hnx_17, hm⟩ := forL_step hm hlt10
    replace hxs_20 := hxs_20 enc_api_Service
    refine Wp.skip ?_
    simp only [thenQ]
    refine hK10 _ _ ?_
    refine Wp.seqW fun K11 hK11 hW11 => ?_
    refine Wp.block ?_
    refine Wp.seqR fun K12 hK12 => ?_
    simp only [go_sem, simprocAttr, hw10, hxs_20]
    first
      | refine hK12 _ _ ?_
      | refine ⟨by (repeat' apply And.intro) <;> first | assumption | omega |  (intros; omega) | (intro hg; simp only [Bool.and_eq_true, Bool.or_eq_true, Bool.not_eq_true', decide_eq_true_eq, decide_eq_false_iff_not] at hg; omega) | (simp only [Bool.and_eq_true, Bool.or_eq_true, Bool.not_eq_true', Bool.and_eq_false_iff, Bool.or_eq_false_iff, Bool.not_eq_false', decide_eq_true_eq, decide_eq_false_iff_not]; omega) | (simp_all; done) | (simp_all <;> intros <;> omega), hK12 _ _ ?_⟩
    obtain ⟨s_21, hbs_21, hxs_21, hys_21, hm⟩ := idx_elim hm
    replace hxs_21 : ∀ d, (List.map enc_api_Service s2_2).getD i_18 d = enc_api_Service s_21 := hxs_21 enc_api_Service
    refine Wp.seqD (plan := [(0, none), (1, none), (2, none), (3, none), (4, none), (5, none), (6, none), (7, none), (8, none)]) (by kernel_rfl) rfl (by kernel_rfl) fun K13 hK13 => ?_
    simp only [go_sem, simprocAttr, hw10, hxs_20, hxs_21]
    first
      | refine hK13 _ _ ?_
      | refine ⟨by (repeat' apply And.intro) <;> first | assumption | omega |  (intros; omega) | (intro hg; simp only [Bool.and_eq_true, Bool.or_eq_true, Bool.not_eq_true', decide_eq_true_eq, decide_eq_false_iff_not] at hg; omega) | (simp only [Bool.and_eq_true, Bool.or_eq_true, Bool.not_eq_true', Bool.and_eq_false_iff, Bool.or_eq_false_iff, Bool.not_eq_false', decide_eq_true_eq, decide_eq_false_iff_not]; omega) | (simp_all; done) | (simp_all <;> intros <;> omega), hK13 _ _ ?_⟩
    refine Wp.cond rfl ⟨⟩ (fun hc14 => ?_) (fun hc14 => ?_)
    · have hm := brT hm (by first | exact hc14 | simpa using hc14)
      refine Wp.seqR fun K15 hK15 => ?_
      simp only [go_sem, simprocAttr, hw10, hxs_20, hxs_21]
      first
        | refine hK15 _ _ ?_
        | refine ⟨by (repeat' apply And.intro) <;> first | assumption | omega |  (intros; omega) | (intro hg; simp only [Bool.and_eq_true, Bool.or_eq_true, Bool.not_eq_true', decide_eq_true_eq, decide_eq_false_iff_not] at hg; omega) | (simp only [Bool.and_eq_true, Bool.or_eq_true, Bool.not_eq_true', Bool.and_eq_false_iff, Bool.or_eq_false_iff, Bool.not_eq_false', decide_eq_true_eq, decide_eq_false_iff_not]; omega) | (simp_all; done) | (simp_all <;> intros <;> omega), hK15 _ _ ?_⟩
      refine Wp.ret ?_
      simp only [thenQ, blockQ]
      refine retQ_ret ?_
      cases hm
      simp only [go_sem, simprocAttr, hw10, hxs_20, hxs_21]
      try simp [encB, encI_i64, encI_u8, encS, enc_api_File, enc_api_Machine, enc_api_Service, enc_api_Setting, List.map_set, List.map_replicate]
    · have hm := brF hm (by first | exact hc14 | simpa using hc14)
      refine Wp.skip ?_
      simp only [thenQ, blockQ, ↓reduceIte]
      refine hK11 _ _ ?_
      refine Wp.region fun K16 hK16 => ?_
      simp only [go_sem, simprocAttr, hw10, hxs_20, hxs_21]
      first
        | refine hK16 _ _ ?_
        | refine ⟨by (repeat' apply And.intro) <;> first | assumption | omega |  (intros; omega) | (intro hg; simp only [Bool.and_eq_true, Bool.or_eq_true, Bool.not_eq_true', decide_eq_true_eq, decide_eq_false_iff_not] at hg; omega) | (simp only [Bool.and_eq_true, Bool.or_eq_true, Bool.not_eq_true', Bool.and_eq_false_iff, Bool.or_eq_false_iff, Bool.not_eq_false', decide_eq_true_eq, decide_eq_false_iff_not]; omega) | (simp_all; done) | (simp_all <;> intros <;> omega), hK16 _ _ ?_⟩
      simp only [thenQ, blockQ, ↓reduceIte]
      refine ⟨(), hlt10, hnx_17 _ hm, ?_⟩
      simp only [go_sem, simprocAttr, hw10, hxs_20, hxs_21]
      try simp [encB, encI_i64, encI_u8, encS, enc_api_File, enc_api_Machine, enc_api_Service, enc_api_Setting, List.map_set, List.map_replicate]
set_option maxRecDepth 100000 in
set_option maxHeartbeats 4000000 in
theorem ok_R_Same (a_1 : api_Machine) (b_2 : api_Machine) (z : Bool) (hm : R_Same a_1 b_2 = some z) : Does Tryd.prog 17 [.agg [.p (.l (List.map enc_api_Setting a_1.Facts)), .p (.l (List.map enc_api_File a_1.Files)), .p (.l (List.map enc_api_Setting a_1.Settings)), .p (.l (List.map enc_api_Service a_1.Services))], .agg [.p (.l (List.map enc_api_Setting b_2.Facts)), .p (.l (List.map enc_api_File b_2.Files)), .p (.l (List.map enc_api_Setting b_2.Settings)), .p (.l (List.map enc_api_Service b_2.Services))]] [] (fun r X => r = .p (.b z) ∧ X = []) := by
  unfold R_Same at hm
  refine Does.of_wp 0 31 [.tmp 4] Tryd.func17 rfl (by decide) rfl rfl (Nat.le_of_ble_eq_true rfl) fun B => ?_
  refine Wp.seqR fun K1 hK1 => ?_
  simp only [go_sem, simprocAttr]
  first
    | refine hK1 _ _ ?_
    | refine ⟨by (repeat' apply And.intro) <;> first | assumption | omega |  (intros; omega) | (intro hg; simp only [Bool.and_eq_true, Bool.or_eq_true, Bool.not_eq_true', decide_eq_true_eq, decide_eq_false_iff_not] at hg; omega) | (simp only [Bool.and_eq_true, Bool.or_eq_true, Bool.not_eq_true', Bool.and_eq_false_iff, Bool.or_eq_false_iff, Bool.not_eq_false', decide_eq_true_eq, decide_eq_false_iff_not]; omega) | (simp_all; done) | (simp_all <;> intros <;> omega), hK1 _ _ ?_⟩
  obtain ⟨r_3, hr_3, hm⟩ := call_elim hm
  obtain ⟨r_4, hr_4, hm⟩ := callG_elim hm
  obtain ⟨r_5, hr_5, hm⟩ := callG_elim hm
  obtain ⟨r_6, hr_6, hm⟩ := callG_elim hm
  refine Wp.seqR fun K2 hK2 => ?_
  simp only [go_sem, simprocAttr]
  try refine ⟨by (repeat' apply And.intro) <;> first | assumption | omega |  (intros; omega) | (intro hg; simp only [Bool.and_eq_true, Bool.or_eq_true, Bool.not_eq_true', decide_eq_true_eq, decide_eq_false_iff_not] at hg; omega) | (simp only [Bool.and_eq_true, Bool.or_eq_true, Bool.not_eq_true', Bool.and_eq_false_iff, Bool.or_eq_false_iff, Bool.not_eq_false', decide_eq_true_eq, decide_eq_false_iff_not]; omega) | (simp_all; done) | (simp_all <;> intros <;> omega), ?_⟩
  refine Rg.callX (av := ?av3) (g := true) (fun hg => ok_slices_Equal_api_Setting_api_Setting a_1.Facts b_2.Facts _ hr_3) ?ha3 ?hb3 ?hp3 ?hok3 ?hf3 ?cont3
  case ha3 =>
    simp only [go_sem, simprocAttr]
    exact Is.mk
  case hb3 =>
    simp only [go_sem, simprocAttr]
    exact Is.mk
  case hp3 =>
    simp only [go_sem, simprocAttr]
    exact Is.mk
  case hok3 =>
    simp only [go_sem, simprocAttr]
  case hf3 =>
    simp only [go_sem, simprocAttr]
    exact Is.mk
  intro hv3
  simp only [go_sem, simprocAttr]
  try refine ⟨by (repeat' apply And.intro) <;> first | assumption | omega |  (intros; omega) | (intro hg; simp only [Bool.and_eq_true, Bool.or_eq_true, Bool.not_eq_true', decide_eq_true_eq, decide_eq_false_iff_not] at hg; omega) | (simp only [Bool.and_eq_true, Bool.or_eq_true, Bool.not_eq_true', Bool.and_eq_false_iff, Bool.or_eq_false_iff, Bool.not_eq_false', decide_eq_true_eq, decide_eq_false_iff_not]; omega) | (simp_all; done) | (simp_all <;> intros <;> omega), ?_⟩
  refine Rg.callX (av := ?av4) (g := r_3) (fun hg => ok_slices_Equal_api_File_api_File a_1.Files b_2.Files _ (hr_4 hg)) ?ha4 ?hb4 ?hp4 ?hok4 ?hf4 ?cont4
  case ha4 =>
    simp only [go_sem, simprocAttr]
    exact Is.mk
  case hb4 =>
    simp only [go_sem, simprocAttr]
    exact Is.mk
  case hp4 =>
    simp only [go_sem, simprocAttr]
    exact Is.mk
  case hok4 =>
    simp only [go_sem, simprocAttr]
  case hf4 =>
    simp only [go_sem, simprocAttr]
    exact Is.mk
  intro hv4
  simp only [go_sem, simprocAttr]
  try refine ⟨by (repeat' apply And.intro) <;> first | assumption | omega |  (intros; omega) | (intro hg; simp only [Bool.and_eq_true, Bool.or_eq_true, Bool.not_eq_true', decide_eq_true_eq, decide_eq_false_iff_not] at hg; omega) | (simp only [Bool.and_eq_true, Bool.or_eq_true, Bool.not_eq_true', Bool.and_eq_false_iff, Bool.or_eq_false_iff, Bool.not_eq_false', decide_eq_true_eq, decide_eq_false_iff_not]; omega) | (simp_all; done) | (simp_all <;> intros <;> omega), ?_⟩
  refine Rg.callX (av := ?av5) (g := (r_3 && r_4)) (fun hg => ok_slices_Equal_api_Setting_api_Setting a_1.Settings b_2.Settings _ (hr_5 hg)) ?ha5 ?hb5 ?hp5 ?hok5 ?hf5 ?cont5
  case ha5 =>
    simp only [go_sem, simprocAttr]
    exact Is.mk
  case hb5 =>
    simp only [go_sem, simprocAttr]
    exact Is.mk
  case hp5 =>
    simp only [go_sem, simprocAttr]
    exact Is.mk
  case hok5 =>
    simp only [go_sem, simprocAttr]
  case hf5 =>
    simp only [go_sem, simprocAttr]
    exact Is.mk
  intro hv5
  simp only [go_sem, simprocAttr]
  try refine ⟨by (repeat' apply And.intro) <;> first | assumption | omega |  (intros; omega) | (intro hg; simp only [Bool.and_eq_true, Bool.or_eq_true, Bool.not_eq_true', decide_eq_true_eq, decide_eq_false_iff_not] at hg; omega) | (simp only [Bool.and_eq_true, Bool.or_eq_true, Bool.not_eq_true', Bool.and_eq_false_iff, Bool.or_eq_false_iff, Bool.not_eq_false', decide_eq_true_eq, decide_eq_false_iff_not]; omega) | (simp_all; done) | (simp_all <;> intros <;> omega), ?_⟩
  refine Rg.callX (av := ?av6) (g := ((r_3 && r_4) && r_5)) (fun hg => ok_slices_Equal_api_Service_api_Service a_1.Services b_2.Services _ (hr_6 hg)) ?ha6 ?hb6 ?hp6 ?hok6 ?hf6 ?cont6
  case ha6 =>
    simp only [go_sem, simprocAttr]
    exact Is.mk
  case hb6 =>
    simp only [go_sem, simprocAttr]
    exact Is.mk
  case hp6 =>
    simp only [go_sem, simprocAttr]
    exact Is.mk
  case hok6 =>
    simp only [go_sem, simprocAttr]
  case hf6 =>
    simp only [go_sem, simprocAttr]
    exact Is.mk
  intro hv6
  simp only [go_sem, simprocAttr]
  first
    | refine hK2 _ _ ?_
    | refine ⟨by (repeat' apply And.intro) <;> first | assumption | omega |  (intros; omega) | (intro hg; simp only [Bool.and_eq_true, Bool.or_eq_true, Bool.not_eq_true', decide_eq_true_eq, decide_eq_false_iff_not] at hg; omega) | (simp only [Bool.and_eq_true, Bool.or_eq_true, Bool.not_eq_true', Bool.and_eq_false_iff, Bool.or_eq_false_iff, Bool.not_eq_false', decide_eq_true_eq, decide_eq_false_iff_not]; omega) | (simp_all; done) | (simp_all <;> intros <;> omega), hK2 _ _ ?_⟩
  refine Wp.ret ?_
  refine retQ_ret ?_
  cases hm
  simp only [go_sem, simprocAttr]
  try simp [encB, encI_i64, encI_u8, encS, enc_api_File, enc_api_Machine, enc_api_Service, enc_api_Setting, List.map_set, List.map_replicate]
set_option maxRecDepth 100000 in
set_option maxHeartbeats 4000000 in
theorem ok_Law_zero (m_1 : api_Machine) (z : Bool) (hm : Law_zero m_1 = some z) : Does Tryd.prog 14 [.agg [.p (.l (List.map enc_api_Setting m_1.Facts)), .p (.l (List.map enc_api_File m_1.Files)), .p (.l (List.map enc_api_Setting m_1.Settings)), .p (.l (List.map enc_api_Service m_1.Services))]] [] (fun r X => r = .p (.b z) ∧ X = []) := by
  unfold Law_zero at hm
  refine Does.of_wp 0 6 [.tmp 2] Tryd.func14 rfl (by decide) rfl rfl (Nat.le_of_ble_eq_true rfl) fun B => ?_
  refine Wp.seqR fun K1 hK1 => ?_
  simp only [go_sem, simprocAttr]
  first
    | refine hK1 _ _ ?_
    | refine ⟨by (repeat' apply And.intro) <;> first | assumption | omega |  (intros; omega) | (intro hg; simp only [Bool.and_eq_true, Bool.or_eq_true, Bool.not_eq_true', decide_eq_true_eq, decide_eq_false_iff_not] at hg; omega) | (simp only [Bool.and_eq_true, Bool.or_eq_true, Bool.not_eq_true', Bool.and_eq_false_iff, Bool.or_eq_false_iff, Bool.not_eq_false', decide_eq_true_eq, decide_eq_false_iff_not]; omega) | (simp_all; done) | (simp_all <;> intros <;> omega), hK1 _ _ ?_⟩
  obtain ⟨r_2, hr_2, hm⟩ := call_elim hm
  refine Wp.seqR fun K2 hK2 => ?_
  simp only [go_sem, simprocAttr]
  try refine ⟨by (repeat' apply And.intro) <;> first | assumption | omega |  (intros; omega) | (intro hg; simp only [Bool.and_eq_true, Bool.or_eq_true, Bool.not_eq_true', decide_eq_true_eq, decide_eq_false_iff_not] at hg; omega) | (simp only [Bool.and_eq_true, Bool.or_eq_true, Bool.not_eq_true', Bool.and_eq_false_iff, Bool.or_eq_false_iff, Bool.not_eq_false', decide_eq_true_eq, decide_eq_false_iff_not]; omega) | (simp_all; done) | (simp_all <;> intros <;> omega), ?_⟩
  refine Rg.callX (av := ?av3) (g := true) (fun hg => ok_R_Same m_1 (api_Machine.mk [] [] [] []) _ hr_2) ?ha3 ?hb3 ?hp3 ?hok3 ?hf3 ?cont3
  case ha3 =>
    simp only [go_sem, simprocAttr]
    exact Is.mk
  case hb3 =>
    simp only [go_sem, simprocAttr]
    exact Is.mk
  case hp3 =>
    simp only [go_sem, simprocAttr]
    exact Is.mk
  case hok3 =>
    simp only [go_sem, simprocAttr]
  case hf3 =>
    simp only [go_sem, simprocAttr]
    exact Is.mk
  intro hv3
  simp only [go_sem, simprocAttr]
  first
    | refine hK2 _ _ ?_
    | refine ⟨by (repeat' apply And.intro) <;> first | assumption | omega |  (intros; omega) | (intro hg; simp only [Bool.and_eq_true, Bool.or_eq_true, Bool.not_eq_true', decide_eq_true_eq, decide_eq_false_iff_not] at hg; omega) | (simp only [Bool.and_eq_true, Bool.or_eq_true, Bool.not_eq_true', Bool.and_eq_false_iff, Bool.or_eq_false_iff, Bool.not_eq_false', decide_eq_true_eq, decide_eq_false_iff_not]; omega) | (simp_all; done) | (simp_all <;> intros <;> omega), hK2 _ _ ?_⟩
  refine Wp.ret ?_
  refine retQ_ret ?_
  cases hm
  simp only [go_sem, simprocAttr]
  try simp [encB, encI_i64, encI_u8, encS, enc_api_File, enc_api_Machine, enc_api_Service, enc_api_Setting, List.map_set, List.map_replicate]
set_option maxRecDepth 100000 in
set_option maxHeartbeats 4000000 in
theorem ok_Law_MachinesCheck (m_1 : api_Machine) (z : Bool) (hm : Law_MachinesCheck m_1 = some z) : Does Tryd.prog 3 [.agg [.p (.l (List.map enc_api_Setting m_1.Facts)), .p (.l (List.map enc_api_File m_1.Files)), .p (.l (List.map enc_api_Setting m_1.Settings)), .p (.l (List.map enc_api_Service m_1.Services))]] [] (fun r X => r = .p (.b z) ∧ X = []) := by
  unfold Law_MachinesCheck at hm
  refine Does.of_wp 0 64 [.tmp 2] Tryd.func3 rfl (by decide) rfl rfl (Nat.le_of_ble_eq_true rfl) fun B => ?_
  refine Wp.seqR fun K1 hK1 => ?_
  simp only [go_sem, simprocAttr]
  first
    | refine hK1 _ _ ?_
    | refine ⟨by (repeat' apply And.intro) <;> first | assumption | omega |  (intros; omega) | (intro hg; simp only [Bool.and_eq_true, Bool.or_eq_true, Bool.not_eq_true', decide_eq_true_eq, decide_eq_false_iff_not] at hg; omega) | (simp only [Bool.and_eq_true, Bool.or_eq_true, Bool.not_eq_true', Bool.and_eq_false_iff, Bool.or_eq_false_iff, Bool.not_eq_false', decide_eq_true_eq, decide_eq_false_iff_not]; omega) | (simp_all; done) | (simp_all <;> intros <;> omega), hK1 _ _ ?_⟩
  refine Wp.seqW fun K2 hK2 hW2 => ?_
  obtain ⟨r_2, hr_2, hm⟩ := call_elim hm
  refine Wp.seqR fun K3 hK3 => ?_
  simp only [go_sem, simprocAttr]
  try refine ⟨by (repeat' apply And.intro) <;> first | assumption | omega |  (intros; omega) | (intro hg; simp only [Bool.and_eq_true, Bool.or_eq_true, Bool.not_eq_true', decide_eq_true_eq, decide_eq_false_iff_not] at hg; omega) | (simp only [Bool.and_eq_true, Bool.or_eq_true, Bool.not_eq_true', Bool.and_eq_false_iff, Bool.or_eq_false_iff, Bool.not_eq_false', decide_eq_true_eq, decide_eq_false_iff_not]; omega) | (simp_all; done) | (simp_all <;> intros <;> omega), ?_⟩
  refine Rg.callX (av := ?av4) (g := true) (fun hg => ok_Law_landed  _ hr_2) ?ha4 ?hb4 ?hp4 ?hok4 ?hf4 ?cont4
  case ha4 =>
    simp only [go_sem, simprocAttr]
    exact Is.mk
  case hb4 =>
    simp only [go_sem, simprocAttr]
    exact Is.mk
  case hp4 =>
    simp only [go_sem, simprocAttr]
    exact Is.mk
  case hok4 =>
    simp only [go_sem, simprocAttr]
  case hf4 =>
    simp only [go_sem, simprocAttr]
    exact Is.mk
  intro hv4
  simp only [go_sem, simprocAttr]
  first
    | refine hK3 _ _ ?_
    | refine ⟨by (repeat' apply And.intro) <;> first | assumption | omega |  (intros; omega) | (intro hg; simp only [Bool.and_eq_true, Bool.or_eq_true, Bool.not_eq_true', decide_eq_true_eq, decide_eq_false_iff_not] at hg; omega) | (simp only [Bool.and_eq_true, Bool.or_eq_true, Bool.not_eq_true', Bool.and_eq_false_iff, Bool.or_eq_false_iff, Bool.not_eq_false', decide_eq_true_eq, decide_eq_false_iff_not]; omega) | (simp_all; done) | (simp_all <;> intros <;> omega), hK3 _ _ ?_⟩
  refine Wp.cond rfl ⟨⟩ (fun hc5 => ?_) (fun hc5 => ?_)
  · have hm := brT hm (by first | exact hc5 | simpa using hc5)
    refine Wp.seqR fun K6 hK6 => ?_
    simp only [go_sem, simprocAttr]
    first
      | refine hK6 _ _ ?_
      | refine ⟨by (repeat' apply And.intro) <;> first | assumption | omega |  (intros; omega) | (intro hg; simp only [Bool.and_eq_true, Bool.or_eq_true, Bool.not_eq_true', decide_eq_true_eq, decide_eq_false_iff_not] at hg; omega) | (simp only [Bool.and_eq_true, Bool.or_eq_true, Bool.not_eq_true', Bool.and_eq_false_iff, Bool.or_eq_false_iff, Bool.not_eq_false', decide_eq_true_eq, decide_eq_false_iff_not]; omega) | (simp_all; done) | (simp_all <;> intros <;> omega), hK6 _ _ ?_⟩
    refine Wp.ret ?_
    simp only [thenQ, blockQ]
    refine retQ_ret ?_
    cases hm
    simp only [go_sem, simprocAttr]
    try simp [encB, encI_i64, encI_u8, encS, enc_api_File, enc_api_Machine, enc_api_Service, enc_api_Setting, List.map_set, List.map_replicate]
  · have hm := brF hm (by first | exact hc5 | simpa using hc5)
    refine Wp.skip ?_
    simp only [thenQ, blockQ, ↓reduceIte]
    refine hK2 _ _ ?_
    obtain ⟨r_3, hr_3, hm⟩ := call_elim hm
    refine Wp.seqR fun K7 hK7 => ?_
    simp only [go_sem, simprocAttr]
    try refine ⟨by (repeat' apply And.intro) <;> first | assumption | omega |  (intros; omega) | (intro hg; simp only [Bool.and_eq_true, Bool.or_eq_true, Bool.not_eq_true', decide_eq_true_eq, decide_eq_false_iff_not] at hg; omega) | (simp only [Bool.and_eq_true, Bool.or_eq_true, Bool.not_eq_true', Bool.and_eq_false_iff, Bool.or_eq_false_iff, Bool.not_eq_false', decide_eq_true_eq, decide_eq_false_iff_not]; omega) | (simp_all; done) | (simp_all <;> intros <;> omega), ?_⟩
    refine Rg.callX (av := ?av8) (g := true) (fun hg => ok_R_Check m_1 _ hr_3) ?ha8 ?hb8 ?hp8 ?hok8 ?hf8 ?cont8
    case ha8 =>
      simp only [go_sem, simprocAttr]
      exact Is.mk
    case hb8 =>
      simp only [go_sem, simprocAttr]
      exact Is.mk
    case hp8 =>
      simp only [go_sem, simprocAttr]
      exact Is.mk
    case hok8 =>
      simp only [go_sem, simprocAttr]
    case hf8 =>
      simp only [go_sem, simprocAttr]
      exact Is.mk
    intro hv8
    simp only [go_sem, simprocAttr]
    first
      | refine hK7 _ _ ?_
      | refine ⟨by (repeat' apply And.intro) <;> first | assumption | omega |  (intros; omega) | (intro hg; simp only [Bool.and_eq_true, Bool.or_eq_true, Bool.not_eq_true', decide_eq_true_eq, decide_eq_false_iff_not] at hg; omega) | (simp only [Bool.and_eq_true, Bool.or_eq_true, Bool.not_eq_true', Bool.and_eq_false_iff, Bool.or_eq_false_iff, Bool.not_eq_false', decide_eq_true_eq, decide_eq_false_iff_not]; omega) | (simp_all; done) | (simp_all <;> intros <;> omega), hK7 _ _ ?_⟩
    refine Wp.seqW fun K9 hK9 hW9 => ?_
    obtain ⟨r_4, hr_4, hm⟩ := call_elim hm
    refine Wp.seqR fun K10 hK10 => ?_
    simp only [go_sem, simprocAttr]
    try refine ⟨by (repeat' apply And.intro) <;> first | assumption | omega |  (intros; omega) | (intro hg; simp only [Bool.and_eq_true, Bool.or_eq_true, Bool.not_eq_true', decide_eq_true_eq, decide_eq_false_iff_not] at hg; omega) | (simp only [Bool.and_eq_true, Bool.or_eq_true, Bool.not_eq_true', Bool.and_eq_false_iff, Bool.or_eq_false_iff, Bool.not_eq_false', decide_eq_true_eq, decide_eq_false_iff_not]; omega) | (simp_all; done) | (simp_all <;> intros <;> omega), ?_⟩
    refine Rg.callX (av := ?av11) (g := true) (fun hg => ok_disk_Check m_1 _ hr_4) ?ha11 ?hb11 ?hp11 ?hok11 ?hf11 ?cont11
    case ha11 =>
      simp only [go_sem, simprocAttr]
      exact Is.mk
    case hb11 =>
      simp only [go_sem, simprocAttr]
      exact Is.mk
    case hp11 =>
      simp only [go_sem, simprocAttr]
      exact Is.mk
    case hok11 =>
      simp only [go_sem, simprocAttr]
    case hf11 =>
      simp only [go_sem, simprocAttr]
      exact Is.mk
    intro hv11
    simp only [go_sem, simprocAttr]
    first
      | refine hK10 _ _ ?_
      | refine ⟨by (repeat' apply And.intro) <;> first | assumption | omega |  (intros; omega) | (intro hg; simp only [Bool.and_eq_true, Bool.or_eq_true, Bool.not_eq_true', decide_eq_true_eq, decide_eq_false_iff_not] at hg; omega) | (simp only [Bool.and_eq_true, Bool.or_eq_true, Bool.not_eq_true', Bool.and_eq_false_iff, Bool.or_eq_false_iff, Bool.not_eq_false', decide_eq_true_eq, decide_eq_false_iff_not]; omega) | (simp_all; done) | (simp_all <;> intros <;> omega), hK10 _ _ ?_⟩
    refine Wp.cond rfl ⟨⟩ (fun hc12 => ?_) (fun hc12 => ?_)
    · have hm := brT hm (by first | exact hc12 | simpa using hc12)
      refine Wp.seqR fun K13 hK13 => ?_
      simp only [go_sem, simprocAttr]
      first
        | refine hK13 _ _ ?_
        | refine ⟨by (repeat' apply And.intro) <;> first | assumption | omega |  (intros; omega) | (intro hg; simp only [Bool.and_eq_true, Bool.or_eq_true, Bool.not_eq_true', decide_eq_true_eq, decide_eq_false_iff_not] at hg; omega) | (simp only [Bool.and_eq_true, Bool.or_eq_true, Bool.not_eq_true', Bool.and_eq_false_iff, Bool.or_eq_false_iff, Bool.not_eq_false', decide_eq_true_eq, decide_eq_false_iff_not]; omega) | (simp_all; done) | (simp_all <;> intros <;> omega), hK13 _ _ ?_⟩
      refine Wp.ret ?_
      simp only [thenQ, blockQ]
      refine retQ_ret ?_
      cases hm
      simp only [go_sem, simprocAttr]
      try simp [encB, encI_i64, encI_u8, encS, enc_api_File, enc_api_Machine, enc_api_Service, enc_api_Setting, List.map_set, List.map_replicate]
    · have hm := brF hm (by first | exact hc12 | simpa using hc12)
      refine Wp.skip ?_
      simp only [thenQ, blockQ, ↓reduceIte]
      refine hK9 _ _ ?_
      refine Wp.seqW fun K14 hK14 hW14 => ?_
      refine Wp.seqR fun K15 hK15 => ?_
      simp only [go_sem, simprocAttr]
      first
        | refine hK15 _ _ ?_
        | refine ⟨by (repeat' apply And.intro) <;> first | assumption | omega |  (intros; omega) | (intro hg; simp only [Bool.and_eq_true, Bool.or_eq_true, Bool.not_eq_true', decide_eq_true_eq, decide_eq_false_iff_not] at hg; omega) | (simp only [Bool.and_eq_true, Bool.or_eq_true, Bool.not_eq_true', Bool.and_eq_false_iff, Bool.or_eq_false_iff, Bool.not_eq_false', decide_eq_true_eq, decide_eq_false_iff_not]; omega) | (simp_all; done) | (simp_all <;> intros <;> omega), hK15 _ _ ?_⟩
      refine Wp.cond rfl ⟨⟩ (fun hc16 => ?_) (fun hc16 => ?_)
      · have hm := brT hm (by first | exact hc16 | simpa using hc16)
        refine Wp.seqR fun K17 hK17 => ?_
        simp only [go_sem, simprocAttr]
        first
          | refine hK17 _ _ ?_
          | refine ⟨by (repeat' apply And.intro) <;> first | assumption | omega |  (intros; omega) | (intro hg; simp only [Bool.and_eq_true, Bool.or_eq_true, Bool.not_eq_true', decide_eq_true_eq, decide_eq_false_iff_not] at hg; omega) | (simp only [Bool.and_eq_true, Bool.or_eq_true, Bool.not_eq_true', Bool.and_eq_false_iff, Bool.or_eq_false_iff, Bool.not_eq_false', decide_eq_true_eq, decide_eq_false_iff_not]; omega) | (simp_all; done) | (simp_all <;> intros <;> omega), hK17 _ _ ?_⟩
        refine Wp.ret ?_
        simp only [thenQ, blockQ]
        refine retQ_ret ?_
        cases hm
        simp only [go_sem, simprocAttr]
        try simp [encB, encI_i64, encI_u8, encS, enc_api_File, enc_api_Machine, enc_api_Service, enc_api_Setting, List.map_set, List.map_replicate]
      · have hm := brF hm (by first | exact hc16 | simpa using hc16)
        refine Wp.skip ?_
        simp only [thenQ, blockQ, ↓reduceIte]
        refine hK14 _ _ ?_
        obtain ⟨r_5, hr_5, hm⟩ := call_elim hm
        refine Wp.seqR fun K18 hK18 => ?_
        simp only [go_sem, simprocAttr]
        try refine ⟨by (repeat' apply And.intro) <;> first | assumption | omega |  (intros; omega) | (intro hg; simp only [Bool.and_eq_true, Bool.or_eq_true, Bool.not_eq_true', decide_eq_true_eq, decide_eq_false_iff_not] at hg; omega) | (simp only [Bool.and_eq_true, Bool.or_eq_true, Bool.not_eq_true', Bool.and_eq_false_iff, Bool.or_eq_false_iff, Bool.not_eq_false', decide_eq_true_eq, decide_eq_false_iff_not]; omega) | (simp_all; done) | (simp_all <;> intros <;> omega), ?_⟩
        refine Rg.callX (av := ?av19) (g := true) (fun hg => ok_disk_Size m_1 _ hr_5) ?ha19 ?hb19 ?hp19 ?hok19 ?hf19 ?cont19
        case ha19 =>
          simp only [go_sem, simprocAttr]
          exact Is.mk
        case hb19 =>
          simp only [go_sem, simprocAttr]
          exact Is.mk
        case hp19 =>
          simp only [go_sem, simprocAttr]
          exact Is.mk
        case hok19 =>
          simp only [go_sem, simprocAttr]
        case hf19 =>
          simp only [go_sem, simprocAttr]
          exact Is.mk
        intro hv19
        simp only [go_sem, simprocAttr]
        first
          | refine hK18 _ _ ?_
          | refine ⟨by (repeat' apply And.intro) <;> first | assumption | omega |  (intros; omega) | (intro hg; simp only [Bool.and_eq_true, Bool.or_eq_true, Bool.not_eq_true', decide_eq_true_eq, decide_eq_false_iff_not] at hg; omega) | (simp only [Bool.and_eq_true, Bool.or_eq_true, Bool.not_eq_true', Bool.and_eq_false_iff, Bool.or_eq_false_iff, Bool.not_eq_false', decide_eq_true_eq, decide_eq_false_iff_not]; omega) | (simp_all; done) | (simp_all <;> intros <;> omega), hK18 _ _ ?_⟩
        obtain ⟨r_6, hr_6, hm⟩ := call_elim hm
        refine Wp.seqR fun K20 hK20 => ?_
        simp only [go_sem, simprocAttr]
        try refine ⟨by (repeat' apply And.intro) <;> first | assumption | omega |  (intros; omega) | (intro hg; simp only [Bool.and_eq_true, Bool.or_eq_true, Bool.not_eq_true', decide_eq_true_eq, decide_eq_false_iff_not] at hg; omega) | (simp only [Bool.and_eq_true, Bool.or_eq_true, Bool.not_eq_true', Bool.and_eq_false_iff, Bool.or_eq_false_iff, Bool.not_eq_false', decide_eq_true_eq, decide_eq_false_iff_not]; omega) | (simp_all; done) | (simp_all <;> intros <;> omega), ?_⟩
        refine Rg.callX (av := ?av21) (g := true) (fun hg => ok_disk_Sum m_1 _ hr_6) ?ha21 ?hb21 ?hp21 ?hok21 ?hf21 ?cont21
        case ha21 =>
          simp only [go_sem, simprocAttr]
          exact Is.mk
        case hb21 =>
          simp only [go_sem, simprocAttr]
          exact Is.mk
        case hp21 =>
          simp only [go_sem, simprocAttr]
          exact Is.mk
        case hok21 =>
          simp only [go_sem, simprocAttr]
        case hf21 =>
          simp only [go_sem, simprocAttr]
          exact Is.mk
        intro hv21
        simp only [go_sem, simprocAttr]
        first
          | refine hK20 _ _ ?_
          | refine ⟨by (repeat' apply And.intro) <;> first | assumption | omega |  (intros; omega) | (intro hg; simp only [Bool.and_eq_true, Bool.or_eq_true, Bool.not_eq_true', decide_eq_true_eq, decide_eq_false_iff_not] at hg; omega) | (simp only [Bool.and_eq_true, Bool.or_eq_true, Bool.not_eq_true', Bool.and_eq_false_iff, Bool.or_eq_false_iff, Bool.not_eq_false', decide_eq_true_eq, decide_eq_false_iff_not]; omega) | (simp_all; done) | (simp_all <;> intros <;> omega), hK20 _ _ ?_⟩
        obtain ⟨r_7, hr_7, hm⟩ := call_elim hm
        refine Wp.seqR fun K22 hK22 => ?_
        simp only [go_sem, simprocAttr]
        try refine ⟨by (repeat' apply And.intro) <;> first | assumption | omega |  (intros; omega) | (intro hg; simp only [Bool.and_eq_true, Bool.or_eq_true, Bool.not_eq_true', decide_eq_true_eq, decide_eq_false_iff_not] at hg; omega) | (simp only [Bool.and_eq_true, Bool.or_eq_true, Bool.not_eq_true', Bool.and_eq_false_iff, Bool.or_eq_false_iff, Bool.not_eq_false', decide_eq_true_eq, decide_eq_false_iff_not]; omega) | (simp_all; done) | (simp_all <;> intros <;> omega), ?_⟩
        refine Rg.callX (av := ?av23) (g := true) (fun hg => ok_disk_Print m_1 _ hr_7) ?ha23 ?hb23 ?hp23 ?hok23 ?hf23 ?cont23
        case ha23 =>
          simp only [go_sem, simprocAttr]
          exact Is.mk
        case hb23 =>
          simp only [go_sem, simprocAttr]
          exact Is.mk
        case hp23 =>
          simp only [go_sem, simprocAttr]
          exact Is.mk
        case hok23 =>
          simp only [go_sem, simprocAttr]
        case hf23 =>
          simp only [go_sem, simprocAttr]
          exact Is.mk
        intro hv23
        simp only [go_sem, simprocAttr]
        first
          | refine hK22 _ _ ?_
          | refine ⟨by (repeat' apply And.intro) <;> first | assumption | omega |  (intros; omega) | (intro hg; simp only [Bool.and_eq_true, Bool.or_eq_true, Bool.not_eq_true', decide_eq_true_eq, decide_eq_false_iff_not] at hg; omega) | (simp only [Bool.and_eq_true, Bool.or_eq_true, Bool.not_eq_true', Bool.and_eq_false_iff, Bool.or_eq_false_iff, Bool.not_eq_false', decide_eq_true_eq, decide_eq_false_iff_not]; omega) | (simp_all; done) | (simp_all <;> intros <;> omega), hK22 _ _ ?_⟩
        obtain ⟨r_8, hr_8, hm⟩ := call_elim hm
        refine Wp.seqR fun K24 hK24 => ?_
        simp only [go_sem, simprocAttr]
        try refine ⟨by (repeat' apply And.intro) <;> first | assumption | omega |  (intros; omega) | (intro hg; simp only [Bool.and_eq_true, Bool.or_eq_true, Bool.not_eq_true', decide_eq_true_eq, decide_eq_false_iff_not] at hg; omega) | (simp only [Bool.and_eq_true, Bool.or_eq_true, Bool.not_eq_true', Bool.and_eq_false_iff, Bool.or_eq_false_iff, Bool.not_eq_false', decide_eq_true_eq, decide_eq_false_iff_not]; omega) | (simp_all; done) | (simp_all <;> intros <;> omega), ?_⟩
        refine Rg.callF (av := ?av25) (ok_disk_Boot m_1 _ hr_8) ?ha25 ?hp25 ?hok25 ?cont25
        case ha25 =>
          simp only [go_sem, simprocAttr]
          exact Is.mk
        case hp25 =>
          simp only [go_sem, simprocAttr]
          exact Is.mk
        case hok25 =>
          simp only [go_sem, simprocAttr]
        intro hv25
        simp only [go_sem, simprocAttr]
        first
          | refine hK24 _ _ ?_
          | refine ⟨by (repeat' apply And.intro) <;> first | assumption | omega |  (intros; omega) | (intro hg; simp only [Bool.and_eq_true, Bool.or_eq_true, Bool.not_eq_true', decide_eq_true_eq, decide_eq_false_iff_not] at hg; omega) | (simp only [Bool.and_eq_true, Bool.or_eq_true, Bool.not_eq_true', Bool.and_eq_false_iff, Bool.or_eq_false_iff, Bool.not_eq_false', decide_eq_true_eq, decide_eq_false_iff_not]; omega) | (simp_all; done) | (simp_all <;> intros <;> omega), hK24 _ _ ?_⟩
        obtain ⟨r_9, hr_9, hm⟩ := callG_elim hm
        refine Wp.seqR fun K26 hK26 => ?_
        simp only [go_sem, simprocAttr]
        try refine ⟨by (repeat' apply And.intro) <;> first | assumption | omega |  (intros; omega) | (intro hg; simp only [Bool.and_eq_true, Bool.or_eq_true, Bool.not_eq_true', decide_eq_true_eq, decide_eq_false_iff_not] at hg; omega) | (simp only [Bool.and_eq_true, Bool.or_eq_true, Bool.not_eq_true', Bool.and_eq_false_iff, Bool.or_eq_false_iff, Bool.not_eq_false', decide_eq_true_eq, decide_eq_false_iff_not]; omega) | (simp_all; done) | (simp_all <;> intros <;> omega), ?_⟩
        refine Rg.callX (av := ?av27) (g := ((((decide (r_5.2 = r_3)) && (decide (r_6.2 = r_3))) && (decide (r_7.2 = r_3))) && (decide (r_8.2 = r_3)))) (fun hg => ok_Law_zero (api_Machine.mk r_8.1.Facts r_8.1.Files r_8.1.Settings r_8.1.Services) _ (hr_9 hg)) ?ha27 ?hb27 ?hp27 ?hok27 ?hf27 ?cont27
        case ha27 =>
          simp only [go_sem, simprocAttr]
          exact Is.mk
        case hb27 =>
          simp only [go_sem, simprocAttr]
          exact Is.mk
        case hp27 =>
          simp only [go_sem, simprocAttr]
          exact Is.mk
        case hok27 =>
          simp only [go_sem, simprocAttr]
        case hf27 =>
          simp only [go_sem, simprocAttr]
          exact Is.mk
        intro hv27
        simp only [go_sem, simprocAttr]
        first
          | refine hK26 _ _ ?_
          | refine ⟨by (repeat' apply And.intro) <;> first | assumption | omega |  (intros; omega) | (intro hg; simp only [Bool.and_eq_true, Bool.or_eq_true, Bool.not_eq_true', decide_eq_true_eq, decide_eq_false_iff_not] at hg; omega) | (simp only [Bool.and_eq_true, Bool.or_eq_true, Bool.not_eq_true', Bool.and_eq_false_iff, Bool.or_eq_false_iff, Bool.not_eq_false', decide_eq_true_eq, decide_eq_false_iff_not]; omega) | (simp_all; done) | (simp_all <;> intros <;> omega), hK26 _ _ ?_⟩
        refine Wp.ret ?_
        refine retQ_ret ?_
        cases hm
        simp only [go_sem, simprocAttr]
        try simp [encB, encI_i64, encI_u8, encS, enc_api_File, enc_api_Machine, enc_api_Service, enc_api_Setting, List.map_set, List.map_replicate]
end Go.Proofs.YtbfemlilfeahkaaDoor
