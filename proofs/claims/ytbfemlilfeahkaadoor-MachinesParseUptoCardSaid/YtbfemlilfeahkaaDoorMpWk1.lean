/- That the code does what the models say (part 1). -/
import Derived.Test.YtbfemlilfeahkaaDoorMpMd
import Derived.Test.YtbfemlilfeahkaaDoorTy
set_option linter.unusedSimpArgs false
set_option linter.unusedVariables false
namespace Go.Proofs.YtbfemlilfeahkaaDoor
open Go.Vc Go.Md
theorem cv_107_157_110_2 : cvP Tryd.prog 107 157 110 2 = true := by kernel_rfl
attribute [go_sem] cv_107_157_110_2
theorem cv_157_107_110_2 : cvP Tryd.prog 157 107 110 2 = true := by kernel_rfl
attribute [go_sem] cv_157_107_110_2
theorem nvi_131 : NvI Tryd.prog 131 := NvI.noEscape Tryd.func131 (by kernel_rfl) (by kernel_rfl) (by kernel_rfl) (by kernel_rfl)
theorem pi_110 : (Tryd.prog.info? 110).isSome = true := by kernel_rfl
attribute [go_sem] pi_110
theorem sb_145_5 : sbP Tryd.prog 145 5 = true := by kernel_rfl
attribute [go_sem] sb_145_5
theorem nv_145 (s : List UInt8) (c : Int) : Nv Tryd.prog 145 [.p (.s s), .p (.i .u8 c)] (.p (.i .i64 (cntByte s c))) := Nv.countByte Tryd.func145 (by kernel_rfl) (by kernel_rfl) (by kernel_rfl) (by kernel_rfl) s c
theorem nv_154 (s : List UInt8) (c : List UInt8) : Nv Tryd.prog 154 [.p (.s s), .p (.s c)] (.p (.i .i64 (cmpB s c))) := Nv.compare Tryd.func154 (by kernel_rfl) (by kernel_rfl) (by kernel_rfl) (by kernel_rfl) s c
theorem nv_156 (s : List UInt8) (c : Int) : Nv Tryd.prog 156 [.p (.s s), .p (.i .u8 c)] (.p (.i .i64 (ixByte s c))) := Nv.indexByte Tryd.func156 (by kernel_rfl) (by kernel_rfl) (by kernel_rfl) (by kernel_rfl) s c
set_option maxRecDepth 100000 in
set_option maxHeartbeats 4000000 in
theorem ok_ver_isSmall (c_1 : Int) (z : Bool) (hm : ver_isSmall c_1 = some z) : Does Tryd.prog 99 [.p (.i .u8 c_1)] [] (fun r X => r = .p (.b z) ∧ X = []) := by
  unfold ver_isSmall at hm
  refine Does.of_wp 0 9 [.tmp 2] Tryd.func99 rfl (by decide) rfl rfl (Nat.le_of_ble_eq_true rfl) fun B => ?_
  refine Wp.seqR fun K1 hK1 => ?_
  simp only [go_sem, simprocAttr]
  first
    | refine hK1 _ _ ?_
    | refine ⟨by first | exact sd, hK1 _ _ ?_⟩
  refine Wp.seqR fun K2 hK2 => ?_
  simp only [go_sem, simprocAttr]
  first
    | refine hK2 _ _ ?_
    | refine ⟨by first | exact sd, hK2 _ _ ?_⟩
  refine Wp.ret ?_
  refine retQ_ret ?_
  cases hm
  simp only [go_sem, simprocAttr]
  try simp [encB, encI_i64, encI_u8, encS, enc_api_File, enc_api_Machine, enc_api_Service, enc_api_Setting, List.map_set, List.map_replicate]
set_option maxRecDepth 100000 in
set_option maxHeartbeats 4000000 in
theorem ok_ver_isDigit (c_1 : Int) (z : Bool) (hm : ver_isDigit c_1 = some z) : Does Tryd.prog 100 [.p (.i .u8 c_1)] [] (fun r X => r = .p (.b z) ∧ X = []) := by
  unfold ver_isDigit at hm
  refine Does.of_wp 0 9 [.tmp 2] Tryd.func100 rfl (by decide) rfl rfl (Nat.le_of_ble_eq_true rfl) fun B => ?_
  refine Wp.seqR fun K1 hK1 => ?_
  simp only [go_sem, simprocAttr]
  first
    | refine hK1 _ _ ?_
    | refine ⟨by first | exact sd, hK1 _ _ ?_⟩
  refine Wp.seqR fun K2 hK2 => ?_
  simp only [go_sem, simprocAttr]
  first
    | refine hK2 _ _ ?_
    | refine ⟨by first | exact sd, hK2 _ _ ?_⟩
  refine Wp.ret ?_
  refine retQ_ret ?_
  cases hm
  simp only [go_sem, simprocAttr]
  try simp [encB, encI_i64, encI_u8, encS, enc_api_File, enc_api_Machine, enc_api_Service, enc_api_Setting, List.map_set, List.map_replicate]
set_option maxRecDepth 100000 in
set_option maxHeartbeats 4000000 in
theorem ok_ver_IsName_1 (c_1 : Int) (z : Bool) (hm : ver_IsName_1 c_1 = some z) : Does Tryd.prog 98 [.p (.i .u8 c_1)] [] (fun r X => r = .p (.b z) ∧ X = []) := by
  unfold ver_IsName_1 at hm
  refine Does.of_wp 0 17 [.tmp 2] Tryd.func98 rfl (by decide) rfl rfl (Nat.le_of_ble_eq_true rfl) fun B => ?_
  refine Wp.seqR fun K1 hK1 => ?_
  simp only [go_sem, simprocAttr]
  first
    | refine hK1 _ _ ?_
    | refine ⟨by first | exact sd, hK1 _ _ ?_⟩
  obtain ⟨r_2, hr_2, hm⟩ := call_elim hm
  obtain ⟨r_3, hr_3, hm⟩ := callG_elim hm
  refine Wp.seqR fun K2 hK2 => ?_
  simp only [go_sem, simprocAttr]
  try refine ⟨by first | exact sd, ?_⟩
  refine Rg.callX (av := ?av3) (g := true) (fun hg => ok_ver_isSmall c_1 _ hr_2) ?ha3 ?hb3 ?hp3 ?hok3 ?hf3 ?cont3
  case ha3 =>
    simp only [go_sem, simprocAttr]
    exact Is.mk
  case hb3 =>
    simp only [go_sem, simprocAttr]
    exact Is.mk
  case hp3 =>
    simp only [go_sem, simprocAttr]
    exact Is.mk
  case hok3 =>
    simp only [go_sem, simprocAttr]
  case hf3 =>
    simp only [go_sem, simprocAttr]
    exact Is.mk
  intro hv3
  simp only [go_sem, simprocAttr]
  try refine ⟨by first | exact sd, ?_⟩
  refine Rg.callX (av := ?av4) (g := !r_2) (fun hg => ok_ver_isDigit c_1 _ (hr_3 hg)) ?ha4 ?hb4 ?hp4 ?hok4 ?hf4 ?cont4
  case ha4 =>
    simp only [go_sem, simprocAttr]
    exact Is.mk
  case hb4 =>
    simp only [go_sem, simprocAttr]
    exact Is.mk
  case hp4 =>
    simp only [go_sem, simprocAttr]
    exact Is.mk
  case hok4 =>
    simp only [go_sem, simprocAttr]
  case hf4 =>
    simp only [go_sem, simprocAttr]
    exact Is.mk
  intro hv4
  simp only [go_sem, simprocAttr]
  first
    | refine hK2 _ _ ?_
    | refine ⟨by first | exact sd, hK2 _ _ ?_⟩
  refine Wp.ret ?_
  refine retQ_ret ?_
  cases hm
  simp only [go_sem, simprocAttr]
  try simp [encB, encI_i64, encI_u8, encS, enc_api_File, enc_api_Machine, enc_api_Service, enc_api_Setting, List.map_set, List.map_replicate]
set_option maxRecDepth 100000 in
set_option maxHeartbeats 4000000 in
theorem ok_ver_each_i1 (s_1 : Str) (most_2 : Int) (z : Bool) (hm : ver_each_i1 s_1 most_2 = some z) : Does Tryd.prog 97 [.p (.s s_1), .p (.i .i64 most_2), .fn 98 []] [] (fun r X => r = .p (.b z) ∧ X = []) := by
  unfold ver_each_i1 at hm
  refine Does.of_wp 0 28 [.tmp 6] Tryd.func97 rfl (by decide) rfl rfl (Nat.le_of_ble_eq_true rfl) fun B => ?_
  refine Wp.seqR fun K1 hK1 => ?_
  simp only [go_sem, simprocAttr]
  first
    | refine hK1 _ _ ?_
    | refine ⟨by first | exact sd, hK1 _ _ ?_⟩
  refine Wp.seqW fun K2 hK2 hW2 => ?_
  obtain ⟨k_12, hk_12, hm⟩ := jp_elim hm
  have hcut2 : ∀ s, k_12 s = some z → K2 [(0, .p (.s s_1)), (1, .p (.i .i64 most_2))] [] := by
    intro s hs
    have hm := hk_12 _ hs
    clear hs
    try dsimp only at hm
    try dsimp only
    refine hK2 _ _ ?_
    refine Wp.seqR fun K3 hK3 => ?_
    simp only [go_sem, simprocAttr]
    first
      | refine hK3 _ _ ?_
      | refine ⟨by first | exact sd, hK3 _ _ ?_⟩
    refine Wp.ret ?_
    refine retQ_ret ?_
    cases hm
    simp only [go_sem, simprocAttr]
    try simp [encB, encI_i64, encI_u8, encS, enc_api_File, enc_api_Machine, enc_api_Service, enc_api_Setting, List.map_set, List.map_replicate]
  clear hK2 hk_12
  refine Wp.seqR fun K4 hK4 => ?_
  simp only [go_sem, simprocAttr]
  first
    | refine hK4 _ _ ?_
    | refine ⟨by first | exact sd, hK4 _ _ ?_⟩
  refine Wp.block ?_
  obtain ⟨k_16, hk_16, hm⟩ := forL_cont hm
  refine Wp.fact 0 fun hl_19 => ?_
  replace hl_19 : s_1.length ≤ 274877906944 := by
    simp only [go_sem, simprocAttr, List.length_map] at hl_19
    omega
  refine Wp.forL (fun i_18 s => [(0, .p (.s s_1)), (1, .p (.i .i64 most_2)), (2, .fn 98 []), (7, .p (.i .i64 (i_18 : Int)))]) (fun i_18 s => []) ?_ hm ?_
  ·
    simp only [go_sem, simprocAttr]
    try simp [encB, encI_i64, encI_u8, encS, enc_api_File, enc_api_Machine, enc_api_Service, enc_api_Setting, List.map_set, List.map_replicate]
  clear hm
  intro i_18 s hii_18 hm
  try dsimp only at hm
  try dsimp only
  refine Wp.seqW fun K5 hK5 hW5 => ?_
  refine Wp.seqR fun K6 hK6 => ?_
  simp only [go_sem, simprocAttr]
  first
    | refine hK6 _ _ ?_
    | refine ⟨by first | exact sd, hK6 _ _ ?_⟩
  refine Wp.cond rfl ⟨⟩ (fun hc5 => ?_) (fun hc5 => ?_)
  rotate_left
  · refine Wp.exit ?_
    have hm := hk_16 _ (forL_end hm (ge_nat (by first | exact hc5 | simpa using hc5)))
    try dsimp only at hm
    simp only [thenQ, blockQ, ↓reduceIte]
    refine hW2 _ _ _ _ ?_ (hcut2 () hm)
    simp only [go_sem, simprocAttr]
    try simp [encB, encI_i64, encI_u8, encS, enc_api_File, enc_api_Machine, enc_api_Service, enc_api_Setting, List.map_set, List.map_replicate]
  have hlt5 := lt_nat (by first | exact hc5 | simpa using hc5)
  have hw5 := wrap_succ hlt5 hl_19
  obtain ⟨c_20, nx_17, hxc_20, hyc_20, hnx_17, hm⟩ := forL_step hm hlt5
  clear hxc_20
  refine Wp.skip ?_
  simp only [thenQ]
  refine hK5 _ _ ?_
  refine Wp.seqW fun K7 hK7 hW7 => ?_
  refine Wp.block ?_
  obtain ⟨r_21, hr_21, hm⟩ := call_elim hm
  refine Wp.seqR fun K8 hK8 => ?_
  simp only [go_sem, simprocAttr, hw5, hyc_20]
  try refine ⟨by first | exact sd, ?_⟩
  refine Rg.callX (av := ?av9) (g := true) (fun hg => ok_ver_IsName_1 (c_20.toNat : Int) _ hr_21) ?ha9 ?hb9 ?hp9 ?hok9 ?hf9 ?cont9
  case ha9 =>
    simp only [go_sem, simprocAttr, hw5, hyc_20]
    exact Is.mk
  case hb9 =>
    simp only [go_sem, simprocAttr, hw5, hyc_20]
    exact Is.mk
  case hp9 =>
    simp only [go_sem, simprocAttr, hw5, hyc_20]
    exact Is.mk
  case hok9 =>
    simp only [go_sem, simprocAttr, hw5, hyc_20]
  case hf9 =>
    simp only [go_sem, simprocAttr, hw5, hyc_20]
    exact Is.mk
  intro hv9
  simp only [go_sem, simprocAttr, hw5, hyc_20]
  first
    | refine hK8 _ _ ?_
    | refine ⟨by first | exact sd, hK8 _ _ ?_⟩
  refine Wp.cond rfl ⟨⟩ (fun hc10 => ?_) (fun hc10 => ?_)
  · have hm := brT hm (by first | exact hc10 | simpa using hc10)
    refine Wp.seqR fun K11 hK11 => ?_
    simp only [go_sem, simprocAttr, hw5, hyc_20]
    first
      | refine hK11 _ _ ?_
      | refine ⟨by first | exact sd, hK11 _ _ ?_⟩
    refine Wp.ret ?_
    simp only [thenQ, blockQ]
    refine retQ_ret ?_
    cases hm
    simp only [go_sem, simprocAttr, hw5, hyc_20]
    try simp [encB, encI_i64, encI_u8, encS, enc_api_File, enc_api_Machine, enc_api_Service, enc_api_Setting, List.map_set, List.map_replicate]
  · have hm := brF hm (by first | exact hc10 | simpa using hc10)
    refine Wp.skip ?_
    simp only [thenQ, blockQ, ↓reduceIte]
    refine hK7 _ _ ?_
    refine Wp.region fun K12 hK12 => ?_
    simp only [go_sem, simprocAttr, hw5, hyc_20]
    first
      | refine hK12 _ _ ?_
      | refine ⟨by first | exact sd, hK12 _ _ ?_⟩
    simp only [thenQ, blockQ, ↓reduceIte]
    refine ⟨(), hlt5, hnx_17 _ hm, ?_⟩
    simp only [go_sem, simprocAttr, hw5, hyc_20]
    try simp [encB, encI_i64, encI_u8, encS, enc_api_File, enc_api_Machine, enc_api_Service, enc_api_Setting, List.map_set, List.map_replicate]
set_option maxRecDepth 100000 in
set_option maxHeartbeats 4000000 in
theorem ok_ver_IsName (s_1 : Str) (z : Bool) (hm : ver_IsName s_1 = some z) : Does Tryd.prog 34 [.p (.s s_1)] [] (fun r X => r = .p (.b z) ∧ X = []) := by
  unfold ver_IsName at hm
  refine Does.of_wp 0 10 [.tmp 2] Tryd.func34 rfl (by decide) rfl rfl (Nat.le_of_ble_eq_true rfl) fun B => ?_
  refine Wp.seqR fun K1 hK1 => ?_
  simp only [go_sem, simprocAttr]
  first
    | refine hK1 _ _ ?_
    | refine ⟨by first | exact sd, hK1 _ _ ?_⟩
  obtain ⟨r_2, hr_2, hm⟩ := call_elim hm
  obtain ⟨c_3, hm⟩ := chk_elim hm
  obtain ⟨r_4, hr_4, hm⟩ := callG_elim hm
  refine Wp.seqR fun K2 hK2 => ?_
  simp only [go_sem, simprocAttr]
  try refine ⟨by first | exact sd | ((repeat' apply And.intro) <;> first | assumption | omega | (simp only [List.length_append, List.length_map, List.length_cons, List.length_nil, List.length_set, List.length_replicate] at c_3 ⊢; omega)), ?_⟩
  refine Rg.callX (av := ?av3) (g := true) (fun hg => ok_ver_each_i1 s_1 40 _ hr_2) ?ha3 ?hb3 ?hp3 ?hok3 ?hf3 ?cont3
  case ha3 =>
    simp only [go_sem, simprocAttr]
    exact Is.mk
  case hb3 =>
    simp only [go_sem, simprocAttr]
    exact Is.mk
  case hp3 =>
    simp only [go_sem, simprocAttr]
    exact Is.mk
  case hok3 =>
    simp only [go_sem, simprocAttr]
  case hf3 =>
    simp only [go_sem, simprocAttr]
    exact Is.mk
  intro hv3
  simp only [go_sem, simprocAttr]
  try refine ⟨by first | exact sd | ((repeat' apply And.intro) <;> first | assumption | omega | (simp only [List.length_append, List.length_map, List.length_cons, List.length_nil, List.length_set, List.length_replicate] at c_3 ⊢; omega)), ?_⟩
  refine Rg.callX (av := ?av4) (g := r_2) (fun hg => ok_ver_isSmall ((s_1.getD 0 0).toNat : Int) _ (hr_4 hg)) ?ha4 ?hb4 ?hp4 ?hok4 ?hf4 ?cont4
  case ha4 =>
    simp only [go_sem, simprocAttr]
    exact Is.mk
  case hb4 =>
    simp only [go_sem, simprocAttr]
    exact Is.mk
  case hp4 =>
    simp only [go_sem, simprocAttr]
    exact Is.mk
  case hok4 =>
    simp only [go_sem, simprocAttr]
  case hf4 =>
    simp only [go_sem, simprocAttr]
    exact Is.mk
  intro hv4
  simp only [go_sem, simprocAttr]
  first
    | refine hK2 _ _ ?_
    | refine ⟨by first | exact sd | ((repeat' apply And.intro) <;> first | assumption | omega | (simp only [List.length_append, List.length_map, List.length_cons, List.length_nil, List.length_set, List.length_replicate] at c_3 ⊢; omega)), hK2 _ _ ?_⟩
  refine Wp.ret ?_
  refine retQ_ret ?_
  cases hm
  simp only [go_sem, simprocAttr]
  try simp [encB, encI_i64, encI_u8, encS, enc_api_File, enc_api_Machine, enc_api_Service, enc_api_Setting, List.map_set, List.map_replicate]
set_option maxRecDepth 100000 in
set_option maxHeartbeats 4000000 in
theorem ok_Law_landed  (z : Bool) (hm : Law_landed = some z) : Does Tryd.prog 7 [] [] (fun r X => r = .p (.b z) ∧ X = []) := by
  unfold Law_landed at hm
  refine Does.of_wp 0 2 [.tmp 0] Tryd.func7 rfl (by decide) rfl rfl (Nat.le_of_ble_eq_true rfl) fun B => ?_
  refine Wp.seqR fun K1 hK1 => ?_
  simp only [go_sem, simprocAttr]
  first
    | refine hK1 _ _ ?_
    | refine ⟨by first | exact sd, hK1 _ _ ?_⟩
  obtain ⟨r_1, hr_1, hm⟩ := call_elim hm
  refine Wp.seqR fun K2 hK2 => ?_
  simp only [go_sem, simprocAttr]
  try refine ⟨by first | exact sd, ?_⟩
  refine Rg.callX (av := ?av3) (g := true) (fun hg => ok_ver_IsName ([97] : Str) _ hr_1) ?ha3 ?hb3 ?hp3 ?hok3 ?hf3 ?cont3
  case ha3 =>
    simp only [go_sem, simprocAttr]
    exact Is.mk
  case hb3 =>
    simp only [go_sem, simprocAttr]
    exact Is.mk
  case hp3 =>
    simp only [go_sem, simprocAttr]
    exact Is.mk
  case hok3 =>
    simp only [go_sem, simprocAttr]
  case hf3 =>
    simp only [go_sem, simprocAttr]
    exact Is.mk
  intro hv3
  simp only [go_sem, simprocAttr]
  first
    | refine hK2 _ _ ?_
    | refine ⟨by first | exact sd, hK2 _ _ ?_⟩
  refine Wp.ret ?_
  refine retQ_ret ?_
  cases hm
  simp only [go_sem, simprocAttr]
  try simp [encB, encI_i64, encI_u8, encS, enc_api_File, enc_api_Machine, enc_api_Service, enc_api_Setting, List.map_set, List.map_replicate]
set_option maxRecDepth 100000 in
set_option maxHeartbeats 4000000 in
theorem ok_R_IsName (s_1 : Str) (z : Bool) (hm : R_IsName s_1 = some z) : Does Tryd.prog 30 [.p (.s s_1)] [] (fun r X => r = .p (.b z) ∧ X = []) := by
  unfold R_IsName at hm
  refine Does.of_wp 0 54 [.tmp 2] Tryd.func30 rfl (by decide) rfl rfl (Nat.le_of_ble_eq_true rfl) fun B => ?_
  refine Wp.seqR fun K1 hK1 => ?_
  simp only [go_sem, simprocAttr]
  first
    | refine hK1 _ _ ?_
    | refine ⟨by first | exact sd, hK1 _ _ ?_⟩
  refine Wp.seqW fun K2 hK2 hW2 => ?_
  obtain ⟨k_9, hk_9, hm⟩ := jp_elim hm
  have hcut2 : ∀ s, k_9 s = some z → K2 [(0, .p (.s s_1))] [] := by
    intro s hs
    have hm := hk_9 _ hs
    clear hs
    try dsimp only at hm
    try dsimp only
    refine hK2 _ _ ?_
    refine Wp.seqR fun K3 hK3 => ?_
    simp only [go_sem, simprocAttr]
    first
      | refine hK3 _ _ ?_
      | refine ⟨by first | exact sd, hK3 _ _ ?_⟩
    refine Wp.ret ?_
    refine retQ_ret ?_
    cases hm
    simp only [go_sem, simprocAttr]
    try simp [encB, encI_i64, encI_u8, encS, enc_api_File, enc_api_Machine, enc_api_Service, enc_api_Setting, List.map_set, List.map_replicate]
  clear hK2 hk_9
  refine Wp.seqR fun K4 hK4 => ?_
  simp only [go_sem, simprocAttr]
  first
    | refine hK4 _ _ ?_
    | refine ⟨by first | exact sd, hK4 _ _ ?_⟩
  refine Wp.block ?_
  obtain ⟨k_12, hk_12, hm⟩ := forL_cont hm
  refine Wp.fact 0 fun hl_15 => ?_
  replace hl_15 : s_1.length ≤ 274877906944 := by
    simp only [go_sem, simprocAttr, List.length_map] at hl_15
    omega
  refine Wp.forL (fun i_14 s => [(0, .p (.s s_1)), (7, .p (.i .i64 (s_1.length : Int))), (8, .p (.i .i64 (i_14 : Int)))]) (fun i_14 s => []) ?_ hm ?_
  ·
    simp only [go_sem, simprocAttr]
    try simp [encB, encI_i64, encI_u8, encS, enc_api_File, enc_api_Machine, enc_api_Service, enc_api_Setting, List.map_set, List.map_replicate]
  clear hm
  intro i_14 s hii_14 hm
  try dsimp only at hm
  try dsimp only
  refine Wp.seqR fun K5 hK5 => ?_
  simp only [go_sem, simprocAttr]
  first
    | refine hK5 _ _ ?_
    | refine ⟨by first | exact sd, hK5 _ _ ?_⟩
  refine Wp.seqW fun K6 hK6 hW6 => ?_
  refine Wp.cond rfl ⟨⟩ (fun hc6 => ?_) (fun hc6 => ?_)
  rotate_left
  · refine Wp.exit ?_
    have hm := hk_12 _ (forL_end hm (ge_nat (by first | exact hc6 | simpa using hc6)))
    try dsimp only at hm
    simp only [thenQ, blockQ, ↓reduceIte]
    refine hW2 _ _ _ _ ?_ (hcut2 () hm)
    simp only [go_sem, simprocAttr]
    try simp [encB, encI_i64, encI_u8, encS, enc_api_File, enc_api_Machine, enc_api_Service, enc_api_Setting, List.map_set, List.map_replicate]
  have hlt6 := lt_nat (by first | exact hc6 | simpa using hc6)
  have hw6 := wrap_succ hlt6 hl_15
  obtain ⟨c_16, nx_13, hxc_16, hyc_16, hnx_13, hm⟩ := forL_step hm hlt6
  clear hxc_16
  refine Wp.skip ?_
  simp only [thenQ]
  refine hK6 _ _ ?_
  refine Wp.seqW fun K7 hK7 hW7 => ?_
  refine Wp.block ?_
  refine Wp.seqR fun K8 hK8 => ?_
  simp only [go_sem, simprocAttr, hw6, hyc_16]
  first
    | refine hK8 _ _ ?_
    | refine ⟨by first | exact sd, hK8 _ _ ?_⟩
  refine Wp.seqR fun K9 hK9 => ?_
  simp only [go_sem, simprocAttr, hw6, hyc_16]
  first
    | refine hK9 _ _ ?_
    | refine ⟨by first | exact sd, hK9 _ _ ?_⟩
  refine Wp.seqR fun K10 hK10 => ?_
  simp only [go_sem, simprocAttr, hw6, hyc_16]
  first
    | refine hK10 _ _ ?_
    | refine ⟨by first | exact sd, hK10 _ _ ?_⟩
  refine Wp.seqR fun K11 hK11 => ?_
  simp only [go_sem, simprocAttr, hw6, hyc_16]
  first
    | refine hK11 _ _ ?_
    | refine ⟨by first | exact sd, hK11 _ _ ?_⟩
  refine Wp.cond rfl ⟨⟩ (fun hc12 => ?_) (fun hc12 => ?_)
  · have hm := brT hm (by first | exact hc12 | simpa using hc12)
    refine Wp.seqR fun K13 hK13 => ?_
    simp only [go_sem, simprocAttr, hw6, hyc_16]
    first
      | refine hK13 _ _ ?_
      | refine ⟨by first | exact sd, hK13 _ _ ?_⟩
    refine Wp.ret ?_
    simp only [thenQ, blockQ]
    refine retQ_ret ?_
    cases hm
    simp only [go_sem, simprocAttr, hw6, hyc_16]
    try simp [encB, encI_i64, encI_u8, encS, enc_api_File, enc_api_Machine, enc_api_Service, enc_api_Setting, List.map_set, List.map_replicate]
  · have hm := brF hm (by first | exact hc12 | simpa using hc12)
    refine Wp.skip ?_
    simp only [thenQ, blockQ, ↓reduceIte]
    refine hK7 _ _ ?_
    refine Wp.region fun K14 hK14 => ?_
    simp only [go_sem, simprocAttr, hw6, hyc_16]
    first
      | refine hK14 _ _ ?_
      | refine ⟨by first | exact sd, hK14 _ _ ?_⟩
    simp only [thenQ, blockQ, ↓reduceIte]
    refine ⟨(), hlt6, hnx_13 _ hm, ?_⟩
    simp only [go_sem, simprocAttr, hw6, hyc_16]
    try simp [encB, encI_i64, encI_u8, encS, enc_api_File, enc_api_Machine, enc_api_Service, enc_api_Setting, List.map_set, List.map_replicate]
set_option maxRecDepth 100000 in
set_option maxHeartbeats 4000000 in
theorem ok_R_when (bad_1 : Bool) (e_2 : Int) (z : Int) (hm : R_when bad_1 e_2 = some z) : Does Tryd.prog 36 [.p (.b bad_1), .p (.i .i64 e_2)] [] (fun r X => r = .p (.i .i64 z) ∧ X = []) := by
  unfold R_when at hm
  refine Does.of_wp 0 7 [.tmp 4] Tryd.func36 rfl (by decide) rfl rfl (Nat.le_of_ble_eq_true rfl) fun B => ?_
  refine Wp.seqR fun K1 hK1 => ?_
  simp only [go_sem, simprocAttr]
  first
    | refine hK1 _ _ ?_
    | refine ⟨by first | exact sd, hK1 _ _ ?_⟩
  refine Wp.seqW fun K2 hK2 hW2 => ?_
  refine Wp.seqR fun K3 hK3 => ?_
  simp only [go_sem, simprocAttr]
  first
    | refine hK3 _ _ ?_
    | refine ⟨by first | exact sd, hK3 _ _ ?_⟩
  refine Wp.cond rfl ⟨⟩ (fun hc4 => ?_) (fun hc4 => ?_)
  · have hm := brT hm (by first | exact hc4 | simpa using hc4)
    refine Wp.seqR fun K5 hK5 => ?_
    simp only [go_sem, simprocAttr]
    first
      | refine hK5 _ _ ?_
      | refine ⟨by first | exact sd, hK5 _ _ ?_⟩
    refine Wp.ret ?_
    simp only [thenQ, blockQ]
    refine retQ_ret ?_
    cases hm
    simp only [go_sem, simprocAttr]
    try simp [encB, encI_i64, encI_u8, encS, enc_api_File, enc_api_Machine, enc_api_Service, enc_api_Setting, List.map_set, List.map_replicate]
  · have hm := brF hm (by first | exact hc4 | simpa using hc4)
    refine Wp.skip ?_
    simp only [thenQ, blockQ, ↓reduceIte]
    refine hK2 _ _ ?_
    refine Wp.seqR fun K6 hK6 => ?_
    simp only [go_sem, simprocAttr]
    first
      | refine hK6 _ _ ?_
      | refine ⟨by first | exact sd, hK6 _ _ ?_⟩
    refine Wp.ret ?_
    refine retQ_ret ?_
    cases hm
    simp only [go_sem, simprocAttr]
    try simp [encB, encI_i64, encI_u8, encS, enc_api_File, enc_api_Machine, enc_api_Service, enc_api_Setting, List.map_set, List.map_replicate]
set_option maxRecDepth 100000 in
set_option maxHeartbeats 4000000 in
theorem ok_R_IsValue (s_1 : Str) (z : Bool) (hm : R_IsValue s_1 = some z) : Does Tryd.prog 38 [.p (.s s_1)] [] (fun r X => r = .p (.b z) ∧ X = []) := by
  unfold R_IsValue at hm
  refine Does.of_wp 0 23 [.tmp 2] Tryd.func38 rfl (by decide) rfl rfl (Nat.le_of_ble_eq_true rfl) fun B => ?_
  refine Wp.seqR fun K1 hK1 => ?_
  simp only [go_sem, simprocAttr]
  first
    | refine hK1 _ _ ?_
    | refine ⟨by first | exact sd, hK1 _ _ ?_⟩
  refine Wp.seqW fun K2 hK2 hW2 => ?_
  obtain ⟨k_9, hk_9, hm⟩ := jp_elim hm
  have hcut2 : ∀ s, k_9 s = some z → K2 [(0, .p (.s s_1))] [] := by
    intro s hs
    have hm := hk_9 _ hs
    clear hs
    try dsimp only at hm
    try dsimp only
    refine hK2 _ _ ?_
    refine Wp.seqR fun K3 hK3 => ?_
    simp only [go_sem, simprocAttr]
    first
      | refine hK3 _ _ ?_
      | refine ⟨by first | exact sd, hK3 _ _ ?_⟩
    refine Wp.ret ?_
    refine retQ_ret ?_
    cases hm
    simp only [go_sem, simprocAttr]
    try simp [encB, encI_i64, encI_u8, encS, enc_api_File, enc_api_Machine, enc_api_Service, enc_api_Setting, List.map_set, List.map_replicate]
  clear hK2 hk_9
  refine Wp.seqR fun K4 hK4 => ?_
  simp only [go_sem, simprocAttr]
  first
    | refine hK4 _ _ ?_
    | refine ⟨by first | exact sd, hK4 _ _ ?_⟩
  refine Wp.block ?_
  obtain ⟨k_12, hk_12, hm⟩ := forL_cont hm
  refine Wp.fact 0 fun hl_15 => ?_
  replace hl_15 : s_1.length ≤ 274877906944 := by
    simp only [go_sem, simprocAttr, List.length_map] at hl_15
    omega
  refine Wp.forL (fun i_14 s => [(0, .p (.s s_1)), (5, .p (.i .i64 (s_1.length : Int))), (6, .p (.i .i64 (i_14 : Int)))]) (fun i_14 s => []) ?_ hm ?_
  ·
    simp only [go_sem, simprocAttr]
    try simp [encB, encI_i64, encI_u8, encS, enc_api_File, enc_api_Machine, enc_api_Service, enc_api_Setting, List.map_set, List.map_replicate]
  clear hm
  intro i_14 s hii_14 hm
  try dsimp only at hm
  try dsimp only
  refine Wp.seqR fun K5 hK5 => ?_
  simp only [go_sem, simprocAttr]
  first
    | refine hK5 _ _ ?_
    | refine ⟨by first | exact sd, hK5 _ _ ?_⟩
  refine Wp.seqW fun K6 hK6 hW6 => ?_
  refine Wp.cond rfl ⟨⟩ (fun hc6 => ?_) (fun hc6 => ?_)
  rotate_left
  · refine Wp.exit ?_
    have hm := hk_12 _ (forL_end hm (ge_nat (by first | exact hc6 | simpa using hc6)))
    try dsimp only at hm
    simp only [thenQ, blockQ, ↓reduceIte]
    refine hW2 _ _ _ _ ?_ (hcut2 () hm)
    simp only [go_sem, simprocAttr]
    try simp [encB, encI_i64, encI_u8, encS, enc_api_File, enc_api_Machine, enc_api_Service, enc_api_Setting, List.map_set, List.map_replicate]
  have hlt6 := lt_nat (by first | exact hc6 | simpa using hc6)
  have hw6 := wrap_succ hlt6 hl_15
  obtain ⟨c_16, nx_13, hxc_16, hyc_16, hnx_13, hm⟩ := forL_step hm hlt6
  clear hxc_16
  refine Wp.skip ?_
  simp only [thenQ]
  refine hK6 _ _ ?_
  refine Wp.seqW fun K7 hK7 hW7 => ?_
  refine Wp.block ?_
  refine Wp.seqR fun K8 hK8 => ?_
  simp only [go_sem, simprocAttr, hw6, hyc_16]
  first
    | refine hK8 _ _ ?_
    | refine ⟨by first | exact sd, hK8 _ _ ?_⟩
  refine Wp.seqR fun K9 hK9 => ?_
  simp only [go_sem, simprocAttr, hw6, hyc_16]
  first
    | refine hK9 _ _ ?_
    | refine ⟨by first | exact sd, hK9 _ _ ?_⟩
  refine Wp.cond rfl ⟨⟩ (fun hc10 => ?_) (fun hc10 => ?_)
  · have hm := brT hm (by first | exact hc10 | simpa using hc10)
    refine Wp.seqR fun K11 hK11 => ?_
    simp only [go_sem, simprocAttr, hw6, hyc_16]
    first
      | refine hK11 _ _ ?_
      | refine ⟨by first | exact sd, hK11 _ _ ?_⟩
    refine Wp.ret ?_
    simp only [thenQ, blockQ]
    refine retQ_ret ?_
    cases hm
    simp only [go_sem, simprocAttr, hw6, hyc_16]
    try simp [encB, encI_i64, encI_u8, encS, enc_api_File, enc_api_Machine, enc_api_Service, enc_api_Setting, List.map_set, List.map_replicate]
  · have hm := brF hm (by first | exact hc10 | simpa using hc10)
    refine Wp.skip ?_
    simp only [thenQ, blockQ, ↓reduceIte]
    refine hK7 _ _ ?_
    refine Wp.region fun K12 hK12 => ?_
    simp only [go_sem, simprocAttr, hw6, hyc_16]
    first
      | refine hK12 _ _ ?_
      | refine ⟨by first | exact sd, hK12 _ _ ?_⟩
    simp only [thenQ, blockQ, ↓reduceIte]
    refine ⟨(), hlt6, hnx_13 _ hm, ?_⟩
    simp only [go_sem, simprocAttr, hw6, hyc_16]
    try simp [encB, encI_i64, encI_u8, encS, enc_api_File, enc_api_Machine, enc_api_Service, enc_api_Setting, List.map_set, List.map_replicate]
set_option maxRecDepth 100000 in
set_option maxHeartbeats 4000000 in
theorem ok_R_Check_1_i1 (i_1 : Int) (s_2 : Str) (o0_0_3 : Str) (z : Int × Str) (hm : R_Check_1_i1 i_1 s_2 o0_0_3 = some z) : Does Tryd.prog 35 [.p (.i .i64 i_1), .p (.s s_2), .ptr 0 0] [.cells 9 [.p (.s o0_0_3)]] (fun r X => r = .p (.i .i64 z.1) ∧ X = [.cells 9 [.p (.s z.2)]]) := by
  unfold R_Check_1_i1 at hm
  refine Does.of_wp 1 17 [.tmp 5] Tryd.func35 rfl (by decide) rfl rfl (Nat.le_of_ble_eq_true rfl) fun B => ?_
  refine Wp.seqR fun K1 hK1 => ?_
  simp only [go_sem, simprocAttr]
  first
    | refine hK1 _ _ ?_
    | refine ⟨by first | exact sd, hK1 _ _ ?_⟩
  refine Wp.seqR fun K2 hK2 => ?_
  simp only [go_sem, simprocAttr]
  first
    | refine hK2 _ _ ?_
    | refine ⟨by first | exact sd, hK2 _ _ ?_⟩
  refine Wp.seqR fun K3 hK3 => ?_
  simp only [go_sem, simprocAttr]
  first
    | refine hK3 _ _ ?_
    | refine ⟨by first | exact sd, hK3 _ _ ?_⟩
  obtain ⟨r_5, hr_5, hm⟩ := call_elim hm
  refine Wp.seqR fun K4 hK4 => ?_
  simp only [go_sem, simprocAttr]
  try refine ⟨by first | exact sd, ?_⟩
  refine Rg.callX (av := ?av5) (g := true) (fun hg => ok_R_when ((decide (0 < i_1)) && (strLt s_2 o0_0_3 || decide (s_2 = o0_0_3))) 7 _ hr_5) ?ha5 ?hb5 ?hp5 ?hok5 ?hf5 ?cont5
  case ha5 =>
    simp only [go_sem, simprocAttr]
    exact Is.mk
  case hb5 =>
    simp only [go_sem, simprocAttr]
    exact Is.mk
  case hp5 =>
    simp only [go_sem, simprocAttr]
    exact Is.mk
  case hok5 =>
    simp only [go_sem, simprocAttr]
  case hf5 =>
    simp only [go_sem, simprocAttr]
    exact Is.mk
  intro hv5
  simp only [go_sem, simprocAttr]
  first
    | refine hK4 _ _ ?_
    | refine ⟨by first | exact sd, hK4 _ _ ?_⟩
  refine Wp.ret ?_
  refine retQ_ret ?_
  cases hm
  simp only [go_sem, simprocAttr]
  try simp [encB, encI_i64, encI_u8, encS, enc_api_File, enc_api_Machine, enc_api_Service, enc_api_Setting, List.map_set, List.map_replicate]
set_option maxRecDepth 100000 in
set_option maxHeartbeats 4000000 in
theorem ok_R_first (l_1 : List Int) (z : Int) (hm : R_first l_1 = some z) : Does Tryd.prog 37 [.p (.l (List.map encI_i64 l_1))] [] (fun r X => r = .p (.i .i64 z) ∧ X = []) := by
  unfold R_first at hm
  refine Does.of_wp 0 15 [.tmp 2] Tryd.func37 rfl (by decide) rfl rfl (Nat.le_of_ble_eq_true rfl) fun B => ?_
  refine Wp.seqR fun K1 hK1 => ?_
  simp only [go_sem, simprocAttr]
  first
    | refine hK1 _ _ ?_
    | refine ⟨by first | exact sd, hK1 _ _ ?_⟩
  refine Wp.seqW fun K2 hK2 hW2 => ?_
  obtain ⟨k_9, hk_9, hm⟩ := jp_elim hm
  have hcut2 : ∀ s, k_9 s = some z → K2 [] [] := by
    intro s hs
    have hm := hk_9 _ hs
    clear hs
    try dsimp only at hm
    try dsimp only
    refine hK2 _ _ ?_
    refine Wp.seqR fun K3 hK3 => ?_
    simp only [go_sem, simprocAttr]
    first
      | refine hK3 _ _ ?_
      | refine ⟨by first | exact sd, hK3 _ _ ?_⟩
    refine Wp.ret ?_
    refine retQ_ret ?_
    cases hm
    simp only [go_sem, simprocAttr]
    try simp [encB, encI_i64, encI_u8, encS, enc_api_File, enc_api_Machine, enc_api_Service, enc_api_Setting, List.map_set, List.map_replicate]
  clear hK2 hk_9
  refine Wp.seqR fun K4 hK4 => ?_
  simp only [go_sem, simprocAttr]
  first
    | refine hK4 _ _ ?_
    | refine ⟨by first | exact sd, hK4 _ _ ?_⟩
  refine Wp.block ?_
  obtain ⟨k_12, hk_12, hm⟩ := forL_cont hm
  refine Wp.fact 5 fun hl_15 => ?_
  replace hl_15 : l_1.length ≤ 274877906944 := by
    simp only [go_sem, simprocAttr, List.length_map] at hl_15
    omega
  refine Wp.forL (fun i_14 s => [(5, .p (.l (List.map encI_i64 l_1))), (6, .p (.i .i64 (l_1.length : Int))), (7, .p (.i .i64 (i_14 : Int)))]) (fun i_14 s => []) ?_ hm ?_
  ·
    simp only [go_sem, simprocAttr]
    try simp [encB, encI_i64, encI_u8, encS, enc_api_File, enc_api_Machine, enc_api_Service, enc_api_Setting, List.map_set, List.map_replicate]
  clear hm
  intro i_14 s hii_14 hm
  try dsimp only at hm
  try dsimp only
  refine Wp.seqR fun K5 hK5 => ?_
  simp only [go_sem, simprocAttr]
  first
    | refine hK5 _ _ ?_
    | refine ⟨by first | exact sd, hK5 _ _ ?_⟩
  refine Wp.seqW fun K6 hK6 hW6 => ?_
  refine Wp.cond rfl ⟨⟩ (fun hc6 => ?_) (fun hc6 => ?_)
  rotate_left
  · refine Wp.exit ?_
    have hm := hk_12 _ (forL_end hm (ge_nat (by first | exact hc6 | simpa using hc6)))
    try dsimp only at hm
    simp only [thenQ, blockQ, ↓reduceIte]
    refine hW2 _ _ _ _ ?_ (hcut2 () hm)
    simp only [go_sem, simprocAttr]
    try simp [encB, encI_i64, encI_u8, encS, enc_api_File, enc_api_Machine, enc_api_Service, enc_api_Setting, List.map_set, List.map_replicate]
  have hlt6 := lt_nat (by first | exact hc6 | simpa using hc6)
  have hw6 := wrap_succ hlt6 hl_15
  obtain ⟨e_16, nx_13, hxe_16, hye_16, hnx_13, hm⟩ := forL_step hm hlt6
  replace hxe_16 := hxe_16 encI_i64
  refine Wp.skip ?_
  simp only [thenQ]
  refine hK6 _ _ ?_
  refine Wp.seqW fun K7 hK7 hW7 => ?_
  refine Wp.block ?_
  refine Wp.seqR fun K8 hK8 => ?_
  simp only [go_sem, simprocAttr, hw6, hxe_16]
  first
    | refine hK8 _ _ ?_
    | refine ⟨by first | exact sd, hK8 _ _ ?_⟩
  refine Wp.seqR fun K9 hK9 => ?_
  simp only [go_sem, simprocAttr, hw6, hxe_16]
  first
    | refine hK9 _ _ ?_
    | refine ⟨by first | exact sd, hK9 _ _ ?_⟩
  refine Wp.cond rfl ⟨⟩ (fun hc10 => ?_) (fun hc10 => ?_)
  · have hm := brT hm (by first | exact hc10 | simpa using hc10)
    refine Wp.seqR fun K11 hK11 => ?_
    simp only [go_sem, simprocAttr, hw6, hxe_16]
    first
      | refine hK11 _ _ ?_
      | refine ⟨by first | exact sd, hK11 _ _ ?_⟩
    refine Wp.ret ?_
    simp only [thenQ, blockQ]
    refine retQ_ret ?_
    cases hm
    simp only [go_sem, simprocAttr, hw6, hxe_16]
    try simp [encB, encI_i64, encI_u8, encS, enc_api_File, enc_api_Machine, enc_api_Service, enc_api_Setting, List.map_set, List.map_replicate]
  · have hm := brF hm (by first | exact hc10 | simpa using hc10)
    refine Wp.skip ?_
    simp only [thenQ, blockQ, ↓reduceIte]
    refine hK7 _ _ ?_
    refine Wp.region fun K12 hK12 => ?_
    simp only [go_sem, simprocAttr, hw6, hxe_16]
    first
      | refine hK12 _ _ ?_
      | refine ⟨by first | exact sd, hK12 _ _ ?_⟩
    simp only [thenQ, blockQ, ↓reduceIte]
    refine ⟨(), hlt6, hnx_13 _ hm, ?_⟩
    simp only [go_sem, simprocAttr, hw6, hxe_16]
    try simp [encB, encI_i64, encI_u8, encS, enc_api_File, enc_api_Machine, enc_api_Service, enc_api_Setting, List.map_set, List.map_replicate]
set_option maxRecDepth 100000 in
set_option maxHeartbeats 4000000 in
theorem ok_internal_stringslite_IndexByte (s_1 : Str) (c_2 : Int) (z : Int) (hm : internal_stringslite_IndexByte s_1 c_2 = some z) : Does Tryd.prog 139 [.p (.s s_1), .p (.i .u8 c_2)] [] (fun r X => r = .p (.i .i64 z) ∧ X = []) := by
  unfold internal_stringslite_IndexByte at hm
  refine Does.of_wp 0 8 [.tmp 4] Tryd.func139 rfl (by decide) rfl rfl (Nat.le_of_ble_eq_true rfl) fun B => ?_
  refine Wp.seqR fun K1 hK1 => ?_
  simp only [go_sem, simprocAttr]
  first
    | refine hK1 _ _ ?_
    | refine ⟨by first | exact sd, hK1 _ _ ?_⟩
  have hb_3 := ixByte_bd s_1 c_2
  refine Wp.seqR fun K2 hK2 => ?_
  simp only [go_sem, simprocAttr]
  try refine ⟨by first | exact sd, ?_⟩
  refine Rg.callN (av := ?av3) (g := true) (fun hg => nv_156 s_1 c_2) ?ha3 ?hb3 ?hp3 ?hok3 ?hf3 ?cont3
  case ha3 =>
    simp only [go_sem, simprocAttr]
    exact Is.mk
  case hb3 =>
    simp only [go_sem, simprocAttr]
    exact Is.mk
  case hp3 =>
    simp only [go_sem, simprocAttr]
    exact Is.mk
  case hok3 =>
    simp only [go_sem, simprocAttr]
  case hf3 =>
    simp only [go_sem, simprocAttr]
    exact Is.mk
  intro hv3
  simp only [go_sem, simprocAttr]
  first
    | refine hK2 _ _ ?_
    | refine ⟨by first | exact sd, hK2 _ _ ?_⟩
  refine Wp.ret ?_
  refine retQ_ret ?_
  cases hm
  simp only [go_sem, simprocAttr]
  try simp [encB, encI_i64, encI_u8, encS, enc_api_File, enc_api_Machine, enc_api_Service, enc_api_Setting, List.map_set, List.map_replicate]
set_option maxRecDepth 100000 in
set_option maxHeartbeats 4000000 in
theorem ok_internal_stringslite_Index (s_1 : Str) (substr_2 : Str) (z : Int) (hm : internal_stringslite_Index s_1 substr_2 = some z) : Does Tryd.prog 127 [.p (.s s_1), .p (.s substr_2)] [] (fun r X => r = .p (.i .i64 z) ∧ X = []) := by
  unfold internal_stringslite_Index at hm
  refine Does.of_wp 0 143 [.tmp 4] Tryd.func127 rfl (by decide) rfl rfl (Nat.le_of_ble_eq_true rfl) fun B => ?_
  refine Wp.seqR fun K1 hK1 => ?_
  simp only [go_sem, simprocAttr]
  first
    | refine hK1 _ _ ?_
    | refine ⟨by first | exact sd, hK1 _ _ ?_⟩
  refine Wp.seqR fun K2 hK2 => ?_
  simp only [go_sem, simprocAttr]
  first
    | refine hK2 _ _ ?_
    | refine ⟨by first | exact sd, hK2 _ _ ?_⟩
  refine Wp.seqW fun K3 hK3 hW3 => ?_
  refine Wp.block ?_
  refine Wp.seqR fun K4 hK4 => ?_
  simp only [go_sem, simprocAttr]
  first
    | refine hK4 _ _ ?_
    | refine ⟨by first | exact sd, hK4 _ _ ?_⟩
  refine Wp.cond rfl ⟨⟩ (fun hc5 => ?_) (fun hc5 => ?_)
  · have hm := brT hm (by first | exact hc5 | simpa using hc5)
    refine Wp.seqR fun K6 hK6 => ?_
    simp only [go_sem, simprocAttr]
    first
      | refine hK6 _ _ ?_
      | refine ⟨by first | exact sd, hK6 _ _ ?_⟩
    refine Wp.ret ?_
    simp only [thenQ, blockQ]
    refine retQ_ret ?_
    cases hm
    simp only [go_sem, simprocAttr]
    try simp [encB, encI_i64, encI_u8, encS, enc_api_File, enc_api_Machine, enc_api_Service, enc_api_Setting, List.map_set, List.map_replicate]
  · have hm := brF hm (by first | exact hc5 | simpa using hc5)
    refine Wp.seqR fun K7 hK7 => ?_
    simp only [go_sem, simprocAttr]
    first
      | refine hK7 _ _ ?_
      | refine ⟨by first | exact sd, hK7 _ _ ?_⟩
    refine Wp.cond rfl ⟨⟩ (fun hc8 => ?_) (fun hc8 => ?_)
    · have hm := brT hm (by first | exact hc8 | simpa using hc8)
      obtain ⟨c_3, hbc_3, hxc_3, hm⟩ := idxS_elim hm
      replace hxc_3 : ((substr_2.getD 0 0).toNat : Int) = c_3 := hxc_3
      obtain ⟨r_4, hr_4, hm⟩ := call_elim hm
      refine Wp.seqR fun K9 hK9 => ?_
      simp only [go_sem, simprocAttr, hxc_3]
      try refine ⟨by first | exact sd, ?_⟩
      refine Rg.callX (av := ?av10) (g := true) (fun hg => ok_internal_stringslite_IndexByte s_1 c_3 _ hr_4) ?ha10 ?hb10 ?hp10 ?hok10 ?hf10 ?cont10
      case ha10 =>
        simp only [go_sem, simprocAttr, hxc_3]
        exact Is.mk
      case hb10 =>
        simp only [go_sem, simprocAttr, hxc_3]
        exact Is.mk
      case hp10 =>
        simp only [go_sem, simprocAttr, hxc_3]
        exact Is.mk
      case hok10 =>
        simp only [go_sem, simprocAttr, hxc_3]
      case hf10 =>
        simp only [go_sem, simprocAttr, hxc_3]
        exact Is.mk
      intro hv10
      simp only [go_sem, simprocAttr, hxc_3]
      first
        | refine hK9 _ _ ?_
        | refine ⟨by first | exact sd, hK9 _ _ ?_⟩
      refine Wp.ret ?_
      simp only [thenQ, blockQ]
      refine retQ_ret ?_
      cases hm
      simp only [go_sem, simprocAttr, hxc_3]
      try simp [encB, encI_i64, encI_u8, encS, enc_api_File, enc_api_Machine, enc_api_Service, enc_api_Setting, List.map_set, List.map_replicate]
    · have hm := brF hm (by first | exact hc8 | simpa using hc8)
      refine Wp.seqR fun K11 hK11 => ?_
      simp only [go_sem, simprocAttr]
      first
        | refine hK11 _ _ ?_
        | refine ⟨by first | exact sd, hK11 _ _ ?_⟩
      refine Wp.cond rfl ⟨⟩ (fun hc12 => ?_) (fun hc12 => ?_)
      · have hm := brT hm (by first | exact hc12 | simpa using hc12)
        refine Wp.seqR fun K13 hK13 => ?_
        simp only [go_sem, simprocAttr]
        first
          | refine hK13 _ _ ?_
          | refine ⟨by first | exact sd, hK13 _ _ ?_⟩
        refine Wp.ret ?_
        simp only [thenQ, blockQ]
        refine retQ_ret ?_
        cases hm
        simp only [go_sem, simprocAttr]
        try simp [encB, encI_i64, encI_u8, encS, enc_api_File, enc_api_Machine, enc_api_Service, enc_api_Setting, List.map_set, List.map_replicate]
      · have hm := brF hm (by first | exact hc12 | simpa using hc12)
        cases hm
set_option maxRecDepth 100000 in
set_option maxHeartbeats 4000000 in
theorem ok_strings_Index (s_1 : Str) (substr_2 : Str) (z : Int) (hm : strings_Index s_1 substr_2 = some z) : Does Tryd.prog 128 [.p (.s s_1), .p (.s substr_2)] [] (fun r X => r = .p (.i .i64 z) ∧ X = []) := by
  unfold strings_Index at hm
  refine Does.of_wp 0 8 [.tmp 4] Tryd.func128 rfl (by decide) rfl rfl (Nat.le_of_ble_eq_true rfl) fun B => ?_
  refine Wp.seqR fun K1 hK1 => ?_
  simp only [go_sem, simprocAttr]
  first
    | refine hK1 _ _ ?_
    | refine ⟨by first | exact sd, hK1 _ _ ?_⟩
  obtain ⟨r_3, hr_3, hm⟩ := call_elim hm
  refine Wp.seqR fun K2 hK2 => ?_
  simp only [go_sem, simprocAttr]
  try refine ⟨by first | exact sd, ?_⟩
  refine Rg.callX (av := ?av3) (g := true) (fun hg => ok_internal_stringslite_Index s_1 substr_2 _ hr_3) ?ha3 ?hb3 ?hp3 ?hok3 ?hf3 ?cont3
  case ha3 =>
    simp only [go_sem, simprocAttr]
    exact Is.mk
  case hb3 =>
    simp only [go_sem, simprocAttr]
    exact Is.mk
  case hp3 =>
    simp only [go_sem, simprocAttr]
    exact Is.mk
  case hok3 =>
    simp only [go_sem, simprocAttr]
  case hf3 =>
    simp only [go_sem, simprocAttr]
    exact Is.mk
  intro hv3
  simp only [go_sem, simprocAttr]
  first
    | refine hK2 _ _ ?_
    | refine ⟨by first | exact sd, hK2 _ _ ?_⟩
  refine Wp.ret ?_
  refine retQ_ret ?_
  cases hm
  simp only [go_sem, simprocAttr]
  try simp [encB, encI_i64, encI_u8, encS, enc_api_File, enc_api_Machine, enc_api_Service, enc_api_Setting, List.map_set, List.map_replicate]
set_option maxRecDepth 100000 in
set_option maxHeartbeats 4000000 in
theorem ok_strings_Count (s_1 : Str) (substr_2 : Str) (z : Int) (hm : strings_Count s_1 substr_2 = some z) : Does Tryd.prog 130 [.p (.s s_1), .p (.s substr_2)] [] (fun r X => r = .p (.i .i64 z) ∧ X = []) := by
  unfold strings_Count at hm
  refine Does.of_wp 0 34 [.tmp 4] Tryd.func130 rfl (by decide) rfl rfl (Nat.le_of_ble_eq_true rfl) fun B => ?_
  refine Wp.seqR fun K1 hK1 => ?_
  simp only [go_sem, simprocAttr]
  first
    | refine hK1 _ _ ?_
    | refine ⟨by first | exact sd, hK1 _ _ ?_⟩
  refine Wp.seqW fun K2 hK2 hW2 => ?_
  refine Wp.seqR fun K3 hK3 => ?_
  simp only [go_sem, simprocAttr]
  first
    | refine hK3 _ _ ?_
    | refine ⟨by first | exact sd, hK3 _ _ ?_⟩
  refine Wp.cond rfl ⟨⟩ (fun hc4 => ?_) (fun hc4 => ?_)
  · have hm := brT hm (by first | exact hc4 | simpa using hc4)
    cases hm
  · have hm := brF hm (by first | exact hc4 | simpa using hc4)
    refine Wp.skip ?_
    simp only [thenQ, blockQ, ↓reduceIte]
    refine hK2 _ _ ?_
    refine Wp.seqW fun K5 hK5 hW5 => ?_
    refine Wp.seqR fun K6 hK6 => ?_
    simp only [go_sem, simprocAttr]
    first
      | refine hK6 _ _ ?_
      | refine ⟨by first | exact sd, hK6 _ _ ?_⟩
    refine Wp.cond rfl ⟨⟩ (fun hc7 => ?_) (fun hc7 => ?_)
    · have hm := brT hm (by first | exact hc7 | simpa using hc7)
      obtain ⟨c_3, hbc_3, hxc_3, hm⟩ := idxS_elim hm
      replace hxc_3 : ((substr_2.getD 0 0).toNat : Int) = c_3 := hxc_3
      have hb_4 := cntByte_bd s_1 c_3
      refine Wp.seqR fun K8 hK8 => ?_
      simp only [go_sem, simprocAttr, hxc_3]
      try refine ⟨by first | exact sd, ?_⟩
      refine Rg.callN (av := ?av9) (g := true) (fun hg => nv_145 s_1 c_3) ?ha9 ?hb9 ?hp9 ?hok9 ?hf9 ?cont9
      case ha9 =>
        simp only [go_sem, simprocAttr, hxc_3]
        exact Is.mk
      case hb9 =>
        simp only [go_sem, simprocAttr, hxc_3]
        exact Is.mk
      case hp9 =>
        simp only [go_sem, simprocAttr, hxc_3]
        exact Is.mk
      case hok9 =>
        simp only [go_sem, simprocAttr, hxc_3]
      case hf9 =>
        simp only [go_sem, simprocAttr, hxc_3]
        exact Is.mk
      intro hv9
      simp only [go_sem, simprocAttr, hxc_3]
      first
        | refine hK8 _ _ ?_
        | refine ⟨by first | exact sd, hK8 _ _ ?_⟩
      refine Wp.ret ?_
      simp only [thenQ, blockQ]
      refine retQ_ret ?_
      cases hm
      simp only [go_sem, simprocAttr, hxc_3]
      try simp [encB, encI_i64, encI_u8, encS, enc_api_File, enc_api_Machine, enc_api_Service, enc_api_Setting, List.map_set, List.map_replicate]
    · have hm := brF hm (by first | exact hc7 | simpa using hc7)
      refine Wp.skip ?_
      simp only [thenQ, blockQ, ↓reduceIte]
      refine hK5 _ _ ?_
      refine Wp.seqR fun K10 hK10 => ?_
      simp only [go_sem, simprocAttr]
      first
        | refine hK10 _ _ ?_
        | refine ⟨by first | exact sd, hK10 _ _ ?_⟩
      refine Wp.block ?_
      obtain ⟨k_14, hk_14, hm⟩ := loopN_cont hm
      refine Wp.loopN (fun s => [(0, .p (.s s.1)), (1, .p (.s substr_2)), (4, .p (.i .i64 0)), (5, .p (.i .i64 s.2))]) (fun s => []) ?_ hm ?_
      ·
        simp only [go_sem, simprocAttr]
        try simp [encB, encI_i64, encI_u8, encS, enc_api_File, enc_api_Machine, enc_api_Service, enc_api_Setting, List.map_set, List.map_replicate]
      clear hm
      intro s nx_15 hm
      obtain ⟨s_10, n_11⟩ := s
      try dsimp only at hm
      try dsimp only
      refine Wp.block ?_
      obtain ⟨r_16, hr_16, hm⟩ := call_elim hm
      refine Wp.seqR fun K11 hK11 => ?_
      simp only [go_sem, simprocAttr]
      try refine ⟨by first | exact sd, ?_⟩
      refine Rg.callX (av := ?av12) (g := true) (fun hg => ok_strings_Index s_10 substr_2 _ hr_16) ?ha12 ?hb12 ?hp12 ?hok12 ?hf12 ?cont12
      case ha12 =>
        simp only [go_sem, simprocAttr]
        exact Is.mk
      case hb12 =>
        simp only [go_sem, simprocAttr]
        exact Is.mk
      case hp12 =>
        simp only [go_sem, simprocAttr]
        exact Is.mk
      case hok12 =>
        simp only [go_sem, simprocAttr]
      case hf12 =>
        simp only [go_sem, simprocAttr]
        exact Is.mk
      intro hv12
      simp only [go_sem, simprocAttr]
      first
        | refine hK11 _ _ ?_
        | refine ⟨by first | exact sd, hK11 _ _ ?_⟩
      refine Wp.seqW fun K13 hK13 hW13 => ?_
      refine Wp.seqR fun K14 hK14 => ?_
      simp only [go_sem, simprocAttr]
      first
        | refine hK14 _ _ ?_
        | refine ⟨by first | exact sd, hK14 _ _ ?_⟩
      refine Wp.cond rfl ⟨⟩ (fun hc15 => ?_) (fun hc15 => ?_)
      · have hm := brT hm (by first | exact hc15 | simpa using hc15)
        refine Wp.seqR fun K16 hK16 => ?_
        simp only [go_sem, simprocAttr]
        first
          | refine hK16 _ _ ?_
          | refine ⟨by first | exact sd, hK16 _ _ ?_⟩
        refine Wp.ret ?_
        simp only [thenQ, blockQ]
        refine retQ_ret ?_
        cases hm
        simp only [go_sem, simprocAttr]
        try simp [encB, encI_i64, encI_u8, encS, enc_api_File, enc_api_Machine, enc_api_Service, enc_api_Setting, List.map_set, List.map_replicate]
      · have hm := brF hm (by first | exact hc15 | simpa using hc15)
        refine Wp.skip ?_
        simp only [thenQ, blockQ, ↓reduceIte]
        refine hK13 _ _ ?_
        refine Wp.seqR fun K17 hK17 => ?_
        simp only [go_sem, simprocAttr]
        first
          | refine hK17 _ _ ?_
          | refine ⟨by first | exact sd, hK17 _ _ ?_⟩
        obtain ⟨c_17, hm⟩ := chk_elim hm
        refine Wp.region fun K18 hK18 => ?_
        simp only [go_sem, simprocAttr]
        first
          | refine hK18 _ _ ?_
          | refine ⟨by first | exact sd | ((repeat' apply And.intro) <;> first | assumption | omega | (simp only [List.length_append, List.length_map, List.length_cons, List.length_nil, List.length_set, List.length_replicate] at c_17 ⊢; omega)), hK18 _ _ ?_⟩
        simp only [thenQ, blockQ, ↓reduceIte]
        refine ⟨(List.drop ((IntKind.i64.wrap (r_16 + (substr_2.length : Int))).toNat) s_10, IntKind.i64.wrap (n_11 + 1)), hm, ?_⟩
        simp only [go_sem, simprocAttr]
        try simp [encB, encI_i64, encI_u8, encS, enc_api_File, enc_api_Machine, enc_api_Service, enc_api_Setting, List.map_set, List.map_replicate]
set_option maxRecDepth 100000 in
set_option maxHeartbeats 4000000 in
theorem ok_strings_genSplit (s_1 : Str) (sep_2 : Str) (sepSave_3 : Int) (n_4 : Int) (z : List Str) (hm : strings_genSplit s_1 sep_2 sepSave_3 n_4 = some z) : Does Tryd.prog 107 [.p (.s s_1), .p (.s sep_2), .p (.i .i64 sepSave_3), .p (.i .i64 n_4)] [] (fun r X => r = .p (.l (List.map encS z)) ∧ X = []) := by
  unfold strings_genSplit at hm
  refine Does.of_wp 0 66 [.tmp 8] Tryd.func107 rfl (by decide) rfl rfl (Nat.le_of_ble_eq_true rfl) fun B => ?_
  refine Wp.seqR fun K1 hK1 => ?_
  simp only [go_sem, simprocAttr]
  first
    | refine hK1 _ _ ?_
    | refine ⟨by first | exact sd, hK1 _ _ ?_⟩
  refine Wp.seqW fun K2 hK2 hW2 => ?_
  refine Wp.seqR fun K3 hK3 => ?_
  simp only [go_sem, simprocAttr]
  first
    | refine hK3 _ _ ?_
    | refine ⟨by first | exact sd, hK3 _ _ ?_⟩
  refine Wp.cond rfl ⟨⟩ (fun hc4 => ?_) (fun hc4 => ?_)
  · have hm := brT hm (by first | exact hc4 | simpa using hc4)
    refine Wp.seqR fun K5 hK5 => ?_
    simp only [go_sem, simprocAttr]
    first
      | refine hK5 _ _ ?_
      | refine ⟨by first | exact sd, hK5 _ _ ?_⟩
    refine Wp.ret ?_
    simp only [thenQ, blockQ]
    refine retQ_retE ?_
    cases hm
    simp only [go_sem, simprocAttr]
    try simp [encB, encI_i64, encI_u8, encS, enc_api_File, enc_api_Machine, enc_api_Service, enc_api_Setting, List.map_set, List.map_replicate]
  · have hm := brF hm (by first | exact hc4 | simpa using hc4)
    refine Wp.skip ?_
    simp only [thenQ, blockQ, ↓reduceIte]
    refine hK2 _ _ ?_
    refine Wp.seqW fun K6 hK6 hW6 => ?_
    refine Wp.seqR fun K7 hK7 => ?_
    simp only [go_sem, simprocAttr]
    first
      | refine hK7 _ _ ?_
      | refine ⟨by first | exact sd, hK7 _ _ ?_⟩
    refine Wp.cond rfl ⟨⟩ (fun hc8 => ?_) (fun hc8 => ?_)
    · have hm := brT hm (by first | exact hc8 | simpa using hc8)
      cases hm
    · have hm := brF hm (by first | exact hc8 | simpa using hc8)
      refine Wp.skip ?_
      simp only [thenQ, blockQ, ↓reduceIte]
      refine hK6 _ _ ?_
      refine Wp.seqW fun K9 hK9 hW9 => ?_
      obtain ⟨k_7, hk_7, hm⟩ := jp_elim hm
      have hcut9 : ∀ s, k_7 s = some z → K9 [(0, .p (.s s_1)), (1, .p (.s sep_2)), (2, .p (.i .i64 sepSave_3)), (3, .p (.i .i64 s))] [] := by
        intro n_6 hs
        have hm := hk_7 _ hs
        clear hs
        try dsimp only at hm
        try dsimp only
        refine hK9 _ _ ?_
        refine Wp.seqR fun K10 hK10 => ?_
        simp only [go_sem, simprocAttr]
        first
          | refine hK10 _ _ ?_
          | refine ⟨by first | exact sd, hK10 _ _ ?_⟩
        obtain ⟨c_8, hm⟩ := chk_elim hm
        refine Wp.seqR fun K11 hK11 => ?_
        simp only [go_sem, simprocAttr]
        first
          | refine hK11 _ _ ?_
          | refine ⟨by first | exact sd | ((repeat' apply And.intro) <;> first | assumption | omega | (simp only [List.length_append, List.length_map, List.length_cons, List.length_nil, List.length_set, List.length_replicate] at c_8 ⊢; omega)), hK11 _ _ ?_⟩
        refine Wp.seqR fun K12 hK12 => ?_
        simp only [go_sem, simprocAttr]
        first
          | refine hK12 _ _ ?_
          | refine ⟨by first | exact sd, hK12 _ _ ?_⟩
        refine Wp.seqR fun K13 hK13 => ?_
        simp only [go_sem, simprocAttr]
        first
          | refine hK13 _ _ ?_
          | refine ⟨by first | exact sd, hK13 _ _ ?_⟩
        refine Wp.seqW fun K14 hK14 hW14 => ?_
        obtain ⟨k_34, hk_34, hm⟩ := jp_elim hm
        have hcut14 : ∀ s, k_34 s = some z → K14 [(0, .p (.s s.1)), (9, .buf 0), (10, .p (.i .i64 s.2.1))] [.buf 9 1 (List.map encS s.2.2)] := by
          intro s hs
          have hm := hk_34 _ hs
          clear hs
          obtain ⟨s_31, i_32, o0_33⟩ := s
          try dsimp only at hm
          try dsimp only
          refine hK14 _ _ ?_
          obtain ⟨c_35, hm⟩ := chk_elim hm
          have hr_36 := fun h => getD_encB (l := o0_33) (e := encS) (d := []) (i := i_32.toNat) h []
          refine Wp.seqR fun K15 hK15 => ?_
          simp only [go_sem, simprocAttr, hr_36 (by omega)]
          first
            | refine hK15 _ _ ?_
            | refine ⟨by first | exact sd | ((repeat' apply And.intro) <;> first | assumption | omega | (simp only [List.length_append, List.length_map, List.length_cons, List.length_nil, List.length_set, List.length_replicate] at c_35 ⊢; omega)), hK15 _ _ ?_⟩
          refine Wp.freeze 0 (by simp only [go_sem, simprocAttr]; exact Is.mk) (by first | (simp only [go_sem, simprocAttr]; done) | (simp only [go_sem, simprocAttr]; omega)) ?_
          simp only [go_sem, simprocAttr]
          obtain ⟨c_37, hm⟩ := chk_elim hm
          refine Wp.seqR fun K16 hK16 => ?_
          simp only [go_sem, simprocAttr]
          first
            | refine hK16 _ _ ?_
            | refine ⟨by first | exact sd | ((repeat' apply And.intro) <;> first | assumption | omega | (simp only [List.length_append, List.length_map, List.length_cons, List.length_nil, List.length_set, List.length_replicate] at c_37 ⊢; omega)), hK16 _ _ ?_⟩
          refine Wp.ret ?_
          refine retQ_ret ?_
          cases hm
          simp only [go_sem, simprocAttr]
          try simp [encB, encI_i64, encI_u8, encS, enc_api_File, enc_api_Machine, enc_api_Service, enc_api_Setting, List.map_set, List.map_replicate]
        clear hK14 hk_34
        refine Wp.block ?_
        obtain ⟨k_53, hk_53, hm⟩ := loopN_cont hm
        refine Wp.loopN (fun s => [(0, .p (.s s.1)), (1, .p (.s sep_2)), (2, .p (.i .i64 sepSave_3)), (3, .p (.i .i64 (IntKind.i64.wrap ((min n_6 (IntKind.i64.wrap ((s_1.length : Int) + 1))) - 1)))), (9, .buf 0), (10, .p (.i .i64 s.2.1))]) (fun s => [.buf 9 1 (List.map encS s.2.2)]) ?_ hm ?_
        ·
          simp only [go_sem, simprocAttr]
          try simp [encB, encI_i64, encI_u8, encS, enc_api_File, enc_api_Machine, enc_api_Service, enc_api_Setting, List.map_set, List.map_replicate]
        clear hm
        intro s nx_54 hm
        obtain ⟨s_45, i_46, o0_47⟩ := s
        try dsimp only at hm
        try dsimp only
        refine Wp.seqW fun K17 hK17 hW17 => ?_
        refine Wp.seqR fun K18 hK18 => ?_
        simp only [go_sem, simprocAttr]
        first
          | refine hK18 _ _ ?_
          | refine ⟨by first | exact sd, hK18 _ _ ?_⟩
        refine Wp.cond rfl ⟨⟩ (fun hc19 => ?_) (fun hc19 => ?_)
        · have hm := brT hm (by first | exact hc19 | simpa using hc19)
          refine Wp.skip ?_
          simp only [thenQ, blockQ, ↓reduceIte]
          refine hK17 _ _ ?_
          refine Wp.block ?_
          obtain ⟨r_55, hr_55, hm⟩ := call_elim hm
          refine Wp.seqR fun K20 hK20 => ?_
          simp only [go_sem, simprocAttr]
          try refine ⟨by first | exact sd, ?_⟩
          refine Rg.callX (av := ?av21) (g := true) (fun hg => ok_strings_Index s_45 sep_2 _ hr_55) ?ha21 ?hb21 ?hp21 ?hok21 ?hf21 ?cont21
          case ha21 =>
            simp only [go_sem, simprocAttr]
            exact Is.mk
          case hb21 =>
            simp only [go_sem, simprocAttr]
            exact Is.mk
          case hp21 =>
            simp only [go_sem, simprocAttr]
            exact Is.mk
          case hok21 =>
            simp only [go_sem, simprocAttr]
          case hf21 =>
            simp only [go_sem, simprocAttr]
            exact Is.mk
          intro hv21
          simp only [go_sem, simprocAttr]
          first
            | refine hK20 _ _ ?_
            | refine ⟨by first | exact sd, hK20 _ _ ?_⟩
          refine Wp.seqW fun K22 hK22 hW22 => ?_
          refine Wp.seqR fun K23 hK23 => ?_
          simp only [go_sem, simprocAttr]
          first
            | refine hK23 _ _ ?_
            | refine ⟨by first | exact sd, hK23 _ _ ?_⟩
          refine Wp.cond rfl ⟨⟩ (fun hc24 => ?_) (fun hc24 => ?_)
          · have hm := brT hm (by first | exact hc24 | simpa using hc24)
            refine Wp.exit ?_
            simp only [thenQ, blockQ, ↓reduceIte]
            have hm := hk_53 _ hm
            try dsimp only at hm
            refine hW14 _ _ _ _ ?_ (hcut14 (s_45, i_46, o0_47) hm)
            simp only [go_sem, simprocAttr]
            try simp [encB, encI_i64, encI_u8, encS, enc_api_File, enc_api_Machine, enc_api_Service, enc_api_Setting, List.map_set, List.map_replicate]
          · have hm := brF hm (by first | exact hc24 | simpa using hc24)
            refine Wp.skip ?_
            simp only [thenQ, blockQ, ↓reduceIte]
            refine hK22 _ _ ?_
            obtain ⟨c_56, hm⟩ := chk_elim hm
            obtain ⟨c_57, hm⟩ := chk_elim hm
            have hr_58 := fun h => getD_encB (l := o0_47) (e := encS) (d := []) (i := i_46.toNat) h []
            refine Wp.seqR fun K25 hK25 => ?_
            simp only [go_sem, simprocAttr, hr_58 (by omega)]
            first
              | refine hK25 _ _ ?_
              | refine ⟨by first | exact sd | ((repeat' apply And.intro) <;> first | assumption | omega | (simp only [List.length_append, List.length_map, List.length_cons, List.length_nil, List.length_set, List.length_replicate] at c_56 c_57 ⊢; omega)), hK25 _ _ ?_⟩
            obtain ⟨c_59, hm⟩ := chk_elim hm
            refine Wp.seqR fun K26 hK26 => ?_
            simp only [go_sem, simprocAttr]
            first
              | refine hK26 _ _ ?_
              | refine ⟨by first | exact sd | ((repeat' apply And.intro) <;> first | assumption | omega | (simp only [List.length_append, List.length_map, List.length_cons, List.length_nil, List.length_set, List.length_replicate] at c_59 ⊢; omega)), hK26 _ _ ?_⟩
            refine Wp.region fun K27 hK27 => ?_
            simp only [go_sem, simprocAttr]
            first
              | refine hK27 _ _ ?_
              | refine ⟨by first | exact sd, hK27 _ _ ?_⟩
            simp only [thenQ, blockQ, ↓reduceIte]
            refine ⟨(List.drop ((IntKind.i64.wrap (r_55 + (sep_2.length : Int))).toNat) s_45, IntKind.i64.wrap (i_46 + 1), List.set o0_47 i_46.toNat (List.take ((IntKind.i64.wrap (r_55 + sepSave_3)).toNat) s_45)), hm, ?_⟩
            simp only [go_sem, simprocAttr]
            try simp [encB, encI_i64, encI_u8, encS, enc_api_File, enc_api_Machine, enc_api_Service, enc_api_Setting, List.map_set, List.map_replicate]
        · have hm := brF hm (by first | exact hc19 | simpa using hc19)
          refine Wp.exit ?_
          simp only [thenQ, blockQ, ↓reduceIte]
          have hm := hk_53 _ hm
          try dsimp only at hm
          refine hW14 _ _ _ _ ?_ (hcut14 (s_45, i_46, o0_47) hm)
          simp only [go_sem, simprocAttr]
          try simp [encB, encI_i64, encI_u8, encS, enc_api_File, enc_api_Machine, enc_api_Service, enc_api_Setting, List.map_set, List.map_replicate]
      clear hK9 hk_7
      refine Wp.seqR fun K28 hK28 => ?_
      simp only [go_sem, simprocAttr]
      first
        | refine hK28 _ _ ?_
        | refine ⟨by first | exact sd, hK28 _ _ ?_⟩
      refine Wp.cond rfl ⟨⟩ (fun hc29 => ?_) (fun hc29 => ?_)
      · have hm := brT hm (by first | exact hc29 | simpa using hc29)
        obtain ⟨r_60, hr_60, hm⟩ := call_elim hm
        refine Wp.region fun K30 hK30 => ?_
        simp only [go_sem, simprocAttr]
        try refine ⟨by first | exact sd, ?_⟩
        refine Rg.callX (av := ?av31) (g := true) (fun hg => ok_strings_Count s_1 sep_2 _ hr_60) ?ha31 ?hb31 ?hp31 ?hok31 ?hf31 ?cont31
        case ha31 =>
          simp only [go_sem, simprocAttr]
          exact Is.mk
        case hb31 =>
          simp only [go_sem, simprocAttr]
          exact Is.mk
        case hp31 =>
          simp only [go_sem, simprocAttr]
          exact Is.mk
        case hok31 =>
          simp only [go_sem, simprocAttr]
        case hf31 =>
          simp only [go_sem, simprocAttr]
          exact Is.mk
        intro hv31
        simp only [go_sem, simprocAttr]
        first
          | refine hK30 _ _ ?_
          | refine ⟨by first | exact sd, hK30 _ _ ?_⟩
        simp only [thenQ, blockQ, ↓reduceIte]
        refine hW9 _ _ _ _ ?_ (hcut9 (IntKind.i64.wrap (r_60 + 1)) hm)
        simp only [go_sem, simprocAttr]
        try simp [encB, encI_i64, encI_u8, encS, enc_api_File, enc_api_Machine, enc_api_Service, enc_api_Setting, List.map_set, List.map_replicate]
      · have hm := brF hm (by first | exact hc29 | simpa using hc29)
        refine Wp.skip ?_
        simp only [thenQ, blockQ, ↓reduceIte]
        refine hW9 _ _ _ _ ?_ (hcut9 n_4 hm)
        simp only [go_sem, simprocAttr]
        try simp [encB, encI_i64, encI_u8, encS, enc_api_File, enc_api_Machine, enc_api_Service, enc_api_Setting, List.map_set, List.map_replicate]
set_option maxRecDepth 100000 in
set_option maxHeartbeats 4000000 in
theorem ok_strings_Split (s_1 : Str) (sep_2 : Str) (z : List Str) (hm : strings_Split s_1 sep_2 = some z) : Does Tryd.prog 66 [.p (.s s_1), .p (.s sep_2)] [] (fun r X => r = .p (.l (List.map encS z)) ∧ X = []) := by
  unfold strings_Split at hm
  refine Does.of_wp 0 8 [.tmp 4] Tryd.func66 rfl (by decide) rfl rfl (Nat.le_of_ble_eq_true rfl) fun B => ?_
  refine Wp.seqR fun K1 hK1 => ?_
  simp only [go_sem, simprocAttr]
  first
    | refine hK1 _ _ ?_
    | refine ⟨by first | exact sd, hK1 _ _ ?_⟩
  obtain ⟨r_3, hr_3, hm⟩ := call_elim hm
  refine Wp.seqR fun K2 hK2 => ?_
  simp only [go_sem, simprocAttr]
  try refine ⟨by first | exact sd, ?_⟩
  refine Rg.callF (av := ?av3) (ok_strings_genSplit s_1 sep_2 0 (-1) _ hr_3) ?ha3 ?hp3 ?hok3 ?cont3
  case ha3 =>
    simp only [go_sem, simprocAttr]
    exact Is.mk
  case hp3 =>
    simp only [go_sem, simprocAttr]
    exact Is.mk
  case hok3 =>
    simp only [go_sem, simprocAttr]
  intro hv3
  simp only [go_sem, simprocAttr]
  first
    | refine hK2 _ _ ?_
    | refine ⟨by first | exact sd, hK2 _ _ ?_⟩
  refine Wp.ret ?_
  refine retQ_ret ?_
  cases hm
  simp only [go_sem, simprocAttr]
  try simp [encB, encI_i64, encI_u8, encS, enc_api_File, enc_api_Machine, enc_api_Service, enc_api_Setting, List.map_set, List.map_replicate]
set_option maxRecDepth 100000 in
set_option maxHeartbeats 4000000 in
theorem ok_R_isPart (s_1 : Str) (z : Bool) (hm : R_isPart s_1 = some z) : Does Tryd.prog 96 [.p (.s s_1)] [] (fun r X => r = .p (.b z) ∧ X = []) := by
  unfold R_isPart at hm
  refine Does.of_wp 0 63 [.tmp 2] Tryd.func96 rfl (by decide) rfl rfl (Nat.le_of_ble_eq_true rfl) fun B => ?_
  refine Wp.seqR fun K1 hK1 => ?_
  simp only [go_sem, simprocAttr]
  first
    | refine hK1 _ _ ?_
    | refine ⟨by first | exact sd, hK1 _ _ ?_⟩
  refine Wp.seqW fun K2 hK2 hW2 => ?_
  obtain ⟨k_9, hk_9, hm⟩ := jp_elim hm
  have hcut2 : ∀ s, k_9 s = some z → K2 [(0, .p (.s s_1))] [] := by
    intro s hs
    have hm := hk_9 _ hs
    clear hs
    try dsimp only at hm
    try dsimp only
    refine hK2 _ _ ?_
    refine Wp.seqR fun K3 hK3 => ?_
    simp only [go_sem, simprocAttr]
    first
      | refine hK3 _ _ ?_
      | refine ⟨by first | exact sd, hK3 _ _ ?_⟩
    refine Wp.ret ?_
    refine retQ_ret ?_
    cases hm
    simp only [go_sem, simprocAttr]
    try simp [encB, encI_i64, encI_u8, encS, enc_api_File, enc_api_Machine, enc_api_Service, enc_api_Setting, List.map_set, List.map_replicate]
  clear hK2 hk_9
  refine Wp.seqR fun K4 hK4 => ?_
  simp only [go_sem, simprocAttr]
  first
    | refine hK4 _ _ ?_
    | refine ⟨by first | exact sd, hK4 _ _ ?_⟩
  refine Wp.block ?_
  obtain ⟨k_12, hk_12, hm⟩ := forL_cont hm
  refine Wp.fact 0 fun hl_15 => ?_
  replace hl_15 : s_1.length ≤ 274877906944 := by
    simp only [go_sem, simprocAttr, List.length_map] at hl_15
    omega
  refine Wp.forL (fun i_14 s => [(0, .p (.s s_1)), (6, .p (.i .i64 (s_1.length : Int))), (7, .p (.i .i64 (i_14 : Int)))]) (fun i_14 s => []) ?_ hm ?_
  ·
    simp only [go_sem, simprocAttr]
    try simp [encB, encI_i64, encI_u8, encS, enc_api_File, enc_api_Machine, enc_api_Service, enc_api_Setting, List.map_set, List.map_replicate]
  clear hm
  intro i_14 s hii_14 hm
  try dsimp only at hm
  try dsimp only
  refine Wp.seqR fun K5 hK5 => ?_
  simp only [go_sem, simprocAttr]
  first
    | refine hK5 _ _ ?_
    | refine ⟨by first | exact sd, hK5 _ _ ?_⟩
  refine Wp.seqW fun K6 hK6 hW6 => ?_
  refine Wp.cond rfl ⟨⟩ (fun hc6 => ?_) (fun hc6 => ?_)
  rotate_left
  · refine Wp.exit ?_
    have hm := hk_12 _ (forL_end hm (ge_nat (by first | exact hc6 | simpa using hc6)))
    try dsimp only at hm
    simp only [thenQ, blockQ, ↓reduceIte]
    refine hW2 _ _ _ _ ?_ (hcut2 () hm)
    simp only [go_sem, simprocAttr]
    try simp [encB, encI_i64, encI_u8, encS, enc_api_File, enc_api_Machine, enc_api_Service, enc_api_Setting, List.map_set, List.map_replicate]
  have hlt6 := lt_nat (by first | exact hc6 | simpa using hc6)
  have hw6 := wrap_succ hlt6 hl_15
  obtain ⟨c_16, nx_13, hxc_16, hyc_16, hnx_13, hm⟩ := forL_step hm hlt6
  clear hxc_16
  refine Wp.skip ?_
  simp only [thenQ]
  refine hK6 _ _ ?_
  refine Wp.seqW fun K7 hK7 hW7 => ?_
  refine Wp.block ?_
  refine Wp.seqR fun K8 hK8 => ?_
  simp only [go_sem, simprocAttr, hw6, hyc_16]
  first
    | refine hK8 _ _ ?_
    | refine ⟨by first | exact sd, hK8 _ _ ?_⟩
  refine Wp.seqR fun K9 hK9 => ?_
  simp only [go_sem, simprocAttr, hw6, hyc_16]
  first
    | refine hK9 _ _ ?_
    | refine ⟨by first | exact sd, hK9 _ _ ?_⟩
  refine Wp.seqR fun K10 hK10 => ?_
  simp only [go_sem, simprocAttr, hw6, hyc_16]
  first
    | refine hK10 _ _ ?_
    | refine ⟨by first | exact sd, hK10 _ _ ?_⟩
  refine Wp.cond rfl ⟨⟩ (fun hc11 => ?_) (fun hc11 => ?_)
  · have hm := brT hm (by first | exact hc11 | simpa using hc11)
    refine Wp.seqR fun K12 hK12 => ?_
    simp only [go_sem, simprocAttr, hw6, hyc_16]
    first
      | refine hK12 _ _ ?_
      | refine ⟨by first | exact sd, hK12 _ _ ?_⟩
    refine Wp.ret ?_
    simp only [thenQ, blockQ]
    refine retQ_ret ?_
    cases hm
    simp only [go_sem, simprocAttr, hw6, hyc_16]
    try simp [encB, encI_i64, encI_u8, encS, enc_api_File, enc_api_Machine, enc_api_Service, enc_api_Setting, List.map_set, List.map_replicate]
  · have hm := brF hm (by first | exact hc11 | simpa using hc11)
    refine Wp.skip ?_
    simp only [thenQ, blockQ, ↓reduceIte]
    refine hK7 _ _ ?_
    refine Wp.region fun K13 hK13 => ?_
    simp only [go_sem, simprocAttr, hw6, hyc_16]
    first
      | refine hK13 _ _ ?_
      | refine ⟨by first | exact sd, hK13 _ _ ?_⟩
    simp only [thenQ, blockQ, ↓reduceIte]
    refine ⟨(), hlt6, hnx_13 _ hm, ?_⟩
    simp only [go_sem, simprocAttr, hw6, hyc_16]
    try simp [encB, encI_i64, encI_u8, encS, enc_api_File, enc_api_Machine, enc_api_Service, enc_api_Setting, List.map_set, List.map_replicate]
set_option maxRecDepth 100000 in
set_option maxHeartbeats 4000000 in
theorem ok_R_IsPath (s_1 : Str) (z : Bool) (hm : R_IsPath s_1 = some z) : Does Tryd.prog 31 [.p (.s s_1)] [] (fun r X => r = .p (.b z) ∧ X = []) := by
  unfold R_IsPath at hm
  refine Does.of_wp 0 19 [.tmp 2] Tryd.func31 rfl (by decide) rfl rfl (Nat.le_of_ble_eq_true rfl) fun B => ?_
  refine Wp.seqR fun K1 hK1 => ?_
  simp only [go_sem, simprocAttr]
  first
    | refine hK1 _ _ ?_
    | refine ⟨by first | exact sd, hK1 _ _ ?_⟩
  refine Wp.seqW fun K2 hK2 hW2 => ?_
  obtain ⟨k_12, hk_12, hm⟩ := jp_elim hm
  have hcut2 : ∀ s, k_12 s = some z → K2 [(0, .p (.s s_1))] [] := by
    intro s hs
    have hm := hk_12 _ hs
    clear hs
    try dsimp only at hm
    try dsimp only
    refine hK2 _ _ ?_
    refine Wp.seqR fun K3 hK3 => ?_
    simp only [go_sem, simprocAttr]
    first
      | refine hK3 _ _ ?_
      | refine ⟨by first | exact sd, hK3 _ _ ?_⟩
    refine Wp.ret ?_
    refine retQ_ret ?_
    cases hm
    simp only [go_sem, simprocAttr]
    try simp [encB, encI_i64, encI_u8, encS, enc_api_File, enc_api_Machine, enc_api_Service, enc_api_Setting, List.map_set, List.map_replicate]
  clear hK2 hk_12
  obtain ⟨r_13, hr_13, hm⟩ := call_elim hm
  refine Wp.seqR fun K4 hK4 => ?_
  simp only [go_sem, simprocAttr]
  try refine ⟨by first | exact sd, ?_⟩
  refine Rg.callF (av := ?av5) (ok_strings_Split s_1 ([47] : Str) _ hr_13) ?ha5 ?hp5 ?hok5 ?cont5
  case ha5 =>
    simp only [go_sem, simprocAttr]
    exact Is.mk
  case hp5 =>
    simp only [go_sem, simprocAttr]
    exact Is.mk
  case hok5 =>
    simp only [go_sem, simprocAttr]
  intro hv5
  simp only [go_sem, simprocAttr]
  first
    | refine hK4 _ _ ?_
    | refine ⟨by first | exact sd, hK4 _ _ ?_⟩
  refine Wp.block ?_
  obtain ⟨k_17, hk_17, hm⟩ := forL_cont hm
  refine Wp.fact 6 fun hl_20 => ?_
  replace hl_20 : r_13.length ≤ 274877906944 := by
    simp only [go_sem, simprocAttr, List.length_map] at hl_20
    omega
  refine Wp.forL (fun i_19 s => [(0, .p (.s s_1)), (6, .p (.l (List.map encS r_13))), (7, .p (.i .i64 (r_13.length : Int))), (8, .p (.i .i64 (i_19 : Int)))]) (fun i_19 s => []) ?_ hm ?_
  ·
    simp only [go_sem, simprocAttr]
    try simp [encB, encI_i64, encI_u8, encS, enc_api_File, enc_api_Machine, enc_api_Service, enc_api_Setting, List.map_set, List.map_replicate]
  clear hm
  intro i_19 s hii_19 hm
  try dsimp only at hm
  try dsimp only
  refine Wp.seqR fun K6 hK6 => ?_
  simp only [go_sem, simprocAttr]
  first
    | refine hK6 _ _ ?_
    | refine ⟨by first | exact sd, hK6 _ _ ?_⟩
  refine Wp.seqW fun K7 hK7 hW7 => ?_
  refine Wp.cond rfl ⟨⟩ (fun hc7 => ?_) (fun hc7 => ?_)
  rotate_left
  · refine Wp.exit ?_
    have hm := hk_17 _ (forL_end hm (ge_nat (by first | exact hc7 | simpa using hc7)))
    try dsimp only at hm
    simp only [thenQ, blockQ, ↓reduceIte]
    refine hW2 _ _ _ _ ?_ (hcut2 () hm)
    simp only [go_sem, simprocAttr]
    try simp [encB, encI_i64, encI_u8, encS, enc_api_File, enc_api_Machine, enc_api_Service, enc_api_Setting, List.map_set, List.map_replicate]
  have hlt7 := lt_nat (by first | exact hc7 | simpa using hc7)
  have hw7 := wrap_succ hlt7 hl_20
  obtain ⟨s_21, nx_18, hxs_21, hys_21, hnx_18, hm⟩ := forL_step hm hlt7
  replace hxs_21 := hxs_21 encS
  refine Wp.skip ?_
  simp only [thenQ]
  refine hK7 _ _ ?_
  refine Wp.seqW fun K8 hK8 hW8 => ?_
  refine Wp.block ?_
  refine Wp.seqR fun K9 hK9 => ?_
  simp only [go_sem, simprocAttr, hw7, hxs_21]
  first
    | refine hK9 _ _ ?_
    | refine ⟨by first | exact sd, hK9 _ _ ?_⟩
  obtain ⟨r_22, hr_22, hm⟩ := call_elim hm
  refine Wp.seqR fun K10 hK10 => ?_
  simp only [go_sem, simprocAttr, hw7, hxs_21]
  try refine ⟨by first | exact sd, ?_⟩
  refine Rg.callX (av := ?av11) (g := true) (fun hg => ok_R_isPart s_21 _ hr_22) ?ha11 ?hb11 ?hp11 ?hok11 ?hf11 ?cont11
  case ha11 =>
    simp only [go_sem, simprocAttr, hw7, hxs_21]
    exact Is.mk
  case hb11 =>
    simp only [go_sem, simprocAttr, hw7, hxs_21]
    exact Is.mk
  case hp11 =>
    simp only [go_sem, simprocAttr, hw7, hxs_21]
    exact Is.mk
  case hok11 =>
    simp only [go_sem, simprocAttr, hw7, hxs_21]
  case hf11 =>
    simp only [go_sem, simprocAttr, hw7, hxs_21]
    exact Is.mk
  intro hv11
  simp only [go_sem, simprocAttr, hw7, hxs_21]
  first
    | refine hK10 _ _ ?_
    | refine ⟨by first | exact sd, hK10 _ _ ?_⟩
  refine Wp.cond rfl ⟨⟩ (fun hc12 => ?_) (fun hc12 => ?_)
  · have hm := brT hm (by first | exact hc12 | simpa using hc12)
    refine Wp.seqR fun K13 hK13 => ?_
    simp only [go_sem, simprocAttr, hw7, hxs_21]
    first
      | refine hK13 _ _ ?_
      | refine ⟨by first | exact sd, hK13 _ _ ?_⟩
    refine Wp.ret ?_
    simp only [thenQ, blockQ]
    refine retQ_ret ?_
    cases hm
    simp only [go_sem, simprocAttr, hw7, hxs_21]
    try simp [encB, encI_i64, encI_u8, encS, enc_api_File, enc_api_Machine, enc_api_Service, enc_api_Setting, List.map_set, List.map_replicate]
  · have hm := brF hm (by first | exact hc12 | simpa using hc12)
    refine Wp.skip ?_
    simp only [thenQ, blockQ, ↓reduceIte]
    refine hK8 _ _ ?_
    refine Wp.region fun K14 hK14 => ?_
    simp only [go_sem, simprocAttr, hw7, hxs_21]
    first
      | refine hK14 _ _ ?_
      | refine ⟨by first | exact sd, hK14 _ _ ?_⟩
    simp only [thenQ, blockQ, ↓reduceIte]
    refine ⟨(), hlt7, hnx_18 _ hm, ?_⟩
    simp only [go_sem, simprocAttr, hw7, hxs_21]
    try simp [encB, encI_i64, encI_u8, encS, enc_api_File, enc_api_Machine, enc_api_Service, enc_api_Setting, List.map_set, List.map_replicate]
set_option maxRecDepth 100000 in
set_option maxHeartbeats 4000000 in
theorem ok_R_fileError (f_1 : api_File) (z : Int) (hm : R_fileError f_1 = some z) : Does Tryd.prog 39 [.agg [.p (.s f_1.Path), .p (.s f_1.Data), .p (.b f_1.Runs)]] [] (fun r X => r = .p (.i .i64 z) ∧ X = []) := by
  unfold R_fileError at hm
  refine Does.of_wp 0 15 [.tmp 2] Tryd.func39 rfl (by decide) rfl rfl (Nat.le_of_ble_eq_true rfl) fun B => ?_
  refine Wp.seqR fun K1 hK1 => ?_
  simp only [go_sem, simprocAttr]
  first
    | refine hK1 _ _ ?_
    | refine ⟨by first | exact sd, hK1 _ _ ?_⟩
  obtain ⟨r_2, hr_2, hm⟩ := call_elim hm
  obtain ⟨r_3, hr_3, hm⟩ := call_elim hm
  obtain ⟨r_4, hr_4, hm⟩ := call_elim hm
  obtain ⟨r_5, hr_5, hm⟩ := call_elim hm
  refine Wp.seqD (plan := [(0, none), (1, none), (2, none), (3, none), (4, none), (5, none), (6, none), (7, none), (8, none), (9, none), (10, some []), (11, none), (12, none)]) (by kernel_rfl) rfl (by kernel_rfl) fun K2 hK2 => ?_
  simp only [go_sem, simprocAttr]
  try refine ⟨by first | exact sd, ?_⟩
  refine Dr.callF (av := ?av3) (g := true) (o := ?o3) (fun hg => ok_R_IsPath f_1.Path _ hr_2) ?hk3 ?ha3 ?hb3 ?hp3 ?hok3 ?hf3 ?cont3
  case hk3 =>
    simp only [go_sem, simprocAttr]
    exact Is.mk
  case ha3 =>
    simp only [go_sem, simprocAttr]
    exact Is.mk
  case hb3 =>
    simp only [go_sem, simprocAttr]
    exact Is.mk
  case hp3 =>
    simp only [go_sem, simprocAttr]
    exact Is.mk
  case hok3 =>
    simp only [go_sem, simprocAttr]
  case hf3 =>
    simp only [go_sem, simprocAttr]
    exact Is.mk
  simp only [go_sem, simprocAttr]
  try refine ⟨by first | exact sd, ?_⟩
  refine Dr.callF (av := ?av4) (g := true) (o := ?o4) (fun hg => ok_R_when (!r_2) 5 _ hr_3) ?hk4 ?ha4 ?hb4 ?hp4 ?hok4 ?hf4 ?cont4
  case hk4 =>
    simp only [go_sem, simprocAttr]
    exact Is.mk
  case ha4 =>
    simp only [go_sem, simprocAttr]
    exact Is.mk
  case hb4 =>
    simp only [go_sem, simprocAttr]
    exact Is.mk
  case hp4 =>
    simp only [go_sem, simprocAttr]
    exact Is.mk
  case hok4 =>
    simp only [go_sem, simprocAttr]
  case hf4 =>
    simp only [go_sem, simprocAttr]
    exact Is.mk
  simp only [go_sem, simprocAttr]
  try refine ⟨by first | exact sd, ?_⟩
  refine Dr.callF (av := ?av5) (g := true) (o := ?o5) (fun hg => ok_R_when (decide (65536 < (f_1.Data.length : Int))) 4 _ hr_4) ?hk5 ?ha5 ?hb5 ?hp5 ?hok5 ?hf5 ?cont5
  case hk5 =>
    simp only [go_sem, simprocAttr]
    exact Is.mk
  case ha5 =>
    simp only [go_sem, simprocAttr]
    exact Is.mk
  case hb5 =>
    simp only [go_sem, simprocAttr]
    exact Is.mk
  case hp5 =>
    simp only [go_sem, simprocAttr]
    exact Is.mk
  case hok5 =>
    simp only [go_sem, simprocAttr]
  case hf5 =>
    simp only [go_sem, simprocAttr]
    exact Is.mk
  simp only [go_sem, simprocAttr]
  try refine ⟨by first | exact sd, ?_⟩
  refine Dr.callF (av := ?av6) (g := true) (o := ?o6) (fun hg => ok_R_first [r_3, r_4] _ hr_5) ?hk6 ?ha6 ?hb6 ?hp6 ?hok6 ?hf6 ?cont6
  case hk6 =>
    simp only [go_sem, simprocAttr]
    exact Is.mk
  case ha6 =>
    simp only [go_sem, simprocAttr]
    exact Is.mk
  case hb6 =>
    simp only [go_sem, simprocAttr]
    exact Is.mk
  case hp6 =>
    simp only [go_sem, simprocAttr]
    exact Is.mk
  case hok6 =>
    simp only [go_sem, simprocAttr]
  case hf6 =>
    simp only [go_sem, simprocAttr]
    exact Is.mk
  simp only [go_sem, simprocAttr]
  first
    | refine hK2 _ _ ?_
    | refine ⟨by first | exact sd, hK2 _ _ ?_⟩
  refine Wp.ret ?_
  refine retQ_ret ?_
  cases hm
  simp only [go_sem, simprocAttr]
  try simp [encB, encI_i64, encI_u8, encS, enc_api_File, enc_api_Machine, enc_api_Service, enc_api_Setting, List.map_set, List.map_replicate]
set_option maxRecDepth 100000 in
set_option maxHeartbeats 4000000 in
theorem ok_R_settingError (s_1 : api_Setting) (z : Int) (hm : R_settingError s_1 = some z) : Does Tryd.prog 40 [.agg [.p (.s s_1.Key), .p (.s s_1.Value)]] [] (fun r X => r = .p (.i .i64 z) ∧ X = []) := by
  unfold R_settingError at hm
  refine Does.of_wp 0 15 [.tmp 2] Tryd.func40 rfl (by decide) rfl rfl (Nat.le_of_ble_eq_true rfl) fun B => ?_
  refine Wp.seqR fun K1 hK1 => ?_
  simp only [go_sem, simprocAttr]
  first
    | refine hK1 _ _ ?_
    | refine ⟨by first | exact sd, hK1 _ _ ?_⟩
  obtain ⟨r_2, hr_2, hm⟩ := call_elim hm
  obtain ⟨r_3, hr_3, hm⟩ := call_elim hm
  obtain ⟨r_4, hr_4, hm⟩ := call_elim hm
  obtain ⟨r_5, hr_5, hm⟩ := call_elim hm
  obtain ⟨r_6, hr_6, hm⟩ := call_elim hm
  refine Wp.seqD (plan := [(0, none), (1, none), (2, none), (3, none), (4, none), (5, none), (6, none), (7, none), (8, none), (9, none), (10, some []), (11, none), (12, none)]) (by kernel_rfl) rfl (by kernel_rfl) fun K2 hK2 => ?_
  simp only [go_sem, simprocAttr]
  try refine ⟨by first | exact sd, ?_⟩
  refine Dr.callF (av := ?av3) (g := true) (o := ?o3) (fun hg => ok_R_IsPath s_1.Key _ hr_2) ?hk3 ?ha3 ?hb3 ?hp3 ?hok3 ?hf3 ?cont3
  case hk3 =>
    simp only [go_sem, simprocAttr]
    exact Is.mk
  case ha3 =>
    simp only [go_sem, simprocAttr]
    exact Is.mk
  case hb3 =>
    simp only [go_sem, simprocAttr]
    exact Is.mk
  case hp3 =>
    simp only [go_sem, simprocAttr]
    exact Is.mk
  case hok3 =>
    simp only [go_sem, simprocAttr]
  case hf3 =>
    simp only [go_sem, simprocAttr]
    exact Is.mk
  simp only [go_sem, simprocAttr]
  try refine ⟨by first | exact sd, ?_⟩
  refine Dr.callF (av := ?av4) (g := true) (o := ?o4) (fun hg => ok_R_when (!r_2) 5 _ hr_3) ?hk4 ?ha4 ?hb4 ?hp4 ?hok4 ?hf4 ?cont4
  case hk4 =>
    simp only [go_sem, simprocAttr]
    exact Is.mk
  case ha4 =>
    simp only [go_sem, simprocAttr]
    exact Is.mk
  case hb4 =>
    simp only [go_sem, simprocAttr]
    exact Is.mk
  case hp4 =>
    simp only [go_sem, simprocAttr]
    exact Is.mk
  case hok4 =>
    simp only [go_sem, simprocAttr]
  case hf4 =>
    simp only [go_sem, simprocAttr]
    exact Is.mk
  simp only [go_sem, simprocAttr]
  try refine ⟨by first | exact sd, ?_⟩
  refine Dr.callF (av := ?av5) (g := true) (o := ?o5) (fun hg => ok_R_IsValue s_1.Value _ hr_4) ?hk5 ?ha5 ?hb5 ?hp5 ?hok5 ?hf5 ?cont5
  case hk5 =>
    simp only [go_sem, simprocAttr]
    exact Is.mk
  case ha5 =>
    simp only [go_sem, simprocAttr]
    exact Is.mk
  case hb5 =>
    simp only [go_sem, simprocAttr]
    exact Is.mk
  case hp5 =>
    simp only [go_sem, simprocAttr]
    exact Is.mk
  case hok5 =>
    simp only [go_sem, simprocAttr]
  case hf5 =>
    simp only [go_sem, simprocAttr]
    exact Is.mk
  simp only [go_sem, simprocAttr]
  try refine ⟨by first | exact sd, ?_⟩
  refine Dr.callF (av := ?av6) (g := true) (o := ?o6) (fun hg => ok_R_when (!r_4) 2 _ hr_5) ?hk6 ?ha6 ?hb6 ?hp6 ?hok6 ?hf6 ?cont6
  case hk6 =>
    simp only [go_sem, simprocAttr]
    exact Is.mk
  case ha6 =>
    simp only [go_sem, simprocAttr]
    exact Is.mk
  case hb6 =>
    simp only [go_sem, simprocAttr]
    exact Is.mk
  case hp6 =>
    simp only [go_sem, simprocAttr]
    exact Is.mk
  case hok6 =>
    simp only [go_sem, simprocAttr]
  case hf6 =>
    simp only [go_sem, simprocAttr]
    exact Is.mk
  simp only [go_sem, simprocAttr]
  try refine ⟨by first | exact sd, ?_⟩
  refine Dr.callF (av := ?av7) (g := true) (o := ?o7) (fun hg => ok_R_first [r_3, r_5] _ hr_6) ?hk7 ?ha7 ?hb7 ?hp7 ?hok7 ?hf7 ?cont7
  case hk7 =>
    simp only [go_sem, simprocAttr]
    exact Is.mk
  case ha7 =>
    simp only [go_sem, simprocAttr]
    exact Is.mk
  case hb7 =>
    simp only [go_sem, simprocAttr]
    exact Is.mk
  case hp7 =>
    simp only [go_sem, simprocAttr]
    exact Is.mk
  case hok7 =>
    simp only [go_sem, simprocAttr]
  case hf7 =>
    simp only [go_sem, simprocAttr]
    exact Is.mk
  simp only [go_sem, simprocAttr]
  first
    | refine hK2 _ _ ?_
    | refine ⟨by first | exact sd, hK2 _ _ ?_⟩
  refine Wp.ret ?_
  refine retQ_ret ?_
  cases hm
  simp only [go_sem, simprocAttr]
  try simp [encB, encI_i64, encI_u8, encS, enc_api_File, enc_api_Machine, enc_api_Service, enc_api_Setting, List.map_set, List.map_replicate]
set_option maxRecDepth 100000 in
set_option maxHeartbeats 4000000 in
theorem ok_R_serviceError (s_1 : api_Service) (z : Int) (hm : R_serviceError s_1 = some z) : Does Tryd.prog 41 [.agg [.p (.s s_1.Name), .p (.s s_1.Path), .p (.b s_1.Auto), .p (.b s_1.On)]] [] (fun r X => r = .p (.i .i64 z) ∧ X = []) := by
  unfold R_serviceError at hm
  refine Does.of_wp 0 14 [.tmp 2] Tryd.func41 rfl (by decide) rfl rfl (Nat.le_of_ble_eq_true rfl) fun B => ?_
  refine Wp.seqR fun K1 hK1 => ?_
  simp only [go_sem, simprocAttr]
  first
    | refine hK1 _ _ ?_
    | refine ⟨by first | exact sd, hK1 _ _ ?_⟩
  obtain ⟨r_2, hr_2, hm⟩ := call_elim hm
  obtain ⟨r_3, hr_3, hm⟩ := callG_elim hm
  obtain ⟨r_4, hr_4, hm⟩ := call_elim hm
  refine Wp.seqR fun K2 hK2 => ?_
  simp only [go_sem, simprocAttr]
  try refine ⟨by first | exact sd, ?_⟩
  refine Rg.callX (av := ?av3) (g := true) (fun hg => ok_R_IsName s_1.Name _ hr_2) ?ha3 ?hb3 ?hp3 ?hok3 ?hf3 ?cont3
  case ha3 =>
    simp only [go_sem, simprocAttr]
    exact Is.mk
  case hb3 =>
    simp only [go_sem, simprocAttr]
    exact Is.mk
  case hp3 =>
    simp only [go_sem, simprocAttr]
    exact Is.mk
  case hok3 =>
    simp only [go_sem, simprocAttr]
  case hf3 =>
    simp only [go_sem, simprocAttr]
    exact Is.mk
  intro hv3
  simp only [go_sem, simprocAttr]
  try refine ⟨by first | exact sd, ?_⟩
  refine Rg.callX (av := ?av4) (g := !(!r_2)) (fun hg => ok_R_IsPath s_1.Path _ (hr_3 hg)) ?ha4 ?hb4 ?hp4 ?hok4 ?hf4 ?cont4
  case ha4 =>
    simp only [go_sem, simprocAttr]
    exact Is.mk
  case hb4 =>
    simp only [go_sem, simprocAttr]
    exact Is.mk
  case hp4 =>
    simp only [go_sem, simprocAttr]
    exact Is.mk
  case hok4 =>
    simp only [go_sem, simprocAttr]
  case hf4 =>
    simp only [go_sem, simprocAttr]
    exact Is.mk
  intro hv4
  simp only [go_sem, simprocAttr]
  try refine ⟨by first | exact sd, ?_⟩
  refine Rg.callX (av := ?av5) (g := true) (fun hg => ok_R_when ((!r_2) || (!r_3)) 5 _ hr_4) ?ha5 ?hb5 ?hp5 ?hok5 ?hf5 ?cont5
  case ha5 =>
    simp only [go_sem, simprocAttr]
    exact Is.mk
  case hb5 =>
    simp only [go_sem, simprocAttr]
    exact Is.mk
  case hp5 =>
    simp only [go_sem, simprocAttr]
    exact Is.mk
  case hok5 =>
    simp only [go_sem, simprocAttr]
  case hf5 =>
    simp only [go_sem, simprocAttr]
    exact Is.mk
  intro hv5
  simp only [go_sem, simprocAttr]
  first
    | refine hK2 _ _ ?_
    | refine ⟨by first | exact sd, hK2 _ _ ?_⟩
  refine Wp.ret ?_
  refine retQ_ret ?_
  cases hm
  simp only [go_sem, simprocAttr]
  try simp [encB, encI_i64, encI_u8, encS, enc_api_File, enc_api_Machine, enc_api_Service, enc_api_Setting, List.map_set, List.map_replicate]
set_option maxRecDepth 100000 in
set_option maxHeartbeats 4000000 in
theorem ok_R_Check (m_1 : api_Machine) (z : Int) (hm : R_Check m_1 = some z) : Does Tryd.prog 8 [.agg [.p (.l (List.map enc_api_Setting m_1.Facts)), .p (.l (List.map enc_api_File m_1.Files)), .p (.l (List.map enc_api_Setting m_1.Settings)), .p (.l (List.map enc_api_Service m_1.Services))]] [] (fun r X => r = .p (.i .i64 z) ∧ X = []) := by
  unfold R_Check at hm
  refine Does.of_wp 0 160 [.tmp 2] Tryd.func8 rfl (by decide) rfl rfl (Nat.le_of_ble_eq_true rfl) fun B => ?_
  refine Wp.seqR fun K1 hK1 => ?_
  simp only [go_sem, simprocAttr]
  first
    | refine hK1 _ _ ?_
    | refine ⟨by first | exact sd, hK1 _ _ ?_⟩
  refine Wp.seqW fun K2 hK2 hW2 => ?_
  refine Wp.seqR fun K3 hK3 => ?_
  simp only [go_sem, simprocAttr]
  first
    | refine hK3 _ _ ?_
    | refine ⟨by first | exact sd, hK3 _ _ ?_⟩
  refine Wp.cond rfl ⟨⟩ (fun hc4 => ?_) (fun hc4 => ?_)
  · have hm := brT hm (by first | exact hc4 | simpa using hc4)
    refine Wp.seqR fun K5 hK5 => ?_
    simp only [go_sem, simprocAttr]
    first
      | refine hK5 _ _ ?_
      | refine ⟨by first | exact sd, hK5 _ _ ?_⟩
    refine Wp.ret ?_
    simp only [thenQ, blockQ]
    refine retQ_ret ?_
    cases hm
    simp only [go_sem, simprocAttr]
    try simp [encB, encI_i64, encI_u8, encS, enc_api_File, enc_api_Machine, enc_api_Service, enc_api_Setting, List.map_set, List.map_replicate]
  · have hm := brF hm (by first | exact hc4 | simpa using hc4)
    refine Wp.skip ?_
    simp only [thenQ, blockQ, ↓reduceIte]
    refine hK2 _ _ ?_
    refine Wp.seqR fun K6 hK6 => ?_
    simp only [go_sem, simprocAttr]
    first
      | refine hK6 _ _ ?_
      | refine ⟨by first | exact sd, hK6 _ _ ?_⟩
    refine Wp.seqR fun K7 hK7 => ?_
    simp only [go_sem, simprocAttr]
    first
      | refine hK7 _ _ ?_
      | refine ⟨by first | exact sd, hK7 _ _ ?_⟩
    refine Wp.seqW fun K8 hK8 hW8 => ?_
    obtain ⟨k_36, hk_36, hm⟩ := jp_elim hm
    have hcut8 : ∀ s, k_36 s = some z → K8 [(1, .ptr 0 0), (4, .fn 35 [.ptr 1 0])] [.cells 26 [.p (.l (List.map enc_api_Setting m_1.Facts)), .p (.l (List.map enc_api_File m_1.Files)), .p (.l (List.map enc_api_Setting m_1.Settings)), .p (.l (List.map enc_api_Service m_1.Services))], .cells 9 [.p (.s s)]] := by
      intro o1_0_35 hs
      have hm := hk_36 _ hs
      clear hs
      try dsimp only at hm
      try dsimp only
      refine hK8 _ _ ?_
      refine Wp.seqR fun K9 hK9 => ?_
      simp only [go_sem, simprocAttr]
      first
        | refine hK9 _ _ ?_
        | refine ⟨by first | exact sd, hK9 _ _ ?_⟩
      refine Wp.seqW fun K10 hK10 hW10 => ?_
      obtain ⟨k_247, hk_247, hm⟩ := jp_elim hm
      have hcut10 : ∀ s, k_247 s = some z → K10 [(1, .ptr 0 0), (4, .fn 35 [.ptr 1 0])] [.cells 26 [.p (.l (List.map enc_api_Setting m_1.Facts)), .p (.l (List.map enc_api_File m_1.Files)), .p (.l (List.map enc_api_Setting m_1.Settings)), .p (.l (List.map enc_api_Service m_1.Services))], .cells 9 [.p (.s s)]] := by
        intro o1_0_246 hs
        have hm := hk_247 _ hs
        clear hs
        try dsimp only at hm
        try dsimp only
        refine hK10 _ _ ?_
        refine Wp.seqW fun K11 hK11 hW11 => ?_
        obtain ⟨k_270, hk_270, hm⟩ := jp_elim hm
        have hcut11 : ∀ s, k_270 s = some z → K11 [(1, .ptr 0 0), (4, .fn 35 [.ptr 1 0])] [.cells 26 [.p (.l (List.map enc_api_Setting m_1.Facts)), .p (.l (List.map enc_api_File m_1.Files)), .p (.l (List.map enc_api_Setting m_1.Settings)), .p (.l (List.map enc_api_Service m_1.Services))], .cells 9 [.p (.s s)]] := by
          intro o1_0_269 hs
          have hm := hk_270 _ hs
          clear hs
          try dsimp only at hm
          try dsimp only
          refine hK11 _ _ ?_
          refine Wp.seqW fun K12 hK12 hW12 => ?_
          obtain ⟨k_292, hk_292, hm⟩ := jp_elim hm
          have hcut12 : ∀ s, k_292 s = some z → K12 [] [] := by
            intro s hs
            have hm := hk_292 _ hs
            clear hs
            try dsimp only at hm
            try dsimp only
            refine hK12 _ _ ?_
            refine Wp.seqR fun K13 hK13 => ?_
            simp only [go_sem, simprocAttr]
            first
              | refine hK13 _ _ ?_
              | refine ⟨by first | exact sd, hK13 _ _ ?_⟩
            refine Wp.ret ?_
            refine retQ_ret ?_
            cases hm
            simp only [go_sem, simprocAttr]
            try simp [encB, encI_i64, encI_u8, encS, enc_api_File, enc_api_Machine, enc_api_Service, enc_api_Setting, List.map_set, List.map_replicate]
          clear hK12 hk_292
          refine Wp.seqR fun K14 hK14 => ?_
          simp only [go_sem, simprocAttr]
          first
            | refine hK14 _ _ ?_
            | refine ⟨by first | exact sd, hK14 _ _ ?_⟩
          refine Wp.block ?_
          obtain ⟨k_304, hk_304, hm⟩ := forL_cont hm
          refine Wp.fact 140 fun hl_307 => ?_
          replace hl_307 : m_1.Services.length ≤ 274877906944 := by
            simp only [go_sem, simprocAttr, List.length_map] at hl_307
            omega
          refine Wp.forL (fun i_306 s => [(4, .fn 35 [.ptr 1 0]), (140, .p (.l (List.map enc_api_Service m_1.Services))), (141, .p (.i .i64 (m_1.Services.length : Int))), (142, .p (.i .i64 (i_306 : Int)))]) (fun i_306 s => [.cells 26 [.p (.l (List.map enc_api_Setting m_1.Facts)), .p (.l (List.map enc_api_File m_1.Files)), .p (.l (List.map enc_api_Setting m_1.Settings)), .p (.l (List.map enc_api_Service m_1.Services))], .cells 9 [.p (.s s)]]) ?_ hm ?_
          ·
            simp only [go_sem, simprocAttr]
            try simp [encB, encI_i64, encI_u8, encS, enc_api_File, enc_api_Machine, enc_api_Service, enc_api_Setting, List.map_set, List.map_replicate]
          clear hm
          intro i_306 o1_0_299 hii_306 hm
          try dsimp only at hm
          try dsimp only
          refine Wp.seqR fun K15 hK15 => ?_
          simp only [go_sem, simprocAttr]
          first
            | refine hK15 _ _ ?_
            | refine ⟨by first | exact sd, hK15 _ _ ?_⟩
          refine Wp.seqW fun K16 hK16 hW16 => ?_
          refine Wp.cond rfl ⟨⟩ (fun hc16 => ?_) (fun hc16 => ?_)
          rotate_left
          · refine Wp.exit ?_
            have hm := hk_304 _ (forL_end hm (ge_nat (by first | exact hc16 | simpa using hc16)))
            try dsimp only at hm
            simp only [thenQ, blockQ, ↓reduceIte]
            refine hW12 _ _ _ _ ?_ (hcut12 () hm)
            simp only [go_sem, simprocAttr]
            try simp [encB, encI_i64, encI_u8, encS, enc_api_File, enc_api_Machine, enc_api_Service, enc_api_Setting, List.map_set, List.map_replicate]
          have hlt16 := lt_nat (by first | exact hc16 | simpa using hc16)
          have hw16 := wrap_succ hlt16 hl_307
          obtain ⟨s_308, nx_305, hxs_308, hys_308, hnx_305, hm⟩ := forL_step hm hlt16
          replace hxs_308 := hxs_308 enc_api_Service
          refine Wp.skip ?_
          simp only [thenQ]
          refine hK16 _ _ ?_
          refine Wp.seqW fun K17 hK17 hW17 => ?_
          refine Wp.block ?_
          refine Wp.seqR fun K18 hK18 => ?_
          simp only [go_sem, simprocAttr, hw16, hxs_308]
          first
            | refine hK18 _ _ ?_
            | refine ⟨by first | exact sd, hK18 _ _ ?_⟩
          obtain ⟨r_309, hr_309, hm⟩ := call_elim hm
          obtain ⟨r_310, hr_310, hm⟩ := call_elim hm
          obtain ⟨r_311, hr_311, hm⟩ := call_elim hm
          refine Wp.seqD (plan := [(0, none), (1, none), (2, none), (3, none), (4, none), (5, none), (6, some []), (7, some []), (8, none), (9, none)]) (by kernel_rfl) rfl (by kernel_rfl) fun K19 hK19 => ?_
          simp only [go_sem, simprocAttr, hw16, hxs_308]
          try refine ⟨by first | exact sd, ?_⟩
          refine Dr.callF (av := ?av20) (g := true) (o := ?o20) (fun hg => ok_R_serviceError s_308 _ hr_309) ?hk20 ?ha20 ?hb20 ?hp20 ?hok20 ?hf20 ?cont20
          case hk20 =>
            simp only [go_sem, simprocAttr, hw16, hxs_308]
            exact Is.mk
          case ha20 =>
            simp only [go_sem, simprocAttr, hw16, hxs_308]
            exact Is.mk
          case hb20 =>
            simp only [go_sem, simprocAttr, hw16, hxs_308]
            exact Is.mk
          case hp20 =>
            simp only [go_sem, simprocAttr, hw16, hxs_308]
            exact Is.mk
          case hok20 =>
            simp only [go_sem, simprocAttr, hw16, hxs_308]
          case hf20 =>
            simp only [go_sem, simprocAttr, hw16, hxs_308]
            exact Is.mk
          simp only [go_sem, simprocAttr, hw16, hxs_308]
          try refine ⟨by first | exact sd, ?_⟩
          refine Dr.callE (av := ?av21) (o := ?o21) [1] (ok_R_Check_1_i1 (i_306 : Int) s_308.Name o1_0_299 _ hr_310) ?hk21 ?hgd21 ?ha21 ?hp21 ?hX21 ?hids21 ?hkp21 ?hok21 ?hag21 ?cont21
          case hk21 =>
            simp only [go_sem, simprocAttr, hw16, hxs_308]
            exact Is.mk
          case hgd21 =>
            simp only [go_sem, simprocAttr, hw16, hxs_308]
            exact Is.mk
          case ha21 =>
            simp only [go_sem, simprocAttr, hw16, hxs_308]
            exact Is.mk
          case hp21 =>
            simp only [go_sem, simprocAttr, hw16, hxs_308]
            exact Is.mk
          case hX21 =>
            simp only [go_sem, simprocAttr, hw16, hxs_308]
            exact Is.mk
          case hids21 => simp only [go_sem, simprocAttr, hw16, hxs_308]
          case hkp21 => simp only [go_sem, simprocAttr, hw16, hxs_308]
          case hok21 => simp only [go_sem, simprocAttr, hw16, hxs_308]
          case hag21 => simp only [go_sem, simprocAttr, hw16, hxs_308]
          simp only [go_sem, simprocAttr, hw16, hxs_308]
          try refine ⟨by first | exact sd, ?_⟩
          refine Dr.callF (av := ?av22) (g := true) (o := ?o22) (fun hg => ok_R_first [r_309, r_310.1] _ hr_311) ?hk22 ?ha22 ?hb22 ?hp22 ?hok22 ?hf22 ?cont22
          case hk22 =>
            simp only [go_sem, simprocAttr, hw16, hxs_308]
            exact Is.mk
          case ha22 =>
            simp only [go_sem, simprocAttr, hw16, hxs_308]
            exact Is.mk
          case hb22 =>
            simp only [go_sem, simprocAttr, hw16, hxs_308]
            exact Is.mk
          case hp22 =>
            simp only [go_sem, simprocAttr, hw16, hxs_308]
            exact Is.mk
          case hok22 =>
            simp only [go_sem, simprocAttr, hw16, hxs_308]
          case hf22 =>
            simp only [go_sem, simprocAttr, hw16, hxs_308]
            exact Is.mk
          simp only [go_sem, simprocAttr, hw16, hxs_308]
          first
            | refine hK19 _ _ ?_
            | refine ⟨by first | exact sd, hK19 _ _ ?_⟩
          refine Wp.seqR fun K23 hK23 => ?_
          simp only [go_sem, simprocAttr, hw16, hxs_308]
          first
            | refine hK23 _ _ ?_
            | refine ⟨by first | exact sd, hK23 _ _ ?_⟩
          refine Wp.cond rfl ⟨⟩ (fun hc24 => ?_) (fun hc24 => ?_)
          · have hm := brT hm (by first | exact hc24 | simpa using hc24)
            refine Wp.seqR fun K25 hK25 => ?_
            simp only [go_sem, simprocAttr, hw16, hxs_308]
            first
              | refine hK25 _ _ ?_
              | refine ⟨by first | exact sd, hK25 _ _ ?_⟩
            refine Wp.ret ?_
            simp only [thenQ, blockQ]
            refine retQ_ret ?_
            cases hm
            simp only [go_sem, simprocAttr, hw16, hxs_308]
            try simp [encB, encI_i64, encI_u8, encS, enc_api_File, enc_api_Machine, enc_api_Service, enc_api_Setting, List.map_set, List.map_replicate]
          · have hm := brF hm (by first | exact hc24 | simpa using hc24)
            refine Wp.skip ?_
            simp only [thenQ, blockQ, ↓reduceIte]
            refine hK17 _ _ ?_
            refine Wp.region fun K26 hK26 => ?_
            simp only [go_sem, simprocAttr, hw16, hxs_308]
            first
              | refine hK26 _ _ ?_
              | refine ⟨by first | exact sd, hK26 _ _ ?_⟩
            simp only [thenQ, blockQ, ↓reduceIte]
            refine ⟨r_310.2, hlt16, hnx_305 _ hm, ?_⟩
            simp only [go_sem, simprocAttr, hw16, hxs_308]
            try simp [encB, encI_i64, encI_u8, encS, enc_api_File, enc_api_Machine, enc_api_Service, enc_api_Setting, List.map_set, List.map_replicate]
        clear hK11 hk_270
        refine Wp.seqR fun K27 hK27 => ?_
        simp only [go_sem, simprocAttr]
        first
          | refine hK27 _ _ ?_
          | refine ⟨by first | exact sd, hK27 _ _ ?_⟩
        refine Wp.block ?_
        obtain ⟨k_323, hk_323, hm⟩ := forL_cont hm
        refine Wp.fact 119 fun hl_326 => ?_
        replace hl_326 : m_1.Settings.length ≤ 274877906944 := by
          simp only [go_sem, simprocAttr, List.length_map] at hl_326
          omega
        refine Wp.forL (fun i_325 s => [(1, .ptr 0 0), (4, .fn 35 [.ptr 1 0]), (119, .p (.l (List.map enc_api_Setting m_1.Settings))), (120, .p (.i .i64 (m_1.Settings.length : Int))), (121, .p (.i .i64 (i_325 : Int)))]) (fun i_325 s => [.cells 26 [.p (.l (List.map enc_api_Setting m_1.Facts)), .p (.l (List.map enc_api_File m_1.Files)), .p (.l (List.map enc_api_Setting m_1.Settings)), .p (.l (List.map enc_api_Service m_1.Services))], .cells 9 [.p (.s s)]]) ?_ hm ?_
        ·
          simp only [go_sem, simprocAttr]
          try simp [encB, encI_i64, encI_u8, encS, enc_api_File, enc_api_Machine, enc_api_Service, enc_api_Setting, List.map_set, List.map_replicate]
        clear hm
        intro i_325 o1_0_318 hii_325 hm
        try dsimp only at hm
        try dsimp only
        refine Wp.seqR fun K28 hK28 => ?_
        simp only [go_sem, simprocAttr]
        first
          | refine hK28 _ _ ?_
          | refine ⟨by first | exact sd, hK28 _ _ ?_⟩
        refine Wp.seqW fun K29 hK29 hW29 => ?_
        refine Wp.cond rfl ⟨⟩ (fun hc29 => ?_) (fun hc29 => ?_)
        rotate_left
        · refine Wp.exit ?_
          have hm := hk_323 _ (forL_end hm (ge_nat (by first | exact hc29 | simpa using hc29)))
          try dsimp only at hm
          simp only [thenQ, blockQ, ↓reduceIte]
          refine hW11 _ _ _ _ ?_ (hcut11 o1_0_318 hm)
          simp only [go_sem, simprocAttr]
          try simp [encB, encI_i64, encI_u8, encS, enc_api_File, enc_api_Machine, enc_api_Service, enc_api_Setting, List.map_set, List.map_replicate]
        have hlt29 := lt_nat (by first | exact hc29 | simpa using hc29)
        have hw29 := wrap_succ hlt29 hl_326
        obtain ⟨s_327, nx_324, hxs_327, hys_327, hnx_324, hm⟩ := forL_step hm hlt29
        replace hxs_327 := hxs_327 enc_api_Setting
        refine Wp.skip ?_
        simp only [thenQ]
        refine hK29 _ _ ?_
        refine Wp.seqW fun K30 hK30 hW30 => ?_
        refine Wp.block ?_
        refine Wp.seqR fun K31 hK31 => ?_
        simp only [go_sem, simprocAttr, hw29, hxs_327]
        first
          | refine hK31 _ _ ?_
          | refine ⟨by first | exact sd, hK31 _ _ ?_⟩
        obtain ⟨r_328, hr_328, hm⟩ := call_elim hm
        obtain ⟨r_329, hr_329, hm⟩ := call_elim hm
        obtain ⟨r_330, hr_330, hm⟩ := call_elim hm
        refine Wp.seqD (plan := [(0, none), (1, none), (2, none), (3, none), (4, none), (5, none), (6, some []), (7, some []), (8, none), (9, none)]) (by kernel_rfl) rfl (by kernel_rfl) fun K32 hK32 => ?_
        simp only [go_sem, simprocAttr, hw29, hxs_327]
        try refine ⟨by first | exact sd, ?_⟩
        refine Dr.callF (av := ?av33) (g := true) (o := ?o33) (fun hg => ok_R_settingError s_327 _ hr_328) ?hk33 ?ha33 ?hb33 ?hp33 ?hok33 ?hf33 ?cont33
        case hk33 =>
          simp only [go_sem, simprocAttr, hw29, hxs_327]
          exact Is.mk
        case ha33 =>
          simp only [go_sem, simprocAttr, hw29, hxs_327]
          exact Is.mk
        case hb33 =>
          simp only [go_sem, simprocAttr, hw29, hxs_327]
          exact Is.mk
        case hp33 =>
          simp only [go_sem, simprocAttr, hw29, hxs_327]
          exact Is.mk
        case hok33 =>
          simp only [go_sem, simprocAttr, hw29, hxs_327]
        case hf33 =>
          simp only [go_sem, simprocAttr, hw29, hxs_327]
          exact Is.mk
        simp only [go_sem, simprocAttr, hw29, hxs_327]
        try refine ⟨by first | exact sd, ?_⟩
        refine Dr.callE (av := ?av34) (o := ?o34) [1] (ok_R_Check_1_i1 (i_325 : Int) s_327.Key o1_0_318 _ hr_329) ?hk34 ?hgd34 ?ha34 ?hp34 ?hX34 ?hids34 ?hkp34 ?hok34 ?hag34 ?cont34
        case hk34 =>
          simp only [go_sem, simprocAttr, hw29, hxs_327]
          exact Is.mk
        case hgd34 =>
          simp only [go_sem, simprocAttr, hw29, hxs_327]
          exact Is.mk
        case ha34 =>
          simp only [go_sem, simprocAttr, hw29, hxs_327]
          exact Is.mk
        case hp34 =>
          simp only [go_sem, simprocAttr, hw29, hxs_327]
          exact Is.mk
        case hX34 =>
          simp only [go_sem, simprocAttr, hw29, hxs_327]
          exact Is.mk
        case hids34 => simp only [go_sem, simprocAttr, hw29, hxs_327]
        case hkp34 => simp only [go_sem, simprocAttr, hw29, hxs_327]
        case hok34 => simp only [go_sem, simprocAttr, hw29, hxs_327]
        case hag34 => simp only [go_sem, simprocAttr, hw29, hxs_327]
        simp only [go_sem, simprocAttr, hw29, hxs_327]
        try refine ⟨by first | exact sd, ?_⟩
        refine Dr.callF (av := ?av35) (g := true) (o := ?o35) (fun hg => ok_R_first [r_328, r_329.1] _ hr_330) ?hk35 ?ha35 ?hb35 ?hp35 ?hok35 ?hf35 ?cont35
        case hk35 =>
          simp only [go_sem, simprocAttr, hw29, hxs_327]
          exact Is.mk
        case ha35 =>
          simp only [go_sem, simprocAttr, hw29, hxs_327]
          exact Is.mk
        case hb35 =>
          simp only [go_sem, simprocAttr, hw29, hxs_327]
          exact Is.mk
        case hp35 =>
          simp only [go_sem, simprocAttr, hw29, hxs_327]
          exact Is.mk
        case hok35 =>
          simp only [go_sem, simprocAttr, hw29, hxs_327]
        case hf35 =>
          simp only [go_sem, simprocAttr, hw29, hxs_327]
          exact Is.mk
        simp only [go_sem, simprocAttr, hw29, hxs_327]
        first
          | refine hK32 _ _ ?_
          | refine ⟨by first | exact sd, hK32 _ _ ?_⟩
        refine Wp.seqR fun K36 hK36 => ?_
        simp only [go_sem, simprocAttr, hw29, hxs_327]
        first
          | refine hK36 _ _ ?_
          | refine ⟨by first | exact sd, hK36 _ _ ?_⟩
        refine Wp.cond rfl ⟨⟩ (fun hc37 => ?_) (fun hc37 => ?_)
        · have hm := brT hm (by first | exact hc37 | simpa using hc37)
          refine Wp.seqR fun K38 hK38 => ?_
          simp only [go_sem, simprocAttr, hw29, hxs_327]
          first
            | refine hK38 _ _ ?_
            | refine ⟨by first | exact sd, hK38 _ _ ?_⟩
          refine Wp.ret ?_
          simp only [thenQ, blockQ]
          refine retQ_ret ?_
          cases hm
          simp only [go_sem, simprocAttr, hw29, hxs_327]
          try simp [encB, encI_i64, encI_u8, encS, enc_api_File, enc_api_Machine, enc_api_Service, enc_api_Setting, List.map_set, List.map_replicate]
        · have hm := brF hm (by first | exact hc37 | simpa using hc37)
          refine Wp.skip ?_
          simp only [thenQ, blockQ, ↓reduceIte]
          refine hK30 _ _ ?_
          refine Wp.region fun K39 hK39 => ?_
          simp only [go_sem, simprocAttr, hw29, hxs_327]
          first
            | refine hK39 _ _ ?_
            | refine ⟨by first | exact sd, hK39 _ _ ?_⟩
          simp only [thenQ, blockQ, ↓reduceIte]
          refine ⟨r_329.2, hlt29, hnx_324 _ hm, ?_⟩
          simp only [go_sem, simprocAttr, hw29, hxs_327]
          try simp [encB, encI_i64, encI_u8, encS, enc_api_File, enc_api_Machine, enc_api_Service, enc_api_Setting, List.map_set, List.map_replicate]
      clear hK10 hk_247
      refine Wp.seqR fun K40 hK40 => ?_
      simp only [go_sem, simprocAttr]
      first
        | refine hK40 _ _ ?_
        | refine ⟨by first | exact sd, hK40 _ _ ?_⟩
      refine Wp.block ?_
      obtain ⟨k_469, hk_469, hm⟩ := forL_cont hm
      refine Wp.fact 73 fun hl_472 => ?_
      replace hl_472 : m_1.Files.length ≤ 274877906944 := by
        simp only [go_sem, simprocAttr, List.length_map] at hl_472
        omega
      refine Wp.forL (fun i_471 s => [(1, .ptr 0 0), (4, .fn 35 [.ptr 1 0]), (8, .mp 2), (73, .p (.l (List.map enc_api_File m_1.Files))), (74, .p (.i .i64 (m_1.Files.length : Int))), (75, .p (.i .i64 (i_471 : Int)))]) (fun i_471 s => [.cells 26 [.p (.l (List.map enc_api_Setting m_1.Facts)), .p (.l (List.map enc_api_File m_1.Files)), .p (.l (List.map enc_api_Setting m_1.Settings)), .p (.l (List.map enc_api_Service m_1.Services))], .cells 9 [.p (.s s.1)], .mp false (encM Dt.s encB s.2)]) ?_ hm ?_
      ·
        simp only [go_sem, simprocAttr]
        try simp [encB, encI_i64, encI_u8, encS, enc_api_File, enc_api_Machine, enc_api_Service, enc_api_Setting, List.map_set, List.map_replicate]
      clear hm
      intro i_471 s hii_471 hm
      obtain ⟨o1_0_400, m2_401⟩ := s
      try dsimp only at hm
      try dsimp only
      refine Wp.seqR fun K41 hK41 => ?_
      simp only [go_sem, simprocAttr]
      first
        | refine hK41 _ _ ?_
        | refine ⟨by first | exact sd, hK41 _ _ ?_⟩
      refine Wp.seqW fun K42 hK42 hW42 => ?_
      refine Wp.cond rfl ⟨⟩ (fun hc42 => ?_) (fun hc42 => ?_)
      rotate_left
      · refine Wp.exit ?_
        have hm := hk_469 _ (forL_end hm (ge_nat (by first | exact hc42 | simpa using hc42)))
        try dsimp only at hm
        simp only [thenQ, blockQ, ↓reduceIte]
        refine hW10 _ _ _ _ ?_ (hcut10 o1_0_400 hm)
        simp only [go_sem, simprocAttr]
        try simp [encB, encI_i64, encI_u8, encS, enc_api_File, enc_api_Machine, enc_api_Service, enc_api_Setting, List.map_set, List.map_replicate]
      have hlt42 := lt_nat (by first | exact hc42 | simpa using hc42)
      have hw42 := wrap_succ hlt42 hl_472
      obtain ⟨f_473, nx_470, hxf_473, hyf_473, hnx_470, hm⟩ := forL_step hm hlt42
      replace hxf_473 := hxf_473 enc_api_File
      refine Wp.skip ?_
      simp only [thenQ]
      refine hK42 _ _ ?_
      refine Wp.seqW fun K43 hK43 hW43 => ?_
      obtain ⟨k_506, hk_506, hm⟩ := jp_elim hm
      have hcut43 : ∀ s, k_506 s = some z → K43 [(1, .ptr 0 0), (4, .fn 35 [.ptr 1 0]), (8, .mp 2), (73, .p (.l (List.map enc_api_File m_1.Files))), (74, .p (.i .i64 (m_1.Files.length : Int))), (75, .p (.i .i64 (i_471 : Int)))] [.cells 26 [.p (.l (List.map enc_api_Setting m_1.Facts)), .p (.l (List.map enc_api_File m_1.Files)), .p (.l (List.map enc_api_Setting m_1.Settings)), .p (.l (List.map enc_api_Service m_1.Services))], .cells 9 [.p (.s s)], .mp false (encM Dt.s encB (aset m2_401 f_473.Path true))] := by
        intro o1_0_505 hs
        have hm := hk_506 _ hs
        clear hs
        try dsimp only at hm
        try dsimp only
        refine hK43 _ _ ?_
        refine Wp.region fun K44 hK44 => ?_
        simp only [go_sem, simprocAttr, hw42, hxf_473]
        first
          | refine hK44 _ _ ?_
          | refine ⟨by first | exact sd, hK44 _ _ ?_⟩
        simp only [thenQ, blockQ, ↓reduceIte]
        refine ⟨(o1_0_505, aset m2_401 f_473.Path true), hlt42, hnx_470 _ hm, ?_⟩
        simp only [go_sem, simprocAttr, hw42, hxf_473]
        try simp [encB, encI_i64, encI_u8, encS, enc_api_File, enc_api_Machine, enc_api_Service, enc_api_Setting, List.map_set, List.map_replicate]
      clear hK43 hk_506
      refine Wp.block ?_
      refine Wp.seqR fun K45 hK45 => ?_
      simp only [go_sem, simprocAttr, hw42, hxf_473]
      first
        | refine hK45 _ _ ?_
        | refine ⟨by first | exact sd, hK45 _ _ ?_⟩
      obtain ⟨r_507, hr_507, hm⟩ := call_elim hm
      obtain ⟨r_508, hr_508, hm⟩ := call_elim hm
      obtain ⟨r_509, hr_509, hm⟩ := call_elim hm
      refine Wp.seqD (plan := [(0, none), (1, none), (2, none), (3, none), (4, none), (5, none), (6, some []), (7, some []), (8, none), (9, none)]) (by kernel_rfl) rfl (by kernel_rfl) fun K46 hK46 => ?_
      simp only [go_sem, simprocAttr, hw42, hxf_473]
      try refine ⟨by first | exact sd, ?_⟩
      refine Dr.callF (av := ?av47) (g := true) (o := ?o47) (fun hg => ok_R_fileError f_473 _ hr_507) ?hk47 ?ha47 ?hb47 ?hp47 ?hok47 ?hf47 ?cont47
      case hk47 =>
        simp only [go_sem, simprocAttr, hw42, hxf_473]
        exact Is.mk
      case ha47 =>
        simp only [go_sem, simprocAttr, hw42, hxf_473]
        exact Is.mk
      case hb47 =>
        simp only [go_sem, simprocAttr, hw42, hxf_473]
        exact Is.mk
      case hp47 =>
        simp only [go_sem, simprocAttr, hw42, hxf_473]
        exact Is.mk
      case hok47 =>
        simp only [go_sem, simprocAttr, hw42, hxf_473]
      case hf47 =>
        simp only [go_sem, simprocAttr, hw42, hxf_473]
        exact Is.mk
      simp only [go_sem, simprocAttr, hw42, hxf_473]
      try refine ⟨by first | exact sd, ?_⟩
      refine Dr.callE (av := ?av48) (o := ?o48) [1] (ok_R_Check_1_i1 (i_471 : Int) f_473.Path o1_0_400 _ hr_508) ?hk48 ?hgd48 ?ha48 ?hp48 ?hX48 ?hids48 ?hkp48 ?hok48 ?hag48 ?cont48
      case hk48 =>
        simp only [go_sem, simprocAttr, hw42, hxf_473]
        exact Is.mk
      case hgd48 =>
        simp only [go_sem, simprocAttr, hw42, hxf_473]
        exact Is.mk
      case ha48 =>
        simp only [go_sem, simprocAttr, hw42, hxf_473]
        exact Is.mk
      case hp48 =>
        simp only [go_sem, simprocAttr, hw42, hxf_473]
        exact Is.mk
      case hX48 =>
        simp only [go_sem, simprocAttr, hw42, hxf_473]
        exact Is.mk
      case hids48 => simp only [go_sem, simprocAttr, hw42, hxf_473]
      case hkp48 => simp only [go_sem, simprocAttr, hw42, hxf_473]
      case hok48 => simp only [go_sem, simprocAttr, hw42, hxf_473]
      case hag48 => simp only [go_sem, simprocAttr, hw42, hxf_473]
      simp only [go_sem, simprocAttr, hw42, hxf_473]
      try refine ⟨by first | exact sd, ?_⟩
      refine Dr.callF (av := ?av49) (g := true) (o := ?o49) (fun hg => ok_R_first [r_507, r_508.1] _ hr_509) ?hk49 ?ha49 ?hb49 ?hp49 ?hok49 ?hf49 ?cont49
      case hk49 =>
        simp only [go_sem, simprocAttr, hw42, hxf_473]
        exact Is.mk
      case ha49 =>
        simp only [go_sem, simprocAttr, hw42, hxf_473]
        exact Is.mk
      case hb49 =>
        simp only [go_sem, simprocAttr, hw42, hxf_473]
        exact Is.mk
      case hp49 =>
        simp only [go_sem, simprocAttr, hw42, hxf_473]
        exact Is.mk
      case hok49 =>
        simp only [go_sem, simprocAttr, hw42, hxf_473]
      case hf49 =>
        simp only [go_sem, simprocAttr, hw42, hxf_473]
        exact Is.mk
      simp only [go_sem, simprocAttr, hw42, hxf_473]
      first
        | refine hK46 _ _ ?_
        | refine ⟨by first | exact sd, hK46 _ _ ?_⟩
      refine Wp.seqW fun K50 hK50 hW50 => ?_
      obtain ⟨k_523, hk_523, hm⟩ := jp_elim hm
      have hcut50 : ∀ s, k_523 s = some z → K50 [(1, .ptr 0 0), (4, .fn 35 [.ptr 1 0]), (8, .mp 2), (10, .ptr 3 0), (11, .p (.i .i64 s)), (73, .p (.l (List.map enc_api_File m_1.Files))), (74, .p (.i .i64 (m_1.Files.length : Int))), (75, .p (.i .i64 (i_471 : Int)))] [.cells 26 [.p (.l (List.map enc_api_Setting m_1.Facts)), .p (.l (List.map enc_api_File m_1.Files)), .p (.l (List.map enc_api_Setting m_1.Settings)), .p (.l (List.map enc_api_Service m_1.Services))], .cells 9 [.p (.s r_508.2)], .mp false (encM Dt.s encB m2_401), .cells 49 [.p (.s f_473.Path), .p (.s f_473.Data), .p (.b f_473.Runs)]] := by
        intro e_522 hs
        have hm := hk_523 _ hs
        clear hs
        try dsimp only at hm
        try dsimp only
        refine hK50 _ _ ?_
        refine Wp.seqW fun K51 hK51 hW51 => ?_
        refine Wp.seqR fun K52 hK52 => ?_
        simp only [go_sem, simprocAttr, hw42, hxf_473]
        first
          | refine hK52 _ _ ?_
          | refine ⟨by first | exact sd, hK52 _ _ ?_⟩
        refine Wp.cond rfl ⟨⟩ (fun hc53 => ?_) (fun hc53 => ?_)
        · have hm := brT hm (by first | exact hc53 | simpa using hc53)
          refine Wp.seqR fun K54 hK54 => ?_
          simp only [go_sem, simprocAttr, hw42, hxf_473]
          first
            | refine hK54 _ _ ?_
            | refine ⟨by first | exact sd, hK54 _ _ ?_⟩
          refine Wp.ret ?_
          simp only [thenQ, blockQ]
          refine retQ_ret ?_
          cases hm
          simp only [go_sem, simprocAttr, hw42, hxf_473]
          try simp [encB, encI_i64, encI_u8, encS, enc_api_File, enc_api_Machine, enc_api_Service, enc_api_Setting, List.map_set, List.map_replicate]
        · have hm := brF hm (by first | exact hc53 | simpa using hc53)
          refine Wp.skip ?_
          simp only [thenQ, blockQ, ↓reduceIte]
          refine hK51 _ _ ?_
          obtain ⟨c_525, hm⟩ := chk_elim hm
          have hp_524 := mset_enc (e := encB) keq_s m2_401 f_473.Path true
          simp only [encB] at hp_524
          refine Wp.region fun K55 hK55 => ?_
          simp only [go_sem, simprocAttr, hw42, hxf_473, hp_524]
          first
            | refine hK55 _ _ ?_
            | refine ⟨by first | exact sd | ((repeat' apply And.intro) <;> first | assumption | omega | (simp only [List.length_append, List.length_map, List.length_cons, List.length_nil, List.length_set, List.length_replicate] at c_525 ⊢; omega)), hK55 _ _ ?_⟩
          simp only [thenQ, blockQ, ↓reduceIte]
          refine hW43 _ _ _ _ ?_ (hcut43 r_508.2 hm)
          simp only [go_sem, simprocAttr, hw42, hxf_473]
          try simp [encB, encI_i64, encI_u8, encS, enc_api_File, enc_api_Machine, enc_api_Service, enc_api_Setting, List.map_set, List.map_replicate]
      clear hK50 hk_523
      refine Wp.seqR fun K56 hK56 => ?_
      simp only [go_sem, simprocAttr, hw42, hxf_473]
      first
        | refine hK56 _ _ ?_
        | refine ⟨by first | exact sd, hK56 _ _ ?_⟩
      refine Wp.cond rfl ⟨⟩ (fun hc57 => ?_) (fun hc57 => ?_)
      · have hm := brT hm (by first | exact hc57 | simpa using hc57)
        refine Wp.seqR fun K58 hK58 => ?_
        simp only [go_sem, simprocAttr, hw42, hxf_473]
        first
          | refine hK58 _ _ ?_
          | refine ⟨by first | exact sd, hK58 _ _ ?_⟩
        refine Wp.block ?_
        obtain ⟨k_532, hk_532, hm⟩ := loopN_cont hm
        refine Wp.loopN (fun s => [(1, .ptr 0 0), (4, .fn 35 [.ptr 1 0]), (8, .mp 2), (10, .ptr 3 0), (11, .p (.i .i64 s.1)), (73, .p (.l (List.map enc_api_File m_1.Files))), (74, .p (.i .i64 (m_1.Files.length : Int))), (75, .p (.i .i64 (i_471 : Int))), (93, .p (.i .i64 (f_473.Path.length : Int))), (94, .p (.i .i64 s.2))]) (fun s => [.cells 26 [.p (.l (List.map enc_api_Setting m_1.Facts)), .p (.l (List.map enc_api_File m_1.Files)), .p (.l (List.map enc_api_Setting m_1.Settings)), .p (.l (List.map enc_api_Service m_1.Services))], .cells 9 [.p (.s r_508.2)], .mp false (encM Dt.s encB m2_401), .cells 49 [.p (.s f_473.Path), .p (.s f_473.Data), .p (.b f_473.Runs)]]) ?_ hm ?_
        ·
          simp only [go_sem, simprocAttr, hw42, hxf_473]
          try simp [encB, encI_i64, encI_u8, encS, enc_api_File, enc_api_Machine, enc_api_Service, enc_api_Setting, List.map_set, List.map_replicate]
        clear hm
        intro s nx_533 hm
        obtain ⟨e_526, t94_527⟩ := s
        try dsimp only at hm
        try dsimp only
        refine Wp.seqR fun K59 hK59 => ?_
        simp only [go_sem, simprocAttr, hw42, hxf_473]
        first
          | refine hK59 _ _ ?_
          | refine ⟨by first | exact sd, hK59 _ _ ?_⟩
        refine Wp.seqW fun K60 hK60 hW60 => ?_
        refine Wp.cond rfl ⟨⟩ (fun hc61 => ?_) (fun hc61 => ?_)
        · have hm := brT hm (by first | exact hc61 | simpa using hc61)
          refine Wp.skip ?_
          simp only [thenQ, blockQ, ↓reduceIte]
          refine hK60 _ _ ?_
          refine Wp.seqW fun K62 hK62 hW62 => ?_
          refine Wp.block ?_
          refine Wp.seqR fun K63 hK63 => ?_
          simp only [go_sem, simprocAttr, hw42, hxf_473]
          first
            | refine hK63 _ _ ?_
            | refine ⟨by first | exact sd, hK63 _ _ ?_⟩
          obtain ⟨c_534, hbc_534, hxc_534, hm⟩ := idxS_elim hm
          replace hxc_534 : ((f_473.Path.getD t94_527.toNat 0).toNat : Int) = c_534 := hxc_534
          obtain ⟨c_535, hm⟩ := chk_elim hm
          obtain ⟨q_536, hq_537, hm⟩ := letv_elim hm
          have hq_537d := mlookD_enc (e := encB) keq_s m2_401 (List.take t94_527.toNat f_473.Path) false
          have hq_537s := mlook_some (e := encB) keq_s m2_401 (List.take t94_527.toNat f_473.Path)
          simp only [hq_537, encB, List.map_nil] at hq_537d hq_537s
          refine Wp.seqR fun K64 hK64 => ?_
          simp only [go_sem, simprocAttr, hw42, hxf_473, hxc_534, hq_537d, hq_537s]
          first
            | refine hK64 _ _ ?_
            | refine ⟨by first | exact sd | ((repeat' apply And.intro) <;> first | assumption | omega | (simp only [List.length_append, List.length_map, List.length_cons, List.length_nil, List.length_set, List.length_replicate] at c_535 ⊢; omega)), hK64 _ _ ?_⟩
          refine Wp.cond rfl ⟨⟩ (fun hc65 => ?_) (fun hc65 => ?_)
          · have hm := brT hm (by first | exact hc65 | simpa using hc65)
            refine Wp.region fun K66 hK66 => ?_
            simp only [go_sem, simprocAttr, hw42, hxf_473, hxc_534]
            first
              | refine hK66 _ _ ?_
              | refine ⟨by first | exact sd, hK66 _ _ ?_⟩
            simp only [thenQ, blockQ, ↓reduceIte]
            refine hK62 _ _ ?_
            refine Wp.region fun K67 hK67 => ?_
            simp only [go_sem, simprocAttr, hw42, hxf_473, hxc_534]
            first
              | refine hK67 _ _ ?_
              | refine ⟨by first | exact sd, hK67 _ _ ?_⟩
            simp only [thenQ, blockQ, ↓reduceIte]
            refine ⟨(11, IntKind.i64.wrap (t94_527 + 1)), hm, ?_⟩
            simp only [go_sem, simprocAttr, hw42, hxf_473, hxc_534]
            try simp [encB, encI_i64, encI_u8, encS, enc_api_File, enc_api_Machine, enc_api_Service, enc_api_Setting, List.map_set, List.map_replicate]
          · have hm := brF hm (by first | exact hc65 | simpa using hc65)
            refine Wp.skip ?_
            simp only [thenQ, blockQ, ↓reduceIte]
            refine hK62 _ _ ?_
            refine Wp.region fun K68 hK68 => ?_
            simp only [go_sem, simprocAttr, hw42, hxf_473, hxc_534]
            first
              | refine hK68 _ _ ?_
              | refine ⟨by first | exact sd, hK68 _ _ ?_⟩
            simp only [thenQ, blockQ, ↓reduceIte]
            refine ⟨(e_526, IntKind.i64.wrap (t94_527 + 1)), hm, ?_⟩
            simp only [go_sem, simprocAttr, hw42, hxf_473, hxc_534]
            try simp [encB, encI_i64, encI_u8, encS, enc_api_File, enc_api_Machine, enc_api_Service, enc_api_Setting, List.map_set, List.map_replicate]
        · have hm := brF hm (by first | exact hc61 | simpa using hc61)
          refine Wp.exit ?_
          simp only [thenQ, blockQ, ↓reduceIte]
          have hm := hk_532 _ hm
          try dsimp only at hm
          refine hW50 _ _ _ _ ?_ (hcut50 e_526 hm)
          simp only [go_sem, simprocAttr, hw42, hxf_473]
          try simp [encB, encI_i64, encI_u8, encS, enc_api_File, enc_api_Machine, enc_api_Service, enc_api_Setting, List.map_set, List.map_replicate]
      · have hm := brF hm (by first | exact hc57 | simpa using hc57)
        refine Wp.skip ?_
        simp only [thenQ, blockQ, ↓reduceIte]
        refine hW50 _ _ _ _ ?_ (hcut50 r_509 hm)
        simp only [go_sem, simprocAttr, hw42, hxf_473]
        try simp [encB, encI_i64, encI_u8, encS, enc_api_File, enc_api_Machine, enc_api_Service, enc_api_Setting, List.map_set, List.map_replicate]
    clear hK8 hk_36
    refine Wp.seqR fun K69 hK69 => ?_
    simp only [go_sem, simprocAttr]
    first
      | refine hK69 _ _ ?_
      | refine ⟨by first | exact sd, hK69 _ _ ?_⟩
    refine Wp.block ?_
    obtain ⟨k_555, hk_555, hm⟩ := forL_cont hm
    refine Wp.fact 43 fun hl_558 => ?_
    replace hl_558 : m_1.Facts.length ≤ 274877906944 := by
      simp only [go_sem, simprocAttr, List.length_map] at hl_558
      omega
    refine Wp.forL (fun i_557 s => [(1, .ptr 0 0), (4, .fn 35 [.ptr 1 0]), (43, .p (.l (List.map enc_api_Setting m_1.Facts))), (44, .p (.i .i64 (m_1.Facts.length : Int))), (45, .p (.i .i64 (i_557 : Int)))]) (fun i_557 s => [.cells 26 [.p (.l (List.map enc_api_Setting m_1.Facts)), .p (.l (List.map enc_api_File m_1.Files)), .p (.l (List.map enc_api_Setting m_1.Settings)), .p (.l (List.map enc_api_Service m_1.Services))], .cells 9 [.p (.s s)]]) ?_ hm ?_
    ·
      simp only [go_sem, simprocAttr]
      try simp [encB, encI_i64, encI_u8, encS, enc_api_File, enc_api_Machine, enc_api_Service, enc_api_Setting, List.map_set, List.map_replicate]
    clear hm
    intro i_557 o1_0_547 hii_557 hm
    try dsimp only at hm
    try dsimp only
    refine Wp.seqR fun K70 hK70 => ?_
    simp only [go_sem, simprocAttr]
    first
      | refine hK70 _ _ ?_
      | refine ⟨by first | exact sd, hK70 _ _ ?_⟩
    refine Wp.seqW fun K71 hK71 hW71 => ?_
    refine Wp.cond rfl ⟨⟩ (fun hc71 => ?_) (fun hc71 => ?_)
    rotate_left
    · refine Wp.exit ?_
      have hm := hk_555 _ (forL_end hm (ge_nat (by first | exact hc71 | simpa using hc71)))
      try dsimp only at hm
      simp only [thenQ, blockQ, ↓reduceIte]
      refine hW8 _ _ _ _ ?_ (hcut8 o1_0_547 hm)
      simp only [go_sem, simprocAttr]
      try simp [encB, encI_i64, encI_u8, encS, enc_api_File, enc_api_Machine, enc_api_Service, enc_api_Setting, List.map_set, List.map_replicate]
    have hlt71 := lt_nat (by first | exact hc71 | simpa using hc71)
    have hw71 := wrap_succ hlt71 hl_558
    obtain ⟨s_559, nx_556, hxs_559, hys_559, hnx_556, hm⟩ := forL_step hm hlt71
    replace hxs_559 := hxs_559 enc_api_Setting
    refine Wp.skip ?_
    simp only [thenQ]
    refine hK71 _ _ ?_
    refine Wp.seqW fun K72 hK72 hW72 => ?_
    refine Wp.block ?_
    refine Wp.seqR fun K73 hK73 => ?_
    simp only [go_sem, simprocAttr, hw71, hxs_559]
    first
      | refine hK73 _ _ ?_
      | refine ⟨by first | exact sd, hK73 _ _ ?_⟩
    obtain ⟨r_560, hr_560, hm⟩ := call_elim hm
    obtain ⟨r_561, hr_561, hm⟩ := call_elim hm
    obtain ⟨r_562, hr_562, hm⟩ := call_elim hm
    obtain ⟨r_563, hr_563, hm⟩ := call_elim hm
    obtain ⟨r_564, hr_564, hm⟩ := call_elim hm
    obtain ⟨r_565, hr_565, hm⟩ := call_elim hm
    refine Wp.seqD (plan := [(0, none), (1, none), (2, none), (3, none), (4, none), (5, none), (6, none), (7, none), (8, none), (9, none), (10, none), (11, none), (12, none), (13, none), (14, some []), (15, some []), (16, none), (17, none)]) (by kernel_rfl) rfl (by kernel_rfl) fun K74 hK74 => ?_
    simp only [go_sem, simprocAttr, hw71, hxs_559]
    try refine ⟨by first | exact sd, ?_⟩
    refine Dr.callF (av := ?av75) (g := true) (o := ?o75) (fun hg => ok_R_IsName s_559.Key _ hr_560) ?hk75 ?ha75 ?hb75 ?hp75 ?hok75 ?hf75 ?cont75
    case hk75 =>
      simp only [go_sem, simprocAttr, hw71, hxs_559]
      exact Is.mk
    case ha75 =>
      simp only [go_sem, simprocAttr, hw71, hxs_559]
      exact Is.mk
    case hb75 =>
      simp only [go_sem, simprocAttr, hw71, hxs_559]
      exact Is.mk
    case hp75 =>
      simp only [go_sem, simprocAttr, hw71, hxs_559]
      exact Is.mk
    case hok75 =>
      simp only [go_sem, simprocAttr, hw71, hxs_559]
    case hf75 =>
      simp only [go_sem, simprocAttr, hw71, hxs_559]
      exact Is.mk
    simp only [go_sem, simprocAttr, hw71, hxs_559]
    try refine ⟨by first | exact sd, ?_⟩
    refine Dr.callF (av := ?av76) (g := true) (o := ?o76) (fun hg => ok_R_when (!r_560) 5 _ hr_561) ?hk76 ?ha76 ?hb76 ?hp76 ?hok76 ?hf76 ?cont76
    case hk76 =>
      simp only [go_sem, simprocAttr, hw71, hxs_559]
      exact Is.mk
    case ha76 =>
      simp only [go_sem, simprocAttr, hw71, hxs_559]
      exact Is.mk
    case hb76 =>
      simp only [go_sem, simprocAttr, hw71, hxs_559]
      exact Is.mk
    case hp76 =>
      simp only [go_sem, simprocAttr, hw71, hxs_559]
      exact Is.mk
    case hok76 =>
      simp only [go_sem, simprocAttr, hw71, hxs_559]
    case hf76 =>
      simp only [go_sem, simprocAttr, hw71, hxs_559]
      exact Is.mk
    simp only [go_sem, simprocAttr, hw71, hxs_559]
    try refine ⟨by first | exact sd, ?_⟩
    refine Dr.callF (av := ?av77) (g := true) (o := ?o77) (fun hg => ok_R_IsValue s_559.Value _ hr_562) ?hk77 ?ha77 ?hb77 ?hp77 ?hok77 ?hf77 ?cont77
    case hk77 =>
      simp only [go_sem, simprocAttr, hw71, hxs_559]
      exact Is.mk
    case ha77 =>
      simp only [go_sem, simprocAttr, hw71, hxs_559]
      exact Is.mk
    case hb77 =>
      simp only [go_sem, simprocAttr, hw71, hxs_559]
      exact Is.mk
    case hp77 =>
      simp only [go_sem, simprocAttr, hw71, hxs_559]
      exact Is.mk
    case hok77 =>
      simp only [go_sem, simprocAttr, hw71, hxs_559]
    case hf77 =>
      simp only [go_sem, simprocAttr, hw71, hxs_559]
      exact Is.mk
    simp only [go_sem, simprocAttr, hw71, hxs_559]
    try refine ⟨by first | exact sd, ?_⟩
    refine Dr.callF (av := ?av78) (g := true) (o := ?o78) (fun hg => ok_R_when (!r_562) 2 _ hr_563) ?hk78 ?ha78 ?hb78 ?hp78 ?hok78 ?hf78 ?cont78
    case hk78 =>
      simp only [go_sem, simprocAttr, hw71, hxs_559]
      exact Is.mk
    case ha78 =>
      simp only [go_sem, simprocAttr, hw71, hxs_559]
      exact Is.mk
    case hb78 =>
      simp only [go_sem, simprocAttr, hw71, hxs_559]
      exact Is.mk
    case hp78 =>
      simp only [go_sem, simprocAttr, hw71, hxs_559]
      exact Is.mk
    case hok78 =>
      simp only [go_sem, simprocAttr, hw71, hxs_559]
    case hf78 =>
      simp only [go_sem, simprocAttr, hw71, hxs_559]
      exact Is.mk
    simp only [go_sem, simprocAttr, hw71, hxs_559]
    try refine ⟨by first | exact sd, ?_⟩
    refine Dr.callE (av := ?av79) (o := ?o79) [1] (ok_R_Check_1_i1 (i_557 : Int) s_559.Key o1_0_547 _ hr_564) ?hk79 ?hgd79 ?ha79 ?hp79 ?hX79 ?hids79 ?hkp79 ?hok79 ?hag79 ?cont79
    case hk79 =>
      simp only [go_sem, simprocAttr, hw71, hxs_559]
      exact Is.mk
    case hgd79 =>
      simp only [go_sem, simprocAttr, hw71, hxs_559]
      exact Is.mk
    case ha79 =>
      simp only [go_sem, simprocAttr, hw71, hxs_559]
      exact Is.mk
    case hp79 =>
      simp only [go_sem, simprocAttr, hw71, hxs_559]
      exact Is.mk
    case hX79 =>
      simp only [go_sem, simprocAttr, hw71, hxs_559]
      exact Is.mk
    case hids79 => simp only [go_sem, simprocAttr, hw71, hxs_559]
    case hkp79 => simp only [go_sem, simprocAttr, hw71, hxs_559]
    case hok79 => simp only [go_sem, simprocAttr, hw71, hxs_559]
    case hag79 => simp only [go_sem, simprocAttr, hw71, hxs_559]
    simp only [go_sem, simprocAttr, hw71, hxs_559]
    try refine ⟨by first | exact sd, ?_⟩
    refine Dr.callF (av := ?av80) (g := true) (o := ?o80) (fun hg => ok_R_first [r_561, r_563, r_564.1] _ hr_565) ?hk80 ?ha80 ?hb80 ?hp80 ?hok80 ?hf80 ?cont80
    case hk80 =>
      simp only [go_sem, simprocAttr, hw71, hxs_559]
      exact Is.mk
    case ha80 =>
      simp only [go_sem, simprocAttr, hw71, hxs_559]
      exact Is.mk
    case hb80 =>
      simp only [go_sem, simprocAttr, hw71, hxs_559]
      exact Is.mk
    case hp80 =>
      simp only [go_sem, simprocAttr, hw71, hxs_559]
      exact Is.mk
    case hok80 =>
      simp only [go_sem, simprocAttr, hw71, hxs_559]
    case hf80 =>
      simp only [go_sem, simprocAttr, hw71, hxs_559]
      exact Is.mk
    simp only [go_sem, simprocAttr, hw71, hxs_559]
    first
      | refine hK74 _ _ ?_
      | refine ⟨by first | exact sd, hK74 _ _ ?_⟩
    refine Wp.seqR fun K81 hK81 => ?_
    simp only [go_sem, simprocAttr, hw71, hxs_559]
    first
      | refine hK81 _ _ ?_
      | refine ⟨by first | exact sd, hK81 _ _ ?_⟩
    refine Wp.cond rfl ⟨⟩ (fun hc82 => ?_) (fun hc82 => ?_)
    · have hm := brT hm (by first | exact hc82 | simpa using hc82)
      refine Wp.seqR fun K83 hK83 => ?_
      simp only [go_sem, simprocAttr, hw71, hxs_559]
      first
        | refine hK83 _ _ ?_
        | refine ⟨by first | exact sd, hK83 _ _ ?_⟩
      refine Wp.ret ?_
      simp only [thenQ, blockQ]
      refine retQ_ret ?_
      cases hm
      simp only [go_sem, simprocAttr, hw71, hxs_559]
      try simp [encB, encI_i64, encI_u8, encS, enc_api_File, enc_api_Machine, enc_api_Service, enc_api_Setting, List.map_set, List.map_replicate]
    · have hm := brF hm (by first | exact hc82 | simpa using hc82)
      refine Wp.skip ?_
      simp only [thenQ, blockQ, ↓reduceIte]
      refine hK72 _ _ ?_
      refine Wp.region fun K84 hK84 => ?_
      simp only [go_sem, simprocAttr, hw71, hxs_559]
      first
        | refine hK84 _ _ ?_
        | refine ⟨by first | exact sd, hK84 _ _ ?_⟩
      simp only [thenQ, blockQ, ↓reduceIte]
      refine ⟨r_564.2, hlt71, hnx_556 _ hm, ?_⟩
      simp only [go_sem, simprocAttr, hw71, hxs_559]
      try simp [encB, encI_i64, encI_u8, encS, enc_api_File, enc_api_Machine, enc_api_Service, enc_api_Setting, List.map_set, List.map_replicate]
set_option maxRecDepth 100000 in
set_option maxHeartbeats 4000000 in
theorem ok_ver_IsValue_1 (c_1 : Int) (z : Bool) (hm : ver_IsValue_1 c_1 = some z) : Does Tryd.prog 120 [.p (.i .u8 c_1)] [] (fun r X => r = .p (.b z) ∧ X = []) := by
  unfold ver_IsValue_1 at hm
  refine Does.of_wp 0 9 [.tmp 2] Tryd.func120 rfl (by decide) rfl rfl (Nat.le_of_ble_eq_true rfl) fun B => ?_
  refine Wp.seqR fun K1 hK1 => ?_
  simp only [go_sem, simprocAttr]
  first
    | refine hK1 _ _ ?_
    | refine ⟨by first | exact sd, hK1 _ _ ?_⟩
  refine Wp.seqR fun K2 hK2 => ?_
  simp only [go_sem, simprocAttr]
  first
    | refine hK2 _ _ ?_
    | refine ⟨by first | exact sd, hK2 _ _ ?_⟩
  refine Wp.ret ?_
  refine retQ_ret ?_
  cases hm
  simp only [go_sem, simprocAttr]
  try simp [encB, encI_i64, encI_u8, encS, enc_api_File, enc_api_Machine, enc_api_Service, enc_api_Setting, List.map_set, List.map_replicate]
set_option maxRecDepth 100000 in
set_option maxHeartbeats 4000000 in
theorem ok_ver_each_i2 (s_1 : Str) (most_2 : Int) (z : Bool) (hm : ver_each_i2 s_1 most_2 = some z) : Does Tryd.prog 97 [.p (.s s_1), .p (.i .i64 most_2), .fn 120 []] [] (fun r X => r = .p (.b z) ∧ X = []) := by
  unfold ver_each_i2 at hm
  refine Does.of_wp 0 28 [.tmp 6] Tryd.func97 rfl (by decide) rfl rfl (Nat.le_of_ble_eq_true rfl) fun B => ?_
  refine Wp.seqR fun K1 hK1 => ?_
  simp only [go_sem, simprocAttr]
  first
    | refine hK1 _ _ ?_
    | refine ⟨by first | exact sd, hK1 _ _ ?_⟩
  refine Wp.seqW fun K2 hK2 hW2 => ?_
  obtain ⟨k_12, hk_12, hm⟩ := jp_elim hm
  have hcut2 : ∀ s, k_12 s = some z → K2 [(0, .p (.s s_1)), (1, .p (.i .i64 most_2))] [] := by
    intro s hs
    have hm := hk_12 _ hs
    clear hs
    try dsimp only at hm
    try dsimp only
    refine hK2 _ _ ?_
    refine Wp.seqR fun K3 hK3 => ?_
    simp only [go_sem, simprocAttr]
    first
      | refine hK3 _ _ ?_
      | refine ⟨by first | exact sd, hK3 _ _ ?_⟩
    refine Wp.ret ?_
    refine retQ_ret ?_
    cases hm
    simp only [go_sem, simprocAttr]
    try simp [encB, encI_i64, encI_u8, encS, enc_api_File, enc_api_Machine, enc_api_Service, enc_api_Setting, List.map_set, List.map_replicate]
  clear hK2 hk_12
  refine Wp.seqR fun K4 hK4 => ?_
  simp only [go_sem, simprocAttr]
  first
    | refine hK4 _ _ ?_
    | refine ⟨by first | exact sd, hK4 _ _ ?_⟩
  refine Wp.block ?_
  obtain ⟨k_16, hk_16, hm⟩ := forL_cont hm
  refine Wp.fact 0 fun hl_19 => ?_
  replace hl_19 : s_1.length ≤ 274877906944 := by
    simp only [go_sem, simprocAttr, List.length_map] at hl_19
    omega
  refine Wp.forL (fun i_18 s => [(0, .p (.s s_1)), (1, .p (.i .i64 most_2)), (2, .fn 120 []), (7, .p (.i .i64 (i_18 : Int)))]) (fun i_18 s => []) ?_ hm ?_
  ·
    simp only [go_sem, simprocAttr]
    try simp [encB, encI_i64, encI_u8, encS, enc_api_File, enc_api_Machine, enc_api_Service, enc_api_Setting, List.map_set, List.map_replicate]
  clear hm
  intro i_18 s hii_18 hm
  try dsimp only at hm
  try dsimp only
  refine Wp.seqW fun K5 hK5 hW5 => ?_
  refine Wp.seqR fun K6 hK6 => ?_
  simp only [go_sem, simprocAttr]
  first
    | refine hK6 _ _ ?_
    | refine ⟨by first | exact sd, hK6 _ _ ?_⟩
  refine Wp.cond rfl ⟨⟩ (fun hc5 => ?_) (fun hc5 => ?_)
  rotate_left
  · refine Wp.exit ?_
    have hm := hk_16 _ (forL_end hm (ge_nat (by first | exact hc5 | simpa using hc5)))
    try dsimp only at hm
    simp only [thenQ, blockQ, ↓reduceIte]
    refine hW2 _ _ _ _ ?_ (hcut2 () hm)
    simp only [go_sem, simprocAttr]
    try simp [encB, encI_i64, encI_u8, encS, enc_api_File, enc_api_Machine, enc_api_Service, enc_api_Setting, List.map_set, List.map_replicate]
  have hlt5 := lt_nat (by first | exact hc5 | simpa using hc5)
  have hw5 := wrap_succ hlt5 hl_19
  obtain ⟨c_20, nx_17, hxc_20, hyc_20, hnx_17, hm⟩ := forL_step hm hlt5
  clear hxc_20
  refine Wp.skip ?_
  simp only [thenQ]
  refine hK5 _ _ ?_
  refine Wp.seqW fun K7 hK7 hW7 => ?_
  refine Wp.block ?_
  obtain ⟨r_21, hr_21, hm⟩ := call_elim hm
  refine Wp.seqR fun K8 hK8 => ?_
  simp only [go_sem, simprocAttr, hw5, hyc_20]
  try refine ⟨by first | exact sd, ?_⟩
  refine Rg.callX (av := ?av9) (g := true) (fun hg => ok_ver_IsValue_1 (c_20.toNat : Int) _ hr_21) ?ha9 ?hb9 ?hp9 ?hok9 ?hf9 ?cont9
  case ha9 =>
    simp only [go_sem, simprocAttr, hw5, hyc_20]
    exact Is.mk
  case hb9 =>
    simp only [go_sem, simprocAttr, hw5, hyc_20]
    exact Is.mk
  case hp9 =>
    simp only [go_sem, simprocAttr, hw5, hyc_20]
    exact Is.mk
  case hok9 =>
    simp only [go_sem, simprocAttr, hw5, hyc_20]
  case hf9 =>
    simp only [go_sem, simprocAttr, hw5, hyc_20]
    exact Is.mk
  intro hv9
  simp only [go_sem, simprocAttr, hw5, hyc_20]
  first
    | refine hK8 _ _ ?_
    | refine ⟨by first | exact sd, hK8 _ _ ?_⟩
  refine Wp.cond rfl ⟨⟩ (fun hc10 => ?_) (fun hc10 => ?_)
  · have hm := brT hm (by first | exact hc10 | simpa using hc10)
    refine Wp.seqR fun K11 hK11 => ?_
    simp only [go_sem, simprocAttr, hw5, hyc_20]
    first
      | refine hK11 _ _ ?_
      | refine ⟨by first | exact sd, hK11 _ _ ?_⟩
    refine Wp.ret ?_
    simp only [thenQ, blockQ]
    refine retQ_ret ?_
    cases hm
    simp only [go_sem, simprocAttr, hw5, hyc_20]
    try simp [encB, encI_i64, encI_u8, encS, enc_api_File, enc_api_Machine, enc_api_Service, enc_api_Setting, List.map_set, List.map_replicate]
  · have hm := brF hm (by first | exact hc10 | simpa using hc10)
    refine Wp.skip ?_
    simp only [thenQ, blockQ, ↓reduceIte]
    refine hK7 _ _ ?_
    refine Wp.region fun K12 hK12 => ?_
    simp only [go_sem, simprocAttr, hw5, hyc_20]
    first
      | refine hK12 _ _ ?_
      | refine ⟨by first | exact sd, hK12 _ _ ?_⟩
    simp only [thenQ, blockQ, ↓reduceIte]
    refine ⟨(), hlt5, hnx_17 _ hm, ?_⟩
    simp only [go_sem, simprocAttr, hw5, hyc_20]
    try simp [encB, encI_i64, encI_u8, encS, enc_api_File, enc_api_Machine, enc_api_Service, enc_api_Setting, List.map_set, List.map_replicate]
set_option maxRecDepth 100000 in
set_option maxHeartbeats 4000000 in
theorem ok_ver_IsValue (s_1 : Str) (z : Bool) (hm : ver_IsValue s_1 = some z) : Does Tryd.prog 101 [.p (.s s_1)] [] (fun r X => r = .p (.b z) ∧ X = []) := by
  unfold ver_IsValue at hm
  refine Does.of_wp 0 9 [.tmp 2] Tryd.func101 rfl (by decide) rfl rfl (Nat.le_of_ble_eq_true rfl) fun B => ?_
  refine Wp.seqR fun K1 hK1 => ?_
  simp only [go_sem, simprocAttr]
  first
    | refine hK1 _ _ ?_
    | refine ⟨by first | exact sd, hK1 _ _ ?_⟩
  obtain ⟨r_2, hr_2, hm⟩ := callG_elim hm
  refine Wp.seqR fun K2 hK2 => ?_
  simp only [go_sem, simprocAttr]
  try refine ⟨by first | exact sd, ?_⟩
  refine Rg.callX (av := ?av3) (g := !(decide (s_1 = []))) (fun hg => ok_ver_each_i2 s_1 1000 _ (hr_2 hg)) ?ha3 ?hb3 ?hp3 ?hok3 ?hf3 ?cont3
  case ha3 =>
    simp only [go_sem, simprocAttr]
    exact Is.mk
  case hb3 =>
    simp only [go_sem, simprocAttr]
    exact Is.mk
  case hp3 =>
    simp only [go_sem, simprocAttr]
    exact Is.mk
  case hok3 =>
    simp only [go_sem, simprocAttr]
  case hf3 =>
    simp only [go_sem, simprocAttr]
    exact Is.mk
  intro hv3
  simp only [go_sem, simprocAttr]
  first
    | refine hK2 _ _ ?_
    | refine ⟨by first | exact sd, hK2 _ _ ?_⟩
  refine Wp.ret ?_
  refine retQ_ret ?_
  cases hm
  simp only [go_sem, simprocAttr]
  try simp [encB, encI_i64, encI_u8, encS, enc_api_File, enc_api_Machine, enc_api_Service, enc_api_Setting, List.map_set, List.map_replicate]
set_option maxRecDepth 100000 in
set_option maxHeartbeats 4000000 in
theorem ok_disk_settingFault_i1 (s_1 : api_Setting) (z : Int) (hm : disk_settingFault_i1 s_1 = some z) : Does Tryd.prog 44 [.agg [.p (.s s_1.Key), .p (.s s_1.Value)], .fn 34 []] [] (fun r X => r = .p (.i .i64 z) ∧ X = []) := by
  unfold disk_settingFault_i1 at hm
  refine Does.of_wp 0 14 [.tmp 4] Tryd.func44 rfl (by decide) rfl rfl (Nat.le_of_ble_eq_true rfl) fun B => ?_
  refine Wp.seqR fun K1 hK1 => ?_
  simp only [go_sem, simprocAttr]
  first
    | refine hK1 _ _ ?_
    | refine ⟨by first | exact sd, hK1 _ _ ?_⟩
  refine Wp.seqW fun K2 hK2 hW2 => ?_
  obtain ⟨r_2, hr_2, hm⟩ := call_elim hm
  refine Wp.seqR fun K3 hK3 => ?_
  simp only [go_sem, simprocAttr]
  try refine ⟨by first | exact sd, ?_⟩
  refine Rg.callX (av := ?av4) (g := true) (fun hg => ok_ver_IsName s_1.Key _ hr_2) ?ha4 ?hb4 ?hp4 ?hok4 ?hf4 ?cont4
  case ha4 =>
    simp only [go_sem, simprocAttr]
    exact Is.mk
  case hb4 =>
    simp only [go_sem, simprocAttr]
    exact Is.mk
  case hp4 =>
    simp only [go_sem, simprocAttr]
    exact Is.mk
  case hok4 =>
    simp only [go_sem, simprocAttr]
  case hf4 =>
    simp only [go_sem, simprocAttr]
    exact Is.mk
  intro hv4
  simp only [go_sem, simprocAttr]
  first
    | refine hK3 _ _ ?_
    | refine ⟨by first | exact sd, hK3 _ _ ?_⟩
  refine Wp.cond rfl ⟨⟩ (fun hc5 => ?_) (fun hc5 => ?_)
  · have hm := brT hm (by first | exact hc5 | simpa using hc5)
    refine Wp.seqR fun K6 hK6 => ?_
    simp only [go_sem, simprocAttr]
    first
      | refine hK6 _ _ ?_
      | refine ⟨by first | exact sd, hK6 _ _ ?_⟩
    refine Wp.ret ?_
    simp only [thenQ, blockQ]
    refine retQ_ret ?_
    cases hm
    simp only [go_sem, simprocAttr]
    try simp [encB, encI_i64, encI_u8, encS, enc_api_File, enc_api_Machine, enc_api_Service, enc_api_Setting, List.map_set, List.map_replicate]
  · have hm := brF hm (by first | exact hc5 | simpa using hc5)
    refine Wp.skip ?_
    simp only [thenQ, blockQ, ↓reduceIte]
    refine hK2 _ _ ?_
    refine Wp.seqW fun K7 hK7 hW7 => ?_
    obtain ⟨r_3, hr_3, hm⟩ := call_elim hm
    refine Wp.seqR fun K8 hK8 => ?_
    simp only [go_sem, simprocAttr]
    try refine ⟨by first | exact sd, ?_⟩
    refine Rg.callX (av := ?av9) (g := true) (fun hg => ok_ver_IsValue s_1.Value _ hr_3) ?ha9 ?hb9 ?hp9 ?hok9 ?hf9 ?cont9
    case ha9 =>
      simp only [go_sem, simprocAttr]
      exact Is.mk
    case hb9 =>
      simp only [go_sem, simprocAttr]
      exact Is.mk
    case hp9 =>
      simp only [go_sem, simprocAttr]
      exact Is.mk
    case hok9 =>
      simp only [go_sem, simprocAttr]
    case hf9 =>
      simp only [go_sem, simprocAttr]
      exact Is.mk
    intro hv9
    simp only [go_sem, simprocAttr]
    first
      | refine hK8 _ _ ?_
      | refine ⟨by first | exact sd, hK8 _ _ ?_⟩
    refine Wp.cond rfl ⟨⟩ (fun hc10 => ?_) (fun hc10 => ?_)
    · have hm := brT hm (by first | exact hc10 | simpa using hc10)
      refine Wp.seqR fun K11 hK11 => ?_
      simp only [go_sem, simprocAttr]
      first
        | refine hK11 _ _ ?_
        | refine ⟨by first | exact sd, hK11 _ _ ?_⟩
      refine Wp.ret ?_
      simp only [thenQ, blockQ]
      refine retQ_ret ?_
      cases hm
      simp only [go_sem, simprocAttr]
      try simp [encB, encI_i64, encI_u8, encS, enc_api_File, enc_api_Machine, enc_api_Service, enc_api_Setting, List.map_set, List.map_replicate]
    · have hm := brF hm (by first | exact hc10 | simpa using hc10)
      refine Wp.skip ?_
      simp only [thenQ, blockQ, ↓reduceIte]
      refine hK7 _ _ ?_
      refine Wp.seqR fun K12 hK12 => ?_
      simp only [go_sem, simprocAttr]
      first
        | refine hK12 _ _ ?_
        | refine ⟨by first | exact sd, hK12 _ _ ?_⟩
      refine Wp.ret ?_
      refine retQ_ret ?_
      cases hm
      simp only [go_sem, simprocAttr]
      try simp [encB, encI_i64, encI_u8, encS, enc_api_File, enc_api_Machine, enc_api_Service, enc_api_Setting, List.map_set, List.map_replicate]
set_option maxRecDepth 100000 in
set_option maxHeartbeats 4000000 in
theorem ok_disk_Check_1 (s_1 : api_Setting) (z : Int) (hm : disk_Check_1 s_1 = some z) : Does Tryd.prog 43 [.agg [.p (.s s_1.Key), .p (.s s_1.Value)]] [] (fun r X => r = .p (.i .i64 z) ∧ X = []) := by
  unfold disk_Check_1 at hm
  refine Does.of_wp 0 5 [.tmp 2] Tryd.func43 rfl (by decide) rfl rfl (Nat.le_of_ble_eq_true rfl) fun B => ?_
  refine Wp.seqR fun K1 hK1 => ?_
  simp only [go_sem, simprocAttr]
  first
    | refine hK1 _ _ ?_
    | refine ⟨by first | exact sd, hK1 _ _ ?_⟩
  obtain ⟨r_2, hr_2, hm⟩ := call_elim hm
  refine Wp.seqR fun K2 hK2 => ?_
  simp only [go_sem, simprocAttr]
  try refine ⟨by first | exact sd, ?_⟩
  refine Rg.callX (av := ?av3) (g := true) (fun hg => ok_disk_settingFault_i1 s_1 _ hr_2) ?ha3 ?hb3 ?hp3 ?hok3 ?hf3 ?cont3
  case ha3 =>
    simp only [go_sem, simprocAttr]
    exact Is.mk
  case hb3 =>
    simp only [go_sem, simprocAttr]
    exact Is.mk
  case hp3 =>
    simp only [go_sem, simprocAttr]
    exact Is.mk
  case hok3 =>
    simp only [go_sem, simprocAttr]
  case hf3 =>
    simp only [go_sem, simprocAttr]
    exact Is.mk
  intro hv3
  simp only [go_sem, simprocAttr]
  first
    | refine hK2 _ _ ?_
    | refine ⟨by first | exact sd, hK2 _ _ ?_⟩
  refine Wp.ret ?_
  refine retQ_ret ?_
  cases hm
  simp only [go_sem, simprocAttr]
  try simp [encB, encI_i64, encI_u8, encS, enc_api_File, enc_api_Machine, enc_api_Service, enc_api_Setting, List.map_set, List.map_replicate]
set_option maxRecDepth 100000 in
set_option maxHeartbeats 4000000 in
theorem ok_disk_keyOf (s_1 : api_Setting) (z : Str) (hm : disk_keyOf s_1 = some z) : Does Tryd.prog 45 [.agg [.p (.s s_1.Key), .p (.s s_1.Value)]] [] (fun r X => r = .p (.s z) ∧ X = []) := by
  unfold disk_keyOf at hm
  refine Does.of_wp 0 5 [.tmp 2] Tryd.func45 rfl (by decide) rfl rfl (Nat.le_of_ble_eq_true rfl) fun B => ?_
  refine Wp.seqR fun K1 hK1 => ?_
  simp only [go_sem, simprocAttr]
  first
    | refine hK1 _ _ ?_
    | refine ⟨by first | exact sd, hK1 _ _ ?_⟩
  refine Wp.seqR fun K2 hK2 => ?_
  simp only [go_sem, simprocAttr]
  first
    | refine hK2 _ _ ?_
    | refine ⟨by first | exact sd, hK2 _ _ ?_⟩
  refine Wp.ret ?_
  refine retQ_ret ?_
  cases hm
  simp only [go_sem, simprocAttr]
  try simp [encB, encI_i64, encI_u8, encS, enc_api_File, enc_api_Machine, enc_api_Service, enc_api_Setting, List.map_set, List.map_replicate]
set_option maxRecDepth 100000 in
set_option maxHeartbeats 4000000 in
theorem ok_disk_eachFault_api_Setting_i1 (l_1 : List api_Setting) (z : Int) (hm : disk_eachFault_api_Setting_i1 l_1 = some z) : Does Tryd.prog 42 [.p (.l (List.map enc_api_Setting l_1)), .fn 43 [], .fn 45 []] [] (fun r X => r = .p (.i .i64 z) ∧ X = []) := by
  unfold disk_eachFault_api_Setting_i1 at hm
  refine Does.of_wp 0 39 [.tmp 6] Tryd.func42 rfl (by decide) rfl rfl (Nat.le_of_ble_eq_true rfl) fun B => ?_
  refine Wp.seqR fun K1 hK1 => ?_
  simp only [go_sem, simprocAttr]
  first
    | refine hK1 _ _ ?_
    | refine ⟨by first | exact sd, hK1 _ _ ?_⟩
  refine Wp.seqW fun K2 hK2 hW2 => ?_
  obtain ⟨k_19, hk_19, hm⟩ := jp_elim hm
  have hcut2 : ∀ s, k_19 s = some z → K2 [] [] := by
    intro s hs
    have hm := hk_19 _ hs
    clear hs
    try dsimp only at hm
    try dsimp only
    refine hK2 _ _ ?_
    refine Wp.seqR fun K3 hK3 => ?_
    simp only [go_sem, simprocAttr]
    first
      | refine hK3 _ _ ?_
      | refine ⟨by first | exact sd, hK3 _ _ ?_⟩
    refine Wp.ret ?_
    refine retQ_ret ?_
    cases hm
    simp only [go_sem, simprocAttr]
    try simp [encB, encI_i64, encI_u8, encS, enc_api_File, enc_api_Machine, enc_api_Service, enc_api_Setting, List.map_set, List.map_replicate]
  clear hK2 hk_19
  refine Wp.seqR fun K4 hK4 => ?_
  simp only [go_sem, simprocAttr]
  first
    | refine hK4 _ _ ?_
    | refine ⟨by first | exact sd, hK4 _ _ ?_⟩
  refine Wp.block ?_
  obtain ⟨k_27, hk_27, hm⟩ := forL_cont hm
  refine Wp.fact 0 fun hl_30 => ?_
  replace hl_30 : l_1.length ≤ 274877906944 := by
    simp only [go_sem, simprocAttr, List.length_map] at hl_30
    omega
  refine Wp.forL (fun i_29 s => [(0, .p (.l (List.map enc_api_Setting l_1))), (1, .fn 43 []), (2, .fn 45 []), (10, .p (.l (List.map enc_api_Setting l_1))), (11, .p (.i .i64 (l_1.length : Int))), (12, .p (.i .i64 (i_29 : Int)))]) (fun i_29 s => []) ?_ hm ?_
  ·
    simp only [go_sem, simprocAttr]
    try simp [encB, encI_i64, encI_u8, encS, enc_api_File, enc_api_Machine, enc_api_Service, enc_api_Setting, List.map_set, List.map_replicate]
  clear hm
  intro i_29 s hii_29 hm
  try dsimp only at hm
  try dsimp only
  refine Wp.seqR fun K5 hK5 => ?_
  simp only [go_sem, simprocAttr]
  first
    | refine hK5 _ _ ?_
    | refine ⟨by first | exact sd, hK5 _ _ ?_⟩
  refine Wp.seqW fun K6 hK6 hW6 => ?_
  refine Wp.cond rfl ⟨⟩ (fun hc6 => ?_) (fun hc6 => ?_)
  rotate_left
  · refine Wp.exit ?_
    have hm := hk_27 _ (forL_end hm (ge_nat (by first | exact hc6 | simpa using hc6)))
    try dsimp only at hm
    simp only [thenQ, blockQ, ↓reduceIte]
    refine hW2 _ _ _ _ ?_ (hcut2 () hm)
    simp only [go_sem, simprocAttr]
    try simp [encB, encI_i64, encI_u8, encS, enc_api_File, enc_api_Machine, enc_api_Service, enc_api_Setting, List.map_set, List.map_replicate]
  have hlt6 := lt_nat (by first | exact hc6 | simpa using hc6)
  have hw6 := wrap_succ hlt6 hl_30
  obtain ⟨s_31, nx_28, hxs_31, hys_31, hnx_28, hm⟩ := forL_step hm hlt6
  replace hxs_31 := hxs_31 enc_api_Setting
  refine Wp.skip ?_
  simp only [thenQ]
  refine hK6 _ _ ?_
  refine Wp.seqW fun K7 hK7 hW7 => ?_
  refine Wp.block ?_
  refine Wp.seqR fun K8 hK8 => ?_
  simp only [go_sem, simprocAttr, hw6, hxs_31]
  first
    | refine hK8 _ _ ?_
    | refine ⟨by first | exact sd, hK8 _ _ ?_⟩
  refine Wp.seqW fun K9 hK9 hW9 => ?_
  obtain ⟨r_32, hr_32, hm⟩ := call_elim hm
  refine Wp.seqR fun K10 hK10 => ?_
  simp only [go_sem, simprocAttr, hw6, hxs_31]
  try refine ⟨by first | exact sd, ?_⟩
  refine Rg.callX (av := ?av11) (g := true) (fun hg => ok_disk_Check_1 s_31 _ hr_32) ?ha11 ?hb11 ?hp11 ?hok11 ?hf11 ?cont11
  case ha11 =>
    simp only [go_sem, simprocAttr, hw6, hxs_31]
    exact Is.mk
  case hb11 =>
    simp only [go_sem, simprocAttr, hw6, hxs_31]
    exact Is.mk
  case hp11 =>
    simp only [go_sem, simprocAttr, hw6, hxs_31]
    exact Is.mk
  case hok11 =>
    simp only [go_sem, simprocAttr, hw6, hxs_31]
  case hf11 =>
    simp only [go_sem, simprocAttr, hw6, hxs_31]
    exact Is.mk
  intro hv11
  simp only [go_sem, simprocAttr, hw6, hxs_31]
  first
    | refine hK10 _ _ ?_
    | refine ⟨by first | exact sd, hK10 _ _ ?_⟩
  refine Wp.seqR fun K12 hK12 => ?_
  simp only [go_sem, simprocAttr, hw6, hxs_31]
  first
    | refine hK12 _ _ ?_
    | refine ⟨by first | exact sd, hK12 _ _ ?_⟩
  refine Wp.cond rfl ⟨⟩ (fun hc13 => ?_) (fun hc13 => ?_)
  · have hm := brT hm (by first | exact hc13 | simpa using hc13)
    refine Wp.seqR fun K14 hK14 => ?_
    simp only [go_sem, simprocAttr, hw6, hxs_31]
    first
      | refine hK14 _ _ ?_
      | refine ⟨by first | exact sd, hK14 _ _ ?_⟩
    refine Wp.ret ?_
    simp only [thenQ, blockQ]
    refine retQ_ret ?_
    cases hm
    simp only [go_sem, simprocAttr, hw6, hxs_31]
    try simp [encB, encI_i64, encI_u8, encS, enc_api_File, enc_api_Machine, enc_api_Service, enc_api_Setting, List.map_set, List.map_replicate]
  · have hm := brF hm (by first | exact hc13 | simpa using hc13)
    refine Wp.skip ?_
    simp only [thenQ, blockQ, ↓reduceIte]
    refine hK9 _ _ ?_
    obtain ⟨r_33, hr_33, hm⟩ := callG_elim hm
    obtain ⟨c_34, hm⟩ := chk_elim hm
    obtain ⟨r_35, hr_35, hm⟩ := callG_elim hm
    have hr_36 := getD_enc (l := l_1) (e := enc_api_Setting) (d := (api_Setting.mk [] [])) (i := (IntKind.i64.wrap ((i_29 : Int) - 1)).toNat)
    simp only [enc_api_Setting, List.map_nil] at hr_36
    refine Wp.seqD (plan := [(0, none), (1, none), (2, none), (3, none), (4, none), (5, none), (6, none), (7, none), (8, none), (9, none), (10, none), (11, none), (12, none), (13, none), (14, none)]) (by kernel_rfl) rfl (by kernel_rfl) fun K15 hK15 => ?_
    simp only [go_sem, simprocAttr, hw6, hxs_31, hr_36]
    try refine ⟨by first | exact sd | ((repeat' apply And.intro) <;> first | assumption | omega | (simp only [List.length_append, List.length_map, List.length_cons, List.length_nil, List.length_set, List.length_replicate] at c_34 ⊢; omega)), ?_⟩
    refine Dr.callF (av := ?av16) (g := decide (0 < (i_29 : Int))) (o := ?o16) (fun hg => ok_disk_keyOf s_31 _ (hr_33 hg)) ?hk16 ?ha16 ?hb16 ?hp16 ?hok16 ?hf16 ?cont16
    case hk16 =>
      simp only [go_sem, simprocAttr, hw6, hxs_31, hr_36]
      exact Is.mk
    case ha16 =>
      simp only [go_sem, simprocAttr, hw6, hxs_31, hr_36]
      exact Is.mk
    case hb16 =>
      simp only [go_sem, simprocAttr, hw6, hxs_31, hr_36]
      exact Is.mk
    case hp16 =>
      simp only [go_sem, simprocAttr, hw6, hxs_31, hr_36]
      exact Is.mk
    case hok16 =>
      simp only [go_sem, simprocAttr, hw6, hxs_31, hr_36]
    case hf16 =>
      simp only [go_sem, simprocAttr, hw6, hxs_31, hr_36]
      exact Is.mk
    simp only [go_sem, simprocAttr, hw6, hxs_31, hr_36]
    try refine ⟨by first | exact sd | ((repeat' apply And.intro) <;> first | assumption | omega | (simp only [List.length_append, List.length_map, List.length_cons, List.length_nil, List.length_set, List.length_replicate] at c_34 ⊢; omega)), ?_⟩
    refine Dr.callF (av := ?av17) (g := decide (0 < (i_29 : Int))) (o := ?o17) (fun hg => ok_disk_keyOf (api_Setting.mk ((l_1.getD ((IntKind.i64.wrap ((i_29 : Int) - 1)).toNat) (api_Setting.mk [] [])).Key) ((l_1.getD ((IntKind.i64.wrap ((i_29 : Int) - 1)).toNat) (api_Setting.mk [] [])).Value)) _ (hr_35 hg)) ?hk17 ?ha17 ?hb17 ?hp17 ?hok17 ?hf17 ?cont17
    case hk17 =>
      simp only [go_sem, simprocAttr, hw6, hxs_31, hr_36]
      exact Is.mk
    case ha17 =>
      simp only [go_sem, simprocAttr, hw6, hxs_31, hr_36]
      exact Is.mk
    case hb17 =>
      simp only [go_sem, simprocAttr, hw6, hxs_31, hr_36]
      exact Is.mk
    case hp17 =>
      simp only [go_sem, simprocAttr, hw6, hxs_31, hr_36]
      exact Is.mk
    case hok17 =>
      simp only [go_sem, simprocAttr, hw6, hxs_31, hr_36]
    case hf17 =>
      simp only [go_sem, simprocAttr, hw6, hxs_31, hr_36]
      exact Is.mk
    simp only [go_sem, simprocAttr, hw6, hxs_31, hr_36]
    first
      | refine hK15 _ _ ?_
      | refine ⟨by first | exact sd | ((repeat' apply And.intro) <;> first | assumption | omega | (simp only [List.length_append, List.length_map, List.length_cons, List.length_nil, List.length_set, List.length_replicate] at c_34 ⊢; omega)), hK15 _ _ ?_⟩
    refine Wp.cond rfl ⟨⟩ (fun hc18 => ?_) (fun hc18 => ?_)
    · have hm := brT hm (by first | exact hc18 | simpa using hc18)
      refine Wp.seqR fun K19 hK19 => ?_
      simp only [go_sem, simprocAttr, hw6, hxs_31]
      first
        | refine hK19 _ _ ?_
        | refine ⟨by first | exact sd, hK19 _ _ ?_⟩
      refine Wp.ret ?_
      simp only [thenQ, blockQ]
      refine retQ_ret ?_
      cases hm
      simp only [go_sem, simprocAttr, hw6, hxs_31]
      try simp [encB, encI_i64, encI_u8, encS, enc_api_File, enc_api_Machine, enc_api_Service, enc_api_Setting, List.map_set, List.map_replicate]
    · have hm := brF hm (by first | exact hc18 | simpa using hc18)
      refine Wp.skip ?_
      simp only [thenQ, blockQ, ↓reduceIte]
      refine hK7 _ _ ?_
      refine Wp.region fun K20 hK20 => ?_
      simp only [go_sem, simprocAttr, hw6, hxs_31]
      first
        | refine hK20 _ _ ?_
        | refine ⟨by first | exact sd, hK20 _ _ ?_⟩
      simp only [thenQ, blockQ, ↓reduceIte]
      refine ⟨(), hlt6, hnx_28 _ hm, ?_⟩
      simp only [go_sem, simprocAttr, hw6, hxs_31]
      try simp [encB, encI_i64, encI_u8, encS, enc_api_File, enc_api_Machine, enc_api_Service, enc_api_Setting, List.map_set, List.map_replicate]
set_option maxRecDepth 100000 in
set_option maxHeartbeats 4000000 in
theorem ok_ver_isPart_1 (c_1 : Int) (z : Bool) (hm : ver_isPart_1 c_1 = some z) : Does Tryd.prog 121 [.p (.i .u8 c_1)] [] (fun r X => r = .p (.b z) ∧ X = []) := by
  unfold ver_isPart_1 at hm
  refine Does.of_wp 0 29 [.tmp 2] Tryd.func121 rfl (by decide) rfl rfl (Nat.le_of_ble_eq_true rfl) fun B => ?_
  refine Wp.seqR fun K1 hK1 => ?_
  simp only [go_sem, simprocAttr]
  first
    | refine hK1 _ _ ?_
    | refine ⟨by first | exact sd, hK1 _ _ ?_⟩
  obtain ⟨r_2, hr_2, hm⟩ := call_elim hm
  obtain ⟨r_3, hr_3, hm⟩ := callG_elim hm
  refine Wp.seqR fun K2 hK2 => ?_
  simp only [go_sem, simprocAttr]
  try refine ⟨by first | exact sd, ?_⟩
  refine Rg.callX (av := ?av3) (g := true) (fun hg => ok_ver_isSmall c_1 _ hr_2) ?ha3 ?hb3 ?hp3 ?hok3 ?hf3 ?cont3
  case ha3 =>
    simp only [go_sem, simprocAttr]
    exact Is.mk
  case hb3 =>
    simp only [go_sem, simprocAttr]
    exact Is.mk
  case hp3 =>
    simp only [go_sem, simprocAttr]
    exact Is.mk
  case hok3 =>
    simp only [go_sem, simprocAttr]
  case hf3 =>
    simp only [go_sem, simprocAttr]
    exact Is.mk
  intro hv3
  simp only [go_sem, simprocAttr]
  try refine ⟨by first | exact sd, ?_⟩
  refine Rg.callX (av := ?av4) (g := !(r_2 || ((decide (65 ≤ c_1)) && (decide (c_1 ≤ 90))))) (fun hg => ok_ver_isDigit c_1 _ (hr_3 hg)) ?ha4 ?hb4 ?hp4 ?hok4 ?hf4 ?cont4
  case ha4 =>
    simp only [go_sem, simprocAttr]
    exact Is.mk
  case hb4 =>
    simp only [go_sem, simprocAttr]
    exact Is.mk
  case hp4 =>
    simp only [go_sem, simprocAttr]
    exact Is.mk
  case hok4 =>
    simp only [go_sem, simprocAttr]
  case hf4 =>
    simp only [go_sem, simprocAttr]
    exact Is.mk
  intro hv4
  simp only [go_sem, simprocAttr]
  first
    | refine hK2 _ _ ?_
    | refine ⟨by first | exact sd, hK2 _ _ ?_⟩
  refine Wp.ret ?_
  refine retQ_ret ?_
  cases hm
  simp only [go_sem, simprocAttr]
  try simp [encB, encI_i64, encI_u8, encS, enc_api_File, enc_api_Machine, enc_api_Service, enc_api_Setting, List.map_set, List.map_replicate]
set_option maxRecDepth 100000 in
set_option maxHeartbeats 4000000 in
theorem ok_ver_each_i3 (s_1 : Str) (most_2 : Int) (z : Bool) (hm : ver_each_i3 s_1 most_2 = some z) : Does Tryd.prog 97 [.p (.s s_1), .p (.i .i64 most_2), .fn 121 []] [] (fun r X => r = .p (.b z) ∧ X = []) := by
  unfold ver_each_i3 at hm
  refine Does.of_wp 0 28 [.tmp 6] Tryd.func97 rfl (by decide) rfl rfl (Nat.le_of_ble_eq_true rfl) fun B => ?_
  refine Wp.seqR fun K1 hK1 => ?_
  simp only [go_sem, simprocAttr]
  first
    | refine hK1 _ _ ?_
    | refine ⟨by first | exact sd, hK1 _ _ ?_⟩
  refine Wp.seqW fun K2 hK2 hW2 => ?_
  obtain ⟨k_12, hk_12, hm⟩ := jp_elim hm
  have hcut2 : ∀ s, k_12 s = some z → K2 [(0, .p (.s s_1)), (1, .p (.i .i64 most_2))] [] := by
    intro s hs
    have hm := hk_12 _ hs
    clear hs
    try dsimp only at hm
    try dsimp only
    refine hK2 _ _ ?_
    refine Wp.seqR fun K3 hK3 => ?_
    simp only [go_sem, simprocAttr]
    first
      | refine hK3 _ _ ?_
      | refine ⟨by first | exact sd, hK3 _ _ ?_⟩
    refine Wp.ret ?_
    refine retQ_ret ?_
    cases hm
    simp only [go_sem, simprocAttr]
    try simp [encB, encI_i64, encI_u8, encS, enc_api_File, enc_api_Machine, enc_api_Service, enc_api_Setting, List.map_set, List.map_replicate]
  clear hK2 hk_12
  refine Wp.seqR fun K4 hK4 => ?_
  simp only [go_sem, simprocAttr]
  first
    | refine hK4 _ _ ?_
    | refine ⟨by first | exact sd, hK4 _ _ ?_⟩
  refine Wp.block ?_
  obtain ⟨k_16, hk_16, hm⟩ := forL_cont hm
  refine Wp.fact 0 fun hl_19 => ?_
  replace hl_19 : s_1.length ≤ 274877906944 := by
    simp only [go_sem, simprocAttr, List.length_map] at hl_19
    omega
  refine Wp.forL (fun i_18 s => [(0, .p (.s s_1)), (1, .p (.i .i64 most_2)), (2, .fn 121 []), (7, .p (.i .i64 (i_18 : Int)))]) (fun i_18 s => []) ?_ hm ?_
  ·
    simp only [go_sem, simprocAttr]
    try simp [encB, encI_i64, encI_u8, encS, enc_api_File, enc_api_Machine, enc_api_Service, enc_api_Setting, List.map_set, List.map_replicate]
  clear hm
  intro i_18 s hii_18 hm
  try dsimp only at hm
  try dsimp only
  refine Wp.seqW fun K5 hK5 hW5 => ?_
  refine Wp.seqR fun K6 hK6 => ?_
  simp only [go_sem, simprocAttr]
  first
    | refine hK6 _ _ ?_
    | refine ⟨by first | exact sd, hK6 _ _ ?_⟩
  refine Wp.cond rfl ⟨⟩ (fun hc5 => ?_) (fun hc5 => ?_)
  rotate_left
  · refine Wp.exit ?_
    have hm := hk_16 _ (forL_end hm (ge_nat (by first | exact hc5 | simpa using hc5)))
    try dsimp only at hm
    simp only [thenQ, blockQ, ↓reduceIte]
    refine hW2 _ _ _ _ ?_ (hcut2 () hm)
    simp only [go_sem, simprocAttr]
    try simp [encB, encI_i64, encI_u8, encS, enc_api_File, enc_api_Machine, enc_api_Service, enc_api_Setting, List.map_set, List.map_replicate]
  have hlt5 := lt_nat (by first | exact hc5 | simpa using hc5)
  have hw5 := wrap_succ hlt5 hl_19
  obtain ⟨c_20, nx_17, hxc_20, hyc_20, hnx_17, hm⟩ := forL_step hm hlt5
  clear hxc_20
  refine Wp.skip ?_
  simp only [thenQ]
  refine hK5 _ _ ?_
  refine Wp.seqW fun K7 hK7 hW7 => ?_
  refine Wp.block ?_
  obtain ⟨r_21, hr_21, hm⟩ := call_elim hm
  refine Wp.seqR fun K8 hK8 => ?_
  simp only [go_sem, simprocAttr, hw5, hyc_20]
  try refine ⟨by first | exact sd, ?_⟩
  refine Rg.callX (av := ?av9) (g := true) (fun hg => ok_ver_isPart_1 (c_20.toNat : Int) _ hr_21) ?ha9 ?hb9 ?hp9 ?hok9 ?hf9 ?cont9
  case ha9 =>
    simp only [go_sem, simprocAttr, hw5, hyc_20]
    exact Is.mk
  case hb9 =>
    simp only [go_sem, simprocAttr, hw5, hyc_20]
    exact Is.mk
  case hp9 =>
    simp only [go_sem, simprocAttr, hw5, hyc_20]
    exact Is.mk
  case hok9 =>
    simp only [go_sem, simprocAttr, hw5, hyc_20]
  case hf9 =>
    simp only [go_sem, simprocAttr, hw5, hyc_20]
    exact Is.mk
  intro hv9
  simp only [go_sem, simprocAttr, hw5, hyc_20]
  first
    | refine hK8 _ _ ?_
    | refine ⟨by first | exact sd, hK8 _ _ ?_⟩
  refine Wp.cond rfl ⟨⟩ (fun hc10 => ?_) (fun hc10 => ?_)
  · have hm := brT hm (by first | exact hc10 | simpa using hc10)
    refine Wp.seqR fun K11 hK11 => ?_
    simp only [go_sem, simprocAttr, hw5, hyc_20]
    first
      | refine hK11 _ _ ?_
      | refine ⟨by first | exact sd, hK11 _ _ ?_⟩
    refine Wp.ret ?_
    simp only [thenQ, blockQ]
    refine retQ_ret ?_
    cases hm
    simp only [go_sem, simprocAttr, hw5, hyc_20]
    try simp [encB, encI_i64, encI_u8, encS, enc_api_File, enc_api_Machine, enc_api_Service, enc_api_Setting, List.map_set, List.map_replicate]
  · have hm := brF hm (by first | exact hc10 | simpa using hc10)
    refine Wp.skip ?_
    simp only [thenQ, blockQ, ↓reduceIte]
    refine hK7 _ _ ?_
    refine Wp.region fun K12 hK12 => ?_
    simp only [go_sem, simprocAttr, hw5, hyc_20]
    first
      | refine hK12 _ _ ?_
      | refine ⟨by first | exact sd, hK12 _ _ ?_⟩
    simp only [thenQ, blockQ, ↓reduceIte]
    refine ⟨(), hlt5, hnx_17 _ hm, ?_⟩
    simp only [go_sem, simprocAttr, hw5, hyc_20]
    try simp [encB, encI_i64, encI_u8, encS, enc_api_File, enc_api_Machine, enc_api_Service, enc_api_Setting, List.map_set, List.map_replicate]
set_option maxRecDepth 100000 in
set_option maxHeartbeats 4000000 in
theorem ok_ver_isPart (s_1 : Str) (z : Bool) (hm : ver_isPart s_1 = some z) : Does Tryd.prog 102 [.p (.s s_1)] [] (fun r X => r = .p (.b z) ∧ X = []) := by
  unfold ver_isPart at hm
  refine Does.of_wp 0 15 [.tmp 2] Tryd.func102 rfl (by decide) rfl rfl (Nat.le_of_ble_eq_true rfl) fun B => ?_
  refine Wp.seqR fun K1 hK1 => ?_
  simp only [go_sem, simprocAttr]
  first
    | refine hK1 _ _ ?_
    | refine ⟨by first | exact sd, hK1 _ _ ?_⟩
  refine Wp.seqR fun K2 hK2 => ?_
  simp only [go_sem, simprocAttr]
  first
    | refine hK2 _ _ ?_
    | refine ⟨by first | exact sd, hK2 _ _ ?_⟩
  obtain ⟨r_2, hr_2, hm⟩ := call_elim hm
  refine Wp.seqR fun K3 hK3 => ?_
  simp only [go_sem, simprocAttr]
  try refine ⟨by first | exact sd, ?_⟩
  refine Rg.callX (av := ?av4) (g := true) (fun hg => ok_ver_each_i3 s_1 40 _ hr_2) ?ha4 ?hb4 ?hp4 ?hok4 ?hf4 ?cont4
  case ha4 =>
    simp only [go_sem, simprocAttr]
    exact Is.mk
  case hb4 =>
    simp only [go_sem, simprocAttr]
    exact Is.mk
  case hp4 =>
    simp only [go_sem, simprocAttr]
    exact Is.mk
  case hok4 =>
    simp only [go_sem, simprocAttr]
  case hf4 =>
    simp only [go_sem, simprocAttr]
    exact Is.mk
  intro hv4
  simp only [go_sem, simprocAttr]
  first
    | refine hK3 _ _ ?_
    | refine ⟨by first | exact sd, hK3 _ _ ?_⟩
  refine Wp.ret ?_
  refine retQ_ret ?_
  cases hm
  simp only [go_sem, simprocAttr]
  try simp [encB, encI_i64, encI_u8, encS, enc_api_File, enc_api_Machine, enc_api_Service, enc_api_Setting, List.map_set, List.map_replicate]
set_option maxRecDepth 100000 in
set_option maxHeartbeats 4000000 in
theorem ok_ver_IsPath (s_1 : Str) (z : Bool) (hm : ver_IsPath s_1 = some z) : Does Tryd.prog 50 [.p (.s s_1)] [] (fun r X => r = .p (.b z) ∧ X = []) := by
  unfold ver_IsPath at hm
  refine Does.of_wp 0 19 [.tmp 2] Tryd.func50 rfl (by decide) rfl rfl (Nat.le_of_ble_eq_true rfl) fun B => ?_
  refine Wp.seqR fun K1 hK1 => ?_
  simp only [go_sem, simprocAttr]
  first
    | refine hK1 _ _ ?_
    | refine ⟨by first | exact sd, hK1 _ _ ?_⟩
  refine Wp.seqW fun K2 hK2 hW2 => ?_
  obtain ⟨k_12, hk_12, hm⟩ := jp_elim hm
  have hcut2 : ∀ s, k_12 s = some z → K2 [(0, .p (.s s_1))] [] := by
    intro s hs
    have hm := hk_12 _ hs
    clear hs
    try dsimp only at hm
    try dsimp only
    refine hK2 _ _ ?_
    refine Wp.seqR fun K3 hK3 => ?_
    simp only [go_sem, simprocAttr]
    first
      | refine hK3 _ _ ?_
      | refine ⟨by first | exact sd, hK3 _ _ ?_⟩
    refine Wp.ret ?_
    refine retQ_ret ?_
    cases hm
    simp only [go_sem, simprocAttr]
    try simp [encB, encI_i64, encI_u8, encS, enc_api_File, enc_api_Machine, enc_api_Service, enc_api_Setting, List.map_set, List.map_replicate]
  clear hK2 hk_12
  obtain ⟨r_13, hr_13, hm⟩ := call_elim hm
  refine Wp.seqR fun K4 hK4 => ?_
  simp only [go_sem, simprocAttr]
  try refine ⟨by first | exact sd, ?_⟩
  refine Rg.callF (av := ?av5) (ok_strings_Split s_1 ([47] : Str) _ hr_13) ?ha5 ?hp5 ?hok5 ?cont5
  case ha5 =>
    simp only [go_sem, simprocAttr]
    exact Is.mk
  case hp5 =>
    simp only [go_sem, simprocAttr]
    exact Is.mk
  case hok5 =>
    simp only [go_sem, simprocAttr]
  intro hv5
  simp only [go_sem, simprocAttr]
  first
    | refine hK4 _ _ ?_
    | refine ⟨by first | exact sd, hK4 _ _ ?_⟩
  refine Wp.block ?_
  obtain ⟨k_17, hk_17, hm⟩ := forL_cont hm
  refine Wp.fact 6 fun hl_20 => ?_
  replace hl_20 : r_13.length ≤ 274877906944 := by
    simp only [go_sem, simprocAttr, List.length_map] at hl_20
    omega
  refine Wp.forL (fun i_19 s => [(0, .p (.s s_1)), (6, .p (.l (List.map encS r_13))), (7, .p (.i .i64 (r_13.length : Int))), (8, .p (.i .i64 (i_19 : Int)))]) (fun i_19 s => []) ?_ hm ?_
  ·
    simp only [go_sem, simprocAttr]
    try simp [encB, encI_i64, encI_u8, encS, enc_api_File, enc_api_Machine, enc_api_Service, enc_api_Setting, List.map_set, List.map_replicate]
  clear hm
  intro i_19 s hii_19 hm
  try dsimp only at hm
  try dsimp only
  refine Wp.seqR fun K6 hK6 => ?_
  simp only [go_sem, simprocAttr]
  first
    | refine hK6 _ _ ?_
    | refine ⟨by first | exact sd, hK6 _ _ ?_⟩
  refine Wp.seqW fun K7 hK7 hW7 => ?_
  refine Wp.cond rfl ⟨⟩ (fun hc7 => ?_) (fun hc7 => ?_)
  rotate_left
  · refine Wp.exit ?_
    have hm := hk_17 _ (forL_end hm (ge_nat (by first | exact hc7 | simpa using hc7)))
    try dsimp only at hm
    simp only [thenQ, blockQ, ↓reduceIte]
    refine hW2 _ _ _ _ ?_ (hcut2 () hm)
    simp only [go_sem, simprocAttr]
    try simp [encB, encI_i64, encI_u8, encS, enc_api_File, enc_api_Machine, enc_api_Service, enc_api_Setting, List.map_set, List.map_replicate]
  have hlt7 := lt_nat (by first | exact hc7 | simpa using hc7)
  have hw7 := wrap_succ hlt7 hl_20
  obtain ⟨s_21, nx_18, hxs_21, hys_21, hnx_18, hm⟩ := forL_step hm hlt7
  replace hxs_21 := hxs_21 encS
  refine Wp.skip ?_
  simp only [thenQ]
  refine hK7 _ _ ?_
  refine Wp.seqW fun K8 hK8 hW8 => ?_
  refine Wp.block ?_
  refine Wp.seqR fun K9 hK9 => ?_
  simp only [go_sem, simprocAttr, hw7, hxs_21]
  first
    | refine hK9 _ _ ?_
    | refine ⟨by first | exact sd, hK9 _ _ ?_⟩
  obtain ⟨r_22, hr_22, hm⟩ := call_elim hm
  refine Wp.seqR fun K10 hK10 => ?_
  simp only [go_sem, simprocAttr, hw7, hxs_21]
  try refine ⟨by first | exact sd, ?_⟩
  refine Rg.callX (av := ?av11) (g := true) (fun hg => ok_ver_isPart s_21 _ hr_22) ?ha11 ?hb11 ?hp11 ?hok11 ?hf11 ?cont11
  case ha11 =>
    simp only [go_sem, simprocAttr, hw7, hxs_21]
    exact Is.mk
  case hb11 =>
    simp only [go_sem, simprocAttr, hw7, hxs_21]
    exact Is.mk
  case hp11 =>
    simp only [go_sem, simprocAttr, hw7, hxs_21]
    exact Is.mk
  case hok11 =>
    simp only [go_sem, simprocAttr, hw7, hxs_21]
  case hf11 =>
    simp only [go_sem, simprocAttr, hw7, hxs_21]
    exact Is.mk
  intro hv11
  simp only [go_sem, simprocAttr, hw7, hxs_21]
  first
    | refine hK10 _ _ ?_
    | refine ⟨by first | exact sd, hK10 _ _ ?_⟩
  refine Wp.cond rfl ⟨⟩ (fun hc12 => ?_) (fun hc12 => ?_)
  · have hm := brT hm (by first | exact hc12 | simpa using hc12)
    refine Wp.seqR fun K13 hK13 => ?_
    simp only [go_sem, simprocAttr, hw7, hxs_21]
    first
      | refine hK13 _ _ ?_
      | refine ⟨by first | exact sd, hK13 _ _ ?_⟩
    refine Wp.ret ?_
    simp only [thenQ, blockQ]
    refine retQ_ret ?_
    cases hm
    simp only [go_sem, simprocAttr, hw7, hxs_21]
    try simp [encB, encI_i64, encI_u8, encS, enc_api_File, enc_api_Machine, enc_api_Service, enc_api_Setting, List.map_set, List.map_replicate]
  · have hm := brF hm (by first | exact hc12 | simpa using hc12)
    refine Wp.skip ?_
    simp only [thenQ, blockQ, ↓reduceIte]
    refine hK8 _ _ ?_
    refine Wp.region fun K14 hK14 => ?_
    simp only [go_sem, simprocAttr, hw7, hxs_21]
    first
      | refine hK14 _ _ ?_
      | refine ⟨by first | exact sd, hK14 _ _ ?_⟩
    simp only [thenQ, blockQ, ↓reduceIte]
    refine ⟨(), hlt7, hnx_18 _ hm, ?_⟩
    simp only [go_sem, simprocAttr, hw7, hxs_21]
    try simp [encB, encI_i64, encI_u8, encS, enc_api_File, enc_api_Machine, enc_api_Service, enc_api_Setting, List.map_set, List.map_replicate]
set_option maxRecDepth 100000 in
set_option maxHeartbeats 4000000 in
theorem ok_disk_fileFault (f_1 : api_File) (z : Int) (hm : disk_fileFault f_1 = some z) : Does Tryd.prog 46 [.agg [.p (.s f_1.Path), .p (.s f_1.Data), .p (.b f_1.Runs)]] [] (fun r X => r = .p (.i .i64 z) ∧ X = []) := by
  unfold disk_fileFault at hm
  refine Does.of_wp 0 11 [.tmp 2] Tryd.func46 rfl (by decide) rfl rfl (Nat.le_of_ble_eq_true rfl) fun B => ?_
  refine Wp.seqR fun K1 hK1 => ?_
  simp only [go_sem, simprocAttr]
  first
    | refine hK1 _ _ ?_
    | refine ⟨by first | exact sd, hK1 _ _ ?_⟩
  refine Wp.seqW fun K2 hK2 hW2 => ?_
  obtain ⟨r_2, hr_2, hm⟩ := call_elim hm
  refine Wp.seqR fun K3 hK3 => ?_
  simp only [go_sem, simprocAttr]
  try refine ⟨by first | exact sd, ?_⟩
  refine Rg.callX (av := ?av4) (g := true) (fun hg => ok_ver_IsPath f_1.Path _ hr_2) ?ha4 ?hb4 ?hp4 ?hok4 ?hf4 ?cont4
  case ha4 =>
    simp only [go_sem, simprocAttr]
    exact Is.mk
  case hb4 =>
    simp only [go_sem, simprocAttr]
    exact Is.mk
  case hp4 =>
    simp only [go_sem, simprocAttr]
    exact Is.mk
  case hok4 =>
    simp only [go_sem, simprocAttr]
  case hf4 =>
    simp only [go_sem, simprocAttr]
    exact Is.mk
  intro hv4
  simp only [go_sem, simprocAttr]
  first
    | refine hK3 _ _ ?_
    | refine ⟨by first | exact sd, hK3 _ _ ?_⟩
  refine Wp.cond rfl ⟨⟩ (fun hc5 => ?_) (fun hc5 => ?_)
  · have hm := brT hm (by first | exact hc5 | simpa using hc5)
    refine Wp.seqR fun K6 hK6 => ?_
    simp only [go_sem, simprocAttr]
    first
      | refine hK6 _ _ ?_
      | refine ⟨by first | exact sd, hK6 _ _ ?_⟩
    refine Wp.ret ?_
    simp only [thenQ, blockQ]
    refine retQ_ret ?_
    cases hm
    simp only [go_sem, simprocAttr]
    try simp [encB, encI_i64, encI_u8, encS, enc_api_File, enc_api_Machine, enc_api_Service, enc_api_Setting, List.map_set, List.map_replicate]
  · have hm := brF hm (by first | exact hc5 | simpa using hc5)
    refine Wp.skip ?_
    simp only [thenQ, blockQ, ↓reduceIte]
    refine hK2 _ _ ?_
    refine Wp.seqW fun K7 hK7 hW7 => ?_
    refine Wp.seqR fun K8 hK8 => ?_
    simp only [go_sem, simprocAttr]
    first
      | refine hK8 _ _ ?_
      | refine ⟨by first | exact sd, hK8 _ _ ?_⟩
    refine Wp.cond rfl ⟨⟩ (fun hc9 => ?_) (fun hc9 => ?_)
    · have hm := brT hm (by first | exact hc9 | simpa using hc9)
      refine Wp.seqR fun K10 hK10 => ?_
      simp only [go_sem, simprocAttr]
      first
        | refine hK10 _ _ ?_
        | refine ⟨by first | exact sd, hK10 _ _ ?_⟩
      refine Wp.ret ?_
      simp only [thenQ, blockQ]
      refine retQ_ret ?_
      cases hm
      simp only [go_sem, simprocAttr]
      try simp [encB, encI_i64, encI_u8, encS, enc_api_File, enc_api_Machine, enc_api_Service, enc_api_Setting, List.map_set, List.map_replicate]
    · have hm := brF hm (by first | exact hc9 | simpa using hc9)
      refine Wp.skip ?_
      simp only [thenQ, blockQ, ↓reduceIte]
      refine hK7 _ _ ?_
      refine Wp.seqR fun K11 hK11 => ?_
      simp only [go_sem, simprocAttr]
      first
        | refine hK11 _ _ ?_
        | refine ⟨by first | exact sd, hK11 _ _ ?_⟩
      refine Wp.ret ?_
      refine retQ_ret ?_
      cases hm
      simp only [go_sem, simprocAttr]
      try simp [encB, encI_i64, encI_u8, encS, enc_api_File, enc_api_Machine, enc_api_Service, enc_api_Setting, List.map_set, List.map_replicate]
set_option maxRecDepth 100000 in
set_option maxHeartbeats 4000000 in
theorem ok_disk_Check_2_i1 (dir_1 : Str) (m1_2 : List (Str × Bool)) (z : Bool) (hm : disk_Check_2_i1 dir_1 m1_2 = some z) : Does Tryd.prog 48 [.p (.s dir_1), .ptr 0 0] [.cells 76 [.mp 1], .mp false (encM Dt.s encB m1_2)] (fun r X => r = .p (.b z) ∧ X = [.cells 76 [.mp 1], .mp false (encM Dt.s encB m1_2)]) := by
  unfold disk_Check_2_i1 at hm
  refine Does.of_wp 2 8 [.tmp 3] Tryd.func48 rfl (by decide) rfl rfl (Nat.le_of_ble_eq_true rfl) fun B => ?_
  refine Wp.seqR fun K1 hK1 => ?_
  simp only [go_sem, simprocAttr]
  first
    | refine hK1 _ _ ?_
    | refine ⟨by first | exact sd, hK1 _ _ ?_⟩
  obtain ⟨q_5, hq_6, hm⟩ := letv_elim hm
  have hq_6d := mlookD_enc (e := encB) keq_s m1_2 dir_1 false
  have hq_6s := mlook_some (e := encB) keq_s m1_2 dir_1
  simp only [hq_6, encB, List.map_nil] at hq_6d hq_6s
  refine Wp.seqR fun K2 hK2 => ?_
  simp only [go_sem, simprocAttr, hq_6d, hq_6s]
  first
    | refine hK2 _ _ ?_
    | refine ⟨by first | exact sd, hK2 _ _ ?_⟩
  refine Wp.ret ?_
  refine retQ_ret ?_
  cases hm
  simp only [go_sem, simprocAttr]
  try simp [encB, encI_i64, encI_u8, encS, enc_api_File, enc_api_Machine, enc_api_Service, enc_api_Setting, List.map_set, List.map_replicate]
set_option maxRecDepth 100000 in
set_option maxHeartbeats 4000000 in
theorem ok_disk_above_i1 (path_1 : Str) (m1_2 : List (Str × Bool)) (z : Bool) (hm : disk_above_i1 path_1 m1_2 = some z) : Does Tryd.prog 47 [.p (.s path_1), .fn 48 [.ptr 0 0]] [.cells 76 [.mp 1], .mp false (encM Dt.s encB m1_2)] (fun r X => r = .p (.b z) ∧ X = [.cells 76 [.mp 1], .mp false (encM Dt.s encB m1_2)]) := by
  unfold disk_above_i1 at hm
  refine Does.of_wp 2 24 [.tmp 4] Tryd.func47 rfl (by decide) rfl rfl (Nat.le_of_ble_eq_true rfl) fun B => ?_
  refine Wp.seqR fun K1 hK1 => ?_
  simp only [go_sem, simprocAttr]
  first
    | refine hK1 _ _ ?_
    | refine ⟨by first | exact sd, hK1 _ _ ?_⟩
  refine Wp.seqW fun K2 hK2 hW2 => ?_
  obtain ⟨k_37, hk_37, hm⟩ := jp_elim hm
  have hcut2 : ∀ s, k_37 s = some z → K2 [] [.cells 76 [.mp 1], .mp false (encM Dt.s encB m1_2)] := by
    intro s hs
    have hm := hk_37 _ hs
    clear hs
    try dsimp only at hm
    try dsimp only
    refine hK2 _ _ ?_
    refine Wp.seqR fun K3 hK3 => ?_
    simp only [go_sem, simprocAttr]
    first
      | refine hK3 _ _ ?_
      | refine ⟨by first | exact sd, hK3 _ _ ?_⟩
    refine Wp.ret ?_
    refine retQ_ret ?_
    cases hm
    simp only [go_sem, simprocAttr]
    try simp [encB, encI_i64, encI_u8, encS, enc_api_File, enc_api_Machine, enc_api_Service, enc_api_Setting, List.map_set, List.map_replicate]
  clear hK2 hk_37
  refine Wp.seqR fun K4 hK4 => ?_
  simp only [go_sem, simprocAttr]
  first
    | refine hK4 _ _ ?_
    | refine ⟨by first | exact sd, hK4 _ _ ?_⟩
  refine Wp.block ?_
  obtain ⟨k_42, hk_42, hm⟩ := forL_cont hm
  refine Wp.fact 0 fun hl_45 => ?_
  replace hl_45 : path_1.length ≤ 274877906944 := by
    simp only [go_sem, simprocAttr, List.length_map] at hl_45
    omega
  refine Wp.forL (fun i_44 s => [(0, .p (.s path_1)), (1, .fn 48 [.ptr 0 0]), (5, .p (.i .i64 (i_44 : Int)))]) (fun i_44 s => [.cells 76 [.mp 1], .mp false (encM Dt.s encB m1_2)]) ?_ hm ?_
  ·
    simp only [go_sem, simprocAttr]
    try simp [encB, encI_i64, encI_u8, encS, enc_api_File, enc_api_Machine, enc_api_Service, enc_api_Setting, List.map_set, List.map_replicate]
  clear hm
  intro i_44 s hii_44 hm
  try dsimp only at hm
  try dsimp only
  refine Wp.seqW fun K5 hK5 hW5 => ?_
  refine Wp.seqR fun K6 hK6 => ?_
  simp only [go_sem, simprocAttr]
  first
    | refine hK6 _ _ ?_
    | refine ⟨by first | exact sd, hK6 _ _ ?_⟩
  refine Wp.cond rfl ⟨⟩ (fun hc5 => ?_) (fun hc5 => ?_)
  rotate_left
  · refine Wp.exit ?_
    have hm := hk_42 _ (forL_end hm (ge_nat (by first | exact hc5 | simpa using hc5)))
    try dsimp only at hm
    simp only [thenQ, blockQ, ↓reduceIte]
    refine hW2 _ _ _ _ ?_ (hcut2 () hm)
    simp only [go_sem, simprocAttr]
    try simp [encB, encI_i64, encI_u8, encS, enc_api_File, enc_api_Machine, enc_api_Service, enc_api_Setting, List.map_set, List.map_replicate]
  have hlt5 := lt_nat (by first | exact hc5 | simpa using hc5)
  have hw5 := wrap_succ hlt5 hl_45
  obtain ⟨c_46, nx_43, hxc_46, hyc_46, hnx_43, hm⟩ := forL_step hm hlt5
  clear hxc_46
  refine Wp.skip ?_
  simp only [thenQ]
  refine hK5 _ _ ?_
  refine Wp.seqW fun K7 hK7 hW7 => ?_
  refine Wp.block ?_
  obtain ⟨c_47, hm⟩ := chk_elim hm
  obtain ⟨r_48, hr_48, hm⟩ := callG_elim hm
  refine Wp.seqR fun K8 hK8 => ?_
  simp only [go_sem, simprocAttr, hw5, hyc_46]
  try refine ⟨by first | exact sd | ((repeat' apply And.intro) <;> first | assumption | omega | (simp only [List.length_append, List.length_map, List.length_cons, List.length_nil, List.length_set, List.length_replicate] at c_47 ⊢; omega)), ?_⟩
  refine Rg.callR (av := ?av9) (g := decide ((c_46.toNat : Int) = 47)) [0, 1] (fun hg => ok_disk_Check_2_i1 (List.take i_44 path_1) m1_2 _ (hr_48 hg)) ?ha9 ?hb9 ?hp9 ?hX9 ?hids9 ?hkp9 ?hok9 ?cont9
  case ha9 =>
    simp only [go_sem, simprocAttr, hw5, hyc_46]
    exact Is.mk
  case hb9 =>
    simp only [go_sem, simprocAttr, hw5, hyc_46]
    exact Is.mk
  case hp9 =>
    simp only [go_sem, simprocAttr, hw5, hyc_46]
    exact Is.mk
  case hX9 =>
    simp only [go_sem, simprocAttr, hw5, hyc_46]
    exact Is.mk
  case hids9 => simp only [go_sem, simprocAttr, hw5, hyc_46]
  case hkp9 => simp only [go_sem, simprocAttr, hw5, hyc_46]
  case hok9 => simp only [go_sem, simprocAttr, hw5, hyc_46]
  simp only [go_sem, simprocAttr, hw5, hyc_46]
  first
    | refine hK8 _ _ ?_
    | refine ⟨by first | exact sd | ((repeat' apply And.intro) <;> first | assumption | omega | (simp only [List.length_append, List.length_map, List.length_cons, List.length_nil, List.length_set, List.length_replicate] at c_47 ⊢; omega)), hK8 _ _ ?_⟩
  refine Wp.cond rfl ⟨⟩ (fun hc10 => ?_) (fun hc10 => ?_)
  · have hm := brT hm (by first | exact hc10 | simpa using hc10)
    refine Wp.seqR fun K11 hK11 => ?_
    simp only [go_sem, simprocAttr, hw5, hyc_46]
    first
      | refine hK11 _ _ ?_
      | refine ⟨by first | exact sd, hK11 _ _ ?_⟩
    refine Wp.ret ?_
    simp only [thenQ, blockQ]
    refine retQ_ret ?_
    cases hm
    simp only [go_sem, simprocAttr, hw5, hyc_46]
    try simp [encB, encI_i64, encI_u8, encS, enc_api_File, enc_api_Machine, enc_api_Service, enc_api_Setting, List.map_set, List.map_replicate]
  · have hm := brF hm (by first | exact hc10 | simpa using hc10)
    refine Wp.skip ?_
    simp only [thenQ, blockQ, ↓reduceIte]
    refine hK7 _ _ ?_
    refine Wp.region fun K12 hK12 => ?_
    simp only [go_sem, simprocAttr, hw5, hyc_46]
    first
      | refine hK12 _ _ ?_
      | refine ⟨by first | exact sd, hK12 _ _ ?_⟩
    simp only [thenQ, blockQ, ↓reduceIte]
    refine ⟨(), hlt5, hnx_43 _ hm, ?_⟩
    simp only [go_sem, simprocAttr, hw5, hyc_46]
    try simp [encB, encI_i64, encI_u8, encS, enc_api_File, enc_api_Machine, enc_api_Service, enc_api_Setting, List.map_set, List.map_replicate]
set_option maxRecDepth 100000 in
set_option maxHeartbeats 4000000 in
theorem ok_disk_settingFault_i2 (s_1 : api_Setting) (z : Int) (hm : disk_settingFault_i2 s_1 = some z) : Does Tryd.prog 44 [.agg [.p (.s s_1.Key), .p (.s s_1.Value)], .fn 50 []] [] (fun r X => r = .p (.i .i64 z) ∧ X = []) := by
  unfold disk_settingFault_i2 at hm
  refine Does.of_wp 0 14 [.tmp 4] Tryd.func44 rfl (by decide) rfl rfl (Nat.le_of_ble_eq_true rfl) fun B => ?_
  refine Wp.seqR fun K1 hK1 => ?_
  simp only [go_sem, simprocAttr]
  first
    | refine hK1 _ _ ?_
    | refine ⟨by first | exact sd, hK1 _ _ ?_⟩
  refine Wp.seqW fun K2 hK2 hW2 => ?_
  obtain ⟨r_2, hr_2, hm⟩ := call_elim hm
  refine Wp.seqR fun K3 hK3 => ?_
  simp only [go_sem, simprocAttr]
  try refine ⟨by first | exact sd, ?_⟩
  refine Rg.callX (av := ?av4) (g := true) (fun hg => ok_ver_IsPath s_1.Key _ hr_2) ?ha4 ?hb4 ?hp4 ?hok4 ?hf4 ?cont4
  case ha4 =>
    simp only [go_sem, simprocAttr]
    exact Is.mk
  case hb4 =>
    simp only [go_sem, simprocAttr]
    exact Is.mk
  case hp4 =>
    simp only [go_sem, simprocAttr]
    exact Is.mk
  case hok4 =>
    simp only [go_sem, simprocAttr]
  case hf4 =>
    simp only [go_sem, simprocAttr]
    exact Is.mk
  intro hv4
  simp only [go_sem, simprocAttr]
  first
    | refine hK3 _ _ ?_
    | refine ⟨by first | exact sd, hK3 _ _ ?_⟩
  refine Wp.cond rfl ⟨⟩ (fun hc5 => ?_) (fun hc5 => ?_)
  · have hm := brT hm (by first | exact hc5 | simpa using hc5)
    refine Wp.seqR fun K6 hK6 => ?_
    simp only [go_sem, simprocAttr]
    first
      | refine hK6 _ _ ?_
      | refine ⟨by first | exact sd, hK6 _ _ ?_⟩
    refine Wp.ret ?_
    simp only [thenQ, blockQ]
    refine retQ_ret ?_
    cases hm
    simp only [go_sem, simprocAttr]
    try simp [encB, encI_i64, encI_u8, encS, enc_api_File, enc_api_Machine, enc_api_Service, enc_api_Setting, List.map_set, List.map_replicate]
  · have hm := brF hm (by first | exact hc5 | simpa using hc5)
    refine Wp.skip ?_
    simp only [thenQ, blockQ, ↓reduceIte]
    refine hK2 _ _ ?_
    refine Wp.seqW fun K7 hK7 hW7 => ?_
    obtain ⟨r_3, hr_3, hm⟩ := call_elim hm
    refine Wp.seqR fun K8 hK8 => ?_
    simp only [go_sem, simprocAttr]
    try refine ⟨by first | exact sd, ?_⟩
    refine Rg.callX (av := ?av9) (g := true) (fun hg => ok_ver_IsValue s_1.Value _ hr_3) ?ha9 ?hb9 ?hp9 ?hok9 ?hf9 ?cont9
    case ha9 =>
      simp only [go_sem, simprocAttr]
      exact Is.mk
    case hb9 =>
      simp only [go_sem, simprocAttr]
      exact Is.mk
    case hp9 =>
      simp only [go_sem, simprocAttr]
      exact Is.mk
    case hok9 =>
      simp only [go_sem, simprocAttr]
    case hf9 =>
      simp only [go_sem, simprocAttr]
      exact Is.mk
    intro hv9
    simp only [go_sem, simprocAttr]
    first
      | refine hK8 _ _ ?_
      | refine ⟨by first | exact sd, hK8 _ _ ?_⟩
    refine Wp.cond rfl ⟨⟩ (fun hc10 => ?_) (fun hc10 => ?_)
    · have hm := brT hm (by first | exact hc10 | simpa using hc10)
      refine Wp.seqR fun K11 hK11 => ?_
      simp only [go_sem, simprocAttr]
      first
        | refine hK11 _ _ ?_
        | refine ⟨by first | exact sd, hK11 _ _ ?_⟩
      refine Wp.ret ?_
      simp only [thenQ, blockQ]
      refine retQ_ret ?_
      cases hm
      simp only [go_sem, simprocAttr]
      try simp [encB, encI_i64, encI_u8, encS, enc_api_File, enc_api_Machine, enc_api_Service, enc_api_Setting, List.map_set, List.map_replicate]
    · have hm := brF hm (by first | exact hc10 | simpa using hc10)
      refine Wp.skip ?_
      simp only [thenQ, blockQ, ↓reduceIte]
      refine hK7 _ _ ?_
      refine Wp.seqR fun K12 hK12 => ?_
      simp only [go_sem, simprocAttr]
      first
        | refine hK12 _ _ ?_
        | refine ⟨by first | exact sd, hK12 _ _ ?_⟩
      refine Wp.ret ?_
      refine retQ_ret ?_
      cases hm
      simp only [go_sem, simprocAttr]
      try simp [encB, encI_i64, encI_u8, encS, enc_api_File, enc_api_Machine, enc_api_Service, enc_api_Setting, List.map_set, List.map_replicate]
set_option maxRecDepth 100000 in
set_option maxHeartbeats 4000000 in
theorem ok_disk_Check_3 (s_1 : api_Setting) (z : Int) (hm : disk_Check_3 s_1 = some z) : Does Tryd.prog 49 [.agg [.p (.s s_1.Key), .p (.s s_1.Value)]] [] (fun r X => r = .p (.i .i64 z) ∧ X = []) := by
  unfold disk_Check_3 at hm
  refine Does.of_wp 0 5 [.tmp 2] Tryd.func49 rfl (by decide) rfl rfl (Nat.le_of_ble_eq_true rfl) fun B => ?_
  refine Wp.seqR fun K1 hK1 => ?_
  simp only [go_sem, simprocAttr]
  first
    | refine hK1 _ _ ?_
    | refine ⟨by first | exact sd, hK1 _ _ ?_⟩
  obtain ⟨r_2, hr_2, hm⟩ := call_elim hm
  refine Wp.seqR fun K2 hK2 => ?_
  simp only [go_sem, simprocAttr]
  try refine ⟨by first | exact sd, ?_⟩
  refine Rg.callX (av := ?av3) (g := true) (fun hg => ok_disk_settingFault_i2 s_1 _ hr_2) ?ha3 ?hb3 ?hp3 ?hok3 ?hf3 ?cont3
  case ha3 =>
    simp only [go_sem, simprocAttr]
    exact Is.mk
  case hb3 =>
    simp only [go_sem, simprocAttr]
    exact Is.mk
  case hp3 =>
    simp only [go_sem, simprocAttr]
    exact Is.mk
  case hok3 =>
    simp only [go_sem, simprocAttr]
  case hf3 =>
    simp only [go_sem, simprocAttr]
    exact Is.mk
  intro hv3
  simp only [go_sem, simprocAttr]
  first
    | refine hK2 _ _ ?_
    | refine ⟨by first | exact sd, hK2 _ _ ?_⟩
  refine Wp.ret ?_
  refine retQ_ret ?_
  cases hm
  simp only [go_sem, simprocAttr]
  try simp [encB, encI_i64, encI_u8, encS, enc_api_File, enc_api_Machine, enc_api_Service, enc_api_Setting, List.map_set, List.map_replicate]
set_option maxRecDepth 100000 in
set_option maxHeartbeats 4000000 in
theorem ok_disk_eachFault_api_Setting_i2 (l_1 : List api_Setting) (z : Int) (hm : disk_eachFault_api_Setting_i2 l_1 = some z) : Does Tryd.prog 42 [.p (.l (List.map enc_api_Setting l_1)), .fn 49 [], .fn 45 []] [] (fun r X => r = .p (.i .i64 z) ∧ X = []) := by
  unfold disk_eachFault_api_Setting_i2 at hm
  refine Does.of_wp 0 39 [.tmp 6] Tryd.func42 rfl (by decide) rfl rfl (Nat.le_of_ble_eq_true rfl) fun B => ?_
  refine Wp.seqR fun K1 hK1 => ?_
  simp only [go_sem, simprocAttr]
  first
    | refine hK1 _ _ ?_
    | refine ⟨by first | exact sd, hK1 _ _ ?_⟩
  refine Wp.seqW fun K2 hK2 hW2 => ?_
  obtain ⟨k_19, hk_19, hm⟩ := jp_elim hm
  have hcut2 : ∀ s, k_19 s = some z → K2 [] [] := by
    intro s hs
    have hm := hk_19 _ hs
    clear hs
    try dsimp only at hm
    try dsimp only
    refine hK2 _ _ ?_
    refine Wp.seqR fun K3 hK3 => ?_
    simp only [go_sem, simprocAttr]
    first
      | refine hK3 _ _ ?_
      | refine ⟨by first | exact sd, hK3 _ _ ?_⟩
    refine Wp.ret ?_
    refine retQ_ret ?_
    cases hm
    simp only [go_sem, simprocAttr]
    try simp [encB, encI_i64, encI_u8, encS, enc_api_File, enc_api_Machine, enc_api_Service, enc_api_Setting, List.map_set, List.map_replicate]
  clear hK2 hk_19
  refine Wp.seqR fun K4 hK4 => ?_
  simp only [go_sem, simprocAttr]
  first
    | refine hK4 _ _ ?_
    | refine ⟨by first | exact sd, hK4 _ _ ?_⟩
  refine Wp.block ?_
  obtain ⟨k_27, hk_27, hm⟩ := forL_cont hm
  refine Wp.fact 0 fun hl_30 => ?_
  replace hl_30 : l_1.length ≤ 274877906944 := by
    simp only [go_sem, simprocAttr, List.length_map] at hl_30
    omega
  refine Wp.forL (fun i_29 s => [(0, .p (.l (List.map enc_api_Setting l_1))), (1, .fn 49 []), (2, .fn 45 []), (10, .p (.l (List.map enc_api_Setting l_1))), (11, .p (.i .i64 (l_1.length : Int))), (12, .p (.i .i64 (i_29 : Int)))]) (fun i_29 s => []) ?_ hm ?_
  ·
    simp only [go_sem, simprocAttr]
    try simp [encB, encI_i64, encI_u8, encS, enc_api_File, enc_api_Machine, enc_api_Service, enc_api_Setting, List.map_set, List.map_replicate]
  clear hm
  intro i_29 s hii_29 hm
  try dsimp only at hm
  try dsimp only
  refine Wp.seqR fun K5 hK5 => ?_
  simp only [go_sem, simprocAttr]
  first
    | refine hK5 _ _ ?_
    | refine ⟨by first | exact sd, hK5 _ _ ?_⟩
  refine Wp.seqW fun K6 hK6 hW6 => ?_
  refine Wp.cond rfl ⟨⟩ (fun hc6 => ?_) (fun hc6 => ?_)
  rotate_left
  · refine Wp.exit ?_
    have hm := hk_27 _ (forL_end hm (ge_nat (by first | exact hc6 | simpa using hc6)))
    try dsimp only at hm
    simp only [thenQ, blockQ, ↓reduceIte]
    refine hW2 _ _ _ _ ?_ (hcut2 () hm)
    simp only [go_sem, simprocAttr]
    try simp [encB, encI_i64, encI_u8, encS, enc_api_File, enc_api_Machine, enc_api_Service, enc_api_Setting, List.map_set, List.map_replicate]
  have hlt6 := lt_nat (by first | exact hc6 | simpa using hc6)
  have hw6 := wrap_succ hlt6 hl_30
  obtain ⟨s_31, nx_28, hxs_31, hys_31, hnx_28, hm⟩ := forL_step hm hlt6
  replace hxs_31 := hxs_31 enc_api_Setting
  refine Wp.skip ?_
  simp only [thenQ]
  refine hK6 _ _ ?_
  refine Wp.seqW fun K7 hK7 hW7 => ?_
  refine Wp.block ?_
  refine Wp.seqR fun K8 hK8 => ?_
  simp only [go_sem, simprocAttr, hw6, hxs_31]
  first
    | refine hK8 _ _ ?_
    | refine ⟨by first | exact sd, hK8 _ _ ?_⟩
  refine Wp.seqW fun K9 hK9 hW9 => ?_
  obtain ⟨r_32, hr_32, hm⟩ := call_elim hm
  refine Wp.seqR fun K10 hK10 => ?_
  simp only [go_sem, simprocAttr, hw6, hxs_31]
  try refine ⟨by first | exact sd, ?_⟩
  refine Rg.callX (av := ?av11) (g := true) (fun hg => ok_disk_Check_3 s_31 _ hr_32) ?ha11 ?hb11 ?hp11 ?hok11 ?hf11 ?cont11
  case ha11 =>
    simp only [go_sem, simprocAttr, hw6, hxs_31]
    exact Is.mk
  case hb11 =>
    simp only [go_sem, simprocAttr, hw6, hxs_31]
    exact Is.mk
  case hp11 =>
    simp only [go_sem, simprocAttr, hw6, hxs_31]
    exact Is.mk
  case hok11 =>
    simp only [go_sem, simprocAttr, hw6, hxs_31]
  case hf11 =>
    simp only [go_sem, simprocAttr, hw6, hxs_31]
    exact Is.mk
  intro hv11
  simp only [go_sem, simprocAttr, hw6, hxs_31]
  first
    | refine hK10 _ _ ?_
    | refine ⟨by first | exact sd, hK10 _ _ ?_⟩
  refine Wp.seqR fun K12 hK12 => ?_
  simp only [go_sem, simprocAttr, hw6, hxs_31]
  first
    | refine hK12 _ _ ?_
    | refine ⟨by first | exact sd, hK12 _ _ ?_⟩
  refine Wp.cond rfl ⟨⟩ (fun hc13 => ?_) (fun hc13 => ?_)
  · have hm := brT hm (by first | exact hc13 | simpa using hc13)
    refine Wp.seqR fun K14 hK14 => ?_
    simp only [go_sem, simprocAttr, hw6, hxs_31]
    first
      | refine hK14 _ _ ?_
      | refine ⟨by first | exact sd, hK14 _ _ ?_⟩
    refine Wp.ret ?_
    simp only [thenQ, blockQ]
    refine retQ_ret ?_
    cases hm
    simp only [go_sem, simprocAttr, hw6, hxs_31]
    try simp [encB, encI_i64, encI_u8, encS, enc_api_File, enc_api_Machine, enc_api_Service, enc_api_Setting, List.map_set, List.map_replicate]
  · have hm := brF hm (by first | exact hc13 | simpa using hc13)
    refine Wp.skip ?_
    simp only [thenQ, blockQ, ↓reduceIte]
    refine hK9 _ _ ?_
    obtain ⟨r_33, hr_33, hm⟩ := callG_elim hm
    obtain ⟨c_34, hm⟩ := chk_elim hm
    obtain ⟨r_35, hr_35, hm⟩ := callG_elim hm
    have hr_36 := getD_enc (l := l_1) (e := enc_api_Setting) (d := (api_Setting.mk [] [])) (i := (IntKind.i64.wrap ((i_29 : Int) - 1)).toNat)
    simp only [enc_api_Setting, List.map_nil] at hr_36
    refine Wp.seqD (plan := [(0, none), (1, none), (2, none), (3, none), (4, none), (5, none), (6, none), (7, none), (8, none), (9, none), (10, none), (11, none), (12, none), (13, none), (14, none)]) (by kernel_rfl) rfl (by kernel_rfl) fun K15 hK15 => ?_
    simp only [go_sem, simprocAttr, hw6, hxs_31, hr_36]
    try refine ⟨by first | exact sd | ((repeat' apply And.intro) <;> first | assumption | omega | (simp only [List.length_append, List.length_map, List.length_cons, List.length_nil, List.length_set, List.length_replicate] at c_34 ⊢; omega)), ?_⟩
    refine Dr.callF (av := ?av16) (g := decide (0 < (i_29 : Int))) (o := ?o16) (fun hg => ok_disk_keyOf s_31 _ (hr_33 hg)) ?hk16 ?ha16 ?hb16 ?hp16 ?hok16 ?hf16 ?cont16
    case hk16 =>
      simp only [go_sem, simprocAttr, hw6, hxs_31, hr_36]
      exact Is.mk
    case ha16 =>
      simp only [go_sem, simprocAttr, hw6, hxs_31, hr_36]
      exact Is.mk
    case hb16 =>
      simp only [go_sem, simprocAttr, hw6, hxs_31, hr_36]
      exact Is.mk
    case hp16 =>
      simp only [go_sem, simprocAttr, hw6, hxs_31, hr_36]
      exact Is.mk
    case hok16 =>
      simp only [go_sem, simprocAttr, hw6, hxs_31, hr_36]
    case hf16 =>
      simp only [go_sem, simprocAttr, hw6, hxs_31, hr_36]
      exact Is.mk
    simp only [go_sem, simprocAttr, hw6, hxs_31, hr_36]
    try refine ⟨by first | exact sd | ((repeat' apply And.intro) <;> first | assumption | omega | (simp only [List.length_append, List.length_map, List.length_cons, List.length_nil, List.length_set, List.length_replicate] at c_34 ⊢; omega)), ?_⟩
    refine Dr.callF (av := ?av17) (g := decide (0 < (i_29 : Int))) (o := ?o17) (fun hg => ok_disk_keyOf (api_Setting.mk ((l_1.getD ((IntKind.i64.wrap ((i_29 : Int) - 1)).toNat) (api_Setting.mk [] [])).Key) ((l_1.getD ((IntKind.i64.wrap ((i_29 : Int) - 1)).toNat) (api_Setting.mk [] [])).Value)) _ (hr_35 hg)) ?hk17 ?ha17 ?hb17 ?hp17 ?hok17 ?hf17 ?cont17
    case hk17 =>
      simp only [go_sem, simprocAttr, hw6, hxs_31, hr_36]
      exact Is.mk
    case ha17 =>
      simp only [go_sem, simprocAttr, hw6, hxs_31, hr_36]
      exact Is.mk
    case hb17 =>
      simp only [go_sem, simprocAttr, hw6, hxs_31, hr_36]
      exact Is.mk
    case hp17 =>
      simp only [go_sem, simprocAttr, hw6, hxs_31, hr_36]
      exact Is.mk
    case hok17 =>
      simp only [go_sem, simprocAttr, hw6, hxs_31, hr_36]
    case hf17 =>
      simp only [go_sem, simprocAttr, hw6, hxs_31, hr_36]
      exact Is.mk
    simp only [go_sem, simprocAttr, hw6, hxs_31, hr_36]
    first
      | refine hK15 _ _ ?_
      | refine ⟨by first | exact sd | ((repeat' apply And.intro) <;> first | assumption | omega | (simp only [List.length_append, List.length_map, List.length_cons, List.length_nil, List.length_set, List.length_replicate] at c_34 ⊢; omega)), hK15 _ _ ?_⟩
    refine Wp.cond rfl ⟨⟩ (fun hc18 => ?_) (fun hc18 => ?_)
    · have hm := brT hm (by first | exact hc18 | simpa using hc18)
      refine Wp.seqR fun K19 hK19 => ?_
      simp only [go_sem, simprocAttr, hw6, hxs_31]
      first
        | refine hK19 _ _ ?_
        | refine ⟨by first | exact sd, hK19 _ _ ?_⟩
      refine Wp.ret ?_
      simp only [thenQ, blockQ]
      refine retQ_ret ?_
      cases hm
      simp only [go_sem, simprocAttr, hw6, hxs_31]
      try simp [encB, encI_i64, encI_u8, encS, enc_api_File, enc_api_Machine, enc_api_Service, enc_api_Setting, List.map_set, List.map_replicate]
    · have hm := brF hm (by first | exact hc18 | simpa using hc18)
      refine Wp.skip ?_
      simp only [thenQ, blockQ, ↓reduceIte]
      refine hK7 _ _ ?_
      refine Wp.region fun K20 hK20 => ?_
      simp only [go_sem, simprocAttr, hw6, hxs_31]
      first
        | refine hK20 _ _ ?_
        | refine ⟨by first | exact sd, hK20 _ _ ?_⟩
      simp only [thenQ, blockQ, ↓reduceIte]
      refine ⟨(), hlt6, hnx_28 _ hm, ?_⟩
      simp only [go_sem, simprocAttr, hw6, hxs_31]
      try simp [encB, encI_i64, encI_u8, encS, enc_api_File, enc_api_Machine, enc_api_Service, enc_api_Setting, List.map_set, List.map_replicate]
set_option maxRecDepth 100000 in
set_option maxHeartbeats 4000000 in
theorem ok_disk_serviceFault (s_1 : api_Service) (z : Int) (hm : disk_serviceFault s_1 = some z) : Does Tryd.prog 52 [.agg [.p (.s s_1.Name), .p (.s s_1.Path), .p (.b s_1.Auto), .p (.b s_1.On)]] [] (fun r X => r = .p (.i .i64 z) ∧ X = []) := by
  unfold disk_serviceFault at hm
  refine Does.of_wp 0 13 [.tmp 2] Tryd.func52 rfl (by decide) rfl rfl (Nat.le_of_ble_eq_true rfl) fun B => ?_
  refine Wp.seqR fun K1 hK1 => ?_
  simp only [go_sem, simprocAttr]
  first
    | refine hK1 _ _ ?_
    | refine ⟨by first | exact sd, hK1 _ _ ?_⟩
  refine Wp.seqW fun K2 hK2 hW2 => ?_
  obtain ⟨r_2, hr_2, hm⟩ := call_elim hm
  obtain ⟨r_3, hr_3, hm⟩ := callG_elim hm
  refine Wp.seqR fun K3 hK3 => ?_
  simp only [go_sem, simprocAttr]
  try refine ⟨by first | exact sd, ?_⟩
  refine Rg.callX (av := ?av4) (g := true) (fun hg => ok_ver_IsName s_1.Name _ hr_2) ?ha4 ?hb4 ?hp4 ?hok4 ?hf4 ?cont4
  case ha4 =>
    simp only [go_sem, simprocAttr]
    exact Is.mk
  case hb4 =>
    simp only [go_sem, simprocAttr]
    exact Is.mk
  case hp4 =>
    simp only [go_sem, simprocAttr]
    exact Is.mk
  case hok4 =>
    simp only [go_sem, simprocAttr]
  case hf4 =>
    simp only [go_sem, simprocAttr]
    exact Is.mk
  intro hv4
  simp only [go_sem, simprocAttr]
  try refine ⟨by first | exact sd, ?_⟩
  refine Rg.callX (av := ?av5) (g := !(!r_2)) (fun hg => ok_ver_IsPath s_1.Path _ (hr_3 hg)) ?ha5 ?hb5 ?hp5 ?hok5 ?hf5 ?cont5
  case ha5 =>
    simp only [go_sem, simprocAttr]
    exact Is.mk
  case hb5 =>
    simp only [go_sem, simprocAttr]
    exact Is.mk
  case hp5 =>
    simp only [go_sem, simprocAttr]
    exact Is.mk
  case hok5 =>
    simp only [go_sem, simprocAttr]
  case hf5 =>
    simp only [go_sem, simprocAttr]
    exact Is.mk
  intro hv5
  simp only [go_sem, simprocAttr]
  first
    | refine hK3 _ _ ?_
    | refine ⟨by first | exact sd, hK3 _ _ ?_⟩
  refine Wp.cond rfl ⟨⟩ (fun hc6 => ?_) (fun hc6 => ?_)
  · have hm := brT hm (by first | exact hc6 | simpa using hc6)
    refine Wp.seqR fun K7 hK7 => ?_
    simp only [go_sem, simprocAttr]
    first
      | refine hK7 _ _ ?_
      | refine ⟨by first | exact sd, hK7 _ _ ?_⟩
    refine Wp.ret ?_
    simp only [thenQ, blockQ]
    refine retQ_ret ?_
    cases hm
    simp only [go_sem, simprocAttr]
    try simp [encB, encI_i64, encI_u8, encS, enc_api_File, enc_api_Machine, enc_api_Service, enc_api_Setting, List.map_set, List.map_replicate]
  · have hm := brF hm (by first | exact hc6 | simpa using hc6)
    refine Wp.skip ?_
    simp only [thenQ, blockQ, ↓reduceIte]
    refine hK2 _ _ ?_
    refine Wp.seqR fun K8 hK8 => ?_
    simp only [go_sem, simprocAttr]
    first
      | refine hK8 _ _ ?_
      | refine ⟨by first | exact sd, hK8 _ _ ?_⟩
    refine Wp.ret ?_
    refine retQ_ret ?_
    cases hm
    simp only [go_sem, simprocAttr]
    try simp [encB, encI_i64, encI_u8, encS, enc_api_File, enc_api_Machine, enc_api_Service, enc_api_Setting, List.map_set, List.map_replicate]
set_option maxRecDepth 100000 in
set_option maxHeartbeats 4000000 in
theorem ok_disk_nameOf (s_1 : api_Service) (z : Str) (hm : disk_nameOf s_1 = some z) : Does Tryd.prog 53 [.agg [.p (.s s_1.Name), .p (.s s_1.Path), .p (.b s_1.Auto), .p (.b s_1.On)]] [] (fun r X => r = .p (.s z) ∧ X = []) := by
  unfold disk_nameOf at hm
  refine Does.of_wp 0 5 [.tmp 2] Tryd.func53 rfl (by decide) rfl rfl (Nat.le_of_ble_eq_true rfl) fun B => ?_
  refine Wp.seqR fun K1 hK1 => ?_
  simp only [go_sem, simprocAttr]
  first
    | refine hK1 _ _ ?_
    | refine ⟨by first | exact sd, hK1 _ _ ?_⟩
  refine Wp.seqR fun K2 hK2 => ?_
  simp only [go_sem, simprocAttr]
  first
    | refine hK2 _ _ ?_
    | refine ⟨by first | exact sd, hK2 _ _ ?_⟩
  refine Wp.ret ?_
  refine retQ_ret ?_
  cases hm
  simp only [go_sem, simprocAttr]
  try simp [encB, encI_i64, encI_u8, encS, enc_api_File, enc_api_Machine, enc_api_Service, enc_api_Setting, List.map_set, List.map_replicate]
set_option maxRecDepth 100000 in
set_option maxHeartbeats 4000000 in
theorem ok_disk_eachFault_api_Service_i1 (l_1 : List api_Service) (z : Int) (hm : disk_eachFault_api_Service_i1 l_1 = some z) : Does Tryd.prog 51 [.p (.l (List.map enc_api_Service l_1)), .fn 52 [], .fn 53 []] [] (fun r X => r = .p (.i .i64 z) ∧ X = []) := by
  unfold disk_eachFault_api_Service_i1 at hm
  refine Does.of_wp 0 39 [.tmp 6] Tryd.func51 rfl (by decide) rfl rfl (Nat.le_of_ble_eq_true rfl) fun B => ?_
  refine Wp.seqR fun K1 hK1 => ?_
  simp only [go_sem, simprocAttr]
  first
    | refine hK1 _ _ ?_
    | refine ⟨by first | exact sd, hK1 _ _ ?_⟩
  refine Wp.seqW fun K2 hK2 hW2 => ?_
  obtain ⟨k_19, hk_19, hm⟩ := jp_elim hm
  have hcut2 : ∀ s, k_19 s = some z → K2 [] [] := by
    intro s hs
    have hm := hk_19 _ hs
    clear hs
    try dsimp only at hm
    try dsimp only
    refine hK2 _ _ ?_
    refine Wp.seqR fun K3 hK3 => ?_
    simp only [go_sem, simprocAttr]
    first
      | refine hK3 _ _ ?_
      | refine ⟨by first | exact sd, hK3 _ _ ?_⟩
    refine Wp.ret ?_
    refine retQ_ret ?_
    cases hm
    simp only [go_sem, simprocAttr]
    try simp [encB, encI_i64, encI_u8, encS, enc_api_File, enc_api_Machine, enc_api_Service, enc_api_Setting, List.map_set, List.map_replicate]
  clear hK2 hk_19
  refine Wp.seqR fun K4 hK4 => ?_
  simp only [go_sem, simprocAttr]
  first
    | refine hK4 _ _ ?_
    | refine ⟨by first | exact sd, hK4 _ _ ?_⟩
  refine Wp.block ?_
  obtain ⟨k_27, hk_27, hm⟩ := forL_cont hm
  refine Wp.fact 0 fun hl_30 => ?_
  replace hl_30 : l_1.length ≤ 274877906944 := by
    simp only [go_sem, simprocAttr, List.length_map] at hl_30
    omega
  refine Wp.forL (fun i_29 s => [(0, .p (.l (List.map enc_api_Service l_1))), (1, .fn 52 []), (2, .fn 53 []), (10, .p (.l (List.map enc_api_Service l_1))), (11, .p (.i .i64 (l_1.length : Int))), (12, .p (.i .i64 (i_29 : Int)))]) (fun i_29 s => []) ?_ hm ?_
  ·
    simp only [go_sem, simprocAttr]
    try simp [encB, encI_i64, encI_u8, encS, enc_api_File, enc_api_Machine, enc_api_Service, enc_api_Setting, List.map_set, List.map_replicate]
  clear hm
  intro i_29 s hii_29 hm
  try dsimp only at hm
  try dsimp only
  refine Wp.seqR fun K5 hK5 => ?_
  simp only [go_sem, simprocAttr]
  first
    | refine hK5 _ _ ?_
    | refine ⟨by first | exact sd, hK5 _ _ ?_⟩
  refine Wp.seqW fun K6 hK6 hW6 => ?_
  refine Wp.cond rfl ⟨⟩ (fun hc6 => ?_) (fun hc6 => ?_)
  rotate_left
  · refine Wp.exit ?_
    have hm := hk_27 _ (forL_end hm (ge_nat (by first | exact hc6 | simpa using hc6)))
    try dsimp only at hm
    simp only [thenQ, blockQ, ↓reduceIte]
    refine hW2 _ _ _ _ ?_ (hcut2 () hm)
    simp only [go_sem, simprocAttr]
    try simp [encB, encI_i64, encI_u8, encS, enc_api_File, enc_api_Machine, enc_api_Service, enc_api_Setting, List.map_set, List.map_replicate]
  have hlt6 := lt_nat (by first | exact hc6 | simpa using hc6)
  have hw6 := wrap_succ hlt6 hl_30
  obtain ⟨s_31, nx_28, hxs_31, hys_31, hnx_28, hm⟩ := forL_step hm hlt6
  replace hxs_31 := hxs_31 enc_api_Service
  refine Wp.skip ?_
  simp only [thenQ]
  refine hK6 _ _ ?_
  refine Wp.seqW fun K7 hK7 hW7 => ?_
  refine Wp.block ?_
  refine Wp.seqR fun K8 hK8 => ?_
  simp only [go_sem, simprocAttr, hw6, hxs_31]
  first
    | refine hK8 _ _ ?_
    | refine ⟨by first | exact sd, hK8 _ _ ?_⟩
  refine Wp.seqW fun K9 hK9 hW9 => ?_
  obtain ⟨r_32, hr_32, hm⟩ := call_elim hm
  refine Wp.seqR fun K10 hK10 => ?_
  simp only [go_sem, simprocAttr, hw6, hxs_31]
  try refine ⟨by first | exact sd, ?_⟩
  refine Rg.callX (av := ?av11) (g := true) (fun hg => ok_disk_serviceFault s_31 _ hr_32) ?ha11 ?hb11 ?hp11 ?hok11 ?hf11 ?cont11
  case ha11 =>
    simp only [go_sem, simprocAttr, hw6, hxs_31]
    exact Is.mk
  case hb11 =>
    simp only [go_sem, simprocAttr, hw6, hxs_31]
    exact Is.mk
  case hp11 =>
    simp only [go_sem, simprocAttr, hw6, hxs_31]
    exact Is.mk
  case hok11 =>
    simp only [go_sem, simprocAttr, hw6, hxs_31]
  case hf11 =>
    simp only [go_sem, simprocAttr, hw6, hxs_31]
    exact Is.mk
  intro hv11
  simp only [go_sem, simprocAttr, hw6, hxs_31]
  first
    | refine hK10 _ _ ?_
    | refine ⟨by first | exact sd, hK10 _ _ ?_⟩
  refine Wp.seqR fun K12 hK12 => ?_
  simp only [go_sem, simprocAttr, hw6, hxs_31]
  first
    | refine hK12 _ _ ?_
    | refine ⟨by first | exact sd, hK12 _ _ ?_⟩
  refine Wp.cond rfl ⟨⟩ (fun hc13 => ?_) (fun hc13 => ?_)
  · have hm := brT hm (by first | exact hc13 | simpa using hc13)
    refine Wp.seqR fun K14 hK14 => ?_
    simp only [go_sem, simprocAttr, hw6, hxs_31]
    first
      | refine hK14 _ _ ?_
      | refine ⟨by first | exact sd, hK14 _ _ ?_⟩
    refine Wp.ret ?_
    simp only [thenQ, blockQ]
    refine retQ_ret ?_
    cases hm
    simp only [go_sem, simprocAttr, hw6, hxs_31]
    try simp [encB, encI_i64, encI_u8, encS, enc_api_File, enc_api_Machine, enc_api_Service, enc_api_Setting, List.map_set, List.map_replicate]
  · have hm := brF hm (by first | exact hc13 | simpa using hc13)
    refine Wp.skip ?_
    simp only [thenQ, blockQ, ↓reduceIte]
    refine hK9 _ _ ?_
    obtain ⟨r_33, hr_33, hm⟩ := callG_elim hm
    obtain ⟨c_34, hm⟩ := chk_elim hm
    obtain ⟨r_35, hr_35, hm⟩ := callG_elim hm
    have hr_36 := getD_enc (l := l_1) (e := enc_api_Service) (d := (api_Service.mk [] [] false false)) (i := (IntKind.i64.wrap ((i_29 : Int) - 1)).toNat)
    simp only [enc_api_Service, List.map_nil] at hr_36
    refine Wp.seqD (plan := [(0, none), (1, none), (2, none), (3, none), (4, none), (5, none), (6, none), (7, none), (8, none), (9, none), (10, none), (11, none), (12, none), (13, none), (14, none)]) (by kernel_rfl) rfl (by kernel_rfl) fun K15 hK15 => ?_
    simp only [go_sem, simprocAttr, hw6, hxs_31, hr_36]
    try refine ⟨by first | exact sd | ((repeat' apply And.intro) <;> first | assumption | omega | (simp only [List.length_append, List.length_map, List.length_cons, List.length_nil, List.length_set, List.length_replicate] at c_34 ⊢; omega)), ?_⟩
    refine Dr.callF (av := ?av16) (g := decide (0 < (i_29 : Int))) (o := ?o16) (fun hg => ok_disk_nameOf s_31 _ (hr_33 hg)) ?hk16 ?ha16 ?hb16 ?hp16 ?hok16 ?hf16 ?cont16
    case hk16 =>
      simp only [go_sem, simprocAttr, hw6, hxs_31, hr_36]
      exact Is.mk
    case ha16 =>
      simp only [go_sem, simprocAttr, hw6, hxs_31, hr_36]
      exact Is.mk
    case hb16 =>
      simp only [go_sem, simprocAttr, hw6, hxs_31, hr_36]
      exact Is.mk
    case hp16 =>
      simp only [go_sem, simprocAttr, hw6, hxs_31, hr_36]
      exact Is.mk
    case hok16 =>
      simp only [go_sem, simprocAttr, hw6, hxs_31, hr_36]
    case hf16 =>
      simp only [go_sem, simprocAttr, hw6, hxs_31, hr_36]
      exact Is.mk
    simp only [go_sem, simprocAttr, hw6, hxs_31, hr_36]
    try refine ⟨by first | exact sd | ((repeat' apply And.intro) <;> first | assumption | omega | (simp only [List.length_append, List.length_map, List.length_cons, List.length_nil, List.length_set, List.length_replicate] at c_34 ⊢; omega)), ?_⟩
    refine Dr.callF (av := ?av17) (g := decide (0 < (i_29 : Int))) (o := ?o17) (fun hg => ok_disk_nameOf (api_Service.mk ((l_1.getD ((IntKind.i64.wrap ((i_29 : Int) - 1)).toNat) (api_Service.mk [] [] false false)).Name) ((l_1.getD ((IntKind.i64.wrap ((i_29 : Int) - 1)).toNat) (api_Service.mk [] [] false false)).Path) ((l_1.getD ((IntKind.i64.wrap ((i_29 : Int) - 1)).toNat) (api_Service.mk [] [] false false)).Auto) ((l_1.getD ((IntKind.i64.wrap ((i_29 : Int) - 1)).toNat) (api_Service.mk [] [] false false)).On)) _ (hr_35 hg)) ?hk17 ?ha17 ?hb17 ?hp17 ?hok17 ?hf17 ?cont17
    case hk17 =>
      simp only [go_sem, simprocAttr, hw6, hxs_31, hr_36]
      exact Is.mk
    case ha17 =>
      simp only [go_sem, simprocAttr, hw6, hxs_31, hr_36]
      exact Is.mk
    case hb17 =>
      simp only [go_sem, simprocAttr, hw6, hxs_31, hr_36]
      exact Is.mk
    case hp17 =>
      simp only [go_sem, simprocAttr, hw6, hxs_31, hr_36]
      exact Is.mk
    case hok17 =>
      simp only [go_sem, simprocAttr, hw6, hxs_31, hr_36]
    case hf17 =>
      simp only [go_sem, simprocAttr, hw6, hxs_31, hr_36]
      exact Is.mk
    simp only [go_sem, simprocAttr, hw6, hxs_31, hr_36]
    first
      | refine hK15 _ _ ?_
      | refine ⟨by first | exact sd | ((repeat' apply And.intro) <;> first | assumption | omega | (simp only [List.length_append, List.length_map, List.length_cons, List.length_nil, List.length_set, List.length_replicate] at c_34 ⊢; omega)), hK15 _ _ ?_⟩
    refine Wp.cond rfl ⟨⟩ (fun hc18 => ?_) (fun hc18 => ?_)
    · have hm := brT hm (by first | exact hc18 | simpa using hc18)
      refine Wp.seqR fun K19 hK19 => ?_
      simp only [go_sem, simprocAttr, hw6, hxs_31]
      first
        | refine hK19 _ _ ?_
        | refine ⟨by first | exact sd, hK19 _ _ ?_⟩
      refine Wp.ret ?_
      simp only [thenQ, blockQ]
      refine retQ_ret ?_
      cases hm
      simp only [go_sem, simprocAttr, hw6, hxs_31]
      try simp [encB, encI_i64, encI_u8, encS, enc_api_File, enc_api_Machine, enc_api_Service, enc_api_Setting, List.map_set, List.map_replicate]
    · have hm := brF hm (by first | exact hc18 | simpa using hc18)
      refine Wp.skip ?_
      simp only [thenQ, blockQ, ↓reduceIte]
      refine hK7 _ _ ?_
      refine Wp.region fun K20 hK20 => ?_
      simp only [go_sem, simprocAttr, hw6, hxs_31]
      first
        | refine hK20 _ _ ?_
        | refine ⟨by first | exact sd, hK20 _ _ ?_⟩
      simp only [thenQ, blockQ, ↓reduceIte]
      refine ⟨(), hlt6, hnx_28 _ hm, ?_⟩
      simp only [go_sem, simprocAttr, hw6, hxs_31]
      try simp [encB, encI_i64, encI_u8, encS, enc_api_File, enc_api_Machine, enc_api_Service, enc_api_Setting, List.map_set, List.map_replicate]
set_option maxRecDepth 100000 in
set_option maxHeartbeats 4000000 in
theorem ok_disk_Check (m_1 : api_Machine) (z : Int) (hm : disk_Check m_1 = some z) : Does Tryd.prog 9 [.agg [.p (.l (List.map enc_api_Setting m_1.Facts)), .p (.l (List.map enc_api_File m_1.Files)), .p (.l (List.map enc_api_Setting m_1.Settings)), .p (.l (List.map enc_api_Service m_1.Services))]] [] (fun r X => r = .p (.i .i64 z) ∧ X = []) := by
  unfold disk_Check at hm
  refine Does.of_wp 0 80 [.tmp 2] Tryd.func9 rfl (by decide) rfl rfl (Nat.le_of_ble_eq_true rfl) fun B => ?_
  refine Wp.seqR fun K1 hK1 => ?_
  simp only [go_sem, simprocAttr]
  first
    | refine hK1 _ _ ?_
    | refine ⟨by first | exact sd, hK1 _ _ ?_⟩
  refine Wp.seqW fun K2 hK2 hW2 => ?_
  refine Wp.seqR fun K3 hK3 => ?_
  simp only [go_sem, simprocAttr]
  first
    | refine hK3 _ _ ?_
    | refine ⟨by first | exact sd, hK3 _ _ ?_⟩
  refine Wp.cond rfl ⟨⟩ (fun hc4 => ?_) (fun hc4 => ?_)
  · have hm := brT hm (by first | exact hc4 | simpa using hc4)
    refine Wp.seqR fun K5 hK5 => ?_
    simp only [go_sem, simprocAttr]
    first
      | refine hK5 _ _ ?_
      | refine ⟨by first | exact sd, hK5 _ _ ?_⟩
    refine Wp.ret ?_
    simp only [thenQ, blockQ]
    refine retQ_ret ?_
    cases hm
    simp only [go_sem, simprocAttr]
    try simp [encB, encI_i64, encI_u8, encS, enc_api_File, enc_api_Machine, enc_api_Service, enc_api_Setting, List.map_set, List.map_replicate]
  · have hm := brF hm (by first | exact hc4 | simpa using hc4)
    refine Wp.skip ?_
    simp only [thenQ, blockQ, ↓reduceIte]
    refine hK2 _ _ ?_
    refine Wp.seqW fun K6 hK6 hW6 => ?_
    obtain ⟨r_2, hr_2, hm⟩ := call_elim hm
    refine Wp.seqR fun K7 hK7 => ?_
    simp only [go_sem, simprocAttr]
    try refine ⟨by first | exact sd, ?_⟩
    refine Rg.callX (av := ?av8) (g := true) (fun hg => ok_disk_eachFault_api_Setting_i1 m_1.Facts _ hr_2) ?ha8 ?hb8 ?hp8 ?hok8 ?hf8 ?cont8
    case ha8 =>
      simp only [go_sem, simprocAttr]
      exact Is.mk
    case hb8 =>
      simp only [go_sem, simprocAttr]
      exact Is.mk
    case hp8 =>
      simp only [go_sem, simprocAttr]
      exact Is.mk
    case hok8 =>
      simp only [go_sem, simprocAttr]
    case hf8 =>
      simp only [go_sem, simprocAttr]
      exact Is.mk
    intro hv8
    simp only [go_sem, simprocAttr]
    first
      | refine hK7 _ _ ?_
      | refine ⟨by first | exact sd, hK7 _ _ ?_⟩
    refine Wp.seqR fun K9 hK9 => ?_
    simp only [go_sem, simprocAttr]
    first
      | refine hK9 _ _ ?_
      | refine ⟨by first | exact sd, hK9 _ _ ?_⟩
    refine Wp.cond rfl ⟨⟩ (fun hc10 => ?_) (fun hc10 => ?_)
    · have hm := brT hm (by first | exact hc10 | simpa using hc10)
      refine Wp.seqR fun K11 hK11 => ?_
      simp only [go_sem, simprocAttr]
      first
        | refine hK11 _ _ ?_
        | refine ⟨by first | exact sd, hK11 _ _ ?_⟩
      refine Wp.ret ?_
      simp only [thenQ, blockQ]
      refine retQ_ret ?_
      cases hm
      simp only [go_sem, simprocAttr]
      try simp [encB, encI_i64, encI_u8, encS, enc_api_File, enc_api_Machine, enc_api_Service, enc_api_Setting, List.map_set, List.map_replicate]
    · have hm := brF hm (by first | exact hc10 | simpa using hc10)
      refine Wp.skip ?_
      simp only [thenQ, blockQ, ↓reduceIte]
      refine hK6 _ _ ?_
      refine Wp.seqR fun K12 hK12 => ?_
      simp only [go_sem, simprocAttr]
      first
        | refine hK12 _ _ ?_
        | refine ⟨by first | exact sd, hK12 _ _ ?_⟩
      refine Wp.seqR fun K13 hK13 => ?_
      simp only [go_sem, simprocAttr]
      first
        | refine hK13 _ _ ?_
        | refine ⟨by first | exact sd, hK13 _ _ ?_⟩
      refine Wp.seqW fun K14 hK14 hW14 => ?_
      obtain ⟨k_27, hk_27, hm⟩ := jp_elim hm
      have hcut14 : ∀ s, k_27 s = some z → K14 [(1, .ptr 0 0)] [.cells 26 [.p (.l (List.map enc_api_Setting m_1.Facts)), .p (.l (List.map enc_api_File m_1.Files)), .p (.l (List.map enc_api_Setting m_1.Settings)), .p (.l (List.map enc_api_Service m_1.Services))]] := by
        intro s hs
        have hm := hk_27 _ hs
        clear hs
        try dsimp only at hm
        try dsimp only
        refine hK14 _ _ ?_
        refine Wp.seqW fun K15 hK15 hW15 => ?_
        obtain ⟨r_28, hr_28, hm⟩ := call_elim hm
        refine Wp.seqR fun K16 hK16 => ?_
        simp only [go_sem, simprocAttr]
        try refine ⟨by first | exact sd, ?_⟩
        refine Rg.callX (av := ?av17) (g := true) (fun hg => ok_disk_eachFault_api_Setting_i2 m_1.Settings _ hr_28) ?ha17 ?hb17 ?hp17 ?hok17 ?hf17 ?cont17
        case ha17 =>
          simp only [go_sem, simprocAttr]
          exact Is.mk
        case hb17 =>
          simp only [go_sem, simprocAttr]
          exact Is.mk
        case hp17 =>
          simp only [go_sem, simprocAttr]
          exact Is.mk
        case hok17 =>
          simp only [go_sem, simprocAttr]
        case hf17 =>
          simp only [go_sem, simprocAttr]
          exact Is.mk
        intro hv17
        simp only [go_sem, simprocAttr]
        first
          | refine hK16 _ _ ?_
          | refine ⟨by first | exact sd, hK16 _ _ ?_⟩
        refine Wp.seqR fun K18 hK18 => ?_
        simp only [go_sem, simprocAttr]
        first
          | refine hK18 _ _ ?_
          | refine ⟨by first | exact sd, hK18 _ _ ?_⟩
        refine Wp.cond rfl ⟨⟩ (fun hc19 => ?_) (fun hc19 => ?_)
        · have hm := brT hm (by first | exact hc19 | simpa using hc19)
          refine Wp.seqR fun K20 hK20 => ?_
          simp only [go_sem, simprocAttr]
          first
            | refine hK20 _ _ ?_
            | refine ⟨by first | exact sd, hK20 _ _ ?_⟩
          refine Wp.ret ?_
          simp only [thenQ, blockQ]
          refine retQ_ret ?_
          cases hm
          simp only [go_sem, simprocAttr]
          try simp [encB, encI_i64, encI_u8, encS, enc_api_File, enc_api_Machine, enc_api_Service, enc_api_Setting, List.map_set, List.map_replicate]
        · have hm := brF hm (by first | exact hc19 | simpa using hc19)
          refine Wp.skip ?_
          simp only [thenQ, blockQ, ↓reduceIte]
          refine hK15 _ _ ?_
          obtain ⟨r_29, hr_29, hm⟩ := call_elim hm
          refine Wp.seqR fun K21 hK21 => ?_
          simp only [go_sem, simprocAttr]
          try refine ⟨by first | exact sd, ?_⟩
          refine Rg.callX (av := ?av22) (g := true) (fun hg => ok_disk_eachFault_api_Service_i1 m_1.Services _ hr_29) ?ha22 ?hb22 ?hp22 ?hok22 ?hf22 ?cont22
          case ha22 =>
            simp only [go_sem, simprocAttr]
            exact Is.mk
          case hb22 =>
            simp only [go_sem, simprocAttr]
            exact Is.mk
          case hp22 =>
            simp only [go_sem, simprocAttr]
            exact Is.mk
          case hok22 =>
            simp only [go_sem, simprocAttr]
          case hf22 =>
            simp only [go_sem, simprocAttr]
            exact Is.mk
          intro hv22
          simp only [go_sem, simprocAttr]
          first
            | refine hK21 _ _ ?_
            | refine ⟨by first | exact sd, hK21 _ _ ?_⟩
          refine Wp.ret ?_
          refine retQ_ret ?_
          cases hm
          simp only [go_sem, simprocAttr]
          try simp [encB, encI_i64, encI_u8, encS, enc_api_File, enc_api_Machine, enc_api_Service, enc_api_Setting, List.map_set, List.map_replicate]
      clear hK14 hk_27
      refine Wp.seqR fun K23 hK23 => ?_
      simp only [go_sem, simprocAttr]
      first
        | refine hK23 _ _ ?_
        | refine ⟨by first | exact sd, hK23 _ _ ?_⟩
      refine Wp.block ?_
      obtain ⟨k_45, hk_45, hm⟩ := forL_cont hm
      refine Wp.fact 40 fun hl_48 => ?_
      replace hl_48 : m_1.Files.length ≤ 274877906944 := by
        simp only [go_sem, simprocAttr, List.length_map] at hl_48
        omega
      refine Wp.forL (fun i_47 s => [(1, .ptr 0 0), (4, .p (.s s.1)), (5, .ptr 2 0), (40, .p (.l (List.map enc_api_File m_1.Files))), (41, .p (.i .i64 (m_1.Files.length : Int))), (42, .p (.i .i64 (i_47 : Int)))]) (fun i_47 s => [.cells 26 [.p (.l (List.map enc_api_Setting m_1.Facts)), .p (.l (List.map enc_api_File m_1.Files)), .p (.l (List.map enc_api_Setting m_1.Settings)), .p (.l (List.map enc_api_Service m_1.Services))], .mp false (encM Dt.s encB s.2), .cells 76 [.mp 1]]) ?_ hm ?_
      ·
        simp only [go_sem, simprocAttr]
        try simp [encB, encI_i64, encI_u8, encS, enc_api_File, enc_api_Machine, enc_api_Service, enc_api_Setting, List.map_set, List.map_replicate]
      clear hm
      intro i_47 s hii_47 hm
      obtain ⟨before_37, m1_39⟩ := s
      try dsimp only at hm
      try dsimp only
      refine Wp.seqR fun K24 hK24 => ?_
      simp only [go_sem, simprocAttr]
      first
        | refine hK24 _ _ ?_
        | refine ⟨by first | exact sd, hK24 _ _ ?_⟩
      refine Wp.seqW fun K25 hK25 hW25 => ?_
      refine Wp.cond rfl ⟨⟩ (fun hc25 => ?_) (fun hc25 => ?_)
      rotate_left
      · refine Wp.exit ?_
        have hm := hk_45 _ (forL_end hm (ge_nat (by first | exact hc25 | simpa using hc25)))
        try dsimp only at hm
        simp only [thenQ, blockQ, ↓reduceIte]
        refine hW14 _ _ _ _ ?_ (hcut14 () hm)
        simp only [go_sem, simprocAttr]
        try simp [encB, encI_i64, encI_u8, encS, enc_api_File, enc_api_Machine, enc_api_Service, enc_api_Setting, List.map_set, List.map_replicate]
      have hlt25 := lt_nat (by first | exact hc25 | simpa using hc25)
      have hw25 := wrap_succ hlt25 hl_48
      obtain ⟨f_49, nx_46, hxf_49, hyf_49, hnx_46, hm⟩ := forL_step hm hlt25
      replace hxf_49 := hxf_49 enc_api_File
      refine Wp.skip ?_
      simp only [thenQ]
      refine hK25 _ _ ?_
      refine Wp.seqW fun K26 hK26 hW26 => ?_
      refine Wp.block ?_
      refine Wp.seqR fun K27 hK27 => ?_
      simp only [go_sem, simprocAttr, hw25, hxf_49]
      first
        | refine hK27 _ _ ?_
        | refine ⟨by first | exact sd, hK27 _ _ ?_⟩
      refine Wp.seqW fun K28 hK28 hW28 => ?_
      obtain ⟨r_50, hr_50, hm⟩ := call_elim hm
      refine Wp.seqR fun K29 hK29 => ?_
      simp only [go_sem, simprocAttr, hw25, hxf_49]
      try refine ⟨by first | exact sd, ?_⟩
      refine Rg.callX (av := ?av30) (g := true) (fun hg => ok_disk_fileFault f_49 _ hr_50) ?ha30 ?hb30 ?hp30 ?hok30 ?hf30 ?cont30
      case ha30 =>
        simp only [go_sem, simprocAttr, hw25, hxf_49]
        exact Is.mk
      case hb30 =>
        simp only [go_sem, simprocAttr, hw25, hxf_49]
        exact Is.mk
      case hp30 =>
        simp only [go_sem, simprocAttr, hw25, hxf_49]
        exact Is.mk
      case hok30 =>
        simp only [go_sem, simprocAttr, hw25, hxf_49]
      case hf30 =>
        simp only [go_sem, simprocAttr, hw25, hxf_49]
        exact Is.mk
      intro hv30
      simp only [go_sem, simprocAttr, hw25, hxf_49]
      first
        | refine hK29 _ _ ?_
        | refine ⟨by first | exact sd, hK29 _ _ ?_⟩
      refine Wp.seqR fun K31 hK31 => ?_
      simp only [go_sem, simprocAttr, hw25, hxf_49]
      first
        | refine hK31 _ _ ?_
        | refine ⟨by first | exact sd, hK31 _ _ ?_⟩
      refine Wp.cond rfl ⟨⟩ (fun hc32 => ?_) (fun hc32 => ?_)
      · have hm := brT hm (by first | exact hc32 | simpa using hc32)
        refine Wp.seqR fun K33 hK33 => ?_
        simp only [go_sem, simprocAttr, hw25, hxf_49]
        first
          | refine hK33 _ _ ?_
          | refine ⟨by first | exact sd, hK33 _ _ ?_⟩
        refine Wp.ret ?_
        simp only [thenQ, blockQ]
        refine retQ_ret ?_
        cases hm
        simp only [go_sem, simprocAttr, hw25, hxf_49]
        try simp [encB, encI_i64, encI_u8, encS, enc_api_File, enc_api_Machine, enc_api_Service, enc_api_Setting, List.map_set, List.map_replicate]
      · have hm := brF hm (by first | exact hc32 | simpa using hc32)
        refine Wp.skip ?_
        simp only [thenQ, blockQ, ↓reduceIte]
        refine hK28 _ _ ?_
        refine Wp.seqW fun K34 hK34 hW34 => ?_
        refine Wp.seqR fun K35 hK35 => ?_
        simp only [go_sem, simprocAttr, hw25, hxf_49]
        first
          | refine hK35 _ _ ?_
          | refine ⟨by first | exact sd, hK35 _ _ ?_⟩
        refine Wp.cond rfl ⟨⟩ (fun hc36 => ?_) (fun hc36 => ?_)
        · have hm := brT hm (by first | exact hc36 | simpa using hc36)
          refine Wp.seqR fun K37 hK37 => ?_
          simp only [go_sem, simprocAttr, hw25, hxf_49]
          first
            | refine hK37 _ _ ?_
            | refine ⟨by first | exact sd, hK37 _ _ ?_⟩
          refine Wp.ret ?_
          simp only [thenQ, blockQ]
          refine retQ_ret ?_
          cases hm
          simp only [go_sem, simprocAttr, hw25, hxf_49]
          try simp [encB, encI_i64, encI_u8, encS, enc_api_File, enc_api_Machine, enc_api_Service, enc_api_Setting, List.map_set, List.map_replicate]
        · have hm := brF hm (by first | exact hc36 | simpa using hc36)
          refine Wp.skip ?_
          simp only [thenQ, blockQ, ↓reduceIte]
          refine hK34 _ _ ?_
          refine Wp.seqW fun K38 hK38 hW38 => ?_
          obtain ⟨r_51, hr_51, hm⟩ := call_elim hm
          refine Wp.seqR fun K39 hK39 => ?_
          simp only [go_sem, simprocAttr, hw25, hxf_49]
          try refine ⟨by first | exact sd, ?_⟩
          refine Rg.callR (av := ?av40) (g := true) [2, 1] (fun hg => ok_disk_above_i1 f_49.Path m1_39 _ hr_51) ?ha40 ?hb40 ?hp40 ?hX40 ?hids40 ?hkp40 ?hok40 ?cont40
          case ha40 =>
            simp only [go_sem, simprocAttr, hw25, hxf_49]
            exact Is.mk
          case hb40 =>
            simp only [go_sem, simprocAttr, hw25, hxf_49]
            exact Is.mk
          case hp40 =>
            simp only [go_sem, simprocAttr, hw25, hxf_49]
            exact Is.mk
          case hX40 =>
            simp only [go_sem, simprocAttr, hw25, hxf_49]
            exact Is.mk
          case hids40 => simp only [go_sem, simprocAttr, hw25, hxf_49]
          case hkp40 => simp only [go_sem, simprocAttr, hw25, hxf_49]
          case hok40 => simp only [go_sem, simprocAttr, hw25, hxf_49]
          simp only [go_sem, simprocAttr, hw25, hxf_49]
          first
            | refine hK39 _ _ ?_
            | refine ⟨by first | exact sd, hK39 _ _ ?_⟩
          refine Wp.cond rfl ⟨⟩ (fun hc41 => ?_) (fun hc41 => ?_)
          · have hm := brT hm (by first | exact hc41 | simpa using hc41)
            refine Wp.seqR fun K42 hK42 => ?_
            simp only [go_sem, simprocAttr, hw25, hxf_49]
            first
              | refine hK42 _ _ ?_
              | refine ⟨by first | exact sd, hK42 _ _ ?_⟩
            refine Wp.ret ?_
            simp only [thenQ, blockQ]
            refine retQ_ret ?_
            cases hm
            simp only [go_sem, simprocAttr, hw25, hxf_49]
            try simp [encB, encI_i64, encI_u8, encS, enc_api_File, enc_api_Machine, enc_api_Service, enc_api_Setting, List.map_set, List.map_replicate]
          · have hm := brF hm (by first | exact hc41 | simpa using hc41)
            refine Wp.skip ?_
            simp only [thenQ, blockQ, ↓reduceIte]
            refine hK38 _ _ ?_
            obtain ⟨c_53, hm⟩ := chk_elim hm
            have hp_52 := mset_enc (e := encB) keq_s m1_39 f_49.Path true
            simp only [encB] at hp_52
            refine Wp.regD (plan := [(0, none), (1, none), (2, none), (3, none), (4, none), (5, none), (6, some [])]) (by kernel_rfl) rfl (by kernel_rfl) fun K43 hK43 => ?_
            simp only [go_sem, simprocAttr, hw25, hxf_49, hp_52]
            first
              | refine hK43 _ _ ?_
              | refine ⟨by first | exact sd | ((repeat' apply And.intro) <;> first | assumption | omega | (simp only [List.length_append, List.length_map, List.length_cons, List.length_nil, List.length_set, List.length_replicate] at c_53 ⊢; omega)), hK43 _ _ ?_⟩
            simp only [thenQ, blockQ, ↓reduceIte]
            refine hK26 _ _ ?_
            refine Wp.region fun K44 hK44 => ?_
            simp only [go_sem, simprocAttr, hw25, hxf_49]
            first
              | refine hK44 _ _ ?_
              | refine ⟨by first | exact sd, hK44 _ _ ?_⟩
            simp only [thenQ, blockQ, ↓reduceIte]
            refine ⟨(f_49.Path, aset m1_39 f_49.Path true), hlt25, hnx_46 _ hm, ?_⟩
            simp only [go_sem, simprocAttr, hw25, hxf_49]
            try simp [encB, encI_i64, encI_u8, encS, enc_api_File, enc_api_Machine, enc_api_Service, enc_api_Setting, List.map_set, List.map_replicate]
set_option maxRecDepth 100000 in
set_option maxHeartbeats 4000000 in
theorem ok_slices_Equal_api_Setting_api_Setting (s1_1 : List api_Setting) (s2_2 : List api_Setting) (z : Bool) (hm : slices_Equal_api_Setting_api_Setting s1_1 s2_2 = some z) : Does Tryd.prog 67 [.p (.l (List.map enc_api_Setting s1_1)), .p (.l (List.map enc_api_Setting s2_2))] [] (fun r X => r = .p (.b z) ∧ X = []) := by
  unfold slices_Equal_api_Setting_api_Setting at hm
  refine Does.of_wp 0 26 [.tmp 4] Tryd.func67 rfl (by decide) rfl rfl (Nat.le_of_ble_eq_true rfl) fun B => ?_
  refine Wp.seqR fun K1 hK1 => ?_
  simp only [go_sem, simprocAttr]
  first
    | refine hK1 _ _ ?_
    | refine ⟨by first | exact sd, hK1 _ _ ?_⟩
  refine Wp.seqW fun K2 hK2 hW2 => ?_
  refine Wp.seqR fun K3 hK3 => ?_
  simp only [go_sem, simprocAttr]
  first
    | refine hK3 _ _ ?_
    | refine ⟨by first | exact sd, hK3 _ _ ?_⟩
  refine Wp.cond rfl ⟨⟩ (fun hc4 => ?_) (fun hc4 => ?_)
  · have hm := brT hm (by first | exact hc4 | simpa using hc4)
    refine Wp.seqR fun K5 hK5 => ?_
    simp only [go_sem, simprocAttr]
    first
      | refine hK5 _ _ ?_
      | refine ⟨by first | exact sd, hK5 _ _ ?_⟩
    refine Wp.ret ?_
    simp only [thenQ, blockQ]
    refine retQ_ret ?_
    cases hm
    simp only [go_sem, simprocAttr]
    try simp [encB, encI_i64, encI_u8, encS, enc_api_File, enc_api_Machine, enc_api_Service, enc_api_Setting, List.map_set, List.map_replicate]
  · have hm := brF hm (by first | exact hc4 | simpa using hc4)
    refine Wp.skip ?_
    simp only [thenQ, blockQ, ↓reduceIte]
    refine hK2 _ _ ?_
    refine Wp.seqW fun K6 hK6 hW6 => ?_
    obtain ⟨k_12, hk_12, hm⟩ := jp_elim hm
    have hcut6 : ∀ s, k_12 s = some z → K6 [] [] := by
      intro s hs
      have hm := hk_12 _ hs
      clear hs
      try dsimp only at hm
      try dsimp only
      refine hK6 _ _ ?_
      refine Wp.seqR fun K7 hK7 => ?_
      simp only [go_sem, simprocAttr]
      first
        | refine hK7 _ _ ?_
        | refine ⟨by first | exact sd, hK7 _ _ ?_⟩
      refine Wp.ret ?_
      refine retQ_ret ?_
      cases hm
      simp only [go_sem, simprocAttr]
      try simp [encB, encI_i64, encI_u8, encS, enc_api_File, enc_api_Machine, enc_api_Service, enc_api_Setting, List.map_set, List.map_replicate]
    clear hK6 hk_12
    refine Wp.seqR fun K8 hK8 => ?_
    simp only [go_sem, simprocAttr]
    first
      | refine hK8 _ _ ?_
      | refine ⟨by first | exact sd, hK8 _ _ ?_⟩
    refine Wp.block ?_
    obtain ⟨k_16, hk_16, hm⟩ := forL_cont hm
    refine Wp.fact 0 fun hl_19 => ?_
    replace hl_19 : s1_1.length ≤ 274877906944 := by
      simp only [go_sem, simprocAttr, List.length_map] at hl_19
      omega
    refine Wp.forL (fun i_18 s => [(0, .p (.l (List.map enc_api_Setting s1_1))), (1, .p (.l (List.map enc_api_Setting s2_2))), (12, .p (.i .i64 (s1_1.length : Int))), (13, .p (.i .i64 (i_18 : Int)))]) (fun i_18 s => []) ?_ hm ?_
    ·
      simp only [go_sem, simprocAttr]
      try simp [encB, encI_i64, encI_u8, encS, enc_api_File, enc_api_Machine, enc_api_Service, enc_api_Setting, List.map_set, List.map_replicate]
    clear hm
    intro i_18 s hii_18 hm
    try dsimp only at hm
    try dsimp only
    refine Wp.seqR fun K9 hK9 => ?_
    simp only [go_sem, simprocAttr]
    first
      | refine hK9 _ _ ?_
      | refine ⟨by first | exact sd, hK9 _ _ ?_⟩
    refine Wp.seqW fun K10 hK10 hW10 => ?_
    refine Wp.cond rfl ⟨⟩ (fun hc10 => ?_) (fun hc10 => ?_)
    rotate_left
    · refine Wp.exit ?_
      have hm := hk_16 _ (forL_end hm (ge_nat (by first | exact hc10 | simpa using hc10)))
      try dsimp only at hm
      simp only [thenQ, blockQ, ↓reduceIte]
      refine hW6 _ _ _ _ ?_ (hcut6 () hm)
      simp only [go_sem, simprocAttr]
      try simp [encB, encI_i64, encI_u8, encS, enc_api_File, enc_api_Machine, enc_api_Service, enc_api_Setting, List.map_set, List.map_replicate]
    have hlt10 := lt_nat (by first | exact hc10 | simpa using hc10)
    have hw10 := wrap_succ hlt10 hl_19
    obtain ⟨s_20, nx_17, hxs_20, hys_20, hnx_17, hm⟩ := forL_step hm hlt10
    replace hxs_20 := hxs_20 enc_api_Setting
    refine Wp.skip ?_
    simp only [thenQ]
    refine hK10 _ _ ?_
    refine Wp.seqW fun K11 hK11 hW11 => ?_
    refine Wp.block ?_
    refine Wp.seqR fun K12 hK12 => ?_
    simp only [go_sem, simprocAttr, hw10, hxs_20]
    first
      | refine hK12 _ _ ?_
      | refine ⟨by first | exact sd, hK12 _ _ ?_⟩
    obtain ⟨s_21, hbs_21, hxs_21, hys_21, hm⟩ := idx_elim hm
    replace hxs_21 : ∀ d, (List.map enc_api_Setting s2_2).getD i_18 d = enc_api_Setting s_21 := hxs_21 enc_api_Setting
    refine Wp.seqD (plan := [(0, none), (1, none), (2, none), (3, none), (4, none), (5, none), (6, none), (7, none), (8, none)]) (by kernel_rfl) rfl (by kernel_rfl) fun K13 hK13 => ?_
    simp only [go_sem, simprocAttr, hw10, hxs_20, hxs_21]
    first
      | refine hK13 _ _ ?_
      | refine ⟨by first | exact sd, hK13 _ _ ?_⟩
    refine Wp.cond rfl ⟨⟩ (fun hc14 => ?_) (fun hc14 => ?_)
    · have hm := brT hm (by first | exact hc14 | simpa using hc14)
      refine Wp.seqR fun K15 hK15 => ?_
      simp only [go_sem, simprocAttr, hw10, hxs_20, hxs_21]
      first
        | refine hK15 _ _ ?_
        | refine ⟨by first | exact sd, hK15 _ _ ?_⟩
      refine Wp.ret ?_
      simp only [thenQ, blockQ]
      refine retQ_ret ?_
      cases hm
      simp only [go_sem, simprocAttr, hw10, hxs_20, hxs_21]
      try simp [encB, encI_i64, encI_u8, encS, enc_api_File, enc_api_Machine, enc_api_Service, enc_api_Setting, List.map_set, List.map_replicate]
    · have hm := brF hm (by first | exact hc14 | simpa using hc14)
      refine Wp.skip ?_
      simp only [thenQ, blockQ, ↓reduceIte]
      refine hK11 _ _ ?_
      refine Wp.region fun K16 hK16 => ?_
      simp only [go_sem, simprocAttr, hw10, hxs_20, hxs_21]
      first
        | refine hK16 _ _ ?_
        | refine ⟨by first | exact sd, hK16 _ _ ?_⟩
      simp only [thenQ, blockQ, ↓reduceIte]
      refine ⟨(), hlt10, hnx_17 _ hm, ?_⟩
      simp only [go_sem, simprocAttr, hw10, hxs_20, hxs_21]
      try simp [encB, encI_i64, encI_u8, encS, enc_api_File, enc_api_Machine, enc_api_Service, enc_api_Setting, List.map_set, List.map_replicate]
set_option maxRecDepth 100000 in
set_option maxHeartbeats 4000000 in
theorem ok_slices_Equal_api_File_api_File (s1_1 : List api_File) (s2_2 : List api_File) (z : Bool) (hm : slices_Equal_api_File_api_File s1_1 s2_2 = some z) : Does Tryd.prog 68 [.p (.l (List.map enc_api_File s1_1)), .p (.l (List.map enc_api_File s2_2))] [] (fun r X => r = .p (.b z) ∧ X = []) := by
  unfold slices_Equal_api_File_api_File at hm
  refine Does.of_wp 0 26 [.tmp 4] Tryd.func68 rfl (by decide) rfl rfl (Nat.le_of_ble_eq_true rfl) fun B => ?_
  refine Wp.seqR fun K1 hK1 => ?_
  simp only [go_sem, simprocAttr]
  first
    | refine hK1 _ _ ?_
    | refine ⟨by first | exact sd, hK1 _ _ ?_⟩
  refine Wp.seqW fun K2 hK2 hW2 => ?_
  refine Wp.seqR fun K3 hK3 => ?_
  simp only [go_sem, simprocAttr]
  first
    | refine hK3 _ _ ?_
    | refine ⟨by first | exact sd, hK3 _ _ ?_⟩
  refine Wp.cond rfl ⟨⟩ (fun hc4 => ?_) (fun hc4 => ?_)
  · have hm := brT hm (by first | exact hc4 | simpa using hc4)
    refine Wp.seqR fun K5 hK5 => ?_
    simp only [go_sem, simprocAttr]
    first
      | refine hK5 _ _ ?_
      | refine ⟨by first | exact sd, hK5 _ _ ?_⟩
    refine Wp.ret ?_
    simp only [thenQ, blockQ]
    refine retQ_ret ?_
    cases hm
    simp only [go_sem, simprocAttr]
    try simp [encB, encI_i64, encI_u8, encS, enc_api_File, enc_api_Machine, enc_api_Service, enc_api_Setting, List.map_set, List.map_replicate]
  · have hm := brF hm (by first | exact hc4 | simpa using hc4)
    refine Wp.skip ?_
    simp only [thenQ, blockQ, ↓reduceIte]
    refine hK2 _ _ ?_
    refine Wp.seqW fun K6 hK6 hW6 => ?_
    obtain ⟨k_12, hk_12, hm⟩ := jp_elim hm
    have hcut6 : ∀ s, k_12 s = some z → K6 [] [] := by
      intro s hs
      have hm := hk_12 _ hs
      clear hs
      try dsimp only at hm
      try dsimp only
      refine hK6 _ _ ?_
      refine Wp.seqR fun K7 hK7 => ?_
      simp only [go_sem, simprocAttr]
      first
        | refine hK7 _ _ ?_
        | refine ⟨by first | exact sd, hK7 _ _ ?_⟩
      refine Wp.ret ?_
      refine retQ_ret ?_
      cases hm
      simp only [go_sem, simprocAttr]
      try simp [encB, encI_i64, encI_u8, encS, enc_api_File, enc_api_Machine, enc_api_Service, enc_api_Setting, List.map_set, List.map_replicate]
    clear hK6 hk_12
    refine Wp.seqR fun K8 hK8 => ?_
    simp only [go_sem, simprocAttr]
    first
      | refine hK8 _ _ ?_
      | refine ⟨by first | exact sd, hK8 _ _ ?_⟩
    refine Wp.block ?_
    obtain ⟨k_16, hk_16, hm⟩ := forL_cont hm
    refine Wp.fact 0 fun hl_19 => ?_
    replace hl_19 : s1_1.length ≤ 274877906944 := by
      simp only [go_sem, simprocAttr, List.length_map] at hl_19
      omega
    refine Wp.forL (fun i_18 s => [(0, .p (.l (List.map enc_api_File s1_1))), (1, .p (.l (List.map enc_api_File s2_2))), (12, .p (.i .i64 (s1_1.length : Int))), (13, .p (.i .i64 (i_18 : Int)))]) (fun i_18 s => []) ?_ hm ?_
    ·
      simp only [go_sem, simprocAttr]
      try simp [encB, encI_i64, encI_u8, encS, enc_api_File, enc_api_Machine, enc_api_Service, enc_api_Setting, List.map_set, List.map_replicate]
    clear hm
    intro i_18 s hii_18 hm
    try dsimp only at hm
    try dsimp only
    refine Wp.seqR fun K9 hK9 => ?_
    simp only [go_sem, simprocAttr]
    first
      | refine hK9 _ _ ?_
      | refine ⟨by first | exact sd, hK9 _ _ ?_⟩
    refine Wp.seqW fun K10 hK10 hW10 => ?_
    refine Wp.cond rfl ⟨⟩ (fun hc10 => ?_) (fun hc10 => ?_)
    rotate_left
    · refine Wp.exit ?_
      have hm := hk_16 _ (forL_end hm (ge_nat (by first | exact hc10 | simpa using hc10)))
      try dsimp only at hm
      simp only [thenQ, blockQ, ↓reduceIte]
      refine hW6 _ _ _ _ ?_ (hcut6 () hm)
      simp only [go_sem, simprocAttr]
      try simp [encB, encI_i64, encI_u8, encS, enc_api_File, enc_api_Machine, enc_api_Service, enc_api_Setting, List.map_set, List.map_replicate]
    have hlt10 := lt_nat (by first | exact hc10 | simpa using hc10)
    have hw10 := wrap_succ hlt10 hl_19
    obtain ⟨f_20, nx_17, hxf_20, hyf_20, hnx_17, hm⟩ := forL_step hm hlt10
    replace hxf_20 := hxf_20 enc_api_File
    refine Wp.skip ?_
    simp only [thenQ]
    refine hK10 _ _ ?_
    refine Wp.seqW fun K11 hK11 hW11 => ?_
    refine Wp.block ?_
    refine Wp.seqR fun K12 hK12 => ?_
    simp only [go_sem, simprocAttr, hw10, hxf_20]
    first
      | refine hK12 _ _ ?_
      | refine ⟨by first | exact sd, hK12 _ _ ?_⟩
    obtain ⟨f_21, hbf_21, hxf_21, hyf_21, hm⟩ := idx_elim hm
    replace hxf_21 : ∀ d, (List.map enc_api_File s2_2).getD i_18 d = enc_api_File f_21 := hxf_21 enc_api_File
    refine Wp.seqD (plan := [(0, none), (1, none), (2, none), (3, none), (4, none), (5, none), (6, none), (7, none), (8, none)]) (by kernel_rfl) rfl (by kernel_rfl) fun K13 hK13 => ?_
    simp only [go_sem, simprocAttr, hw10, hxf_20, hxf_21]
    first
      | refine hK13 _ _ ?_
      | refine ⟨by first | exact sd, hK13 _ _ ?_⟩
    refine Wp.cond rfl ⟨⟩ (fun hc14 => ?_) (fun hc14 => ?_)
    · have hm := brT hm (by first | exact hc14 | simpa using hc14)
      refine Wp.seqR fun K15 hK15 => ?_
      simp only [go_sem, simprocAttr, hw10, hxf_20, hxf_21]
      first
        | refine hK15 _ _ ?_
        | refine ⟨by first | exact sd, hK15 _ _ ?_⟩
      refine Wp.ret ?_
      simp only [thenQ, blockQ]
      refine retQ_ret ?_
      cases hm
      simp only [go_sem, simprocAttr, hw10, hxf_20, hxf_21]
      try simp [encB, encI_i64, encI_u8, encS, enc_api_File, enc_api_Machine, enc_api_Service, enc_api_Setting, List.map_set, List.map_replicate]
    · have hm := brF hm (by first | exact hc14 | simpa using hc14)
      refine Wp.skip ?_
      simp only [thenQ, blockQ, ↓reduceIte]
      refine hK11 _ _ ?_
      refine Wp.region fun K16 hK16 => ?_
      simp only [go_sem, simprocAttr, hw10, hxf_20, hxf_21]
      first
        | refine hK16 _ _ ?_
        | refine ⟨by first | exact sd, hK16 _ _ ?_⟩
      simp only [thenQ, blockQ, ↓reduceIte]
      refine ⟨(), hlt10, hnx_17 _ hm, ?_⟩
      simp only [go_sem, simprocAttr, hw10, hxf_20, hxf_21]
      try simp [encB, encI_i64, encI_u8, encS, enc_api_File, enc_api_Machine, enc_api_Service, enc_api_Setting, List.map_set, List.map_replicate]
set_option maxRecDepth 100000 in
set_option maxHeartbeats 4000000 in
theorem ok_slices_Equal_api_Service_api_Service (s1_1 : List api_Service) (s2_2 : List api_Service) (z : Bool) (hm : slices_Equal_api_Service_api_Service s1_1 s2_2 = some z) : Does Tryd.prog 69 [.p (.l (List.map enc_api_Service s1_1)), .p (.l (List.map enc_api_Service s2_2))] [] (fun r X => r = .p (.b z) ∧ X = []) := by
  unfold slices_Equal_api_Service_api_Service at hm
  refine Does.of_wp 0 26 [.tmp 4] Tryd.func69 rfl (by decide) rfl rfl (Nat.le_of_ble_eq_true rfl) fun B => ?_
  refine Wp.seqR fun K1 hK1 => ?_
  simp only [go_sem, simprocAttr]
  first
    | refine hK1 _ _ ?_
    | refine ⟨by first | exact sd, hK1 _ _ ?_⟩
  refine Wp.seqW fun K2 hK2 hW2 => ?_
  refine Wp.seqR fun K3 hK3 => ?_
  simp only [go_sem, simprocAttr]
  first
    | refine hK3 _ _ ?_
    | refine ⟨by first | exact sd, hK3 _ _ ?_⟩
  refine Wp.cond rfl ⟨⟩ (fun hc4 => ?_) (fun hc4 => ?_)
  · have hm := brT hm (by first | exact hc4 | simpa using hc4)
    refine Wp.seqR fun K5 hK5 => ?_
    simp only [go_sem, simprocAttr]
    first
      | refine hK5 _ _ ?_
      | refine ⟨by first | exact sd, hK5 _ _ ?_⟩
    refine Wp.ret ?_
    simp only [thenQ, blockQ]
    refine retQ_ret ?_
    cases hm
    simp only [go_sem, simprocAttr]
    try simp [encB, encI_i64, encI_u8, encS, enc_api_File, enc_api_Machine, enc_api_Service, enc_api_Setting, List.map_set, List.map_replicate]
  · have hm := brF hm (by first | exact hc4 | simpa using hc4)
    refine Wp.skip ?_
    simp only [thenQ, blockQ, ↓reduceIte]
    refine hK2 _ _ ?_
    refine Wp.seqW fun K6 hK6 hW6 => ?_
    obtain ⟨k_12, hk_12, hm⟩ := jp_elim hm
    have hcut6 : ∀ s, k_12 s = some z → K6 [] [] := by
      intro s hs
      have hm := hk_12 _ hs
      clear hs
      try dsimp only at hm
      try dsimp only
      refine hK6 _ _ ?_
      refine Wp.seqR fun K7 hK7 => ?_
      simp only [go_sem, simprocAttr]
      first
        | refine hK7 _ _ ?_
        | refine ⟨by first | exact sd, hK7 _ _ ?_⟩
      refine Wp.ret ?_
      refine retQ_ret ?_
      cases hm
      simp only [go_sem, simprocAttr]
      try simp [encB, encI_i64, encI_u8, encS, enc_api_File, enc_api_Machine, enc_api_Service, enc_api_Setting, List.map_set, List.map_replicate]
    clear hK6 hk_12
    refine Wp.seqR fun K8 hK8 => ?_
    simp only [go_sem, simprocAttr]
    first
      | refine hK8 _ _ ?_
      | refine ⟨by first | exact sd, hK8 _ _ ?_⟩
    refine Wp.block ?_
    obtain ⟨k_16, hk_16, hm⟩ := forL_cont hm
    refine Wp.fact 0 fun hl_19 => ?_
    replace hl_19 : s1_1.length ≤ 274877906944 := by
      simp only [go_sem, simprocAttr, List.length_map] at hl_19
      omega
    refine Wp.forL (fun i_18 s => [(0, .p (.l (List.map enc_api_Service s1_1))), (1, .p (.l (List.map enc_api_Service s2_2))), (12, .p (.i .i64 (s1_1.length : Int))), (13, .p (.i .i64 (i_18 : Int)))]) (fun i_18 s => []) ?_ hm ?_
    ·
      simp only [go_sem, simprocAttr]
      try simp [encB, encI_i64, encI_u8, encS, enc_api_File, enc_api_Machine, enc_api_Service, enc_api_Setting, List.map_set, List.map_replicate]
    clear hm
    intro i_18 s hii_18 hm
    try dsimp only at hm
    try dsimp only
    refine Wp.seqR fun K9 hK9 => ?_
    simp only [go_sem, simprocAttr]
    first
      | refine hK9 _ _ ?_
      | refine ⟨by first | exact sd, hK9 _ _ ?_⟩
    refine Wp.seqW fun K10 hK10 hW10 => ?_
    refine Wp.cond rfl ⟨⟩ (fun hc10 => ?_) (fun hc10 => ?_)
    rotate_left
    · refine Wp.exit ?_
      have hm := hk_16 _ (forL_end hm (ge_nat (by first | exact hc10 | simpa using hc10)))
      try dsimp only at hm
      simp only [thenQ, blockQ, ↓reduceIte]
      refine hW6 _ _ _ _ ?_ (hcut6 () hm)
      simp only [go_sem, simprocAttr]
      try simp [encB, encI_i64, encI_u8, encS, enc_api_File, enc_api_Machine, enc_api_Service, enc_api_Setting, List.map_set, List.map_replicate]
    have hlt10 := lt_nat (by first | exact hc10 | simpa using hc10)
    have hw10 := wrap_succ hlt10 hl_19
    obtain ⟨s_20, nx_17, hxs_20, hys_20, hnx_17, hm⟩ := forL_step hm hlt10
    replace hxs_20 := hxs_20 enc_api_Service
    refine Wp.skip ?_
    simp only [thenQ]
    refine hK10 _ _ ?_
    refine Wp.seqW fun K11 hK11 hW11 => ?_
    refine Wp.block ?_
    refine Wp.seqR fun K12 hK12 => ?_
    simp only [go_sem, simprocAttr, hw10, hxs_20]
    first
      | refine hK12 _ _ ?_
      | refine ⟨by first | exact sd, hK12 _ _ ?_⟩
    obtain ⟨s_21, hbs_21, hxs_21, hys_21, hm⟩ := idx_elim hm
    replace hxs_21 : ∀ d, (List.map enc_api_Service s2_2).getD i_18 d = enc_api_Service s_21 := hxs_21 enc_api_Service
    refine Wp.seqD (plan := [(0, none), (1, none), (2, none), (3, none), (4, none), (5, none), (6, none), (7, none), (8, none)]) (by kernel_rfl) rfl (by kernel_rfl) fun K13 hK13 => ?_
    simp only [go_sem, simprocAttr, hw10, hxs_20, hxs_21]
    first
      | refine hK13 _ _ ?_
      | refine ⟨by first | exact sd, hK13 _ _ ?_⟩
    refine Wp.cond rfl ⟨⟩ (fun hc14 => ?_) (fun hc14 => ?_)
    · have hm := brT hm (by first | exact hc14 | simpa using hc14)
      refine Wp.seqR fun K15 hK15 => ?_
      simp only [go_sem, simprocAttr, hw10, hxs_20, hxs_21]
      first
        | refine hK15 _ _ ?_
        | refine ⟨by first | exact sd, hK15 _ _ ?_⟩
      refine Wp.ret ?_
      simp only [thenQ, blockQ]
      refine retQ_ret ?_
      cases hm
      simp only [go_sem, simprocAttr, hw10, hxs_20, hxs_21]
      try simp [encB, encI_i64, encI_u8, encS, enc_api_File, enc_api_Machine, enc_api_Service, enc_api_Setting, List.map_set, List.map_replicate]
    · have hm := brF hm (by first | exact hc14 | simpa using hc14)
      refine Wp.skip ?_
      simp only [thenQ, blockQ, ↓reduceIte]
      refine hK11 _ _ ?_
      refine Wp.region fun K16 hK16 => ?_
      simp only [go_sem, simprocAttr, hw10, hxs_20, hxs_21]
      first
        | refine hK16 _ _ ?_
        | refine ⟨by first | exact sd, hK16 _ _ ?_⟩
      simp only [thenQ, blockQ, ↓reduceIte]
      refine ⟨(), hlt10, hnx_17 _ hm, ?_⟩
      simp only [go_sem, simprocAttr, hw10, hxs_20, hxs_21]
      try simp [encB, encI_i64, encI_u8, encS, enc_api_File, enc_api_Machine, enc_api_Service, enc_api_Setting, List.map_set, List.map_replicate]
set_option maxRecDepth 100000 in
set_option maxHeartbeats 4000000 in
theorem ok_R_Same (a_1 : api_Machine) (b_2 : api_Machine) (z : Bool) (hm : R_Same a_1 b_2 = some z) : Does Tryd.prog 17 [.agg [.p (.l (List.map enc_api_Setting a_1.Facts)), .p (.l (List.map enc_api_File a_1.Files)), .p (.l (List.map enc_api_Setting a_1.Settings)), .p (.l (List.map enc_api_Service a_1.Services))], .agg [.p (.l (List.map enc_api_Setting b_2.Facts)), .p (.l (List.map enc_api_File b_2.Files)), .p (.l (List.map enc_api_Setting b_2.Settings)), .p (.l (List.map enc_api_Service b_2.Services))]] [] (fun r X => r = .p (.b z) ∧ X = []) := by
  unfold R_Same at hm
  refine Does.of_wp 0 31 [.tmp 4] Tryd.func17 rfl (by decide) rfl rfl (Nat.le_of_ble_eq_true rfl) fun B => ?_
  refine Wp.seqR fun K1 hK1 => ?_
  simp only [go_sem, simprocAttr]
  first
    | refine hK1 _ _ ?_
    | refine ⟨by first | exact sd, hK1 _ _ ?_⟩
  obtain ⟨r_3, hr_3, hm⟩ := call_elim hm
  obtain ⟨r_4, hr_4, hm⟩ := callG_elim hm
  obtain ⟨r_5, hr_5, hm⟩ := callG_elim hm
  obtain ⟨r_6, hr_6, hm⟩ := callG_elim hm
  refine Wp.seqR fun K2 hK2 => ?_
  simp only [go_sem, simprocAttr]
  try refine ⟨by first | exact sd, ?_⟩
  refine Rg.callX (av := ?av3) (g := true) (fun hg => ok_slices_Equal_api_Setting_api_Setting a_1.Facts b_2.Facts _ hr_3) ?ha3 ?hb3 ?hp3 ?hok3 ?hf3 ?cont3
  case ha3 =>
    simp only [go_sem, simprocAttr]
    exact Is.mk
  case hb3 =>
    simp only [go_sem, simprocAttr]
    exact Is.mk
  case hp3 =>
    simp only [go_sem, simprocAttr]
    exact Is.mk
  case hok3 =>
    simp only [go_sem, simprocAttr]
  case hf3 =>
    simp only [go_sem, simprocAttr]
    exact Is.mk
  intro hv3
  simp only [go_sem, simprocAttr]
  try refine ⟨by first | exact sd, ?_⟩
  refine Rg.callX (av := ?av4) (g := r_3) (fun hg => ok_slices_Equal_api_File_api_File a_1.Files b_2.Files _ (hr_4 hg)) ?ha4 ?hb4 ?hp4 ?hok4 ?hf4 ?cont4
  case ha4 =>
    simp only [go_sem, simprocAttr]
    exact Is.mk
  case hb4 =>
    simp only [go_sem, simprocAttr]
    exact Is.mk
  case hp4 =>
    simp only [go_sem, simprocAttr]
    exact Is.mk
  case hok4 =>
    simp only [go_sem, simprocAttr]
  case hf4 =>
    simp only [go_sem, simprocAttr]
    exact Is.mk
  intro hv4
  simp only [go_sem, simprocAttr]
  try refine ⟨by first | exact sd, ?_⟩
  refine Rg.callX (av := ?av5) (g := (r_3 && r_4)) (fun hg => ok_slices_Equal_api_Setting_api_Setting a_1.Settings b_2.Settings _ (hr_5 hg)) ?ha5 ?hb5 ?hp5 ?hok5 ?hf5 ?cont5
  case ha5 =>
    simp only [go_sem, simprocAttr]
    exact Is.mk
  case hb5 =>
    simp only [go_sem, simprocAttr]
    exact Is.mk
  case hp5 =>
    simp only [go_sem, simprocAttr]
    exact Is.mk
  case hok5 =>
    simp only [go_sem, simprocAttr]
  case hf5 =>
    simp only [go_sem, simprocAttr]
    exact Is.mk
  intro hv5
  simp only [go_sem, simprocAttr]
  try refine ⟨by first | exact sd, ?_⟩
  refine Rg.callX (av := ?av6) (g := ((r_3 && r_4) && r_5)) (fun hg => ok_slices_Equal_api_Service_api_Service a_1.Services b_2.Services _ (hr_6 hg)) ?ha6 ?hb6 ?hp6 ?hok6 ?hf6 ?cont6
  case ha6 =>
    simp only [go_sem, simprocAttr]
    exact Is.mk
  case hb6 =>
    simp only [go_sem, simprocAttr]
    exact Is.mk
  case hp6 =>
    simp only [go_sem, simprocAttr]
    exact Is.mk
  case hok6 =>
    simp only [go_sem, simprocAttr]
  case hf6 =>
    simp only [go_sem, simprocAttr]
    exact Is.mk
  intro hv6
  simp only [go_sem, simprocAttr]
  first
    | refine hK2 _ _ ?_
    | refine ⟨by first | exact sd, hK2 _ _ ?_⟩
  refine Wp.ret ?_
  refine retQ_ret ?_
  cases hm
  simp only [go_sem, simprocAttr]
  try simp [encB, encI_i64, encI_u8, encS, enc_api_File, enc_api_Machine, enc_api_Service, enc_api_Setting, List.map_set, List.map_replicate]
set_option maxRecDepth 100000 in
set_option maxHeartbeats 4000000 in
theorem ok_internal_stringslite_Cut (s_1 : Str) (sep_2 : Str) (z : Str × Str × Bool) (hm : internal_stringslite_Cut s_1 sep_2 = some z) : Does Tryd.prog 105 [.p (.s s_1), .p (.s sep_2)] [] (fun r X => r = .tup [.p (.s z.1), .p (.s z.2.1), .p (.b z.2.2)] ∧ X = []) := by
  unfold internal_stringslite_Cut at hm
  refine Does.of_wp 0 23 [.tmp 4, .tmp 5, .tmp 6] Tryd.func105 rfl (by decide) rfl rfl (Nat.le_of_ble_eq_true rfl) fun B => ?_
  refine Wp.seqR fun K1 hK1 => ?_
  simp only [go_sem, simprocAttr]
  first
    | refine hK1 _ _ ?_
    | refine ⟨by first | exact sd, hK1 _ _ ?_⟩
  refine Wp.seqW fun K2 hK2 hW2 => ?_
  obtain ⟨r_3, hr_3, hm⟩ := call_elim hm
  refine Wp.seqR fun K3 hK3 => ?_
  simp only [go_sem, simprocAttr]
  try refine ⟨by first | exact sd, ?_⟩
  refine Rg.callX (av := ?av4) (g := true) (fun hg => ok_internal_stringslite_Index s_1 sep_2 _ hr_3) ?ha4 ?hb4 ?hp4 ?hok4 ?hf4 ?cont4
  case ha4 =>
    simp only [go_sem, simprocAttr]
    exact Is.mk
  case hb4 =>
    simp only [go_sem, simprocAttr]
    exact Is.mk
  case hp4 =>
    simp only [go_sem, simprocAttr]
    exact Is.mk
  case hok4 =>
    simp only [go_sem, simprocAttr]
  case hf4 =>
    simp only [go_sem, simprocAttr]
    exact Is.mk
  intro hv4
  simp only [go_sem, simprocAttr]
  first
    | refine hK3 _ _ ?_
    | refine ⟨by first | exact sd, hK3 _ _ ?_⟩
  refine Wp.seqR fun K5 hK5 => ?_
  simp only [go_sem, simprocAttr]
  first
    | refine hK5 _ _ ?_
    | refine ⟨by first | exact sd, hK5 _ _ ?_⟩
  refine Wp.cond rfl ⟨⟩ (fun hc6 => ?_) (fun hc6 => ?_)
  · have hm := brT hm (by first | exact hc6 | simpa using hc6)
    obtain ⟨c_4, hm⟩ := chk_elim hm
    obtain ⟨c_5, hm⟩ := chk_elim hm
    refine Wp.seqD (plan := [(0, none), (1, none), (2, none), (3, none), (4, none), (5, none), (6, none), (7, none), (8, none), (9, none), (10, none), (11, none)]) (by kernel_rfl) rfl (by kernel_rfl) fun K7 hK7 => ?_
    simp only [go_sem, simprocAttr]
    first
      | refine hK7 _ _ ?_
      | refine ⟨by first | exact sd | ((repeat' apply And.intro) <;> first | assumption | omega | (simp only [List.length_append, List.length_map, List.length_cons, List.length_nil, List.length_set, List.length_replicate] at c_4 c_5 ⊢; omega)), hK7 _ _ ?_⟩
    refine Wp.ret ?_
    simp only [thenQ, blockQ]
    refine retQ_ret ?_
    cases hm
    simp only [go_sem, simprocAttr]
    try simp [encB, encI_i64, encI_u8, encS, enc_api_File, enc_api_Machine, enc_api_Service, enc_api_Setting, List.map_set, List.map_replicate]
  · have hm := brF hm (by first | exact hc6 | simpa using hc6)
    refine Wp.skip ?_
    simp only [thenQ, blockQ, ↓reduceIte]
    refine hK2 _ _ ?_
    refine Wp.seqR fun K8 hK8 => ?_
    simp only [go_sem, simprocAttr]
    first
      | refine hK8 _ _ ?_
      | refine ⟨by first | exact sd, hK8 _ _ ?_⟩
    refine Wp.ret ?_
    refine retQ_ret ?_
    cases hm
    simp only [go_sem, simprocAttr]
    try simp [encB, encI_i64, encI_u8, encS, enc_api_File, enc_api_Machine, enc_api_Service, enc_api_Setting, List.map_set, List.map_replicate]
set_option maxRecDepth 100000 in
set_option maxHeartbeats 4000000 in
theorem ok_strings_Cut (s_1 : Str) (sep_2 : Str) (z : Str × Str × Bool) (hm : strings_Cut s_1 sep_2 = some z) : Does Tryd.prog 62 [.p (.s s_1), .p (.s sep_2)] [] (fun r X => r = .tup [.p (.s z.1), .p (.s z.2.1), .p (.b z.2.2)] ∧ X = []) := by
  unfold strings_Cut at hm
  refine Does.of_wp 0 13 [.tmp 4, .tmp 5, .tmp 6] Tryd.func62 rfl (by decide) rfl rfl (Nat.le_of_ble_eq_true rfl) fun B => ?_
  refine Wp.seqR fun K1 hK1 => ?_
  simp only [go_sem, simprocAttr]
  first
    | refine hK1 _ _ ?_
    | refine ⟨by first | exact sd, hK1 _ _ ?_⟩
  obtain ⟨r_3, hr_3, hm⟩ := call_elim hm
  refine Wp.seqR fun K2 hK2 => ?_
  simp only [go_sem, simprocAttr]
  try refine ⟨by first | exact sd, ?_⟩
  refine Rg.callX (av := ?av3) (g := true) (fun hg => ok_internal_stringslite_Cut s_1 sep_2 _ hr_3) ?ha3 ?hb3 ?hp3 ?hok3 ?hf3 ?cont3
  case ha3 =>
    simp only [go_sem, simprocAttr]
    exact Is.mk
  case hb3 =>
    simp only [go_sem, simprocAttr]
    exact Is.mk
  case hp3 =>
    simp only [go_sem, simprocAttr]
    exact Is.mk
  case hok3 =>
    simp only [go_sem, simprocAttr]
  case hf3 =>
    simp only [go_sem, simprocAttr]
    exact Is.mk
  intro hv3
  simp only [go_sem, simprocAttr]
  first
    | refine hK2 _ _ ?_
    | refine ⟨by first | exact sd, hK2 _ _ ?_⟩
  refine Wp.ret ?_
  refine retQ_ret ?_
  cases hm
  simp only [go_sem, simprocAttr]
  try simp [encB, encI_i64, encI_u8, encS, enc_api_File, enc_api_Machine, enc_api_Service, enc_api_Setting, List.map_set, List.map_replicate]
set_option maxRecDepth 100000 in
set_option maxHeartbeats 4000000 in
theorem ok_strings_IndexByte (s_1 : Str) (c_2 : Int) (z : Int) (hm : strings_IndexByte s_1 c_2 = some z) : Does Tryd.prog 155 [.p (.s s_1), .p (.i .u8 c_2)] [] (fun r X => r = .p (.i .i64 z) ∧ X = []) := by
  unfold strings_IndexByte at hm
  refine Does.of_wp 0 8 [.tmp 4] Tryd.func155 rfl (by decide) rfl rfl (Nat.le_of_ble_eq_true rfl) fun B => ?_
  refine Wp.seqR fun K1 hK1 => ?_
  simp only [go_sem, simprocAttr]
  first
    | refine hK1 _ _ ?_
    | refine ⟨by first | exact sd, hK1 _ _ ?_⟩
  obtain ⟨r_3, hr_3, hm⟩ := call_elim hm
  refine Wp.seqR fun K2 hK2 => ?_
  simp only [go_sem, simprocAttr]
  try refine ⟨by first | exact sd, ?_⟩
  refine Rg.callX (av := ?av3) (g := true) (fun hg => ok_internal_stringslite_IndexByte s_1 c_2 _ hr_3) ?ha3 ?hb3 ?hp3 ?hok3 ?hf3 ?cont3
  case ha3 =>
    simp only [go_sem, simprocAttr]
    exact Is.mk
  case hb3 =>
    simp only [go_sem, simprocAttr]
    exact Is.mk
  case hp3 =>
    simp only [go_sem, simprocAttr]
    exact Is.mk
  case hok3 =>
    simp only [go_sem, simprocAttr]
  case hf3 =>
    simp only [go_sem, simprocAttr]
    exact Is.mk
  intro hv3
  simp only [go_sem, simprocAttr]
  first
    | refine hK2 _ _ ?_
    | refine ⟨by first | exact sd, hK2 _ _ ?_⟩
  refine Wp.ret ?_
  refine retQ_ret ?_
  cases hm
  simp only [go_sem, simprocAttr]
  try simp [encB, encI_i64, encI_u8, encS, enc_api_File, enc_api_Machine, enc_api_Service, enc_api_Setting, enc_disk_line, List.map_set, List.map_replicate]
set_option maxRecDepth 100000 in
set_option maxHeartbeats 4000000 in
theorem ok_disk_escape (s_1 : Str) (z : Int × Int) (hm : disk_escape s_1 = some z) : Does Tryd.prog 138 [.p (.s s_1)] [] (fun r X => r = .tup [.p (.i .u8 z.1), .p (.i .i64 z.2)] ∧ X = []) := by
  unfold disk_escape at hm
  refine Does.of_wp 0 61 [.tmp 2, .tmp 3] Tryd.func138 rfl (by decide) rfl rfl (Nat.le_of_ble_eq_true rfl) fun B => ?_
  refine Wp.seqR fun K1 hK1 => ?_
  simp only [go_sem, simprocAttr]
  first
    | refine hK1 _ _ ?_
    | refine ⟨by first | exact sd, hK1 _ _ ?_⟩
  refine Wp.seqW fun K2 hK2 hW2 => ?_
  refine Wp.block ?_
  refine Wp.seqR fun K3 hK3 => ?_
  simp only [go_sem, simprocAttr]
  first
    | refine hK3 _ _ ?_
    | refine ⟨by first | exact sd, hK3 _ _ ?_⟩
  refine Wp.cond rfl ⟨⟩ (fun hc4 => ?_) (fun hc4 => ?_)
  · have hm := brT hm (by first | exact hc4 | simpa using hc4)
    refine Wp.seqR fun K5 hK5 => ?_
    simp only [go_sem, simprocAttr]
    first
      | refine hK5 _ _ ?_
      | refine ⟨by first | exact sd, hK5 _ _ ?_⟩
    refine Wp.ret ?_
    simp only [thenQ, blockQ]
    refine retQ_ret ?_
    cases hm
    simp only [go_sem, simprocAttr]
    try simp [encB, encI_i64, encI_u8, encS, enc_api_File, enc_api_Machine, enc_api_Service, enc_api_Setting, enc_disk_line, List.map_set, List.map_replicate]
  · have hm := brF hm (by first | exact hc4 | simpa using hc4)
    obtain ⟨c_2, hbc_2, hxc_2, hm⟩ := idxS_elim hm
    replace hxc_2 : ((s_1.getD 0 0).toNat : Int) = c_2 := hxc_2
    refine Wp.seqR fun K6 hK6 => ?_
    simp only [go_sem, simprocAttr, hxc_2]
    first
      | refine hK6 _ _ ?_
      | refine ⟨by first | exact sd, hK6 _ _ ?_⟩
    refine Wp.cond rfl ⟨⟩ (fun hc7 => ?_) (fun hc7 => ?_)
    · have hm := brT hm (by first | exact hc7 | simpa using hc7)
      refine Wp.seqR fun K8 hK8 => ?_
      simp only [go_sem, simprocAttr, hxc_2]
      first
        | refine hK8 _ _ ?_
        | refine ⟨by first | exact sd, hK8 _ _ ?_⟩
      refine Wp.ret ?_
      simp only [thenQ, blockQ]
      refine retQ_ret ?_
      cases hm
      simp only [go_sem, simprocAttr, hxc_2]
      try simp [encB, encI_i64, encI_u8, encS, enc_api_File, enc_api_Machine, enc_api_Service, enc_api_Setting, enc_disk_line, List.map_set, List.map_replicate]
    · have hm := brF hm (by first | exact hc7 | simpa using hc7)
      refine Wp.seqR fun K9 hK9 => ?_
      simp only [go_sem, simprocAttr, hxc_2]
      first
        | refine hK9 _ _ ?_
        | refine ⟨by first | exact sd, hK9 _ _ ?_⟩
      refine Wp.cond rfl ⟨⟩ (fun hc10 => ?_) (fun hc10 => ?_)
      · have hm := brT hm (by first | exact hc10 | simpa using hc10)
        refine Wp.seqR fun K11 hK11 => ?_
        simp only [go_sem, simprocAttr, hxc_2]
        first
          | refine hK11 _ _ ?_
          | refine ⟨by first | exact sd, hK11 _ _ ?_⟩
        refine Wp.ret ?_
        simp only [thenQ, blockQ]
        refine retQ_ret ?_
        cases hm
        simp only [go_sem, simprocAttr, hxc_2]
        try simp [encB, encI_i64, encI_u8, encS, enc_api_File, enc_api_Machine, enc_api_Service, enc_api_Setting, enc_disk_line, List.map_set, List.map_replicate]
      · have hm := brF hm (by first | exact hc10 | simpa using hc10)
        refine Wp.seqR fun K12 hK12 => ?_
        simp only [go_sem, simprocAttr, hxc_2]
        first
          | refine hK12 _ _ ?_
          | refine ⟨by first | exact sd, hK12 _ _ ?_⟩
        refine Wp.cond rfl ⟨⟩ (fun hc13 => ?_) (fun hc13 => ?_)
        · have hm := brT hm (by first | exact hc13 | simpa using hc13)
          refine Wp.seqR fun K14 hK14 => ?_
          simp only [go_sem, simprocAttr, hxc_2]
          first
            | refine hK14 _ _ ?_
            | refine ⟨by first | exact sd, hK14 _ _ ?_⟩
          refine Wp.ret ?_
          simp only [thenQ, blockQ]
          refine retQ_ret ?_
          cases hm
          simp only [go_sem, simprocAttr, hxc_2]
          try simp [encB, encI_i64, encI_u8, encS, enc_api_File, enc_api_Machine, enc_api_Service, enc_api_Setting, enc_disk_line, List.map_set, List.map_replicate]
        · have hm := brF hm (by first | exact hc13 | simpa using hc13)
          refine Wp.skip ?_
          simp only [thenQ, blockQ, ↓reduceIte]
          refine hK2 _ _ ?_
          obtain ⟨c_3, hbc_3, hxc_3, hm⟩ := idxS_elim hm
          replace hxc_3 : ((s_1.getD 1 0).toNat : Int) = c_3 := hxc_3
          obtain ⟨r_4, hr_4, hm⟩ := call_elim hm
          obtain ⟨c_5, hbc_5, hxc_5, hm⟩ := idxS_elim hm
          replace hxc_5 : ((s_1.getD 2 0).toNat : Int) = c_5 := hxc_5
          obtain ⟨r_6, hr_6, hm⟩ := call_elim hm
          refine Wp.seqD (plan := [(0, none), (1, none), (2, none), (3, none), (4, none), (5, none), (6, none), (7, none)]) (by kernel_rfl) rfl (by kernel_rfl) fun K15 hK15 => ?_
          simp only [go_sem, simprocAttr, hxc_2, hxc_3, hxc_5]
          try refine ⟨by first | exact sd, ?_⟩
          refine Dr.callF (av := ?av16) (g := true) (o := ?o16) (fun hg => ok_strings_IndexByte ([48, 49, 50, 51, 52, 53, 54, 55, 56, 57, 97, 98, 99, 100, 101, 102] : Str) c_3 _ hr_4) ?hk16 ?ha16 ?hb16 ?hp16 ?hok16 ?hf16 ?cont16
          case hk16 =>
            simp only [go_sem, simprocAttr, hxc_2, hxc_3, hxc_5]
            exact Is.mk
          case ha16 =>
            simp only [go_sem, simprocAttr, hxc_2, hxc_3, hxc_5]
            exact Is.mk
          case hb16 =>
            simp only [go_sem, simprocAttr, hxc_2, hxc_3, hxc_5]
            exact Is.mk
          case hp16 =>
            simp only [go_sem, simprocAttr, hxc_2, hxc_3, hxc_5]
            exact Is.mk
          case hok16 =>
            simp only [go_sem, simprocAttr, hxc_2, hxc_3, hxc_5]
          case hf16 =>
            simp only [go_sem, simprocAttr, hxc_2, hxc_3, hxc_5]
            exact Is.mk
          simp only [go_sem, simprocAttr, hxc_2, hxc_3, hxc_5]
          try refine ⟨by first | exact sd, ?_⟩
          refine Dr.callF (av := ?av17) (g := true) (o := ?o17) (fun hg => ok_strings_IndexByte ([48, 49, 50, 51, 52, 53, 54, 55, 56, 57, 97, 98, 99, 100, 101, 102] : Str) c_5 _ hr_6) ?hk17 ?ha17 ?hb17 ?hp17 ?hok17 ?hf17 ?cont17
          case hk17 =>
            simp only [go_sem, simprocAttr, hxc_2, hxc_3, hxc_5]
            exact Is.mk
          case ha17 =>
            simp only [go_sem, simprocAttr, hxc_2, hxc_3, hxc_5]
            exact Is.mk
          case hb17 =>
            simp only [go_sem, simprocAttr, hxc_2, hxc_3, hxc_5]
            exact Is.mk
          case hp17 =>
            simp only [go_sem, simprocAttr, hxc_2, hxc_3, hxc_5]
            exact Is.mk
          case hok17 =>
            simp only [go_sem, simprocAttr, hxc_2, hxc_3, hxc_5]
          case hf17 =>
            simp only [go_sem, simprocAttr, hxc_2, hxc_3, hxc_5]
            exact Is.mk
          simp only [go_sem, simprocAttr, hxc_2, hxc_3, hxc_5]
          first
            | refine hK15 _ _ ?_
            | refine ⟨by first | exact sd, hK15 _ _ ?_⟩
          refine Wp.seqW fun K18 hK18 hW18 => ?_
          refine Wp.seqR fun K19 hK19 => ?_
          simp only [go_sem, simprocAttr, hxc_2, hxc_3, hxc_5]
          first
            | refine hK19 _ _ ?_
            | refine ⟨by first | exact sd, hK19 _ _ ?_⟩
          refine Wp.cond rfl ⟨⟩ (fun hc20 => ?_) (fun hc20 => ?_)
          · have hm := brT hm (by first | exact hc20 | simpa using hc20)
            refine Wp.seqR fun K21 hK21 => ?_
            simp only [go_sem, simprocAttr, hxc_2, hxc_3, hxc_5]
            first
              | refine hK21 _ _ ?_
              | refine ⟨by first | exact sd, hK21 _ _ ?_⟩
            refine Wp.ret ?_
            simp only [thenQ, blockQ]
            refine retQ_ret ?_
            cases hm
            simp only [go_sem, simprocAttr, hxc_2, hxc_3, hxc_5]
            try simp [encB, encI_i64, encI_u8, encS, enc_api_File, enc_api_Machine, enc_api_Service, enc_api_Setting, enc_disk_line, List.map_set, List.map_replicate]
          · have hm := brF hm (by first | exact hc20 | simpa using hc20)
            refine Wp.skip ?_
            simp only [thenQ, blockQ, ↓reduceIte]
            refine hK18 _ _ ?_
            refine Wp.seqR fun K22 hK22 => ?_
            simp only [go_sem, simprocAttr, hxc_2, hxc_3, hxc_5]
            first
              | refine hK22 _ _ ?_
              | refine ⟨by first | exact sd, hK22 _ _ ?_⟩
            refine Wp.seqW fun K23 hK23 hW23 => ?_
            refine Wp.seqR fun K24 hK24 => ?_
            simp only [go_sem, simprocAttr, hxc_2, hxc_3, hxc_5]
            first
              | refine hK24 _ _ ?_
              | refine ⟨by first | exact sd, hK24 _ _ ?_⟩
            refine Wp.cond rfl ⟨⟩ (fun hc25 => ?_) (fun hc25 => ?_)
            · have hm := brT hm (by first | exact hc25 | simpa using hc25)
              refine Wp.seqR fun K26 hK26 => ?_
              simp only [go_sem, simprocAttr, hxc_2, hxc_3, hxc_5]
              first
                | refine hK26 _ _ ?_
                | refine ⟨by first | exact sd, hK26 _ _ ?_⟩
              refine Wp.ret ?_
              simp only [thenQ, blockQ]
              refine retQ_ret ?_
              cases hm
              simp only [go_sem, simprocAttr, hxc_2, hxc_3, hxc_5]
              try simp [encB, encI_i64, encI_u8, encS, enc_api_File, enc_api_Machine, enc_api_Service, enc_api_Setting, enc_disk_line, List.map_set, List.map_replicate]
            · have hm := brF hm (by first | exact hc25 | simpa using hc25)
              refine Wp.skip ?_
              simp only [thenQ, blockQ, ↓reduceIte]
              refine hK23 _ _ ?_
              refine Wp.seqR fun K27 hK27 => ?_
              simp only [go_sem, simprocAttr, hxc_2, hxc_3, hxc_5]
              first
                | refine hK27 _ _ ?_
                | refine ⟨by first | exact sd, hK27 _ _ ?_⟩
              refine Wp.ret ?_
              refine retQ_ret ?_
              cases hm
              simp only [go_sem, simprocAttr, hxc_2, hxc_3, hxc_5]
              try simp [encB, encI_i64, encI_u8, encS, enc_api_File, enc_api_Machine, enc_api_Service, enc_api_Setting, enc_disk_line, List.map_set, List.map_replicate]
set_option maxRecDepth 100000 in
set_option maxHeartbeats 4000000 in
theorem ok_disk_Unquote (s_1 : Str) (z : Str × Int) (hm : disk_Unquote s_1 = some z) : Does Tryd.prog 125 [.p (.s s_1)] [] (fun r X => r = .tup [.p (.s z.1), .p (.i .i64 z.2)] ∧ X = []) := by
  unfold disk_Unquote at hm
  refine Does.of_wp 0 74 [.tmp 2, .tmp 3] Tryd.func125 rfl (by decide) rfl rfl (Nat.le_of_ble_eq_true rfl) fun B => ?_
  refine Wp.seqR fun K1 hK1 => ?_
  simp only [go_sem, simprocAttr]
  first
    | refine hK1 _ _ ?_
    | refine ⟨by first | exact sd, hK1 _ _ ?_⟩
  refine Wp.seqW fun K2 hK2 hW2 => ?_
  obtain ⟨c_2, hm⟩ := chk_elim hm
  obtain ⟨c_3, hm⟩ := chk_elim hm
  refine Wp.seqR fun K3 hK3 => ?_
  simp only [go_sem, simprocAttr]
  first
    | refine hK3 _ _ ?_
    | refine ⟨by first | exact sd | ((repeat' apply And.intro) <;> first | assumption | omega | (simp only [List.length_append, List.length_map, List.length_cons, List.length_nil, List.length_set, List.length_replicate] at c_2 c_3 ⊢; omega)), hK3 _ _ ?_⟩
  refine Wp.cond rfl ⟨⟩ (fun hc4 => ?_) (fun hc4 => ?_)
  · have hm := brT hm (by first | exact hc4 | simpa using hc4)
    refine Wp.seqR fun K5 hK5 => ?_
    simp only [go_sem, simprocAttr]
    first
      | refine hK5 _ _ ?_
      | refine ⟨by first | exact sd, hK5 _ _ ?_⟩
    refine Wp.ret ?_
    simp only [thenQ, blockQ]
    refine retQ_ret ?_
    cases hm
    simp only [go_sem, simprocAttr]
    try simp [encB, encI_i64, encI_u8, encS, enc_api_File, enc_api_Machine, enc_api_Service, enc_api_Setting, enc_disk_line, List.map_set, List.map_replicate]
  · have hm := brF hm (by first | exact hc4 | simpa using hc4)
    refine Wp.skip ?_
    simp only [thenQ, blockQ, ↓reduceIte]
    refine hK2 _ _ ?_
    obtain ⟨c_4, hm⟩ := chk_elim hm
    refine Wp.seqR fun K6 hK6 => ?_
    simp only [go_sem, simprocAttr]
    first
      | refine hK6 _ _ ?_
      | refine ⟨by first | exact sd | ((repeat' apply And.intro) <;> first | assumption | omega | (simp only [List.length_append, List.length_map, List.length_cons, List.length_nil, List.length_set, List.length_replicate] at c_4 ⊢; omega)), hK6 _ _ ?_⟩
    obtain ⟨c_5, hm⟩ := chk_elim hm
    refine Wp.seqR fun K7 hK7 => ?_
    simp only [go_sem, simprocAttr]
    first
      | refine hK7 _ _ ?_
      | refine ⟨by first | exact sd | ((repeat' apply And.intro) <;> first | assumption | omega | (simp only [List.length_append, List.length_map, List.length_cons, List.length_nil, List.length_set, List.length_replicate] at c_5 ⊢; omega)), hK7 _ _ ?_⟩
    refine Wp.seqW fun K8 hK8 hW8 => ?_
    obtain ⟨k_27, hk_27, hm⟩ := jp_elim hm
    have hcut8 : ∀ s, k_27 s = some z → K8 [(4, .buf 0)] [.buf 5 1 (List.map encI_u8 s)] := by
      intro o0_26 hs
      have hm := hk_27 _ hs
      clear hs
      try dsimp only at hm
      try dsimp only
      refine hK8 _ _ ?_
      refine Wp.seqR fun K9 hK9 => ?_
      simp only [go_sem, simprocAttr]
      first
        | refine hK9 _ _ ?_
        | refine ⟨by first | exact sd, hK9 _ _ ?_⟩
      refine Wp.ret ?_
      refine retQ_ret ?_
      cases hm
      simp only [go_sem, simprocAttr]
      try simp [encB, encI_i64, encI_u8, encS, enc_api_File, enc_api_Machine, enc_api_Service, enc_api_Setting, enc_disk_line, List.map_set, List.map_replicate]
    clear hK8 hk_27
    refine Wp.seqR fun K10 hK10 => ?_
    simp only [go_sem, simprocAttr]
    first
      | refine hK10 _ _ ?_
      | refine ⟨by first | exact sd, hK10 _ _ ?_⟩
    refine Wp.block ?_
    obtain ⟨k_41, hk_41, hm⟩ := loopN_cont hm
    refine Wp.loopN (fun s => [(0, .p (.s (List.take ((IntKind.i64.wrap ((s_1.length : Int) - 1)).toNat - 1) (List.drop 1 s_1)))), (4, .buf 0), (5, .p (.i .i64 s.1))]) (fun s => [.buf 5 1 (List.map encI_u8 s.2)]) ?_ hm ?_
    ·
      simp only [go_sem, simprocAttr]
      try simp [encB, encI_i64, encI_u8, encS, enc_api_File, enc_api_Machine, enc_api_Service, enc_api_Setting, enc_disk_line, List.map_set, List.map_replicate]
    clear hm
    intro s nx_42 hm
    obtain ⟨i_34, o0_35⟩ := s
    try dsimp only at hm
    try dsimp only
    refine Wp.seqW fun K11 hK11 hW11 => ?_
    refine Wp.seqR fun K12 hK12 => ?_
    simp only [go_sem, simprocAttr]
    first
      | refine hK12 _ _ ?_
      | refine ⟨by first | exact sd, hK12 _ _ ?_⟩
    refine Wp.cond rfl ⟨⟩ (fun hc13 => ?_) (fun hc13 => ?_)
    · have hm := brT hm (by first | exact hc13 | simpa using hc13)
      refine Wp.skip ?_
      simp only [thenQ, blockQ, ↓reduceIte]
      refine hK11 _ _ ?_
      refine Wp.seqW fun K14 hK14 hW14 => ?_
      refine Wp.block ?_
      obtain ⟨c_43, hbc_43, hxc_43, hm⟩ := idxS_elim hm
      replace hxc_43 : (((List.take ((IntKind.i64.wrap ((s_1.length : Int) - 1)).toNat - 1) (List.drop 1 s_1)).getD i_34.toNat 0).toNat : Int) = c_43 := hxc_43
      refine Wp.seqR fun K15 hK15 => ?_
      simp only [go_sem, simprocAttr, hxc_43]
      first
        | refine hK15 _ _ ?_
        | refine ⟨by first | exact sd, hK15 _ _ ?_⟩
      refine Wp.seqW fun K16 hK16 hW16 => ?_
      refine Wp.seqR fun K17 hK17 => ?_
      simp only [go_sem, simprocAttr, hxc_43]
      first
        | refine hK17 _ _ ?_
        | refine ⟨by first | exact sd, hK17 _ _ ?_⟩
      refine Wp.cond rfl ⟨⟩ (fun hc18 => ?_) (fun hc18 => ?_)
      · have hm := brT hm (by first | exact hc18 | simpa using hc18)
        refine Wp.seqR fun K19 hK19 => ?_
        simp only [go_sem, simprocAttr, hxc_43]
        first
          | refine hK19 _ _ ?_
          | refine ⟨by first | exact sd, hK19 _ _ ?_⟩
        refine Wp.ret ?_
        simp only [thenQ, blockQ]
        refine retQ_ret ?_
        cases hm
        simp only [go_sem, simprocAttr, hxc_43]
        try simp [encB, encI_i64, encI_u8, encS, enc_api_File, enc_api_Machine, enc_api_Service, enc_api_Setting, enc_disk_line, List.map_set, List.map_replicate]
      · have hm := brF hm (by first | exact hc18 | simpa using hc18)
        refine Wp.skip ?_
        simp only [thenQ, blockQ, ↓reduceIte]
        refine hK16 _ _ ?_
        refine Wp.seqW fun K20 hK20 hW20 => ?_
        refine Wp.seqR fun K21 hK21 => ?_
        simp only [go_sem, simprocAttr, hxc_43]
        first
          | refine hK21 _ _ ?_
          | refine ⟨by first | exact sd, hK21 _ _ ?_⟩
        refine Wp.cond rfl ⟨⟩ (fun hc22 => ?_) (fun hc22 => ?_)
        · have hm := brT hm (by first | exact hc22 | simpa using hc22)
          obtain ⟨c_44, hm⟩ := chk_elim hm
          obtain ⟨r_45, hr_45, hm⟩ := call_elim hm
          refine Wp.seqR fun K23 hK23 => ?_
          simp only [go_sem, simprocAttr, hxc_43]
          try refine ⟨by first | exact sd | ((repeat' apply And.intro) <;> first | assumption | omega | (simp only [List.length_append, List.length_map, List.length_cons, List.length_nil, List.length_set, List.length_replicate] at c_44 ⊢; omega)), ?_⟩
          refine Rg.callX (av := ?av24) (g := true) (fun hg => ok_disk_escape (List.drop ((IntKind.i64.wrap (i_34 + 1)).toNat) (List.take ((IntKind.i64.wrap ((s_1.length : Int) - 1)).toNat - 1) (List.drop 1 s_1))) _ hr_45) ?ha24 ?hb24 ?hp24 ?hok24 ?hf24 ?cont24
          case ha24 =>
            simp only [go_sem, simprocAttr, hxc_43]
            exact Is.mk
          case hb24 =>
            simp only [go_sem, simprocAttr, hxc_43]
            exact Is.mk
          case hp24 =>
            simp only [go_sem, simprocAttr, hxc_43]
            exact Is.mk
          case hok24 =>
            simp only [go_sem, simprocAttr, hxc_43]
          case hf24 =>
            simp only [go_sem, simprocAttr, hxc_43]
            exact Is.mk
          intro hv24
          simp only [go_sem, simprocAttr, hxc_43]
          first
            | refine hK23 _ _ ?_
            | refine ⟨by first | exact sd | ((repeat' apply And.intro) <;> first | assumption | omega | (simp only [List.length_append, List.length_map, List.length_cons, List.length_nil, List.length_set, List.length_replicate] at c_44 ⊢; omega)), hK23 _ _ ?_⟩
          refine Wp.seqW fun K25 hK25 hW25 => ?_
          refine Wp.seqR fun K26 hK26 => ?_
          simp only [go_sem, simprocAttr, hxc_43]
          first
            | refine hK26 _ _ ?_
            | refine ⟨by first | exact sd, hK26 _ _ ?_⟩
          refine Wp.cond rfl ⟨⟩ (fun hc27 => ?_) (fun hc27 => ?_)
          · have hm := brT hm (by first | exact hc27 | simpa using hc27)
            refine Wp.seqR fun K28 hK28 => ?_
            simp only [go_sem, simprocAttr, hxc_43]
            first
              | refine hK28 _ _ ?_
              | refine ⟨by first | exact sd, hK28 _ _ ?_⟩
            refine Wp.ret ?_
            simp only [thenQ, blockQ]
            refine retQ_ret ?_
            cases hm
            simp only [go_sem, simprocAttr, hxc_43]
            try simp [encB, encI_i64, encI_u8, encS, enc_api_File, enc_api_Machine, enc_api_Service, enc_api_Setting, enc_disk_line, List.map_set, List.map_replicate]
          · have hm := brF hm (by first | exact hc27 | simpa using hc27)
            refine Wp.skip ?_
            simp only [thenQ, blockQ, ↓reduceIte]
            refine hK25 _ _ ?_
            refine Wp.region fun K29 hK29 => ?_
            simp only [go_sem, simprocAttr, hxc_43]
            first
              | refine hK29 _ _ ?_
              | refine ⟨by first | exact sd, hK29 _ _ ?_⟩
            simp only [thenQ, blockQ, ↓reduceIte]
            refine hK20 _ _ ?_
            obtain ⟨c_46, hm⟩ := chk_elim hm
            refine Wp.region fun K30 hK30 => ?_
            simp only [go_sem, simprocAttr, hxc_43]
            first
              | refine hK30 _ _ ?_
              | refine ⟨by first | exact sd | ((repeat' apply And.intro) <;> first | assumption | omega | (simp only [List.length_append, List.length_map, List.length_cons, List.length_nil, List.length_set, List.length_replicate] at c_46 ⊢; omega)), hK30 _ _ ?_⟩
            simp only [thenQ, blockQ, ↓reduceIte]
            refine hK14 _ _ ?_
            refine Wp.region fun K31 hK31 => ?_
            simp only [go_sem, simprocAttr, hxc_43]
            first
              | refine hK31 _ _ ?_
              | refine ⟨by first | exact sd, hK31 _ _ ?_⟩
            simp only [thenQ, blockQ, ↓reduceIte]
            refine ⟨(IntKind.i64.wrap ((IntKind.i64.wrap (i_34 + r_45.2)) + 1), o0_35 ++ [r_45.1]), hm, ?_⟩
            simp only [go_sem, simprocAttr, hxc_43]
            try simp [encB, encI_i64, encI_u8, encS, enc_api_File, enc_api_Machine, enc_api_Service, enc_api_Setting, enc_disk_line, List.map_set, List.map_replicate]
        · have hm := brF hm (by first | exact hc22 | simpa using hc22)
          refine Wp.skip ?_
          simp only [thenQ, blockQ, ↓reduceIte]
          refine hK20 _ _ ?_
          obtain ⟨c_47, hm⟩ := chk_elim hm
          refine Wp.region fun K32 hK32 => ?_
          simp only [go_sem, simprocAttr, hxc_43]
          first
            | refine hK32 _ _ ?_
            | refine ⟨by first | exact sd | ((repeat' apply And.intro) <;> first | assumption | omega | (simp only [List.length_append, List.length_map, List.length_cons, List.length_nil, List.length_set, List.length_replicate] at c_47 ⊢; omega)), hK32 _ _ ?_⟩
          simp only [thenQ, blockQ, ↓reduceIte]
          refine hK14 _ _ ?_
          refine Wp.region fun K33 hK33 => ?_
          simp only [go_sem, simprocAttr, hxc_43]
          first
            | refine hK33 _ _ ?_
            | refine ⟨by first | exact sd, hK33 _ _ ?_⟩
          simp only [thenQ, blockQ, ↓reduceIte]
          refine ⟨(IntKind.i64.wrap (i_34 + 1), o0_35 ++ [c_43]), hm, ?_⟩
          simp only [go_sem, simprocAttr, hxc_43]
          try simp [encB, encI_i64, encI_u8, encS, enc_api_File, enc_api_Machine, enc_api_Service, enc_api_Setting, enc_disk_line, List.map_set, List.map_replicate]
    · have hm := brF hm (by first | exact hc13 | simpa using hc13)
      refine Wp.exit ?_
      simp only [thenQ, blockQ, ↓reduceIte]
      have hm := hk_41 _ hm
      try dsimp only at hm
      refine hW8 _ _ _ _ ?_ (hcut8 o0_35 hm)
      simp only [go_sem, simprocAttr]
      try simp [encB, encI_i64, encI_u8, encS, enc_api_File, enc_api_Machine, enc_api_Service, enc_api_Setting, enc_disk_line, List.map_set, List.map_replicate]
set_option maxRecDepth 100000 in
set_option maxHeartbeats 4000000 in
theorem ok_disk_isBit (s_1 : Str) (z : Bool) (hm : disk_isBit s_1 = some z) : Does Tryd.prog 126 [.p (.s s_1)] [] (fun r X => r = .p (.b z) ∧ X = []) := by
  unfold disk_isBit at hm
  refine Does.of_wp 0 9 [.tmp 2] Tryd.func126 rfl (by decide) rfl rfl (Nat.le_of_ble_eq_true rfl) fun B => ?_
  refine Wp.seqR fun K1 hK1 => ?_
  simp only [go_sem, simprocAttr]
  first
    | refine hK1 _ _ ?_
    | refine ⟨by first | exact sd, hK1 _ _ ?_⟩
  refine Wp.seqR fun K2 hK2 => ?_
  simp only [go_sem, simprocAttr]
  first
    | refine hK2 _ _ ?_
    | refine ⟨by first | exact sd, hK2 _ _ ?_⟩
  refine Wp.ret ?_
  refine retQ_ret ?_
  cases hm
  simp only [go_sem, simprocAttr]
  try simp [encB, encI_i64, encI_u8, encS, enc_api_File, enc_api_Machine, enc_api_Service, enc_api_Setting, enc_disk_line, List.map_set, List.map_replicate]
end Go.Proofs.YtbfemlilfeahkaaDoor
