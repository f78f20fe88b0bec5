/- That the code does what the models say (part 1). -/
import Derived.Test.YtbfemlilfeahkaaDoorCpMd
import Derived.Test.YtbfemlilfeahkaaDoorTy
set_option linter.unusedSimpArgs false
set_option linter.unusedVariables false
namespace Go.Proofs.YtbfemlilfeahkaaDoor
open Go.Vc Go.Md
theorem cv_107_157_110_2 : cvP Tryd.prog 107 157 110 2 = true := by kernel_rfl
attribute [go_sem] cv_107_157_110_2
theorem cv_157_107_110_2 : cvP Tryd.prog 157 107 110 2 = true := by kernel_rfl
attribute [go_sem] cv_157_107_110_2
theorem nvi_131 : NvI Tryd.prog 131 := NvI.noEscape Tryd.func131 (by kernel_rfl) (by kernel_rfl) (by kernel_rfl) (by kernel_rfl)
theorem pi_110 : (Tryd.prog.info? 110).isSome = true := by kernel_rfl
attribute [go_sem] pi_110
theorem sb_145_5 : sbP Tryd.prog 145 5 = true := by kernel_rfl
attribute [go_sem] sb_145_5
theorem nv_145 (s : List UInt8) (c : Int) : Nv Tryd.prog 145 [.p (.s s), .p (.i .u8 c)] (.p (.i .i64 (cntByte s c))) := Nv.countByte Tryd.func145 (by kernel_rfl) (by kernel_rfl) (by kernel_rfl) (by kernel_rfl) s c
theorem nv_154 (s : List UInt8) (c : List UInt8) : Nv Tryd.prog 154 [.p (.s s), .p (.s c)] (.p (.i .i64 (cmpB s c))) := Nv.compare Tryd.func154 (by kernel_rfl) (by kernel_rfl) (by kernel_rfl) (by kernel_rfl) s c
theorem nv_156 (s : List UInt8) (c : Int) : Nv Tryd.prog 156 [.p (.s s), .p (.i .u8 c)] (.p (.i .i64 (ixByte s c))) := Nv.indexByte Tryd.func156 (by kernel_rfl) (by kernel_rfl) (by kernel_rfl) (by kernel_rfl) s c
set_option maxRecDepth 100000 in
set_option maxHeartbeats 4000000 in
theorem ok_ver_isSmall (c_1 : Int) (z : Bool) (hm : ver_isSmall c_1 = some z) : Does Tryd.prog 99 [.p (.i .u8 c_1)] [] (fun r X => r = .p (.b z) ∧ X = []) := by
  unfold ver_isSmall at hm
  refine Does.of_wp 0 9 [.tmp 2] Tryd.func99 rfl (by decide) rfl rfl (Nat.le_of_ble_eq_true rfl) fun B => ?_
  refine Wp.seqR fun K1 hK1 => ?_
  simp only [go_sem, simprocAttr]
  first
    | refine hK1 _ _ ?_
    | refine ⟨by first | exact sd, hK1 _ _ ?_⟩
  refine Wp.seqR fun K2 hK2 => ?_
  simp only [go_sem, simprocAttr]
  first
    | refine hK2 _ _ ?_
    | refine ⟨by first | exact sd, hK2 _ _ ?_⟩
  refine Wp.ret ?_
  refine retQ_ret ?_
  cases hm
  simp only [go_sem, simprocAttr]
  try simp [encB, encI_i64, encI_u8, encS, enc_api_File, enc_api_Machine, enc_api_Service, enc_api_Setting, List.map_set, List.map_replicate]
set_option maxRecDepth 100000 in
set_option maxHeartbeats 4000000 in
theorem ok_ver_isDigit (c_1 : Int) (z : Bool) (hm : ver_isDigit c_1 = some z) : Does Tryd.prog 100 [.p (.i .u8 c_1)] [] (fun r X => r = .p (.b z) ∧ X = []) := by
  unfold ver_isDigit at hm
  refine Does.of_wp 0 9 [.tmp 2] Tryd.func100 rfl (by decide) rfl rfl (Nat.le_of_ble_eq_true rfl) fun B => ?_
  refine Wp.seqR fun K1 hK1 => ?_
  simp only [go_sem, simprocAttr]
  first
    | refine hK1 _ _ ?_
    | refine ⟨by first | exact sd, hK1 _ _ ?_⟩
  refine Wp.seqR fun K2 hK2 => ?_
  simp only [go_sem, simprocAttr]
  first
    | refine hK2 _ _ ?_
    | refine ⟨by first | exact sd, hK2 _ _ ?_⟩
  refine Wp.ret ?_
  refine retQ_ret ?_
  cases hm
  simp only [go_sem, simprocAttr]
  try simp [encB, encI_i64, encI_u8, encS, enc_api_File, enc_api_Machine, enc_api_Service, enc_api_Setting, List.map_set, List.map_replicate]
set_option maxRecDepth 100000 in
set_option maxHeartbeats 4000000 in
theorem ok_ver_IsName_1 (c_1 : Int) (z : Bool) (hm : ver_IsName_1 c_1 = some z) : Does Tryd.prog 98 [.p (.i .u8 c_1)] [] (fun r X => r = .p (.b z) ∧ X = []) := by
  unfold ver_IsName_1 at hm
  refine Does.of_wp 0 17 [.tmp 2] Tryd.func98 rfl (by decide) rfl rfl (Nat.le_of_ble_eq_true rfl) fun B => ?_
  refine Wp.seqR fun K1 hK1 => ?_
  simp only [go_sem, simprocAttr]
  first
    | refine hK1 _ _ ?_
    | refine ⟨by first | exact sd, hK1 _ _ ?_⟩
  obtain ⟨r_2, hr_2, hm⟩ := call_elim hm
  obtain ⟨r_3, hr_3, hm⟩ := callG_elim hm
  refine Wp.seqR fun K2 hK2 => ?_
  simp only [go_sem, simprocAttr]
  try refine ⟨by first | exact sd, ?_⟩
  refine Rg.callX (av := ?av3) (g := true) (fun hg => ok_ver_isSmall c_1 _ hr_2) ?ha3 ?hb3 ?hp3 ?hok3 ?hf3 ?cont3
  case ha3 =>
    simp only [go_sem, simprocAttr]
    exact Is.mk
  case hb3 =>
    simp only [go_sem, simprocAttr]
    exact Is.mk
  case hp3 =>
    simp only [go_sem, simprocAttr]
    exact Is.mk
  case hok3 =>
    simp only [go_sem, simprocAttr]
  case hf3 =>
    simp only [go_sem, simprocAttr]
    exact Is.mk
  intro hv3
  simp only [go_sem, simprocAttr]
  try refine ⟨by first | exact sd, ?_⟩
  refine Rg.callX (av := ?av4) (g := !r_2) (fun hg => ok_ver_isDigit c_1 _ (hr_3 hg)) ?ha4 ?hb4 ?hp4 ?hok4 ?hf4 ?cont4
  case ha4 =>
    simp only [go_sem, simprocAttr]
    exact Is.mk
  case hb4 =>
    simp only [go_sem, simprocAttr]
    exact Is.mk
  case hp4 =>
    simp only [go_sem, simprocAttr]
    exact Is.mk
  case hok4 =>
    simp only [go_sem, simprocAttr]
  case hf4 =>
    simp only [go_sem, simprocAttr]
    exact Is.mk
  intro hv4
  simp only [go_sem, simprocAttr]
  first
    | refine hK2 _ _ ?_
    | refine ⟨by first | exact sd, hK2 _ _ ?_⟩
  refine Wp.ret ?_
  refine retQ_ret ?_
  cases hm
  simp only [go_sem, simprocAttr]
  try simp [encB, encI_i64, encI_u8, encS, enc_api_File, enc_api_Machine, enc_api_Service, enc_api_Setting, List.map_set, List.map_replicate]
set_option maxRecDepth 100000 in
set_option maxHeartbeats 4000000 in
theorem ok_ver_each_i1 (s_1 : Str) (most_2 : Int) (z : Bool) (hm : ver_each_i1 s_1 most_2 = some z) : Does Tryd.prog 97 [.p (.s s_1), .p (.i .i64 most_2), .fn 98 []] [] (fun r X => r = .p (.b z) ∧ X = []) := by
  unfold ver_each_i1 at hm
  refine Does.of_wp 0 28 [.tmp 6] Tryd.func97 rfl (by decide) rfl rfl (Nat.le_of_ble_eq_true rfl) fun B => ?_
  refine Wp.seqR fun K1 hK1 => ?_
  simp only [go_sem, simprocAttr]
  first
    | refine hK1 _ _ ?_
    | refine ⟨by first | exact sd, hK1 _ _ ?_⟩
  refine Wp.seqW fun K2 hK2 hW2 => ?_
  obtain ⟨k_12, hk_12, hm⟩ := jp_elim hm
  have hcut2 : ∀ s, k_12 s = some z → K2 [(0, .p (.s s_1)), (1, .p (.i .i64 most_2))] [] := by
    intro s hs
    have hm := hk_12 _ hs
    clear hs
    try dsimp only at hm
    try dsimp only
    refine hK2 _ _ ?_
    refine Wp.seqR fun K3 hK3 => ?_
    simp only [go_sem, simprocAttr]
    first
      | refine hK3 _ _ ?_
      | refine ⟨by first | exact sd, hK3 _ _ ?_⟩
    refine Wp.ret ?_
    refine retQ_ret ?_
    cases hm
    simp only [go_sem, simprocAttr]
    try simp [encB, encI_i64, encI_u8, encS, enc_api_File, enc_api_Machine, enc_api_Service, enc_api_Setting, List.map_set, List.map_replicate]
  clear hK2 hk_12
  refine Wp.seqR fun K4 hK4 => ?_
  simp only [go_sem, simprocAttr]
  first
    | refine hK4 _ _ ?_
    | refine ⟨by first | exact sd, hK4 _ _ ?_⟩
  refine Wp.block ?_
  obtain ⟨k_16, hk_16, hm⟩ := forL_cont hm
  refine Wp.fact 0 fun hl_19 => ?_
  replace hl_19 : s_1.length ≤ 274877906944 := by
    simp only [go_sem, simprocAttr, List.length_map] at hl_19
    omega
  refine Wp.forL (fun i_18 s => [(0, .p (.s s_1)), (1, .p (.i .i64 most_2)), (2, .fn 98 []), (7, .p (.i .i64 (i_18 : Int)))]) (fun i_18 s => []) ?_ hm ?_
  ·
    simp only [go_sem, simprocAttr]
    try simp [encB, encI_i64, encI_u8, encS, enc_api_File, enc_api_Machine, enc_api_Service, enc_api_Setting, List.map_set, List.map_replicate]
  clear hm
  intro i_18 s hii_18 hm
  try dsimp only at hm
  try dsimp only
  refine Wp.seqW fun K5 hK5 hW5 => ?_
  refine Wp.seqR fun K6 hK6 => ?_
  simp only [go_sem, simprocAttr]
  first
    | refine hK6 _ _ ?_
    | refine ⟨by first | exact sd, hK6 _ _ ?_⟩
  refine Wp.cond rfl ⟨⟩ (fun hc5 => ?_) (fun hc5 => ?_)
  rotate_left
  · refine Wp.exit ?_
    have hm := hk_16 _ (forL_end hm (ge_nat (by first | exact hc5 | simpa using hc5)))
    try dsimp only at hm
    simp only [thenQ, blockQ, ↓reduceIte]
    refine hW2 _ _ _ _ ?_ (hcut2 () hm)
    simp only [go_sem, simprocAttr]
    try simp [encB, encI_i64, encI_u8, encS, enc_api_File, enc_api_Machine, enc_api_Service, enc_api_Setting, List.map_set, List.map_replicate]
  have hlt5 := lt_nat (by first | exact hc5 | simpa using hc5)
  have hw5 := wrap_succ hlt5 hl_19
  obtain ⟨c_20, nx_17, hxc_20, hyc_20, hnx_17, hm⟩ := forL_step hm hlt5
  clear hxc_20
  refine Wp.skip ?_
  simp only [thenQ]
  refine hK5 _ _ ?_
  refine Wp.seqW fun K7 hK7 hW7 => ?_
  refine Wp.block ?_
  obtain ⟨r_21, hr_21, hm⟩ := call_elim hm
  refine Wp.seqR fun K8 hK8 => ?_
  simp only [go_sem, simprocAttr, hw5, hyc_20]
  try refine ⟨by first | exact sd, ?_⟩
  refine Rg.callX (av := ?av9) (g := true) (fun hg => ok_ver_IsName_1 (c_20.toNat : Int) _ hr_21) ?ha9 ?hb9 ?hp9 ?hok9 ?hf9 ?cont9
  case ha9 =>
    simp only [go_sem, simprocAttr, hw5, hyc_20]
    exact Is.mk
  case hb9 =>
    simp only [go_sem, simprocAttr, hw5, hyc_20]
    exact Is.mk
  case hp9 =>
    simp only [go_sem, simprocAttr, hw5, hyc_20]
    exact Is.mk
  case hok9 =>
    simp only [go_sem, simprocAttr, hw5, hyc_20]
  case hf9 =>
    simp only [go_sem, simprocAttr, hw5, hyc_20]
    exact Is.mk
  intro hv9
  simp only [go_sem, simprocAttr, hw5, hyc_20]
  first
    | refine hK8 _ _ ?_
    | refine ⟨by first | exact sd, hK8 _ _ ?_⟩
  refine Wp.cond rfl ⟨⟩ (fun hc10 => ?_) (fun hc10 => ?_)
  · have hm := brT hm (by first | exact hc10 | simpa using hc10)
    refine Wp.seqR fun K11 hK11 => ?_
    simp only [go_sem, simprocAttr, hw5, hyc_20]
    first
      | refine hK11 _ _ ?_
      | refine ⟨by first | exact sd, hK11 _ _ ?_⟩
    refine Wp.ret ?_
    simp only [thenQ, blockQ]
    refine retQ_ret ?_
    cases hm
    simp only [go_sem, simprocAttr, hw5, hyc_20]
    try simp [encB, encI_i64, encI_u8, encS, enc_api_File, enc_api_Machine, enc_api_Service, enc_api_Setting, List.map_set, List.map_replicate]
  · have hm := brF hm (by first | exact hc10 | simpa using hc10)
    refine Wp.skip ?_
    simp only [thenQ, blockQ, ↓reduceIte]
    refine hK7 _ _ ?_
    refine Wp.region fun K12 hK12 => ?_
    simp only [go_sem, simprocAttr, hw5, hyc_20]
    first
      | refine hK12 _ _ ?_
      | refine ⟨by first | exact sd, hK12 _ _ ?_⟩
    simp only [thenQ, blockQ, ↓reduceIte]
    refine ⟨(), hlt5, hnx_17 _ hm, ?_⟩
    simp only [go_sem, simprocAttr, hw5, hyc_20]
    try simp [encB, encI_i64, encI_u8, encS, enc_api_File, enc_api_Machine, enc_api_Service, enc_api_Setting, List.map_set, List.map_replicate]
set_option maxRecDepth 100000 in
set_option maxHeartbeats 4000000 in
theorem ok_ver_IsName (s_1 : Str) (z : Bool) (hm : ver_IsName s_1 = some z) : Does Tryd.prog 34 [.p (.s s_1)] [] (fun r X => r = .p (.b z) ∧ X = []) := by
  unfold ver_IsName at hm
  refine Does.of_wp 0 10 [.tmp 2] Tryd.func34 rfl (by decide) rfl rfl (Nat.le_of_ble_eq_true rfl) fun B => ?_
  refine Wp.seqR fun K1 hK1 => ?_
  simp only [go_sem, simprocAttr]
  first
    | refine hK1 _ _ ?_
    | refine ⟨by first | exact sd, hK1 _ _ ?_⟩
  obtain ⟨r_2, hr_2, hm⟩ := call_elim hm
  obtain ⟨c_3, hm⟩ := chk_elim hm
  obtain ⟨r_4, hr_4, hm⟩ := callG_elim hm
  refine Wp.seqR fun K2 hK2 => ?_
  simp only [go_sem, simprocAttr]
  try refine ⟨by first | exact sd | ((repeat' apply And.intro) <;> first | assumption | omega | (simp only [List.length_append, List.length_map, List.length_cons, List.length_nil, List.length_set, List.length_replicate] at c_3 ⊢; omega)), ?_⟩
  refine Rg.callX (av := ?av3) (g := true) (fun hg => ok_ver_each_i1 s_1 40 _ hr_2) ?ha3 ?hb3 ?hp3 ?hok3 ?hf3 ?cont3
  case ha3 =>
    simp only [go_sem, simprocAttr]
    exact Is.mk
  case hb3 =>
    simp only [go_sem, simprocAttr]
    exact Is.mk
  case hp3 =>
    simp only [go_sem, simprocAttr]
    exact Is.mk
  case hok3 =>
    simp only [go_sem, simprocAttr]
  case hf3 =>
    simp only [go_sem, simprocAttr]
    exact Is.mk
  intro hv3
  simp only [go_sem, simprocAttr]
  try refine ⟨by first | exact sd | ((repeat' apply And.intro) <;> first | assumption | omega | (simp only [List.length_append, List.length_map, List.length_cons, List.length_nil, List.length_set, List.length_replicate] at c_3 ⊢; omega)), ?_⟩
  refine Rg.callX (av := ?av4) (g := r_2) (fun hg => ok_ver_isSmall ((s_1.getD 0 0).toNat : Int) _ (hr_4 hg)) ?ha4 ?hb4 ?hp4 ?hok4 ?hf4 ?cont4
  case ha4 =>
    simp only [go_sem, simprocAttr]
    exact Is.mk
  case hb4 =>
    simp only [go_sem, simprocAttr]
    exact Is.mk
  case hp4 =>
    simp only [go_sem, simprocAttr]
    exact Is.mk
  case hok4 =>
    simp only [go_sem, simprocAttr]
  case hf4 =>
    simp only [go_sem, simprocAttr]
    exact Is.mk
  intro hv4
  simp only [go_sem, simprocAttr]
  first
    | refine hK2 _ _ ?_
    | refine ⟨by first | exact sd | ((repeat' apply And.intro) <;> first | assumption | omega | (simp only [List.length_append, List.length_map, List.length_cons, List.length_nil, List.length_set, List.length_replicate] at c_3 ⊢; omega)), hK2 _ _ ?_⟩
  refine Wp.ret ?_
  refine retQ_ret ?_
  cases hm
  simp only [go_sem, simprocAttr]
  try simp [encB, encI_i64, encI_u8, encS, enc_api_File, enc_api_Machine, enc_api_Service, enc_api_Setting, List.map_set, List.map_replicate]
set_option maxRecDepth 100000 in
set_option maxHeartbeats 4000000 in
theorem ok_Law_landed  (z : Bool) (hm : Law_landed = some z) : Does Tryd.prog 7 [] [] (fun r X => r = .p (.b z) ∧ X = []) := by
  unfold Law_landed at hm
  refine Does.of_wp 0 2 [.tmp 0] Tryd.func7 rfl (by decide) rfl rfl (Nat.le_of_ble_eq_true rfl) fun B => ?_
  refine Wp.seqR fun K1 hK1 => ?_
  simp only [go_sem, simprocAttr]
  first
    | refine hK1 _ _ ?_
    | refine ⟨by first | exact sd, hK1 _ _ ?_⟩
  obtain ⟨r_1, hr_1, hm⟩ := call_elim hm
  refine Wp.seqR fun K2 hK2 => ?_
  simp only [go_sem, simprocAttr]
  try refine ⟨by first | exact sd, ?_⟩
  refine Rg.callX (av := ?av3) (g := true) (fun hg => ok_ver_IsName ([97] : Str) _ hr_1) ?ha3 ?hb3 ?hp3 ?hok3 ?hf3 ?cont3
  case ha3 =>
    simp only [go_sem, simprocAttr]
    exact Is.mk
  case hb3 =>
    simp only [go_sem, simprocAttr]
    exact Is.mk
  case hp3 =>
    simp only [go_sem, simprocAttr]
    exact Is.mk
  case hok3 =>
    simp only [go_sem, simprocAttr]
  case hf3 =>
    simp only [go_sem, simprocAttr]
    exact Is.mk
  intro hv3
  simp only [go_sem, simprocAttr]
  first
    | refine hK2 _ _ ?_
    | refine ⟨by first | exact sd, hK2 _ _ ?_⟩
  refine Wp.ret ?_
  refine retQ_ret ?_
  cases hm
  simp only [go_sem, simprocAttr]
  try simp [encB, encI_i64, encI_u8, encS, enc_api_File, enc_api_Machine, enc_api_Service, enc_api_Setting, List.map_set, List.map_replicate]
set_option maxRecDepth 100000 in
set_option maxHeartbeats 4000000 in
theorem ok_R_IsName (s_1 : Str) (z : Bool) (hm : R_IsName s_1 = some z) : Does Tryd.prog 30 [.p (.s s_1)] [] (fun r X => r = .p (.b z) ∧ X = []) := by
  unfold R_IsName at hm
  refine Does.of_wp 0 54 [.tmp 2] Tryd.func30 rfl (by decide) rfl rfl (Nat.le_of_ble_eq_true rfl) fun B => ?_
  refine Wp.seqR fun K1 hK1 => ?_
  simp only [go_sem, simprocAttr]
  first
    | refine hK1 _ _ ?_
    | refine ⟨by first | exact sd, hK1 _ _ ?_⟩
  refine Wp.seqW fun K2 hK2 hW2 => ?_
  obtain ⟨k_9, hk_9, hm⟩ := jp_elim hm
  have hcut2 : ∀ s, k_9 s = some z → K2 [(0, .p (.s s_1))] [] := by
    intro s hs
    have hm := hk_9 _ hs
    clear hs
    try dsimp only at hm
    try dsimp only
    refine hK2 _ _ ?_
    refine Wp.seqR fun K3 hK3 => ?_
    simp only [go_sem, simprocAttr]
    first
      | refine hK3 _ _ ?_
      | refine ⟨by first | exact sd, hK3 _ _ ?_⟩
    refine Wp.ret ?_
    refine retQ_ret ?_
    cases hm
    simp only [go_sem, simprocAttr]
    try simp [encB, encI_i64, encI_u8, encS, enc_api_File, enc_api_Machine, enc_api_Service, enc_api_Setting, List.map_set, List.map_replicate]
  clear hK2 hk_9
  refine Wp.seqR fun K4 hK4 => ?_
  simp only [go_sem, simprocAttr]
  first
    | refine hK4 _ _ ?_
    | refine ⟨by first | exact sd, hK4 _ _ ?_⟩
  refine Wp.block ?_
  obtain ⟨k_12, hk_12, hm⟩ := forL_cont hm
  refine Wp.fact 0 fun hl_15 => ?_
  replace hl_15 : s_1.length ≤ 274877906944 := by
    simp only [go_sem, simprocAttr, List.length_map] at hl_15
    omega
  refine Wp.forL (fun i_14 s => [(0, .p (.s s_1)), (7, .p (.i .i64 (s_1.length : Int))), (8, .p (.i .i64 (i_14 : Int)))]) (fun i_14 s => []) ?_ hm ?_
  ·
    simp only [go_sem, simprocAttr]
    try simp [encB, encI_i64, encI_u8, encS, enc_api_File, enc_api_Machine, enc_api_Service, enc_api_Setting, List.map_set, List.map_replicate]
  clear hm
  intro i_14 s hii_14 hm
  try dsimp only at hm
  try dsimp only
  refine Wp.seqR fun K5 hK5 => ?_
  simp only [go_sem, simprocAttr]
  first
    | refine hK5 _ _ ?_
    | refine ⟨by first | exact sd, hK5 _ _ ?_⟩
  refine Wp.seqW fun K6 hK6 hW6 => ?_
  refine Wp.cond rfl ⟨⟩ (fun hc6 => ?_) (fun hc6 => ?_)
  rotate_left
  · refine Wp.exit ?_
    have hm := hk_12 _ (forL_end hm (ge_nat (by first | exact hc6 | simpa using hc6)))
    try dsimp only at hm
    simp only [thenQ, blockQ, ↓reduceIte]
    refine hW2 _ _ _ _ ?_ (hcut2 () hm)
    simp only [go_sem, simprocAttr]
    try simp [encB, encI_i64, encI_u8, encS, enc_api_File, enc_api_Machine, enc_api_Service, enc_api_Setting, List.map_set, List.map_replicate]
  have hlt6 := lt_nat (by first | exact hc6 | simpa using hc6)
  have hw6 := wrap_succ hlt6 hl_15
  obtain ⟨c_16, nx_13, hxc_16, hyc_16, hnx_13, hm⟩ := forL_step hm hlt6
  clear hxc_16
  refine Wp.skip ?_
  simp only [thenQ]
  refine hK6 _ _ ?_
  refine Wp.seqW fun K7 hK7 hW7 => ?_
  refine Wp.block ?_
  refine Wp.seqR fun K8 hK8 => ?_
  simp only [go_sem, simprocAttr, hw6, hyc_16]
  first
    | refine hK8 _ _ ?_
    | refine ⟨by first | exact sd, hK8 _ _ ?_⟩
  refine Wp.seqR fun K9 hK9 => ?_
  simp only [go_sem, simprocAttr, hw6, hyc_16]
  first
    | refine hK9 _ _ ?_
    | refine ⟨by first | exact sd, hK9 _ _ ?_⟩
  refine Wp.seqR fun K10 hK10 => ?_
  simp only [go_sem, simprocAttr, hw6, hyc_16]
  first
    | refine hK10 _ _ ?_
    | refine ⟨by first | exact sd, hK10 _ _ ?_⟩
  refine Wp.seqR fun K11 hK11 => ?_
  simp only [go_sem, simprocAttr, hw6, hyc_16]
  first
    | refine hK11 _ _ ?_
    | refine ⟨by first | exact sd, hK11 _ _ ?_⟩
  refine Wp.cond rfl ⟨⟩ (fun hc12 => ?_) (fun hc12 => ?_)
  · have hm := brT hm (by first | exact hc12 | simpa using hc12)
    refine Wp.seqR fun K13 hK13 => ?_
    simp only [go_sem, simprocAttr, hw6, hyc_16]
    first
      | refine hK13 _ _ ?_
      | refine ⟨by first | exact sd, hK13 _ _ ?_⟩
    refine Wp.ret ?_
    simp only [thenQ, blockQ]
    refine retQ_ret ?_
    cases hm
    simp only [go_sem, simprocAttr, hw6, hyc_16]
    try simp [encB, encI_i64, encI_u8, encS, enc_api_File, enc_api_Machine, enc_api_Service, enc_api_Setting, List.map_set, List.map_replicate]
  · have hm := brF hm (by first | exact hc12 | simpa using hc12)
    refine Wp.skip ?_
    simp only [thenQ, blockQ, ↓reduceIte]
    refine hK7 _ _ ?_
    refine Wp.region fun K14 hK14 => ?_
    simp only [go_sem, simprocAttr, hw6, hyc_16]
    first
      | refine hK14 _ _ ?_
      | refine ⟨by first | exact sd, hK14 _ _ ?_⟩
    simp only [thenQ, blockQ, ↓reduceIte]
    refine ⟨(), hlt6, hnx_13 _ hm, ?_⟩
    simp only [go_sem, simprocAttr, hw6, hyc_16]
    try simp [encB, encI_i64, encI_u8, encS, enc_api_File, enc_api_Machine, enc_api_Service, enc_api_Setting, List.map_set, List.map_replicate]
set_option maxRecDepth 100000 in
set_option maxHeartbeats 4000000 in
theorem ok_R_when (bad_1 : Bool) (e_2 : Int) (z : Int) (hm : R_when bad_1 e_2 = some z) : Does Tryd.prog 36 [.p (.b bad_1), .p (.i .i64 e_2)] [] (fun r X => r = .p (.i .i64 z) ∧ X = []) := by
  unfold R_when at hm
  refine Does.of_wp 0 7 [.tmp 4] Tryd.func36 rfl (by decide) rfl rfl (Nat.le_of_ble_eq_true rfl) fun B => ?_
  refine Wp.seqR fun K1 hK1 => ?_
  simp only [go_sem, simprocAttr]
  first
    | refine hK1 _ _ ?_
    | refine ⟨by first | exact sd, hK1 _ _ ?_⟩
  refine Wp.seqW fun K2 hK2 hW2 => ?_
  refine Wp.seqR fun K3 hK3 => ?_
  simp only [go_sem, simprocAttr]
  first
    | refine hK3 _ _ ?_
    | refine ⟨by first | exact sd, hK3 _ _ ?_⟩
  refine Wp.cond rfl ⟨⟩ (fun hc4 => ?_) (fun hc4 => ?_)
  · have hm := brT hm (by first | exact hc4 | simpa using hc4)
    refine Wp.seqR fun K5 hK5 => ?_
    simp only [go_sem, simprocAttr]
    first
      | refine hK5 _ _ ?_
      | refine ⟨by first | exact sd, hK5 _ _ ?_⟩
    refine Wp.ret ?_
    simp only [thenQ, blockQ]
    refine retQ_ret ?_
    cases hm
    simp only [go_sem, simprocAttr]
    try simp [encB, encI_i64, encI_u8, encS, enc_api_File, enc_api_Machine, enc_api_Service, enc_api_Setting, List.map_set, List.map_replicate]
  · have hm := brF hm (by first | exact hc4 | simpa using hc4)
    refine Wp.skip ?_
    simp only [thenQ, blockQ, ↓reduceIte]
    refine hK2 _ _ ?_
    refine Wp.seqR fun K6 hK6 => ?_
    simp only [go_sem, simprocAttr]
    first
      | refine hK6 _ _ ?_
      | refine ⟨by first | exact sd, hK6 _ _ ?_⟩
    refine Wp.ret ?_
    refine retQ_ret ?_
    cases hm
    simp only [go_sem, simprocAttr]
    try simp [encB, encI_i64, encI_u8, encS, enc_api_File, enc_api_Machine, enc_api_Service, enc_api_Setting, List.map_set, List.map_replicate]
set_option maxRecDepth 100000 in
set_option maxHeartbeats 4000000 in
theorem ok_R_IsValue (s_1 : Str) (z : Bool) (hm : R_IsValue s_1 = some z) : Does Tryd.prog 38 [.p (.s s_1)] [] (fun r X => r = .p (.b z) ∧ X = []) := by
  unfold R_IsValue at hm
  refine Does.of_wp 0 23 [.tmp 2] Tryd.func38 rfl (by decide) rfl rfl (Nat.le_of_ble_eq_true rfl) fun B => ?_
  refine Wp.seqR fun K1 hK1 => ?_
  simp only [go_sem, simprocAttr]
  first
    | refine hK1 _ _ ?_
    | refine ⟨by first | exact sd, hK1 _ _ ?_⟩
  refine Wp.seqW fun K2 hK2 hW2 => ?_
  obtain ⟨k_9, hk_9, hm⟩ := jp_elim hm
  have hcut2 : ∀ s, k_9 s = some z → K2 [(0, .p (.s s_1))] [] := by
    intro s hs
    have hm := hk_9 _ hs
    clear hs
    try dsimp only at hm
    try dsimp only
    refine hK2 _ _ ?_
    refine Wp.seqR fun K3 hK3 => ?_
    simp only [go_sem, simprocAttr]
    first
      | refine hK3 _ _ ?_
      | refine ⟨by first | exact sd, hK3 _ _ ?_⟩
    refine Wp.ret ?_
    refine retQ_ret ?_
    cases hm
    simp only [go_sem, simprocAttr]
    try simp [encB, encI_i64, encI_u8, encS, enc_api_File, enc_api_Machine, enc_api_Service, enc_api_Setting, List.map_set, List.map_replicate]
  clear hK2 hk_9
  refine Wp.seqR fun K4 hK4 => ?_
  simp only [go_sem, simprocAttr]
  first
    | refine hK4 _ _ ?_
    | refine ⟨by first | exact sd, hK4 _ _ ?_⟩
  refine Wp.block ?_
  obtain ⟨k_12, hk_12, hm⟩ := forL_cont hm
  refine Wp.fact 0 fun hl_15 => ?_
  replace hl_15 : s_1.length ≤ 274877906944 := by
    simp only [go_sem, simprocAttr, List.length_map] at hl_15
    omega
  refine Wp.forL (fun i_14 s => [(0, .p (.s s_1)), (5, .p (.i .i64 (s_1.length : Int))), (6, .p (.i .i64 (i_14 : Int)))]) (fun i_14 s => []) ?_ hm ?_
  ·
    simp only [go_sem, simprocAttr]
    try simp [encB, encI_i64, encI_u8, encS, enc_api_File, enc_api_Machine, enc_api_Service, enc_api_Setting, List.map_set, List.map_replicate]
  clear hm
  intro i_14 s hii_14 hm
  try dsimp only at hm
  try dsimp only
  refine Wp.seqR fun K5 hK5 => ?_
  simp only [go_sem, simprocAttr]
  first
    | refine hK5 _ _ ?_
    | refine ⟨by first | exact sd, hK5 _ _ ?_⟩
  refine Wp.seqW fun K6 hK6 hW6 => ?_
  refine Wp.cond rfl ⟨⟩ (fun hc6 => ?_) (fun hc6 => ?_)
  rotate_left
  · refine Wp.exit ?_
    have hm := hk_12 _ (forL_end hm (ge_nat (by first | exact hc6 | simpa using hc6)))
    try dsimp only at hm
    simp only [thenQ, blockQ, ↓reduceIte]
    refine hW2 _ _ _ _ ?_ (hcut2 () hm)
    simp only [go_sem, simprocAttr]
    try simp [encB, encI_i64, encI_u8, encS, enc_api_File, enc_api_Machine, enc_api_Service, enc_api_Setting, List.map_set, List.map_replicate]
  have hlt6 := lt_nat (by first | exact hc6 | simpa using hc6)
  have hw6 := wrap_succ hlt6 hl_15
  obtain ⟨c_16, nx_13, hxc_16, hyc_16, hnx_13, hm⟩ := forL_step hm hlt6
  clear hxc_16
  refine Wp.skip ?_
  simp only [thenQ]
  refine hK6 _ _ ?_
  refine Wp.seqW fun K7 hK7 hW7 => ?_
  refine Wp.block ?_
  refine Wp.seqR fun K8 hK8 => ?_
  simp only [go_sem, simprocAttr, hw6, hyc_16]
  first
    | refine hK8 _ _ ?_
    | refine ⟨by first | exact sd, hK8 _ _ ?_⟩
  refine Wp.seqR fun K9 hK9 => ?_
  simp only [go_sem, simprocAttr, hw6, hyc_16]
  first
    | refine hK9 _ _ ?_
    | refine ⟨by first | exact sd, hK9 _ _ ?_⟩
  refine Wp.cond rfl ⟨⟩ (fun hc10 => ?_) (fun hc10 => ?_)
  · have hm := brT hm (by first | exact hc10 | simpa using hc10)
    refine Wp.seqR fun K11 hK11 => ?_
    simp only [go_sem, simprocAttr, hw6, hyc_16]
    first
      | refine hK11 _ _ ?_
      | refine ⟨by first | exact sd, hK11 _ _ ?_⟩
    refine Wp.ret ?_
    simp only [thenQ, blockQ]
    refine retQ_ret ?_
    cases hm
    simp only [go_sem, simprocAttr, hw6, hyc_16]
    try simp [encB, encI_i64, encI_u8, encS, enc_api_File, enc_api_Machine, enc_api_Service, enc_api_Setting, List.map_set, List.map_replicate]
  · have hm := brF hm (by first | exact hc10 | simpa using hc10)
    refine Wp.skip ?_
    simp only [thenQ, blockQ, ↓reduceIte]
    refine hK7 _ _ ?_
    refine Wp.region fun K12 hK12 => ?_
    simp only [go_sem, simprocAttr, hw6, hyc_16]
    first
      | refine hK12 _ _ ?_
      | refine ⟨by first | exact sd, hK12 _ _ ?_⟩
    simp only [thenQ, blockQ, ↓reduceIte]
    refine ⟨(), hlt6, hnx_13 _ hm, ?_⟩
    simp only [go_sem, simprocAttr, hw6, hyc_16]
    try simp [encB, encI_i64, encI_u8, encS, enc_api_File, enc_api_Machine, enc_api_Service, enc_api_Setting, List.map_set, List.map_replicate]
set_option maxRecDepth 100000 in
set_option maxHeartbeats 4000000 in
theorem ok_R_first (l_1 : List Int) (z : Int) (hm : R_first l_1 = some z) : Does Tryd.prog 37 [.p (.l (List.map encI_i64 l_1))] [] (fun r X => r = .p (.i .i64 z) ∧ X = []) := by
  unfold R_first at hm
  refine Does.of_wp 0 15 [.tmp 2] Tryd.func37 rfl (by decide) rfl rfl (Nat.le_of_ble_eq_true rfl) fun B => ?_
  refine Wp.seqR fun K1 hK1 => ?_
  simp only [go_sem, simprocAttr]
  first
    | refine hK1 _ _ ?_
    | refine ⟨by first | exact sd, hK1 _ _ ?_⟩
  refine Wp.seqW fun K2 hK2 hW2 => ?_
  obtain ⟨k_9, hk_9, hm⟩ := jp_elim hm
  have hcut2 : ∀ s, k_9 s = some z → K2 [] [] := by
    intro s hs
    have hm := hk_9 _ hs
    clear hs
    try dsimp only at hm
    try dsimp only
    refine hK2 _ _ ?_
    refine Wp.seqR fun K3 hK3 => ?_
    simp only [go_sem, simprocAttr]
    first
      | refine hK3 _ _ ?_
      | refine ⟨by first | exact sd, hK3 _ _ ?_⟩
    refine Wp.ret ?_
    refine retQ_ret ?_
    cases hm
    simp only [go_sem, simprocAttr]
    try simp [encB, encI_i64, encI_u8, encS, enc_api_File, enc_api_Machine, enc_api_Service, enc_api_Setting, List.map_set, List.map_replicate]
  clear hK2 hk_9
  refine Wp.seqR fun K4 hK4 => ?_
  simp only [go_sem, simprocAttr]
  first
    | refine hK4 _ _ ?_
    | refine ⟨by first | exact sd, hK4 _ _ ?_⟩
  refine Wp.block ?_
  obtain ⟨k_12, hk_12, hm⟩ := forL_cont hm
  refine Wp.fact 5 fun hl_15 => ?_
  replace hl_15 : l_1.length ≤ 274877906944 := by
    simp only [go_sem, simprocAttr, List.length_map] at hl_15
    omega
  refine Wp.forL (fun i_14 s => [(5, .p (.l (List.map encI_i64 l_1))), (6, .p (.i .i64 (l_1.length : Int))), (7, .p (.i .i64 (i_14 : Int)))]) (fun i_14 s => []) ?_ hm ?_
  ·
    simp only [go_sem, simprocAttr]
    try simp [encB, encI_i64, encI_u8, encS, enc_api_File, enc_api_Machine, enc_api_Service, enc_api_Setting, List.map_set, List.map_replicate]
  clear hm
  intro i_14 s hii_14 hm
  try dsimp only at hm
  try dsimp only
  refine Wp.seqR fun K5 hK5 => ?_
  simp only [go_sem, simprocAttr]
  first
    | refine hK5 _ _ ?_
    | refine ⟨by first | exact sd, hK5 _ _ ?_⟩
  refine Wp.seqW fun K6 hK6 hW6 => ?_
  refine Wp.cond rfl ⟨⟩ (fun hc6 => ?_) (fun hc6 => ?_)
  rotate_left
  · refine Wp.exit ?_
    have hm := hk_12 _ (forL_end hm (ge_nat (by first | exact hc6 | simpa using hc6)))
    try dsimp only at hm
    simp only [thenQ, blockQ, ↓reduceIte]
    refine hW2 _ _ _ _ ?_ (hcut2 () hm)
    simp only [go_sem, simprocAttr]
    try simp [encB, encI_i64, encI_u8, encS, enc_api_File, enc_api_Machine, enc_api_Service, enc_api_Setting, List.map_set, List.map_replicate]
  have hlt6 := lt_nat (by first | exact hc6 | simpa using hc6)
  have hw6 := wrap_succ hlt6 hl_15
  obtain ⟨e_16, nx_13, hxe_16, hye_16, hnx_13, hm⟩ := forL_step hm hlt6
  replace hxe_16 := hxe_16 encI_i64
  refine Wp.skip ?_
  simp only [thenQ]
  refine hK6 _ _ ?_
  refine Wp.seqW fun K7 hK7 hW7 => ?_
  refine Wp.block ?_
  refine Wp.seqR fun K8 hK8 => ?_
  simp only [go_sem, simprocAttr, hw6, hxe_16]
  first
    | refine hK8 _ _ ?_
    | refine ⟨by first | exact sd, hK8 _ _ ?_⟩
  refine Wp.seqR fun K9 hK9 => ?_
  simp only [go_sem, simprocAttr, hw6, hxe_16]
  first
    | refine hK9 _ _ ?_
    | refine ⟨by first | exact sd, hK9 _ _ ?_⟩
  refine Wp.cond rfl ⟨⟩ (fun hc10 => ?_) (fun hc10 => ?_)
  · have hm := brT hm (by first | exact hc10 | simpa using hc10)
    refine Wp.seqR fun K11 hK11 => ?_
    simp only [go_sem, simprocAttr, hw6, hxe_16]
    first
      | refine hK11 _ _ ?_
      | refine ⟨by first | exact sd, hK11 _ _ ?_⟩
    refine Wp.ret ?_
    simp only [thenQ, blockQ]
    refine retQ_ret ?_
    cases hm
    simp only [go_sem, simprocAttr, hw6, hxe_16]
    try simp [encB, encI_i64, encI_u8, encS, enc_api_File, enc_api_Machine, enc_api_Service, enc_api_Setting, List.map_set, List.map_replicate]
  · have hm := brF hm (by first | exact hc10 | simpa using hc10)
    refine Wp.skip ?_
    simp only [thenQ, blockQ, ↓reduceIte]
    refine hK7 _ _ ?_
    refine Wp.region fun K12 hK12 => ?_
    simp only [go_sem, simprocAttr, hw6, hxe_16]
    first
      | refine hK12 _ _ ?_
      | refine ⟨by first | exact sd, hK12 _ _ ?_⟩
    simp only [thenQ, blockQ, ↓reduceIte]
    refine ⟨(), hlt6, hnx_13 _ hm, ?_⟩
    simp only [go_sem, simprocAttr, hw6, hxe_16]
    try simp [encB, encI_i64, encI_u8, encS, enc_api_File, enc_api_Machine, enc_api_Service, enc_api_Setting, List.map_set, List.map_replicate]
set_option maxRecDepth 100000 in
set_option maxHeartbeats 4000000 in
theorem ok_internal_stringslite_IndexByte (s_1 : Str) (c_2 : Int) (z : Int) (hm : internal_stringslite_IndexByte s_1 c_2 = some z) : Does Tryd.prog 139 [.p (.s s_1), .p (.i .u8 c_2)] [] (fun r X => r = .p (.i .i64 z) ∧ X = []) := by
  unfold internal_stringslite_IndexByte at hm
  refine Does.of_wp 0 8 [.tmp 4] Tryd.func139 rfl (by decide) rfl rfl (Nat.le_of_ble_eq_true rfl) fun B => ?_
  refine Wp.seqR fun K1 hK1 => ?_
  simp only [go_sem, simprocAttr]
  first
    | refine hK1 _ _ ?_
    | refine ⟨by first | exact sd, hK1 _ _ ?_⟩
  have hb_3 := ixByte_bd s_1 c_2
  refine Wp.seqR fun K2 hK2 => ?_
  simp only [go_sem, simprocAttr]
  try refine ⟨by first | exact sd, ?_⟩
  refine Rg.callN (av := ?av3) (g := true) (fun hg => nv_156 s_1 c_2) ?ha3 ?hb3 ?hp3 ?hok3 ?hf3 ?cont3
  case ha3 =>
    simp only [go_sem, simprocAttr]
    exact Is.mk
  case hb3 =>
    simp only [go_sem, simprocAttr]
    exact Is.mk
  case hp3 =>
    simp only [go_sem, simprocAttr]
    exact Is.mk
  case hok3 =>
    simp only [go_sem, simprocAttr]
  case hf3 =>
    simp only [go_sem, simprocAttr]
    exact Is.mk
  intro hv3
  simp only [go_sem, simprocAttr]
  first
    | refine hK2 _ _ ?_
    | refine ⟨by first | exact sd, hK2 _ _ ?_⟩
  refine Wp.ret ?_
  refine retQ_ret ?_
  cases hm
  simp only [go_sem, simprocAttr]
  try simp [encB, encI_i64, encI_u8, encS, enc_api_File, enc_api_Machine, enc_api_Service, enc_api_Setting, List.map_set, List.map_replicate]
set_option maxRecDepth 100000 in
set_option maxHeartbeats 4000000 in
theorem ok_internal_stringslite_Index (s_1 : Str) (substr_2 : Str) (z : Int) (hm : internal_stringslite_Index s_1 substr_2 = some z) : Does Tryd.prog 127 [.p (.s s_1), .p (.s substr_2)] [] (fun r X => r = .p (.i .i64 z) ∧ X = []) := by
  unfold internal_stringslite_Index at hm
  refine Does.of_wp 0 143 [.tmp 4] Tryd.func127 rfl (by decide) rfl rfl (Nat.le_of_ble_eq_true rfl) fun B => ?_
  refine Wp.seqR fun K1 hK1 => ?_
  simp only [go_sem, simprocAttr]
  first
    | refine hK1 _ _ ?_
    | refine ⟨by first | exact sd, hK1 _ _ ?_⟩
  refine Wp.seqR fun K2 hK2 => ?_
  simp only [go_sem, simprocAttr]
  first
    | refine hK2 _ _ ?_
    | refine ⟨by first | exact sd, hK2 _ _ ?_⟩
  refine Wp.seqW fun K3 hK3 hW3 => ?_
  refine Wp.block ?_
  refine Wp.seqR fun K4 hK4 => ?_
  simp only [go_sem, simprocAttr]
  first
    | refine hK4 _ _ ?_
    | refine ⟨by first | exact sd, hK4 _ _ ?_⟩
  refine Wp.cond rfl ⟨⟩ (fun hc5 => ?_) (fun hc5 => ?_)
  · have hm := brT hm (by first | exact hc5 | simpa using hc5)
    refine Wp.seqR fun K6 hK6 => ?_
    simp only [go_sem, simprocAttr]
    first
      | refine hK6 _ _ ?_
      | refine ⟨by first | exact sd, hK6 _ _ ?_⟩
    refine Wp.ret ?_
    simp only [thenQ, blockQ]
    refine retQ_ret ?_
    cases hm
    simp only [go_sem, simprocAttr]
    try simp [encB, encI_i64, encI_u8, encS, enc_api_File, enc_api_Machine, enc_api_Service, enc_api_Setting, List.map_set, List.map_replicate]
  · have hm := brF hm (by first | exact hc5 | simpa using hc5)
    refine Wp.seqR fun K7 hK7 => ?_
    simp only [go_sem, simprocAttr]
    first
      | refine hK7 _ _ ?_
      | refine ⟨by first | exact sd, hK7 _ _ ?_⟩
    refine Wp.cond rfl ⟨⟩ (fun hc8 => ?_) (fun hc8 => ?_)
    · have hm := brT hm (by first | exact hc8 | simpa using hc8)
      obtain ⟨c_3, hbc_3, hxc_3, hm⟩ := idxS_elim hm
      replace hxc_3 : ((substr_2.getD 0 0).toNat : Int) = c_3 := hxc_3
      obtain ⟨r_4, hr_4, hm⟩ := call_elim hm
      refine Wp.seqR fun K9 hK9 => ?_
      simp only [go_sem, simprocAttr, hxc_3]
      try refine ⟨by first | exact sd, ?_⟩
      refine Rg.callX (av := ?av10) (g := true) (fun hg => ok_internal_stringslite_IndexByte s_1 c_3 _ hr_4) ?ha10 ?hb10 ?hp10 ?hok10 ?hf10 ?cont10
      case ha10 =>
        simp only [go_sem, simprocAttr, hxc_3]
        exact Is.mk
      case hb10 =>
        simp only [go_sem, simprocAttr, hxc_3]
        exact Is.mk
      case hp10 =>
        simp only [go_sem, simprocAttr, hxc_3]
        exact Is.mk
      case hok10 =>
        simp only [go_sem, simprocAttr, hxc_3]
      case hf10 =>
        simp only [go_sem, simprocAttr, hxc_3]
        exact Is.mk
      intro hv10
      simp only [go_sem, simprocAttr, hxc_3]
      first
        | refine hK9 _ _ ?_
        | refine ⟨by first | exact sd, hK9 _ _ ?_⟩
      refine Wp.ret ?_
      simp only [thenQ, blockQ]
      refine retQ_ret ?_
      cases hm
      simp only [go_sem, simprocAttr, hxc_3]
      try simp [encB, encI_i64, encI_u8, encS, enc_api_File, enc_api_Machine, enc_api_Service, enc_api_Setting, List.map_set, List.map_replicate]
    · have hm := brF hm (by first | exact hc8 | simpa using hc8)
      refine Wp.seqR fun K11 hK11 => ?_
      simp only [go_sem, simprocAttr]
      first
        | refine hK11 _ _ ?_
        | refine ⟨by first | exact sd, hK11 _ _ ?_⟩
      refine Wp.cond rfl ⟨⟩ (fun hc12 => ?_) (fun hc12 => ?_)
      · have hm := brT hm (by first | exact hc12 | simpa using hc12)
        refine Wp.seqR fun K13 hK13 => ?_
        simp only [go_sem, simprocAttr]
        first
          | refine hK13 _ _ ?_
          | refine ⟨by first | exact sd, hK13 _ _ ?_⟩
        refine Wp.ret ?_
        simp only [thenQ, blockQ]
        refine retQ_ret ?_
        cases hm
        simp only [go_sem, simprocAttr]
        try simp [encB, encI_i64, encI_u8, encS, enc_api_File, enc_api_Machine, enc_api_Service, enc_api_Setting, List.map_set, List.map_replicate]
      · have hm := brF hm (by first | exact hc12 | simpa using hc12)
        cases hm
set_option maxRecDepth 100000 in
set_option maxHeartbeats 4000000 in
theorem ok_strings_Index (s_1 : Str) (substr_2 : Str) (z : Int) (hm : strings_Index s_1 substr_2 = some z) : Does Tryd.prog 128 [.p (.s s_1), .p (.s substr_2)] [] (fun r X => r = .p (.i .i64 z) ∧ X = []) := by
  unfold strings_Index at hm
  refine Does.of_wp 0 8 [.tmp 4] Tryd.func128 rfl (by decide) rfl rfl (Nat.le_of_ble_eq_true rfl) fun B => ?_
  refine Wp.seqR fun K1 hK1 => ?_
  simp only [go_sem, simprocAttr]
  first
    | refine hK1 _ _ ?_
    | refine ⟨by first | exact sd, hK1 _ _ ?_⟩
  obtain ⟨r_3, hr_3, hm⟩ := call_elim hm
  refine Wp.seqR fun K2 hK2 => ?_
  simp only [go_sem, simprocAttr]
  try refine ⟨by first | exact sd, ?_⟩
  refine Rg.callX (av := ?av3) (g := true) (fun hg => ok_internal_stringslite_Index s_1 substr_2 _ hr_3) ?ha3 ?hb3 ?hp3 ?hok3 ?hf3 ?cont3
  case ha3 =>
    simp only [go_sem, simprocAttr]
    exact Is.mk
  case hb3 =>
    simp only [go_sem, simprocAttr]
    exact Is.mk
  case hp3 =>
    simp only [go_sem, simprocAttr]
    exact Is.mk
  case hok3 =>
    simp only [go_sem, simprocAttr]
  case hf3 =>
    simp only [go_sem, simprocAttr]
    exact Is.mk
  intro hv3
  simp only [go_sem, simprocAttr]
  first
    | refine hK2 _ _ ?_
    | refine ⟨by first | exact sd, hK2 _ _ ?_⟩
  refine Wp.ret ?_
  refine retQ_ret ?_
  cases hm
  simp only [go_sem, simprocAttr]
  try simp [encB, encI_i64, encI_u8, encS, enc_api_File, enc_api_Machine, enc_api_Service, enc_api_Setting, List.map_set, List.map_replicate]
set_option maxRecDepth 100000 in
set_option maxHeartbeats 4000000 in
theorem ok_strings_Count (s_1 : Str) (substr_2 : Str) (z : Int) (hm : strings_Count s_1 substr_2 = some z) : Does Tryd.prog 130 [.p (.s s_1), .p (.s substr_2)] [] (fun r X => r = .p (.i .i64 z) ∧ X = []) := by
  unfold strings_Count at hm
  refine Does.of_wp 0 34 [.tmp 4] Tryd.func130 rfl (by decide) rfl rfl (Nat.le_of_ble_eq_true rfl) fun B => ?_
  refine Wp.seqR fun K1 hK1 => ?_
  simp only [go_sem, simprocAttr]
  first
    | refine hK1 _ _ ?_
    | refine ⟨by first | exact sd, hK1 _ _ ?_⟩
  refine Wp.seqW fun K2 hK2 hW2 => ?_
  refine Wp.seqR fun K3 hK3 => ?_
  simp only [go_sem, simprocAttr]
  first
    | refine hK3 _ _ ?_
    | refine ⟨by first | exact sd, hK3 _ _ ?_⟩
  refine Wp.cond rfl ⟨⟩ (fun hc4 => ?_) (fun hc4 => ?_)
  · have hm := brT hm (by first | exact hc4 | simpa using hc4)
    cases hm
  · have hm := brF hm (by first | exact hc4 | simpa using hc4)
    refine Wp.skip ?_
    simp only [thenQ, blockQ, ↓reduceIte]
    refine hK2 _ _ ?_
    refine Wp.seqW fun K5 hK5 hW5 => ?_
    refine Wp.seqR fun K6 hK6 => ?_
    simp only [go_sem, simprocAttr]
    first
      | refine hK6 _ _ ?_
      | refine ⟨by first | exact sd, hK6 _ _ ?_⟩
    refine Wp.cond rfl ⟨⟩ (fun hc7 => ?_) (fun hc7 => ?_)
    · have hm := brT hm (by first | exact hc7 | simpa using hc7)
      obtain ⟨c_3, hbc_3, hxc_3, hm⟩ := idxS_elim hm
      replace hxc_3 : ((substr_2.getD 0 0).toNat : Int) = c_3 := hxc_3
      have hb_4 := cntByte_bd s_1 c_3
      refine Wp.seqR fun K8 hK8 => ?_
      simp only [go_sem, simprocAttr, hxc_3]
      try refine ⟨by first | exact sd, ?_⟩
      refine Rg.callN (av := ?av9) (g := true) (fun hg => nv_145 s_1 c_3) ?ha9 ?hb9 ?hp9 ?hok9 ?hf9 ?cont9
      case ha9 =>
        simp only [go_sem, simprocAttr, hxc_3]
        exact Is.mk
      case hb9 =>
        simp only [go_sem, simprocAttr, hxc_3]
        exact Is.mk
      case hp9 =>
        simp only [go_sem, simprocAttr, hxc_3]
        exact Is.mk
      case hok9 =>
        simp only [go_sem, simprocAttr, hxc_3]
      case hf9 =>
        simp only [go_sem, simprocAttr, hxc_3]
        exact Is.mk
      intro hv9
      simp only [go_sem, simprocAttr, hxc_3]
      first
        | refine hK8 _ _ ?_
        | refine ⟨by first | exact sd, hK8 _ _ ?_⟩
      refine Wp.ret ?_
      simp only [thenQ, blockQ]
      refine retQ_ret ?_
      cases hm
      simp only [go_sem, simprocAttr, hxc_3]
      try simp [encB, encI_i64, encI_u8, encS, enc_api_File, enc_api_Machine, enc_api_Service, enc_api_Setting, List.map_set, List.map_replicate]
    · have hm := brF hm (by first | exact hc7 | simpa using hc7)
      refine Wp.skip ?_
      simp only [thenQ, blockQ, ↓reduceIte]
      refine hK5 _ _ ?_
      refine Wp.seqR fun K10 hK10 => ?_
      simp only [go_sem, simprocAttr]
      first
        | refine hK10 _ _ ?_
        | refine ⟨by first | exact sd, hK10 _ _ ?_⟩
      refine Wp.block ?_
      obtain ⟨k_14, hk_14, hm⟩ := loopN_cont hm
      refine Wp.loopN (fun s => [(0, .p (.s s.1)), (1, .p (.s substr_2)), (4, .p (.i .i64 0)), (5, .p (.i .i64 s.2))]) (fun s => []) ?_ hm ?_
      ·
        simp only [go_sem, simprocAttr]
        try simp [encB, encI_i64, encI_u8, encS, enc_api_File, enc_api_Machine, enc_api_Service, enc_api_Setting, List.map_set, List.map_replicate]
      clear hm
      intro s nx_15 hm
      obtain ⟨s_10, n_11⟩ := s
      try dsimp only at hm
      try dsimp only
      refine Wp.block ?_
      obtain ⟨r_16, hr_16, hm⟩ := call_elim hm
      refine Wp.seqR fun K11 hK11 => ?_
      simp only [go_sem, simprocAttr]
      try refine ⟨by first | exact sd, ?_⟩
      refine Rg.callX (av := ?av12) (g := true) (fun hg => ok_strings_Index s_10 substr_2 _ hr_16) ?ha12 ?hb12 ?hp12 ?hok12 ?hf12 ?cont12
      case ha12 =>
        simp only [go_sem, simprocAttr]
        exact Is.mk
      case hb12 =>
        simp only [go_sem, simprocAttr]
        exact Is.mk
      case hp12 =>
        simp only [go_sem, simprocAttr]
        exact Is.mk
      case hok12 =>
        simp only [go_sem, simprocAttr]
      case hf12 =>
        simp only [go_sem, simprocAttr]
        exact Is.mk
      intro hv12
      simp only [go_sem, simprocAttr]
      first
        | refine hK11 _ _ ?_
        | refine ⟨by first | exact sd, hK11 _ _ ?_⟩
      refine Wp.seqW fun K13 hK13 hW13 => ?_
      refine Wp.seqR fun K14 hK14 => ?_
      simp only [go_sem, simprocAttr]
      first
        | refine hK14 _ _ ?_
        | refine ⟨by first | exact sd, hK14 _ _ ?_⟩
      refine Wp.cond rfl ⟨⟩ (fun hc15 => ?_) (fun hc15 => ?_)
      · have hm := brT hm (by first | exact hc15 | simpa using hc15)
        refine Wp.seqR fun K16 hK16 => ?_
        simp only [go_sem, simprocAttr]
        first
          | refine hK16 _ _ ?_
          | refine ⟨by first | exact sd, hK16 _ _ ?_⟩
        refine Wp.ret ?_
        simp only [thenQ, blockQ]
        refine retQ_ret ?_
        cases hm
        simp only [go_sem, simprocAttr]
        try simp [encB, encI_i64, encI_u8, encS, enc_api_File, enc_api_Machine, enc_api_Service, enc_api_Setting, List.map_set, List.map_replicate]
      · have hm := brF hm (by first | exact hc15 | simpa using hc15)
        refine Wp.skip ?_
        simp only [thenQ, blockQ, ↓reduceIte]
        refine hK13 _ _ ?_
        refine Wp.seqR fun K17 hK17 => ?_
        simp only [go_sem, simprocAttr]
        first
          | refine hK17 _ _ ?_
          | refine ⟨by first | exact sd, hK17 _ _ ?_⟩
        obtain ⟨c_17, hm⟩ := chk_elim hm
        refine Wp.region fun K18 hK18 => ?_
        simp only [go_sem, simprocAttr]
        first
          | refine hK18 _ _ ?_
          | refine ⟨by first | exact sd | ((repeat' apply And.intro) <;> first | assumption | omega | (simp only [List.length_append, List.length_map, List.length_cons, List.length_nil, List.length_set, List.length_replicate] at c_17 ⊢; omega)), hK18 _ _ ?_⟩
        simp only [thenQ, blockQ, ↓reduceIte]
        refine ⟨(List.drop ((IntKind.i64.wrap (r_16 + (substr_2.length : Int))).toNat) s_10, IntKind.i64.wrap (n_11 + 1)), hm, ?_⟩
        simp only [go_sem, simprocAttr]
        try simp [encB, encI_i64, encI_u8, encS, enc_api_File, enc_api_Machine, enc_api_Service, enc_api_Setting, List.map_set, List.map_replicate]
set_option maxRecDepth 100000 in
set_option maxHeartbeats 4000000 in
theorem ok_strings_genSplit (s_1 : Str) (sep_2 : Str) (sepSave_3 : Int) (n_4 : Int) (z : List Str) (hm : strings_genSplit s_1 sep_2 sepSave_3 n_4 = some z) : Does Tryd.prog 107 [.p (.s s_1), .p (.s sep_2), .p (.i .i64 sepSave_3), .p (.i .i64 n_4)] [] (fun r X => r = .p (.l (List.map encS z)) ∧ X = []) := by
  unfold strings_genSplit at hm
  refine Does.of_wp 0 66 [.tmp 8] Tryd.func107 rfl (by decide) rfl rfl (Nat.le_of_ble_eq_true rfl) fun B => ?_
  refine Wp.seqR fun K1 hK1 => ?_
  simp only [go_sem, simprocAttr]
  first
    | refine hK1 _ _ ?_
    | refine ⟨by first | exact sd, hK1 _ _ ?_⟩
  refine Wp.seqW fun K2 hK2 hW2 => ?_
  refine Wp.seqR fun K3 hK3 => ?_
  simp only [go_sem, simprocAttr]
  first
    | refine hK3 _ _ ?_
    | refine ⟨by first | exact sd, hK3 _ _ ?_⟩
  refine Wp.cond rfl ⟨⟩ (fun hc4 => ?_) (fun hc4 => ?_)
  · have hm := brT hm (by first | exact hc4 | simpa using hc4)
    refine Wp.seqR fun K5 hK5 => ?_
    simp only [go_sem, simprocAttr]
    first
      | refine hK5 _ _ ?_
      | refine ⟨by first | exact sd, hK5 _ _ ?_⟩
    refine Wp.ret ?_
    simp only [thenQ, blockQ]
    refine retQ_retE ?_
    cases hm
    simp only [go_sem, simprocAttr]
    try simp [encB, encI_i64, encI_u8, encS, enc_api_File, enc_api_Machine, enc_api_Service, enc_api_Setting, List.map_set, List.map_replicate]
  · have hm := brF hm (by first | exact hc4 | simpa using hc4)
    refine Wp.skip ?_
    simp only [thenQ, blockQ, ↓reduceIte]
    refine hK2 _ _ ?_
    refine Wp.seqW fun K6 hK6 hW6 => ?_
    refine Wp.seqR fun K7 hK7 => ?_
    simp only [go_sem, simprocAttr]
    first
      | refine hK7 _ _ ?_
      | refine ⟨by first | exact sd, hK7 _ _ ?_⟩
    refine Wp.cond rfl ⟨⟩ (fun hc8 => ?_) (fun hc8 => ?_)
    · have hm := brT hm (by first | exact hc8 | simpa using hc8)
      cases hm
    · have hm := brF hm (by first | exact hc8 | simpa using hc8)
      refine Wp.skip ?_
      simp only [thenQ, blockQ, ↓reduceIte]
      refine hK6 _ _ ?_
      refine Wp.seqW fun K9 hK9 hW9 => ?_
      obtain ⟨k_7, hk_7, hm⟩ := jp_elim hm
      have hcut9 : ∀ s, k_7 s = some z → K9 [(0, .p (.s s_1)), (1, .p (.s sep_2)), (2, .p (.i .i64 sepSave_3)), (3, .p (.i .i64 s))] [] := by
        intro n_6 hs
        have hm := hk_7 _ hs
        clear hs
        try dsimp only at hm
        try dsimp only
        refine hK9 _ _ ?_
        refine Wp.seqR fun K10 hK10 => ?_
        simp only [go_sem, simprocAttr]
        first
          | refine hK10 _ _ ?_
          | refine ⟨by first | exact sd, hK10 _ _ ?_⟩
        obtain ⟨c_8, hm⟩ := chk_elim hm
        refine Wp.seqR fun K11 hK11 => ?_
        simp only [go_sem, simprocAttr]
        first
          | refine hK11 _ _ ?_
          | refine ⟨by first | exact sd | ((repeat' apply And.intro) <;> first | assumption | omega | (simp only [List.length_append, List.length_map, List.length_cons, List.length_nil, List.length_set, List.length_replicate] at c_8 ⊢; omega)), hK11 _ _ ?_⟩
        refine Wp.seqR fun K12 hK12 => ?_
        simp only [go_sem, simprocAttr]
        first
          | refine hK12 _ _ ?_
          | refine ⟨by first | exact sd, hK12 _ _ ?_⟩
        refine Wp.seqR fun K13 hK13 => ?_
        simp only [go_sem, simprocAttr]
        first
          | refine hK13 _ _ ?_
          | refine ⟨by first | exact sd, hK13 _ _ ?_⟩
        refine Wp.seqW fun K14 hK14 hW14 => ?_
        obtain ⟨k_34, hk_34, hm⟩ := jp_elim hm
        have hcut14 : ∀ s, k_34 s = some z → K14 [(0, .p (.s s.1)), (9, .buf 0), (10, .p (.i .i64 s.2.1))] [.buf 9 1 (List.map encS s.2.2)] := by
          intro s hs
          have hm := hk_34 _ hs
          clear hs
          obtain ⟨s_31, i_32, o0_33⟩ := s
          try dsimp only at hm
          try dsimp only
          refine hK14 _ _ ?_
          obtain ⟨c_35, hm⟩ := chk_elim hm
          have hr_36 := fun h => getD_encB (l := o0_33) (e := encS) (d := []) (i := i_32.toNat) h []
          refine Wp.seqR fun K15 hK15 => ?_
          simp only [go_sem, simprocAttr, hr_36 (by omega)]
          first
            | refine hK15 _ _ ?_
            | refine ⟨by first | exact sd | ((repeat' apply And.intro) <;> first | assumption | omega | (simp only [List.length_append, List.length_map, List.length_cons, List.length_nil, List.length_set, List.length_replicate] at c_35 ⊢; omega)), hK15 _ _ ?_⟩
          refine Wp.freeze 0 (by simp only [go_sem, simprocAttr]; exact Is.mk) (by first | (simp only [go_sem, simprocAttr]; done) | (simp only [go_sem, simprocAttr]; omega)) ?_
          simp only [go_sem, simprocAttr]
          obtain ⟨c_37, hm⟩ := chk_elim hm
          refine Wp.seqR fun K16 hK16 => ?_
          simp only [go_sem, simprocAttr]
          first
            | refine hK16 _ _ ?_
            | refine ⟨by first | exact sd | ((repeat' apply And.intro) <;> first | assumption | omega | (simp only [List.length_append, List.length_map, List.length_cons, List.length_nil, List.length_set, List.length_replicate] at c_37 ⊢; omega)), hK16 _ _ ?_⟩
          refine Wp.ret ?_
          refine retQ_ret ?_
          cases hm
          simp only [go_sem, simprocAttr]
          try simp [encB, encI_i64, encI_u8, encS, enc_api_File, enc_api_Machine, enc_api_Service, enc_api_Setting, List.map_set, List.map_replicate]
        clear hK14 hk_34
        refine Wp.block ?_
        obtain ⟨k_53, hk_53, hm⟩ := loopN_cont hm
        refine Wp.loopN (fun s => [(0, .p (.s s.1)), (1, .p (.s sep_2)), (2, .p (.i .i64 sepSave_3)), (3, .p (.i .i64 (IntKind.i64.wrap ((min n_6 (IntKind.i64.wrap ((s_1.length : Int) + 1))) - 1)))), (9, .buf 0), (10, .p (.i .i64 s.2.1))]) (fun s => [.buf 9 1 (List.map encS s.2.2)]) ?_ hm ?_
        ·
          simp only [go_sem, simprocAttr]
          try simp [encB, encI_i64, encI_u8, encS, enc_api_File, enc_api_Machine, enc_api_Service, enc_api_Setting, List.map_set, List.map_replicate]
        clear hm
        intro s nx_54 hm
        obtain ⟨s_45, i_46, o0_47⟩ := s
        try dsimp only at hm
        try dsimp only
        refine Wp.seqW fun K17 hK17 hW17 => ?_
        refine Wp.seqR fun K18 hK18 => ?_
        simp only [go_sem, simprocAttr]
        first
          | refine hK18 _ _ ?_
          | refine ⟨by first | exact sd, hK18 _ _ ?_⟩
        refine Wp.cond rfl ⟨⟩ (fun hc19 => ?_) (fun hc19 => ?_)
        · have hm := brT hm (by first | exact hc19 | simpa using hc19)
          refine Wp.skip ?_
          simp only [thenQ, blockQ, ↓reduceIte]
          refine hK17 _ _ ?_
          refine Wp.block ?_
          obtain ⟨r_55, hr_55, hm⟩ := call_elim hm
          refine Wp.seqR fun K20 hK20 => ?_
          simp only [go_sem, simprocAttr]
          try refine ⟨by first | exact sd, ?_⟩
          refine Rg.callX (av := ?av21) (g := true) (fun hg => ok_strings_Index s_45 sep_2 _ hr_55) ?ha21 ?hb21 ?hp21 ?hok21 ?hf21 ?cont21
          case ha21 =>
            simp only [go_sem, simprocAttr]
            exact Is.mk
          case hb21 =>
            simp only [go_sem, simprocAttr]
            exact Is.mk
          case hp21 =>
            simp only [go_sem, simprocAttr]
            exact Is.mk
          case hok21 =>
            simp only [go_sem, simprocAttr]
          case hf21 =>
            simp only [go_sem, simprocAttr]
            exact Is.mk
          intro hv21
          simp only [go_sem, simprocAttr]
          first
            | refine hK20 _ _ ?_
            | refine ⟨by first | exact sd, hK20 _ _ ?_⟩
          refine Wp.seqW fun K22 hK22 hW22 => ?_
          refine Wp.seqR fun K23 hK23 => ?_
          simp only [go_sem, simprocAttr]
          first
            | refine hK23 _ _ ?_
            | refine ⟨by first | exact sd, hK23 _ _ ?_⟩
          refine Wp.cond rfl ⟨⟩ (fun hc24 => ?_) (fun hc24 => ?_)
          · have hm := brT hm (by first | exact hc24 | simpa using hc24)
            refine Wp.exit ?_
            simp only [thenQ, blockQ, ↓reduceIte]
            have hm := hk_53 _ hm
            try dsimp only at hm
            refine hW14 _ _ _ _ ?_ (hcut14 (s_45, i_46, o0_47) hm)
            simp only [go_sem, simprocAttr]
            try simp [encB, encI_i64, encI_u8, encS, enc_api_File, enc_api_Machine, enc_api_Service, enc_api_Setting, List.map_set, List.map_replicate]
          · have hm := brF hm (by first | exact hc24 | simpa using hc24)
            refine Wp.skip ?_
            simp only [thenQ, blockQ, ↓reduceIte]
            refine hK22 _ _ ?_
            obtain ⟨c_56, hm⟩ := chk_elim hm
            obtain ⟨c_57, hm⟩ := chk_elim hm
            have hr_58 := fun h => getD_encB (l := o0_47) (e := encS) (d := []) (i := i_46.toNat) h []
            refine Wp.seqR fun K25 hK25 => ?_
            simp only [go_sem, simprocAttr, hr_58 (by omega)]
            first
              | refine hK25 _ _ ?_
              | refine ⟨by first | exact sd | ((repeat' apply And.intro) <;> first | assumption | omega | (simp only [List.length_append, List.length_map, List.length_cons, List.length_nil, List.length_set, List.length_replicate] at c_56 c_57 ⊢; omega)), hK25 _ _ ?_⟩
            obtain ⟨c_59, hm⟩ := chk_elim hm
            refine Wp.seqR fun K26 hK26 => ?_
            simp only [go_sem, simprocAttr]
            first
              | refine hK26 _ _ ?_
              | refine ⟨by first | exact sd | ((repeat' apply And.intro) <;> first | assumption | omega | (simp only [List.length_append, List.length_map, List.length_cons, List.length_nil, List.length_set, List.length_replicate] at c_59 ⊢; omega)), hK26 _ _ ?_⟩
            refine Wp.region fun K27 hK27 => ?_
            simp only [go_sem, simprocAttr]
            first
              | refine hK27 _ _ ?_
              | refine ⟨by first | exact sd, hK27 _ _ ?_⟩
            simp only [thenQ, blockQ, ↓reduceIte]
            refine ⟨(List.drop ((IntKind.i64.wrap (r_55 + (sep_2.length : Int))).toNat) s_45, IntKind.i64.wrap (i_46 + 1), List.set o0_47 i_46.toNat (List.take ((IntKind.i64.wrap (r_55 + sepSave_3)).toNat) s_45)), hm, ?_⟩
            simp only [go_sem, simprocAttr]
            try simp [encB, encI_i64, encI_u8, encS, enc_api_File, enc_api_Machine, enc_api_Service, enc_api_Setting, List.map_set, List.map_replicate]
        · have hm := brF hm (by first | exact hc19 | simpa using hc19)
          refine Wp.exit ?_
          simp only [thenQ, blockQ, ↓reduceIte]
          have hm := hk_53 _ hm
          try dsimp only at hm
          refine hW14 _ _ _ _ ?_ (hcut14 (s_45, i_46, o0_47) hm)
          simp only [go_sem, simprocAttr]
          try simp [encB, encI_i64, encI_u8, encS, enc_api_File, enc_api_Machine, enc_api_Service, enc_api_Setting, List.map_set, List.map_replicate]
      clear hK9 hk_7
      refine Wp.seqR fun K28 hK28 => ?_
      simp only [go_sem, simprocAttr]
      first
        | refine hK28 _ _ ?_
        | refine ⟨by first | exact sd, hK28 _ _ ?_⟩
      refine Wp.cond rfl ⟨⟩ (fun hc29 => ?_) (fun hc29 => ?_)
      · have hm := brT hm (by first | exact hc29 | simpa using hc29)
        obtain ⟨r_60, hr_60, hm⟩ := call_elim hm
        refine Wp.region fun K30 hK30 => ?_
        simp only [go_sem, simprocAttr]
        try refine ⟨by first | exact sd, ?_⟩
        refine Rg.callX (av := ?av31) (g := true) (fun hg => ok_strings_Count s_1 sep_2 _ hr_60) ?ha31 ?hb31 ?hp31 ?hok31 ?hf31 ?cont31
        case ha31 =>
          simp only [go_sem, simprocAttr]
          exact Is.mk
        case hb31 =>
          simp only [go_sem, simprocAttr]
          exact Is.mk
        case hp31 =>
          simp only [go_sem, simprocAttr]
          exact Is.mk
        case hok31 =>
          simp only [go_sem, simprocAttr]
        case hf31 =>
          simp only [go_sem, simprocAttr]
          exact Is.mk
        intro hv31
        simp only [go_sem, simprocAttr]
        first
          | refine hK30 _ _ ?_
          | refine ⟨by first | exact sd, hK30 _ _ ?_⟩
        simp only [thenQ, blockQ, ↓reduceIte]
        refine hW9 _ _ _ _ ?_ (hcut9 (IntKind.i64.wrap (r_60 + 1)) hm)
        simp only [go_sem, simprocAttr]
        try simp [encB, encI_i64, encI_u8, encS, enc_api_File, enc_api_Machine, enc_api_Service, enc_api_Setting, List.map_set, List.map_replicate]
      · have hm := brF hm (by first | exact hc29 | simpa using hc29)
        refine Wp.skip ?_
        simp only [thenQ, blockQ, ↓reduceIte]
        refine hW9 _ _ _ _ ?_ (hcut9 n_4 hm)
        simp only [go_sem, simprocAttr]
        try simp [encB, encI_i64, encI_u8, encS, enc_api_File, enc_api_Machine, enc_api_Service, enc_api_Setting, List.map_set, List.map_replicate]
set_option maxRecDepth 100000 in
set_option maxHeartbeats 4000000 in
theorem ok_strings_Split (s_1 : Str) (sep_2 : Str) (z : List Str) (hm : strings_Split s_1 sep_2 = some z) : Does Tryd.prog 66 [.p (.s s_1), .p (.s sep_2)] [] (fun r X => r = .p (.l (List.map encS z)) ∧ X = []) := by
  unfold strings_Split at hm
  refine Does.of_wp 0 8 [.tmp 4] Tryd.func66 rfl (by decide) rfl rfl (Nat.le_of_ble_eq_true rfl) fun B => ?_
  refine Wp.seqR fun K1 hK1 => ?_
  simp only [go_sem, simprocAttr]
  first
    | refine hK1 _ _ ?_
    | refine ⟨by first | exact sd, hK1 _ _ ?_⟩
  obtain ⟨r_3, hr_3, hm⟩ := call_elim hm
  refine Wp.seqR fun K2 hK2 => ?_
  simp only [go_sem, simprocAttr]
  try refine ⟨by first | exact sd, ?_⟩
  refine Rg.callF (av := ?av3) (ok_strings_genSplit s_1 sep_2 0 (-1) _ hr_3) ?ha3 ?hp3 ?hok3 ?cont3
  case ha3 =>
    simp only [go_sem, simprocAttr]
    exact Is.mk
  case hp3 =>
    simp only [go_sem, simprocAttr]
    exact Is.mk
  case hok3 =>
    simp only [go_sem, simprocAttr]
  intro hv3
  simp only [go_sem, simprocAttr]
  first
    | refine hK2 _ _ ?_
    | refine ⟨by first | exact sd, hK2 _ _ ?_⟩
  refine Wp.ret ?_
  refine retQ_ret ?_
  cases hm
  simp only [go_sem, simprocAttr]
  try simp [encB, encI_i64, encI_u8, encS, enc_api_File, enc_api_Machine, enc_api_Service, enc_api_Setting, List.map_set, List.map_replicate]
set_option maxRecDepth 100000 in
set_option maxHeartbeats 4000000 in
theorem ok_R_isPart (s_1 : Str) (z : Bool) (hm : R_isPart s_1 = some z) : Does Tryd.prog 96 [.p (.s s_1)] [] (fun r X => r = .p (.b z) ∧ X = []) := by
  unfold R_isPart at hm
  refine Does.of_wp 0 63 [.tmp 2] Tryd.func96 rfl (by decide) rfl rfl (Nat.le_of_ble_eq_true rfl) fun B => ?_
  refine Wp.seqR fun K1 hK1 => ?_
  simp only [go_sem, simprocAttr]
  first
    | refine hK1 _ _ ?_
    | refine ⟨by first | exact sd, hK1 _ _ ?_⟩
  refine Wp.seqW fun K2 hK2 hW2 => ?_
  obtain ⟨k_9, hk_9, hm⟩ := jp_elim hm
  have hcut2 : ∀ s, k_9 s = some z → K2 [(0, .p (.s s_1))] [] := by
    intro s hs
    have hm := hk_9 _ hs
    clear hs
    try dsimp only at hm
    try dsimp only
    refine hK2 _ _ ?_
    refine Wp.seqR fun K3 hK3 => ?_
    simp only [go_sem, simprocAttr]
    first
      | refine hK3 _ _ ?_
      | refine ⟨by first | exact sd, hK3 _ _ ?_⟩
    refine Wp.ret ?_
    refine retQ_ret ?_
    cases hm
    simp only [go_sem, simprocAttr]
    try simp [encB, encI_i64, encI_u8, encS, enc_api_File, enc_api_Machine, enc_api_Service, enc_api_Setting, List.map_set, List.map_replicate]
  clear hK2 hk_9
  refine Wp.seqR fun K4 hK4 => ?_
  simp only [go_sem, simprocAttr]
  first
    | refine hK4 _ _ ?_
    | refine ⟨by first | exact sd, hK4 _ _ ?_⟩
  refine Wp.block ?_
  obtain ⟨k_12, hk_12, hm⟩ := forL_cont hm
  refine Wp.fact 0 fun hl_15 => ?_
  replace hl_15 : s_1.length ≤ 274877906944 := by
    simp only [go_sem, simprocAttr, List.length_map] at hl_15
    omega
  refine Wp.forL (fun i_14 s => [(0, .p (.s s_1)), (6, .p (.i .i64 (s_1.length : Int))), (7, .p (.i .i64 (i_14 : Int)))]) (fun i_14 s => []) ?_ hm ?_
  ·
    simp only [go_sem, simprocAttr]
    try simp [encB, encI_i64, encI_u8, encS, enc_api_File, enc_api_Machine, enc_api_Service, enc_api_Setting, List.map_set, List.map_replicate]
  clear hm
  intro i_14 s hii_14 hm
  try dsimp only at hm
  try dsimp only
  refine Wp.seqR fun K5 hK5 => ?_
  simp only [go_sem, simprocAttr]
  first
    | refine hK5 _ _ ?_
    | refine ⟨by first | exact sd, hK5 _ _ ?_⟩
  refine Wp.seqW fun K6 hK6 hW6 => ?_
  refine Wp.cond rfl ⟨⟩ (fun hc6 => ?_) (fun hc6 => ?_)
  rotate_left
  · refine Wp.exit ?_
    have hm := hk_12 _ (forL_end hm (ge_nat (by first | exact hc6 | simpa using hc6)))
    try dsimp only at hm
    simp only [thenQ, blockQ, ↓reduceIte]
    refine hW2 _ _ _ _ ?_ (hcut2 () hm)
    simp only [go_sem, simprocAttr]
    try simp [encB, encI_i64, encI_u8, encS, enc_api_File, enc_api_Machine, enc_api_Service, enc_api_Setting, List.map_set, List.map_replicate]
  have hlt6 := lt_nat (by first | exact hc6 | simpa using hc6)
  have hw6 := wrap_succ hlt6 hl_15
  obtain ⟨c_16, nx_13, hxc_16, hyc_16, hnx_13, hm⟩ := forL_step hm hlt6
  clear hxc_16
  refine Wp.skip ?_
  simp only [thenQ]
  refine hK6 _ _ ?_
  refine Wp.seqW fun K7 hK7 hW7 => ?_
  refine Wp.block ?_
  refine Wp.seqR fun K8 hK8 => ?_
  simp only [go_sem, simprocAttr, hw6, hyc_16]
  first
    | refine hK8 _ _ ?_
    | refine ⟨by first | exact sd, hK8 _ _ ?_⟩
  refine Wp.seqR fun K9 hK9 => ?_
  simp only [go_sem, simprocAttr, hw6, hyc_16]
  first
    | refine hK9 _ _ ?_
    | refine ⟨by first | exact sd, hK9 _ _ ?_⟩
  refine Wp.seqR fun K10 hK10 => ?_
  simp only [go_sem, simprocAttr, hw6, hyc_16]
  first
    | refine hK10 _ _ ?_
    | refine ⟨by first | exact sd, hK10 _ _ ?_⟩
  refine Wp.cond rfl ⟨⟩ (fun hc11 => ?_) (fun hc11 => ?_)
  · have hm := brT hm (by first | exact hc11 | simpa using hc11)
    refine Wp.seqR fun K12 hK12 => ?_
    simp only [go_sem, simprocAttr, hw6, hyc_16]
    first
      | refine hK12 _ _ ?_
      | refine ⟨by first | exact sd, hK12 _ _ ?_⟩
    refine Wp.ret ?_
    simp only [thenQ, blockQ]
    refine retQ_ret ?_
    cases hm
    simp only [go_sem, simprocAttr, hw6, hyc_16]
    try simp [encB, encI_i64, encI_u8, encS, enc_api_File, enc_api_Machine, enc_api_Service, enc_api_Setting, List.map_set, List.map_replicate]
  · have hm := brF hm (by first | exact hc11 | simpa using hc11)
    refine Wp.skip ?_
    simp only [thenQ, blockQ, ↓reduceIte]
    refine hK7 _ _ ?_
    refine Wp.region fun K13 hK13 => ?_
    simp only [go_sem, simprocAttr, hw6, hyc_16]
    first
      | refine hK13 _ _ ?_
      | refine ⟨by first | exact sd, hK13 _ _ ?_⟩
    simp only [thenQ, blockQ, ↓reduceIte]
    refine ⟨(), hlt6, hnx_13 _ hm, ?_⟩
    simp only [go_sem, simprocAttr, hw6, hyc_16]
    try simp [encB, encI_i64, encI_u8, encS, enc_api_File, enc_api_Machine, enc_api_Service, enc_api_Setting, List.map_set, List.map_replicate]
set_option maxRecDepth 100000 in
set_option maxHeartbeats 4000000 in
theorem ok_R_IsPath (s_1 : Str) (z : Bool) (hm : R_IsPath s_1 = some z) : Does Tryd.prog 31 [.p (.s s_1)] [] (fun r X => r = .p (.b z) ∧ X = []) := by
  unfold R_IsPath at hm
  refine Does.of_wp 0 19 [.tmp 2] Tryd.func31 rfl (by decide) rfl rfl (Nat.le_of_ble_eq_true rfl) fun B => ?_
  refine Wp.seqR fun K1 hK1 => ?_
  simp only [go_sem, simprocAttr]
  first
    | refine hK1 _ _ ?_
    | refine ⟨by first | exact sd, hK1 _ _ ?_⟩
  refine Wp.seqW fun K2 hK2 hW2 => ?_
  obtain ⟨k_12, hk_12, hm⟩ := jp_elim hm
  have hcut2 : ∀ s, k_12 s = some z → K2 [(0, .p (.s s_1))] [] := by
    intro s hs
    have hm := hk_12 _ hs
    clear hs
    try dsimp only at hm
    try dsimp only
    refine hK2 _ _ ?_
    refine Wp.seqR fun K3 hK3 => ?_
    simp only [go_sem, simprocAttr]
    first
      | refine hK3 _ _ ?_
      | refine ⟨by first | exact sd, hK3 _ _ ?_⟩
    refine Wp.ret ?_
    refine retQ_ret ?_
    cases hm
    simp only [go_sem, simprocAttr]
    try simp [encB, encI_i64, encI_u8, encS, enc_api_File, enc_api_Machine, enc_api_Service, enc_api_Setting, List.map_set, List.map_replicate]
  clear hK2 hk_12
  obtain ⟨r_13, hr_13, hm⟩ := call_elim hm
  refine Wp.seqR fun K4 hK4 => ?_
  simp only [go_sem, simprocAttr]
  try refine ⟨by first | exact sd, ?_⟩
  refine Rg.callF (av := ?av5) (ok_strings_Split s_1 ([47] : Str) _ hr_13) ?ha5 ?hp5 ?hok5 ?cont5
  case ha5 =>
    simp only [go_sem, simprocAttr]
    exact Is.mk
  case hp5 =>
    simp only [go_sem, simprocAttr]
    exact Is.mk
  case hok5 =>
    simp only [go_sem, simprocAttr]
  intro hv5
  simp only [go_sem, simprocAttr]
  first
    | refine hK4 _ _ ?_
    | refine ⟨by first | exact sd, hK4 _ _ ?_⟩
  refine Wp.block ?_
  obtain ⟨k_17, hk_17, hm⟩ := forL_cont hm
  refine Wp.fact 6 fun hl_20 => ?_
  replace hl_20 : r_13.length ≤ 274877906944 := by
    simp only [go_sem, simprocAttr, List.length_map] at hl_20
    omega
  refine Wp.forL (fun i_19 s => [(0, .p (.s s_1)), (6, .p (.l (List.map encS r_13))), (7, .p (.i .i64 (r_13.length : Int))), (8, .p (.i .i64 (i_19 : Int)))]) (fun i_19 s => []) ?_ hm ?_
  ·
    simp only [go_sem, simprocAttr]
    try simp [encB, encI_i64, encI_u8, encS, enc_api_File, enc_api_Machine, enc_api_Service, enc_api_Setting, List.map_set, List.map_replicate]
  clear hm
  intro i_19 s hii_19 hm
  try dsimp only at hm
  try dsimp only
  refine Wp.seqR fun K6 hK6 => ?_
  simp only [go_sem, simprocAttr]
  first
    | refine hK6 _ _ ?_
    | refine ⟨by first | exact sd, hK6 _ _ ?_⟩
  refine Wp.seqW fun K7 hK7 hW7 => ?_
  refine Wp.cond rfl ⟨⟩ (fun hc7 => ?_) (fun hc7 => ?_)
  rotate_left
  · refine Wp.exit ?_
    have hm := hk_17 _ (forL_end hm (ge_nat (by first | exact hc7 | simpa using hc7)))
    try dsimp only at hm
    simp only [thenQ, blockQ, ↓reduceIte]
    refine hW2 _ _ _ _ ?_ (hcut2 () hm)
    simp only [go_sem, simprocAttr]
    try simp [encB, encI_i64, encI_u8, encS, enc_api_File, enc_api_Machine, enc_api_Service, enc_api_Setting, List.map_set, List.map_replicate]
  have hlt7 := lt_nat (by first | exact hc7 | simpa using hc7)
  have hw7 := wrap_succ hlt7 hl_20
  obtain ⟨s_21, nx_18, hxs_21, hys_21, hnx_18, hm⟩ := forL_step hm hlt7
  replace hxs_21 := hxs_21 encS
  refine Wp.skip ?_
  simp only [thenQ]
  refine hK7 _ _ ?_
  refine Wp.seqW fun K8 hK8 hW8 => ?_
  refine Wp.block ?_
  refine Wp.seqR fun K9 hK9 => ?_
  simp only [go_sem, simprocAttr, hw7, hxs_21]
  first
    | refine hK9 _ _ ?_
    | refine ⟨by first | exact sd, hK9 _ _ ?_⟩
  obtain ⟨r_22, hr_22, hm⟩ := call_elim hm
  refine Wp.seqR fun K10 hK10 => ?_
  simp only [go_sem, simprocAttr, hw7, hxs_21]
  try refine ⟨by first | exact sd, ?_⟩
  refine Rg.callX (av := ?av11) (g := true) (fun hg => ok_R_isPart s_21 _ hr_22) ?ha11 ?hb11 ?hp11 ?hok11 ?hf11 ?cont11
  case ha11 =>
    simp only [go_sem, simprocAttr, hw7, hxs_21]
    exact Is.mk
  case hb11 =>
    simp only [go_sem, simprocAttr, hw7, hxs_21]
    exact Is.mk
  case hp11 =>
    simp only [go_sem, simprocAttr, hw7, hxs_21]
    exact Is.mk
  case hok11 =>
    simp only [go_sem, simprocAttr, hw7, hxs_21]
  case hf11 =>
    simp only [go_sem, simprocAttr, hw7, hxs_21]
    exact Is.mk
  intro hv11
  simp only [go_sem, simprocAttr, hw7, hxs_21]
  first
    | refine hK10 _ _ ?_
    | refine ⟨by first | exact sd, hK10 _ _ ?_⟩
  refine Wp.cond rfl ⟨⟩ (fun hc12 => ?_) (fun hc12 => ?_)
  · have hm := brT hm (by first | exact hc12 | simpa using hc12)
    refine Wp.seqR fun K13 hK13 => ?_
    simp only [go_sem, simprocAttr, hw7, hxs_21]
    first
      | refine hK13 _ _ ?_
      | refine ⟨by first | exact sd, hK13 _ _ ?_⟩
    refine Wp.ret ?_
    simp only [thenQ, blockQ]
    refine retQ_ret ?_
    cases hm
    simp only [go_sem, simprocAttr, hw7, hxs_21]
    try simp [encB, encI_i64, encI_u8, encS, enc_api_File, enc_api_Machine, enc_api_Service, enc_api_Setting, List.map_set, List.map_replicate]
  · have hm := brF hm (by first | exact hc12 | simpa using hc12)
    refine Wp.skip ?_
    simp only [thenQ, blockQ, ↓reduceIte]
    refine hK8 _ _ ?_
    refine Wp.region fun K14 hK14 => ?_
    simp only [go_sem, simprocAttr, hw7, hxs_21]
    first
      | refine hK14 _ _ ?_
      | refine ⟨by first | exact sd, hK14 _ _ ?_⟩
    simp only [thenQ, blockQ, ↓reduceIte]
    refine ⟨(), hlt7, hnx_18 _ hm, ?_⟩
    simp only [go_sem, simprocAttr, hw7, hxs_21]
    try simp [encB, encI_i64, encI_u8, encS, enc_api_File, enc_api_Machine, enc_api_Service, enc_api_Setting, List.map_set, List.map_replicate]
set_option maxRecDepth 100000 in
set_option maxHeartbeats 4000000 in
theorem ok_R_fileError (f_1 : api_File) (z : Int) (hm : R_fileError f_1 = some z) : Does Tryd.prog 39 [.agg [.p (.s f_1.Path), .p (.s f_1.Data), .p (.b f_1.Runs)]] [] (fun r X => r = .p (.i .i64 z) ∧ X = []) := by
  unfold R_fileError at hm
  refine Does.of_wp 0 15 [.tmp 2] Tryd.func39 rfl (by decide) rfl rfl (Nat.le_of_ble_eq_true rfl) fun B => ?_
  refine Wp.seqR fun K1 hK1 => ?_
  simp only [go_sem, simprocAttr]
  first
    | refine hK1 _ _ ?_
    | refine ⟨by first | exact sd, hK1 _ _ ?_⟩
  obtain ⟨r_2, hr_2, hm⟩ := call_elim hm
  obtain ⟨r_3, hr_3, hm⟩ := call_elim hm
  obtain ⟨r_4, hr_4, hm⟩ := call_elim hm
  obtain ⟨r_5, hr_5, hm⟩ := call_elim hm
  refine Wp.seqD (plan := [(0, none), (1, none), (2, none), (3, none), (4, none), (5, none), (6, none), (7, none), (8, none), (9, none), (10, some []), (11, none), (12, none)]) (by kernel_rfl) rfl (by kernel_rfl) fun K2 hK2 => ?_
  simp only [go_sem, simprocAttr]
  try refine ⟨by first | exact sd, ?_⟩
  refine Dr.callF (av := ?av3) (g := true) (o := ?o3) (fun hg => ok_R_IsPath f_1.Path _ hr_2) ?hk3 ?ha3 ?hb3 ?hp3 ?hok3 ?hf3 ?cont3
  case hk3 =>
    simp only [go_sem, simprocAttr]
    exact Is.mk
  case ha3 =>
    simp only [go_sem, simprocAttr]
    exact Is.mk
  case hb3 =>
    simp only [go_sem, simprocAttr]
    exact Is.mk
  case hp3 =>
    simp only [go_sem, simprocAttr]
    exact Is.mk
  case hok3 =>
    simp only [go_sem, simprocAttr]
  case hf3 =>
    simp only [go_sem, simprocAttr]
    exact Is.mk
  simp only [go_sem, simprocAttr]
  try refine ⟨by first | exact sd, ?_⟩
  refine Dr.callF (av := ?av4) (g := true) (o := ?o4) (fun hg => ok_R_when (!r_2) 5 _ hr_3) ?hk4 ?ha4 ?hb4 ?hp4 ?hok4 ?hf4 ?cont4
  case hk4 =>
    simp only [go_sem, simprocAttr]
    exact Is.mk
  case ha4 =>
    simp only [go_sem, simprocAttr]
    exact Is.mk
  case hb4 =>
    simp only [go_sem, simprocAttr]
    exact Is.mk
  case hp4 =>
    simp only [go_sem, simprocAttr]
    exact Is.mk
  case hok4 =>
    simp only [go_sem, simprocAttr]
  case hf4 =>
    simp only [go_sem, simprocAttr]
    exact Is.mk
  simp only [go_sem, simprocAttr]
  try refine ⟨by first | exact sd, ?_⟩
  refine Dr.callF (av := ?av5) (g := true) (o := ?o5) (fun hg => ok_R_when (decide (65536 < (f_1.Data.length : Int))) 4 _ hr_4) ?hk5 ?ha5 ?hb5 ?hp5 ?hok5 ?hf5 ?cont5
  case hk5 =>
    simp only [go_sem, simprocAttr]
    exact Is.mk
  case ha5 =>
    simp only [go_sem, simprocAttr]
    exact Is.mk
  case hb5 =>
    simp only [go_sem, simprocAttr]
    exact Is.mk
  case hp5 =>
    simp only [go_sem, simprocAttr]
    exact Is.mk
  case hok5 =>
    simp only [go_sem, simprocAttr]
  case hf5 =>
    simp only [go_sem, simprocAttr]
    exact Is.mk
  simp only [go_sem, simprocAttr]
  try refine ⟨by first | exact sd, ?_⟩
  refine Dr.callF (av := ?av6) (g := true) (o := ?o6) (fun hg => ok_R_first [r_3, r_4] _ hr_5) ?hk6 ?ha6 ?hb6 ?hp6 ?hok6 ?hf6 ?cont6
  case hk6 =>
    simp only [go_sem, simprocAttr]
    exact Is.mk
  case ha6 =>
    simp only [go_sem, simprocAttr]
    exact Is.mk
  case hb6 =>
    simp only [go_sem, simprocAttr]
    exact Is.mk
  case hp6 =>
    simp only [go_sem, simprocAttr]
    exact Is.mk
  case hok6 =>
    simp only [go_sem, simprocAttr]
  case hf6 =>
    simp only [go_sem, simprocAttr]
    exact Is.mk
  simp only [go_sem, simprocAttr]
  first
    | refine hK2 _ _ ?_
    | refine ⟨by first | exact sd, hK2 _ _ ?_⟩
  refine Wp.ret ?_
  refine retQ_ret ?_
  cases hm
  simp only [go_sem, simprocAttr]
  try simp [encB, encI_i64, encI_u8, encS, enc_api_File, enc_api_Machine, enc_api_Service, enc_api_Setting, List.map_set, List.map_replicate]
set_option maxRecDepth 100000 in
set_option maxHeartbeats 4000000 in
theorem ok_R_settingError (s_1 : api_Setting) (z : Int) (hm : R_settingError s_1 = some z) : Does Tryd.prog 40 [.agg [.p (.s s_1.Key), .p (.s s_1.Value)]] [] (fun r X => r = .p (.i .i64 z) ∧ X = []) := by
  unfold R_settingError at hm
  refine Does.of_wp 0 15 [.tmp 2] Tryd.func40 rfl (by decide) rfl rfl (Nat.le_of_ble_eq_true rfl) fun B => ?_
  refine Wp.seqR fun K1 hK1 => ?_
  simp only [go_sem, simprocAttr]
  first
    | refine hK1 _ _ ?_
    | refine ⟨by first | exact sd, hK1 _ _ ?_⟩
  obtain ⟨r_2, hr_2, hm⟩ := call_elim hm
  obtain ⟨r_3, hr_3, hm⟩ := call_elim hm
  obtain ⟨r_4, hr_4, hm⟩ := call_elim hm
  obtain ⟨r_5, hr_5, hm⟩ := call_elim hm
  obtain ⟨r_6, hr_6, hm⟩ := call_elim hm
  refine Wp.seqD (plan := [(0, none), (1, none), (2, none), (3, none), (4, none), (5, none), (6, none), (7, none), (8, none), (9, none), (10, some []), (11, none), (12, none)]) (by kernel_rfl) rfl (by kernel_rfl) fun K2 hK2 => ?_
  simp only [go_sem, simprocAttr]
  try refine ⟨by first | exact sd, ?_⟩
  refine Dr.callF (av := ?av3) (g := true) (o := ?o3) (fun hg => ok_R_IsPath s_1.Key _ hr_2) ?hk3 ?ha3 ?hb3 ?hp3 ?hok3 ?hf3 ?cont3
  case hk3 =>
    simp only [go_sem, simprocAttr]
    exact Is.mk
  case ha3 =>
    simp only [go_sem, simprocAttr]
    exact Is.mk
  case hb3 =>
    simp only [go_sem, simprocAttr]
    exact Is.mk
  case hp3 =>
    simp only [go_sem, simprocAttr]
    exact Is.mk
  case hok3 =>
    simp only [go_sem, simprocAttr]
  case hf3 =>
    simp only [go_sem, simprocAttr]
    exact Is.mk
  simp only [go_sem, simprocAttr]
  try refine ⟨by first | exact sd, ?_⟩
  refine Dr.callF (av := ?av4) (g := true) (o := ?o4) (fun hg => ok_R_when (!r_2) 5 _ hr_3) ?hk4 ?ha4 ?hb4 ?hp4 ?hok4 ?hf4 ?cont4
  case hk4 =>
    simp only [go_sem, simprocAttr]
    exact Is.mk
  case ha4 =>
    simp only [go_sem, simprocAttr]
    exact Is.mk
  case hb4 =>
    simp only [go_sem, simprocAttr]
    exact Is.mk
  case hp4 =>
    simp only [go_sem, simprocAttr]
    exact Is.mk
  case hok4 =>
    simp only [go_sem, simprocAttr]
  case hf4 =>
    simp only [go_sem, simprocAttr]
    exact Is.mk
  simp only [go_sem, simprocAttr]
  try refine ⟨by first | exact sd, ?_⟩
  refine Dr.callF (av := ?av5) (g := true) (o := ?o5) (fun hg => ok_R_IsValue s_1.Value _ hr_4) ?hk5 ?ha5 ?hb5 ?hp5 ?hok5 ?hf5 ?cont5
  case hk5 =>
    simp only [go_sem, simprocAttr]
    exact Is.mk
  case ha5 =>
    simp only [go_sem, simprocAttr]
    exact Is.mk
  case hb5 =>
    simp only [go_sem, simprocAttr]
    exact Is.mk
  case hp5 =>
    simp only [go_sem, simprocAttr]
    exact Is.mk
  case hok5 =>
    simp only [go_sem, simprocAttr]
  case hf5 =>
    simp only [go_sem, simprocAttr]
    exact Is.mk
  simp only [go_sem, simprocAttr]
  try refine ⟨by first | exact sd, ?_⟩
  refine Dr.callF (av := ?av6) (g := true) (o := ?o6) (fun hg => ok_R_when (!r_4) 2 _ hr_5) ?hk6 ?ha6 ?hb6 ?hp6 ?hok6 ?hf6 ?cont6
  case hk6 =>
    simp only [go_sem, simprocAttr]
    exact Is.mk
  case ha6 =>
    simp only [go_sem, simprocAttr]
    exact Is.mk
  case hb6 =>
    simp only [go_sem, simprocAttr]
    exact Is.mk
  case hp6 =>
    simp only [go_sem, simprocAttr]
    exact Is.mk
  case hok6 =>
    simp only [go_sem, simprocAttr]
  case hf6 =>
    simp only [go_sem, simprocAttr]
    exact Is.mk
  simp only [go_sem, simprocAttr]
  try refine ⟨by first | exact sd, ?_⟩
  refine Dr.callF (av := ?av7) (g := true) (o := ?o7) (fun hg => ok_R_first [r_3, r_5] _ hr_6) ?hk7 ?ha7 ?hb7 ?hp7 ?hok7 ?hf7 ?cont7
  case hk7 =>
    simp only [go_sem, simprocAttr]
    exact Is.mk
  case ha7 =>
    simp only [go_sem, simprocAttr]
    exact Is.mk
  case hb7 =>
    simp only [go_sem, simprocAttr]
    exact Is.mk
  case hp7 =>
    simp only [go_sem, simprocAttr]
    exact Is.mk
  case hok7 =>
    simp only [go_sem, simprocAttr]
  case hf7 =>
    simp only [go_sem, simprocAttr]
    exact Is.mk
  simp only [go_sem, simprocAttr]
  first
    | refine hK2 _ _ ?_
    | refine ⟨by first | exact sd, hK2 _ _ ?_⟩
  refine Wp.ret ?_
  refine retQ_ret ?_
  cases hm
  simp only [go_sem, simprocAttr]
  try simp [encB, encI_i64, encI_u8, encS, enc_api_File, enc_api_Machine, enc_api_Service, enc_api_Setting, List.map_set, List.map_replicate]
set_option maxRecDepth 100000 in
set_option maxHeartbeats 4000000 in
theorem ok_R_serviceError (s_1 : api_Service) (z : Int) (hm : R_serviceError s_1 = some z) : Does Tryd.prog 41 [.agg [.p (.s s_1.Name), .p (.s s_1.Path), .p (.b s_1.Auto), .p (.b s_1.On)]] [] (fun r X => r = .p (.i .i64 z) ∧ X = []) := by
  unfold R_serviceError at hm
  refine Does.of_wp 0 14 [.tmp 2] Tryd.func41 rfl (by decide) rfl rfl (Nat.le_of_ble_eq_true rfl) fun B => ?_
  refine Wp.seqR fun K1 hK1 => ?_
  simp only [go_sem, simprocAttr]
  first
    | refine hK1 _ _ ?_
    | refine ⟨by first | exact sd, hK1 _ _ ?_⟩
  obtain ⟨r_2, hr_2, hm⟩ := call_elim hm
  obtain ⟨r_3, hr_3, hm⟩ := callG_elim hm
  obtain ⟨r_4, hr_4, hm⟩ := call_elim hm
  refine Wp.seqR fun K2 hK2 => ?_
  simp only [go_sem, simprocAttr]
  try refine ⟨by first | exact sd, ?_⟩
  refine Rg.callX (av := ?av3) (g := true) (fun hg => ok_R_IsName s_1.Name _ hr_2) ?ha3 ?hb3 ?hp3 ?hok3 ?hf3 ?cont3
  case ha3 =>
    simp only [go_sem, simprocAttr]
    exact Is.mk
  case hb3 =>
    simp only [go_sem, simprocAttr]
    exact Is.mk
  case hp3 =>
    simp only [go_sem, simprocAttr]
    exact Is.mk
  case hok3 =>
    simp only [go_sem, simprocAttr]
  case hf3 =>
    simp only [go_sem, simprocAttr]
    exact Is.mk
  intro hv3
  simp only [go_sem, simprocAttr]
  try refine ⟨by first | exact sd, ?_⟩
  refine Rg.callX (av := ?av4) (g := !(!r_2)) (fun hg => ok_R_IsPath s_1.Path _ (hr_3 hg)) ?ha4 ?hb4 ?hp4 ?hok4 ?hf4 ?cont4
  case ha4 =>
    simp only [go_sem, simprocAttr]
    exact Is.mk
  case hb4 =>
    simp only [go_sem, simprocAttr]
    exact Is.mk
  case hp4 =>
    simp only [go_sem, simprocAttr]
    exact Is.mk
  case hok4 =>
    simp only [go_sem, simprocAttr]
  case hf4 =>
    simp only [go_sem, simprocAttr]
    exact Is.mk
  intro hv4
  simp only [go_sem, simprocAttr]
  try refine ⟨by first | exact sd, ?_⟩
  refine Rg.callX (av := ?av5) (g := true) (fun hg => ok_R_when ((!r_2) || (!r_3)) 5 _ hr_4) ?ha5 ?hb5 ?hp5 ?hok5 ?hf5 ?cont5
  case ha5 =>
    simp only [go_sem, simprocAttr]
    exact Is.mk
  case hb5 =>
    simp only [go_sem, simprocAttr]
    exact Is.mk
  case hp5 =>
    simp only [go_sem, simprocAttr]
    exact Is.mk
  case hok5 =>
    simp only [go_sem, simprocAttr]
  case hf5 =>
    simp only [go_sem, simprocAttr]
    exact Is.mk
  intro hv5
  simp only [go_sem, simprocAttr]
  first
    | refine hK2 _ _ ?_
    | refine ⟨by first | exact sd, hK2 _ _ ?_⟩
  refine Wp.ret ?_
  refine retQ_ret ?_
  cases hm
  simp only [go_sem, simprocAttr]
  try simp [encB, encI_i64, encI_u8, encS, enc_api_File, enc_api_Machine, enc_api_Service, enc_api_Setting, List.map_set, List.map_replicate]
set_option maxRecDepth 100000 in
set_option maxHeartbeats 4000000 in
theorem ok_ver_IsValue_1 (c_1 : Int) (z : Bool) (hm : ver_IsValue_1 c_1 = some z) : Does Tryd.prog 120 [.p (.i .u8 c_1)] [] (fun r X => r = .p (.b z) ∧ X = []) := by
  unfold ver_IsValue_1 at hm
  refine Does.of_wp 0 9 [.tmp 2] Tryd.func120 rfl (by decide) rfl rfl (Nat.le_of_ble_eq_true rfl) fun B => ?_
  refine Wp.seqR fun K1 hK1 => ?_
  simp only [go_sem, simprocAttr]
  first
    | refine hK1 _ _ ?_
    | refine ⟨by first | exact sd, hK1 _ _ ?_⟩
  refine Wp.seqR fun K2 hK2 => ?_
  simp only [go_sem, simprocAttr]
  first
    | refine hK2 _ _ ?_
    | refine ⟨by first | exact sd, hK2 _ _ ?_⟩
  refine Wp.ret ?_
  refine retQ_ret ?_
  cases hm
  simp only [go_sem, simprocAttr]
  try simp [encB, encI_i64, encI_u8, encS, enc_api_File, enc_api_Machine, enc_api_Service, enc_api_Setting, List.map_set, List.map_replicate]
set_option maxRecDepth 100000 in
set_option maxHeartbeats 4000000 in
theorem ok_ver_each_i2 (s_1 : Str) (most_2 : Int) (z : Bool) (hm : ver_each_i2 s_1 most_2 = some z) : Does Tryd.prog 97 [.p (.s s_1), .p (.i .i64 most_2), .fn 120 []] [] (fun r X => r = .p (.b z) ∧ X = []) := by
  unfold ver_each_i2 at hm
  refine Does.of_wp 0 28 [.tmp 6] Tryd.func97 rfl (by decide) rfl rfl (Nat.le_of_ble_eq_true rfl) fun B => ?_
  refine Wp.seqR fun K1 hK1 => ?_
  simp only [go_sem, simprocAttr]
  first
    | refine hK1 _ _ ?_
    | refine ⟨by first | exact sd, hK1 _ _ ?_⟩
  refine Wp.seqW fun K2 hK2 hW2 => ?_
  obtain ⟨k_12, hk_12, hm⟩ := jp_elim hm
  have hcut2 : ∀ s, k_12 s = some z → K2 [(0, .p (.s s_1)), (1, .p (.i .i64 most_2))] [] := by
    intro s hs
    have hm := hk_12 _ hs
    clear hs
    try dsimp only at hm
    try dsimp only
    refine hK2 _ _ ?_
    refine Wp.seqR fun K3 hK3 => ?_
    simp only [go_sem, simprocAttr]
    first
      | refine hK3 _ _ ?_
      | refine ⟨by first | exact sd, hK3 _ _ ?_⟩
    refine Wp.ret ?_
    refine retQ_ret ?_
    cases hm
    simp only [go_sem, simprocAttr]
    try simp [encB, encI_i64, encI_u8, encS, enc_api_File, enc_api_Machine, enc_api_Service, enc_api_Setting, List.map_set, List.map_replicate]
  clear hK2 hk_12
  refine Wp.seqR fun K4 hK4 => ?_
  simp only [go_sem, simprocAttr]
  first
    | refine hK4 _ _ ?_
    | refine ⟨by first | exact sd, hK4 _ _ ?_⟩
  refine Wp.block ?_
  obtain ⟨k_16, hk_16, hm⟩ := forL_cont hm
  refine Wp.fact 0 fun hl_19 => ?_
  replace hl_19 : s_1.length ≤ 274877906944 := by
    simp only [go_sem, simprocAttr, List.length_map] at hl_19
    omega
  refine Wp.forL (fun i_18 s => [(0, .p (.s s_1)), (1, .p (.i .i64 most_2)), (2, .fn 120 []), (7, .p (.i .i64 (i_18 : Int)))]) (fun i_18 s => []) ?_ hm ?_
  ·
    simp only [go_sem, simprocAttr]
    try simp [encB, encI_i64, encI_u8, encS, enc_api_File, enc_api_Machine, enc_api_Service, enc_api_Setting, List.map_set, List.map_replicate]
  clear hm
  intro i_18 s hii_18 hm
  try dsimp only at hm
  try dsimp only
  refine Wp.seqW fun K5 hK5 hW5 => ?_
  refine Wp.seqR fun K6 hK6 => ?_
  simp only [go_sem, simprocAttr]
  first
    | refine hK6 _ _ ?_
    | refine ⟨by first | exact sd, hK6 _ _ ?_⟩
  refine Wp.cond rfl ⟨⟩ (fun hc5 => ?_) (fun hc5 => ?_)
  rotate_left
  · refine Wp.exit ?_
    have hm := hk_16 _ (forL_end hm (ge_nat (by first | exact hc5 | simpa using hc5)))
    try dsimp only at hm
    simp only [thenQ, blockQ, ↓reduceIte]
    refine hW2 _ _ _ _ ?_ (hcut2 () hm)
    simp only [go_sem, simprocAttr]
    try simp [encB, encI_i64, encI_u8, encS, enc_api_File, enc_api_Machine, enc_api_Service, enc_api_Setting, List.map_set, List.map_replicate]
  have hlt5 := lt_nat (by first | exact hc5 | simpa using hc5)
  have hw5 := wrap_succ hlt5 hl_19
  obtain ⟨c_20, nx_17, hxc_20, hyc_20, hnx_17, hm⟩ := forL_step hm hlt5
  clear hxc_20
  refine Wp.skip ?_
  simp only [thenQ]
  refine hK5 _ _ ?_
  refine Wp.seqW fun K7 hK7 hW7 => ?_
  refine Wp.block ?_
  obtain ⟨r_21, hr_21, hm⟩ := call_elim hm
  refine Wp.seqR fun K8 hK8 => ?_
  simp only [go_sem, simprocAttr, hw5, hyc_20]
  try refine ⟨by first | exact sd, ?_⟩
  refine Rg.callX (av := ?av9) (g := true) (fun hg => ok_ver_IsValue_1 (c_20.toNat : Int) _ hr_21) ?ha9 ?hb9 ?hp9 ?hok9 ?hf9 ?cont9
  case ha9 =>
    simp only [go_sem, simprocAttr, hw5, hyc_20]
    exact Is.mk
  case hb9 =>
    simp only [go_sem, simprocAttr, hw5, hyc_20]
    exact Is.mk
  case hp9 =>
    simp only [go_sem, simprocAttr, hw5, hyc_20]
    exact Is.mk
  case hok9 =>
    simp only [go_sem, simprocAttr, hw5, hyc_20]
  case hf9 =>
    simp only [go_sem, simprocAttr, hw5, hyc_20]
    exact Is.mk
  intro hv9
  simp only [go_sem, simprocAttr, hw5, hyc_20]
  first
    | refine hK8 _ _ ?_
    | refine ⟨by first | exact sd, hK8 _ _ ?_⟩
  refine Wp.cond rfl ⟨⟩ (fun hc10 => ?_) (fun hc10 => ?_)
  · have hm := brT hm (by first | exact hc10 | simpa using hc10)
    refine Wp.seqR fun K11 hK11 => ?_
    simp only [go_sem, simprocAttr, hw5, hyc_20]
    first
      | refine hK11 _ _ ?_
      | refine ⟨by first | exact sd, hK11 _ _ ?_⟩
    refine Wp.ret ?_
    simp only [thenQ, blockQ]
    refine retQ_ret ?_
    cases hm
    simp only [go_sem, simprocAttr, hw5, hyc_20]
    try simp [encB, encI_i64, encI_u8, encS, enc_api_File, enc_api_Machine, enc_api_Service, enc_api_Setting, List.map_set, List.map_replicate]
  · have hm := brF hm (by first | exact hc10 | simpa using hc10)
    refine Wp.skip ?_
    simp only [thenQ, blockQ, ↓reduceIte]
    refine hK7 _ _ ?_
    refine Wp.region fun K12 hK12 => ?_
    simp only [go_sem, simprocAttr, hw5, hyc_20]
    first
      | refine hK12 _ _ ?_
      | refine ⟨by first | exact sd, hK12 _ _ ?_⟩
    simp only [thenQ, blockQ, ↓reduceIte]
    refine ⟨(), hlt5, hnx_17 _ hm, ?_⟩
    simp only [go_sem, simprocAttr, hw5, hyc_20]
    try simp [encB, encI_i64, encI_u8, encS, enc_api_File, enc_api_Machine, enc_api_Service, enc_api_Setting, List.map_set, List.map_replicate]
set_option maxRecDepth 100000 in
set_option maxHeartbeats 4000000 in
theorem ok_ver_IsValue (s_1 : Str) (z : Bool) (hm : ver_IsValue s_1 = some z) : Does Tryd.prog 101 [.p (.s s_1)] [] (fun r X => r = .p (.b z) ∧ X = []) := by
  unfold ver_IsValue at hm
  refine Does.of_wp 0 9 [.tmp 2] Tryd.func101 rfl (by decide) rfl rfl (Nat.le_of_ble_eq_true rfl) fun B => ?_
  refine Wp.seqR fun K1 hK1 => ?_
  simp only [go_sem, simprocAttr]
  first
    | refine hK1 _ _ ?_
    | refine ⟨by first | exact sd, hK1 _ _ ?_⟩
  obtain ⟨r_2, hr_2, hm⟩ := callG_elim hm
  refine Wp.seqR fun K2 hK2 => ?_
  simp only [go_sem, simprocAttr]
  try refine ⟨by first | exact sd, ?_⟩
  refine Rg.callX (av := ?av3) (g := !(decide (s_1 = []))) (fun hg => ok_ver_each_i2 s_1 1000 _ (hr_2 hg)) ?ha3 ?hb3 ?hp3 ?hok3 ?hf3 ?cont3
  case ha3 =>
    simp only [go_sem, simprocAttr]
    exact Is.mk
  case hb3 =>
    simp only [go_sem, simprocAttr]
    exact Is.mk
  case hp3 =>
    simp only [go_sem, simprocAttr]
    exact Is.mk
  case hok3 =>
    simp only [go_sem, simprocAttr]
  case hf3 =>
    simp only [go_sem, simprocAttr]
    exact Is.mk
  intro hv3
  simp only [go_sem, simprocAttr]
  first
    | refine hK2 _ _ ?_
    | refine ⟨by first | exact sd, hK2 _ _ ?_⟩
  refine Wp.ret ?_
  refine retQ_ret ?_
  cases hm
  simp only [go_sem, simprocAttr]
  try simp [encB, encI_i64, encI_u8, encS, enc_api_File, enc_api_Machine, enc_api_Service, enc_api_Setting, List.map_set, List.map_replicate]
set_option maxRecDepth 100000 in
set_option maxHeartbeats 4000000 in
theorem ok_ver_isPart_1 (c_1 : Int) (z : Bool) (hm : ver_isPart_1 c_1 = some z) : Does Tryd.prog 121 [.p (.i .u8 c_1)] [] (fun r X => r = .p (.b z) ∧ X = []) := by
  unfold ver_isPart_1 at hm
  refine Does.of_wp 0 29 [.tmp 2] Tryd.func121 rfl (by decide) rfl rfl (Nat.le_of_ble_eq_true rfl) fun B => ?_
  refine Wp.seqR fun K1 hK1 => ?_
  simp only [go_sem, simprocAttr]
  first
    | refine hK1 _ _ ?_
    | refine ⟨by first | exact sd, hK1 _ _ ?_⟩
  obtain ⟨r_2, hr_2, hm⟩ := call_elim hm
  obtain ⟨r_3, hr_3, hm⟩ := callG_elim hm
  refine Wp.seqR fun K2 hK2 => ?_
  simp only [go_sem, simprocAttr]
  try refine ⟨by first | exact sd, ?_⟩
  refine Rg.callX (av := ?av3) (g := true) (fun hg => ok_ver_isSmall c_1 _ hr_2) ?ha3 ?hb3 ?hp3 ?hok3 ?hf3 ?cont3
  case ha3 =>
    simp only [go_sem, simprocAttr]
    exact Is.mk
  case hb3 =>
    simp only [go_sem, simprocAttr]
    exact Is.mk
  case hp3 =>
    simp only [go_sem, simprocAttr]
    exact Is.mk
  case hok3 =>
    simp only [go_sem, simprocAttr]
  case hf3 =>
    simp only [go_sem, simprocAttr]
    exact Is.mk
  intro hv3
  simp only [go_sem, simprocAttr]
  try refine ⟨by first | exact sd, ?_⟩
  refine Rg.callX (av := ?av4) (g := !(r_2 || ((decide (65 ≤ c_1)) && (decide (c_1 ≤ 90))))) (fun hg => ok_ver_isDigit c_1 _ (hr_3 hg)) ?ha4 ?hb4 ?hp4 ?hok4 ?hf4 ?cont4
  case ha4 =>
    simp only [go_sem, simprocAttr]
    exact Is.mk
  case hb4 =>
    simp only [go_sem, simprocAttr]
    exact Is.mk
  case hp4 =>
    simp only [go_sem, simprocAttr]
    exact Is.mk
  case hok4 =>
    simp only [go_sem, simprocAttr]
  case hf4 =>
    simp only [go_sem, simprocAttr]
    exact Is.mk
  intro hv4
  simp only [go_sem, simprocAttr]
  first
    | refine hK2 _ _ ?_
    | refine ⟨by first | exact sd, hK2 _ _ ?_⟩
  refine Wp.ret ?_
  refine retQ_ret ?_
  cases hm
  simp only [go_sem, simprocAttr]
  try simp [encB, encI_i64, encI_u8, encS, enc_api_File, enc_api_Machine, enc_api_Service, enc_api_Setting, List.map_set, List.map_replicate]
set_option maxRecDepth 100000 in
set_option maxHeartbeats 4000000 in
theorem ok_ver_each_i3 (s_1 : Str) (most_2 : Int) (z : Bool) (hm : ver_each_i3 s_1 most_2 = some z) : Does Tryd.prog 97 [.p (.s s_1), .p (.i .i64 most_2), .fn 121 []] [] (fun r X => r = .p (.b z) ∧ X = []) := by
  unfold ver_each_i3 at hm
  refine Does.of_wp 0 28 [.tmp 6] Tryd.func97 rfl (by decide) rfl rfl (Nat.le_of_ble_eq_true rfl) fun B => ?_
  refine Wp.seqR fun K1 hK1 => ?_
  simp only [go_sem, simprocAttr]
  first
    | refine hK1 _ _ ?_
    | refine ⟨by first | exact sd, hK1 _ _ ?_⟩
  refine Wp.seqW fun K2 hK2 hW2 => ?_
  obtain ⟨k_12, hk_12, hm⟩ := jp_elim hm
  have hcut2 : ∀ s, k_12 s = some z → K2 [(0, .p (.s s_1)), (1, .p (.i .i64 most_2))] [] := by
    intro s hs
    have hm := hk_12 _ hs
    clear hs
    try dsimp only at hm
    try dsimp only
    refine hK2 _ _ ?_
    refine Wp.seqR fun K3 hK3 => ?_
    simp only [go_sem, simprocAttr]
    first
      | refine hK3 _ _ ?_
      | refine ⟨by first | exact sd, hK3 _ _ ?_⟩
    refine Wp.ret ?_
    refine retQ_ret ?_
    cases hm
    simp only [go_sem, simprocAttr]
    try simp [encB, encI_i64, encI_u8, encS, enc_api_File, enc_api_Machine, enc_api_Service, enc_api_Setting, List.map_set, List.map_replicate]
  clear hK2 hk_12
  refine Wp.seqR fun K4 hK4 => ?_
  simp only [go_sem, simprocAttr]
  first
    | refine hK4 _ _ ?_
    | refine ⟨by first | exact sd, hK4 _ _ ?_⟩
  refine Wp.block ?_
  obtain ⟨k_16, hk_16, hm⟩ := forL_cont hm
  refine Wp.fact 0 fun hl_19 => ?_
  replace hl_19 : s_1.length ≤ 274877906944 := by
    simp only [go_sem, simprocAttr, List.length_map] at hl_19
    omega
  refine Wp.forL (fun i_18 s => [(0, .p (.s s_1)), (1, .p (.i .i64 most_2)), (2, .fn 121 []), (7, .p (.i .i64 (i_18 : Int)))]) (fun i_18 s => []) ?_ hm ?_
  ·
    simp only [go_sem, simprocAttr]
    try simp [encB, encI_i64, encI_u8, encS, enc_api_File, enc_api_Machine, enc_api_Service, enc_api_Setting, List.map_set, List.map_replicate]
  clear hm
  intro i_18 s hii_18 hm
  try dsimp only at hm
  try dsimp only
  refine Wp.seqW fun K5 hK5 hW5 => ?_
  refine Wp.seqR fun K6 hK6 => ?_
  simp only [go_sem, simprocAttr]
  first
    | refine hK6 _ _ ?_
    | refine ⟨by first | exact sd, hK6 _ _ ?_⟩
  refine Wp.cond rfl ⟨⟩ (fun hc5 => ?_) (fun hc5 => ?_)
  rotate_left
  · refine Wp.exit ?_
    have hm := hk_16 _ (forL_end hm (ge_nat (by first | exact hc5 | simpa using hc5)))
    try dsimp only at hm
    simp only [thenQ, blockQ, ↓reduceIte]
    refine hW2 _ _ _ _ ?_ (hcut2 () hm)
    simp only [go_sem, simprocAttr]
    try simp [encB, encI_i64, encI_u8, encS, enc_api_File, enc_api_Machine, enc_api_Service, enc_api_Setting, List.map_set, List.map_replicate]
  have hlt5 := lt_nat (by first | exact hc5 | simpa using hc5)
  have hw5 := wrap_succ hlt5 hl_19
  obtain ⟨c_20, nx_17, hxc_20, hyc_20, hnx_17, hm⟩ := forL_step hm hlt5
  clear hxc_20
  refine Wp.skip ?_
  simp only [thenQ]
  refine hK5 _ _ ?_
  refine Wp.seqW fun K7 hK7 hW7 => ?_
  refine Wp.block ?_
  obtain ⟨r_21, hr_21, hm⟩ := call_elim hm
  refine Wp.seqR fun K8 hK8 => ?_
  simp only [go_sem, simprocAttr, hw5, hyc_20]
  try refine ⟨by first | exact sd, ?_⟩
  refine Rg.callX (av := ?av9) (g := true) (fun hg => ok_ver_isPart_1 (c_20.toNat : Int) _ hr_21) ?ha9 ?hb9 ?hp9 ?hok9 ?hf9 ?cont9
  case ha9 =>
    simp only [go_sem, simprocAttr, hw5, hyc_20]
    exact Is.mk
  case hb9 =>
    simp only [go_sem, simprocAttr, hw5, hyc_20]
    exact Is.mk
  case hp9 =>
    simp only [go_sem, simprocAttr, hw5, hyc_20]
    exact Is.mk
  case hok9 =>
    simp only [go_sem, simprocAttr, hw5, hyc_20]
  case hf9 =>
    simp only [go_sem, simprocAttr, hw5, hyc_20]
    exact Is.mk
  intro hv9
  simp only [go_sem, simprocAttr, hw5, hyc_20]
  first
    | refine hK8 _ _ ?_
    | refine ⟨by first | exact sd, hK8 _ _ ?_⟩
  refine Wp.cond rfl ⟨⟩ (fun hc10 => ?_) (fun hc10 => ?_)
  · have hm := brT hm (by first | exact hc10 | simpa using hc10)
    refine Wp.seqR fun K11 hK11 => ?_
    simp only [go_sem, simprocAttr, hw5, hyc_20]
    first
      | refine hK11 _ _ ?_
      | refine ⟨by first | exact sd, hK11 _ _ ?_⟩
    refine Wp.ret ?_
    simp only [thenQ, blockQ]
    refine retQ_ret ?_
    cases hm
    simp only [go_sem, simprocAttr, hw5, hyc_20]
    try simp [encB, encI_i64, encI_u8, encS, enc_api_File, enc_api_Machine, enc_api_Service, enc_api_Setting, List.map_set, List.map_replicate]
  · have hm := brF hm (by first | exact hc10 | simpa using hc10)
    refine Wp.skip ?_
    simp only [thenQ, blockQ, ↓reduceIte]
    refine hK7 _ _ ?_
    refine Wp.region fun K12 hK12 => ?_
    simp only [go_sem, simprocAttr, hw5, hyc_20]
    first
      | refine hK12 _ _ ?_
      | refine ⟨by first | exact sd, hK12 _ _ ?_⟩
    simp only [thenQ, blockQ, ↓reduceIte]
    refine ⟨(), hlt5, hnx_17 _ hm, ?_⟩
    simp only [go_sem, simprocAttr, hw5, hyc_20]
    try simp [encB, encI_i64, encI_u8, encS, enc_api_File, enc_api_Machine, enc_api_Service, enc_api_Setting, List.map_set, List.map_replicate]
set_option maxRecDepth 100000 in
set_option maxHeartbeats 4000000 in
theorem ok_ver_isPart (s_1 : Str) (z : Bool) (hm : ver_isPart s_1 = some z) : Does Tryd.prog 102 [.p (.s s_1)] [] (fun r X => r = .p (.b z) ∧ X = []) := by
  unfold ver_isPart at hm
  refine Does.of_wp 0 15 [.tmp 2] Tryd.func102 rfl (by decide) rfl rfl (Nat.le_of_ble_eq_true rfl) fun B => ?_
  refine Wp.seqR fun K1 hK1 => ?_
  simp only [go_sem, simprocAttr]
  first
    | refine hK1 _ _ ?_
    | refine ⟨by first | exact sd, hK1 _ _ ?_⟩
  refine Wp.seqR fun K2 hK2 => ?_
  simp only [go_sem, simprocAttr]
  first
    | refine hK2 _ _ ?_
    | refine ⟨by first | exact sd, hK2 _ _ ?_⟩
  obtain ⟨r_2, hr_2, hm⟩ := call_elim hm
  refine Wp.seqR fun K3 hK3 => ?_
  simp only [go_sem, simprocAttr]
  try refine ⟨by first | exact sd, ?_⟩
  refine Rg.callX (av := ?av4) (g := true) (fun hg => ok_ver_each_i3 s_1 40 _ hr_2) ?ha4 ?hb4 ?hp4 ?hok4 ?hf4 ?cont4
  case ha4 =>
    simp only [go_sem, simprocAttr]
    exact Is.mk
  case hb4 =>
    simp only [go_sem, simprocAttr]
    exact Is.mk
  case hp4 =>
    simp only [go_sem, simprocAttr]
    exact Is.mk
  case hok4 =>
    simp only [go_sem, simprocAttr]
  case hf4 =>
    simp only [go_sem, simprocAttr]
    exact Is.mk
  intro hv4
  simp only [go_sem, simprocAttr]
  first
    | refine hK3 _ _ ?_
    | refine ⟨by first | exact sd, hK3 _ _ ?_⟩
  refine Wp.ret ?_
  refine retQ_ret ?_
  cases hm
  simp only [go_sem, simprocAttr]
  try simp [encB, encI_i64, encI_u8, encS, enc_api_File, enc_api_Machine, enc_api_Service, enc_api_Setting, List.map_set, List.map_replicate]
set_option maxRecDepth 100000 in
set_option maxHeartbeats 4000000 in
theorem ok_ver_IsPath (s_1 : Str) (z : Bool) (hm : ver_IsPath s_1 = some z) : Does Tryd.prog 50 [.p (.s s_1)] [] (fun r X => r = .p (.b z) ∧ X = []) := by
  unfold ver_IsPath at hm
  refine Does.of_wp 0 19 [.tmp 2] Tryd.func50 rfl (by decide) rfl rfl (Nat.le_of_ble_eq_true rfl) fun B => ?_
  refine Wp.seqR fun K1 hK1 => ?_
  simp only [go_sem, simprocAttr]
  first
    | refine hK1 _ _ ?_
    | refine ⟨by first | exact sd, hK1 _ _ ?_⟩
  refine Wp.seqW fun K2 hK2 hW2 => ?_
  obtain ⟨k_12, hk_12, hm⟩ := jp_elim hm
  have hcut2 : ∀ s, k_12 s = some z → K2 [(0, .p (.s s_1))] [] := by
    intro s hs
    have hm := hk_12 _ hs
    clear hs
    try dsimp only at hm
    try dsimp only
    refine hK2 _ _ ?_
    refine Wp.seqR fun K3 hK3 => ?_
    simp only [go_sem, simprocAttr]
    first
      | refine hK3 _ _ ?_
      | refine ⟨by first | exact sd, hK3 _ _ ?_⟩
    refine Wp.ret ?_
    refine retQ_ret ?_
    cases hm
    simp only [go_sem, simprocAttr]
    try simp [encB, encI_i64, encI_u8, encS, enc_api_File, enc_api_Machine, enc_api_Service, enc_api_Setting, List.map_set, List.map_replicate]
  clear hK2 hk_12
  obtain ⟨r_13, hr_13, hm⟩ := call_elim hm
  refine Wp.seqR fun K4 hK4 => ?_
  simp only [go_sem, simprocAttr]
  try refine ⟨by first | exact sd, ?_⟩
  refine Rg.callF (av := ?av5) (ok_strings_Split s_1 ([47] : Str) _ hr_13) ?ha5 ?hp5 ?hok5 ?cont5
  case ha5 =>
    simp only [go_sem, simprocAttr]
    exact Is.mk
  case hp5 =>
    simp only [go_sem, simprocAttr]
    exact Is.mk
  case hok5 =>
    simp only [go_sem, simprocAttr]
  intro hv5
  simp only [go_sem, simprocAttr]
  first
    | refine hK4 _ _ ?_
    | refine ⟨by first | exact sd, hK4 _ _ ?_⟩
  refine Wp.block ?_
  obtain ⟨k_17, hk_17, hm⟩ := forL_cont hm
  refine Wp.fact 6 fun hl_20 => ?_
  replace hl_20 : r_13.length ≤ 274877906944 := by
    simp only [go_sem, simprocAttr, List.length_map] at hl_20
    omega
  refine Wp.forL (fun i_19 s => [(0, .p (.s s_1)), (6, .p (.l (List.map encS r_13))), (7, .p (.i .i64 (r_13.length : Int))), (8, .p (.i .i64 (i_19 : Int)))]) (fun i_19 s => []) ?_ hm ?_
  ·
    simp only [go_sem, simprocAttr]
    try simp [encB, encI_i64, encI_u8, encS, enc_api_File, enc_api_Machine, enc_api_Service, enc_api_Setting, List.map_set, List.map_replicate]
  clear hm
  intro i_19 s hii_19 hm
  try dsimp only at hm
  try dsimp only
  refine Wp.seqR fun K6 hK6 => ?_
  simp only [go_sem, simprocAttr]
  first
    | refine hK6 _ _ ?_
    | refine ⟨by first | exact sd, hK6 _ _ ?_⟩
  refine Wp.seqW fun K7 hK7 hW7 => ?_
  refine Wp.cond rfl ⟨⟩ (fun hc7 => ?_) (fun hc7 => ?_)
  rotate_left
  · refine Wp.exit ?_
    have hm := hk_17 _ (forL_end hm (ge_nat (by first | exact hc7 | simpa using hc7)))
    try dsimp only at hm
    simp only [thenQ, blockQ, ↓reduceIte]
    refine hW2 _ _ _ _ ?_ (hcut2 () hm)
    simp only [go_sem, simprocAttr]
    try simp [encB, encI_i64, encI_u8, encS, enc_api_File, enc_api_Machine, enc_api_Service, enc_api_Setting, List.map_set, List.map_replicate]
  have hlt7 := lt_nat (by first | exact hc7 | simpa using hc7)
  have hw7 := wrap_succ hlt7 hl_20
  obtain ⟨s_21, nx_18, hxs_21, hys_21, hnx_18, hm⟩ := forL_step hm hlt7
  replace hxs_21 := hxs_21 encS
  refine Wp.skip ?_
  simp only [thenQ]
  refine hK7 _ _ ?_
  refine Wp.seqW fun K8 hK8 hW8 => ?_
  refine Wp.block ?_
  refine Wp.seqR fun K9 hK9 => ?_
  simp only [go_sem, simprocAttr, hw7, hxs_21]
  first
    | refine hK9 _ _ ?_
    | refine ⟨by first | exact sd, hK9 _ _ ?_⟩
  obtain ⟨r_22, hr_22, hm⟩ := call_elim hm
  refine Wp.seqR fun K10 hK10 => ?_
  simp only [go_sem, simprocAttr, hw7, hxs_21]
  try refine ⟨by first | exact sd, ?_⟩
  refine Rg.callX (av := ?av11) (g := true) (fun hg => ok_ver_isPart s_21 _ hr_22) ?ha11 ?hb11 ?hp11 ?hok11 ?hf11 ?cont11
  case ha11 =>
    simp only [go_sem, simprocAttr, hw7, hxs_21]
    exact Is.mk
  case hb11 =>
    simp only [go_sem, simprocAttr, hw7, hxs_21]
    exact Is.mk
  case hp11 =>
    simp only [go_sem, simprocAttr, hw7, hxs_21]
    exact Is.mk
  case hok11 =>
    simp only [go_sem, simprocAttr, hw7, hxs_21]
  case hf11 =>
    simp only [go_sem, simprocAttr, hw7, hxs_21]
    exact Is.mk
  intro hv11
  simp only [go_sem, simprocAttr, hw7, hxs_21]
  first
    | refine hK10 _ _ ?_
    | refine ⟨by first | exact sd, hK10 _ _ ?_⟩
  refine Wp.cond rfl ⟨⟩ (fun hc12 => ?_) (fun hc12 => ?_)
  · have hm := brT hm (by first | exact hc12 | simpa using hc12)
    refine Wp.seqR fun K13 hK13 => ?_
    simp only [go_sem, simprocAttr, hw7, hxs_21]
    first
      | refine hK13 _ _ ?_
      | refine ⟨by first | exact sd, hK13 _ _ ?_⟩
    refine Wp.ret ?_
    simp only [thenQ, blockQ]
    refine retQ_ret ?_
    cases hm
    simp only [go_sem, simprocAttr, hw7, hxs_21]
    try simp [encB, encI_i64, encI_u8, encS, enc_api_File, enc_api_Machine, enc_api_Service, enc_api_Setting, List.map_set, List.map_replicate]
  · have hm := brF hm (by first | exact hc12 | simpa using hc12)
    refine Wp.skip ?_
    simp only [thenQ, blockQ, ↓reduceIte]
    refine hK8 _ _ ?_
    refine Wp.region fun K14 hK14 => ?_
    simp only [go_sem, simprocAttr, hw7, hxs_21]
    first
      | refine hK14 _ _ ?_
      | refine ⟨by first | exact sd, hK14 _ _ ?_⟩
    simp only [thenQ, blockQ, ↓reduceIte]
    refine ⟨(), hlt7, hnx_18 _ hm, ?_⟩
    simp only [go_sem, simprocAttr, hw7, hxs_21]
    try simp [encB, encI_i64, encI_u8, encS, enc_api_File, enc_api_Machine, enc_api_Service, enc_api_Setting, List.map_set, List.map_replicate]
set_option maxRecDepth 100000 in
set_option maxHeartbeats 4000000 in
theorem ok_disk_fileFault (f_1 : api_File) (z : Int) (hm : disk_fileFault f_1 = some z) : Does Tryd.prog 46 [.agg [.p (.s f_1.Path), .p (.s f_1.Data), .p (.b f_1.Runs)]] [] (fun r X => r = .p (.i .i64 z) ∧ X = []) := by
  unfold disk_fileFault at hm
  refine Does.of_wp 0 11 [.tmp 2] Tryd.func46 rfl (by decide) rfl rfl (Nat.le_of_ble_eq_true rfl) fun B => ?_
  refine Wp.seqR fun K1 hK1 => ?_
  simp only [go_sem, simprocAttr]
  first
    | refine hK1 _ _ ?_
    | refine ⟨by first | exact sd, hK1 _ _ ?_⟩
  refine Wp.seqW fun K2 hK2 hW2 => ?_
  obtain ⟨r_2, hr_2, hm⟩ := call_elim hm
  refine Wp.seqR fun K3 hK3 => ?_
  simp only [go_sem, simprocAttr]
  try refine ⟨by first | exact sd, ?_⟩
  refine Rg.callX (av := ?av4) (g := true) (fun hg => ok_ver_IsPath f_1.Path _ hr_2) ?ha4 ?hb4 ?hp4 ?hok4 ?hf4 ?cont4
  case ha4 =>
    simp only [go_sem, simprocAttr]
    exact Is.mk
  case hb4 =>
    simp only [go_sem, simprocAttr]
    exact Is.mk
  case hp4 =>
    simp only [go_sem, simprocAttr]
    exact Is.mk
  case hok4 =>
    simp only [go_sem, simprocAttr]
  case hf4 =>
    simp only [go_sem, simprocAttr]
    exact Is.mk
  intro hv4
  simp only [go_sem, simprocAttr]
  first
    | refine hK3 _ _ ?_
    | refine ⟨by first | exact sd, hK3 _ _ ?_⟩
  refine Wp.cond rfl ⟨⟩ (fun hc5 => ?_) (fun hc5 => ?_)
  · have hm := brT hm (by first | exact hc5 | simpa using hc5)
    refine Wp.seqR fun K6 hK6 => ?_
    simp only [go_sem, simprocAttr]
    first
      | refine hK6 _ _ ?_
      | refine ⟨by first | exact sd, hK6 _ _ ?_⟩
    refine Wp.ret ?_
    simp only [thenQ, blockQ]
    refine retQ_ret ?_
    cases hm
    simp only [go_sem, simprocAttr]
    try simp [encB, encI_i64, encI_u8, encS, enc_api_File, enc_api_Machine, enc_api_Service, enc_api_Setting, List.map_set, List.map_replicate]
  · have hm := brF hm (by first | exact hc5 | simpa using hc5)
    refine Wp.skip ?_
    simp only [thenQ, blockQ, ↓reduceIte]
    refine hK2 _ _ ?_
    refine Wp.seqW fun K7 hK7 hW7 => ?_
    refine Wp.seqR fun K8 hK8 => ?_
    simp only [go_sem, simprocAttr]
    first
      | refine hK8 _ _ ?_
      | refine ⟨by first | exact sd, hK8 _ _ ?_⟩
    refine Wp.cond rfl ⟨⟩ (fun hc9 => ?_) (fun hc9 => ?_)
    · have hm := brT hm (by first | exact hc9 | simpa using hc9)
      refine Wp.seqR fun K10 hK10 => ?_
      simp only [go_sem, simprocAttr]
      first
        | refine hK10 _ _ ?_
        | refine ⟨by first | exact sd, hK10 _ _ ?_⟩
      refine Wp.ret ?_
      simp only [thenQ, blockQ]
      refine retQ_ret ?_
      cases hm
      simp only [go_sem, simprocAttr]
      try simp [encB, encI_i64, encI_u8, encS, enc_api_File, enc_api_Machine, enc_api_Service, enc_api_Setting, List.map_set, List.map_replicate]
    · have hm := brF hm (by first | exact hc9 | simpa using hc9)
      refine Wp.skip ?_
      simp only [thenQ, blockQ, ↓reduceIte]
      refine hK7 _ _ ?_
      refine Wp.seqR fun K11 hK11 => ?_
      simp only [go_sem, simprocAttr]
      first
        | refine hK11 _ _ ?_
        | refine ⟨by first | exact sd, hK11 _ _ ?_⟩
      refine Wp.ret ?_
      refine retQ_ret ?_
      cases hm
      simp only [go_sem, simprocAttr]
      try simp [encB, encI_i64, encI_u8, encS, enc_api_File, enc_api_Machine, enc_api_Service, enc_api_Setting, List.map_set, List.map_replicate]
set_option maxRecDepth 100000 in
set_option maxHeartbeats 4000000 in
theorem ok_disk_settingFault_i2 (s_1 : api_Setting) (z : Int) (hm : disk_settingFault_i2 s_1 = some z) : Does Tryd.prog 44 [.agg [.p (.s s_1.Key), .p (.s s_1.Value)], .fn 50 []] [] (fun r X => r = .p (.i .i64 z) ∧ X = []) := by
  unfold disk_settingFault_i2 at hm
  refine Does.of_wp 0 14 [.tmp 4] Tryd.func44 rfl (by decide) rfl rfl (Nat.le_of_ble_eq_true rfl) fun B => ?_
  refine Wp.seqR fun K1 hK1 => ?_
  simp only [go_sem, simprocAttr]
  first
    | refine hK1 _ _ ?_
    | refine ⟨by first | exact sd, hK1 _ _ ?_⟩
  refine Wp.seqW fun K2 hK2 hW2 => ?_
  obtain ⟨r_2, hr_2, hm⟩ := call_elim hm
  refine Wp.seqR fun K3 hK3 => ?_
  simp only [go_sem, simprocAttr]
  try refine ⟨by first | exact sd, ?_⟩
  refine Rg.callX (av := ?av4) (g := true) (fun hg => ok_ver_IsPath s_1.Key _ hr_2) ?ha4 ?hb4 ?hp4 ?hok4 ?hf4 ?cont4
  case ha4 =>
    simp only [go_sem, simprocAttr]
    exact Is.mk
  case hb4 =>
    simp only [go_sem, simprocAttr]
    exact Is.mk
  case hp4 =>
    simp only [go_sem, simprocAttr]
    exact Is.mk
  case hok4 =>
    simp only [go_sem, simprocAttr]
  case hf4 =>
    simp only [go_sem, simprocAttr]
    exact Is.mk
  intro hv4
  simp only [go_sem, simprocAttr]
  first
    | refine hK3 _ _ ?_
    | refine ⟨by first | exact sd, hK3 _ _ ?_⟩
  refine Wp.cond rfl ⟨⟩ (fun hc5 => ?_) (fun hc5 => ?_)
  · have hm := brT hm (by first | exact hc5 | simpa using hc5)
    refine Wp.seqR fun K6 hK6 => ?_
    simp only [go_sem, simprocAttr]
    first
      | refine hK6 _ _ ?_
      | refine ⟨by first | exact sd, hK6 _ _ ?_⟩
    refine Wp.ret ?_
    simp only [thenQ, blockQ]
    refine retQ_ret ?_
    cases hm
    simp only [go_sem, simprocAttr]
    try simp [encB, encI_i64, encI_u8, encS, enc_api_File, enc_api_Machine, enc_api_Service, enc_api_Setting, List.map_set, List.map_replicate]
  · have hm := brF hm (by first | exact hc5 | simpa using hc5)
    refine Wp.skip ?_
    simp only [thenQ, blockQ, ↓reduceIte]
    refine hK2 _ _ ?_
    refine Wp.seqW fun K7 hK7 hW7 => ?_
    obtain ⟨r_3, hr_3, hm⟩ := call_elim hm
    refine Wp.seqR fun K8 hK8 => ?_
    simp only [go_sem, simprocAttr]
    try refine ⟨by first | exact sd, ?_⟩
    refine Rg.callX (av := ?av9) (g := true) (fun hg => ok_ver_IsValue s_1.Value _ hr_3) ?ha9 ?hb9 ?hp9 ?hok9 ?hf9 ?cont9
    case ha9 =>
      simp only [go_sem, simprocAttr]
      exact Is.mk
    case hb9 =>
      simp only [go_sem, simprocAttr]
      exact Is.mk
    case hp9 =>
      simp only [go_sem, simprocAttr]
      exact Is.mk
    case hok9 =>
      simp only [go_sem, simprocAttr]
    case hf9 =>
      simp only [go_sem, simprocAttr]
      exact Is.mk
    intro hv9
    simp only [go_sem, simprocAttr]
    first
      | refine hK8 _ _ ?_
      | refine ⟨by first | exact sd, hK8 _ _ ?_⟩
    refine Wp.cond rfl ⟨⟩ (fun hc10 => ?_) (fun hc10 => ?_)
    · have hm := brT hm (by first | exact hc10 | simpa using hc10)
      refine Wp.seqR fun K11 hK11 => ?_
      simp only [go_sem, simprocAttr]
      first
        | refine hK11 _ _ ?_
        | refine ⟨by first | exact sd, hK11 _ _ ?_⟩
      refine Wp.ret ?_
      simp only [thenQ, blockQ]
      refine retQ_ret ?_
      cases hm
      simp only [go_sem, simprocAttr]
      try simp [encB, encI_i64, encI_u8, encS, enc_api_File, enc_api_Machine, enc_api_Service, enc_api_Setting, List.map_set, List.map_replicate]
    · have hm := brF hm (by first | exact hc10 | simpa using hc10)
      refine Wp.skip ?_
      simp only [thenQ, blockQ, ↓reduceIte]
      refine hK7 _ _ ?_
      refine Wp.seqR fun K12 hK12 => ?_
      simp only [go_sem, simprocAttr]
      first
        | refine hK12 _ _ ?_
        | refine ⟨by first | exact sd, hK12 _ _ ?_⟩
      refine Wp.ret ?_
      refine retQ_ret ?_
      cases hm
      simp only [go_sem, simprocAttr]
      try simp [encB, encI_i64, encI_u8, encS, enc_api_File, enc_api_Machine, enc_api_Service, enc_api_Setting, List.map_set, List.map_replicate]
set_option maxRecDepth 100000 in
set_option maxHeartbeats 4000000 in
theorem ok_disk_serviceFault (s_1 : api_Service) (z : Int) (hm : disk_serviceFault s_1 = some z) : Does Tryd.prog 52 [.agg [.p (.s s_1.Name), .p (.s s_1.Path), .p (.b s_1.Auto), .p (.b s_1.On)]] [] (fun r X => r = .p (.i .i64 z) ∧ X = []) := by
  unfold disk_serviceFault at hm
  refine Does.of_wp 0 13 [.tmp 2] Tryd.func52 rfl (by decide) rfl rfl (Nat.le_of_ble_eq_true rfl) fun B => ?_
  refine Wp.seqR fun K1 hK1 => ?_
  simp only [go_sem, simprocAttr]
  first
    | refine hK1 _ _ ?_
    | refine ⟨by first | exact sd, hK1 _ _ ?_⟩
  refine Wp.seqW fun K2 hK2 hW2 => ?_
  obtain ⟨r_2, hr_2, hm⟩ := call_elim hm
  obtain ⟨r_3, hr_3, hm⟩ := callG_elim hm
  refine Wp.seqR fun K3 hK3 => ?_
  simp only [go_sem, simprocAttr]
  try refine ⟨by first | exact sd, ?_⟩
  refine Rg.callX (av := ?av4) (g := true) (fun hg => ok_ver_IsName s_1.Name _ hr_2) ?ha4 ?hb4 ?hp4 ?hok4 ?hf4 ?cont4
  case ha4 =>
    simp only [go_sem, simprocAttr]
    exact Is.mk
  case hb4 =>
    simp only [go_sem, simprocAttr]
    exact Is.mk
  case hp4 =>
    simp only [go_sem, simprocAttr]
    exact Is.mk
  case hok4 =>
    simp only [go_sem, simprocAttr]
  case hf4 =>
    simp only [go_sem, simprocAttr]
    exact Is.mk
  intro hv4
  simp only [go_sem, simprocAttr]
  try refine ⟨by first | exact sd, ?_⟩
  refine Rg.callX (av := ?av5) (g := !(!r_2)) (fun hg => ok_ver_IsPath s_1.Path _ (hr_3 hg)) ?ha5 ?hb5 ?hp5 ?hok5 ?hf5 ?cont5
  case ha5 =>
    simp only [go_sem, simprocAttr]
    exact Is.mk
  case hb5 =>
    simp only [go_sem, simprocAttr]
    exact Is.mk
  case hp5 =>
    simp only [go_sem, simprocAttr]
    exact Is.mk
  case hok5 =>
    simp only [go_sem, simprocAttr]
  case hf5 =>
    simp only [go_sem, simprocAttr]
    exact Is.mk
  intro hv5
  simp only [go_sem, simprocAttr]
  first
    | refine hK3 _ _ ?_
    | refine ⟨by first | exact sd, hK3 _ _ ?_⟩
  refine Wp.cond rfl ⟨⟩ (fun hc6 => ?_) (fun hc6 => ?_)
  · have hm := brT hm (by first | exact hc6 | simpa using hc6)
    refine Wp.seqR fun K7 hK7 => ?_
    simp only [go_sem, simprocAttr]
    first
      | refine hK7 _ _ ?_
      | refine ⟨by first | exact sd, hK7 _ _ ?_⟩
    refine Wp.ret ?_
    simp only [thenQ, blockQ]
    refine retQ_ret ?_
    cases hm
    simp only [go_sem, simprocAttr]
    try simp [encB, encI_i64, encI_u8, encS, enc_api_File, enc_api_Machine, enc_api_Service, enc_api_Setting, List.map_set, List.map_replicate]
  · have hm := brF hm (by first | exact hc6 | simpa using hc6)
    refine Wp.skip ?_
    simp only [thenQ, blockQ, ↓reduceIte]
    refine hK2 _ _ ?_
    refine Wp.seqR fun K8 hK8 => ?_
    simp only [go_sem, simprocAttr]
    first
      | refine hK8 _ _ ?_
      | refine ⟨by first | exact sd, hK8 _ _ ?_⟩
    refine Wp.ret ?_
    refine retQ_ret ?_
    cases hm
    simp only [go_sem, simprocAttr]
    try simp [encB, encI_i64, encI_u8, encS, enc_api_File, enc_api_Machine, enc_api_Service, enc_api_Setting, List.map_set, List.map_replicate]
set_option maxRecDepth 100000 in
set_option maxHeartbeats 4000000 in
theorem ok_disk_Quote (s_1 : Str) (z : Str) (hm : disk_Quote s_1 = some z) : Does Tryd.prog 110 [.p (.s s_1)] [] (fun r X => r = .p (.s z) ∧ X = []) := by
  unfold disk_Quote at hm
  refine Does.of_wp 0 63 [.tmp 2] Tryd.func110 rfl (by decide) rfl rfl (Nat.le_of_ble_eq_true rfl) fun B => ?_
  refine Wp.seqR fun K1 hK1 => ?_
  simp only [go_sem, simprocAttr]
  first
    | refine hK1 _ _ ?_
    | refine ⟨by first | exact sd, hK1 _ _ ?_⟩
  obtain ⟨c_2, hm⟩ := chk_elim hm
  refine Wp.seqR fun K2 hK2 => ?_
  simp only [go_sem, simprocAttr]
  first
    | refine hK2 _ _ ?_
    | refine ⟨by first | exact sd | ((repeat' apply And.intro) <;> first | assumption | omega | (simp only [List.length_append, List.length_map, List.length_cons, List.length_nil, List.length_set, List.length_replicate] at c_2 ⊢; omega)), hK2 _ _ ?_⟩
  obtain ⟨c_3, hm⟩ := chk_elim hm
  refine Wp.seqR fun K3 hK3 => ?_
  simp only [go_sem, simprocAttr]
  first
    | refine hK3 _ _ ?_
    | refine ⟨by first | exact sd | ((repeat' apply And.intro) <;> first | assumption | omega | (simp only [List.length_append, List.length_map, List.length_cons, List.length_nil, List.length_set, List.length_replicate] at c_3 ⊢; omega)), hK3 _ _ ?_⟩
  refine Wp.seqW fun K4 hK4 hW4 => ?_
  obtain ⟨k_33, hk_33, hm⟩ := jp_elim hm
  have hcut4 : ∀ s, k_33 s = some z → K4 [(3, .buf 0)] [.buf 5 1 (List.map encI_u8 s)] := by
    intro o0_32 hs
    have hm := hk_33 _ hs
    clear hs
    try dsimp only at hm
    try dsimp only
    refine hK4 _ _ ?_
    obtain ⟨c_34, hm⟩ := chk_elim hm
    refine Wp.seqR fun K5 hK5 => ?_
    simp only [go_sem, simprocAttr]
    first
      | refine hK5 _ _ ?_
      | refine ⟨by first | exact sd | ((repeat' apply And.intro) <;> first | assumption | omega | (simp only [List.length_append, List.length_map, List.length_cons, List.length_nil, List.length_set, List.length_replicate] at c_34 ⊢; omega)), hK5 _ _ ?_⟩
    refine Wp.ret ?_
    refine retQ_ret ?_
    cases hm
    simp only [go_sem, simprocAttr]
    try simp [encB, encI_i64, encI_u8, encS, enc_api_File, enc_api_Machine, enc_api_Service, enc_api_Setting, List.map_set, List.map_replicate]
  clear hK4 hk_33
  refine Wp.seqR fun K6 hK6 => ?_
  simp only [go_sem, simprocAttr]
  first
    | refine hK6 _ _ ?_
    | refine ⟨by first | exact sd, hK6 _ _ ?_⟩
  refine Wp.block ?_
  obtain ⟨k_52, hk_52, hm⟩ := forL_cont hm
  refine Wp.fact 0 fun hl_55 => ?_
  replace hl_55 : s_1.length ≤ 274877906944 := by
    simp only [go_sem, simprocAttr, List.length_map] at hl_55
    omega
  refine Wp.forL (fun i_54 s => [(0, .p (.s s_1)), (3, .buf 0), (4, .p (.i .i64 (i_54 : Int)))]) (fun i_54 s => [.buf 5 1 (List.map encI_u8 s)]) ?_ hm ?_
  ·
    simp only [go_sem, simprocAttr]
    try simp [encB, encI_i64, encI_u8, encS, enc_api_File, enc_api_Machine, enc_api_Service, enc_api_Setting, List.map_set, List.map_replicate]
  clear hm
  intro i_54 o0_44 hii_54 hm
  try dsimp only at hm
  try dsimp only
  refine Wp.seqW fun K7 hK7 hW7 => ?_
  refine Wp.seqR fun K8 hK8 => ?_
  simp only [go_sem, simprocAttr]
  first
    | refine hK8 _ _ ?_
    | refine ⟨by first | exact sd, hK8 _ _ ?_⟩
  refine Wp.cond rfl ⟨⟩ (fun hc7 => ?_) (fun hc7 => ?_)
  rotate_left
  · refine Wp.exit ?_
    have hm := hk_52 _ (forL_end hm (ge_nat (by first | exact hc7 | simpa using hc7)))
    try dsimp only at hm
    simp only [thenQ, blockQ, ↓reduceIte]
    refine hW4 _ _ _ _ ?_ (hcut4 o0_44 hm)
    simp only [go_sem, simprocAttr]
    try simp [encB, encI_i64, encI_u8, encS, enc_api_File, enc_api_Machine, enc_api_Service, enc_api_Setting, List.map_set, List.map_replicate]
  have hlt7 := lt_nat (by first | exact hc7 | simpa using hc7)
  have hw7 := wrap_succ hlt7 hl_55
  obtain ⟨c_56, nx_53, hxc_56, hyc_56, hnx_53, hm⟩ := forL_step hm hlt7
  clear hxc_56
  refine Wp.skip ?_
  simp only [thenQ]
  refine hK7 _ _ ?_
  refine Wp.seqW fun K9 hK9 hW9 => ?_
  refine Wp.block ?_
  refine Wp.seqR fun K10 hK10 => ?_
  simp only [go_sem, simprocAttr, hw7, hyc_56]
  first
    | refine hK10 _ _ ?_
    | refine ⟨by first | exact sd, hK10 _ _ ?_⟩
  refine Wp.block ?_
  refine Wp.seqR fun K11 hK11 => ?_
  simp only [go_sem, simprocAttr, hw7, hyc_56]
  first
    | refine hK11 _ _ ?_
    | refine ⟨by first | exact sd, hK11 _ _ ?_⟩
  refine Wp.cond rfl ⟨⟩ (fun hc12 => ?_) (fun hc12 => ?_)
  · have hm := brT hm (by first | exact hc12 | simpa using hc12)
    obtain ⟨c_57, hm⟩ := chk_elim hm
    refine Wp.region fun K13 hK13 => ?_
    simp only [go_sem, simprocAttr, hw7, hyc_56]
    first
      | refine hK13 _ _ ?_
      | refine ⟨by first | exact sd | ((repeat' apply And.intro) <;> first | assumption | omega | (simp only [List.length_append, List.length_map, List.length_cons, List.length_nil, List.length_set, List.length_replicate] at c_57 ⊢; omega)), hK13 _ _ ?_⟩
    simp only [thenQ, blockQ, ↓reduceIte]
    refine hK9 _ _ ?_
    refine Wp.region fun K14 hK14 => ?_
    simp only [go_sem, simprocAttr, hw7, hyc_56]
    first
      | refine hK14 _ _ ?_
      | refine ⟨by first | exact sd, hK14 _ _ ?_⟩
    simp only [thenQ, blockQ, ↓reduceIte]
    refine ⟨o0_44 ++ [92, (c_56.toNat : Int)], hlt7, hnx_53 _ hm, ?_⟩
    simp only [go_sem, simprocAttr, hw7, hyc_56]
    try simp [encB, encI_i64, encI_u8, encS, enc_api_File, enc_api_Machine, enc_api_Service, enc_api_Setting, List.map_set, List.map_replicate]
  · have hm := brF hm (by first | exact hc12 | simpa using hc12)
    refine Wp.seqR fun K15 hK15 => ?_
    simp only [go_sem, simprocAttr, hw7, hyc_56]
    first
      | refine hK15 _ _ ?_
      | refine ⟨by first | exact sd, hK15 _ _ ?_⟩
    refine Wp.cond rfl ⟨⟩ (fun hc16 => ?_) (fun hc16 => ?_)
    · have hm := brT hm (by first | exact hc16 | simpa using hc16)
      obtain ⟨c_58, hm⟩ := chk_elim hm
      refine Wp.region fun K17 hK17 => ?_
      simp only [go_sem, simprocAttr, hw7, hyc_56]
      first
        | refine hK17 _ _ ?_
        | refine ⟨by first | exact sd | ((repeat' apply And.intro) <;> first | assumption | omega | (simp only [List.length_append, List.length_map, List.length_cons, List.length_nil, List.length_set, List.length_replicate] at c_58 ⊢; omega)), hK17 _ _ ?_⟩
      simp only [thenQ, blockQ, ↓reduceIte]
      refine hK9 _ _ ?_
      refine Wp.region fun K18 hK18 => ?_
      simp only [go_sem, simprocAttr, hw7, hyc_56]
      first
        | refine hK18 _ _ ?_
        | refine ⟨by first | exact sd, hK18 _ _ ?_⟩
      simp only [thenQ, blockQ, ↓reduceIte]
      refine ⟨o0_44 ++ [92, 110], hlt7, hnx_53 _ hm, ?_⟩
      simp only [go_sem, simprocAttr, hw7, hyc_56]
      try simp [encB, encI_i64, encI_u8, encS, enc_api_File, enc_api_Machine, enc_api_Service, enc_api_Setting, List.map_set, List.map_replicate]
    · have hm := brF hm (by first | exact hc16 | simpa using hc16)
      refine Wp.seqR fun K19 hK19 => ?_
      simp only [go_sem, simprocAttr, hw7, hyc_56]
      first
        | refine hK19 _ _ ?_
        | refine ⟨by first | exact sd, hK19 _ _ ?_⟩
      refine Wp.cond rfl ⟨⟩ (fun hc20 => ?_) (fun hc20 => ?_)
      · have hm := brT hm (by first | exact hc20 | simpa using hc20)
        obtain ⟨c_59, hbc_59, hxc_59, hm⟩ := idxS_elim hm
        replace hxc_59 : ((([48, 49, 50, 51, 52, 53, 54, 55, 56, 57, 97, 98, 99, 100, 101, 102] : Str).getD ((Int.fdiv (c_56.toNat : Int) (2 ^ (shI .u8 4))).toNat) 0).toNat : Int) = c_59 := hxc_59
        obtain ⟨c_60, hbc_60, hxc_60, hm⟩ := idxS_elim hm
        replace hxc_60 : ((([48, 49, 50, 51, 52, 53, 54, 55, 56, 57, 97, 98, 99, 100, 101, 102] : Str).getD ((bitsI .and .u8 (c_56.toNat : Int) 15).toNat) 0).toNat : Int) = c_60 := hxc_60
        obtain ⟨c_61, hm⟩ := chk_elim hm
        refine Wp.regD (plan := [(0, none), (1, none), (2, none), (3, none), (4, none), (5, none), (6, none), (7, some [0]), (8, some []), (9, none)]) (by kernel_rfl) rfl (by kernel_rfl) fun K21 hK21 => ?_
        simp only [go_sem, simprocAttr, hw7, hyc_56, hxc_59, hxc_60]
        first
          | refine hK21 _ _ ?_
          | refine ⟨by first | exact sd | ((repeat' apply And.intro) <;> first | assumption | omega | (simp only [List.length_append, List.length_map, List.length_cons, List.length_nil, List.length_set, List.length_replicate] at c_61 ⊢; omega)), hK21 _ _ ?_⟩
        simp only [thenQ, blockQ, ↓reduceIte]
        refine hK9 _ _ ?_
        refine Wp.region fun K22 hK22 => ?_
        simp only [go_sem, simprocAttr, hw7, hyc_56, hxc_59, hxc_60]
        first
          | refine hK22 _ _ ?_
          | refine ⟨by first | exact sd, hK22 _ _ ?_⟩
        simp only [thenQ, blockQ, ↓reduceIte]
        refine ⟨o0_44 ++ [92, 120, c_59, c_60], hlt7, hnx_53 _ hm, ?_⟩
        simp only [go_sem, simprocAttr, hw7, hyc_56, hxc_59, hxc_60]
        try simp [encB, encI_i64, encI_u8, encS, enc_api_File, enc_api_Machine, enc_api_Service, enc_api_Setting, List.map_set, List.map_replicate]
      · have hm := brF hm (by first | exact hc20 | simpa using hc20)
        obtain ⟨c_62, hm⟩ := chk_elim hm
        refine Wp.region fun K23 hK23 => ?_
        simp only [go_sem, simprocAttr, hw7, hyc_56]
        first
          | refine hK23 _ _ ?_
          | refine ⟨by first | exact sd | ((repeat' apply And.intro) <;> first | assumption | omega | (simp only [List.length_append, List.length_map, List.length_cons, List.length_nil, List.length_set, List.length_replicate] at c_62 ⊢; omega)), hK23 _ _ ?_⟩
        simp only [thenQ, blockQ, ↓reduceIte]
        refine hK9 _ _ ?_
        refine Wp.region fun K24 hK24 => ?_
        simp only [go_sem, simprocAttr, hw7, hyc_56]
        first
          | refine hK24 _ _ ?_
          | refine ⟨by first | exact sd, hK24 _ _ ?_⟩
        simp only [thenQ, blockQ, ↓reduceIte]
        refine ⟨o0_44 ++ [(c_56.toNat : Int)], hlt7, hnx_53 _ hm, ?_⟩
        simp only [go_sem, simprocAttr, hw7, hyc_56]
        try simp [encB, encI_i64, encI_u8, encS, enc_api_File, enc_api_Machine, enc_api_Service, enc_api_Setting, List.map_set, List.map_replicate]
set_option maxRecDepth 100000 in
set_option maxHeartbeats 4000000 in
theorem ok_disk_settingLine (word_1 : Str) (s_2 : api_Setting) (z : Str) (hm : disk_settingLine word_1 s_2 = some z) : Does Tryd.prog 73 [.p (.s word_1), .agg [.p (.s s_2.Key), .p (.s s_2.Value)]] [] (fun r X => r = .p (.s z) ∧ X = []) := by
  unfold disk_settingLine at hm
  refine Does.of_wp 0 16 [.tmp 4] Tryd.func73 rfl (by decide) rfl rfl (Nat.le_of_ble_eq_true rfl) fun B => ?_
  refine Wp.seqR fun K1 hK1 => ?_
  simp only [go_sem, simprocAttr]
  first
    | refine hK1 _ _ ?_
    | refine ⟨by first | exact sd, hK1 _ _ ?_⟩
  obtain ⟨c_3, hm⟩ := chk_elim hm
  obtain ⟨c_4, hm⟩ := chk_elim hm
  obtain ⟨c_5, hm⟩ := chk_elim hm
  obtain ⟨r_6, hr_6, hm⟩ := call_elim hm
  obtain ⟨c_7, hm⟩ := chk_elim hm
  obtain ⟨c_8, hm⟩ := chk_elim hm
  refine Wp.seqD (plan := [(0, none), (1, none), (2, none), (3, none), (4, none), (5, none), (6, none), (7, none), (8, none), (9, none), (10, none), (11, none)]) (by kernel_rfl) rfl (by kernel_rfl) fun K2 hK2 => ?_
  simp only [go_sem, simprocAttr]
  try refine ⟨by first | exact sd | ((repeat' apply And.intro) <;> first | assumption | omega | (simp only [List.length_append, List.length_map, List.length_cons, List.length_nil, List.length_set, List.length_replicate] at c_3 c_4 c_5 c_7 c_8 ⊢; omega)), ?_⟩
  refine Dr.callF (av := ?av3) (g := true) (o := ?o3) (fun hg => ok_disk_Quote s_2.Value _ hr_6) ?hk3 ?ha3 ?hb3 ?hp3 ?hok3 ?hf3 ?cont3
  case hk3 =>
    simp only [go_sem, simprocAttr]
    exact Is.mk
  case ha3 =>
    simp only [go_sem, simprocAttr]
    exact Is.mk
  case hb3 =>
    simp only [go_sem, simprocAttr]
    exact Is.mk
  case hp3 =>
    simp only [go_sem, simprocAttr]
    exact Is.mk
  case hok3 =>
    simp only [go_sem, simprocAttr]
  case hf3 =>
    simp only [go_sem, simprocAttr]
    exact Is.mk
  simp only [go_sem, simprocAttr]
  first
    | refine hK2 _ _ ?_
    | refine ⟨by first | exact sd | ((repeat' apply And.intro) <;> first | assumption | omega | (simp only [List.length_append, List.length_map, List.length_cons, List.length_nil, List.length_set, List.length_replicate] at c_3 c_4 c_5 c_7 c_8 ⊢; omega)), hK2 _ _ ?_⟩
  refine Wp.ret ?_
  refine retQ_ret ?_
  cases hm
  simp only [go_sem, simprocAttr]
  try simp [encB, encI_i64, encI_u8, encS, enc_api_File, enc_api_Machine, enc_api_Service, enc_api_Setting, List.map_set, List.map_replicate]
set_option maxRecDepth 100000 in
set_option maxHeartbeats 4000000 in
theorem ok_strings_Builder_copyCheck_i1 (o1_1 : Str) (z : Unit) (hm : strings_Builder_copyCheck_i1 o1_1 = some z) : Does Tryd.prog 109 [.ptr 0 0] [.cells 110 [.nil, .buf 1], .sb 5 o1_1] (fun r X => r = .tup [] ∧ X = [.cells 110 [.ptr 0 0, .buf 1], .sb 5 o1_1]) := by
  unfold strings_Builder_copyCheck_i1 at hm
  refine Does.of_wp 2 20 [] Tryd.func109 rfl (by decide) rfl rfl (Nat.le_of_ble_eq_true rfl) fun B => ?_
  refine Wp.seqR fun K1 hK1 => ?_
  simp only [go_sem, simprocAttr]
  first
    | refine hK1 _ _ ?_
    | refine ⟨by first | exact sd, hK1 _ _ ?_⟩
  refine Wp.cond rfl ⟨⟩ (fun hc2 => ?_) (fun hc2 => ?_)
  rotate_left
  · cases hc2
  refine Wp.region fun K3 hK3 => ?_
  simp only [go_sem, simprocAttr]
  try refine ⟨by first | exact sd, ?_⟩
  refine Rg.callI (v := ?av4) (g := true) nvi_131 ?ha4 ?hb4 ?hok4 ?cont4
  case ha4 =>
    simp only [go_sem, simprocAttr]
    exact Is.mk
  case hb4 =>
    simp only [go_sem, simprocAttr]
    exact Is.mk
  case hok4 =>
    simp only [go_sem, simprocAttr]
  simp only [go_sem, simprocAttr]
  first
    | refine hK3 _ _ ?_
    | refine ⟨by first | exact sd, hK3 _ _ ?_⟩
  refine retQ_normal ?_
  cases hm
  simp only [go_sem, simprocAttr]
  try simp [encB, encI_i64, encI_u8, encS, enc_api_File, enc_api_Machine, enc_api_Service, enc_api_Setting, List.map_set, List.map_replicate]
set_option maxRecDepth 100000 in
set_option maxHeartbeats 4000000 in
theorem ok_strings_Builder_copyCheck_i2 (o1_1 : Str) (z : Unit) (hm : strings_Builder_copyCheck_i2 o1_1 = some z) : Does Tryd.prog 109 [.ptr 0 0] [.cells 110 [.ptr 0 0, .buf 1], .sb 5 o1_1] (fun r X => r = .tup [] ∧ X = [.cells 110 [.ptr 0 0, .buf 1], .sb 5 o1_1]) := by
  unfold strings_Builder_copyCheck_i2 at hm
  refine Does.of_wp 2 20 [] Tryd.func109 rfl (by decide) rfl rfl (Nat.le_of_ble_eq_true rfl) fun B => ?_
  refine Wp.seqR fun K1 hK1 => ?_
  simp only [go_sem, simprocAttr]
  first
    | refine hK1 _ _ ?_
    | refine ⟨by first | exact sd, hK1 _ _ ?_⟩
  refine Wp.cond rfl ⟨⟩ (fun hc2 => ?_) (fun hc2 => ?_)
  · cases hc2
  refine Wp.seqR fun K3 hK3 => ?_
  simp only [go_sem, simprocAttr]
  first
    | refine hK3 _ _ ?_
    | refine ⟨by first | exact sd, hK3 _ _ ?_⟩
  refine Wp.cond rfl ⟨⟩ (fun hc4 => ?_) (fun hc4 => ?_)
  · cases hc4
  refine Wp.skip ?_
  refine retQ_normal ?_
  cases hm
  simp only [go_sem, simprocAttr]
  try simp [encB, encI_i64, encI_u8, encS, enc_api_File, enc_api_Machine, enc_api_Service, enc_api_Setting, List.map_set, List.map_replicate]
theorem ok_strings_Builder_copyCheck_np (o0 : Str) (z : Unit) (hm : strings_Builder_copyCheck_np o0 = some z) : Does Tryd.prog 109 [.ptr 0 0] [.cells 110 [.np 0, .buf 1], .sb 5 o0] (fun r X => r = .tup [] ∧ X = [.cells 110 [.np 0, .buf 1], .sb 5 o0]) :=
  Does.np (ok_strings_Builder_copyCheck_i1 o0 () rfl) (ok_strings_Builder_copyCheck_i2 o0 () rfl)
set_option maxRecDepth 100000 in
set_option maxHeartbeats 4000000 in
theorem ok_strings_Builder_WriteString_i1 (s_1 : Str) (o1_2 : Str) (z : Int × Str) (hm : strings_Builder_WriteString_i1 s_1 o1_2 = some z) : Does Tryd.prog 71 [.ptr 0 0, .p (.s s_1)] [.cells 110 [.np 0, .buf 1], .sb 5 o1_2] (fun r X => r = .tup [.p (.i .i64 z.1), .raw .nilIface] ∧ X = [.cells 110 [.np 0, .buf 1], .sb 5 z.2]) := by
  unfold strings_Builder_WriteString_i1 at hm
  refine Does.of_wp 2 19 [.tmp 4, .tmp 5] Tryd.func71 rfl (by decide) rfl rfl (Nat.le_of_ble_eq_true rfl) fun B => ?_
  refine Wp.seqR fun K1 hK1 => ?_
  simp only [go_sem, simprocAttr]
  first
    | refine hK1 _ _ ?_
    | refine ⟨by first | exact sd, hK1 _ _ ?_⟩
  obtain ⟨r_5, hr_5, hm⟩ := call_elim hm
  refine Wp.seqR fun K2 hK2 => ?_
  simp only [go_sem, simprocAttr]
  try refine ⟨by first | exact sd, ?_⟩
  refine Rg.callO (av := ?av3) [0, 1] (ok_strings_Builder_copyCheck_np o1_2 _ hr_5) ?ha3 ?hp3 ?hX3 ?hids3 ?hok3 ?cont3
  case ha3 =>
    simp only [go_sem, simprocAttr]
    exact Is.mk
  case hp3 =>
    simp only [go_sem, simprocAttr]
    exact Is.mk
  case hX3 =>
    simp only [go_sem, simprocAttr]
    exact Is.mk
  case hids3 => simp only [go_sem, simprocAttr]
  case hok3 => simp only [go_sem, simprocAttr]
  rintro _ _ ⟨rfl, rfl⟩ hv3
  simp only [go_sem, simprocAttr]
  first
    | refine hK2 _ _ ?_
    | refine ⟨by first | exact sd, hK2 _ _ ?_⟩
  obtain ⟨c_6, hm⟩ := chk_elim hm
  refine Wp.seqR fun K4 hK4 => ?_
  simp only [go_sem, simprocAttr]
  first
    | refine hK4 _ _ ?_
    | refine ⟨by first | exact sd | ((repeat' apply And.intro) <;> first | assumption | omega | (simp only [List.length_append, List.length_map, List.length_cons, List.length_nil, List.length_set, List.length_replicate] at c_6 ⊢; omega)), hK4 _ _ ?_⟩
  refine Wp.seqR fun K5 hK5 => ?_
  simp only [go_sem, simprocAttr]
  first
    | refine hK5 _ _ ?_
    | refine ⟨by first | exact sd, hK5 _ _ ?_⟩
  refine Wp.ret ?_
  refine retQ_ret ?_
  cases hm
  simp only [go_sem, simprocAttr]
  try simp [encB, encI_i64, encI_u8, encS, enc_api_File, enc_api_Machine, enc_api_Service, enc_api_Setting, List.map_set, List.map_replicate]
set_option maxRecDepth 100000 in
set_option maxHeartbeats 4000000 in
theorem ok_disk_fileLine (word_1 : Str) (runs_2 : Str) (f_3 : api_File) (z : Str) (hm : disk_fileLine word_1 runs_2 f_3 = some z) : Does Tryd.prog 72 [.p (.s word_1), .p (.s runs_2), .agg [.p (.s f_3.Path), .p (.s f_3.Data), .p (.b f_3.Runs)]] [] (fun r X => r = .p (.s z) ∧ X = []) := by
  unfold disk_fileLine at hm
  refine Does.of_wp 0 21 [.tmp 6] Tryd.func72 rfl (by decide) rfl rfl (Nat.le_of_ble_eq_true rfl) fun B => ?_
  refine Wp.seqR fun K1 hK1 => ?_
  simp only [go_sem, simprocAttr]
  first
    | refine hK1 _ _ ?_
    | refine ⟨by first | exact sd, hK1 _ _ ?_⟩
  refine Wp.seqW fun K2 hK2 hW2 => ?_
  obtain ⟨k_5, hk_5, hm⟩ := jp_elim hm
  have hcut2 : ∀ s, k_5 s = some z → K2 [(0, .p (.s s)), (5, .ptr 0 0)] [.cells 49 [.p (.s f_3.Path), .p (.s f_3.Data), .p (.b f_3.Runs)]] := by
    intro word_4 hs
    have hm := hk_5 _ hs
    clear hs
    try dsimp only at hm
    try dsimp only
    refine hK2 _ _ ?_
    obtain ⟨c_6, hm⟩ := chk_elim hm
    obtain ⟨c_7, hm⟩ := chk_elim hm
    obtain ⟨c_8, hm⟩ := chk_elim hm
    obtain ⟨r_9, hr_9, hm⟩ := call_elim hm
    obtain ⟨c_10, hm⟩ := chk_elim hm
    obtain ⟨c_11, hm⟩ := chk_elim hm
    refine Wp.seqD (plan := [(0, none), (1, none), (2, none), (3, none), (4, none), (5, none), (6, none), (7, none), (8, none), (9, none), (10, none), (11, none)]) (by kernel_rfl) rfl (by kernel_rfl) fun K3 hK3 => ?_
    simp only [go_sem, simprocAttr]
    try refine ⟨by first | exact sd | ((repeat' apply And.intro) <;> first | assumption | omega | (simp only [List.length_append, List.length_map, List.length_cons, List.length_nil, List.length_set, List.length_replicate] at c_6 c_7 c_8 c_10 c_11 ⊢; omega)), ?_⟩
    refine Dr.callF (av := ?av4) (g := true) (o := ?o4) (fun hg => ok_disk_Quote f_3.Data _ hr_9) ?hk4 ?ha4 ?hb4 ?hp4 ?hok4 ?hf4 ?cont4
    case hk4 =>
      simp only [go_sem, simprocAttr]
      exact Is.mk
    case ha4 =>
      simp only [go_sem, simprocAttr]
      exact Is.mk
    case hb4 =>
      simp only [go_sem, simprocAttr]
      exact Is.mk
    case hp4 =>
      simp only [go_sem, simprocAttr]
      exact Is.mk
    case hok4 =>
      simp only [go_sem, simprocAttr]
    case hf4 =>
      simp only [go_sem, simprocAttr]
      exact Is.mk
    simp only [go_sem, simprocAttr]
    first
      | refine hK3 _ _ ?_
      | refine ⟨by first | exact sd | ((repeat' apply And.intro) <;> first | assumption | omega | (simp only [List.length_append, List.length_map, List.length_cons, List.length_nil, List.length_set, List.length_replicate] at c_6 c_7 c_8 c_10 c_11 ⊢; omega)), hK3 _ _ ?_⟩
    refine Wp.ret ?_
    refine retQ_ret ?_
    cases hm
    simp only [go_sem, simprocAttr]
    try simp [encB, encI_i64, encI_u8, encS, enc_api_File, enc_api_Machine, enc_api_Service, enc_api_Setting, List.map_set, List.map_replicate]
  clear hK2 hk_5
  refine Wp.seqR fun K5 hK5 => ?_
  simp only [go_sem, simprocAttr]
  first
    | refine hK5 _ _ ?_
    | refine ⟨by first | exact sd, hK5 _ _ ?_⟩
  refine Wp.cond rfl ⟨⟩ (fun hc6 => ?_) (fun hc6 => ?_)
  · have hm := brT hm (by first | exact hc6 | simpa using hc6)
    refine Wp.region fun K7 hK7 => ?_
    simp only [go_sem, simprocAttr]
    first
      | refine hK7 _ _ ?_
      | refine ⟨by first | exact sd, hK7 _ _ ?_⟩
    simp only [thenQ, blockQ, ↓reduceIte]
    refine hW2 _ _ _ _ ?_ (hcut2 runs_2 hm)
    simp only [go_sem, simprocAttr]
    try simp [encB, encI_i64, encI_u8, encS, enc_api_File, enc_api_Machine, enc_api_Service, enc_api_Setting, List.map_set, List.map_replicate]
  · have hm := brF hm (by first | exact hc6 | simpa using hc6)
    refine Wp.skip ?_
    simp only [thenQ, blockQ, ↓reduceIte]
    refine hW2 _ _ _ _ ?_ (hcut2 word_1 hm)
    simp only [go_sem, simprocAttr]
    try simp [encB, encI_i64, encI_u8, encS, enc_api_File, enc_api_Machine, enc_api_Service, enc_api_Setting, List.map_set, List.map_replicate]
set_option maxRecDepth 100000 in
set_option maxHeartbeats 4000000 in
theorem ok_disk_bit (b_1 : Bool) (z : Str) (hm : disk_bit b_1 = some z) : Does Tryd.prog 111 [.p (.b b_1)] [] (fun r X => r = .p (.s z) ∧ X = []) := by
  unfold disk_bit at hm
  refine Does.of_wp 0 4 [.tmp 2] Tryd.func111 rfl (by decide) rfl rfl (Nat.le_of_ble_eq_true rfl) fun B => ?_
  refine Wp.seqR fun K1 hK1 => ?_
  simp only [go_sem, simprocAttr]
  first
    | refine hK1 _ _ ?_
    | refine ⟨by first | exact sd, hK1 _ _ ?_⟩
  refine Wp.seqW fun K2 hK2 hW2 => ?_
  refine Wp.seqR fun K3 hK3 => ?_
  simp only [go_sem, simprocAttr]
  first
    | refine hK3 _ _ ?_
    | refine ⟨by first | exact sd, hK3 _ _ ?_⟩
  refine Wp.cond rfl ⟨⟩ (fun hc4 => ?_) (fun hc4 => ?_)
  · have hm := brT hm (by first | exact hc4 | simpa using hc4)
    refine Wp.seqR fun K5 hK5 => ?_
    simp only [go_sem, simprocAttr]
    first
      | refine hK5 _ _ ?_
      | refine ⟨by first | exact sd, hK5 _ _ ?_⟩
    refine Wp.ret ?_
    simp only [thenQ, blockQ]
    refine retQ_ret ?_
    cases hm
    simp only [go_sem, simprocAttr]
    try simp [encB, encI_i64, encI_u8, encS, enc_api_File, enc_api_Machine, enc_api_Service, enc_api_Setting, List.map_set, List.map_replicate]
  · have hm := brF hm (by first | exact hc4 | simpa using hc4)
    refine Wp.skip ?_
    simp only [thenQ, blockQ, ↓reduceIte]
    refine hK2 _ _ ?_
    refine Wp.seqR fun K6 hK6 => ?_
    simp only [go_sem, simprocAttr]
    first
      | refine hK6 _ _ ?_
      | refine ⟨by first | exact sd, hK6 _ _ ?_⟩
    refine Wp.ret ?_
    refine retQ_ret ?_
    cases hm
    simp only [go_sem, simprocAttr]
    try simp [encB, encI_i64, encI_u8, encS, enc_api_File, enc_api_Machine, enc_api_Service, enc_api_Setting, List.map_set, List.map_replicate]
set_option maxRecDepth 100000 in
set_option maxHeartbeats 4000000 in
theorem ok_disk_serviceLine (s_1 : api_Service) (z : Str) (hm : disk_serviceLine s_1 = some z) : Does Tryd.prog 74 [.agg [.p (.s s_1.Name), .p (.s s_1.Path), .p (.b s_1.Auto), .p (.b s_1.On)]] [] (fun r X => r = .p (.s z) ∧ X = []) := by
  unfold disk_serviceLine at hm
  refine Does.of_wp 0 21 [.tmp 2] Tryd.func74 rfl (by decide) rfl rfl (Nat.le_of_ble_eq_true rfl) fun B => ?_
  refine Wp.seqR fun K1 hK1 => ?_
  simp only [go_sem, simprocAttr]
  first
    | refine hK1 _ _ ?_
    | refine ⟨by first | exact sd, hK1 _ _ ?_⟩
  obtain ⟨c_2, hm⟩ := chk_elim hm
  obtain ⟨c_3, hm⟩ := chk_elim hm
  obtain ⟨c_4, hm⟩ := chk_elim hm
  obtain ⟨c_5, hm⟩ := chk_elim hm
  obtain ⟨r_6, hr_6, hm⟩ := call_elim hm
  obtain ⟨c_7, hm⟩ := chk_elim hm
  obtain ⟨c_8, hm⟩ := chk_elim hm
  obtain ⟨r_9, hr_9, hm⟩ := call_elim hm
  obtain ⟨c_10, hm⟩ := chk_elim hm
  obtain ⟨c_11, hm⟩ := chk_elim hm
  refine Wp.seqD (plan := [(0, none), (1, none), (2, none), (3, none), (4, none), (5, none), (6, none), (7, none), (8, none), (9, none), (10, none), (11, none), (12, none), (13, none), (14, none), (15, none), (16, none), (17, none), (18, none)]) (by kernel_rfl) rfl (by kernel_rfl) fun K2 hK2 => ?_
  simp only [go_sem, simprocAttr]
  try refine ⟨by first | exact sd | ((repeat' apply And.intro) <;> first | assumption | omega | (simp only [List.length_append, List.length_map, List.length_cons, List.length_nil, List.length_set, List.length_replicate] at c_2 c_3 c_4 c_5 c_7 c_8 c_10 c_11 ⊢; omega)), ?_⟩
  refine Dr.callF (av := ?av3) (g := true) (o := ?o3) (fun hg => ok_disk_bit s_1.Auto _ hr_6) ?hk3 ?ha3 ?hb3 ?hp3 ?hok3 ?hf3 ?cont3
  case hk3 =>
    simp only [go_sem, simprocAttr]
    exact Is.mk
  case ha3 =>
    simp only [go_sem, simprocAttr]
    exact Is.mk
  case hb3 =>
    simp only [go_sem, simprocAttr]
    exact Is.mk
  case hp3 =>
    simp only [go_sem, simprocAttr]
    exact Is.mk
  case hok3 =>
    simp only [go_sem, simprocAttr]
  case hf3 =>
    simp only [go_sem, simprocAttr]
    exact Is.mk
  simp only [go_sem, simprocAttr]
  try refine ⟨by first | exact sd | ((repeat' apply And.intro) <;> first | assumption | omega | (simp only [List.length_append, List.length_map, List.length_cons, List.length_nil, List.length_set, List.length_replicate] at c_2 c_3 c_4 c_5 c_7 c_8 c_10 c_11 ⊢; omega)), ?_⟩
  refine Dr.callF (av := ?av4) (g := true) (o := ?o4) (fun hg => ok_disk_bit s_1.On _ hr_9) ?hk4 ?ha4 ?hb4 ?hp4 ?hok4 ?hf4 ?cont4
  case hk4 =>
    simp only [go_sem, simprocAttr]
    exact Is.mk
  case ha4 =>
    simp only [go_sem, simprocAttr]
    exact Is.mk
  case hb4 =>
    simp only [go_sem, simprocAttr]
    exact Is.mk
  case hp4 =>
    simp only [go_sem, simprocAttr]
    exact Is.mk
  case hok4 =>
    simp only [go_sem, simprocAttr]
  case hf4 =>
    simp only [go_sem, simprocAttr]
    exact Is.mk
  simp only [go_sem, simprocAttr]
  first
    | refine hK2 _ _ ?_
    | refine ⟨by first | exact sd | ((repeat' apply And.intro) <;> first | assumption | omega | (simp only [List.length_append, List.length_map, List.length_cons, List.length_nil, List.length_set, List.length_replicate] at c_2 c_3 c_4 c_5 c_7 c_8 c_10 c_11 ⊢; omega)), hK2 _ _ ?_⟩
  refine Wp.ret ?_
  refine retQ_ret ?_
  cases hm
  simp only [go_sem, simprocAttr]
  try simp [encB, encI_i64, encI_u8, encS, enc_api_File, enc_api_Machine, enc_api_Service, enc_api_Setting, List.map_set, List.map_replicate]
set_option maxRecDepth 100000 in
set_option maxHeartbeats 4000000 in
theorem ok_strings_Builder_String_i1 (o1_1 : Str) (z : Str) (hm : strings_Builder_String_i1 o1_1 = some z) : Does Tryd.prog 75 [.ptr 0 0] [.cells 110 [.np 0, .buf 1], .sb 5 o1_1] (fun r X => r = .p (.s z) ∧ X = [.cells 110 [.np 0, .buf 1], .sb 5 o1_1]) := by
  unfold strings_Builder_String_i1 at hm
  refine Does.of_wp 2 14 [.tmp 2] Tryd.func75 rfl (by decide) rfl rfl (Nat.le_of_ble_eq_true rfl) fun B => ?_
  refine Wp.seqR fun K1 hK1 => ?_
  simp only [go_sem, simprocAttr]
  first
    | refine hK1 _ _ ?_
    | refine ⟨by first | exact sd, hK1 _ _ ?_⟩
  refine Wp.seqD (plan := [(0, none), (1, none), (2, none), (3, none), (5, none), (6, none), (7, none), (8, none), (9, none), (4, some [5, 6, 7, 8, 9]), (10, some []), (11, none)]) (by kernel_rfl) rfl (by kernel_rfl) fun K2 hK2 => ?_
  simp only [go_sem, simprocAttr]
  first
    | refine hK2 _ _ ?_
    | refine ⟨by first | exact sd, hK2 _ _ ?_⟩
  refine Wp.ret ?_
  refine retQ_ret ?_
  cases hm
  simp only [go_sem, simprocAttr]
  try simp [encB, encI_i64, encI_u8, encS, enc_api_File, enc_api_Machine, enc_api_Service, enc_api_Setting, List.map_set, List.map_replicate]
set_option maxRecDepth 100000 in
set_option maxHeartbeats 4000000 in
theorem ok_disk_sized (s_1 : Str) (z : Str × Int) (hm : disk_sized s_1 = some z) : Does Tryd.prog 55 [.p (.s s_1)] [] (fun r X => r = .tup [.p (.s z.1), .p (.i .i64 z.2)] ∧ X = []) := by
  unfold disk_sized at hm
  refine Does.of_wp 0 8 [.tmp 2, .tmp 3] Tryd.func55 rfl (by decide) rfl rfl (Nat.le_of_ble_eq_true rfl) fun B => ?_
  refine Wp.seqR fun K1 hK1 => ?_
  simp only [go_sem, simprocAttr]
  first
    | refine hK1 _ _ ?_
    | refine ⟨by first | exact sd, hK1 _ _ ?_⟩
  refine Wp.seqW fun K2 hK2 hW2 => ?_
  refine Wp.seqR fun K3 hK3 => ?_
  simp only [go_sem, simprocAttr]
  first
    | refine hK3 _ _ ?_
    | refine ⟨by first | exact sd, hK3 _ _ ?_⟩
  refine Wp.cond rfl ⟨⟩ (fun hc4 => ?_) (fun hc4 => ?_)
  · have hm := brT hm (by first | exact hc4 | simpa using hc4)
    refine Wp.seqR fun K5 hK5 => ?_
    simp only [go_sem, simprocAttr]
    first
      | refine hK5 _ _ ?_
      | refine ⟨by first | exact sd, hK5 _ _ ?_⟩
    refine Wp.ret ?_
    simp only [thenQ, blockQ]
    refine retQ_ret ?_
    cases hm
    simp only [go_sem, simprocAttr]
    try simp [encB, encI_i64, encI_u8, encS, enc_api_File, enc_api_Machine, enc_api_Service, enc_api_Setting, List.map_set, List.map_replicate]
  · have hm := brF hm (by first | exact hc4 | simpa using hc4)
    refine Wp.skip ?_
    simp only [thenQ, blockQ, ↓reduceIte]
    refine hK2 _ _ ?_
    refine Wp.seqR fun K6 hK6 => ?_
    simp only [go_sem, simprocAttr]
    first
      | refine hK6 _ _ ?_
      | refine ⟨by first | exact sd, hK6 _ _ ?_⟩
    refine Wp.ret ?_
    refine retQ_ret ?_
    cases hm
    simp only [go_sem, simprocAttr]
    try simp [encB, encI_i64, encI_u8, encS, enc_api_File, enc_api_Machine, enc_api_Service, enc_api_Setting, List.map_set, List.map_replicate]
set_option maxRecDepth 100000 in
set_option maxHeartbeats 4000000 in
theorem ok_internal_stringslite_Cut (s_1 : Str) (sep_2 : Str) (z : Str × Str × Bool) (hm : internal_stringslite_Cut s_1 sep_2 = some z) : Does Tryd.prog 105 [.p (.s s_1), .p (.s sep_2)] [] (fun r X => r = .tup [.p (.s z.1), .p (.s z.2.1), .p (.b z.2.2)] ∧ X = []) := by
  unfold internal_stringslite_Cut at hm
  refine Does.of_wp 0 23 [.tmp 4, .tmp 5, .tmp 6] Tryd.func105 rfl (by decide) rfl rfl (Nat.le_of_ble_eq_true rfl) fun B => ?_
  refine Wp.seqR fun K1 hK1 => ?_
  simp only [go_sem, simprocAttr]
  first
    | refine hK1 _ _ ?_
    | refine ⟨by first | exact sd, hK1 _ _ ?_⟩
  refine Wp.seqW fun K2 hK2 hW2 => ?_
  obtain ⟨r_3, hr_3, hm⟩ := call_elim hm
  refine Wp.seqR fun K3 hK3 => ?_
  simp only [go_sem, simprocAttr]
  try refine ⟨by first | exact sd, ?_⟩
  refine Rg.callX (av := ?av4) (g := true) (fun hg => ok_internal_stringslite_Index s_1 sep_2 _ hr_3) ?ha4 ?hb4 ?hp4 ?hok4 ?hf4 ?cont4
  case ha4 =>
    simp only [go_sem, simprocAttr]
    exact Is.mk
  case hb4 =>
    simp only [go_sem, simprocAttr]
    exact Is.mk
  case hp4 =>
    simp only [go_sem, simprocAttr]
    exact Is.mk
  case hok4 =>
    simp only [go_sem, simprocAttr]
  case hf4 =>
    simp only [go_sem, simprocAttr]
    exact Is.mk
  intro hv4
  simp only [go_sem, simprocAttr]
  first
    | refine hK3 _ _ ?_
    | refine ⟨by first | exact sd, hK3 _ _ ?_⟩
  refine Wp.seqR fun K5 hK5 => ?_
  simp only [go_sem, simprocAttr]
  first
    | refine hK5 _ _ ?_
    | refine ⟨by first | exact sd, hK5 _ _ ?_⟩
  refine Wp.cond rfl ⟨⟩ (fun hc6 => ?_) (fun hc6 => ?_)
  · have hm := brT hm (by first | exact hc6 | simpa using hc6)
    obtain ⟨c_4, hm⟩ := chk_elim hm
    obtain ⟨c_5, hm⟩ := chk_elim hm
    refine Wp.seqD (plan := [(0, none), (1, none), (2, none), (3, none), (4, none), (5, none), (6, none), (7, none), (8, none), (9, none), (10, none), (11, none)]) (by kernel_rfl) rfl (by kernel_rfl) fun K7 hK7 => ?_
    simp only [go_sem, simprocAttr]
    first
      | refine hK7 _ _ ?_
      | refine ⟨by first | exact sd | ((repeat' apply And.intro) <;> first | assumption | omega | (simp only [List.length_append, List.length_map, List.length_cons, List.length_nil, List.length_set, List.length_replicate] at c_4 c_5 ⊢; omega)), hK7 _ _ ?_⟩
    refine Wp.ret ?_
    simp only [thenQ, blockQ]
    refine retQ_ret ?_
    cases hm
    simp only [go_sem, simprocAttr]
    try simp [encB, encI_i64, encI_u8, encS, enc_api_File, enc_api_Machine, enc_api_Service, enc_api_Setting, List.map_set, List.map_replicate]
  · have hm := brF hm (by first | exact hc6 | simpa using hc6)
    refine Wp.skip ?_
    simp only [thenQ, blockQ, ↓reduceIte]
    refine hK2 _ _ ?_
    refine Wp.seqR fun K8 hK8 => ?_
    simp only [go_sem, simprocAttr]
    first
      | refine hK8 _ _ ?_
      | refine ⟨by first | exact sd, hK8 _ _ ?_⟩
    refine Wp.ret ?_
    refine retQ_ret ?_
    cases hm
    simp only [go_sem, simprocAttr]
    try simp [encB, encI_i64, encI_u8, encS, enc_api_File, enc_api_Machine, enc_api_Service, enc_api_Setting, List.map_set, List.map_replicate]
set_option maxRecDepth 100000 in
set_option maxHeartbeats 4000000 in
theorem ok_strings_Cut (s_1 : Str) (sep_2 : Str) (z : Str × Str × Bool) (hm : strings_Cut s_1 sep_2 = some z) : Does Tryd.prog 62 [.p (.s s_1), .p (.s sep_2)] [] (fun r X => r = .tup [.p (.s z.1), .p (.s z.2.1), .p (.b z.2.2)] ∧ X = []) := by
  unfold strings_Cut at hm
  refine Does.of_wp 0 13 [.tmp 4, .tmp 5, .tmp 6] Tryd.func62 rfl (by decide) rfl rfl (Nat.le_of_ble_eq_true rfl) fun B => ?_
  refine Wp.seqR fun K1 hK1 => ?_
  simp only [go_sem, simprocAttr]
  first
    | refine hK1 _ _ ?_
    | refine ⟨by first | exact sd, hK1 _ _ ?_⟩
  obtain ⟨r_3, hr_3, hm⟩ := call_elim hm
  refine Wp.seqR fun K2 hK2 => ?_
  simp only [go_sem, simprocAttr]
  try refine ⟨by first | exact sd, ?_⟩
  refine Rg.callX (av := ?av3) (g := true) (fun hg => ok_internal_stringslite_Cut s_1 sep_2 _ hr_3) ?ha3 ?hb3 ?hp3 ?hok3 ?hf3 ?cont3
  case ha3 =>
    simp only [go_sem, simprocAttr]
    exact Is.mk
  case hb3 =>
    simp only [go_sem, simprocAttr]
    exact Is.mk
  case hp3 =>
    simp only [go_sem, simprocAttr]
    exact Is.mk
  case hok3 =>
    simp only [go_sem, simprocAttr]
  case hf3 =>
    simp only [go_sem, simprocAttr]
    exact Is.mk
  intro hv3
  simp only [go_sem, simprocAttr]
  first
    | refine hK2 _ _ ?_
    | refine ⟨by first | exact sd, hK2 _ _ ?_⟩
  refine Wp.ret ?_
  refine retQ_ret ?_
  cases hm
  simp only [go_sem, simprocAttr]
  try simp [encB, encI_i64, encI_u8, encS, enc_api_File, enc_api_Machine, enc_api_Service, enc_api_Setting, List.map_set, List.map_replicate]
set_option maxRecDepth 100000 in
set_option maxHeartbeats 4000000 in
theorem ok_strings_IndexByte (s_1 : Str) (c_2 : Int) (z : Int) (hm : strings_IndexByte s_1 c_2 = some z) : Does Tryd.prog 155 [.p (.s s_1), .p (.i .u8 c_2)] [] (fun r X => r = .p (.i .i64 z) ∧ X = []) := by
  unfold strings_IndexByte at hm
  refine Does.of_wp 0 8 [.tmp 4] Tryd.func155 rfl (by decide) rfl rfl (Nat.le_of_ble_eq_true rfl) fun B => ?_
  refine Wp.seqR fun K1 hK1 => ?_
  simp only [go_sem, simprocAttr]
  first
    | refine hK1 _ _ ?_
    | refine ⟨by first | exact sd, hK1 _ _ ?_⟩
  obtain ⟨r_3, hr_3, hm⟩ := call_elim hm
  refine Wp.seqR fun K2 hK2 => ?_
  simp only [go_sem, simprocAttr]
  try refine ⟨by first | exact sd, ?_⟩
  refine Rg.callX (av := ?av3) (g := true) (fun hg => ok_internal_stringslite_IndexByte s_1 c_2 _ hr_3) ?ha3 ?hb3 ?hp3 ?hok3 ?hf3 ?cont3
  case ha3 =>
    simp only [go_sem, simprocAttr]
    exact Is.mk
  case hb3 =>
    simp only [go_sem, simprocAttr]
    exact Is.mk
  case hp3 =>
    simp only [go_sem, simprocAttr]
    exact Is.mk
  case hok3 =>
    simp only [go_sem, simprocAttr]
  case hf3 =>
    simp only [go_sem, simprocAttr]
    exact Is.mk
  intro hv3
  simp only [go_sem, simprocAttr]
  first
    | refine hK2 _ _ ?_
    | refine ⟨by first | exact sd, hK2 _ _ ?_⟩
  refine Wp.ret ?_
  refine retQ_ret ?_
  cases hm
  simp only [go_sem, simprocAttr]
  try simp [encB, encI_i64, encI_u8, encS, enc_api_File, enc_api_Machine, enc_api_Service, enc_api_Setting, enc_disk_line, List.map_set, List.map_replicate]
set_option maxRecDepth 100000 in
set_option maxHeartbeats 4000000 in
theorem ok_disk_escape (s_1 : Str) (z : Int × Int) (hm : disk_escape s_1 = some z) : Does Tryd.prog 138 [.p (.s s_1)] [] (fun r X => r = .tup [.p (.i .u8 z.1), .p (.i .i64 z.2)] ∧ X = []) := by
  unfold disk_escape at hm
  refine Does.of_wp 0 61 [.tmp 2, .tmp 3] Tryd.func138 rfl (by decide) rfl rfl (Nat.le_of_ble_eq_true rfl) fun B => ?_
  refine Wp.seqR fun K1 hK1 => ?_
  simp only [go_sem, simprocAttr]
  first
    | refine hK1 _ _ ?_
    | refine ⟨by first | exact sd, hK1 _ _ ?_⟩
  refine Wp.seqW fun K2 hK2 hW2 => ?_
  refine Wp.block ?_
  refine Wp.seqR fun K3 hK3 => ?_
  simp only [go_sem, simprocAttr]
  first
    | refine hK3 _ _ ?_
    | refine ⟨by first | exact sd, hK3 _ _ ?_⟩
  refine Wp.cond rfl ⟨⟩ (fun hc4 => ?_) (fun hc4 => ?_)
  · have hm := brT hm (by first | exact hc4 | simpa using hc4)
    refine Wp.seqR fun K5 hK5 => ?_
    simp only [go_sem, simprocAttr]
    first
      | refine hK5 _ _ ?_
      | refine ⟨by first | exact sd, hK5 _ _ ?_⟩
    refine Wp.ret ?_
    simp only [thenQ, blockQ]
    refine retQ_ret ?_
    cases hm
    simp only [go_sem, simprocAttr]
    try simp [encB, encI_i64, encI_u8, encS, enc_api_File, enc_api_Machine, enc_api_Service, enc_api_Setting, enc_disk_line, List.map_set, List.map_replicate]
  · have hm := brF hm (by first | exact hc4 | simpa using hc4)
    obtain ⟨c_2, hbc_2, hxc_2, hm⟩ := idxS_elim hm
    replace hxc_2 : ((s_1.getD 0 0).toNat : Int) = c_2 := hxc_2
    refine Wp.seqR fun K6 hK6 => ?_
    simp only [go_sem, simprocAttr, hxc_2]
    first
      | refine hK6 _ _ ?_
      | refine ⟨by first | exact sd, hK6 _ _ ?_⟩
    refine Wp.cond rfl ⟨⟩ (fun hc7 => ?_) (fun hc7 => ?_)
    · have hm := brT hm (by first | exact hc7 | simpa using hc7)
      refine Wp.seqR fun K8 hK8 => ?_
      simp only [go_sem, simprocAttr, hxc_2]
      first
        | refine hK8 _ _ ?_
        | refine ⟨by first | exact sd, hK8 _ _ ?_⟩
      refine Wp.ret ?_
      simp only [thenQ, blockQ]
      refine retQ_ret ?_
      cases hm
      simp only [go_sem, simprocAttr, hxc_2]
      try simp [encB, encI_i64, encI_u8, encS, enc_api_File, enc_api_Machine, enc_api_Service, enc_api_Setting, enc_disk_line, List.map_set, List.map_replicate]
    · have hm := brF hm (by first | exact hc7 | simpa using hc7)
      refine Wp.seqR fun K9 hK9 => ?_
      simp only [go_sem, simprocAttr, hxc_2]
      first
        | refine hK9 _ _ ?_
        | refine ⟨by first | exact sd, hK9 _ _ ?_⟩
      refine Wp.cond rfl ⟨⟩ (fun hc10 => ?_) (fun hc10 => ?_)
      · have hm := brT hm (by first | exact hc10 | simpa using hc10)
        refine Wp.seqR fun K11 hK11 => ?_
        simp only [go_sem, simprocAttr, hxc_2]
        first
          | refine hK11 _ _ ?_
          | refine ⟨by first | exact sd, hK11 _ _ ?_⟩
        refine Wp.ret ?_
        simp only [thenQ, blockQ]
        refine retQ_ret ?_
        cases hm
        simp only [go_sem, simprocAttr, hxc_2]
        try simp [encB, encI_i64, encI_u8, encS, enc_api_File, enc_api_Machine, enc_api_Service, enc_api_Setting, enc_disk_line, List.map_set, List.map_replicate]
      · have hm := brF hm (by first | exact hc10 | simpa using hc10)
        refine Wp.seqR fun K12 hK12 => ?_
        simp only [go_sem, simprocAttr, hxc_2]
        first
          | refine hK12 _ _ ?_
          | refine ⟨by first | exact sd, hK12 _ _ ?_⟩
        refine Wp.cond rfl ⟨⟩ (fun hc13 => ?_) (fun hc13 => ?_)
        · have hm := brT hm (by first | exact hc13 | simpa using hc13)
          refine Wp.seqR fun K14 hK14 => ?_
          simp only [go_sem, simprocAttr, hxc_2]
          first
            | refine hK14 _ _ ?_
            | refine ⟨by first | exact sd, hK14 _ _ ?_⟩
          refine Wp.ret ?_
          simp only [thenQ, blockQ]
          refine retQ_ret ?_
          cases hm
          simp only [go_sem, simprocAttr, hxc_2]
          try simp [encB, encI_i64, encI_u8, encS, enc_api_File, enc_api_Machine, enc_api_Service, enc_api_Setting, enc_disk_line, List.map_set, List.map_replicate]
        · have hm := brF hm (by first | exact hc13 | simpa using hc13)
          refine Wp.skip ?_
          simp only [thenQ, blockQ, ↓reduceIte]
          refine hK2 _ _ ?_
          obtain ⟨c_3, hbc_3, hxc_3, hm⟩ := idxS_elim hm
          replace hxc_3 : ((s_1.getD 1 0).toNat : Int) = c_3 := hxc_3
          obtain ⟨r_4, hr_4, hm⟩ := call_elim hm
          obtain ⟨c_5, hbc_5, hxc_5, hm⟩ := idxS_elim hm
          replace hxc_5 : ((s_1.getD 2 0).toNat : Int) = c_5 := hxc_5
          obtain ⟨r_6, hr_6, hm⟩ := call_elim hm
          refine Wp.seqD (plan := [(0, none), (1, none), (2, none), (3, none), (4, none), (5, none), (6, none), (7, none)]) (by kernel_rfl) rfl (by kernel_rfl) fun K15 hK15 => ?_
          simp only [go_sem, simprocAttr, hxc_2, hxc_3, hxc_5]
          try refine ⟨by first | exact sd, ?_⟩
          refine Dr.callF (av := ?av16) (g := true) (o := ?o16) (fun hg => ok_strings_IndexByte ([48, 49, 50, 51, 52, 53, 54, 55, 56, 57, 97, 98, 99, 100, 101, 102] : Str) c_3 _ hr_4) ?hk16 ?ha16 ?hb16 ?hp16 ?hok16 ?hf16 ?cont16
          case hk16 =>
            simp only [go_sem, simprocAttr, hxc_2, hxc_3, hxc_5]
            exact Is.mk
          case ha16 =>
            simp only [go_sem, simprocAttr, hxc_2, hxc_3, hxc_5]
            exact Is.mk
          case hb16 =>
            simp only [go_sem, simprocAttr, hxc_2, hxc_3, hxc_5]
            exact Is.mk
          case hp16 =>
            simp only [go_sem, simprocAttr, hxc_2, hxc_3, hxc_5]
            exact Is.mk
          case hok16 =>
            simp only [go_sem, simprocAttr, hxc_2, hxc_3, hxc_5]
          case hf16 =>
            simp only [go_sem, simprocAttr, hxc_2, hxc_3, hxc_5]
            exact Is.mk
          simp only [go_sem, simprocAttr, hxc_2, hxc_3, hxc_5]
          try refine ⟨by first | exact sd, ?_⟩
          refine Dr.callF (av := ?av17) (g := true) (o := ?o17) (fun hg => ok_strings_IndexByte ([48, 49, 50, 51, 52, 53, 54, 55, 56, 57, 97, 98, 99, 100, 101, 102] : Str) c_5 _ hr_6) ?hk17 ?ha17 ?hb17 ?hp17 ?hok17 ?hf17 ?cont17
          case hk17 =>
            simp only [go_sem, simprocAttr, hxc_2, hxc_3, hxc_5]
            exact Is.mk
          case ha17 =>
            simp only [go_sem, simprocAttr, hxc_2, hxc_3, hxc_5]
            exact Is.mk
          case hb17 =>
            simp only [go_sem, simprocAttr, hxc_2, hxc_3, hxc_5]
            exact Is.mk
          case hp17 =>
            simp only [go_sem, simprocAttr, hxc_2, hxc_3, hxc_5]
            exact Is.mk
          case hok17 =>
            simp only [go_sem, simprocAttr, hxc_2, hxc_3, hxc_5]
          case hf17 =>
            simp only [go_sem, simprocAttr, hxc_2, hxc_3, hxc_5]
            exact Is.mk
          simp only [go_sem, simprocAttr, hxc_2, hxc_3, hxc_5]
          first
            | refine hK15 _ _ ?_
            | refine ⟨by first | exact sd, hK15 _ _ ?_⟩
          refine Wp.seqW fun K18 hK18 hW18 => ?_
          refine Wp.seqR fun K19 hK19 => ?_
          simp only [go_sem, simprocAttr, hxc_2, hxc_3, hxc_5]
          first
            | refine hK19 _ _ ?_
            | refine ⟨by first | exact sd, hK19 _ _ ?_⟩
          refine Wp.cond rfl ⟨⟩ (fun hc20 => ?_) (fun hc20 => ?_)
          · have hm := brT hm (by first | exact hc20 | simpa using hc20)
            refine Wp.seqR fun K21 hK21 => ?_
            simp only [go_sem, simprocAttr, hxc_2, hxc_3, hxc_5]
            first
              | refine hK21 _ _ ?_
              | refine ⟨by first | exact sd, hK21 _ _ ?_⟩
            refine Wp.ret ?_
            simp only [thenQ, blockQ]
            refine retQ_ret ?_
            cases hm
            simp only [go_sem, simprocAttr, hxc_2, hxc_3, hxc_5]
            try simp [encB, encI_i64, encI_u8, encS, enc_api_File, enc_api_Machine, enc_api_Service, enc_api_Setting, enc_disk_line, List.map_set, List.map_replicate]
          · have hm := brF hm (by first | exact hc20 | simpa using hc20)
            refine Wp.skip ?_
            simp only [thenQ, blockQ, ↓reduceIte]
            refine hK18 _ _ ?_
            refine Wp.seqR fun K22 hK22 => ?_
            simp only [go_sem, simprocAttr, hxc_2, hxc_3, hxc_5]
            first
              | refine hK22 _ _ ?_
              | refine ⟨by first | exact sd, hK22 _ _ ?_⟩
            refine Wp.seqW fun K23 hK23 hW23 => ?_
            refine Wp.seqR fun K24 hK24 => ?_
            simp only [go_sem, simprocAttr, hxc_2, hxc_3, hxc_5]
            first
              | refine hK24 _ _ ?_
              | refine ⟨by first | exact sd, hK24 _ _ ?_⟩
            refine Wp.cond rfl ⟨⟩ (fun hc25 => ?_) (fun hc25 => ?_)
            · have hm := brT hm (by first | exact hc25 | simpa using hc25)
              refine Wp.seqR fun K26 hK26 => ?_
              simp only [go_sem, simprocAttr, hxc_2, hxc_3, hxc_5]
              first
                | refine hK26 _ _ ?_
                | refine ⟨by first | exact sd, hK26 _ _ ?_⟩
              refine Wp.ret ?_
              simp only [thenQ, blockQ]
              refine retQ_ret ?_
              cases hm
              simp only [go_sem, simprocAttr, hxc_2, hxc_3, hxc_5]
              try simp [encB, encI_i64, encI_u8, encS, enc_api_File, enc_api_Machine, enc_api_Service, enc_api_Setting, enc_disk_line, List.map_set, List.map_replicate]
            · have hm := brF hm (by first | exact hc25 | simpa using hc25)
              refine Wp.skip ?_
              simp only [thenQ, blockQ, ↓reduceIte]
              refine hK23 _ _ ?_
              refine Wp.seqR fun K27 hK27 => ?_
              simp only [go_sem, simprocAttr, hxc_2, hxc_3, hxc_5]
              first
                | refine hK27 _ _ ?_
                | refine ⟨by first | exact sd, hK27 _ _ ?_⟩
              refine Wp.ret ?_
              refine retQ_ret ?_
              cases hm
              simp only [go_sem, simprocAttr, hxc_2, hxc_3, hxc_5]
              try simp [encB, encI_i64, encI_u8, encS, enc_api_File, enc_api_Machine, enc_api_Service, enc_api_Setting, enc_disk_line, List.map_set, List.map_replicate]
set_option maxRecDepth 100000 in
set_option maxHeartbeats 4000000 in
theorem ok_disk_Unquote (s_1 : Str) (z : Str × Int) (hm : disk_Unquote s_1 = some z) : Does Tryd.prog 125 [.p (.s s_1)] [] (fun r X => r = .tup [.p (.s z.1), .p (.i .i64 z.2)] ∧ X = []) := by
  unfold disk_Unquote at hm
  refine Does.of_wp 0 74 [.tmp 2, .tmp 3] Tryd.func125 rfl (by decide) rfl rfl (Nat.le_of_ble_eq_true rfl) fun B => ?_
  refine Wp.seqR fun K1 hK1 => ?_
  simp only [go_sem, simprocAttr]
  first
    | refine hK1 _ _ ?_
    | refine ⟨by first | exact sd, hK1 _ _ ?_⟩
  refine Wp.seqW fun K2 hK2 hW2 => ?_
  obtain ⟨c_2, hm⟩ := chk_elim hm
  obtain ⟨c_3, hm⟩ := chk_elim hm
  refine Wp.seqR fun K3 hK3 => ?_
  simp only [go_sem, simprocAttr]
  first
    | refine hK3 _ _ ?_
    | refine ⟨by first | exact sd | ((repeat' apply And.intro) <;> first | assumption | omega | (simp only [List.length_append, List.length_map, List.length_cons, List.length_nil, List.length_set, List.length_replicate] at c_2 c_3 ⊢; omega)), hK3 _ _ ?_⟩
  refine Wp.cond rfl ⟨⟩ (fun hc4 => ?_) (fun hc4 => ?_)
  · have hm := brT hm (by first | exact hc4 | simpa using hc4)
    refine Wp.seqR fun K5 hK5 => ?_
    simp only [go_sem, simprocAttr]
    first
      | refine hK5 _ _ ?_
      | refine ⟨by first | exact sd, hK5 _ _ ?_⟩
    refine Wp.ret ?_
    simp only [thenQ, blockQ]
    refine retQ_ret ?_
    cases hm
    simp only [go_sem, simprocAttr]
    try simp [encB, encI_i64, encI_u8, encS, enc_api_File, enc_api_Machine, enc_api_Service, enc_api_Setting, enc_disk_line, List.map_set, List.map_replicate]
  · have hm := brF hm (by first | exact hc4 | simpa using hc4)
    refine Wp.skip ?_
    simp only [thenQ, blockQ, ↓reduceIte]
    refine hK2 _ _ ?_
    obtain ⟨c_4, hm⟩ := chk_elim hm
    refine Wp.seqR fun K6 hK6 => ?_
    simp only [go_sem, simprocAttr]
    first
      | refine hK6 _ _ ?_
      | refine ⟨by first | exact sd | ((repeat' apply And.intro) <;> first | assumption | omega | (simp only [List.length_append, List.length_map, List.length_cons, List.length_nil, List.length_set, List.length_replicate] at c_4 ⊢; omega)), hK6 _ _ ?_⟩
    obtain ⟨c_5, hm⟩ := chk_elim hm
    refine Wp.seqR fun K7 hK7 => ?_
    simp only [go_sem, simprocAttr]
    first
      | refine hK7 _ _ ?_
      | refine ⟨by first | exact sd | ((repeat' apply And.intro) <;> first | assumption | omega | (simp only [List.length_append, List.length_map, List.length_cons, List.length_nil, List.length_set, List.length_replicate] at c_5 ⊢; omega)), hK7 _ _ ?_⟩
    refine Wp.seqW fun K8 hK8 hW8 => ?_
    obtain ⟨k_27, hk_27, hm⟩ := jp_elim hm
    have hcut8 : ∀ s, k_27 s = some z → K8 [(4, .buf 0)] [.buf 5 1 (List.map encI_u8 s)] := by
      intro o0_26 hs
      have hm := hk_27 _ hs
      clear hs
      try dsimp only at hm
      try dsimp only
      refine hK8 _ _ ?_
      refine Wp.seqR fun K9 hK9 => ?_
      simp only [go_sem, simprocAttr]
      first
        | refine hK9 _ _ ?_
        | refine ⟨by first | exact sd, hK9 _ _ ?_⟩
      refine Wp.ret ?_
      refine retQ_ret ?_
      cases hm
      simp only [go_sem, simprocAttr]
      try simp [encB, encI_i64, encI_u8, encS, enc_api_File, enc_api_Machine, enc_api_Service, enc_api_Setting, enc_disk_line, List.map_set, List.map_replicate]
    clear hK8 hk_27
    refine Wp.seqR fun K10 hK10 => ?_
    simp only [go_sem, simprocAttr]
    first
      | refine hK10 _ _ ?_
      | refine ⟨by first | exact sd, hK10 _ _ ?_⟩
    refine Wp.block ?_
    obtain ⟨k_41, hk_41, hm⟩ := loopN_cont hm
    refine Wp.loopN (fun s => [(0, .p (.s (List.take ((IntKind.i64.wrap ((s_1.length : Int) - 1)).toNat - 1) (List.drop 1 s_1)))), (4, .buf 0), (5, .p (.i .i64 s.1))]) (fun s => [.buf 5 1 (List.map encI_u8 s.2)]) ?_ hm ?_
    ·
      simp only [go_sem, simprocAttr]
      try simp [encB, encI_i64, encI_u8, encS, enc_api_File, enc_api_Machine, enc_api_Service, enc_api_Setting, enc_disk_line, List.map_set, List.map_replicate]
    clear hm
    intro s nx_42 hm
    obtain ⟨i_34, o0_35⟩ := s
    try dsimp only at hm
    try dsimp only
    refine Wp.seqW fun K11 hK11 hW11 => ?_
    refine Wp.seqR fun K12 hK12 => ?_
    simp only [go_sem, simprocAttr]
    first
      | refine hK12 _ _ ?_
      | refine ⟨by first | exact sd, hK12 _ _ ?_⟩
    refine Wp.cond rfl ⟨⟩ (fun hc13 => ?_) (fun hc13 => ?_)
    · have hm := brT hm (by first | exact hc13 | simpa using hc13)
      refine Wp.skip ?_
      simp only [thenQ, blockQ, ↓reduceIte]
      refine hK11 _ _ ?_
      refine Wp.seqW fun K14 hK14 hW14 => ?_
      refine Wp.block ?_
      obtain ⟨c_43, hbc_43, hxc_43, hm⟩ := idxS_elim hm
      replace hxc_43 : (((List.take ((IntKind.i64.wrap ((s_1.length : Int) - 1)).toNat - 1) (List.drop 1 s_1)).getD i_34.toNat 0).toNat : Int) = c_43 := hxc_43
      refine Wp.seqR fun K15 hK15 => ?_
      simp only [go_sem, simprocAttr, hxc_43]
      first
        | refine hK15 _ _ ?_
        | refine ⟨by first | exact sd, hK15 _ _ ?_⟩
      refine Wp.seqW fun K16 hK16 hW16 => ?_
      refine Wp.seqR fun K17 hK17 => ?_
      simp only [go_sem, simprocAttr, hxc_43]
      first
        | refine hK17 _ _ ?_
        | refine ⟨by first | exact sd, hK17 _ _ ?_⟩
      refine Wp.cond rfl ⟨⟩ (fun hc18 => ?_) (fun hc18 => ?_)
      · have hm := brT hm (by first | exact hc18 | simpa using hc18)
        refine Wp.seqR fun K19 hK19 => ?_
        simp only [go_sem, simprocAttr, hxc_43]
        first
          | refine hK19 _ _ ?_
          | refine ⟨by first | exact sd, hK19 _ _ ?_⟩
        refine Wp.ret ?_
        simp only [thenQ, blockQ]
        refine retQ_ret ?_
        cases hm
        simp only [go_sem, simprocAttr, hxc_43]
        try simp [encB, encI_i64, encI_u8, encS, enc_api_File, enc_api_Machine, enc_api_Service, enc_api_Setting, enc_disk_line, List.map_set, List.map_replicate]
      · have hm := brF hm (by first | exact hc18 | simpa using hc18)
        refine Wp.skip ?_
        simp only [thenQ, blockQ, ↓reduceIte]
        refine hK16 _ _ ?_
        refine Wp.seqW fun K20 hK20 hW20 => ?_
        refine Wp.seqR fun K21 hK21 => ?_
        simp only [go_sem, simprocAttr, hxc_43]
        first
          | refine hK21 _ _ ?_
          | refine ⟨by first | exact sd, hK21 _ _ ?_⟩
        refine Wp.cond rfl ⟨⟩ (fun hc22 => ?_) (fun hc22 => ?_)
        · have hm := brT hm (by first | exact hc22 | simpa using hc22)
          obtain ⟨c_44, hm⟩ := chk_elim hm
          obtain ⟨r_45, hr_45, hm⟩ := call_elim hm
          refine Wp.seqR fun K23 hK23 => ?_
          simp only [go_sem, simprocAttr, hxc_43]
          try refine ⟨by first | exact sd | ((repeat' apply And.intro) <;> first | assumption | omega | (simp only [List.length_append, List.length_map, List.length_cons, List.length_nil, List.length_set, List.length_replicate] at c_44 ⊢; omega)), ?_⟩
          refine Rg.callX (av := ?av24) (g := true) (fun hg => ok_disk_escape (List.drop ((IntKind.i64.wrap (i_34 + 1)).toNat) (List.take ((IntKind.i64.wrap ((s_1.length : Int) - 1)).toNat - 1) (List.drop 1 s_1))) _ hr_45) ?ha24 ?hb24 ?hp24 ?hok24 ?hf24 ?cont24
          case ha24 =>
            simp only [go_sem, simprocAttr, hxc_43]
            exact Is.mk
          case hb24 =>
            simp only [go_sem, simprocAttr, hxc_43]
            exact Is.mk
          case hp24 =>
            simp only [go_sem, simprocAttr, hxc_43]
            exact Is.mk
          case hok24 =>
            simp only [go_sem, simprocAttr, hxc_43]
          case hf24 =>
            simp only [go_sem, simprocAttr, hxc_43]
            exact Is.mk
          intro hv24
          simp only [go_sem, simprocAttr, hxc_43]
          first
            | refine hK23 _ _ ?_
            | refine ⟨by first | exact sd | ((repeat' apply And.intro) <;> first | assumption | omega | (simp only [List.length_append, List.length_map, List.length_cons, List.length_nil, List.length_set, List.length_replicate] at c_44 ⊢; omega)), hK23 _ _ ?_⟩
          refine Wp.seqW fun K25 hK25 hW25 => ?_
          refine Wp.seqR fun K26 hK26 => ?_
          simp only [go_sem, simprocAttr, hxc_43]
          first
            | refine hK26 _ _ ?_
            | refine ⟨by first | exact sd, hK26 _ _ ?_⟩
          refine Wp.cond rfl ⟨⟩ (fun hc27 => ?_) (fun hc27 => ?_)
          · have hm := brT hm (by first | exact hc27 | simpa using hc27)
            refine Wp.seqR fun K28 hK28 => ?_
            simp only [go_sem, simprocAttr, hxc_43]
            first
              | refine hK28 _ _ ?_
              | refine ⟨by first | exact sd, hK28 _ _ ?_⟩
            refine Wp.ret ?_
            simp only [thenQ, blockQ]
            refine retQ_ret ?_
            cases hm
            simp only [go_sem, simprocAttr, hxc_43]
            try simp [encB, encI_i64, encI_u8, encS, enc_api_File, enc_api_Machine, enc_api_Service, enc_api_Setting, enc_disk_line, List.map_set, List.map_replicate]
          · have hm := brF hm (by first | exact hc27 | simpa using hc27)
            refine Wp.skip ?_
            simp only [thenQ, blockQ, ↓reduceIte]
            refine hK25 _ _ ?_
            refine Wp.region fun K29 hK29 => ?_
            simp only [go_sem, simprocAttr, hxc_43]
            first
              | refine hK29 _ _ ?_
              | refine ⟨by first | exact sd, hK29 _ _ ?_⟩
            simp only [thenQ, blockQ, ↓reduceIte]
            refine hK20 _ _ ?_
            obtain ⟨c_46, hm⟩ := chk_elim hm
            refine Wp.region fun K30 hK30 => ?_
            simp only [go_sem, simprocAttr, hxc_43]
            first
              | refine hK30 _ _ ?_
              | refine ⟨by first | exact sd | ((repeat' apply And.intro) <;> first | assumption | omega | (simp only [List.length_append, List.length_map, List.length_cons, List.length_nil, List.length_set, List.length_replicate] at c_46 ⊢; omega)), hK30 _ _ ?_⟩
            simp only [thenQ, blockQ, ↓reduceIte]
            refine hK14 _ _ ?_
            refine Wp.region fun K31 hK31 => ?_
            simp only [go_sem, simprocAttr, hxc_43]
            first
              | refine hK31 _ _ ?_
              | refine ⟨by first | exact sd, hK31 _ _ ?_⟩
            simp only [thenQ, blockQ, ↓reduceIte]
            refine ⟨(IntKind.i64.wrap ((IntKind.i64.wrap (i_34 + r_45.2)) + 1), o0_35 ++ [r_45.1]), hm, ?_⟩
            simp only [go_sem, simprocAttr, hxc_43]
            try simp [encB, encI_i64, encI_u8, encS, enc_api_File, enc_api_Machine, enc_api_Service, enc_api_Setting, enc_disk_line, List.map_set, List.map_replicate]
        · have hm := brF hm (by first | exact hc22 | simpa using hc22)
          refine Wp.skip ?_
          simp only [thenQ, blockQ, ↓reduceIte]
          refine hK20 _ _ ?_
          obtain ⟨c_47, hm⟩ := chk_elim hm
          refine Wp.region fun K32 hK32 => ?_
          simp only [go_sem, simprocAttr, hxc_43]
          first
            | refine hK32 _ _ ?_
            | refine ⟨by first | exact sd | ((repeat' apply And.intro) <;> first | assumption | omega | (simp only [List.length_append, List.length_map, List.length_cons, List.length_nil, List.length_set, List.length_replicate] at c_47 ⊢; omega)), hK32 _ _ ?_⟩
          simp only [thenQ, blockQ, ↓reduceIte]
          refine hK14 _ _ ?_
          refine Wp.region fun K33 hK33 => ?_
          simp only [go_sem, simprocAttr, hxc_43]
          first
            | refine hK33 _ _ ?_
            | refine ⟨by first | exact sd, hK33 _ _ ?_⟩
          simp only [thenQ, blockQ, ↓reduceIte]
          refine ⟨(IntKind.i64.wrap (i_34 + 1), o0_35 ++ [c_43]), hm, ?_⟩
          simp only [go_sem, simprocAttr, hxc_43]
          try simp [encB, encI_i64, encI_u8, encS, enc_api_File, enc_api_Machine, enc_api_Service, enc_api_Setting, enc_disk_line, List.map_set, List.map_replicate]
    · have hm := brF hm (by first | exact hc13 | simpa using hc13)
      refine Wp.exit ?_
      simp only [thenQ, blockQ, ↓reduceIte]
      have hm := hk_41 _ hm
      try dsimp only at hm
      refine hW8 _ _ _ _ ?_ (hcut8 o0_35 hm)
      simp only [go_sem, simprocAttr]
      try simp [encB, encI_i64, encI_u8, encS, enc_api_File, enc_api_Machine, enc_api_Service, enc_api_Setting, enc_disk_line, List.map_set, List.map_replicate]
set_option maxRecDepth 100000 in
set_option maxHeartbeats 4000000 in
theorem ok_disk_isBit (s_1 : Str) (z : Bool) (hm : disk_isBit s_1 = some z) : Does Tryd.prog 126 [.p (.s s_1)] [] (fun r X => r = .p (.b z) ∧ X = []) := by
  unfold disk_isBit at hm
  refine Does.of_wp 0 9 [.tmp 2] Tryd.func126 rfl (by decide) rfl rfl (Nat.le_of_ble_eq_true rfl) fun B => ?_
  refine Wp.seqR fun K1 hK1 => ?_
  simp only [go_sem, simprocAttr]
  first
    | refine hK1 _ _ ?_
    | refine ⟨by first | exact sd, hK1 _ _ ?_⟩
  refine Wp.seqR fun K2 hK2 => ?_
  simp only [go_sem, simprocAttr]
  first
    | refine hK2 _ _ ?_
    | refine ⟨by first | exact sd, hK2 _ _ ?_⟩
  refine Wp.ret ?_
  refine retQ_ret ?_
  cases hm
  simp only [go_sem, simprocAttr]
  try simp [encB, encI_i64, encI_u8, encS, enc_api_File, enc_api_Machine, enc_api_Service, enc_api_Setting, enc_disk_line, List.map_set, List.map_replicate]
set_option maxRecDepth 100000 in
set_option maxHeartbeats 4000000 in
theorem ok_disk_readLine (s_1 : Str) (z : disk_line × Bool) (hm : disk_readLine s_1 = some z) : Does Tryd.prog 104 [.p (.s s_1)] [] (fun r X => r = .tup [.agg [.p (.s z.1.word), .p (.s z.1.file.Path), .p (.s z.1.file.Data), .p (.b z.1.file.Runs), .p (.s z.1.setting.Key), .p (.s z.1.setting.Value), .p (.s z.1.service.Name), .p (.s z.1.service.Path), .p (.b z.1.service.Auto), .p (.b z.1.service.On)], .p (.b z.2)] ∧ X = []) := by
  unfold disk_readLine at hm
  refine Does.of_wp 0 147 [.cell 2 92, .tmp 3] Tryd.func104 rfl (by decide) rfl rfl (Nat.le_of_ble_eq_true rfl) fun B => ?_
  refine Wp.seqR fun K1 hK1 => ?_
  simp only [go_sem, simprocAttr]
  first
    | refine hK1 _ _ ?_
    | refine ⟨by first | exact sd, hK1 _ _ ?_⟩
  obtain ⟨r_2, hr_2, hm⟩ := call_elim hm
  refine Wp.seqR fun K2 hK2 => ?_
  simp only [go_sem, simprocAttr]
  try refine ⟨by first | exact sd, ?_⟩
  refine Rg.callX (av := ?av3) (g := true) (fun hg => ok_strings_Cut s_1 ([32] : Str) _ hr_2) ?ha3 ?hb3 ?hp3 ?hok3 ?hf3 ?cont3
  case ha3 =>
    simp only [go_sem, simprocAttr]
    exact Is.mk
  case hb3 =>
    simp only [go_sem, simprocAttr]
    exact Is.mk
  case hp3 =>
    simp only [go_sem, simprocAttr]
    exact Is.mk
  case hok3 =>
    simp only [go_sem, simprocAttr]
  case hf3 =>
    simp only [go_sem, simprocAttr]
    exact Is.mk
  intro hv3
  simp only [go_sem, simprocAttr]
  first
    | refine hK2 _ _ ?_
    | refine ⟨by first | exact sd, hK2 _ _ ?_⟩
  obtain ⟨r_3, hr_3, hm⟩ := call_elim hm
  refine Wp.seqR fun K4 hK4 => ?_
  simp only [go_sem, simprocAttr]
  try refine ⟨by first | exact sd, ?_⟩
  refine Rg.callX (av := ?av5) (g := true) (fun hg => ok_strings_Cut r_2.2.1 ([32] : Str) _ hr_3) ?ha5 ?hb5 ?hp5 ?hok5 ?hf5 ?cont5
  case ha5 =>
    simp only [go_sem, simprocAttr]
    exact Is.mk
  case hb5 =>
    simp only [go_sem, simprocAttr]
    exact Is.mk
  case hp5 =>
    simp only [go_sem, simprocAttr]
    exact Is.mk
  case hok5 =>
    simp only [go_sem, simprocAttr]
  case hf5 =>
    simp only [go_sem, simprocAttr]
    exact Is.mk
  intro hv5
  simp only [go_sem, simprocAttr]
  first
    | refine hK4 _ _ ?_
    | refine ⟨by first | exact sd, hK4 _ _ ?_⟩
  refine Wp.seqW fun K6 hK6 hW6 => ?_
  refine Wp.seqR fun K7 hK7 => ?_
  simp only [go_sem, simprocAttr]
  first
    | refine hK7 _ _ ?_
    | refine ⟨by first | exact sd, hK7 _ _ ?_⟩
  refine Wp.cond rfl ⟨⟩ (fun hc8 => ?_) (fun hc8 => ?_)
  · have hm := brT hm (by first | exact hc8 | simpa using hc8)
    refine Wp.seqR fun K9 hK9 => ?_
    simp only [go_sem, simprocAttr]
    first
      | refine hK9 _ _ ?_
      | refine ⟨by first | exact sd, hK9 _ _ ?_⟩
    refine Wp.ret ?_
    simp only [thenQ, blockQ]
    refine retQ_ret ?_
    cases hm
    simp only [go_sem, simprocAttr]
    try simp [encB, encI_i64, encI_u8, encS, enc_api_File, enc_api_Machine, enc_api_Service, enc_api_Setting, enc_disk_line, List.map_set, List.map_replicate]
  · have hm := brF hm (by first | exact hc8 | simpa using hc8)
    refine Wp.skip ?_
    simp only [thenQ, blockQ, ↓reduceIte]
    refine hK6 _ _ ?_
    refine Wp.seqR fun K10 hK10 => ?_
    simp only [go_sem, simprocAttr]
    first
      | refine hK10 _ _ ?_
      | refine ⟨by first | exact sd, hK10 _ _ ?_⟩
    refine Wp.seqW fun K11 hK11 hW11 => ?_
    refine Wp.seqR fun K12 hK12 => ?_
    simp only [go_sem, simprocAttr]
    first
      | refine hK12 _ _ ?_
      | refine ⟨by first | exact sd, hK12 _ _ ?_⟩
    refine Wp.block ?_
    refine Wp.seqW fun K13 hK13 hW13 => ?_
    obtain ⟨k_5, hk_5, hm⟩ := jp_elim hm
    have hcut13 : ∀ s, k_5 s = some z → K13 [(2, .ptr 0 0), (4, .p (.s r_2.1)), (7, .p (.s r_3.1)), (8, .p (.s r_3.2.1)), (9, .p (.b r_3.2.2)), (10, .ptr 1 0), (37, .p (.s r_2.1)), (38, .p (.b s))] [.cells 92 [.p (.s []), .p (.s []), .p (.s []), .p (.b false), .p (.s []), .p (.s []), .p (.s []), .p (.s []), .p (.b false), .p (.b false)], .cells 92 [.p (.s r_2.1), .p (.s []), .p (.s []), .p (.b false), .p (.s []), .p (.s []), .p (.s []), .p (.s []), .p (.b false), .p (.b false)]] := by
      intro t38_4 hs
      have hm := hk_5 _ hs
      clear hs
      try dsimp only at hm
      try dsimp only
      refine hK13 _ _ ?_
      refine Wp.cond rfl ⟨⟩ (fun hc14 => ?_) (fun hc14 => ?_)
      · have hm := brT hm (by first | exact hc14 | simpa using hc14)
        obtain ⟨r_6, hr_6, hm⟩ := call_elim hm
        refine Wp.seqR fun K15 hK15 => ?_
        simp only [go_sem, simprocAttr]
        try refine ⟨by first | exact sd, ?_⟩
        refine Rg.callX (av := ?av16) (g := true) (fun hg => ok_disk_Unquote r_3.2.1 _ hr_6) ?ha16 ?hb16 ?hp16 ?hok16 ?hf16 ?cont16
        case ha16 =>
          simp only [go_sem, simprocAttr]
          exact Is.mk
        case hb16 =>
          simp only [go_sem, simprocAttr]
          exact Is.mk
        case hp16 =>
          simp only [go_sem, simprocAttr]
          exact Is.mk
        case hok16 =>
          simp only [go_sem, simprocAttr]
        case hf16 =>
          simp only [go_sem, simprocAttr]
          exact Is.mk
        intro hv16
        simp only [go_sem, simprocAttr]
        first
          | refine hK15 _ _ ?_
          | refine ⟨by first | exact sd, hK15 _ _ ?_⟩
        refine Wp.seqR fun K17 hK17 => ?_
        simp only [go_sem, simprocAttr]
        first
          | refine hK17 _ _ ?_
          | refine ⟨by first | exact sd, hK17 _ _ ?_⟩
        refine Wp.seqR fun K18 hK18 => ?_
        simp only [go_sem, simprocAttr]
        first
          | refine hK18 _ _ ?_
          | refine ⟨by first | exact sd, hK18 _ _ ?_⟩
        refine Wp.ret ?_
        simp only [thenQ, blockQ]
        refine retQ_ret ?_
        cases hm
        simp only [go_sem, simprocAttr]
        try simp [encB, encI_i64, encI_u8, encS, enc_api_File, enc_api_Machine, enc_api_Service, enc_api_Setting, enc_disk_line, List.map_set, List.map_replicate]
      · have hm := brF hm (by first | exact hc14 | simpa using hc14)
        refine Wp.seqW fun K19 hK19 hW19 => ?_
        obtain ⟨k_8, hk_8, hm⟩ := jp_elim hm
        have hcut19 : ∀ s, k_8 s = some z → K19 [(2, .ptr 0 0), (4, .p (.s r_2.1)), (7, .p (.s r_3.1)), (8, .p (.s r_3.2.1)), (9, .p (.b r_3.2.2)), (10, .ptr 1 0), (37, .p (.s r_2.1)), (56, .p (.b s))] [.cells 92 [.p (.s []), .p (.s []), .p (.s []), .p (.b false), .p (.s []), .p (.s []), .p (.s []), .p (.s []), .p (.b false), .p (.b false)], .cells 92 [.p (.s r_2.1), .p (.s []), .p (.s []), .p (.b false), .p (.s []), .p (.s []), .p (.s []), .p (.s []), .p (.b false), .p (.b false)]] := by
          intro t56_7 hs
          have hm := hk_8 _ hs
          clear hs
          try dsimp only at hm
          try dsimp only
          refine hK19 _ _ ?_
          refine Wp.cond rfl ⟨⟩ (fun hc20 => ?_) (fun hc20 => ?_)
          · have hm := brT hm (by first | exact hc20 | simpa using hc20)
            obtain ⟨r_9, hr_9, hm⟩ := call_elim hm
            refine Wp.seqR fun K21 hK21 => ?_
            simp only [go_sem, simprocAttr]
            try refine ⟨by first | exact sd, ?_⟩
            refine Rg.callX (av := ?av22) (g := true) (fun hg => ok_disk_Unquote r_3.2.1 _ hr_9) ?ha22 ?hb22 ?hp22 ?hok22 ?hf22 ?cont22
            case ha22 =>
              simp only [go_sem, simprocAttr]
              exact Is.mk
            case hb22 =>
              simp only [go_sem, simprocAttr]
              exact Is.mk
            case hp22 =>
              simp only [go_sem, simprocAttr]
              exact Is.mk
            case hok22 =>
              simp only [go_sem, simprocAttr]
            case hf22 =>
              simp only [go_sem, simprocAttr]
              exact Is.mk
            intro hv22
            simp only [go_sem, simprocAttr]
            first
              | refine hK21 _ _ ?_
              | refine ⟨by first | exact sd, hK21 _ _ ?_⟩
            refine Wp.seqR fun K23 hK23 => ?_
            simp only [go_sem, simprocAttr]
            first
              | refine hK23 _ _ ?_
              | refine ⟨by first | exact sd, hK23 _ _ ?_⟩
            refine Wp.seqR fun K24 hK24 => ?_
            simp only [go_sem, simprocAttr]
            first
              | refine hK24 _ _ ?_
              | refine ⟨by first | exact sd, hK24 _ _ ?_⟩
            refine Wp.ret ?_
            simp only [thenQ, blockQ]
            refine retQ_ret ?_
            cases hm
            simp only [go_sem, simprocAttr]
            try simp [encB, encI_i64, encI_u8, encS, enc_api_File, enc_api_Machine, enc_api_Service, enc_api_Setting, enc_disk_line, List.map_set, List.map_replicate]
          · have hm := brF hm (by first | exact hc20 | simpa using hc20)
            refine Wp.seqR fun K25 hK25 => ?_
            simp only [go_sem, simprocAttr]
            first
              | refine hK25 _ _ ?_
              | refine ⟨by first | exact sd, hK25 _ _ ?_⟩
            refine Wp.cond rfl ⟨⟩ (fun hc26 => ?_) (fun hc26 => ?_)
            · have hm := brT hm (by first | exact hc26 | simpa using hc26)
              obtain ⟨r_10, hr_10, hm⟩ := call_elim hm
              refine Wp.seqR fun K27 hK27 => ?_
              simp only [go_sem, simprocAttr]
              try refine ⟨by first | exact sd, ?_⟩
              refine Rg.callF (av := ?av28) (ok_strings_Split r_3.2.1 ([32] : Str) _ hr_10) ?ha28 ?hp28 ?hok28 ?cont28
              case ha28 =>
                simp only [go_sem, simprocAttr]
                exact Is.mk
              case hp28 =>
                simp only [go_sem, simprocAttr]
                exact Is.mk
              case hok28 =>
                simp only [go_sem, simprocAttr]
              intro hv28
              simp only [go_sem, simprocAttr]
              first
                | refine hK27 _ _ ?_
                | refine ⟨by first | exact sd, hK27 _ _ ?_⟩
              refine Wp.seqW fun K29 hK29 hW29 => ?_
              obtain ⟨c_11, hm⟩ := chk_elim hm
              obtain ⟨c_12, hm⟩ := chk_elim hm
              obtain ⟨r_13, hr_13, hm⟩ := callG_elim hm
              obtain ⟨c_14, hm⟩ := chk_elim hm
              obtain ⟨r_15, hr_15, hm⟩ := callG_elim hm
              have hr_16 := getD_enc (l := r_10) (e := encS) (d := []) (i := 0)
              simp only [encS, List.map_nil] at hr_16
              have hr_17 := getD_enc (l := r_10) (e := encS) (d := []) (i := 1)
              simp only [encS, List.map_nil] at hr_17
              have hr_18 := getD_enc (l := r_10) (e := encS) (d := []) (i := 2)
              simp only [encS, List.map_nil] at hr_18
              refine Wp.seqR fun K30 hK30 => ?_
              simp only [go_sem, simprocAttr, hr_16, hr_17, hr_18]
              try refine ⟨by first | exact sd | ((repeat' apply And.intro) <;> first | assumption | omega | (simp only [List.length_append, List.length_map, List.length_cons, List.length_nil, List.length_set, List.length_replicate] at c_11 c_12 c_14 ⊢; omega)), ?_⟩
              refine Rg.callX (av := ?av31) (g := !(((!r_3.2.2) || (!decide ((r_10.length : Int) = 3))) || (decide ((r_10.getD 0 []) = [])))) (fun hg => ok_disk_isBit (r_10.getD 1 []) _ (hr_13 hg)) ?ha31 ?hb31 ?hp31 ?hok31 ?hf31 ?cont31
              case ha31 =>
                simp only [go_sem, simprocAttr, hr_16, hr_17, hr_18]
                exact Is.mk
              case hb31 =>
                simp only [go_sem, simprocAttr, hr_16, hr_17, hr_18]
                exact Is.mk
              case hp31 =>
                simp only [go_sem, simprocAttr, hr_16, hr_17, hr_18]
                exact Is.mk
              case hok31 =>
                simp only [go_sem, simprocAttr, hr_16, hr_17, hr_18]
              case hf31 =>
                simp only [go_sem, simprocAttr, hr_16, hr_17, hr_18]
                exact Is.mk
              intro hv31
              simp only [go_sem, simprocAttr, hr_16, hr_17, hr_18]
              try refine ⟨by first | exact sd | ((repeat' apply And.intro) <;> first | assumption | omega | (simp only [List.length_append, List.length_map, List.length_cons, List.length_nil, List.length_set, List.length_replicate] at c_11 c_12 c_14 ⊢; omega)), ?_⟩
              refine Rg.callX (av := ?av32) (g := !((((!r_3.2.2) || (!decide ((r_10.length : Int) = 3))) || (decide ((r_10.getD 0 []) = []))) || (!r_13))) (fun hg => ok_disk_isBit (r_10.getD 2 []) _ (hr_15 hg)) ?ha32 ?hb32 ?hp32 ?hok32 ?hf32 ?cont32
              case ha32 =>
                simp only [go_sem, simprocAttr, hr_16, hr_17, hr_18]
                exact Is.mk
              case hb32 =>
                simp only [go_sem, simprocAttr, hr_16, hr_17, hr_18]
                exact Is.mk
              case hp32 =>
                simp only [go_sem, simprocAttr, hr_16, hr_17, hr_18]
                exact Is.mk
              case hok32 =>
                simp only [go_sem, simprocAttr, hr_16, hr_17, hr_18]
              case hf32 =>
                simp only [go_sem, simprocAttr, hr_16, hr_17, hr_18]
                exact Is.mk
              intro hv32
              simp only [go_sem, simprocAttr, hr_16, hr_17, hr_18]
              first
                | refine hK30 _ _ ?_
                | refine ⟨by first | exact sd | ((repeat' apply And.intro) <;> first | assumption | omega | (simp only [List.length_append, List.length_map, List.length_cons, List.length_nil, List.length_set, List.length_replicate] at c_11 c_12 c_14 ⊢; omega)), hK30 _ _ ?_⟩
              refine Wp.cond rfl ⟨⟩ (fun hc33 => ?_) (fun hc33 => ?_)
              · have hm := brT hm (by first | exact hc33 | simpa using hc33)
                refine Wp.seqR fun K34 hK34 => ?_
                simp only [go_sem, simprocAttr]
                first
                  | refine hK34 _ _ ?_
                  | refine ⟨by first | exact sd, hK34 _ _ ?_⟩
                refine Wp.ret ?_
                simp only [thenQ, blockQ]
                refine retQ_ret ?_
                cases hm
                simp only [go_sem, simprocAttr]
                try simp [encB, encI_i64, encI_u8, encS, enc_api_File, enc_api_Machine, enc_api_Service, enc_api_Setting, enc_disk_line, List.map_set, List.map_replicate]
              · have hm := brF hm (by first | exact hc33 | simpa using hc33)
                refine Wp.skip ?_
                simp only [thenQ, blockQ, ↓reduceIte]
                refine hK29 _ _ ?_
                obtain ⟨s_19, hbs_19, hxs_19, hys_19, hm⟩ := idx_elim hm
                replace hxs_19 : ∀ d, (List.map encS r_10).getD 0 d = encS s_19 := hxs_19 encS
                obtain ⟨s_20, hbs_20, hxs_20, hys_20, hm⟩ := idx_elim hm
                replace hxs_20 : ∀ d, (List.map encS r_10).getD 1 d = encS s_20 := hxs_20 encS
                obtain ⟨s_21, hbs_21, hxs_21, hys_21, hm⟩ := idx_elim hm
                replace hxs_21 : ∀ d, (List.map encS r_10).getD 2 d = encS s_21 := hxs_21 encS
                refine Wp.seqD (plan := [(0, none), (1, none), (2, none), (3, none), (4, none), (5, none), (6, none), (7, none), (8, none), (9, none), (10, none), (11, none), (12, none), (13, none), (14, some [])]) (by kernel_rfl) rfl (by kernel_rfl) fun K35 hK35 => ?_
                simp only [go_sem, simprocAttr, hxs_19, hxs_20, hxs_21]
                first
                  | refine hK35 _ _ ?_
                  | refine ⟨by first | exact sd, hK35 _ _ ?_⟩
                refine Wp.seqR fun K36 hK36 => ?_
                simp only [go_sem, simprocAttr, hxs_19, hxs_20, hxs_21]
                first
                  | refine hK36 _ _ ?_
                  | refine ⟨by first | exact sd, hK36 _ _ ?_⟩
                refine Wp.ret ?_
                simp only [thenQ, blockQ]
                refine retQ_ret ?_
                cases hm
                simp only [go_sem, simprocAttr, hxs_19, hxs_20, hxs_21]
                try simp [encB, encI_i64, encI_u8, encS, enc_api_File, enc_api_Machine, enc_api_Service, enc_api_Setting, enc_disk_line, List.map_set, List.map_replicate]
            · have hm := brF hm (by first | exact hc26 | simpa using hc26)
              refine Wp.seqR fun K37 hK37 => ?_
              simp only [go_sem, simprocAttr]
              first
                | refine hK37 _ _ ?_
                | refine ⟨by first | exact sd, hK37 _ _ ?_⟩
              refine Wp.cond rfl ⟨⟩ (fun hc38 => ?_) (fun hc38 => ?_)
              · have hm := brT hm (by first | exact hc38 | simpa using hc38)
                refine Wp.region fun K39 hK39 => ?_
                simp only [go_sem, simprocAttr]
                first
                  | refine hK39 _ _ ?_
                  | refine ⟨by first | exact sd, hK39 _ _ ?_⟩
                simp only [thenQ, blockQ, ↓reduceIte]
                refine hK11 _ _ ?_
                refine Wp.seqR fun K40 hK40 => ?_
                simp only [go_sem, simprocAttr]
                first
                  | refine hK40 _ _ ?_
                  | refine ⟨by first | exact sd, hK40 _ _ ?_⟩
                refine Wp.ret ?_
                refine retQ_ret ?_
                cases hm
                simp only [go_sem, simprocAttr]
                try simp [encB, encI_i64, encI_u8, encS, enc_api_File, enc_api_Machine, enc_api_Service, enc_api_Setting, enc_disk_line, List.map_set, List.map_replicate]
              · have hm := brF hm (by first | exact hc38 | simpa using hc38)
                refine Wp.seqR fun K41 hK41 => ?_
                simp only [go_sem, simprocAttr]
                first
                  | refine hK41 _ _ ?_
                  | refine ⟨by first | exact sd, hK41 _ _ ?_⟩
                refine Wp.cond rfl ⟨⟩ (fun hc42 => ?_) (fun hc42 => ?_)
                · have hm := brT hm (by first | exact hc42 | simpa using hc42)
                  refine Wp.region fun K43 hK43 => ?_
                  simp only [go_sem, simprocAttr]
                  first
                    | refine hK43 _ _ ?_
                    | refine ⟨by first | exact sd, hK43 _ _ ?_⟩
                  simp only [thenQ, blockQ, ↓reduceIte]
                  refine hK11 _ _ ?_
                  refine Wp.seqR fun K44 hK44 => ?_
                  simp only [go_sem, simprocAttr]
                  first
                    | refine hK44 _ _ ?_
                    | refine ⟨by first | exact sd, hK44 _ _ ?_⟩
                  refine Wp.ret ?_
                  refine retQ_ret ?_
                  cases hm
                  simp only [go_sem, simprocAttr]
                  try simp [encB, encI_i64, encI_u8, encS, enc_api_File, enc_api_Machine, enc_api_Service, enc_api_Setting, enc_disk_line, List.map_set, List.map_replicate]
                · have hm := brF hm (by first | exact hc42 | simpa using hc42)
                  refine Wp.seqR fun K45 hK45 => ?_
                  simp only [go_sem, simprocAttr]
                  first
                    | refine hK45 _ _ ?_
                    | refine ⟨by first | exact sd, hK45 _ _ ?_⟩
                  refine Wp.cond rfl ⟨⟩ (fun hc46 => ?_) (fun hc46 => ?_)
                  · have hm := brT hm (by first | exact hc46 | simpa using hc46)
                    refine Wp.region fun K47 hK47 => ?_
                    simp only [go_sem, simprocAttr]
                    first
                      | refine hK47 _ _ ?_
                      | refine ⟨by first | exact sd, hK47 _ _ ?_⟩
                    simp only [thenQ, blockQ, ↓reduceIte]
                    refine hK11 _ _ ?_
                    refine Wp.seqR fun K48 hK48 => ?_
                    simp only [go_sem, simprocAttr]
                    first
                      | refine hK48 _ _ ?_
                      | refine ⟨by first | exact sd, hK48 _ _ ?_⟩
                    refine Wp.ret ?_
                    refine retQ_ret ?_
                    cases hm
                    simp only [go_sem, simprocAttr]
                    try simp [encB, encI_i64, encI_u8, encS, enc_api_File, enc_api_Machine, enc_api_Service, enc_api_Setting, enc_disk_line, List.map_set, List.map_replicate]
                  · have hm := brF hm (by first | exact hc46 | simpa using hc46)
                    refine Wp.skip ?_
                    simp only [thenQ, blockQ, ↓reduceIte]
                    refine hK11 _ _ ?_
                    refine Wp.seqR fun K49 hK49 => ?_
                    simp only [go_sem, simprocAttr]
                    first
                      | refine hK49 _ _ ?_
                      | refine ⟨by first | exact sd, hK49 _ _ ?_⟩
                    refine Wp.ret ?_
                    refine retQ_ret ?_
                    cases hm
                    simp only [go_sem, simprocAttr]
                    try simp [encB, encI_i64, encI_u8, encS, enc_api_File, enc_api_Machine, enc_api_Service, enc_api_Setting, enc_disk_line, List.map_set, List.map_replicate]
        clear hK19 hk_8
        refine Wp.seqR fun K50 hK50 => ?_
        simp only [go_sem, simprocAttr]
        first
          | refine hK50 _ _ ?_
          | refine ⟨by first | exact sd, hK50 _ _ ?_⟩
        refine Wp.cond rfl ⟨⟩ (fun hc51 => ?_) (fun hc51 => ?_)
        · have hm := brT hm (by first | exact hc51 | simpa using hc51)
          refine Wp.skip ?_
          simp only [thenQ, blockQ, ↓reduceIte]
          refine hW19 _ _ _ _ ?_ (hcut19 (decide (r_2.1 = ([102, 105, 108, 101] : Str))) hm)
          simp only [go_sem, simprocAttr]
          try simp [encB, encI_i64, encI_u8, encS, enc_api_File, enc_api_Machine, enc_api_Service, enc_api_Setting, enc_disk_line, List.map_set, List.map_replicate]
        · have hm := brF hm (by first | exact hc51 | simpa using hc51)
          refine Wp.seqR fun K52 hK52 => ?_
          simp only [go_sem, simprocAttr]
          first
            | refine hK52 _ _ ?_
            | refine ⟨by first | exact sd, hK52 _ _ ?_⟩
          refine Wp.cond rfl ⟨⟩ (fun hc53 => ?_) (fun hc53 => ?_)
          · have hm := brT hm (by first | exact hc53 | simpa using hc53)
            refine Wp.skip ?_
            simp only [thenQ, blockQ, ↓reduceIte]
            refine hW19 _ _ _ _ ?_ (hcut19 (decide (r_2.1 = ([114, 117, 110] : Str))) hm)
            simp only [go_sem, simprocAttr]
            try simp [encB, encI_i64, encI_u8, encS, enc_api_File, enc_api_Machine, enc_api_Service, enc_api_Setting, enc_disk_line, List.map_set, List.map_replicate]
          · have hm := brF hm (by first | exact hc53 | simpa using hc53)
            refine Wp.seqR fun K54 hK54 => ?_
            simp only [go_sem, simprocAttr]
            first
              | refine hK54 _ _ ?_
              | refine ⟨by first | exact sd, hK54 _ _ ?_⟩
            refine Wp.cond rfl ⟨⟩ (fun hc55 => ?_) (fun hc55 => ?_)
            · have hm := brT hm (by first | exact hc55 | simpa using hc55)
              refine Wp.skip ?_
              simp only [thenQ, blockQ, ↓reduceIte]
              refine hW19 _ _ _ _ ?_ (hcut19 (decide (r_2.1 = ([112, 117, 116] : Str))) hm)
              simp only [go_sem, simprocAttr]
              try simp [encB, encI_i64, encI_u8, encS, enc_api_File, enc_api_Machine, enc_api_Service, enc_api_Setting, enc_disk_line, List.map_set, List.map_replicate]
            · have hm := brF hm (by first | exact hc55 | simpa using hc55)
              refine Wp.region fun K56 hK56 => ?_
              simp only [go_sem, simprocAttr]
              first
                | refine hK56 _ _ ?_
                | refine ⟨by first | exact sd, hK56 _ _ ?_⟩
              simp only [thenQ, blockQ, ↓reduceIte]
              refine hW19 _ _ _ _ ?_ (hcut19 (decide (r_2.1 = ([112, 117, 116, 114, 117, 110] : Str))) hm)
              simp only [go_sem, simprocAttr]
              try simp [encB, encI_i64, encI_u8, encS, enc_api_File, enc_api_Machine, enc_api_Service, enc_api_Setting, enc_disk_line, List.map_set, List.map_replicate]
    clear hK13 hk_5
    refine Wp.seqR fun K57 hK57 => ?_
    simp only [go_sem, simprocAttr]
    first
      | refine hK57 _ _ ?_
      | refine ⟨by first | exact sd, hK57 _ _ ?_⟩
    refine Wp.cond rfl ⟨⟩ (fun hc58 => ?_) (fun hc58 => ?_)
    · have hm := brT hm (by first | exact hc58 | simpa using hc58)
      refine Wp.skip ?_
      simp only [thenQ, blockQ, ↓reduceIte]
      refine hW13 _ _ _ _ ?_ (hcut13 (decide (r_2.1 = ([102, 97, 99, 116] : Str))) hm)
      simp only [go_sem, simprocAttr]
      try simp [encB, encI_i64, encI_u8, encS, enc_api_File, enc_api_Machine, enc_api_Service, enc_api_Setting, enc_disk_line, List.map_set, List.map_replicate]
    · have hm := brF hm (by first | exact hc58 | simpa using hc58)
      refine Wp.region fun K59 hK59 => ?_
      simp only [go_sem, simprocAttr]
      first
        | refine hK59 _ _ ?_
        | refine ⟨by first | exact sd, hK59 _ _ ?_⟩
      simp only [thenQ, blockQ, ↓reduceIte]
      refine hW13 _ _ _ _ ?_ (hcut13 (decide (r_2.1 = ([115, 101, 116] : Str))) hm)
      simp only [go_sem, simprocAttr]
      try simp [encB, encI_i64, encI_u8, encS, enc_api_File, enc_api_Machine, enc_api_Service, enc_api_Setting, enc_disk_line, List.map_set, List.map_replicate]
set_option maxRecDepth 100000 in
set_option maxHeartbeats 4000000 in
theorem ok_R_cutLines (text_1 : Str) (z : List Str × Int) (hm : R_cutLines text_1 = some z) : Does Tryd.prog 61 [.p (.s text_1)] [] (fun r X => r = .tup [.p (.l (List.map encS z.1)), .p (.i .i64 z.2)] ∧ X = []) := by
  unfold R_cutLines at hm
  refine Does.of_wp 0 23 [.tmp 2, .tmp 3] Tryd.func61 rfl (by decide) rfl rfl (Nat.le_of_ble_eq_true rfl) fun B => ?_
  refine Wp.seqR fun K1 hK1 => ?_
  simp only [go_sem, simprocAttr]
  first
    | refine hK1 _ _ ?_
    | refine ⟨by first | exact sd, hK1 _ _ ?_⟩
  obtain ⟨r_2, hr_2, hm⟩ := call_elim hm
  refine Wp.seqR fun K2 hK2 => ?_
  simp only [go_sem, simprocAttr]
  try refine ⟨by first | exact sd, ?_⟩
  refine Rg.callF (av := ?av3) (ok_strings_Split text_1 ([10] : Str) _ hr_2) ?ha3 ?hp3 ?hok3 ?cont3
  case ha3 =>
    simp only [go_sem, simprocAttr]
    exact Is.mk
  case hp3 =>
    simp only [go_sem, simprocAttr]
    exact Is.mk
  case hok3 =>
    simp only [go_sem, simprocAttr]
  intro hv3
  simp only [go_sem, simprocAttr]
  first
    | refine hK2 _ _ ?_
    | refine ⟨by first | exact sd, hK2 _ _ ?_⟩
  refine Wp.seqW fun K4 hK4 hW4 => ?_
  refine Wp.seqR fun K5 hK5 => ?_
  simp only [go_sem, simprocAttr]
  first
    | refine hK5 _ _ ?_
    | refine ⟨by first | exact sd, hK5 _ _ ?_⟩
  obtain ⟨s_3, hbs_3, hxs_3, hys_3, hm⟩ := idx_elim hm
  replace hxs_3 : ∀ d, (List.map encS r_2).getD ((IntKind.i64.wrap ((r_2.length : Int) - 1)).toNat) d = encS s_3 := hxs_3 encS
  refine Wp.seqR fun K6 hK6 => ?_
  simp only [go_sem, simprocAttr, hxs_3]
  first
    | refine hK6 _ _ ?_
    | refine ⟨by first | exact sd, hK6 _ _ ?_⟩
  refine Wp.cond rfl ⟨⟩ (fun hc7 => ?_) (fun hc7 => ?_)
  · have hm := brT hm (by first | exact hc7 | simpa using hc7)
    obtain ⟨c_4, hm⟩ := chk_elim hm
    refine Wp.seqR fun K8 hK8 => ?_
    simp only [go_sem, simprocAttr, hxs_3]
    first
      | refine hK8 _ _ ?_
      | refine ⟨by first | exact sd | ((repeat' apply And.intro) <;> first | assumption | omega | (simp only [List.length_append, List.length_map, List.length_cons, List.length_nil, List.length_set, List.length_replicate] at c_4 ⊢; omega)), hK8 _ _ ?_⟩
    refine Wp.ret ?_
    simp only [thenQ, blockQ]
    refine retQ_ret ?_
    cases hm
    simp only [go_sem, simprocAttr, hxs_3]
    try simp [encB, encI_i64, encI_u8, encS, enc_api_File, enc_api_Machine, enc_api_Service, enc_api_Setting, enc_disk_line, List.map_set, List.map_replicate]
  · have hm := brF hm (by first | exact hc7 | simpa using hc7)
    refine Wp.skip ?_
    simp only [thenQ, blockQ, ↓reduceIte]
    refine hK4 _ _ ?_
    refine Wp.seqR fun K9 hK9 => ?_
    simp only [go_sem, simprocAttr, hxs_3]
    first
      | refine hK9 _ _ ?_
      | refine ⟨by first | exact sd, hK9 _ _ ?_⟩
    refine Wp.ret ?_
    refine retQ_ret ?_
    cases hm
    simp only [go_sem, simprocAttr, hxs_3]
    try simp [encB, encI_i64, encI_u8, encS, enc_api_File, enc_api_Machine, enc_api_Service, enc_api_Setting, enc_disk_line, List.map_set, List.map_replicate]
set_option maxRecDepth 100000 in
set_option maxHeartbeats 4000000 in
theorem ok_R_Quote (s_1 : Str) (z : Str) (hm : R_Quote s_1 = some z) : Does Tryd.prog 77 [.p (.s s_1)] [] (fun r X => r = .p (.s z) ∧ X = []) := by
  unfold R_Quote at hm
  refine Does.of_wp 0 67 [.tmp 2] Tryd.func77 rfl (by decide) rfl rfl (Nat.le_of_ble_eq_true rfl) fun B => ?_
  refine Wp.seqR fun K1 hK1 => ?_
  simp only [go_sem, simprocAttr]
  first
    | refine hK1 _ _ ?_
    | refine ⟨by first | exact sd, hK1 _ _ ?_⟩
  refine Wp.seqR fun K2 hK2 => ?_
  simp only [go_sem, simprocAttr]
  first
    | refine hK2 _ _ ?_
    | refine ⟨by first | exact sd, hK2 _ _ ?_⟩
  refine Wp.seqW fun K3 hK3 hW3 => ?_
  obtain ⟨k_33, hk_33, hm⟩ := jp_elim hm
  have hcut3 : ∀ s, k_33 s = some z → K3 [(3, .p (.s s))] [] := by
    intro out_32 hs
    have hm := hk_33 _ hs
    clear hs
    try dsimp only at hm
    try dsimp only
    refine hK3 _ _ ?_
    obtain ⟨c_34, hm⟩ := chk_elim hm
    refine Wp.seqR fun K4 hK4 => ?_
    simp only [go_sem, simprocAttr]
    first
      | refine hK4 _ _ ?_
      | refine ⟨by first | exact sd | ((repeat' apply And.intro) <;> first | assumption | omega | (simp only [List.length_append, List.length_map, List.length_cons, List.length_nil, List.length_set, List.length_replicate] at c_34 ⊢; omega)), hK4 _ _ ?_⟩
    refine Wp.ret ?_
    refine retQ_ret ?_
    cases hm
    simp only [go_sem, simprocAttr]
    try simp [encB, encI_i64, encI_u8, encS, enc_api_File, enc_api_Machine, enc_api_Service, enc_api_Setting, enc_disk_line, List.map_set, List.map_replicate]
  clear hK3 hk_33
  refine Wp.seqR fun K5 hK5 => ?_
  simp only [go_sem, simprocAttr]
  first
    | refine hK5 _ _ ?_
    | refine ⟨by first | exact sd, hK5 _ _ ?_⟩
  refine Wp.block ?_
  obtain ⟨k_49, hk_49, hm⟩ := forL_cont hm
  refine Wp.fact 0 fun hl_52 => ?_
  replace hl_52 : s_1.length ≤ 274877906944 := by
    simp only [go_sem, simprocAttr, List.length_map] at hl_52
    omega
  refine Wp.forL (fun i_51 s => [(0, .p (.s s_1)), (3, .p (.s s)), (7, .p (.i .i64 (s_1.length : Int))), (8, .p (.i .i64 (i_51 : Int)))]) (fun i_51 s => []) ?_ hm ?_
  ·
    simp only [go_sem, simprocAttr]
    try simp [encB, encI_i64, encI_u8, encS, enc_api_File, enc_api_Machine, enc_api_Service, enc_api_Setting, enc_disk_line, List.map_set, List.map_replicate]
  clear hm
  intro i_51 out_35 hii_51 hm
  try dsimp only at hm
  try dsimp only
  refine Wp.seqR fun K6 hK6 => ?_
  simp only [go_sem, simprocAttr]
  first
    | refine hK6 _ _ ?_
    | refine ⟨by first | exact sd, hK6 _ _ ?_⟩
  refine Wp.seqW fun K7 hK7 hW7 => ?_
  refine Wp.cond rfl ⟨⟩ (fun hc7 => ?_) (fun hc7 => ?_)
  rotate_left
  · refine Wp.exit ?_
    have hm := hk_49 _ (forL_end hm (ge_nat (by first | exact hc7 | simpa using hc7)))
    try dsimp only at hm
    simp only [thenQ, blockQ, ↓reduceIte]
    refine hW3 _ _ _ _ ?_ (hcut3 out_35 hm)
    simp only [go_sem, simprocAttr]
    try simp [encB, encI_i64, encI_u8, encS, enc_api_File, enc_api_Machine, enc_api_Service, enc_api_Setting, enc_disk_line, List.map_set, List.map_replicate]
  have hlt7 := lt_nat (by first | exact hc7 | simpa using hc7)
  have hw7 := wrap_succ hlt7 hl_52
  obtain ⟨c_53, nx_50, hxc_53, hyc_53, hnx_50, hm⟩ := forL_step hm hlt7
  clear hxc_53
  refine Wp.skip ?_
  simp only [thenQ]
  refine hK7 _ _ ?_
  refine Wp.seqW fun K8 hK8 hW8 => ?_
  refine Wp.block ?_
  refine Wp.seqR fun K9 hK9 => ?_
  simp only [go_sem, simprocAttr, hw7, hyc_53]
  first
    | refine hK9 _ _ ?_
    | refine ⟨by first | exact sd, hK9 _ _ ?_⟩
  refine Wp.seqR fun K10 hK10 => ?_
  simp only [go_sem, simprocAttr, hw7, hyc_53]
  first
    | refine hK10 _ _ ?_
    | refine ⟨by first | exact sd, hK10 _ _ ?_⟩
  refine Wp.block ?_
  refine Wp.seqR fun K11 hK11 => ?_
  simp only [go_sem, simprocAttr, hw7, hyc_53]
  first
    | refine hK11 _ _ ?_
    | refine ⟨by first | exact sd, hK11 _ _ ?_⟩
  refine Wp.cond rfl ⟨⟩ (fun hc12 => ?_) (fun hc12 => ?_)
  · have hm := brT hm (by first | exact hc12 | simpa using hc12)
    obtain ⟨c_54, hm⟩ := chk_elim hm
    obtain ⟨c_55, hm⟩ := chk_elim hm
    obtain ⟨c_56, hm⟩ := chk_elim hm
    refine Wp.region fun K13 hK13 => ?_
    simp only [go_sem, simprocAttr, hw7, hyc_53]
    first
      | refine hK13 _ _ ?_
      | refine ⟨by first | exact sd | ((repeat' apply And.intro) <;> first | assumption | omega | (simp only [List.length_append, List.length_map, List.length_cons, List.length_nil, List.length_set, List.length_replicate] at c_54 c_55 c_56 ⊢; omega)), hK13 _ _ ?_⟩
    simp only [thenQ, blockQ, ↓reduceIte]
    refine hK8 _ _ ?_
    refine Wp.region fun K14 hK14 => ?_
    simp only [go_sem, simprocAttr, hw7, hyc_53]
    first
      | refine hK14 _ _ ?_
      | refine ⟨by first | exact sd, hK14 _ _ ?_⟩
    simp only [thenQ, blockQ, ↓reduceIte]
    refine ⟨out_35 ++ (([92] : Str) ++ (List.take ((IntKind.i64.wrap ((i_51 : Int) + 1)).toNat - i_51) (List.drop i_51 s_1))), hlt7, hnx_50 _ hm, ?_⟩
    simp only [go_sem, simprocAttr, hw7, hyc_53]
    try simp [encB, encI_i64, encI_u8, encS, enc_api_File, enc_api_Machine, enc_api_Service, enc_api_Setting, enc_disk_line, List.map_set, List.map_replicate]
  · have hm := brF hm (by first | exact hc12 | simpa using hc12)
    refine Wp.seqR fun K15 hK15 => ?_
    simp only [go_sem, simprocAttr, hw7, hyc_53]
    first
      | refine hK15 _ _ ?_
      | refine ⟨by first | exact sd, hK15 _ _ ?_⟩
    refine Wp.cond rfl ⟨⟩ (fun hc16 => ?_) (fun hc16 => ?_)
    · have hm := brT hm (by first | exact hc16 | simpa using hc16)
      obtain ⟨c_57, hm⟩ := chk_elim hm
      refine Wp.region fun K17 hK17 => ?_
      simp only [go_sem, simprocAttr, hw7, hyc_53]
      first
        | refine hK17 _ _ ?_
        | refine ⟨by first | exact sd | ((repeat' apply And.intro) <;> first | assumption | omega | (simp only [List.length_append, List.length_map, List.length_cons, List.length_nil, List.length_set, List.length_replicate] at c_57 ⊢; omega)), hK17 _ _ ?_⟩
      simp only [thenQ, blockQ, ↓reduceIte]
      refine hK8 _ _ ?_
      refine Wp.region fun K18 hK18 => ?_
      simp only [go_sem, simprocAttr, hw7, hyc_53]
      first
        | refine hK18 _ _ ?_
        | refine ⟨by first | exact sd, hK18 _ _ ?_⟩
      simp only [thenQ, blockQ, ↓reduceIte]
      refine ⟨out_35 ++ ([92, 110] : Str), hlt7, hnx_50 _ hm, ?_⟩
      simp only [go_sem, simprocAttr, hw7, hyc_53]
      try simp [encB, encI_i64, encI_u8, encS, enc_api_File, enc_api_Machine, enc_api_Service, enc_api_Setting, enc_disk_line, List.map_set, List.map_replicate]
    · have hm := brF hm (by first | exact hc16 | simpa using hc16)
      refine Wp.seqR fun K19 hK19 => ?_
      simp only [go_sem, simprocAttr, hw7, hyc_53]
      first
        | refine hK19 _ _ ?_
        | refine ⟨by first | exact sd, hK19 _ _ ?_⟩
      refine Wp.cond rfl ⟨⟩ (fun hc20 => ?_) (fun hc20 => ?_)
      · have hm := brT hm (by first | exact hc20 | simpa using hc20)
        obtain ⟨c_58, hm⟩ := chk_elim hm
        obtain ⟨c_59, hm⟩ := chk_elim hm
        obtain ⟨c_60, hm⟩ := chk_elim hm
        obtain ⟨c_61, hm⟩ := chk_elim hm
        obtain ⟨c_62, hm⟩ := chk_elim hm
        refine Wp.regD (plan := [(0, none), (1, none), (2, none), (3, none), (4, none), (5, none), (6, none), (7, none), (8, none), (9, none), (10, none), (11, none), (12, none), (13, none), (14, none), (15, none), (16, none)]) (by kernel_rfl) rfl (by kernel_rfl) fun K21 hK21 => ?_
        simp only [go_sem, simprocAttr, hw7, hyc_53]
        first
          | refine hK21 _ _ ?_
          | refine ⟨by first | exact sd | ((repeat' apply And.intro) <;> first | assumption | omega | (simp only [List.length_append, List.length_map, List.length_cons, List.length_nil, List.length_set, List.length_replicate] at c_58 c_59 c_60 c_61 c_62 ⊢; omega)), hK21 _ _ ?_⟩
        simp only [thenQ, blockQ, ↓reduceIte]
        refine hK8 _ _ ?_
        refine Wp.region fun K22 hK22 => ?_
        simp only [go_sem, simprocAttr, hw7, hyc_53]
        first
          | refine hK22 _ _ ?_
          | refine ⟨by first | exact sd, hK22 _ _ ?_⟩
        simp only [thenQ, blockQ, ↓reduceIte]
        refine ⟨out_35 ++ ((([92, 120] : Str) ++ (List.take ((IntKind.u8.wrap ((Int.fdiv (c_53.toNat : Int) (2 ^ (shI .u8 4))) + 1)).toNat - (Int.fdiv (c_53.toNat : Int) (2 ^ (shI .u8 4))).toNat) (List.drop ((Int.fdiv (c_53.toNat : Int) (2 ^ (shI .u8 4))).toNat) ([48, 49, 50, 51, 52, 53, 54, 55, 56, 57, 97, 98, 99, 100, 101, 102] : Str)))) ++ (List.take ((IntKind.u8.wrap ((bitsI .and .u8 (c_53.toNat : Int) 15) + 1)).toNat - (bitsI .and .u8 (c_53.toNat : Int) 15).toNat) (List.drop ((bitsI .and .u8 (c_53.toNat : Int) 15).toNat) ([48, 49, 50, 51, 52, 53, 54, 55, 56, 57, 97, 98, 99, 100, 101, 102] : Str)))), hlt7, hnx_50 _ hm, ?_⟩
        simp only [go_sem, simprocAttr, hw7, hyc_53]
        try simp [encB, encI_i64, encI_u8, encS, enc_api_File, enc_api_Machine, enc_api_Service, enc_api_Setting, enc_disk_line, List.map_set, List.map_replicate]
      · have hm := brF hm (by first | exact hc20 | simpa using hc20)
        obtain ⟨c_63, hm⟩ := chk_elim hm
        obtain ⟨c_64, hm⟩ := chk_elim hm
        refine Wp.region fun K23 hK23 => ?_
        simp only [go_sem, simprocAttr, hw7, hyc_53]
        first
          | refine hK23 _ _ ?_
          | refine ⟨by first | exact sd | ((repeat' apply And.intro) <;> first | assumption | omega | (simp only [List.length_append, List.length_map, List.length_cons, List.length_nil, List.length_set, List.length_replicate] at c_63 c_64 ⊢; omega)), hK23 _ _ ?_⟩
        simp only [thenQ, blockQ, ↓reduceIte]
        refine hK8 _ _ ?_
        refine Wp.region fun K24 hK24 => ?_
        simp only [go_sem, simprocAttr, hw7, hyc_53]
        first
          | refine hK24 _ _ ?_
          | refine ⟨by first | exact sd, hK24 _ _ ?_⟩
        simp only [thenQ, blockQ, ↓reduceIte]
        refine ⟨out_35 ++ (List.take ((IntKind.i64.wrap ((i_51 : Int) + 1)).toNat - i_51) (List.drop i_51 s_1)), hlt7, hnx_50 _ hm, ?_⟩
        simp only [go_sem, simprocAttr, hw7, hyc_53]
        try simp [encB, encI_i64, encI_u8, encS, enc_api_File, enc_api_Machine, enc_api_Service, enc_api_Setting, enc_disk_line, List.map_set, List.map_replicate]
set_option maxRecDepth 100000 in
set_option maxHeartbeats 4000000 in
theorem ok_R_Unquote (s_1 : Str) (z : Str × Int) (hm : R_Unquote s_1 = some z) : Does Tryd.prog 106 [.p (.s s_1)] [] (fun r X => r = .tup [.p (.s z.1), .p (.i .i64 z.2)] ∧ X = []) := by
  unfold R_Unquote at hm
  refine Does.of_wp 0 107 [.tmp 2, .tmp 3] Tryd.func106 rfl (by decide) rfl rfl (Nat.le_of_ble_eq_true rfl) fun B => ?_
  refine Wp.seqR fun K1 hK1 => ?_
  simp only [go_sem, simprocAttr]
  first
    | refine hK1 _ _ ?_
    | refine ⟨by first | exact sd, hK1 _ _ ?_⟩
  refine Wp.seqW fun K2 hK2 hW2 => ?_
  obtain ⟨c_2, hm⟩ := chk_elim hm
  obtain ⟨c_3, hm⟩ := chk_elim hm
  refine Wp.seqR fun K3 hK3 => ?_
  simp only [go_sem, simprocAttr]
  first
    | refine hK3 _ _ ?_
    | refine ⟨by first | exact sd | ((repeat' apply And.intro) <;> first | assumption | omega | (simp only [List.length_append, List.length_map, List.length_cons, List.length_nil, List.length_set, List.length_replicate] at c_2 c_3 ⊢; omega)), hK3 _ _ ?_⟩
  refine Wp.cond rfl ⟨⟩ (fun hc4 => ?_) (fun hc4 => ?_)
  · have hm := brT hm (by first | exact hc4 | simpa using hc4)
    refine Wp.seqR fun K5 hK5 => ?_
    simp only [go_sem, simprocAttr]
    first
      | refine hK5 _ _ ?_
      | refine ⟨by first | exact sd, hK5 _ _ ?_⟩
    refine Wp.ret ?_
    simp only [thenQ, blockQ]
    refine retQ_ret ?_
    cases hm
    simp only [go_sem, simprocAttr]
    try simp [encB, encI_i64, encI_u8, encS, enc_api_File, enc_api_Machine, enc_api_Service, enc_api_Setting, enc_disk_line, List.map_set, List.map_replicate]
  · have hm := brF hm (by first | exact hc4 | simpa using hc4)
    refine Wp.skip ?_
    simp only [thenQ, blockQ, ↓reduceIte]
    refine hK2 _ _ ?_
    refine Wp.seqR fun K6 hK6 => ?_
    simp only [go_sem, simprocAttr]
    first
      | refine hK6 _ _ ?_
      | refine ⟨by first | exact sd, hK6 _ _ ?_⟩
    refine Wp.seqW fun K7 hK7 hW7 => ?_
    obtain ⟨k_65, hk_65, hm⟩ := jp_elim hm
    have hcut7 : ∀ s, k_65 s = some z → K7 [(0, .p (.s s_1)), (4, .buf 0)] [.buf 5 1 (List.map encI_u8 s)] := by
      intro o0_64 hs
      have hm := hk_65 _ hs
      clear hs
      try dsimp only at hm
      try dsimp only
      refine hK7 _ _ ?_
      refine Wp.seqW fun K8 hK8 hW8 => ?_
      obtain ⟨r_66, hr_66, hm⟩ := call_elim hm
      refine Wp.seqR fun K9 hK9 => ?_
      simp only [go_sem, simprocAttr]
      try refine ⟨by first | exact sd, ?_⟩
      refine Rg.callX (av := ?av10) (g := true) (fun hg => ok_R_Quote (strOf o0_64) _ hr_66) ?ha10 ?hb10 ?hp10 ?hok10 ?hf10 ?cont10
      case ha10 =>
        simp only [go_sem, simprocAttr]
        exact Is.mk
      case hb10 =>
        simp only [go_sem, simprocAttr]
        exact Is.mk
      case hp10 =>
        simp only [go_sem, simprocAttr]
        exact Is.mk
      case hok10 =>
        simp only [go_sem, simprocAttr]
      case hf10 =>
        simp only [go_sem, simprocAttr]
        exact Is.mk
      intro hv10
      simp only [go_sem, simprocAttr]
      first
        | refine hK9 _ _ ?_
        | refine ⟨by first | exact sd, hK9 _ _ ?_⟩
      refine Wp.cond rfl ⟨⟩ (fun hc11 => ?_) (fun hc11 => ?_)
      · have hm := brT hm (by first | exact hc11 | simpa using hc11)
        refine Wp.seqR fun K12 hK12 => ?_
        simp only [go_sem, simprocAttr]
        first
          | refine hK12 _ _ ?_
          | refine ⟨by first | exact sd, hK12 _ _ ?_⟩
        refine Wp.ret ?_
        simp only [thenQ, blockQ]
        refine retQ_ret ?_
        cases hm
        simp only [go_sem, simprocAttr]
        try simp [encB, encI_i64, encI_u8, encS, enc_api_File, enc_api_Machine, enc_api_Service, enc_api_Setting, enc_disk_line, List.map_set, List.map_replicate]
      · have hm := brF hm (by first | exact hc11 | simpa using hc11)
        refine Wp.skip ?_
        simp only [thenQ, blockQ, ↓reduceIte]
        refine hK8 _ _ ?_
        refine Wp.seqR fun K13 hK13 => ?_
        simp only [go_sem, simprocAttr]
        first
          | refine hK13 _ _ ?_
          | refine ⟨by first | exact sd, hK13 _ _ ?_⟩
        refine Wp.ret ?_
        refine retQ_ret ?_
        cases hm
        simp only [go_sem, simprocAttr]
        try simp [encB, encI_i64, encI_u8, encS, enc_api_File, enc_api_Machine, enc_api_Service, enc_api_Setting, enc_disk_line, List.map_set, List.map_replicate]
    clear hK7 hk_65
    obtain ⟨c_67, hm⟩ := chk_elim hm
    refine Wp.seqR fun K14 hK14 => ?_
    simp only [go_sem, simprocAttr]
    first
      | refine hK14 _ _ ?_
      | refine ⟨by first | exact sd | ((repeat' apply And.intro) <;> first | assumption | omega | (simp only [List.length_append, List.length_map, List.length_cons, List.length_nil, List.length_set, List.length_replicate] at c_67 ⊢; omega)), hK14 _ _ ?_⟩
    refine Wp.block ?_
    refine Wp.adoptF 4 5 1 rfl ?_
    simp only [go_sem, simprocAttr]
    obtain ⟨k_107, hk_107, hm⟩ := loopN_cont hm
    refine Wp.loopN (fun s => [(0, .p (.s s_1)), (4, .buf 0), (5, .p (.s s.1))]) (fun s => [.buf 5 1 (List.map encI_u8 s.2)]) ?_ hm ?_
    ·
      simp only [go_sem, simprocAttr]
      try simp [encB, encI_i64, encI_u8, encS, enc_api_File, enc_api_Machine, enc_api_Service, enc_api_Setting, enc_disk_line, List.map_set, List.map_replicate]
    clear hm
    intro s nx_108 hm
    obtain ⟨b_87, o0_88⟩ := s
    try dsimp only at hm
    try dsimp only
    refine Wp.seqW fun K15 hK15 hW15 => ?_
    refine Wp.seqR fun K16 hK16 => ?_
    simp only [go_sem, simprocAttr]
    first
      | refine hK16 _ _ ?_
      | refine ⟨by first | exact sd, hK16 _ _ ?_⟩
    refine Wp.cond rfl ⟨⟩ (fun hc17 => ?_) (fun hc17 => ?_)
    · have hm := brT hm (by first | exact hc17 | simpa using hc17)
      refine Wp.skip ?_
      simp only [thenQ, blockQ, ↓reduceIte]
      refine hK15 _ _ ?_
      refine Wp.block ?_
      refine Wp.seqW fun K18 hK18 hW18 => ?_
      obtain ⟨c_109, hbc_109, hxc_109, hm⟩ := idxS_elim hm
      replace hxc_109 : ((b_87.getD 0 0).toNat : Int) = c_109 := hxc_109
      refine Wp.seqR fun K19 hK19 => ?_
      simp only [go_sem, simprocAttr, hxc_109]
      first
        | refine hK19 _ _ ?_
        | refine ⟨by first | exact sd, hK19 _ _ ?_⟩
      refine Wp.cond rfl ⟨⟩ (fun hc20 => ?_) (fun hc20 => ?_)
      · have hm := brT hm (by first | exact hc20 | simpa using hc20)
        obtain ⟨c_110, hm⟩ := chk_elim hm
        refine Wp.seqR fun K21 hK21 => ?_
        simp only [go_sem, simprocAttr, hxc_109]
        first
          | refine hK21 _ _ ?_
          | refine ⟨by first | exact sd | ((repeat' apply And.intro) <;> first | assumption | omega | (simp only [List.length_append, List.length_map, List.length_cons, List.length_nil, List.length_set, List.length_replicate] at c_110 ⊢; omega)), hK21 _ _ ?_⟩
        obtain ⟨c_111, hm⟩ := chk_elim hm
        refine Wp.seqR fun K22 hK22 => ?_
        simp only [go_sem, simprocAttr, hxc_109]
        first
          | refine hK22 _ _ ?_
          | refine ⟨by first | exact sd | ((repeat' apply And.intro) <;> first | assumption | omega | (simp only [List.length_append, List.length_map, List.length_cons, List.length_nil, List.length_set, List.length_replicate] at c_111 ⊢; omega)), hK22 _ _ ?_⟩
        refine Wp.exit ?_
        simp only [thenQ, blockQ, ↓reduceIte]
        refine ⟨(List.drop 1 b_87, o0_88 ++ [c_109]), hm, ?_⟩
        simp only [go_sem, simprocAttr, hxc_109]
        try simp [encB, encI_i64, encI_u8, encS, enc_api_File, enc_api_Machine, enc_api_Service, enc_api_Setting, enc_disk_line, List.map_set, List.map_replicate]
      · have hm := brF hm (by first | exact hc20 | simpa using hc20)
        refine Wp.skip ?_
        simp only [thenQ, blockQ, ↓reduceIte]
        refine hK18 _ _ ?_
        refine Wp.block ?_
        obtain ⟨c_112, hm⟩ := chk_elim hm
        obtain ⟨c_113, hm⟩ := chk_elim hm
        refine Wp.seqR fun K23 hK23 => ?_
        simp only [go_sem, simprocAttr, hxc_109]
        first
          | refine hK23 _ _ ?_
          | refine ⟨by first | exact sd | ((repeat' apply And.intro) <;> first | assumption | omega | (simp only [List.length_append, List.length_map, List.length_cons, List.length_nil, List.length_set, List.length_replicate] at c_112 c_113 ⊢; omega)), hK23 _ _ ?_⟩
        refine Wp.cond rfl ⟨⟩ (fun hc24 => ?_) (fun hc24 => ?_)
        · have hm := brT hm (by first | exact hc24 | simpa using hc24)
          obtain ⟨c_114, hbc_114, hxc_114, hm⟩ := idxS_elim hm
          replace hxc_114 : ((b_87.getD 1 0).toNat : Int) = c_114 := hxc_114
          obtain ⟨c_115, hm⟩ := chk_elim hm
          refine Wp.seqR fun K25 hK25 => ?_
          simp only [go_sem, simprocAttr, hxc_109, hxc_114]
          first
            | refine hK25 _ _ ?_
            | refine ⟨by first | exact sd | ((repeat' apply And.intro) <;> first | assumption | omega | (simp only [List.length_append, List.length_map, List.length_cons, List.length_nil, List.length_set, List.length_replicate] at c_115 ⊢; omega)), hK25 _ _ ?_⟩
          obtain ⟨c_116, hm⟩ := chk_elim hm
          refine Wp.region fun K26 hK26 => ?_
          simp only [go_sem, simprocAttr, hxc_109, hxc_114]
          first
            | refine hK26 _ _ ?_
            | refine ⟨by first | exact sd | ((repeat' apply And.intro) <;> first | assumption | omega | (simp only [List.length_append, List.length_map, List.length_cons, List.length_nil, List.length_set, List.length_replicate] at c_116 ⊢; omega)), hK26 _ _ ?_⟩
          simp only [thenQ, blockQ, ↓reduceIte]
          refine ⟨(List.drop 2 b_87, o0_88 ++ [c_114]), hm, ?_⟩
          simp only [go_sem, simprocAttr, hxc_109, hxc_114]
          try simp [encB, encI_i64, encI_u8, encS, enc_api_File, enc_api_Machine, enc_api_Service, enc_api_Setting, enc_disk_line, List.map_set, List.map_replicate]
        · have hm := brF hm (by first | exact hc24 | simpa using hc24)
          obtain ⟨c_117, hm⟩ := chk_elim hm
          refine Wp.seqR fun K27 hK27 => ?_
          simp only [go_sem, simprocAttr, hxc_109]
          first
            | refine hK27 _ _ ?_
            | refine ⟨by first | exact sd | ((repeat' apply And.intro) <;> first | assumption | omega | (simp only [List.length_append, List.length_map, List.length_cons, List.length_nil, List.length_set, List.length_replicate] at c_117 ⊢; omega)), hK27 _ _ ?_⟩
          refine Wp.cond rfl ⟨⟩ (fun hc28 => ?_) (fun hc28 => ?_)
          · have hm := brT hm (by first | exact hc28 | simpa using hc28)
            obtain ⟨c_118, hm⟩ := chk_elim hm
            refine Wp.seqR fun K29 hK29 => ?_
            simp only [go_sem, simprocAttr, hxc_109]
            first
              | refine hK29 _ _ ?_
              | refine ⟨by first | exact sd | ((repeat' apply And.intro) <;> first | assumption | omega | (simp only [List.length_append, List.length_map, List.length_cons, List.length_nil, List.length_set, List.length_replicate] at c_118 ⊢; omega)), hK29 _ _ ?_⟩
            obtain ⟨c_119, hm⟩ := chk_elim hm
            refine Wp.region fun K30 hK30 => ?_
            simp only [go_sem, simprocAttr, hxc_109]
            first
              | refine hK30 _ _ ?_
              | refine ⟨by first | exact sd | ((repeat' apply And.intro) <;> first | assumption | omega | (simp only [List.length_append, List.length_map, List.length_cons, List.length_nil, List.length_set, List.length_replicate] at c_119 ⊢; omega)), hK30 _ _ ?_⟩
            simp only [thenQ, blockQ, ↓reduceIte]
            refine ⟨(List.drop 2 b_87, o0_88 ++ [10]), hm, ?_⟩
            simp only [go_sem, simprocAttr, hxc_109]
            try simp [encB, encI_i64, encI_u8, encS, enc_api_File, enc_api_Machine, enc_api_Service, enc_api_Setting, enc_disk_line, List.map_set, List.map_replicate]
          · have hm := brF hm (by first | exact hc28 | simpa using hc28)
            obtain ⟨c_120, hm⟩ := chk_elim hm
            refine Wp.seqR fun K31 hK31 => ?_
            simp only [go_sem, simprocAttr, hxc_109]
            first
              | refine hK31 _ _ ?_
              | refine ⟨by first | exact sd | ((repeat' apply And.intro) <;> first | assumption | omega | (simp only [List.length_append, List.length_map, List.length_cons, List.length_nil, List.length_set, List.length_replicate] at c_120 ⊢; omega)), hK31 _ _ ?_⟩
            refine Wp.cond rfl ⟨⟩ (fun hc32 => ?_) (fun hc32 => ?_)
            · have hm := brT hm (by first | exact hc32 | simpa using hc32)
              obtain ⟨c_121, hm⟩ := chk_elim hm
              obtain ⟨r_122, hr_122, hm⟩ := call_elim hm
              obtain ⟨c_123, hm⟩ := chk_elim hm
              obtain ⟨r_124, hr_124, hm⟩ := call_elim hm
              refine Wp.seqD (plan := [(0, none), (1, none), (2, none), (3, none), (4, none), (5, none), (6, none), (7, none), (8, none)]) (by kernel_rfl) rfl (by kernel_rfl) fun K33 hK33 => ?_
              simp only [go_sem, simprocAttr, hxc_109]
              try refine ⟨by first | exact sd | ((repeat' apply And.intro) <;> first | assumption | omega | (simp only [List.length_append, List.length_map, List.length_cons, List.length_nil, List.length_set, List.length_replicate] at c_121 c_123 ⊢; omega)), ?_⟩
              refine Dr.callF (av := ?av34) (g := true) (o := ?o34) (fun hg => ok_strings_Index ([48, 49, 50, 51, 52, 53, 54, 55, 56, 57, 97, 98, 99, 100, 101, 102] : Str) (List.take (3 - 2) (List.drop 2 b_87)) _ hr_122) ?hk34 ?ha34 ?hb34 ?hp34 ?hok34 ?hf34 ?cont34
              case hk34 =>
                simp only [go_sem, simprocAttr, hxc_109]
                exact Is.mk
              case ha34 =>
                simp only [go_sem, simprocAttr, hxc_109]
                exact Is.mk
              case hb34 =>
                simp only [go_sem, simprocAttr, hxc_109]
                exact Is.mk
              case hp34 =>
                simp only [go_sem, simprocAttr, hxc_109]
                exact Is.mk
              case hok34 =>
                simp only [go_sem, simprocAttr, hxc_109]
              case hf34 =>
                simp only [go_sem, simprocAttr, hxc_109]
                exact Is.mk
              simp only [go_sem, simprocAttr, hxc_109]
              try refine ⟨by first | exact sd | ((repeat' apply And.intro) <;> first | assumption | omega | (simp only [List.length_append, List.length_map, List.length_cons, List.length_nil, List.length_set, List.length_replicate] at c_121 c_123 ⊢; omega)), ?_⟩
              refine Dr.callF (av := ?av35) (g := true) (o := ?o35) (fun hg => ok_strings_Index ([48, 49, 50, 51, 52, 53, 54, 55, 56, 57, 97, 98, 99, 100, 101, 102] : Str) (List.take (4 - 3) (List.drop 3 b_87)) _ hr_124) ?hk35 ?ha35 ?hb35 ?hp35 ?hok35 ?hf35 ?cont35
              case hk35 =>
                simp only [go_sem, simprocAttr, hxc_109]
                exact Is.mk
              case ha35 =>
                simp only [go_sem, simprocAttr, hxc_109]
                exact Is.mk
              case hb35 =>
                simp only [go_sem, simprocAttr, hxc_109]
                exact Is.mk
              case hp35 =>
                simp only [go_sem, simprocAttr, hxc_109]
                exact Is.mk
              case hok35 =>
                simp only [go_sem, simprocAttr, hxc_109]
              case hf35 =>
                simp only [go_sem, simprocAttr, hxc_109]
                exact Is.mk
              simp only [go_sem, simprocAttr, hxc_109]
              first
                | refine hK33 _ _ ?_
                | refine ⟨by first | exact sd | ((repeat' apply And.intro) <;> first | assumption | omega | (simp only [List.length_append, List.length_map, List.length_cons, List.length_nil, List.length_set, List.length_replicate] at c_121 c_123 ⊢; omega)), hK33 _ _ ?_⟩
              obtain ⟨c_125, hm⟩ := chk_elim hm
              refine Wp.seqR fun K36 hK36 => ?_
              simp only [go_sem, simprocAttr, hxc_109]
              first
                | refine hK36 _ _ ?_
                | refine ⟨by first | exact sd | ((repeat' apply And.intro) <;> first | assumption | omega | (simp only [List.length_append, List.length_map, List.length_cons, List.length_nil, List.length_set, List.length_replicate] at c_125 ⊢; omega)), hK36 _ _ ?_⟩
              obtain ⟨c_126, hm⟩ := chk_elim hm
              refine Wp.region fun K37 hK37 => ?_
              simp only [go_sem, simprocAttr, hxc_109]
              first
                | refine hK37 _ _ ?_
                | refine ⟨by first | exact sd | ((repeat' apply And.intro) <;> first | assumption | omega | (simp only [List.length_append, List.length_map, List.length_cons, List.length_nil, List.length_set, List.length_replicate] at c_126 ⊢; omega)), hK37 _ _ ?_⟩
              simp only [thenQ, blockQ, ↓reduceIte]
              refine ⟨(List.drop 4 b_87, o0_88 ++ [IntKind.u8.wrap (IntKind.i64.wrap ((IntKind.i64.wrap (r_122 * 16)) + r_124))]), hm, ?_⟩
              simp only [go_sem, simprocAttr, hxc_109]
              try simp [encB, encI_i64, encI_u8, encS, enc_api_File, enc_api_Machine, enc_api_Service, enc_api_Setting, enc_disk_line, List.map_set, List.map_replicate]
            · have hm := brF hm (by first | exact hc32 | simpa using hc32)
              refine Wp.seqR fun K38 hK38 => ?_
              simp only [go_sem, simprocAttr, hxc_109]
              first
                | refine hK38 _ _ ?_
                | refine ⟨by first | exact sd, hK38 _ _ ?_⟩
              refine Wp.ret ?_
              simp only [thenQ, blockQ]
              refine retQ_ret ?_
              cases hm
              simp only [go_sem, simprocAttr, hxc_109]
              try simp [encB, encI_i64, encI_u8, encS, enc_api_File, enc_api_Machine, enc_api_Service, enc_api_Setting, enc_disk_line, List.map_set, List.map_replicate]
    · have hm := brF hm (by first | exact hc17 | simpa using hc17)
      refine Wp.exit ?_
      simp only [thenQ, blockQ, ↓reduceIte]
      have hm := hk_107 _ hm
      try dsimp only at hm
      refine hW7 _ _ _ _ ?_ (hcut7 o0_88 hm)
      simp only [go_sem, simprocAttr]
      try simp [encB, encI_i64, encI_u8, encS, enc_api_File, enc_api_Machine, enc_api_Service, enc_api_Setting, enc_disk_line, List.map_set, List.map_replicate]
set_option maxRecDepth 100000 in
set_option maxHeartbeats 4000000 in
theorem ok_R_quoted (s_1 : Str) (z : Str × Str × Bool) (hm : R_quoted s_1 = some z) : Does Tryd.prog 64 [.p (.s s_1)] [] (fun r X => r = .tup [.p (.s z.1), .p (.s z.2.1), .p (.b z.2.2)] ∧ X = []) := by
  unfold R_quoted at hm
  refine Does.of_wp 0 30 [.tmp 2, .tmp 3, .tmp 4] Tryd.func64 rfl (by decide) rfl rfl (Nat.le_of_ble_eq_true rfl) fun B => ?_
  refine Wp.seqR fun K1 hK1 => ?_
  simp only [go_sem, simprocAttr]
  first
    | refine hK1 _ _ ?_
    | refine ⟨by first | exact sd, hK1 _ _ ?_⟩
  obtain ⟨r_2, hr_2, hm⟩ := call_elim hm
  refine Wp.seqR fun K2 hK2 => ?_
  simp only [go_sem, simprocAttr]
  try refine ⟨by first | exact sd, ?_⟩
  refine Rg.callX (av := ?av3) (g := true) (fun hg => ok_strings_Cut s_1 ([32] : Str) _ hr_2) ?ha3 ?hb3 ?hp3 ?hok3 ?hf3 ?cont3
  case ha3 =>
    simp only [go_sem, simprocAttr]
    exact Is.mk
  case hb3 =>
    simp only [go_sem, simprocAttr]
    exact Is.mk
  case hp3 =>
    simp only [go_sem, simprocAttr]
    exact Is.mk
  case hok3 =>
    simp only [go_sem, simprocAttr]
  case hf3 =>
    simp only [go_sem, simprocAttr]
    exact Is.mk
  intro hv3
  simp only [go_sem, simprocAttr]
  first
    | refine hK2 _ _ ?_
    | refine ⟨by first | exact sd, hK2 _ _ ?_⟩
  obtain ⟨r_3, hr_3, hm⟩ := call_elim hm
  refine Wp.seqR fun K4 hK4 => ?_
  simp only [go_sem, simprocAttr]
  try refine ⟨by first | exact sd, ?_⟩
  refine Rg.callX (av := ?av5) (g := true) (fun hg => ok_R_Unquote r_2.2.1 _ hr_3) ?ha5 ?hb5 ?hp5 ?hok5 ?hf5 ?cont5
  case ha5 =>
    simp only [go_sem, simprocAttr]
    exact Is.mk
  case hb5 =>
    simp only [go_sem, simprocAttr]
    exact Is.mk
  case hp5 =>
    simp only [go_sem, simprocAttr]
    exact Is.mk
  case hok5 =>
    simp only [go_sem, simprocAttr]
  case hf5 =>
    simp only [go_sem, simprocAttr]
    exact Is.mk
  intro hv5
  simp only [go_sem, simprocAttr]
  first
    | refine hK4 _ _ ?_
    | refine ⟨by first | exact sd, hK4 _ _ ?_⟩
  refine Wp.seqR fun K6 hK6 => ?_
  simp only [go_sem, simprocAttr]
  first
    | refine hK6 _ _ ?_
    | refine ⟨by first | exact sd, hK6 _ _ ?_⟩
  refine Wp.ret ?_
  refine retQ_ret ?_
  cases hm
  simp only [go_sem, simprocAttr]
  try simp [encB, encI_i64, encI_u8, encS, enc_api_File, enc_api_Machine, enc_api_Service, enc_api_Setting, enc_disk_line, List.map_set, List.map_replicate]
set_option maxRecDepth 100000 in
set_option maxHeartbeats 4000000 in
theorem ok_R_serviceOf (w_1 : List Str) (z : api_Service × Bool) (hm : R_serviceOf w_1 = some z) : Does Tryd.prog 65 [.p (.l (List.map encS w_1))] [] (fun r X => r = .tup [.agg [.p (.s z.1.Name), .p (.s z.1.Path), .p (.b z.1.Auto), .p (.b z.1.On)], .p (.b z.2)] ∧ X = []) := by
  unfold R_serviceOf at hm
  refine Does.of_wp 0 59 [.cell 2 53, .tmp 3] Tryd.func65 rfl (by decide) rfl rfl (Nat.le_of_ble_eq_true rfl) fun B => ?_
  refine Wp.seqR fun K1 hK1 => ?_
  simp only [go_sem, simprocAttr]
  first
    | refine hK1 _ _ ?_
    | refine ⟨by first | exact sd, hK1 _ _ ?_⟩
  refine Wp.seqW fun K2 hK2 hW2 => ?_
  obtain ⟨c_2, hm⟩ := chk_elim hm
  obtain ⟨c_3, hm⟩ := chk_elim hm
  obtain ⟨c_4, hm⟩ := chk_elim hm
  obtain ⟨c_5, hm⟩ := chk_elim hm
  obtain ⟨c_6, hm⟩ := chk_elim hm
  obtain ⟨c_7, hm⟩ := chk_elim hm
  have hr_8 := getD_enc (l := w_1) (e := encS) (d := []) (i := 0)
  simp only [encS, List.map_nil] at hr_8
  have hr_9 := getD_enc (l := w_1) (e := encS) (d := []) (i := 1)
  simp only [encS, List.map_nil] at hr_9
  have hr_10 := getD_enc (l := w_1) (e := encS) (d := []) (i := 2)
  simp only [encS, List.map_nil] at hr_10
  have hr_11 := getD_enc (l := w_1) (e := encS) (d := []) (i := 3)
  simp only [encS, List.map_nil] at hr_11
  refine Wp.seqR fun K3 hK3 => ?_
  simp only [go_sem, simprocAttr, hr_8, hr_9, hr_10, hr_11]
  first
    | refine hK3 _ _ ?_
    | refine ⟨by first | exact sd | ((repeat' apply And.intro) <;> first | assumption | omega | (simp only [List.length_append, List.length_map, List.length_cons, List.length_nil, List.length_set, List.length_replicate] at c_2 c_3 c_4 c_5 c_6 c_7 ⊢; omega)), hK3 _ _ ?_⟩
  refine Wp.cond rfl ⟨⟩ (fun hc4 => ?_) (fun hc4 => ?_)
  · have hm := brT hm (by first | exact hc4 | simpa using hc4)
    refine Wp.seqR fun K5 hK5 => ?_
    simp only [go_sem, simprocAttr]
    first
      | refine hK5 _ _ ?_
      | refine ⟨by first | exact sd, hK5 _ _ ?_⟩
    refine Wp.ret ?_
    simp only [thenQ, blockQ]
    refine retQ_ret ?_
    cases hm
    simp only [go_sem, simprocAttr]
    try simp [encB, encI_i64, encI_u8, encS, enc_api_File, enc_api_Machine, enc_api_Service, enc_api_Setting, enc_disk_line, List.map_set, List.map_replicate]
  · have hm := brF hm (by first | exact hc4 | simpa using hc4)
    refine Wp.skip ?_
    simp only [thenQ, blockQ, ↓reduceIte]
    refine hK2 _ _ ?_
    obtain ⟨s_12, hbs_12, hxs_12, hys_12, hm⟩ := idx_elim hm
    replace hxs_12 : ∀ d, (List.map encS w_1).getD 0 d = encS s_12 := hxs_12 encS
    obtain ⟨s_13, hbs_13, hxs_13, hys_13, hm⟩ := idx_elim hm
    replace hxs_13 : ∀ d, (List.map encS w_1).getD 1 d = encS s_13 := hxs_13 encS
    obtain ⟨s_14, hbs_14, hxs_14, hys_14, hm⟩ := idx_elim hm
    replace hxs_14 : ∀ d, (List.map encS w_1).getD 2 d = encS s_14 := hxs_14 encS
    obtain ⟨s_15, hbs_15, hxs_15, hys_15, hm⟩ := idx_elim hm
    replace hxs_15 : ∀ d, (List.map encS w_1).getD 3 d = encS s_15 := hxs_15 encS
    refine Wp.seqD (plan := [(0, none), (1, none), (2, none), (3, none), (4, none), (5, none), (6, none), (7, none), (8, none), (9, none), (10, none), (11, none), (12, none), (13, none), (14, none), (15, some []), (16, none)]) (by kernel_rfl) rfl (by kernel_rfl) fun K6 hK6 => ?_
    simp only [go_sem, simprocAttr, hxs_12, hxs_13, hxs_14, hxs_15]
    first
      | refine hK6 _ _ ?_
      | refine ⟨by first | exact sd, hK6 _ _ ?_⟩
    refine Wp.ret ?_
    refine retQ_ret ?_
    cases hm
    simp only [go_sem, simprocAttr, hxs_12, hxs_13, hxs_14, hxs_15]
    try simp [encB, encI_i64, encI_u8, encS, enc_api_File, enc_api_Machine, enc_api_Service, enc_api_Setting, enc_disk_line, List.map_set, List.map_replicate]
set_option maxRecDepth 100000 in
set_option maxHeartbeats 4000000 in
theorem ok_disk_CheckChange (c_1 : api_Change) (z : Int) (hm : disk_CheckChange c_1 = some z) : Does Tryd.prog 108 [.agg [.p (.i .i64 c_1.Kind), .p (.s c_1.File.Path), .p (.s c_1.File.Data), .p (.b c_1.File.Runs), .p (.s c_1.Setting.Key), .p (.s c_1.Setting.Value), .p (.s c_1.Service.Name), .p (.s c_1.Service.Path), .p (.b c_1.Service.Auto), .p (.b c_1.Service.On)]] [] (fun r X => r = .p (.i .i64 z) ∧ X = []) := by
  unfold disk_CheckChange at hm
  refine Does.of_wp 0 78 [.tmp 2] Tryd.func108 rfl (by decide) rfl rfl (Nat.le_of_ble_eq_true rfl) fun B => ?_
  refine Wp.seqR fun K1 hK1 => ?_
  simp only [go_sem, simprocAttr]
  first
    | refine hK1 _ _ ?_
    | refine ⟨by first | exact sd, hK1 _ _ ?_⟩
  refine Wp.seqR fun K2 hK2 => ?_
  simp only [go_sem, simprocAttr]
  first
    | refine hK2 _ _ ?_
    | refine ⟨by first | exact sd, hK2 _ _ ?_⟩
  refine Wp.seqR fun K3 hK3 => ?_
  simp only [go_sem, simprocAttr]
  first
    | refine hK3 _ _ ?_
    | refine ⟨by first | exact sd, hK3 _ _ ?_⟩
  refine Wp.seqW fun K4 hK4 hW4 => ?_
  obtain ⟨k_18, hk_18, hm⟩ := jp_elim hm
  have hcut4 : ∀ s, k_18 s = some z → K4 [(1, .ptr 0 0), (3, .ptr 1 0), (4, .p (.i .i64 s.1))] [.cells 55 [.p (.i .i64 c_1.Kind), .p (.s c_1.File.Path), .p (.s c_1.File.Data), .p (.b c_1.File.Runs), .p (.s c_1.Setting.Key), .p (.s c_1.Setting.Value), .p (.s c_1.Service.Name), .p (.s c_1.Service.Path), .p (.b c_1.Service.Auto), .p (.b c_1.Service.On)], .cells 55 [.p (.i .i64 0), .p (.s s.2.1), .p (.s s.2.2.1), .p (.b s.2.2.2.1), .p (.s s.2.2.2.2.1), .p (.s s.2.2.2.2.2.1), .p (.s s.2.2.2.2.2.2.1), .p (.s s.2.2.2.2.2.2.2.1), .p (.b s.2.2.2.2.2.2.2.2.1), .p (.b s.2.2.2.2.2.2.2.2.2)]] := by
    intro s hs
    have hm := hk_18 _ hs
    clear hs
    obtain ⟨e_8, o1_1_9, o1_2_10, o1_3_11, o1_4_12, o1_5_13, o1_6_14, o1_7_15, o1_8_16, o1_9_17⟩ := s
    try dsimp only at hm
    try dsimp only
    refine hK4 _ _ ?_
    refine Wp.seqR fun K5 hK5 => ?_
    simp only [go_sem, simprocAttr]
    first
      | refine hK5 _ _ ?_
      | refine ⟨by first | exact sd, hK5 _ _ ?_⟩
    refine Wp.seqW fun K6 hK6 hW6 => ?_
    refine Wp.seqR fun K7 hK7 => ?_
    simp only [go_sem, simprocAttr]
    first
      | refine hK7 _ _ ?_
      | refine ⟨by first | exact sd, hK7 _ _ ?_⟩
    refine Wp.cond rfl ⟨⟩ (fun hc8 => ?_) (fun hc8 => ?_)
    · have hm := brT hm (by first | exact hc8 | simpa using hc8)
      refine Wp.seqR fun K9 hK9 => ?_
      simp only [go_sem, simprocAttr]
      first
        | refine hK9 _ _ ?_
        | refine ⟨by first | exact sd, hK9 _ _ ?_⟩
      refine Wp.ret ?_
      simp only [thenQ, blockQ]
      refine retQ_ret ?_
      cases hm
      simp only [go_sem, simprocAttr]
      try simp [encB, encI_i64, encI_u8, encS, enc_api_Change, enc_api_File, enc_api_Machine, enc_api_Service, enc_api_Setting, enc_disk_line, List.map_set, List.map_replicate]
    · have hm := brF hm (by first | exact hc8 | simpa using hc8)
      refine Wp.skip ?_
      simp only [thenQ, blockQ, ↓reduceIte]
      refine hK6 _ _ ?_
      refine Wp.seqR fun K10 hK10 => ?_
      simp only [go_sem, simprocAttr]
      first
        | refine hK10 _ _ ?_
        | refine ⟨by first | exact sd, hK10 _ _ ?_⟩
      refine Wp.ret ?_
      refine retQ_ret ?_
      cases hm
      simp only [go_sem, simprocAttr]
      try simp [encB, encI_i64, encI_u8, encS, enc_api_Change, enc_api_File, enc_api_Machine, enc_api_Service, enc_api_Setting, enc_disk_line, List.map_set, List.map_replicate]
  clear hK4 hk_18
  refine Wp.seqR fun K11 hK11 => ?_
  simp only [go_sem, simprocAttr]
  first
    | refine hK11 _ _ ?_
    | refine ⟨by first | exact sd, hK11 _ _ ?_⟩
  refine Wp.block ?_
  refine Wp.seqR fun K12 hK12 => ?_
  simp only [go_sem, simprocAttr]
  first
    | refine hK12 _ _ ?_
    | refine ⟨by first | exact sd, hK12 _ _ ?_⟩
  refine Wp.cond rfl ⟨⟩ (fun hc13 => ?_) (fun hc13 => ?_)
  · have hm := brT hm (by first | exact hc13 | simpa using hc13)
    obtain ⟨r_19, hr_19, hm⟩ := call_elim hm
    refine Wp.regD (plan := [(0, none), (1, none), (2, none), (3, none), (4, none), (5, none), (6, some []), (7, none)]) (by kernel_rfl) rfl (by kernel_rfl) fun K14 hK14 => ?_
    simp only [go_sem, simprocAttr]
    try refine ⟨by first | exact sd, ?_⟩
    refine Dr.callF (av := ?av15) (g := true) (o := ?o15) (fun hg => ok_disk_fileFault c_1.File _ hr_19) ?hk15 ?ha15 ?hb15 ?hp15 ?hok15 ?hf15 ?cont15
    case hk15 =>
      simp only [go_sem, simprocAttr]
      exact Is.mk
    case ha15 =>
      simp only [go_sem, simprocAttr]
      exact Is.mk
    case hb15 =>
      simp only [go_sem, simprocAttr]
      exact Is.mk
    case hp15 =>
      simp only [go_sem, simprocAttr]
      exact Is.mk
    case hok15 =>
      simp only [go_sem, simprocAttr]
    case hf15 =>
      simp only [go_sem, simprocAttr]
      exact Is.mk
    simp only [go_sem, simprocAttr]
    first
      | refine hK14 _ _ ?_
      | refine ⟨by first | exact sd, hK14 _ _ ?_⟩
    simp only [thenQ, blockQ, ↓reduceIte]
    refine hW4 _ _ _ _ ?_ (hcut4 (r_19, c_1.File.Path, c_1.File.Data, c_1.File.Runs, [], [], [], [], false, false) hm)
    simp only [go_sem, simprocAttr]
    try simp [encB, encI_i64, encI_u8, encS, enc_api_Change, enc_api_File, enc_api_Machine, enc_api_Service, enc_api_Setting, enc_disk_line, List.map_set, List.map_replicate]
  · have hm := brF hm (by first | exact hc13 | simpa using hc13)
    refine Wp.seqR fun K16 hK16 => ?_
    simp only [go_sem, simprocAttr]
    first
      | refine hK16 _ _ ?_
      | refine ⟨by first | exact sd, hK16 _ _ ?_⟩
    refine Wp.cond rfl ⟨⟩ (fun hc17 => ?_) (fun hc17 => ?_)
    · have hm := brT hm (by first | exact hc17 | simpa using hc17)
      obtain ⟨r_20, hr_20, hm⟩ := call_elim hm
      refine Wp.regD (plan := [(0, none), (1, none), (2, none), (3, none), (4, none), (5, none), (6, none), (7, none), (8, none), (9, none), (10, some []), (11, none)]) (by kernel_rfl) rfl (by kernel_rfl) fun K18 hK18 => ?_
      simp only [go_sem, simprocAttr]
      try refine ⟨by first | exact sd, ?_⟩
      refine Dr.callF (av := ?av19) (g := true) (o := ?o19) (fun hg => ok_disk_fileFault (api_File.mk c_1.File.Path [] false) _ hr_20) ?hk19 ?ha19 ?hb19 ?hp19 ?hok19 ?hf19 ?cont19
      case hk19 =>
        simp only [go_sem, simprocAttr]
        exact Is.mk
      case ha19 =>
        simp only [go_sem, simprocAttr]
        exact Is.mk
      case hb19 =>
        simp only [go_sem, simprocAttr]
        exact Is.mk
      case hp19 =>
        simp only [go_sem, simprocAttr]
        exact Is.mk
      case hok19 =>
        simp only [go_sem, simprocAttr]
      case hf19 =>
        simp only [go_sem, simprocAttr]
        exact Is.mk
      simp only [go_sem, simprocAttr]
      first
        | refine hK18 _ _ ?_
        | refine ⟨by first | exact sd, hK18 _ _ ?_⟩
      simp only [thenQ, blockQ, ↓reduceIte]
      refine hW4 _ _ _ _ ?_ (hcut4 (r_20, c_1.File.Path, [], false, [], [], [], [], false, false) hm)
      simp only [go_sem, simprocAttr]
      try simp [encB, encI_i64, encI_u8, encS, enc_api_Change, enc_api_File, enc_api_Machine, enc_api_Service, enc_api_Setting, enc_disk_line, List.map_set, List.map_replicate]
    · have hm := brF hm (by first | exact hc17 | simpa using hc17)
      refine Wp.seqR fun K20 hK20 => ?_
      simp only [go_sem, simprocAttr]
      first
        | refine hK20 _ _ ?_
        | refine ⟨by first | exact sd, hK20 _ _ ?_⟩
      refine Wp.cond rfl ⟨⟩ (fun hc21 => ?_) (fun hc21 => ?_)
      · have hm := brT hm (by first | exact hc21 | simpa using hc21)
        obtain ⟨r_21, hr_21, hm⟩ := call_elim hm
        refine Wp.regD (plan := [(0, none), (1, none), (2, none), (3, none), (4, none), (5, none), (6, some []), (7, none)]) (by kernel_rfl) rfl (by kernel_rfl) fun K22 hK22 => ?_
        simp only [go_sem, simprocAttr]
        try refine ⟨by first | exact sd, ?_⟩
        refine Dr.callF (av := ?av23) (g := true) (o := ?o23) (fun hg => ok_disk_settingFault_i2 c_1.Setting _ hr_21) ?hk23 ?ha23 ?hb23 ?hp23 ?hok23 ?hf23 ?cont23
        case hk23 =>
          simp only [go_sem, simprocAttr]
          exact Is.mk
        case ha23 =>
          simp only [go_sem, simprocAttr]
          exact Is.mk
        case hb23 =>
          simp only [go_sem, simprocAttr]
          exact Is.mk
        case hp23 =>
          simp only [go_sem, simprocAttr]
          exact Is.mk
        case hok23 =>
          simp only [go_sem, simprocAttr]
        case hf23 =>
          simp only [go_sem, simprocAttr]
          exact Is.mk
        simp only [go_sem, simprocAttr]
        first
          | refine hK22 _ _ ?_
          | refine ⟨by first | exact sd, hK22 _ _ ?_⟩
        simp only [thenQ, blockQ, ↓reduceIte]
        refine hW4 _ _ _ _ ?_ (hcut4 (r_21, [], [], false, c_1.Setting.Key, c_1.Setting.Value, [], [], false, false) hm)
        simp only [go_sem, simprocAttr]
        try simp [encB, encI_i64, encI_u8, encS, enc_api_Change, enc_api_File, enc_api_Machine, enc_api_Service, enc_api_Setting, enc_disk_line, List.map_set, List.map_replicate]
      · have hm := brF hm (by first | exact hc21 | simpa using hc21)
        refine Wp.seqR fun K24 hK24 => ?_
        simp only [go_sem, simprocAttr]
        first
          | refine hK24 _ _ ?_
          | refine ⟨by first | exact sd, hK24 _ _ ?_⟩
        refine Wp.cond rfl ⟨⟩ (fun hc25 => ?_) (fun hc25 => ?_)
        · have hm := brT hm (by first | exact hc25 | simpa using hc25)
          obtain ⟨r_22, hr_22, hm⟩ := call_elim hm
          refine Wp.regD (plan := [(0, none), (1, none), (2, none), (3, none), (4, none), (5, none), (6, none), (7, none), (8, none), (9, none), (10, some []), (11, none)]) (by kernel_rfl) rfl (by kernel_rfl) fun K26 hK26 => ?_
          simp only [go_sem, simprocAttr]
          try refine ⟨by first | exact sd, ?_⟩
          refine Dr.callF (av := ?av27) (g := true) (o := ?o27) (fun hg => ok_disk_settingFault_i2 (api_Setting.mk c_1.Setting.Key []) _ hr_22) ?hk27 ?ha27 ?hb27 ?hp27 ?hok27 ?hf27 ?cont27
          case hk27 =>
            simp only [go_sem, simprocAttr]
            exact Is.mk
          case ha27 =>
            simp only [go_sem, simprocAttr]
            exact Is.mk
          case hb27 =>
            simp only [go_sem, simprocAttr]
            exact Is.mk
          case hp27 =>
            simp only [go_sem, simprocAttr]
            exact Is.mk
          case hok27 =>
            simp only [go_sem, simprocAttr]
          case hf27 =>
            simp only [go_sem, simprocAttr]
            exact Is.mk
          simp only [go_sem, simprocAttr]
          first
            | refine hK26 _ _ ?_
            | refine ⟨by first | exact sd, hK26 _ _ ?_⟩
          simp only [thenQ, blockQ, ↓reduceIte]
          refine hW4 _ _ _ _ ?_ (hcut4 (r_22, [], [], false, c_1.Setting.Key, [], [], [], false, false) hm)
          simp only [go_sem, simprocAttr]
          try simp [encB, encI_i64, encI_u8, encS, enc_api_Change, enc_api_File, enc_api_Machine, enc_api_Service, enc_api_Setting, enc_disk_line, List.map_set, List.map_replicate]
        · have hm := brF hm (by first | exact hc25 | simpa using hc25)
          refine Wp.seqR fun K28 hK28 => ?_
          simp only [go_sem, simprocAttr]
          first
            | refine hK28 _ _ ?_
            | refine ⟨by first | exact sd, hK28 _ _ ?_⟩
          refine Wp.cond rfl ⟨⟩ (fun hc29 => ?_) (fun hc29 => ?_)
          · have hm := brT hm (by first | exact hc29 | simpa using hc29)
            obtain ⟨r_23, hr_23, hm⟩ := call_elim hm
            refine Wp.regD (plan := [(0, none), (1, none), (2, none), (3, none), (4, none), (5, none), (6, some []), (7, none)]) (by kernel_rfl) rfl (by kernel_rfl) fun K30 hK30 => ?_
            simp only [go_sem, simprocAttr]
            try refine ⟨by first | exact sd, ?_⟩
            refine Dr.callF (av := ?av31) (g := true) (o := ?o31) (fun hg => ok_disk_serviceFault c_1.Service _ hr_23) ?hk31 ?ha31 ?hb31 ?hp31 ?hok31 ?hf31 ?cont31
            case hk31 =>
              simp only [go_sem, simprocAttr]
              exact Is.mk
            case ha31 =>
              simp only [go_sem, simprocAttr]
              exact Is.mk
            case hb31 =>
              simp only [go_sem, simprocAttr]
              exact Is.mk
            case hp31 =>
              simp only [go_sem, simprocAttr]
              exact Is.mk
            case hok31 =>
              simp only [go_sem, simprocAttr]
            case hf31 =>
              simp only [go_sem, simprocAttr]
              exact Is.mk
            simp only [go_sem, simprocAttr]
            first
              | refine hK30 _ _ ?_
              | refine ⟨by first | exact sd, hK30 _ _ ?_⟩
            simp only [thenQ, blockQ, ↓reduceIte]
            refine hW4 _ _ _ _ ?_ (hcut4 (r_23, [], [], false, [], [], c_1.Service.Name, c_1.Service.Path, c_1.Service.Auto, c_1.Service.On) hm)
            simp only [go_sem, simprocAttr]
            try simp [encB, encI_i64, encI_u8, encS, enc_api_Change, enc_api_File, enc_api_Machine, enc_api_Service, enc_api_Setting, enc_disk_line, List.map_set, List.map_replicate]
          · have hm := brF hm (by first | exact hc29 | simpa using hc29)
            refine Wp.seqR fun K32 hK32 => ?_
            simp only [go_sem, simprocAttr]
            first
              | refine hK32 _ _ ?_
              | refine ⟨by first | exact sd, hK32 _ _ ?_⟩
            refine Wp.cond rfl ⟨⟩ (fun hc33 => ?_) (fun hc33 => ?_)
            · have hm := brT hm (by first | exact hc33 | simpa using hc33)
              refine Wp.seqR fun K34 hK34 => ?_
              simp only [go_sem, simprocAttr]
              first
                | refine hK34 _ _ ?_
                | refine ⟨by first | exact sd, hK34 _ _ ?_⟩
              obtain ⟨r_24, hr_24, hm⟩ := call_elim hm
              refine Wp.seqR fun K35 hK35 => ?_
              simp only [go_sem, simprocAttr]
              try refine ⟨by first | exact sd, ?_⟩
              refine Rg.callX (av := ?av36) (g := true) (fun hg => ok_ver_IsName c_1.Service.Name _ hr_24) ?ha36 ?hb36 ?hp36 ?hok36 ?hf36 ?cont36
              case ha36 =>
                simp only [go_sem, simprocAttr]
                exact Is.mk
              case hb36 =>
                simp only [go_sem, simprocAttr]
                exact Is.mk
              case hp36 =>
                simp only [go_sem, simprocAttr]
                exact Is.mk
              case hok36 =>
                simp only [go_sem, simprocAttr]
              case hf36 =>
                simp only [go_sem, simprocAttr]
                exact Is.mk
              intro hv36
              simp only [go_sem, simprocAttr]
              first
                | refine hK35 _ _ ?_
                | refine ⟨by first | exact sd, hK35 _ _ ?_⟩
              refine Wp.cond rfl ⟨⟩ (fun hc37 => ?_) (fun hc37 => ?_)
              · have hm := brT hm (by first | exact hc37 | simpa using hc37)
                refine Wp.region fun K38 hK38 => ?_
                simp only [go_sem, simprocAttr]
                first
                  | refine hK38 _ _ ?_
                  | refine ⟨by first | exact sd, hK38 _ _ ?_⟩
                simp only [thenQ, blockQ, ↓reduceIte]
                refine hW4 _ _ _ _ ?_ (hcut4 (5, [], [], false, [], [], c_1.Service.Name, [], false, false) hm)
                simp only [go_sem, simprocAttr]
                try simp [encB, encI_i64, encI_u8, encS, enc_api_Change, enc_api_File, enc_api_Machine, enc_api_Service, enc_api_Setting, enc_disk_line, List.map_set, List.map_replicate]
              · have hm := brF hm (by first | exact hc37 | simpa using hc37)
                refine Wp.skip ?_
                simp only [thenQ, blockQ, ↓reduceIte]
                refine hW4 _ _ _ _ ?_ (hcut4 (0, [], [], false, [], [], c_1.Service.Name, [], false, false) hm)
                simp only [go_sem, simprocAttr]
                try simp [encB, encI_i64, encI_u8, encS, enc_api_Change, enc_api_File, enc_api_Machine, enc_api_Service, enc_api_Setting, enc_disk_line, List.map_set, List.map_replicate]
            · have hm := brF hm (by first | exact hc33 | simpa using hc33)
              refine Wp.seqR fun K39 hK39 => ?_
              simp only [go_sem, simprocAttr]
              first
                | refine hK39 _ _ ?_
                | refine ⟨by first | exact sd, hK39 _ _ ?_⟩
              refine Wp.ret ?_
              simp only [thenQ, blockQ]
              refine retQ_ret ?_
              cases hm
              simp only [go_sem, simprocAttr]
              try simp [encB, encI_i64, encI_u8, encS, enc_api_Change, enc_api_File, enc_api_Machine, enc_api_Service, enc_api_Setting, enc_disk_line, List.map_set, List.map_replicate]
set_option maxRecDepth 100000 in
set_option maxHeartbeats 4000000 in
theorem ok_disk_changesFault (l_1 : List api_Change) (z : Int) (hm : disk_changesFault l_1 = some z) : Does Tryd.prog 70 [.p (.l (List.map enc_api_Change l_1))] [] (fun r X => r = .p (.i .i64 z) ∧ X = []) := by
  unfold disk_changesFault at hm
  refine Does.of_wp 0 18 [.tmp 2] Tryd.func70 rfl (by decide) rfl rfl (Nat.le_of_ble_eq_true rfl) fun B => ?_
  refine Wp.seqR fun K1 hK1 => ?_
  simp only [go_sem, simprocAttr]
  first
    | refine hK1 _ _ ?_
    | refine ⟨by first | exact sd, hK1 _ _ ?_⟩
  refine Wp.seqW fun K2 hK2 hW2 => ?_
  obtain ⟨k_11, hk_11, hm⟩ := jp_elim hm
  have hcut2 : ∀ s, k_11 s = some z → K2 [] [] := by
    intro s hs
    have hm := hk_11 _ hs
    clear hs
    try dsimp only at hm
    try dsimp only
    refine hK2 _ _ ?_
    refine Wp.seqR fun K3 hK3 => ?_
    simp only [go_sem, simprocAttr]
    first
      | refine hK3 _ _ ?_
      | refine ⟨by first | exact sd, hK3 _ _ ?_⟩
    refine Wp.ret ?_
    refine retQ_ret ?_
    cases hm
    simp only [go_sem, simprocAttr]
    try simp [encB, encI_i64, encI_u8, encS, enc_api_Change, enc_api_File, enc_api_Machine, enc_api_Service, enc_api_Setting, enc_disk_line, List.map_set, List.map_replicate]
  clear hK2 hk_11
  refine Wp.seqR fun K4 hK4 => ?_
  simp only [go_sem, simprocAttr]
  first
    | refine hK4 _ _ ?_
    | refine ⟨by first | exact sd, hK4 _ _ ?_⟩
  refine Wp.block ?_
  obtain ⟨k_15, hk_15, hm⟩ := forL_cont hm
  refine Wp.fact 6 fun hl_18 => ?_
  replace hl_18 : l_1.length ≤ 274877906944 := by
    simp only [go_sem, simprocAttr, List.length_map] at hl_18
    omega
  refine Wp.forL (fun i_17 s => [(6, .p (.l (List.map enc_api_Change l_1))), (7, .p (.i .i64 (l_1.length : Int))), (8, .p (.i .i64 (i_17 : Int)))]) (fun i_17 s => []) ?_ hm ?_
  ·
    simp only [go_sem, simprocAttr]
    try simp [encB, encI_i64, encI_u8, encS, enc_api_Change, enc_api_File, enc_api_Machine, enc_api_Service, enc_api_Setting, enc_disk_line, List.map_set, List.map_replicate]
  clear hm
  intro i_17 s hii_17 hm
  try dsimp only at hm
  try dsimp only
  refine Wp.seqR fun K5 hK5 => ?_
  simp only [go_sem, simprocAttr]
  first
    | refine hK5 _ _ ?_
    | refine ⟨by first | exact sd, hK5 _ _ ?_⟩
  refine Wp.seqW fun K6 hK6 hW6 => ?_
  refine Wp.cond rfl ⟨⟩ (fun hc6 => ?_) (fun hc6 => ?_)
  rotate_left
  · refine Wp.exit ?_
    have hm := hk_15 _ (forL_end hm (ge_nat (by first | exact hc6 | simpa using hc6)))
    try dsimp only at hm
    simp only [thenQ, blockQ, ↓reduceIte]
    refine hW2 _ _ _ _ ?_ (hcut2 () hm)
    simp only [go_sem, simprocAttr]
    try simp [encB, encI_i64, encI_u8, encS, enc_api_Change, enc_api_File, enc_api_Machine, enc_api_Service, enc_api_Setting, enc_disk_line, List.map_set, List.map_replicate]
  have hlt6 := lt_nat (by first | exact hc6 | simpa using hc6)
  have hw6 := wrap_succ hlt6 hl_18
  obtain ⟨c_19, nx_16, hxc_19, hyc_19, hnx_16, hm⟩ := forL_step hm hlt6
  replace hxc_19 := hxc_19 enc_api_Change
  refine Wp.skip ?_
  simp only [thenQ]
  refine hK6 _ _ ?_
  refine Wp.seqW fun K7 hK7 hW7 => ?_
  refine Wp.block ?_
  refine Wp.seqR fun K8 hK8 => ?_
  simp only [go_sem, simprocAttr, hw6, hxc_19]
  first
    | refine hK8 _ _ ?_
    | refine ⟨by first | exact sd, hK8 _ _ ?_⟩
  obtain ⟨r_20, hr_20, hm⟩ := call_elim hm
  refine Wp.seqR fun K9 hK9 => ?_
  simp only [go_sem, simprocAttr, hw6, hxc_19]
  try refine ⟨by first | exact sd, ?_⟩
  refine Rg.callX (av := ?av10) (g := true) (fun hg => ok_disk_CheckChange c_19 _ hr_20) ?ha10 ?hb10 ?hp10 ?hok10 ?hf10 ?cont10
  case ha10 =>
    simp only [go_sem, simprocAttr, hw6, hxc_19]
    exact Is.mk
  case hb10 =>
    simp only [go_sem, simprocAttr, hw6, hxc_19]
    exact Is.mk
  case hp10 =>
    simp only [go_sem, simprocAttr, hw6, hxc_19]
    exact Is.mk
  case hok10 =>
    simp only [go_sem, simprocAttr, hw6, hxc_19]
  case hf10 =>
    simp only [go_sem, simprocAttr, hw6, hxc_19]
    exact Is.mk
  intro hv10
  simp only [go_sem, simprocAttr, hw6, hxc_19]
  first
    | refine hK9 _ _ ?_
    | refine ⟨by first | exact sd, hK9 _ _ ?_⟩
  refine Wp.seqR fun K11 hK11 => ?_
  simp only [go_sem, simprocAttr, hw6, hxc_19]
  first
    | refine hK11 _ _ ?_
    | refine ⟨by first | exact sd, hK11 _ _ ?_⟩
  refine Wp.cond rfl ⟨⟩ (fun hc12 => ?_) (fun hc12 => ?_)
  · have hm := brT hm (by first | exact hc12 | simpa using hc12)
    refine Wp.seqR fun K13 hK13 => ?_
    simp only [go_sem, simprocAttr, hw6, hxc_19]
    first
      | refine hK13 _ _ ?_
      | refine ⟨by first | exact sd, hK13 _ _ ?_⟩
    refine Wp.ret ?_
    simp only [thenQ, blockQ]
    refine retQ_ret ?_
    cases hm
    simp only [go_sem, simprocAttr, hw6, hxc_19]
    try simp [encB, encI_i64, encI_u8, encS, enc_api_Change, enc_api_File, enc_api_Machine, enc_api_Service, enc_api_Setting, enc_disk_line, List.map_set, List.map_replicate]
  · have hm := brF hm (by first | exact hc12 | simpa using hc12)
    refine Wp.skip ?_
    simp only [thenQ, blockQ, ↓reduceIte]
    refine hK7 _ _ ?_
    refine Wp.region fun K14 hK14 => ?_
    simp only [go_sem, simprocAttr, hw6, hxc_19]
    first
      | refine hK14 _ _ ?_
      | refine ⟨by first | exact sd, hK14 _ _ ?_⟩
    simp only [thenQ, blockQ, ↓reduceIte]
    refine ⟨(), hlt6, hnx_16 _ hm, ?_⟩
    simp only [go_sem, simprocAttr, hw6, hxc_19]
    try simp [encB, encI_i64, encI_u8, encS, enc_api_Change, enc_api_File, enc_api_Machine, enc_api_Service, enc_api_Setting, enc_disk_line, List.map_set, List.map_replicate]
set_option maxRecDepth 100000 in
set_option maxHeartbeats 4000000 in
theorem ok_disk_PrintChanges (l_1 : List api_Change) (z : Str × Int) (hm : disk_PrintChanges l_1 = some z) : Does Tryd.prog 18 [.p (.l (List.map enc_api_Change l_1))] [] (fun r X => r = .tup [.p (.s z.1), .p (.i .i64 z.2)] ∧ X = []) := by
  unfold disk_PrintChanges at hm
  refine Does.of_wp 0 66 [.tmp 2, .tmp 3] Tryd.func18 rfl (by decide) rfl rfl (Nat.le_of_ble_eq_true rfl) fun B => ?_
  refine Wp.seqR fun K1 hK1 => ?_
  simp only [go_sem, simprocAttr]
  first
    | refine hK1 _ _ ?_
    | refine ⟨by first | exact sd, hK1 _ _ ?_⟩
  refine Wp.seqW fun K2 hK2 hW2 => ?_
  obtain ⟨r_2, hr_2, hm⟩ := call_elim hm
  refine Wp.seqR fun K3 hK3 => ?_
  simp only [go_sem, simprocAttr]
  try refine ⟨by first | exact sd, ?_⟩
  refine Rg.callX (av := ?av4) (g := true) (fun hg => ok_disk_changesFault l_1 _ hr_2) ?ha4 ?hb4 ?hp4 ?hok4 ?hf4 ?cont4
  case ha4 =>
    simp only [go_sem, simprocAttr]
    exact Is.mk
  case hb4 =>
    simp only [go_sem, simprocAttr]
    exact Is.mk
  case hp4 =>
    simp only [go_sem, simprocAttr]
    exact Is.mk
  case hok4 =>
    simp only [go_sem, simprocAttr]
  case hf4 =>
    simp only [go_sem, simprocAttr]
    exact Is.mk
  intro hv4
  simp only [go_sem, simprocAttr]
  first
    | refine hK3 _ _ ?_
    | refine ⟨by first | exact sd, hK3 _ _ ?_⟩
  refine Wp.seqR fun K5 hK5 => ?_
  simp only [go_sem, simprocAttr]
  first
    | refine hK5 _ _ ?_
    | refine ⟨by first | exact sd, hK5 _ _ ?_⟩
  refine Wp.cond rfl ⟨⟩ (fun hc6 => ?_) (fun hc6 => ?_)
  · have hm := brT hm (by first | exact hc6 | simpa using hc6)
    refine Wp.seqR fun K7 hK7 => ?_
    simp only [go_sem, simprocAttr]
    first
      | refine hK7 _ _ ?_
      | refine ⟨by first | exact sd, hK7 _ _ ?_⟩
    refine Wp.ret ?_
    simp only [thenQ, blockQ]
    refine retQ_ret ?_
    cases hm
    simp only [go_sem, simprocAttr]
    try simp [encB, encI_i64, encI_u8, encS, enc_api_Change, enc_api_File, enc_api_Machine, enc_api_Service, enc_api_Setting, enc_disk_line, List.map_set, List.map_replicate]
  · have hm := brF hm (by first | exact hc6 | simpa using hc6)
    refine Wp.skip ?_
    simp only [thenQ, blockQ, ↓reduceIte]
    refine hK2 _ _ ?_
    refine Wp.seqR fun K8 hK8 => ?_
    simp only [go_sem, simprocAttr]
    first
      | refine hK8 _ _ ?_
      | refine ⟨by first | exact sd, hK8 _ _ ?_⟩
    refine Wp.adoptB 0 5 rfl ?_
    simp only [go_sem, simprocAttr]
    refine Wp.seqW fun K9 hK9 hW9 => ?_
    obtain ⟨k_59, hk_59, hm⟩ := jp_elim hm
    have hcut9 : ∀ s, k_59 s = some z → K9 [(5, .ptr 0 0)] [.cells 110 [.np 0, .buf 1], .sb 5 s] := by
      intro o1_58 hs
      have hm := hk_59 _ hs
      clear hs
      try dsimp only at hm
      try dsimp only
      refine hK9 _ _ ?_
      obtain ⟨r_60, hr_60, hm⟩ := call_elim hm
      obtain ⟨r_61, hr_61, hm⟩ := call_elim hm
      refine Wp.seqR fun K10 hK10 => ?_
      simp only [go_sem, simprocAttr]
      try refine ⟨by first | exact sd, ?_⟩
      refine Rg.callO (av := ?av11) [0, 1] (ok_strings_Builder_String_i1 o1_58 _ hr_60) ?ha11 ?hp11 ?hX11 ?hids11 ?hok11 ?cont11
      case ha11 =>
        simp only [go_sem, simprocAttr]
        exact Is.mk
      case hp11 =>
        simp only [go_sem, simprocAttr]
        exact Is.mk
      case hX11 =>
        simp only [go_sem, simprocAttr]
        exact Is.mk
      case hids11 => simp only [go_sem, simprocAttr]
      case hok11 => simp only [go_sem, simprocAttr]
      rintro _ _ ⟨rfl, rfl⟩ hv11
      simp only [go_sem, simprocAttr]
      try refine ⟨by first | exact sd, ?_⟩
      refine Rg.callX (av := ?av12) (g := true) (fun hg => ok_disk_sized r_60 _ hr_61) ?ha12 ?hb12 ?hp12 ?hok12 ?hf12 ?cont12
      case ha12 =>
        simp only [go_sem, simprocAttr]
        exact Is.mk
      case hb12 =>
        simp only [go_sem, simprocAttr]
        exact Is.mk
      case hp12 =>
        simp only [go_sem, simprocAttr]
        exact Is.mk
      case hok12 =>
        simp only [go_sem, simprocAttr]
      case hf12 =>
        simp only [go_sem, simprocAttr]
        exact Is.mk
      intro hv12
      simp only [go_sem, simprocAttr]
      first
        | refine hK10 _ _ ?_
        | refine ⟨by first | exact sd, hK10 _ _ ?_⟩
      refine Wp.ret ?_
      refine retQ_ret ?_
      cases hm
      simp only [go_sem, simprocAttr]
      try simp [encB, encI_i64, encI_u8, encS, enc_api_Change, enc_api_File, enc_api_Machine, enc_api_Service, enc_api_Setting, enc_disk_line, List.map_set, List.map_replicate]
    clear hK9 hk_59
    refine Wp.seqR fun K13 hK13 => ?_
    simp only [go_sem, simprocAttr]
    first
      | refine hK13 _ _ ?_
      | refine ⟨by first | exact sd, hK13 _ _ ?_⟩
    refine Wp.block ?_
    obtain ⟨k_97, hk_97, hm⟩ := forL_cont hm
    refine Wp.fact 13 fun hl_100 => ?_
    replace hl_100 : l_1.length ≤ 274877906944 := by
      simp only [go_sem, simprocAttr, List.length_map] at hl_100
      omega
    refine Wp.forL (fun i_99 s => [(5, .ptr 0 0), (13, .p (.l (List.map enc_api_Change l_1))), (14, .p (.i .i64 (l_1.length : Int))), (15, .p (.i .i64 (i_99 : Int)))]) (fun i_99 s => [.cells 110 [.np 0, .buf 1], .sb 5 s]) ?_ hm ?_
    ·
      simp only [go_sem, simprocAttr]
      try simp [encB, encI_i64, encI_u8, encS, enc_api_Change, enc_api_File, enc_api_Machine, enc_api_Service, enc_api_Setting, enc_disk_line, List.map_set, List.map_replicate]
    clear hm
    intro i_99 o1_80 hii_99 hm
    try dsimp only at hm
    try dsimp only
    refine Wp.seqR fun K14 hK14 => ?_
    simp only [go_sem, simprocAttr]
    first
      | refine hK14 _ _ ?_
      | refine ⟨by first | exact sd, hK14 _ _ ?_⟩
    refine Wp.seqW fun K15 hK15 hW15 => ?_
    refine Wp.cond rfl ⟨⟩ (fun hc15 => ?_) (fun hc15 => ?_)
    rotate_left
    · refine Wp.exit ?_
      have hm := hk_97 _ (forL_end hm (ge_nat (by first | exact hc15 | simpa using hc15)))
      try dsimp only at hm
      simp only [thenQ, blockQ, ↓reduceIte]
      refine hW9 _ _ _ _ ?_ (hcut9 o1_80 hm)
      simp only [go_sem, simprocAttr]
      try simp [encB, encI_i64, encI_u8, encS, enc_api_Change, enc_api_File, enc_api_Machine, enc_api_Service, enc_api_Setting, enc_disk_line, List.map_set, List.map_replicate]
    have hlt15 := lt_nat (by first | exact hc15 | simpa using hc15)
    have hw15 := wrap_succ hlt15 hl_100
    obtain ⟨c_101, nx_98, hxc_101, hyc_101, hnx_98, hm⟩ := forL_step hm hlt15
    replace hxc_101 := hxc_101 enc_api_Change
    refine Wp.skip ?_
    simp only [thenQ]
    refine hK15 _ _ ?_
    refine Wp.seqW fun K16 hK16 hW16 => ?_
    refine Wp.block ?_
    refine Wp.seqR fun K17 hK17 => ?_
    simp only [go_sem, simprocAttr, hw15, hxc_101]
    first
      | refine hK17 _ _ ?_
      | refine ⟨by first | exact sd, hK17 _ _ ?_⟩
    refine Wp.seqR fun K18 hK18 => ?_
    simp only [go_sem, simprocAttr, hw15, hxc_101]
    first
      | refine hK18 _ _ ?_
      | refine ⟨by first | exact sd, hK18 _ _ ?_⟩
    refine Wp.block ?_
    refine Wp.seqR fun K19 hK19 => ?_
    simp only [go_sem, simprocAttr, hw15, hxc_101]
    first
      | refine hK19 _ _ ?_
      | refine ⟨by first | exact sd, hK19 _ _ ?_⟩
    refine Wp.cond rfl ⟨⟩ (fun hc20 => ?_) (fun hc20 => ?_)
    · have hm := brT hm (by first | exact hc20 | simpa using hc20)
      obtain ⟨r_102, hr_102, hm⟩ := call_elim hm
      obtain ⟨r_103, hr_103, hm⟩ := call_elim hm
      refine Wp.region fun K21 hK21 => ?_
      simp only [go_sem, simprocAttr, hw15, hxc_101]
      try refine ⟨by first | exact sd, ?_⟩
      refine Rg.callX (av := ?av22) (g := true) (fun hg => ok_disk_fileLine ([112, 117, 116] : Str) ([112, 117, 116, 114, 117, 110] : Str) c_101.File _ hr_102) ?ha22 ?hb22 ?hp22 ?hok22 ?hf22 ?cont22
      case ha22 =>
        simp only [go_sem, simprocAttr, hw15, hxc_101]
        exact Is.mk
      case hb22 =>
        simp only [go_sem, simprocAttr, hw15, hxc_101]
        exact Is.mk
      case hp22 =>
        simp only [go_sem, simprocAttr, hw15, hxc_101]
        exact Is.mk
      case hok22 =>
        simp only [go_sem, simprocAttr, hw15, hxc_101]
      case hf22 =>
        simp only [go_sem, simprocAttr, hw15, hxc_101]
        exact Is.mk
      intro hv22
      simp only [go_sem, simprocAttr, hw15, hxc_101]
      try refine ⟨by first | exact sd, ?_⟩
      refine Rg.callO (av := ?av23) [0, 1] (ok_strings_Builder_WriteString_i1 r_102 o1_80 _ hr_103) ?ha23 ?hp23 ?hX23 ?hids23 ?hok23 ?cont23
      case ha23 =>
        simp only [go_sem, simprocAttr, hw15, hxc_101]
        exact Is.mk
      case hp23 =>
        simp only [go_sem, simprocAttr, hw15, hxc_101]
        exact Is.mk
      case hX23 =>
        simp only [go_sem, simprocAttr, hw15, hxc_101]
        exact Is.mk
      case hids23 => simp only [go_sem, simprocAttr, hw15, hxc_101]
      case hok23 => simp only [go_sem, simprocAttr, hw15, hxc_101]
      rintro _ _ ⟨rfl, rfl⟩ hv23
      simp only [go_sem, simprocAttr, hw15, hxc_101]
      first
        | refine hK21 _ _ ?_
        | refine ⟨by first | exact sd, hK21 _ _ ?_⟩
      simp only [thenQ, blockQ, ↓reduceIte]
      refine hK16 _ _ ?_
      refine Wp.region fun K24 hK24 => ?_
      simp only [go_sem, simprocAttr, hw15, hxc_101]
      first
        | refine hK24 _ _ ?_
        | refine ⟨by first | exact sd, hK24 _ _ ?_⟩
      simp only [thenQ, blockQ, ↓reduceIte]
      refine ⟨r_103.2, hlt15, hnx_98 _ hm, ?_⟩
      simp only [go_sem, simprocAttr, hw15, hxc_101]
      try simp [encB, encI_i64, encI_u8, encS, enc_api_Change, enc_api_File, enc_api_Machine, enc_api_Service, enc_api_Setting, enc_disk_line, List.map_set, List.map_replicate]
    · have hm := brF hm (by first | exact hc20 | simpa using hc20)
      refine Wp.seqR fun K25 hK25 => ?_
      simp only [go_sem, simprocAttr, hw15, hxc_101]
      first
        | refine hK25 _ _ ?_
        | refine ⟨by first | exact sd, hK25 _ _ ?_⟩
      refine Wp.cond rfl ⟨⟩ (fun hc26 => ?_) (fun hc26 => ?_)
      · have hm := brT hm (by first | exact hc26 | simpa using hc26)
        obtain ⟨c_104, hm⟩ := chk_elim hm
        obtain ⟨c_105, hm⟩ := chk_elim hm
        obtain ⟨r_106, hr_106, hm⟩ := call_elim hm
        refine Wp.region fun K27 hK27 => ?_
        simp only [go_sem, simprocAttr, hw15, hxc_101]
        try refine ⟨by first | exact sd | ((repeat' apply And.intro) <;> first | assumption | omega | (simp only [List.length_append, List.length_map, List.length_cons, List.length_nil, List.length_set, List.length_replicate] at c_104 c_105 ⊢; omega)), ?_⟩
        refine Rg.callO (av := ?av28) [0, 1] (ok_strings_Builder_WriteString_i1 ((([114, 101, 109, 111, 118, 101, 32] : Str) ++ c_101.File.Path) ++ ([10] : Str)) o1_80 _ hr_106) ?ha28 ?hp28 ?hX28 ?hids28 ?hok28 ?cont28
        case ha28 =>
          simp only [go_sem, simprocAttr, hw15, hxc_101]
          exact Is.mk
        case hp28 =>
          simp only [go_sem, simprocAttr, hw15, hxc_101]
          exact Is.mk
        case hX28 =>
          simp only [go_sem, simprocAttr, hw15, hxc_101]
          exact Is.mk
        case hids28 => simp only [go_sem, simprocAttr, hw15, hxc_101]
        case hok28 => simp only [go_sem, simprocAttr, hw15, hxc_101]
        rintro _ _ ⟨rfl, rfl⟩ hv28
        simp only [go_sem, simprocAttr, hw15, hxc_101]
        first
          | refine hK27 _ _ ?_
          | refine ⟨by first | exact sd | ((repeat' apply And.intro) <;> first | assumption | omega | (simp only [List.length_append, List.length_map, List.length_cons, List.length_nil, List.length_set, List.length_replicate] at c_104 c_105 ⊢; omega)), hK27 _ _ ?_⟩
        simp only [thenQ, blockQ, ↓reduceIte]
        refine hK16 _ _ ?_
        refine Wp.region fun K29 hK29 => ?_
        simp only [go_sem, simprocAttr, hw15, hxc_101]
        first
          | refine hK29 _ _ ?_
          | refine ⟨by first | exact sd, hK29 _ _ ?_⟩
        simp only [thenQ, blockQ, ↓reduceIte]
        refine ⟨r_106.2, hlt15, hnx_98 _ hm, ?_⟩
        simp only [go_sem, simprocAttr, hw15, hxc_101]
        try simp [encB, encI_i64, encI_u8, encS, enc_api_Change, enc_api_File, enc_api_Machine, enc_api_Service, enc_api_Setting, enc_disk_line, List.map_set, List.map_replicate]
      · have hm := brF hm (by first | exact hc26 | simpa using hc26)
        refine Wp.seqR fun K30 hK30 => ?_
        simp only [go_sem, simprocAttr, hw15, hxc_101]
        first
          | refine hK30 _ _ ?_
          | refine ⟨by first | exact sd, hK30 _ _ ?_⟩
        refine Wp.cond rfl ⟨⟩ (fun hc31 => ?_) (fun hc31 => ?_)
        · have hm := brT hm (by first | exact hc31 | simpa using hc31)
          obtain ⟨r_107, hr_107, hm⟩ := call_elim hm
          obtain ⟨r_108, hr_108, hm⟩ := call_elim hm
          refine Wp.region fun K32 hK32 => ?_
          simp only [go_sem, simprocAttr, hw15, hxc_101]
          try refine ⟨by first | exact sd, ?_⟩
          refine Rg.callX (av := ?av33) (g := true) (fun hg => ok_disk_settingLine ([115, 101, 116] : Str) c_101.Setting _ hr_107) ?ha33 ?hb33 ?hp33 ?hok33 ?hf33 ?cont33
          case ha33 =>
            simp only [go_sem, simprocAttr, hw15, hxc_101]
            exact Is.mk
          case hb33 =>
            simp only [go_sem, simprocAttr, hw15, hxc_101]
            exact Is.mk
          case hp33 =>
            simp only [go_sem, simprocAttr, hw15, hxc_101]
            exact Is.mk
          case hok33 =>
            simp only [go_sem, simprocAttr, hw15, hxc_101]
          case hf33 =>
            simp only [go_sem, simprocAttr, hw15, hxc_101]
            exact Is.mk
          intro hv33
          simp only [go_sem, simprocAttr, hw15, hxc_101]
          try refine ⟨by first | exact sd, ?_⟩
          refine Rg.callO (av := ?av34) [0, 1] (ok_strings_Builder_WriteString_i1 r_107 o1_80 _ hr_108) ?ha34 ?hp34 ?hX34 ?hids34 ?hok34 ?cont34
          case ha34 =>
            simp only [go_sem, simprocAttr, hw15, hxc_101]
            exact Is.mk
          case hp34 =>
            simp only [go_sem, simprocAttr, hw15, hxc_101]
            exact Is.mk
          case hX34 =>
            simp only [go_sem, simprocAttr, hw15, hxc_101]
            exact Is.mk
          case hids34 => simp only [go_sem, simprocAttr, hw15, hxc_101]
          case hok34 => simp only [go_sem, simprocAttr, hw15, hxc_101]
          rintro _ _ ⟨rfl, rfl⟩ hv34
          simp only [go_sem, simprocAttr, hw15, hxc_101]
          first
            | refine hK32 _ _ ?_
            | refine ⟨by first | exact sd, hK32 _ _ ?_⟩
          simp only [thenQ, blockQ, ↓reduceIte]
          refine hK16 _ _ ?_
          refine Wp.region fun K35 hK35 => ?_
          simp only [go_sem, simprocAttr, hw15, hxc_101]
          first
            | refine hK35 _ _ ?_
            | refine ⟨by first | exact sd, hK35 _ _ ?_⟩
          simp only [thenQ, blockQ, ↓reduceIte]
          refine ⟨r_108.2, hlt15, hnx_98 _ hm, ?_⟩
          simp only [go_sem, simprocAttr, hw15, hxc_101]
          try simp [encB, encI_i64, encI_u8, encS, enc_api_Change, enc_api_File, enc_api_Machine, enc_api_Service, enc_api_Setting, enc_disk_line, List.map_set, List.map_replicate]
        · have hm := brF hm (by first | exact hc31 | simpa using hc31)
          refine Wp.seqR fun K36 hK36 => ?_
          simp only [go_sem, simprocAttr, hw15, hxc_101]
          first
            | refine hK36 _ _ ?_
            | refine ⟨by first | exact sd, hK36 _ _ ?_⟩
          refine Wp.cond rfl ⟨⟩ (fun hc37 => ?_) (fun hc37 => ?_)
          · have hm := brT hm (by first | exact hc37 | simpa using hc37)
            obtain ⟨c_109, hm⟩ := chk_elim hm
            obtain ⟨c_110, hm⟩ := chk_elim hm
            obtain ⟨r_111, hr_111, hm⟩ := call_elim hm
            refine Wp.region fun K38 hK38 => ?_
            simp only [go_sem, simprocAttr, hw15, hxc_101]
            try refine ⟨by first | exact sd | ((repeat' apply And.intro) <;> first | assumption | omega | (simp only [List.length_append, List.length_map, List.length_cons, List.length_nil, List.length_set, List.length_replicate] at c_109 c_110 ⊢; omega)), ?_⟩
            refine Rg.callO (av := ?av39) [0, 1] (ok_strings_Builder_WriteString_i1 ((([117, 110, 115, 101, 116, 32] : Str) ++ c_101.Setting.Key) ++ ([10] : Str)) o1_80 _ hr_111) ?ha39 ?hp39 ?hX39 ?hids39 ?hok39 ?cont39
            case ha39 =>
              simp only [go_sem, simprocAttr, hw15, hxc_101]
              exact Is.mk
            case hp39 =>
              simp only [go_sem, simprocAttr, hw15, hxc_101]
              exact Is.mk
            case hX39 =>
              simp only [go_sem, simprocAttr, hw15, hxc_101]
              exact Is.mk
            case hids39 => simp only [go_sem, simprocAttr, hw15, hxc_101]
            case hok39 => simp only [go_sem, simprocAttr, hw15, hxc_101]
            rintro _ _ ⟨rfl, rfl⟩ hv39
            simp only [go_sem, simprocAttr, hw15, hxc_101]
            first
              | refine hK38 _ _ ?_
              | refine ⟨by first | exact sd | ((repeat' apply And.intro) <;> first | assumption | omega | (simp only [List.length_append, List.length_map, List.length_cons, List.length_nil, List.length_set, List.length_replicate] at c_109 c_110 ⊢; omega)), hK38 _ _ ?_⟩
            simp only [thenQ, blockQ, ↓reduceIte]
            refine hK16 _ _ ?_
            refine Wp.region fun K40 hK40 => ?_
            simp only [go_sem, simprocAttr, hw15, hxc_101]
            first
              | refine hK40 _ _ ?_
              | refine ⟨by first | exact sd, hK40 _ _ ?_⟩
            simp only [thenQ, blockQ, ↓reduceIte]
            refine ⟨r_111.2, hlt15, hnx_98 _ hm, ?_⟩
            simp only [go_sem, simprocAttr, hw15, hxc_101]
            try simp [encB, encI_i64, encI_u8, encS, enc_api_Change, enc_api_File, enc_api_Machine, enc_api_Service, enc_api_Setting, enc_disk_line, List.map_set, List.map_replicate]
          · have hm := brF hm (by first | exact hc37 | simpa using hc37)
            refine Wp.seqR fun K41 hK41 => ?_
            simp only [go_sem, simprocAttr, hw15, hxc_101]
            first
              | refine hK41 _ _ ?_
              | refine ⟨by first | exact sd, hK41 _ _ ?_⟩
            refine Wp.cond rfl ⟨⟩ (fun hc42 => ?_) (fun hc42 => ?_)
            · have hm := brT hm (by first | exact hc42 | simpa using hc42)
              obtain ⟨r_112, hr_112, hm⟩ := call_elim hm
              obtain ⟨r_113, hr_113, hm⟩ := call_elim hm
              refine Wp.region fun K43 hK43 => ?_
              simp only [go_sem, simprocAttr, hw15, hxc_101]
              try refine ⟨by first | exact sd, ?_⟩
              refine Rg.callX (av := ?av44) (g := true) (fun hg => ok_disk_serviceLine c_101.Service _ hr_112) ?ha44 ?hb44 ?hp44 ?hok44 ?hf44 ?cont44
              case ha44 =>
                simp only [go_sem, simprocAttr, hw15, hxc_101]
                exact Is.mk
              case hb44 =>
                simp only [go_sem, simprocAttr, hw15, hxc_101]
                exact Is.mk
              case hp44 =>
                simp only [go_sem, simprocAttr, hw15, hxc_101]
                exact Is.mk
              case hok44 =>
                simp only [go_sem, simprocAttr, hw15, hxc_101]
              case hf44 =>
                simp only [go_sem, simprocAttr, hw15, hxc_101]
                exact Is.mk
              intro hv44
              simp only [go_sem, simprocAttr, hw15, hxc_101]
              try refine ⟨by first | exact sd, ?_⟩
              refine Rg.callO (av := ?av45) [0, 1] (ok_strings_Builder_WriteString_i1 r_112 o1_80 _ hr_113) ?ha45 ?hp45 ?hX45 ?hids45 ?hok45 ?cont45
              case ha45 =>
                simp only [go_sem, simprocAttr, hw15, hxc_101]
                exact Is.mk
              case hp45 =>
                simp only [go_sem, simprocAttr, hw15, hxc_101]
                exact Is.mk
              case hX45 =>
                simp only [go_sem, simprocAttr, hw15, hxc_101]
                exact Is.mk
              case hids45 => simp only [go_sem, simprocAttr, hw15, hxc_101]
              case hok45 => simp only [go_sem, simprocAttr, hw15, hxc_101]
              rintro _ _ ⟨rfl, rfl⟩ hv45
              simp only [go_sem, simprocAttr, hw15, hxc_101]
              first
                | refine hK43 _ _ ?_
                | refine ⟨by first | exact sd, hK43 _ _ ?_⟩
              simp only [thenQ, blockQ, ↓reduceIte]
              refine hK16 _ _ ?_
              refine Wp.region fun K46 hK46 => ?_
              simp only [go_sem, simprocAttr, hw15, hxc_101]
              first
                | refine hK46 _ _ ?_
                | refine ⟨by first | exact sd, hK46 _ _ ?_⟩
              simp only [thenQ, blockQ, ↓reduceIte]
              refine ⟨r_113.2, hlt15, hnx_98 _ hm, ?_⟩
              simp only [go_sem, simprocAttr, hw15, hxc_101]
              try simp [encB, encI_i64, encI_u8, encS, enc_api_Change, enc_api_File, enc_api_Machine, enc_api_Service, enc_api_Setting, enc_disk_line, List.map_set, List.map_replicate]
            · have hm := brF hm (by first | exact hc42 | simpa using hc42)
              obtain ⟨c_114, hm⟩ := chk_elim hm
              obtain ⟨c_115, hm⟩ := chk_elim hm
              obtain ⟨r_116, hr_116, hm⟩ := call_elim hm
              refine Wp.region fun K47 hK47 => ?_
              simp only [go_sem, simprocAttr, hw15, hxc_101]
              try refine ⟨by first | exact sd | ((repeat' apply And.intro) <;> first | assumption | omega | (simp only [List.length_append, List.length_map, List.length_cons, List.length_nil, List.length_set, List.length_replicate] at c_114 c_115 ⊢; omega)), ?_⟩
              refine Rg.callO (av := ?av48) [0, 1] (ok_strings_Builder_WriteString_i1 ((([100, 114, 111, 112, 32] : Str) ++ c_101.Service.Name) ++ ([10] : Str)) o1_80 _ hr_116) ?ha48 ?hp48 ?hX48 ?hids48 ?hok48 ?cont48
              case ha48 =>
                simp only [go_sem, simprocAttr, hw15, hxc_101]
                exact Is.mk
              case hp48 =>
                simp only [go_sem, simprocAttr, hw15, hxc_101]
                exact Is.mk
              case hX48 =>
                simp only [go_sem, simprocAttr, hw15, hxc_101]
                exact Is.mk
              case hids48 => simp only [go_sem, simprocAttr, hw15, hxc_101]
              case hok48 => simp only [go_sem, simprocAttr, hw15, hxc_101]
              rintro _ _ ⟨rfl, rfl⟩ hv48
              simp only [go_sem, simprocAttr, hw15, hxc_101]
              first
                | refine hK47 _ _ ?_
                | refine ⟨by first | exact sd | ((repeat' apply And.intro) <;> first | assumption | omega | (simp only [List.length_append, List.length_map, List.length_cons, List.length_nil, List.length_set, List.length_replicate] at c_114 c_115 ⊢; omega)), hK47 _ _ ?_⟩
              simp only [thenQ, blockQ, ↓reduceIte]
              refine hK16 _ _ ?_
              refine Wp.region fun K49 hK49 => ?_
              simp only [go_sem, simprocAttr, hw15, hxc_101]
              first
                | refine hK49 _ _ ?_
                | refine ⟨by first | exact sd, hK49 _ _ ?_⟩
              simp only [thenQ, blockQ, ↓reduceIte]
              refine ⟨r_116.2, hlt15, hnx_98 _ hm, ?_⟩
              simp only [go_sem, simprocAttr, hw15, hxc_101]
              try simp [encB, encI_i64, encI_u8, encS, enc_api_Change, enc_api_File, enc_api_Machine, enc_api_Service, enc_api_Setting, enc_disk_line, List.map_set, List.map_replicate]
end Go.Proofs.YtbfemlilfeahkaaDoor
