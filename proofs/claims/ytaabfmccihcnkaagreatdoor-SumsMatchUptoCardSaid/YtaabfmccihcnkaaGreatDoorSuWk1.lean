/- That the code does what the models say (part 1). -/
import Derived.Test.YtaabfmccihcnkaaGreatDoorSuWk0
set_option linter.unusedSimpArgs false
set_option linter.unusedVariables false
open Go.Proofs Go.Shelf
namespace Go.Proofs.YtaabfmccihcnkaaGreatDoor
open Go.Vc Go.Md
set_option maxRecDepth 100000
set_option maxHeartbeats 4000000
theorem ok_ver_isSmall (c_1 : Int) (z : Bool) (hm : ver_isSmall c_1 = some z) : Does Tryz.prog 196 [.p (.i .u8 c_1)] [] (fun r X => r = .p (.b z) ∧ X = []) := by
 unfold ver_isSmall at hm
 refine Does.of_wp 0 9 [.tmp 2] Tryz.func196 rfl (by decide) rfl rfl (Nat.le_of_ble_eq_true rfl) fun B => ?_
 refine qS ?_
 refine qS ?_
 refine Wp.ret ?_
 refine retQ_ret ?_
 cases hm
 exact fse1
theorem ok_ver_isDigit (c_1 : Int) (z : Bool) (hm : ver_isDigit c_1 = some z) : Does Tryz.prog 197 [.p (.i .u8 c_1)] [] (fun r X => r = .p (.b z) ∧ X = []) := by
 unfold ver_isDigit at hm
 refine Does.of_wp 0 9 [.tmp 2] Tryz.func197 rfl (by decide) rfl rfl (Nat.le_of_ble_eq_true rfl) fun B => ?_
 refine qS ?_
 refine qS ?_
 refine Wp.ret ?_
 refine retQ_ret ?_
 cases hm
 exact fse1
theorem ok_ver_IsName_1 (c_1 : Int) (z : Bool) (hm : ver_IsName_1 c_1 = some z) : Does Tryz.prog 195 [.p (.i .u8 c_1)] [] (fun r X => r = .p (.b z) ∧ X = []) := by
 unfold ver_IsName_1 at hm
 refine Does.of_wp 0 17 [.tmp 2] Tryz.func195 rfl (by decide) rfl rfl (Nat.le_of_ble_eq_true rfl) fun B => ?_
 refine qS ?_
 obtain ⟨r_2, hr_2, hm⟩ := call_elim hm
 obtain ⟨r_3, hr_3, hm⟩ := callG_elim hm
 refine Wp.seqR fun K2 hK2 => ?_
 simp only [go_sem, simprocAttr]
 try refine ⟨sd, ?_⟩
 refine Rg.callX (av := ?av3) (g := true) (fun hg => ok_ver_isSmall c_1 _ hr_2) si si si sg si ?cont3
 intro hv3
 simp only [go_sem, simprocAttr]
 try refine ⟨sd, ?_⟩
 refine Rg.callX (av := ?av4) (g := !r_2) (fun hg => ok_ver_isDigit c_1 _ (hr_3 hg)) si si si sg si ?cont4
 intro hv4
 simp only [go_sem, simprocAttr]
 first | apply hK2 | refine ⟨sd, hK2 _ _ ?_⟩
 refine Wp.ret ?_
 refine retQ_ret ?_
 cases hm
 exact fse1
theorem ok_ver_each_i1 (s_1 : Str) (most_2 : Int) (z : Bool) (hm : ver_each_i1 s_1 most_2 = some z) : Does Tryz.prog 194 [.p (.s s_1), .p (.i .i64 most_2), .fn 195 []] [] (fun r X => r = .p (.b z) ∧ X = []) := by
 unfold ver_each_i1 at hm
 refine Does.of_wp 0 28 [.tmp 6] Tryz.func194 rfl (by decide) rfl rfl (Nat.le_of_ble_eq_true rfl) fun B => ?_
 refine qS ?_
 refine Wp.seqW fun K2 hK2 hW2 => ?_
 obtain ⟨k_12, hk_12, hm⟩ := jp_elim hm
 have hcut2 : ∀ s, k_12 s = some z → K2 [(0, .p (.s s_1)), (1, .p (.i .i64 most_2))] [] := by
  intro s hs
  have hm := hk_12 _ hs
  clear hs
  try dsimp only at hm
  try dsimp only
  refine hK2 _ _ ?_
  refine qS ?_
  refine Wp.ret ?_
  refine retQ_ret ?_
  cases hm
  exact fse1
 clear hK2 hk_12
 refine qS ?_
 refine Wp.block ?_
 obtain ⟨k_16, hk_16, hm⟩ := forL_cont hm
 refine Wp.fact 0 fun hl_19 => ?_
 replace hl_19 : s_1.length ≤ 274877906944 := by
  simp only [go_sem, simprocAttr, List.length_map] at hl_19
  omega
 refine Wp.forL (fun i_18 s => [(0, .p (.s s_1)), (1, .p (.i .i64 most_2)), (2, .fn 195 []), (7, .p (.i .i64 (i_18 : Int)))]) (fun i_18 s => []) ?_ hm ?_
 ·
  exact fse1
 clear hm
 intro i_18 s hii_18 hm
 try dsimp only at hm
 try dsimp only
 refine Wp.seqW fun K5 hK5 hW5 => ?_
 refine qS ?_
 refine Wp.cond rfl ⟨⟩ (fun hc5 => ?_) (fun hc5 => ?_)
 rotate_left
 ·refine Wp.exit ?_
  have hm := hk_16 _ (forL_end hm (ge_nat (by first | exact hc5 | simpa using hc5)))
  try dsimp only at hm
  refine hW2 _ _ _ _ ?_ (hcut2 () hm)
  exact fse1
 have hlt5 := lt_nat (by first | exact hc5 | simpa using hc5)
 have hw5 := wrap_succ hlt5 hl_19
 obtain ⟨c_20, nx_17, hxc_20, hyc_20, hnx_17, hm⟩ := forL_step hm hlt5
 clear hxc_20
 refine Wp.skip ?_
 simp only [thenQ]
 refine hK5 _ _ ?_
 refine Wp.seqW fun K7 hK7 hW7 => ?_
 refine Wp.block ?_
 obtain ⟨r_21, hr_21, hm⟩ := call_elim hm
 refine Wp.seqR fun K8 hK8 => ?_
 simp only [go_sem, simprocAttr, hw5, hyc_20]
 try refine ⟨sd, ?_⟩
 refine Rg.callX (av := ?av9) (g := true) (fun hg => ok_ver_IsName_1 (c_20.toNat : Int) _ hr_21) (by simp only [go_sem, simprocAttr, hw5, hyc_20]; exact Is.mk) (by simp only [go_sem, simprocAttr, hw5, hyc_20]; exact Is.mk) (by simp only [go_sem, simprocAttr, hw5, hyc_20]; exact Is.mk) (by simp only [go_sem, simprocAttr, hw5, hyc_20]) (by simp only [go_sem, simprocAttr, hw5, hyc_20]; exact Is.mk) ?cont9
 intro hv9
 simp only [go_sem, simprocAttr, hw5, hyc_20]
 first | apply hK8 | refine ⟨sd, hK8 _ _ ?_⟩
 refine cM hm (fun hc10 hm => ?_) (fun hc10 hm => ?_)
 ·refine Wp.seqR fun K11 hK11 => ?_
  simp only [go_sem, simprocAttr, hw5, hyc_20]
  first | apply hK11 | refine ⟨sd, hK11 _ _ ?_⟩
  refine Wp.ret ?_
  refine retQ_ret ?_
  cases hm
  simp only [go_sem, simprocAttr, hw5, hyc_20]
  try exact se1
 ·refine Wp.skip ?_
  refine hK7 _ _ ?_
  refine Wp.region fun K12 hK12 => ?_
  simp only [go_sem, simprocAttr, hw5, hyc_20]
  first | apply hK12 | refine ⟨sd, hK12 _ _ ?_⟩
  simp only [thenQ, blockQ, ↓reduceIte]
  refine ⟨(), hlt5, hnx_17 _ hm, ?_⟩
  simp only [go_sem, simprocAttr, hw5, hyc_20]
  try exact se1
theorem ok_ver_IsName (s_1 : Str) (z : Bool) (hm : ver_IsName s_1 = some z) : Does Tryz.prog 85 [.p (.s s_1)] [] (fun r X => r = .p (.b z) ∧ X = []) := by
 unfold ver_IsName at hm
 refine Does.of_wp 0 10 [.tmp 2] Tryz.func85 rfl (by decide) rfl rfl (Nat.le_of_ble_eq_true rfl) fun B => ?_
 refine qS ?_
 obtain ⟨r_2, hr_2, hm⟩ := call_elim hm
 obtain ⟨c_3, hm⟩ := chk_elim hm
 obtain ⟨r_4, hr_4, hm⟩ := callG_elim hm
 refine Wp.seqR fun K2 hK2 => ?_
 simp only [go_sem, simprocAttr]
 try refine ⟨by first | exact sd | ((repeat' apply And.intro) <;> first | assumption | omega | (simp only [List.length_append, List.length_map, List.length_cons, List.length_nil, List.length_set, List.length_replicate] at c_3 ⊢; omega)), ?_⟩
 refine Rg.callX (av := ?av3) (g := true) (fun hg => ok_ver_each_i1 s_1 40 _ hr_2) si si si sg si ?cont3
 intro hv3
 simp only [go_sem, simprocAttr]
 try refine ⟨by first | exact sd | ((repeat' apply And.intro) <;> first | assumption | omega | (simp only [List.length_append, List.length_map, List.length_cons, List.length_nil, List.length_set, List.length_replicate] at c_3 ⊢; omega)), ?_⟩
 refine Rg.callX (av := ?av4) (g := r_2) (fun hg => ok_ver_isSmall ((s_1.getD 0 0).toNat : Int) _ (hr_4 hg)) si si si sg si ?cont4
 intro hv4
 simp only [go_sem, simprocAttr]
 first | apply hK2 | refine ⟨by first | exact sd | ((repeat' apply And.intro) <;> first | assumption | omega | (simp only [List.length_append, List.length_map, List.length_cons, List.length_nil, List.length_set, List.length_replicate] at c_3 ⊢; omega)), hK2 _ _ ?_⟩
 refine Wp.ret ?_
 refine retQ_ret ?_
 cases hm
 exact fse1
theorem ok_Law_landed  (z : Bool) (hm : Law_landed = some z) : Does Tryz.prog 14 [] [] (fun r X => r = .p (.b z) ∧ X = []) := by
 unfold Law_landed at hm
 refine Does.of_wp 0 2 [.tmp 0] Tryz.func14 rfl (by decide) rfl rfl (Nat.le_of_ble_eq_true rfl) fun B => ?_
 refine qS ?_
 obtain ⟨r_1, hr_1, hm⟩ := call_elim hm
 refine Wp.seqR fun K2 hK2 => ?_
 simp only [go_sem, simprocAttr]
 try refine ⟨sd, ?_⟩
 refine Rg.callX (av := ?av3) (g := true) (fun hg => ok_ver_IsName ([97] : Str) _ hr_1) si si si sg si ?cont3
 intro hv3
 simp only [go_sem, simprocAttr]
 first | apply hK2 | refine ⟨sd, hK2 _ _ ?_⟩
 refine Wp.ret ?_
 refine retQ_ret ?_
 cases hm
 exact fse1
theorem ok_disk_SumOf (text_1 : Str) (z : Str) (hm : disk_SumOf text_1 = some z) : Does Tryz.prog 32 [.p (.s text_1)] [] (fun r X => r = .p (.s z) ∧ X = []) := by
 unfold disk_SumOf at hm
 refine Does.of_wp 0 39 [.tmp 2] Tryz.func32 rfl (by decide) rfl rfl (Nat.le_of_ble_eq_true rfl) fun B => ?_
 refine qS ?_
 refine qS ?_
 refine Wp.seqW fun K3 hK3 hW3 => ?_
 obtain ⟨k_11, hk_11, hm⟩ := jp_elim hm
 have hcut3 : ∀ s, k_11 s = some z → K3 [(3, .p (.i .u64 s))] [] := by
  intro n_10 hs
  have hm := hk_11 _ hs
  clear hs
  try dsimp only at hm
  try dsimp only
  refine hK3 _ _ ?_
  refine qS ?_
  refine Wp.seqW fun K5 hK5 hW5 => ?_
  obtain ⟨k_27, hk_27, hm⟩ := jp_elim hm
  have hcut5 : ∀ s, k_27 s = some z → K5 [(5, .buf 0)] [.buf 5 1 (List.map ecI_u8 s)] := by
   intro o0_26 hs
   have hm := hk_27 _ hs
   clear hs
   try dsimp only at hm
   try dsimp only
   refine hK5 _ _ ?_
   refine qS ?_
   refine Wp.ret ?_
   refine retQ_ret ?_
   cases hm
   exact fse1
  clear hK5 hk_27
  refine qS ?_
  refine Wp.block ?_
  obtain ⟨k_37, hk_37, hm⟩ := loopN_cont hm
  refine Wp.loopN (fun s => [(3, .p (.i .u64 n_10)), (5, .buf 0), (22, .p (.i .i64 ((List.replicate 16 0).length : Int))), (23, .p (.i .i64 s.1))]) (fun s => [.buf 5 1 (List.map ecI_u8 s.2)]) ?_ hm ?_
  ·
   exact fse1
  clear hm
  intro s nx_38 hm
  obtain ⟨t23_32, o0_33⟩ := s
  try dsimp only at hm
  try dsimp only
  refine qS ?_
  refine Wp.seqW fun K9 hK9 hW9 => ?_
  refine cM hm (fun hc10 hm => ?_) (fun hc10 hm => ?_)
  ·refine Wp.skip ?_
   refine hK9 _ _ ?_
   refine Wp.seqW fun K11 hK11 hW11 => ?_
   refine Wp.block ?_
   refine qS ?_
   obtain ⟨c_39, hm⟩ := chk_elim hm
   obtain ⟨c_40, hbc_40, hxc_40, hm⟩ := idxS_elim hm
   replace hxc_40 : ((([48, 49, 50, 51, 52, 53, 54, 55, 56, 57, 97, 98, 99, 100, 101, 102] : Str).getD ((bitsI .and .u64 (Int.fdiv n_10 (2 ^ (shI .u64 (IntKind.i64.wrap (60 - (IntKind.i64.wrap (4 * t23_32))))))) 15).toNat) 0).toNat : Int) = c_40 := hxc_40
   obtain ⟨c_41, hm⟩ := chk_elim hm
   refine Wp.region fun K13 hK13 => ?_
   simp only [go_sem, simprocAttr, hxc_40]
   first | apply hK13 | refine ⟨by first | exact sd | ((repeat' apply And.intro) <;> first | assumption | omega | (simp only [List.length_append, List.length_map, List.length_cons, List.length_nil, List.length_set, List.length_replicate] at c_39 c_41 ⊢; omega)), hK13 _ _ ?_⟩
   refine hK11 _ _ ?_
   refine Wp.region fun K14 hK14 => ?_
   simp only [go_sem, simprocAttr, hxc_40]
   first | apply hK14 | refine ⟨sd, hK14 _ _ ?_⟩
   simp only [thenQ, blockQ, ↓reduceIte]
   refine ⟨(IntKind.i64.wrap (t23_32 + 1), List.set o0_33 t23_32.toNat c_40), hm, ?_⟩
   simp only [go_sem, simprocAttr, hxc_40]
   try exact se1
  ·refine Wp.exit ?_
   simp only [thenQ, blockQ, ↓reduceIte]
   have hm := hk_37 _ hm
   try dsimp only at hm
   refine hW5 _ _ _ _ ?_ (hcut5 o0_33 hm)
   exact fse1
 clear hK3 hk_11
 refine qS ?_
 refine Wp.block ?_
 obtain ⟨k_45, hk_45, hm⟩ := forL_cont hm
 refine Wp.fact 0 fun hl_48 => ?_
 replace hl_48 : text_1.length ≤ 274877906944 := by
  simp only [go_sem, simprocAttr, List.length_map] at hl_48
  omega
 refine Wp.forL (fun i_47 s => [(0, .p (.s text_1)), (3, .p (.i .u64 s)), (4, .p (.i .i64 (i_47 : Int)))]) (fun i_47 s => []) ?_ hm ?_
 ·
  exact fse1
 clear hm
 intro i_47 n_42 hii_47 hm
 try dsimp only at hm
 try dsimp only
 refine Wp.seqW fun K16 hK16 hW16 => ?_
 refine qS ?_
 refine Wp.cond rfl ⟨⟩ (fun hc16 => ?_) (fun hc16 => ?_)
 rotate_left
 ·refine Wp.exit ?_
  have hm := hk_45 _ (forL_end hm (ge_nat (by first | exact hc16 | simpa using hc16)))
  try dsimp only at hm
  refine hW3 _ _ _ _ ?_ (hcut3 n_42 hm)
  exact fse1
 have hlt16 := lt_nat (by first | exact hc16 | simpa using hc16)
 have hw16 := wrap_succ hlt16 hl_48
 obtain ⟨c_49, nx_46, hxc_49, hyc_49, hnx_46, hm⟩ := forL_step hm hlt16
 clear hxc_49
 refine Wp.skip ?_
 simp only [thenQ]
 refine hK16 _ _ ?_
 refine Wp.seqW fun K18 hK18 hW18 => ?_
 refine Wp.block ?_
 refine Wp.region fun K19 hK19 => ?_
 simp only [go_sem, simprocAttr, hw16, hyc_49]
 first | apply hK19 | refine ⟨sd, hK19 _ _ ?_⟩
 refine hK18 _ _ ?_
 refine Wp.region fun K20 hK20 => ?_
 simp only [go_sem, simprocAttr, hw16, hyc_49]
 first | apply hK20 | refine ⟨sd, hK20 _ _ ?_⟩
 simp only [thenQ, blockQ, ↓reduceIte]
 refine ⟨IntKind.u64.wrap ((bitsI .xor .u64 n_42 (IntKind.u64.wrap (c_49.toNat : Int))) * 1099511628211), hlt16, hnx_46 _ hm, ?_⟩
 simp only [go_sem, simprocAttr, hw16, hyc_49]
 try exact se1
theorem ok_internal_strconv_isPowerOfTwo (x_1 : Int) (z : Bool) (hm : internal_strconv_isPowerOfTwo x_1 = some z) : Does Tryz.prog 354 [.p (.i .i64 x_1)] [] (fun r X => r = .p (.b z) ∧ X = []) := by
 unfold internal_strconv_isPowerOfTwo at hm
 refine Does.of_wp 0 8 [.tmp 2] Tryz.func354 rfl (by decide) rfl rfl (Nat.le_of_ble_eq_true rfl) fun B => ?_
 refine qS ?_
 refine qS ?_
 refine Wp.ret ?_
 refine retQ_ret ?_
 cases hm
 exact fse1
theorem ok_math_bits_TrailingZeros64 (x_1 : Int) (z : Int) (hm : math_bits_TrailingZeros64 x_1 = some z) : Does Tryz.prog 401 [.p (.i .u64 x_1)] [] (fun r X => r = .p (.i .i64 z) ∧ X = []) := by
 unfold math_bits_TrailingZeros64 at hm
 refine Does.of_wp 0 14 [.tmp 2] Tryz.func401 rfl (by decide) rfl rfl (Nat.le_of_ble_eq_true rfl) fun B => ?_
 refine qS ?_
 refine Wp.seqW fun K2 hK2 hW2 => ?_
 refine qS ?_
 refine cM hm (fun hc4 hm => ?_) (fun hc4 hm => ?_)
 ·refine qS ?_
  refine Wp.ret ?_
  refine retQ_ret ?_
  cases hm
  exact fse1
 ·refine Wp.skip ?_
  refine hK2 _ _ ?_
  obtain ⟨c_2, hm⟩ := chk_elim hm
  refine Wp.seqR fun K6 hK6 => ?_
  simp only [go_sem, simprocAttr]
  first | apply hK6 | refine ⟨by first | exact sd | ((repeat' apply And.intro) <;> first | assumption | omega | (simp only [List.length_append, List.length_map, List.length_cons, List.length_nil, List.length_set, List.length_replicate] at c_2 ⊢; omega)), hK6 _ _ ?_⟩
  refine Wp.ret ?_
  refine retQ_ret ?_
  cases hm
  exact fse1
theorem ok_math_bits_TrailingZeros (x_1 : Int) (z : Int) (hm : math_bits_TrailingZeros x_1 = some z) : Does Tryz.prog 355 [.p (.i .u64 x_1)] [] (fun r X => r = .p (.i .i64 z) ∧ X = []) := by
 unfold math_bits_TrailingZeros at hm
 refine Does.of_wp 0 8 [.tmp 2] Tryz.func355 rfl (by decide) rfl rfl (Nat.le_of_ble_eq_true rfl) fun B => ?_
 refine qS ?_
 refine Wp.seqW fun K2 hK2 hW2 => ?_
 refine Wp.cond rfl ⟨⟩ (fun hc3 => ?_) (fun hc3 => ?_)
 ·cases hc3
 refine Wp.skip ?_
 refine hK2 _ _ ?_
 obtain ⟨r_2, hr_2, hm⟩ := call_elim hm
 refine Wp.seqR fun K4 hK4 => ?_
 simp only [go_sem, simprocAttr]
 try refine ⟨sd, ?_⟩
 refine Rg.callX (av := ?av5) (g := true) (fun hg => ok_math_bits_TrailingZeros64 x_1 _ hr_2) si si si sg si ?cont5
 intro hv5
 simp only [go_sem, simprocAttr]
 first | apply hK4 | refine ⟨sd, hK4 _ _ ?_⟩
 refine Wp.ret ?_
 refine retQ_ret ?_
 cases hm
 exact fse1
theorem ok_internal_strconv_formatBits (dst_1 : List Int) (u_2 : Int) (base_3 : Int) (neg_4 : Bool) (append__5 : Bool) (z : List Int × Str) (hm : internal_strconv_formatBits dst_1 u_2 base_3 neg_4 append__5 = some z) : Does Tryz.prog 300 [.p (.l (List.map ecI_u8 dst_1)), .p (.i .u64 u_2), .p (.i .i64 base_3), .p (.b neg_4), .p (.b append__5)] [] (fun r X => r = .tup [.p (.l (List.map ecI_u8 z.1)), .p (.s z.2)] ∧ X = []) := by
 unfold internal_strconv_formatBits at hm
 refine Does.of_wp 0 102 [.tmp 10, .tmp 11] Tryz.func300 rfl (by decide) rfl rfl (Nat.le_of_ble_eq_true rfl) fun B => ?_
 refine qS ?_
 refine Wp.seqW fun K2 hK2 hW2 => ?_
 obtain ⟨k_6, hk_6, hm⟩ := jp_elim hm
 have hcut2 : ∀ s, k_6 s = some z → K2 [(0, .p (.l (List.map ecI_u8 dst_1))), (1, .p (.i .u64 u_2)), (2, .p (.i .i64 base_3)), (3, .p (.b neg_4)), (4, .p (.b append__5)), (10, .nils), (11, .p (.s []))] [] := by
  intro s hs
  have hm := hk_6 _ hs
  clear hs
  try dsimp only at hm
  try dsimp only
  refine hK2 _ _ ?_
  refine qS ?_
  refine qS ?_
  refine Wp.seqW fun K5 hK5 hW5 => ?_
  obtain ⟨k_8, hk_8, hm⟩ := jp_elim hm
  have hcut5 : ∀ s, k_8 s = some z → K5 [(0, .p (.l (List.map ecI_u8 dst_1))), (1, .p (.i .u64 s)), (2, .p (.i .i64 base_3)), (3, .p (.b neg_4)), (4, .p (.b append__5)), (10, .nils), (11, .p (.s [])), (12, .ptr 0 0), (13, .p (.i .i64 65))] [.buf 389 1 (List.map ecI_u8 (List.replicate 65 0))] := by
   intro u_7 hs
   have hm := hk_8 _ hs
   clear hs
   try dsimp only at hm
   try dsimp only
   refine hK5 _ _ ?_
   refine Wp.seqW fun K6 hK6 hW6 => ?_
   obtain ⟨k_89, hk_89, hm⟩ := jp_elim hm
   have hcut6 : ∀ s, k_89 s = some z → K6 [(0, .p (.l (List.map ecI_u8 dst_1))), (3, .p (.b neg_4)), (4, .p (.b append__5)), (10, .nils), (11, .p (.s [])), (12, .ptr 0 0), (13, .p (.i .i64 s.1))] [.buf 389 1 (List.map ecI_u8 s.2)] := by
    intro s hs
    have hm := hk_89 _ hs
    clear hs
    obtain ⟨i_87, o0_88⟩ := s
    try dsimp only at hm
    try dsimp only
    refine hK6 _ _ ?_
    refine Wp.seqW fun K7 hK7 hW7 => ?_
    obtain ⟨k_93, hk_93, hm⟩ := jp_elim hm
    have hcut7 : ∀ s, k_93 s = some z → K7 [(0, .p (.l (List.map ecI_u8 dst_1))), (4, .p (.b append__5)), (10, .nils), (11, .p (.s [])), (12, .ptr 0 0), (13, .p (.i .i64 s.1))] [.buf 389 1 (List.map ecI_u8 s.2)] := by
     intro s hs
     have hm := hk_93 _ hs
     clear hs
     obtain ⟨i_91, o0_92⟩ := s
     try dsimp only at hm
     try dsimp only
     refine hK7 _ _ ?_
     refine Wp.seqW fun K8 hK8 hW8 => ?_
     refine qS ?_
     refine cM hm (fun hc10 hm => ?_) (fun hc10 hm => ?_)
     ·obtain ⟨c_94, hm⟩ := chk_elim hm
      cases hm
     ·refine Wp.skip ?_
      refine hK8 _ _ ?_
      obtain ⟨c_95, hm⟩ := chk_elim hm
      refine Wp.seqR fun K11 hK11 => ?_
      simp only [go_sem, simprocAttr]
      first | apply hK11 | refine ⟨by first | exact sd | ((repeat' apply And.intro) <;> first | assumption | omega | (simp only [List.length_append, List.length_map, List.length_cons, List.length_nil, List.length_set, List.length_replicate] at c_95 ⊢; omega)), hK11 _ _ ?_⟩
      refine Wp.ret ?_
      refine retQ_retE ?_
      cases hm
      exact fse1
    clear hK7 hk_93
    refine qS ?_
    refine cM hm (fun hc13 hm => ?_) (fun hc13 hm => ?_)
    ·refine qS ?_
     obtain ⟨c_96, hm⟩ := chk_elim hm
     refine Wp.region fun K15 hK15 => ?_
     simp only [go_sem, simprocAttr]
     first | apply hK15 | refine ⟨by first | exact sd | ((repeat' apply And.intro) <;> first | assumption | omega | (simp only [List.length_append, List.length_map, List.length_cons, List.length_nil, List.length_set, List.length_replicate] at c_96 ⊢; omega)), hK15 _ _ ?_⟩
     refine hW7 _ _ _ _ ?_ (hcut7 (IntKind.i64.wrap (i_87 - 1), List.set o0_88 ((IntKind.i64.wrap (i_87 - 1)).toNat) 45) hm)
     exact fse1
    ·refine Wp.skip ?_
     refine hW7 _ _ _ _ ?_ (hcut7 (i_87, o0_88) hm)
     exact fse1
   clear hK6 hk_89
   obtain ⟨r_97, hr_97, hm⟩ := call_elim hm
   refine Wp.seqR fun K16 hK16 => ?_
   simp only [go_sem, simprocAttr]
   try refine ⟨sd, ?_⟩
   refine Rg.callX (av := ?av17) (g := true) (fun hg => ok_internal_strconv_isPowerOfTwo base_3 _ hr_97) si si si sg si ?cont17
   intro hv17
   simp only [go_sem, simprocAttr]
   first | apply hK16 | refine ⟨sd, hK16 _ _ ?_⟩
   refine cM hm (fun hc18 hm => ?_) (fun hc18 hm => ?_)
   ·obtain ⟨r_98, hr_98, hm⟩ := call_elim hm
    refine Wp.seqR fun K19 hK19 => ?_
    simp only [go_sem, simprocAttr]
    try refine ⟨sd, ?_⟩
    refine Rg.callX (av := ?av20) (g := true) (fun hg => ok_math_bits_TrailingZeros (IntKind.u64.wrap base_3) _ hr_98) si si si sg si ?cont20
    intro hv20
    simp only [go_sem, simprocAttr]
    first | apply hK19 | refine ⟨sd, hK19 _ _ ?_⟩
    refine qS ?_
    refine qS ?_
    refine Wp.seqW fun K23 hK23 hW23 => ?_
    obtain ⟨k_118, hk_118, hm⟩ := jp_elim hm
    have hcut23 : ∀ s, k_118 s = some z → K23 [(0, .p (.l (List.map ecI_u8 dst_1))), (1, .p (.i .u64 s.1)), (3, .p (.b neg_4)), (4, .p (.b append__5)), (10, .nils), (11, .p (.s [])), (12, .ptr 0 0), (13, .p (.i .i64 s.2.1))] [.buf 389 1 (List.map ecI_u8 s.2.2)] := by
     intro s hs
     have hm := hk_118 _ hs
     clear hs
     obtain ⟨u_115, i_116, o0_117⟩ := s
     try dsimp only at hm
     try dsimp only
     refine hK23 _ _ ?_
     refine qS ?_
     obtain ⟨c_119, hbc_119, hxc_119, hm⟩ := idxS_elim hm
     replace hxc_119 : ((([48, 49, 50, 51, 52, 53, 54, 55, 56, 57, 97, 98, 99, 100, 101, 102, 103, 104, 105, 106, 107, 108, 109, 110, 111, 112, 113, 114, 115, 116, 117, 118, 119, 120, 121, 122] : Str).getD u_115.toNat 0).toNat : Int) = c_119 := hxc_119
     obtain ⟨c_120, hm⟩ := chk_elim hm
     refine Wp.region fun K25 hK25 => ?_
     simp only [go_sem, simprocAttr, hxc_119]
     first | apply hK25 | refine ⟨by first | exact sd | ((repeat' apply And.intro) <;> first | assumption | omega | (simp only [List.length_append, List.length_map, List.length_cons, List.length_nil, List.length_set, List.length_replicate] at c_120 ⊢; omega)), hK25 _ _ ?_⟩
     refine hW6 _ _ _ _ ?_ (hcut6 (IntKind.i64.wrap (i_116 - 1), List.set o0_117 ((IntKind.i64.wrap (i_116 - 1)).toNat) c_119) hm)
     simp only [go_sem, simprocAttr, hxc_119]
     try exact se1
    clear hK23 hk_118
    refine Wp.block ?_
    obtain ⟨k_132, hk_132, hm⟩ := loopN_cont hm
    refine Wp.loopN (fun s => [(0, .p (.l (List.map ecI_u8 dst_1))), (1, .p (.i .u64 s.1)), (3, .p (.b neg_4)), (4, .p (.b append__5)), (10, .nils), (11, .p (.s [])), (12, .ptr 0 0), (13, .p (.i .i64 s.2.1)), (14, .p (.i .u64 (IntKind.u64.wrap r_98))), (15, .p (.i .u64 (IntKind.u64.wrap base_3))), (16, .p (.i .u64 (IntKind.u64.wrap ((IntKind.u64.wrap base_3) - 1))))]) (fun s => [.buf 389 1 (List.map ecI_u8 s.2.2)]) ?_ hm ?_
    ·
     exact fse1
    clear hm
    intro s nx_133 hm
    obtain ⟨u_126, i_127, o0_128⟩ := s
    try dsimp only at hm
    try dsimp only
    refine Wp.seqW fun K26 hK26 hW26 => ?_
    refine qS ?_
    refine cM hm (fun hc28 hm => ?_) (fun hc28 hm => ?_)
    ·refine Wp.skip ?_
     refine hK26 _ _ ?_
     refine Wp.block ?_
     refine qS ?_
     obtain ⟨c_134, hbc_134, hxc_134, hm⟩ := idxS_elim hm
     replace hxc_134 : ((([48, 49, 50, 51, 52, 53, 54, 55, 56, 57, 97, 98, 99, 100, 101, 102, 103, 104, 105, 106, 107, 108, 109, 110, 111, 112, 113, 114, 115, 116, 117, 118, 119, 120, 121, 122] : Str).getD ((bitsI .and .u64 u_126 (IntKind.u64.wrap ((IntKind.u64.wrap base_3) - 1))).toNat) 0).toNat : Int) = c_134 := hxc_134
     obtain ⟨c_135, hm⟩ := chk_elim hm
     refine Wp.seqR fun K30 hK30 => ?_
     simp only [go_sem, simprocAttr, hxc_134]
     first | apply hK30 | refine ⟨by first | exact sd | ((repeat' apply And.intro) <;> first | assumption | omega | (simp only [List.length_append, List.length_map, List.length_cons, List.length_nil, List.length_set, List.length_replicate] at c_135 ⊢; omega)), hK30 _ _ ?_⟩
     obtain ⟨c_136, hm⟩ := chk_elim hm
     refine Wp.region fun K31 hK31 => ?_
     simp only [go_sem, simprocAttr, hxc_134]
     first | apply hK31 | refine ⟨by first | exact sd | ((repeat' apply And.intro) <;> first | assumption | omega | (simp only [List.length_append, List.length_map, List.length_cons, List.length_nil, List.length_set, List.length_replicate] at c_136 ⊢; omega)), hK31 _ _ ?_⟩
     simp only [thenQ, blockQ, ↓reduceIte]
     refine ⟨(Int.fdiv u_126 (2 ^ (shI .u64 (IntKind.u64.wrap r_98))), IntKind.i64.wrap (i_127 - 1), List.set o0_128 ((IntKind.i64.wrap (i_127 - 1)).toNat) c_134), hm, ?_⟩
     simp only [go_sem, simprocAttr, hxc_134]
     try exact se1
    ·refine Wp.exit ?_
     simp only [thenQ, blockQ, ↓reduceIte]
     have hm := hk_132 _ hm
     try dsimp only at hm
     refine hW23 _ _ _ _ ?_ (hcut23 (u_126, i_127, o0_128) hm)
     exact fse1
   ·refine qS ?_
    refine Wp.seqW fun K33 hK33 hW33 => ?_
    obtain ⟨k_156, hk_156, hm⟩ := jp_elim hm
    have hcut33 : ∀ s, k_156 s = some z → K33 [(0, .p (.l (List.map ecI_u8 dst_1))), (1, .p (.i .u64 s.1)), (3, .p (.b neg_4)), (4, .p (.b append__5)), (10, .nils), (11, .p (.s [])), (12, .ptr 0 0), (13, .p (.i .i64 s.2.1))] [.buf 389 1 (List.map ecI_u8 s.2.2)] := by
     intro s hs
     have hm := hk_156 _ hs
     clear hs
     obtain ⟨u_153, i_154, o0_155⟩ := s
     try dsimp only at hm
     try dsimp only
     refine hK33 _ _ ?_
     refine qS ?_
     obtain ⟨c_157, hbc_157, hxc_157, hm⟩ := idxS_elim hm
     replace hxc_157 : ((([48, 49, 50, 51, 52, 53, 54, 55, 56, 57, 97, 98, 99, 100, 101, 102, 103, 104, 105, 106, 107, 108, 109, 110, 111, 112, 113, 114, 115, 116, 117, 118, 119, 120, 121, 122] : Str).getD u_153.toNat 0).toNat : Int) = c_157 := hxc_157
     obtain ⟨c_158, hm⟩ := chk_elim hm
     refine Wp.region fun K35 hK35 => ?_
     simp only [go_sem, simprocAttr, hxc_157]
     first | apply hK35 | refine ⟨by first | exact sd | ((repeat' apply And.intro) <;> first | assumption | omega | (simp only [List.length_append, List.length_map, List.length_cons, List.length_nil, List.length_set, List.length_replicate] at c_158 ⊢; omega)), hK35 _ _ ?_⟩
     refine hW6 _ _ _ _ ?_ (hcut6 (IntKind.i64.wrap (i_154 - 1), List.set o0_155 ((IntKind.i64.wrap (i_154 - 1)).toNat) c_157) hm)
     simp only [go_sem, simprocAttr, hxc_157]
     try exact se1
    clear hK33 hk_156
    refine Wp.block ?_
    obtain ⟨k_170, hk_170, hm⟩ := loopN_cont hm
    refine Wp.loopN (fun s => [(0, .p (.l (List.map ecI_u8 dst_1))), (1, .p (.i .u64 s.1)), (3, .p (.b neg_4)), (4, .p (.b append__5)), (10, .nils), (11, .p (.s [])), (12, .ptr 0 0), (13, .p (.i .i64 s.2.1)), (17, .p (.i .u64 (IntKind.u64.wrap base_3)))]) (fun s => [.buf 389 1 (List.map ecI_u8 s.2.2)]) ?_ hm ?_
    ·
     exact fse1
    clear hm
    intro s nx_171 hm
    obtain ⟨u_164, i_165, o0_166⟩ := s
    try dsimp only at hm
    try dsimp only
    refine Wp.seqW fun K36 hK36 hW36 => ?_
    refine qS ?_
    refine cM hm (fun hc38 hm => ?_) (fun hc38 hm => ?_)
    ·refine Wp.skip ?_
     refine hK36 _ _ ?_
     refine Wp.block ?_
     refine qS ?_
     obtain ⟨c_172, hm⟩ := chk_elim hm
     refine Wp.seqR fun K40 hK40 => ?_
     simp only [go_sem, simprocAttr]
     first | apply hK40 | refine ⟨by first | exact sd | ((repeat' apply And.intro) <;> first | assumption | omega | (simp only [List.length_append, List.length_map, List.length_cons, List.length_nil, List.length_set, List.length_replicate] at c_172 ⊢; omega)), hK40 _ _ ?_⟩
     obtain ⟨c_173, hbc_173, hxc_173, hm⟩ := idxS_elim hm
     replace hxc_173 : ((([48, 49, 50, 51, 52, 53, 54, 55, 56, 57, 97, 98, 99, 100, 101, 102, 103, 104, 105, 106, 107, 108, 109, 110, 111, 112, 113, 114, 115, 116, 117, 118, 119, 120, 121, 122] : Str).getD ((IntKind.u64.wrap (u_164 - (IntKind.u64.wrap ((IntKind.u64.wrap (Int.tdiv u_164 (IntKind.u64.wrap base_3))) * (IntKind.u64.wrap base_3))))).toNat) 0).toNat : Int) = c_173 := hxc_173
     obtain ⟨c_174, hm⟩ := chk_elim hm
     refine Wp.seqR fun K41 hK41 => ?_
     simp only [go_sem, simprocAttr, hxc_173]
     first | apply hK41 | refine ⟨by first | exact sd | ((repeat' apply And.intro) <;> first | assumption | omega | (simp only [List.length_append, List.length_map, List.length_cons, List.length_nil, List.length_set, List.length_replicate] at c_174 ⊢; omega)), hK41 _ _ ?_⟩
     refine Wp.region fun K42 hK42 => ?_
     simp only [go_sem, simprocAttr, hxc_173]
     first | apply hK42 | refine ⟨sd, hK42 _ _ ?_⟩
     simp only [thenQ, blockQ, ↓reduceIte]
     refine ⟨(IntKind.u64.wrap (Int.tdiv u_164 (IntKind.u64.wrap base_3)), IntKind.i64.wrap (i_165 - 1), List.set o0_166 ((IntKind.i64.wrap (i_165 - 1)).toNat) c_173), hm, ?_⟩
     simp only [go_sem, simprocAttr, hxc_173]
     try exact se1
    ·refine Wp.exit ?_
     simp only [thenQ, blockQ, ↓reduceIte]
     have hm := hk_170 _ hm
     try dsimp only at hm
     refine hW33 _ _ _ _ ?_ (hcut33 (u_164, i_165, o0_166) hm)
     exact fse1
  clear hK5 hk_8
  refine qS ?_
  refine cM hm (fun hc44 hm => ?_) (fun hc44 hm => ?_)
  ·refine qR ?_
   refine hW5 _ _ _ _ ?_ (hcut5 (IntKind.u64.wrap (-u_2)) hm)
   exact fse1
  ·refine Wp.skip ?_
   refine hW5 _ _ _ _ ?_ (hcut5 u_2 hm)
   exact fse1
 clear hK2 hk_6
 refine qS ?_
 refine cM hm (fun hc47 hm => ?_) (fun hc47 hm => ?_)
 ·cases hm
 ·refine Wp.skip ?_
  refine hW2 _ _ _ _ ?_ (hcut2 () hm)
  exact fse1
theorem ok_internal_strconv_FormatUint (i_1 : Int) (base_2 : Int) (z : Str) (hm : internal_strconv_FormatUint i_1 base_2 = some z) : Does Tryz.prog 227 [.p (.i .u64 i_1), .p (.i .i64 base_2)] [] (fun r X => r = .p (.s z) ∧ X = []) := by
 unfold internal_strconv_FormatUint at hm
 refine Does.of_wp 0 32 [.tmp 4] Tryz.func227 rfl (by decide) rfl rfl (Nat.le_of_ble_eq_true rfl) fun B => ?_
 refine qS ?_
 refine Wp.seqW fun K2 hK2 hW2 => ?_
 refine qS ?_
 refine cM hm (fun hc4 hm => ?_) (fun hc4 hm => ?_)
 ·refine Wp.seqW fun K5 hK5 hW5 => ?_
  refine qS ?_
  refine cM hm (fun hc7 hm => ?_) (fun hc7 hm => ?_)
  ·cases hm
  ·refine Wp.skip ?_
   refine hK5 _ _ ?_
   refine qS ?_
   cases hm
 ·refine Wp.skip ?_
  refine hK2 _ _ ?_
  obtain ⟨r_3, hr_3, hm⟩ := call_elim hm
  refine Wp.seqR fun K9 hK9 => ?_
  simp only [go_sem, simprocAttr]
  try refine ⟨sd, ?_⟩
  refine Rg.callF (av := ?av10) (ok_internal_strconv_formatBits [] i_1 base_2 false false _ hr_3) si si sg ?cont10
  intro hv10
  simp only [go_sem, simprocAttr]
  first | apply hK9 | refine ⟨sd, hK9 _ _ ?_⟩
  refine qS ?_
  refine Wp.ret ?_
  refine retQ_ret ?_
  cases hm
  exact fse1
theorem ok_strconv_FormatUint (i_1 : Int) (base_2 : Int) (z : Str) (hm : strconv_FormatUint i_1 base_2 = some z) : Does Tryz.prog 112 [.p (.i .u64 i_1), .p (.i .i64 base_2)] [] (fun r X => r = .p (.s z) ∧ X = []) := by
 unfold strconv_FormatUint at hm
 refine Does.of_wp 0 8 [.tmp 4] Tryz.func112 rfl (by decide) rfl rfl (Nat.le_of_ble_eq_true rfl) fun B => ?_
 refine qS ?_
 obtain ⟨r_3, hr_3, hm⟩ := call_elim hm
 refine Wp.seqR fun K2 hK2 => ?_
 simp only [go_sem, simprocAttr]
 try refine ⟨sd, ?_⟩
 refine Rg.callX (av := ?av3) (g := true) (fun hg => ok_internal_strconv_FormatUint i_1 base_2 _ hr_3) si si si sg si ?cont3
 intro hv3
 simp only [go_sem, simprocAttr]
 first | apply hK2 | refine ⟨sd, hK2 _ _ ?_⟩
 refine Wp.ret ?_
 refine retQ_ret ?_
 cases hm
 exact fse1
theorem ok_math_bits_Mul64 (x_1 : Int) (y_2 : Int) (z : Int × Int) (hm : math_bits_Mul64 x_1 y_2 = some z) : Does Tryz.prog 302 [.p (.i .u64 x_1), .p (.i .u64 y_2)] [] (fun r X => r = .tup [.p (.i .u64 z.1), .p (.i .u64 z.2)] ∧ X = []) := by
 unfold math_bits_Mul64 at hm
 refine Does.of_wp 0 51 [.tmp 4, .tmp 5] Tryz.func302 rfl (by decide) rfl rfl (Nat.le_of_ble_eq_true rfl) fun B => ?_
 refine qS ?_
 refine qS ?_
 refine qS ?_
 refine qS ?_
 refine qS ?_
 refine qS ?_
 refine qS ?_
 refine qS ?_
 refine qS ?_
 refine qS ?_
 refine qS ?_
 refine qS ?_
 refine Wp.ret ?_
 refine retQ_ret ?_
 cases hm
 exact fse1
theorem ok_math_bits_Mul (x_1 : Int) (y_2 : Int) (z : Int × Int) (hm : math_bits_Mul x_1 y_2 = some z) : Does Tryz.prog 228 [.p (.i .u64 x_1), .p (.i .u64 y_2)] [] (fun r X => r = .tup [.p (.i .u64 z.1), .p (.i .u64 z.2)] ∧ X = []) := by
 unfold math_bits_Mul at hm
 refine Does.of_wp 0 30 [.tmp 4, .tmp 5] Tryz.func228 rfl (by decide) rfl rfl (Nat.le_of_ble_eq_true rfl) fun B => ?_
 refine qS ?_
 refine Wp.seqW fun K2 hK2 hW2 => ?_
 refine Wp.cond rfl ⟨⟩ (fun hc3 => ?_) (fun hc3 => ?_)
 ·cases hc3
 refine Wp.skip ?_
 refine hK2 _ _ ?_
 obtain ⟨r_3, hr_3, hm⟩ := call_elim hm
 refine Wp.seqR fun K4 hK4 => ?_
 simp only [go_sem, simprocAttr]
 try refine ⟨sd, ?_⟩
 refine Rg.callX (av := ?av5) (g := true) (fun hg => ok_math_bits_Mul64 x_1 y_2 _ hr_3) si si si sg si ?cont5
 intro hv5
 simp only [go_sem, simprocAttr]
 first | apply hK4 | refine ⟨sd, hK4 _ _ ?_⟩
 refine qS ?_
 refine Wp.ret ?_
 refine retQ_ret ?_
 cases hm
 exact fse1
theorem ok_internal_stringslite_HasPrefix (s_1 : Str) (prefix_2 : Str) (z : Bool) (hm : internal_stringslite_HasPrefix s_1 prefix_2 = some z) : Does Tryz.prog 303 [.p (.s s_1), .p (.s prefix_2)] [] (fun r X => r = .p (.b z) ∧ X = []) := by
 unfold internal_stringslite_HasPrefix at hm
 refine Does.of_wp 0 18 [.tmp 4] Tryz.func303 rfl (by decide) rfl rfl (Nat.le_of_ble_eq_true rfl) fun B => ?_
 refine qS ?_
 obtain ⟨c_3, hm⟩ := chk_elim hm
 refine Wp.seqR fun K2 hK2 => ?_
 simp only [go_sem, simprocAttr]
 first | apply hK2 | refine ⟨by first | exact sd | ((repeat' apply And.intro) <;> first | assumption | omega | (simp only [List.length_append, List.length_map, List.length_cons, List.length_nil, List.length_set, List.length_replicate] at c_3 ⊢; omega)), hK2 _ _ ?_⟩
 refine Wp.ret ?_
 refine retQ_ret ?_
 cases hm
 exact fse1
theorem ok_strings_HasPrefix (s_1 : Str) (prefix_2 : Str) (z : Bool) (hm : strings_HasPrefix s_1 prefix_2 = some z) : Does Tryz.prog 229 [.p (.s s_1), .p (.s prefix_2)] [] (fun r X => r = .p (.b z) ∧ X = []) := by
 unfold strings_HasPrefix at hm
 refine Does.of_wp 0 8 [.tmp 4] Tryz.func229 rfl (by decide) rfl rfl (Nat.le_of_ble_eq_true rfl) fun B => ?_
 refine qS ?_
 obtain ⟨r_3, hr_3, hm⟩ := call_elim hm
 refine Wp.seqR fun K2 hK2 => ?_
 simp only [go_sem, simprocAttr]
 try refine ⟨sd, ?_⟩
 refine Rg.callX (av := ?av3) (g := true) (fun hg => ok_internal_stringslite_HasPrefix s_1 prefix_2 _ hr_3) si si si sg si ?cont3
 intro hv3
 simp only [go_sem, simprocAttr]
 first | apply hK2 | refine ⟨sd, hK2 _ _ ?_⟩
 refine Wp.ret ?_
 refine retQ_ret ?_
 cases hm
 exact fse1
theorem ok_strings_Builder_Grow (n : Int) (o0 : Str) (z : Unit) (hm : strings_Builder_Grow n o0 = some z) : Does Tryz.prog 230 [.ptr 0 0, .p (.i .i64 n)] [.cells 170 [.np 0, .buf 1], .sb 5 o0] (fun r X => r = .tup [] ∧ X = [.cells 170 [.np 0, .buf 1], .sb 5 o0]) := by
 obtain ⟨h, -⟩ := chk_elim hm
 obtain ⟨k, rfl⟩ := Int.eq_ofNat_of_zero_le h.1
 exact Does.grow growLay growExt k o0 (by omega)
theorem ok_strings_Builder_copyCheck_i1 (o1_1 : Str) (z : Unit) (hm : strings_Builder_copyCheck_i1 o1_1 = some z) : Does Tryz.prog 234 [.ptr 0 0] [.cells 170 [.nil, .buf 1], .sb 5 o1_1] (fun r X => r = .tup [] ∧ X = [.cells 170 [.ptr 0 0, .buf 1], .sb 5 o1_1]) := by
 unfold strings_Builder_copyCheck_i1 at hm
 refine Does.of_wp 2 20 [] Tryz.func234 rfl (by decide) rfl rfl (Nat.le_of_ble_eq_true rfl) fun B => ?_
 refine qS ?_
 refine Wp.cond rfl ⟨⟩ (fun hc2 => ?_) (fun hc2 => ?_)
 rotate_left
 ·cases hc2
 refine Wp.region fun K3 hK3 => ?_
 simp only [go_sem, simprocAttr]
 try refine ⟨sd, ?_⟩
 refine Rg.callI (v := ?av4) (g := true) nvi_305 si si sg ?cont4
 simp only [go_sem, simprocAttr]
 first | apply hK3 | refine ⟨sd, hK3 _ _ ?_⟩
 refine retQ_normal ?_
 cases hm
 exact fse1
theorem ok_strings_Builder_copyCheck_i2 (o1_1 : Str) (z : Unit) (hm : strings_Builder_copyCheck_i2 o1_1 = some z) : Does Tryz.prog 234 [.ptr 0 0] [.cells 170 [.ptr 0 0, .buf 1], .sb 5 o1_1] (fun r X => r = .tup [] ∧ X = [.cells 170 [.ptr 0 0, .buf 1], .sb 5 o1_1]) := by
 unfold strings_Builder_copyCheck_i2 at hm
 refine Does.of_wp 2 20 [] Tryz.func234 rfl (by decide) rfl rfl (Nat.le_of_ble_eq_true rfl) fun B => ?_
 refine qS ?_
 refine Wp.cond rfl ⟨⟩ (fun hc2 => ?_) (fun hc2 => ?_)
 ·cases hc2
 refine qS ?_
 refine Wp.cond rfl ⟨⟩ (fun hc4 => ?_) (fun hc4 => ?_)
 ·cases hc4
 refine Wp.skip ?_
 refine retQ_normal ?_
 cases hm
 exact fse1
theorem ok_strings_Builder_copyCheck_np (o0 : Str) (z : Unit) (hm : strings_Builder_copyCheck_np o0 = some z) : Does Tryz.prog 234 [.ptr 0 0] [.cells 170 [.np 0, .buf 1], .sb 5 o0] (fun r X => r = .tup [] ∧ X = [.cells 170 [.np 0, .buf 1], .sb 5 o0]) :=
 Does.np (ok_strings_Builder_copyCheck_i1 o0 () rfl) (ok_strings_Builder_copyCheck_i2 o0 () rfl)
theorem ok_strings_Builder_WriteString_i1 (s_1 : Str) (o1_2 : Str) (z : Int × Str) (hm : strings_Builder_WriteString_i1 s_1 o1_2 = some z) : Does Tryz.prog 115 [.ptr 0 0, .p (.s s_1)] [.cells 170 [.np 0, .buf 1], .sb 5 o1_2] (fun r X => r = .tup [.p (.i .i64 z.1), .raw .nilIface] ∧ X = [.cells 170 [.np 0, .buf 1], .sb 5 z.2]) := by
 unfold strings_Builder_WriteString_i1 at hm
 refine Does.of_wp 2 19 [.tmp 4, .tmp 5] Tryz.func115 rfl (by decide) rfl rfl (Nat.le_of_ble_eq_true rfl) fun B => ?_
 refine qS ?_
 obtain ⟨r_5, hr_5, hm⟩ := call_elim hm
 refine Wp.seqR fun K2 hK2 => ?_
 simp only [go_sem, simprocAttr]
 try refine ⟨sd, ?_⟩
 refine Rg.callO (av := ?av3) [0, 1] (ok_strings_Builder_copyCheck_np o1_2 _ hr_5) si si si sg sg ?cont3
 rintro _ _ ⟨rfl, rfl⟩ hv3
 simp only [go_sem, simprocAttr]
 first | apply hK2 | refine ⟨sd, hK2 _ _ ?_⟩
 obtain ⟨c_6, hm⟩ := chk_elim hm
 refine Wp.seqR fun K4 hK4 => ?_
 simp only [go_sem, simprocAttr]
 first | apply hK4 | refine ⟨by first | exact sd | ((repeat' apply And.intro) <;> first | assumption | omega | (simp only [List.length_append, List.length_map, List.length_cons, List.length_nil, List.length_set, List.length_replicate] at c_6 ⊢; omega)), hK4 _ _ ?_⟩
 refine qS ?_
 refine Wp.ret ?_
 refine retQ_ret ?_
 cases hm
 exact fse1
theorem ok_strings_Builder_Len_i1 (o1_1 : Str) (z : Int) (hm : strings_Builder_Len_i1 o1_1 = some z) : Does Tryz.prog 231 [.ptr 0 0] [.cells 170 [.np 0, .buf 1], .sb 5 o1_1] (fun r X => r = .p (.i .i64 z) ∧ X = [.cells 170 [.np 0, .buf 1], .sb 5 o1_1]) := by
 unfold strings_Builder_Len_i1 at hm
 refine Does.of_wp 2 8 [.tmp 2] Tryz.func231 rfl (by decide) rfl rfl (Nat.le_of_ble_eq_true rfl) fun B => ?_
 refine qS ?_
 refine qS ?_
 refine Wp.ret ?_
 refine retQ_ret ?_
 cases hm
 exact fse1
theorem ok_strings_Builder_String_i1 (o1_1 : Str) (z : Str) (hm : strings_Builder_String_i1 o1_1 = some z) : Does Tryz.prog 118 [.ptr 0 0] [.cells 170 [.np 0, .buf 1], .sb 5 o1_1] (fun r X => r = .p (.s z) ∧ X = [.cells 170 [.np 0, .buf 1], .sb 5 o1_1]) := by
 unfold strings_Builder_String_i1 at hm
 refine Does.of_wp 2 14 [.tmp 2] Tryz.func118 rfl (by decide) rfl rfl (Nat.le_of_ble_eq_true rfl) fun B => ?_
 refine qS ?_
 refine Wp.seqD (plan := pl [(0, none), (1, none), (2, none), (3, none), (5, none), (6, none), (7, none), (8, none), (9, none), (4, some [5, 6, 7, 8, 9]), (10, some []), (11, none)]) (by kernel_rfl) rfl (by kernel_rfl) fun K2 hK2 => ?_
 simp only [go_sem, simprocAttr]
 first | apply hK2 | refine ⟨sd, hK2 _ _ ?_⟩
 refine Wp.ret ?_
 refine retQ_ret ?_
 cases hm
 exact fse1
end Go.Proofs.YtaabfmccihcnkaaGreatDoor
