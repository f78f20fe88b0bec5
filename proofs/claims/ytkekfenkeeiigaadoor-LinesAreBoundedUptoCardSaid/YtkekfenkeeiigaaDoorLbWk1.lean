/- That the code does what the models say (part 1). -/
import Derived.Test.YtkekfenkeeiigaaDoorLbWk0
set_option linter.unusedSimpArgs false
set_option linter.unusedVariables false
open Go.Proofs Go.Shelf
namespace Go.Proofs.YtkekfenkeeiigaaDoor
open Go.Vc Go.Md
set_option maxRecDepth 100000
set_option maxHeartbeats 4000000
theorem ok_ver_isSmall (c_1 : Int) (z : Bool) (hm : ver_isSmall c_1 = some z) : Does Tryd.prog 93 [.p (.i .u8 c_1)] [] (fun r X => r = .p (.b z) ∧ X = []) := by
 unfold ver_isSmall at hm
 refine Does.of_wp 0 9 [.tmp 2] Tryd.func93 rfl (by decide) rfl rfl (Nat.le_of_ble_eq_true rfl) fun B => ?_
 refine qS ?_
 refine qS ?_
 refine Wp.ret ?_
 refine retQ_ret ?_
 cases hm
 exact fse1
theorem ok_ver_isDigit (c_1 : Int) (z : Bool) (hm : ver_isDigit c_1 = some z) : Does Tryd.prog 94 [.p (.i .u8 c_1)] [] (fun r X => r = .p (.b z) ∧ X = []) := by
 unfold ver_isDigit at hm
 refine Does.of_wp 0 9 [.tmp 2] Tryd.func94 rfl (by decide) rfl rfl (Nat.le_of_ble_eq_true rfl) fun B => ?_
 refine qS ?_
 refine qS ?_
 refine Wp.ret ?_
 refine retQ_ret ?_
 cases hm
 exact fse2
theorem ok_ver_IsName_1 (c_1 : Int) (z : Bool) (hm : ver_IsName_1 c_1 = some z) : Does Tryd.prog 92 [.p (.i .u8 c_1)] [] (fun r X => r = .p (.b z) ∧ X = []) := by
 unfold ver_IsName_1 at hm
 refine Does.of_wp 0 17 [.tmp 2] Tryd.func92 rfl (by decide) rfl rfl (Nat.le_of_ble_eq_true rfl) fun B => ?_
 refine qS ?_
 obtain ⟨r_2, hr_2, hm⟩ := call_elim hm
 obtain ⟨r_3, hr_3, hm⟩ := callG_elim hm
 refine Wp.seqR fun K2 hK2 => ?_
 simp only [go_sem, simprocAttr]
 try refine ⟨sd, ?_⟩
 refine Rg.callX (av := ?av3) (g := true) (fun hg => ok_ver_isSmall c_1 _ hr_2) si si si sg si ?cont3
 intro hv3
 simp only [go_sem, simprocAttr]
 try refine ⟨sd, ?_⟩
 refine Rg.callX (av := ?av4) (g := !r_2) (fun hg => ok_ver_isDigit c_1 _ (hr_3 hg)) si si si sg si ?cont4
 intro hv4
 simp only [go_sem, simprocAttr]
 first | apply hK2 | refine ⟨sd, hK2 _ _ ?_⟩
 refine Wp.ret ?_
 refine retQ_ret ?_
 cases hm
 exact fse2
theorem ok_ver_each_i1 (s_1 : Str) (most_2 : Int) (z : Bool) (hm : ver_each_i1 s_1 most_2 = some z) : Does Tryd.prog 91 [.p (.s s_1), .p (.i .i64 most_2), .fn 92 []] [] (fun r X => r = .p (.b z) ∧ X = []) := by
 unfold ver_each_i1 at hm
 refine Does.of_wp 0 28 [.tmp 6] Tryd.func91 rfl (by decide) rfl rfl (Nat.le_of_ble_eq_true rfl) fun B => ?_
 refine qS ?_
 refine Wp.seqW fun K2 hK2 hW2 => ?_
 obtain ⟨k_12, hk_12, hm⟩ := jp_elim hm
 have hcut2 : ∀ s, k_12 s = some z → K2 [(0, .p (.s s_1)), (1, .p (.i .i64 most_2))] [] := by
  intro s hs
  have hm := hk_12 _ hs
  clear hs
  try dsimp only at hm
  try dsimp only
  refine hK2 _ _ ?_
  refine qS ?_
  refine Wp.ret ?_
  refine retQ_ret ?_
  cases hm
  exact fse2
 clear hK2 hk_12
 refine qS ?_
 refine Wp.block ?_
 obtain ⟨k_16, hk_16, hm⟩ := forL_cont hm
 refine Wp.fact 0 fun hl_19 => ?_
 replace hl_19 : s_1.length ≤ 274877906944 := by
  simp only [go_sem, simprocAttr, List.length_map] at hl_19
  omega
 refine Wp.forL (fun i_18 s => [(0, .p (.s s_1)), (1, .p (.i .i64 most_2)), (2, .fn 92 []), (7, .p (.i .i64 (i_18 : Int)))]) (fun i_18 s => []) ?_ hm ?_
 ·
  exact fse2
 clear hm
 intro i_18 s hii_18 hm
 try dsimp only at hm
 try dsimp only
 refine Wp.seqW fun K5 hK5 hW5 => ?_
 refine qS ?_
 refine Wp.cond rfl ⟨⟩ (fun hc5 => ?_) (fun hc5 => ?_)
 rotate_left
 ·refine Wp.exit ?_
  have hm := hk_16 _ (forL_end hm (ge_nat (by first | exact hc5 | simpa using hc5)))
  try dsimp only at hm
  refine hW2 _ _ _ _ ?_ (hcut2 () hm)
  exact fse2
 have hlt5 := lt_nat (by first | exact hc5 | simpa using hc5)
 have hw5 := wrap_succ hlt5 hl_19
 obtain ⟨c_20, nx_17, hxc_20, hyc_20, hnx_17, hm⟩ := forL_step hm hlt5
 clear hxc_20
 refine Wp.skip ?_
 simp only [thenQ]
 refine hK5 _ _ ?_
 refine Wp.seqW fun K7 hK7 hW7 => ?_
 refine Wp.block ?_
 obtain ⟨r_21, hr_21, hm⟩ := call_elim hm
 refine Wp.seqR fun K8 hK8 => ?_
 simp only [go_sem, simprocAttr, hw5, hyc_20]
 try refine ⟨sd, ?_⟩
 refine Rg.callX (av := ?av9) (g := true) (fun hg => ok_ver_IsName_1 (c_20.toNat : Int) _ hr_21) (by simp only [go_sem, simprocAttr, hw5, hyc_20]; exact Is.mk) (by simp only [go_sem, simprocAttr, hw5, hyc_20]; exact Is.mk) (by simp only [go_sem, simprocAttr, hw5, hyc_20]; exact Is.mk) (by simp only [go_sem, simprocAttr, hw5, hyc_20]) (by simp only [go_sem, simprocAttr, hw5, hyc_20]; exact Is.mk) ?cont9
 intro hv9
 simp only [go_sem, simprocAttr, hw5, hyc_20]
 first | apply hK8 | refine ⟨sd, hK8 _ _ ?_⟩
 refine cM hm (fun hc10 hm => ?_) (fun hc10 hm => ?_)
 ·refine Wp.seqR fun K11 hK11 => ?_
  simp only [go_sem, simprocAttr, hw5, hyc_20]
  first | apply hK11 | refine ⟨sd, hK11 _ _ ?_⟩
  refine Wp.ret ?_
  refine retQ_ret ?_
  cases hm
  simp only [go_sem, simprocAttr, hw5, hyc_20]
  try exact se2
 ·refine Wp.skip ?_
  refine hK7 _ _ ?_
  refine Wp.region fun K12 hK12 => ?_
  simp only [go_sem, simprocAttr, hw5, hyc_20]
  first | apply hK12 | refine ⟨sd, hK12 _ _ ?_⟩
  simp only [thenQ, blockQ, ↓reduceIte]
  refine ⟨(), hlt5, hnx_17 _ hm, ?_⟩
  simp only [go_sem, simprocAttr, hw5, hyc_20]
  try exact se2
theorem ok_ver_IsName (s_1 : Str) (z : Bool) (hm : ver_IsName s_1 = some z) : Does Tryd.prog 39 [.p (.s s_1)] [] (fun r X => r = .p (.b z) ∧ X = []) := by
 unfold ver_IsName at hm
 refine Does.of_wp 0 10 [.tmp 2] Tryd.func39 rfl (by decide) rfl rfl (Nat.le_of_ble_eq_true rfl) fun B => ?_
 refine qS ?_
 obtain ⟨r_2, hr_2, hm⟩ := call_elim hm
 obtain ⟨c_3, hm⟩ := chk_elim hm
 obtain ⟨r_4, hr_4, hm⟩ := callG_elim hm
 refine Wp.seqR fun K2 hK2 => ?_
 simp only [go_sem, simprocAttr]
 try refine ⟨by first | exact sd | ((repeat' apply And.intro) <;> first | assumption | omega | (simp only [List.length_append, List.length_map, List.length_cons, List.length_nil, List.length_set, List.length_replicate] at c_3 ⊢; omega)), ?_⟩
 refine Rg.callX (av := ?av3) (g := true) (fun hg => ok_ver_each_i1 s_1 40 _ hr_2) si si si sg si ?cont3
 intro hv3
 simp only [go_sem, simprocAttr]
 try refine ⟨by first | exact sd | ((repeat' apply And.intro) <;> first | assumption | omega | (simp only [List.length_append, List.length_map, List.length_cons, List.length_nil, List.length_set, List.length_replicate] at c_3 ⊢; omega)), ?_⟩
 refine Rg.callX (av := ?av4) (g := r_2) (fun hg => ok_ver_isSmall ((s_1.getD 0 0).toNat : Int) _ (hr_4 hg)) si si si sg si ?cont4
 intro hv4
 simp only [go_sem, simprocAttr]
 first | apply hK2 | refine ⟨by first | exact sd | ((repeat' apply And.intro) <;> first | assumption | omega | (simp only [List.length_append, List.length_map, List.length_cons, List.length_nil, List.length_set, List.length_replicate] at c_3 ⊢; omega)), hK2 _ _ ?_⟩
 refine Wp.ret ?_
 refine retQ_ret ?_
 cases hm
 exact fse2
theorem ok_Law_landed  (z : Bool) (hm : Law_landed = some z) : Does Tryd.prog 9 [] [] (fun r X => r = .p (.b z) ∧ X = []) := by
 unfold Law_landed at hm
 refine Does.of_wp 0 2 [.tmp 0] Tryd.func9 rfl (by decide) rfl rfl (Nat.le_of_ble_eq_true rfl) fun B => ?_
 refine qS ?_
 obtain ⟨r_1, hr_1, hm⟩ := call_elim hm
 refine Wp.seqR fun K2 hK2 => ?_
 simp only [go_sem, simprocAttr]
 try refine ⟨sd, ?_⟩
 refine Rg.callX (av := ?av3) (g := true) (fun hg => ok_ver_IsName ([97] : Str) _ hr_1) si si si sg si ?cont3
 intro hv3
 simp only [go_sem, simprocAttr]
 first | apply hK2 | refine ⟨sd, hK2 _ _ ?_⟩
 refine Wp.ret ?_
 refine retQ_ret ?_
 cases hm
 exact fse2
theorem ok_internal_stringslite_IndexByte (s_1 : Str) (c_2 : Int) (z : Int) (hm : internal_stringslite_IndexByte s_1 c_2 = some z) : Does Tryd.prog 141 [.p (.s s_1), .p (.i .u8 c_2)] [] (fun r X => r = .p (.i .i64 z) ∧ X = []) := by
 unfold internal_stringslite_IndexByte at hm
 refine Does.of_wp 0 8 [.tmp 4] Tryd.func141 rfl (by decide) rfl rfl (Nat.le_of_ble_eq_true rfl) fun B => ?_
 refine qS ?_
 have hb_3 := ixByte_bd s_1 c_2
 refine Wp.seqR fun K2 hK2 => ?_
 simp only [go_sem, simprocAttr]
 try refine ⟨sd, ?_⟩
 refine Rg.callN (av := ?av3) (g := true) (fun hg => nv_150 s_1 c_2) si si si sg si ?cont3
 intro hv3
 simp only [go_sem, simprocAttr]
 first | apply hK2 | refine ⟨sd, hK2 _ _ ?_⟩
 refine Wp.ret ?_
 refine retQ_ret ?_
 cases hm
 exact fse3
theorem ok_internal_stringslite_Index (s_1 : Str) (substr_2 : Str) (z : Int) (hm : internal_stringslite_Index s_1 substr_2 = some z) : Does Tryd.prog 128 [.p (.s s_1), .p (.s substr_2)] [] (fun r X => r = .p (.i .i64 z) ∧ X = []) := by
 unfold internal_stringslite_Index at hm
 refine Does.of_wp 0 143 [.tmp 4] Tryd.func128 rfl (by decide) rfl rfl (Nat.le_of_ble_eq_true rfl) fun B => ?_
 refine qS ?_
 refine qS ?_
 refine Wp.seqW fun K3 hK3 hW3 => ?_
 refine Wp.block ?_
 refine qS ?_
 refine cM hm (fun hc5 hm => ?_) (fun hc5 hm => ?_)
 ·refine qS ?_
  refine Wp.ret ?_
  refine retQ_ret ?_
  cases hm
  exact fse3
 ·refine qS ?_
  refine cM hm (fun hc8 hm => ?_) (fun hc8 hm => ?_)
  ·obtain ⟨c_3, hbc_3, hxc_3, hm⟩ := idxS_elim hm
   replace hxc_3 : ((substr_2.getD 0 0).toNat : Int) = c_3 := hxc_3
   obtain ⟨r_4, hr_4, hm⟩ := call_elim hm
   refine Wp.seqR fun K9 hK9 => ?_
   simp only [go_sem, simprocAttr, hxc_3]
   try refine ⟨sd, ?_⟩
   refine Rg.callX (av := ?av10) (g := true) (fun hg => ok_internal_stringslite_IndexByte s_1 c_3 _ hr_4) (by simp only [go_sem, simprocAttr, hxc_3]; exact Is.mk) (by simp only [go_sem, simprocAttr, hxc_3]; exact Is.mk) (by simp only [go_sem, simprocAttr, hxc_3]; exact Is.mk) (by simp only [go_sem, simprocAttr, hxc_3]) (by simp only [go_sem, simprocAttr, hxc_3]; exact Is.mk) ?cont10
   intro hv10
   simp only [go_sem, simprocAttr, hxc_3]
   first | apply hK9 | refine ⟨sd, hK9 _ _ ?_⟩
   refine Wp.ret ?_
   refine retQ_ret ?_
   cases hm
   simp only [go_sem, simprocAttr, hxc_3]
   try exact se3
  ·refine qS ?_
   refine cM hm (fun hc12 hm => ?_) (fun hc12 hm => ?_)
   ·refine qS ?_
    refine Wp.ret ?_
    refine retQ_ret ?_
    cases hm
    exact fse3
   ·cases hm
theorem ok_strings_Index (s_1 : Str) (substr_2 : Str) (z : Int) (hm : strings_Index s_1 substr_2 = some z) : Does Tryd.prog 114 [.p (.s s_1), .p (.s substr_2)] [] (fun r X => r = .p (.i .i64 z) ∧ X = []) := by
 unfold strings_Index at hm
 refine Does.of_wp 0 8 [.tmp 4] Tryd.func114 rfl (by decide) rfl rfl (Nat.le_of_ble_eq_true rfl) fun B => ?_
 refine qS ?_
 obtain ⟨r_3, hr_3, hm⟩ := call_elim hm
 refine Wp.seqR fun K2 hK2 => ?_
 simp only [go_sem, simprocAttr]
 try refine ⟨sd, ?_⟩
 refine Rg.callX (av := ?av3) (g := true) (fun hg => ok_internal_stringslite_Index s_1 substr_2 _ hr_3) si si si sg si ?cont3
 intro hv3
 simp only [go_sem, simprocAttr]
 first | apply hK2 | refine ⟨sd, hK2 _ _ ?_⟩
 refine Wp.ret ?_
 refine retQ_ret ?_
 cases hm
 exact fse3
theorem ok_strings_Count (s_1 : Str) (substr_2 : Str) (z : Int) (hm : strings_Count s_1 substr_2 = some z) : Does Tryd.prog 113 [.p (.s s_1), .p (.s substr_2)] [] (fun r X => r = .p (.i .i64 z) ∧ X = []) := by
 unfold strings_Count at hm
 refine Does.of_wp 0 34 [.tmp 4] Tryd.func113 rfl (by decide) rfl rfl (Nat.le_of_ble_eq_true rfl) fun B => ?_
 refine qS ?_
 refine Wp.seqW fun K2 hK2 hW2 => ?_
 refine qS ?_
 refine cM hm (fun hc4 hm => ?_) (fun hc4 hm => ?_)
 ·cases hm
 ·refine Wp.skip ?_
  refine hK2 _ _ ?_
  refine Wp.seqW fun K5 hK5 hW5 => ?_
  refine qS ?_
  refine cM hm (fun hc7 hm => ?_) (fun hc7 hm => ?_)
  ·obtain ⟨c_3, hbc_3, hxc_3, hm⟩ := idxS_elim hm
   replace hxc_3 : ((substr_2.getD 0 0).toNat : Int) = c_3 := hxc_3
   have hb_4 := cntByte_bd s_1 c_3
   refine Wp.seqR fun K8 hK8 => ?_
   simp only [go_sem, simprocAttr, hxc_3]
   try refine ⟨sd, ?_⟩
   refine Rg.callN (av := ?av9) (g := true) (fun hg => nv_127 s_1 c_3) (by simp only [go_sem, simprocAttr, hxc_3]; exact Is.mk) (by simp only [go_sem, simprocAttr, hxc_3]; exact Is.mk) (by simp only [go_sem, simprocAttr, hxc_3]; exact Is.mk) (by simp only [go_sem, simprocAttr, hxc_3]) (by simp only [go_sem, simprocAttr, hxc_3]; exact Is.mk) ?cont9
   intro hv9
   simp only [go_sem, simprocAttr, hxc_3]
   first | apply hK8 | refine ⟨sd, hK8 _ _ ?_⟩
   refine Wp.ret ?_
   refine retQ_ret ?_
   cases hm
   simp only [go_sem, simprocAttr, hxc_3]
   try exact se3
  ·refine Wp.skip ?_
   refine hK5 _ _ ?_
   refine qS ?_
   refine Wp.block ?_
   obtain ⟨k_14, hk_14, hm⟩ := loopN_cont hm
   refine Wp.loopN (fun s => [(0, .p (.s s.1)), (1, .p (.s substr_2)), (4, .p (.i .i64 0)), (5, .p (.i .i64 s.2))]) (fun s => []) ?_ hm ?_
   ·
    exact fse3
   clear hm
   intro s nx_15 hm
   obtain ⟨s_10, n_11⟩ := s
   try dsimp only at hm
   try dsimp only
   refine Wp.block ?_
   obtain ⟨r_16, hr_16, hm⟩ := call_elim hm
   refine Wp.seqR fun K11 hK11 => ?_
   simp only [go_sem, simprocAttr]
   try refine ⟨sd, ?_⟩
   refine Rg.callX (av := ?av12) (g := true) (fun hg => ok_strings_Index s_10 substr_2 _ hr_16) si si si sg si ?cont12
   intro hv12
   simp only [go_sem, simprocAttr]
   first | apply hK11 | refine ⟨sd, hK11 _ _ ?_⟩
   refine Wp.seqW fun K13 hK13 hW13 => ?_
   refine qS ?_
   refine cM hm (fun hc15 hm => ?_) (fun hc15 hm => ?_)
   ·refine qS ?_
    refine Wp.ret ?_
    refine retQ_ret ?_
    cases hm
    exact fse3
   ·refine Wp.skip ?_
    refine hK13 _ _ ?_
    refine qS ?_
    obtain ⟨c_17, hm⟩ := chk_elim hm
    refine Wp.region fun K18 hK18 => ?_
    simp only [go_sem, simprocAttr]
    first | apply hK18 | refine ⟨by first | exact sd | ((repeat' apply And.intro) <;> first | assumption | omega | (simp only [List.length_append, List.length_map, List.length_cons, List.length_nil, List.length_set, List.length_replicate] at c_17 ⊢; omega)), hK18 _ _ ?_⟩
    simp only [thenQ, blockQ, ↓reduceIte]
    refine ⟨(List.drop ((IntKind.i64.wrap (r_16 + (substr_2.length : Int))).toNat) s_10, IntKind.i64.wrap (n_11 + 1)), hm, ?_⟩
    exact fse3
theorem ok_strings_genSplit (s_1 : Str) (sep_2 : Str) (sepSave_3 : Int) (n_4 : Int) (z : List Str) (hm : strings_genSplit s_1 sep_2 sepSave_3 n_4 = some z) : Does Tryd.prog 97 [.p (.s s_1), .p (.s sep_2), .p (.i .i64 sepSave_3), .p (.i .i64 n_4)] [] (fun r X => r = .p (.l (List.map ecS z)) ∧ X = []) := by
 unfold strings_genSplit at hm
 refine Does.of_wp 0 66 [.tmp 8] Tryd.func97 rfl (by decide) rfl rfl (Nat.le_of_ble_eq_true rfl) fun B => ?_
 refine qS ?_
 refine Wp.seqW fun K2 hK2 hW2 => ?_
 refine qS ?_
 refine cM hm (fun hc4 hm => ?_) (fun hc4 hm => ?_)
 ·refine qS ?_
  refine Wp.ret ?_
  simp only [thenQ, blockQ]
  refine retQ_retE ?_
  cases hm
  exact fse3
 ·refine Wp.skip ?_
  refine hK2 _ _ ?_
  refine Wp.seqW fun K6 hK6 hW6 => ?_
  refine qS ?_
  refine cM hm (fun hc8 hm => ?_) (fun hc8 hm => ?_)
  ·cases hm
  ·refine Wp.skip ?_
   refine hK6 _ _ ?_
   refine Wp.seqW fun K9 hK9 hW9 => ?_
   obtain ⟨k_7, hk_7, hm⟩ := jp_elim hm
   have hcut9 : ∀ s, k_7 s = some z → K9 [(0, .p (.s s_1)), (1, .p (.s sep_2)), (2, .p (.i .i64 sepSave_3)), (3, .p (.i .i64 s))] [] := by
    intro n_6 hs
    have hm := hk_7 _ hs
    clear hs
    try dsimp only at hm
    try dsimp only
    refine hK9 _ _ ?_
    refine qS ?_
    obtain ⟨c_8, hm⟩ := chk_elim hm
    refine Wp.seqR fun K11 hK11 => ?_
    simp only [go_sem, simprocAttr]
    first | apply hK11 | refine ⟨by first | exact sd | ((repeat' apply And.intro) <;> first | assumption | omega | (simp only [List.length_append, List.length_map, List.length_cons, List.length_nil, List.length_set, List.length_replicate] at c_8 ⊢; omega)), hK11 _ _ ?_⟩
    refine qS ?_
    refine qS ?_
    refine Wp.seqW fun K14 hK14 hW14 => ?_
    obtain ⟨k_31, hk_31, hm⟩ := jp_elim hm
    have hcut14 : ∀ s, k_31 s = some z → K14 [(0, .p (.s s.1)), (9, .buf 0), (10, .p (.i .i64 s.2.1))] [.buf 9 1 (List.map ecS s.2.2)] := by
     intro s hs
     have hm := hk_31 _ hs
     clear hs
     obtain ⟨s_28, i_29, o0_30⟩ := s
     try dsimp only at hm
     try dsimp only
     refine hK14 _ _ ?_
     obtain ⟨c_32, hm⟩ := chk_elim hm
     refine Wp.seqR fun K15 hK15 => ?_
     simp only [go_sem, simprocAttr]
     first | apply hK15 | refine ⟨by first | exact sd | ((repeat' apply And.intro) <;> first | assumption | omega | (simp only [List.length_append, List.length_map, List.length_cons, List.length_nil, List.length_set, List.length_replicate] at c_32 ⊢; omega)), hK15 _ _ ?_⟩
     refine Wp.freeze 0 (by simp only [go_sem, simprocAttr]; exact Is.mk) (by first | (simp only [go_sem, simprocAttr]; done) | (simp only [go_sem, simprocAttr]; omega)) ?_
     simp only [go_sem, simprocAttr]
     obtain ⟨c_33, hm⟩ := chk_elim hm
     refine Wp.seqR fun K16 hK16 => ?_
     simp only [go_sem, simprocAttr]
     first | apply hK16 | refine ⟨by first | exact sd | ((repeat' apply And.intro) <;> first | assumption | omega | (simp only [List.length_append, List.length_map, List.length_cons, List.length_nil, List.length_set, List.length_replicate] at c_33 ⊢; omega)), hK16 _ _ ?_⟩
     refine Wp.ret ?_
     refine retQ_ret ?_
     cases hm
     exact fse3
    clear hK14 hk_31
    refine Wp.block ?_
    obtain ⟨k_47, hk_47, hm⟩ := loopN_cont hm
    refine Wp.loopN (fun s => [(0, .p (.s s.1)), (1, .p (.s sep_2)), (2, .p (.i .i64 sepSave_3)), (3, .p (.i .i64 (IntKind.i64.wrap ((min n_6 (IntKind.i64.wrap ((s_1.length : Int) + 1))) - 1)))), (9, .buf 0), (10, .p (.i .i64 s.2.1))]) (fun s => [.buf 9 1 (List.map ecS s.2.2)]) ?_ hm ?_
    ·
     exact fse3
    clear hm
    intro s nx_48 hm
    obtain ⟨s_40, i_41, o0_42⟩ := s
    try dsimp only at hm
    try dsimp only
    refine Wp.seqW fun K17 hK17 hW17 => ?_
    refine qS ?_
    refine cM hm (fun hc19 hm => ?_) (fun hc19 hm => ?_)
    ·refine Wp.skip ?_
     refine hK17 _ _ ?_
     refine Wp.block ?_
     obtain ⟨r_49, hr_49, hm⟩ := call_elim hm
     refine Wp.seqR fun K20 hK20 => ?_
     simp only [go_sem, simprocAttr]
     try refine ⟨sd, ?_⟩
     refine Rg.callX (av := ?av21) (g := true) (fun hg => ok_strings_Index s_40 sep_2 _ hr_49) si si si sg si ?cont21
     intro hv21
     simp only [go_sem, simprocAttr]
     first | apply hK20 | refine ⟨sd, hK20 _ _ ?_⟩
     refine Wp.seqW fun K22 hK22 hW22 => ?_
     refine qS ?_
     refine cM hm (fun hc24 hm => ?_) (fun hc24 hm => ?_)
     ·refine Wp.exit ?_
      simp only [thenQ, blockQ, ↓reduceIte]
      have hm := hk_47 _ hm
      try dsimp only at hm
      refine hW14 _ _ _ _ ?_ (hcut14 (s_40, i_41, o0_42) hm)
      exact fse3
     ·refine Wp.skip ?_
      refine hK22 _ _ ?_
      obtain ⟨c_50, hm⟩ := chk_elim hm
      obtain ⟨c_51, hm⟩ := chk_elim hm
      refine Wp.seqR fun K25 hK25 => ?_
      simp only [go_sem, simprocAttr]
      first | apply hK25 | refine ⟨by first | exact sd | ((repeat' apply And.intro) <;> first | assumption | omega | (simp only [List.length_append, List.length_map, List.length_cons, List.length_nil, List.length_set, List.length_replicate] at c_50 c_51 ⊢; omega)), hK25 _ _ ?_⟩
      obtain ⟨c_52, hm⟩ := chk_elim hm
      refine Wp.seqR fun K26 hK26 => ?_
      simp only [go_sem, simprocAttr]
      first | apply hK26 | refine ⟨by first | exact sd | ((repeat' apply And.intro) <;> first | assumption | omega | (simp only [List.length_append, List.length_map, List.length_cons, List.length_nil, List.length_set, List.length_replicate] at c_52 ⊢; omega)), hK26 _ _ ?_⟩
      refine qR ?_
      simp only [thenQ, blockQ, ↓reduceIte]
      refine ⟨(List.drop ((IntKind.i64.wrap (r_49 + (sep_2.length : Int))).toNat) s_40, IntKind.i64.wrap (i_41 + 1), List.set o0_42 i_41.toNat (List.take ((IntKind.i64.wrap (r_49 + sepSave_3)).toNat) s_40)), hm, ?_⟩
      exact fse3
    ·refine Wp.exit ?_
     simp only [thenQ, blockQ, ↓reduceIte]
     have hm := hk_47 _ hm
     try dsimp only at hm
     refine hW14 _ _ _ _ ?_ (hcut14 (s_40, i_41, o0_42) hm)
     exact fse3
   clear hK9 hk_7
   refine qS ?_
   refine cM hm (fun hc29 hm => ?_) (fun hc29 hm => ?_)
   ·obtain ⟨r_53, hr_53, hm⟩ := call_elim hm
    refine Wp.region fun K30 hK30 => ?_
    simp only [go_sem, simprocAttr]
    try refine ⟨sd, ?_⟩
    refine Rg.callX (av := ?av31) (g := true) (fun hg => ok_strings_Count s_1 sep_2 _ hr_53) si si si sg si ?cont31
    intro hv31
    simp only [go_sem, simprocAttr]
    first | apply hK30 | refine ⟨sd, hK30 _ _ ?_⟩
    refine hW9 _ _ _ _ ?_ (hcut9 (IntKind.i64.wrap (r_53 + 1)) hm)
    exact fse3
   ·refine Wp.skip ?_
    refine hW9 _ _ _ _ ?_ (hcut9 n_4 hm)
    exact fse3
theorem ok_strings_SplitAfter (s_1 : Str) (sep_2 : Str) (z : List Str) (hm : strings_SplitAfter s_1 sep_2 = some z) : Does Tryd.prog 45 [.p (.s s_1), .p (.s sep_2)] [] (fun r X => r = .p (.l (List.map ecS z)) ∧ X = []) := by
 unfold strings_SplitAfter at hm
 refine Does.of_wp 0 10 [.tmp 4] Tryd.func45 rfl (by decide) rfl rfl (Nat.le_of_ble_eq_true rfl) fun B => ?_
 refine qS ?_
 obtain ⟨r_3, hr_3, hm⟩ := call_elim hm
 refine Wp.seqR fun K2 hK2 => ?_
 simp only [go_sem, simprocAttr]
 try refine ⟨sd, ?_⟩
 refine Rg.callF (av := ?av3) (ok_strings_genSplit s_1 sep_2 (sep_2.length : Int) (-1) _ hr_3) si si sg ?cont3
 intro hv3
 simp only [go_sem, simprocAttr]
 first | apply hK2 | refine ⟨sd, hK2 _ _ ?_⟩
 refine Wp.ret ?_
 refine retQ_ret ?_
 cases hm
 exact fse3
theorem ok_delta_linesOf (s_1 : Str) (z : List Str) (hm : delta_linesOf s_1 = some z) : Does Tryd.prog 40 [.p (.s s_1)] [] (fun r X => r = .p (.l (List.map ecS z)) ∧ X = []) := by
 unfold delta_linesOf at hm
 refine Does.of_wp 0 19 [.tmp 2] Tryd.func40 rfl (by decide) rfl rfl (Nat.le_of_ble_eq_true rfl) fun B => ?_
 refine qS ?_
 obtain ⟨r_2, hr_2, hm⟩ := call_elim hm
 refine Wp.seqR fun K2 hK2 => ?_
 simp only [go_sem, simprocAttr]
 try refine ⟨sd, ?_⟩
 refine Rg.callF (av := ?av3) (ok_strings_SplitAfter s_1 ([10] : Str) _ hr_2) si si sg ?cont3
 intro hv3
 simp only [go_sem, simprocAttr]
 first | apply hK2 | refine ⟨sd, hK2 _ _ ?_⟩
 refine Wp.seqW fun K4 hK4 hW4 => ?_
 obtain ⟨s_3, hbs_3, hxs_3, hys_3, hm⟩ := idx_elim hm
 replace hxs_3 : ∀ d, (List.map ecS r_2).getD ((IntKind.i64.wrap ((r_2.length : Int) - 1)).toNat) d = ecS s_3 := hxs_3 ecS
 refine Wp.seqR fun K5 hK5 => ?_
 simp only [go_sem, simprocAttr, hxs_3]
 first | apply hK5 | refine ⟨sd, hK5 _ _ ?_⟩
 refine cM hm (fun hc6 hm => ?_) (fun hc6 hm => ?_)
 ·obtain ⟨c_4, hm⟩ := chk_elim hm
  refine Wp.region fun K7 hK7 => ?_
  simp only [go_sem, simprocAttr, hxs_3]
  first | apply hK7 | refine ⟨by first | exact sd | ((repeat' apply And.intro) <;> first | assumption | omega | (simp only [List.length_append, List.length_map, List.length_cons, List.length_nil, List.length_set, List.length_replicate] at c_4 ⊢; omega)), hK7 _ _ ?_⟩
  refine hK4 _ _ ?_
  refine Wp.seqR fun K8 hK8 => ?_
  simp only [go_sem, simprocAttr, hxs_3]
  first | apply hK8 | refine ⟨sd, hK8 _ _ ?_⟩
  refine Wp.ret ?_
  refine retQ_ret ?_
  cases hm
  simp only [go_sem, simprocAttr, hxs_3]
  try exact se3
 ·refine Wp.skip ?_
  refine hK4 _ _ ?_
  refine Wp.seqR fun K9 hK9 => ?_
  simp only [go_sem, simprocAttr, hxs_3]
  first | apply hK9 | refine ⟨sd, hK9 _ _ ?_⟩
  refine Wp.ret ?_
  refine retQ_ret ?_
  cases hm
  simp only [go_sem, simprocAttr, hxs_3]
  try exact se3
theorem ok_delta_linesFault (s_1 : Str) (l_2 : List Str) (z : Int) (hm : delta_linesFault s_1 l_2 = some z) : Does Tryd.prog 41 [.p (.s s_1), .p (.l (List.map ecS l_2))] [] (fun r X => r = .p (.i .i64 z) ∧ X = []) := by
 unfold delta_linesFault at hm
 refine Does.of_wp 0 13 [.tmp 4] Tryd.func41 rfl (by decide) rfl rfl (Nat.le_of_ble_eq_true rfl) fun B => ?_
 refine qS ?_
 refine Wp.seqW fun K2 hK2 hW2 => ?_
 refine qS ?_
 refine cM hm (fun hc4 hm => ?_) (fun hc4 hm => ?_)
 ·refine qS ?_
  refine Wp.ret ?_
  refine retQ_ret ?_
  cases hm
  exact fse3
 ·refine Wp.skip ?_
  refine hK2 _ _ ?_
  refine qS ?_
  refine Wp.ret ?_
  refine retQ_ret ?_
  cases hm
  exact fse3
theorem ok_delta_numbered_i1 (l_1 : List Str) (m0_2 : List (Str × Int)) (z : List Int × (List (Str × Int))) (hm : delta_numbered_i1 l_1 m0_2 = some z) : Does Tryd.prog 95 [.p (.l (List.map ecS l_1)), .mp 0] [.mp false (encM Dt.s ecI_i64 m0_2)] (fun r X => r = .p (.l (List.map ecI_i64 z.1)) ∧ X = [.mp false (encM Dt.s ecI_i64 z.2)]) := by
 unfold delta_numbered_i1 at hm
 refine Does.of_wp 1 35 [.tmp 4] Tryd.func95 rfl (by decide) rfl rfl (Nat.le_of_ble_eq_true rfl) fun B => ?_
 refine qS ?_
 refine qS ?_
 refine Wp.seqW fun K3 hK3 hW3 => ?_
 obtain ⟨k_95, hk_95, hm⟩ := jp_elim hm
 have hcut3 : ∀ s, k_95 s = some z → K3 [(5, .buf 1)] [.mp false (encM Dt.s ecI_i64 s.1), .buf 3 1 (List.map ecI_i64 s.2)] := by
  intro s hs
  have hm := hk_95 _ hs
  clear hs
  obtain ⟨m0_93, o1_94⟩ := s
  try dsimp only at hm
  try dsimp only
  refine hK3 _ _ ?_
  refine qS ?_
  refine Wp.ret ?_
  refine retQ_ret ?_
  cases hm
  exact fse3
 clear hK3 hk_95
 refine qS ?_
 refine Wp.block ?_
 refine Wp.adopt 5 3 1 rfl ?_
 simp only [go_sem, simprocAttr]
 obtain ⟨k_114, hk_114, hm⟩ := forL_cont hm
 refine Wp.fact 10 fun hl_117 => ?_
 replace hl_117 : l_1.length ≤ 274877906944 := by
  simp only [go_sem, simprocAttr, List.length_map] at hl_117
  omega
 refine Wp.forL (fun i_116 s => [(1, .mp 0), (5, .buf 1), (10, .p (.l (List.map ecS l_1))), (11, .p (.i .i64 (l_1.length : Int))), (12, .p (.i .i64 (i_116 : Int)))]) (fun i_116 s => [.mp false (encM Dt.s ecI_i64 s.1), .buf 3 1 (List.map ecI_i64 s.2)]) ?_ hm ?_
 ·
  exact fse3
 clear hm
 intro i_116 s hii_116 hm
 obtain ⟨m0_105, o1_106⟩ := s
 try dsimp only at hm
 try dsimp only
 refine qS ?_
 refine Wp.seqW fun K7 hK7 hW7 => ?_
 refine Wp.cond rfl ⟨⟩ (fun hc7 => ?_) (fun hc7 => ?_)
 rotate_left
 ·refine Wp.exit ?_
  have hm := hk_114 _ (forL_end hm (ge_nat (by first | exact hc7 | simpa using hc7)))
  try dsimp only at hm
  refine hW3 _ _ _ _ ?_ (hcut3 (m0_105, o1_106) hm)
  exact fse3
 have hlt7 := lt_nat (by first | exact hc7 | simpa using hc7)
 have hw7 := wrap_succ hlt7 hl_117
 obtain ⟨s_118, nx_115, hxs_118, hys_118, hnx_115, hm⟩ := forL_step hm hlt7
 replace hxs_118 := hxs_118 ecS
 refine Wp.skip ?_
 simp only [thenQ]
 refine hK7 _ _ ?_
 refine Wp.seqW fun K8 hK8 hW8 => ?_
 refine Wp.block ?_
 refine Wp.seqR fun K9 hK9 => ?_
 simp only [go_sem, simprocAttr, hw7, hxs_118]
 first | apply hK9 | refine ⟨sd, hK9 _ _ ?_⟩
 obtain ⟨q_119, hq_120, hm⟩ := letv_elim hm
 have hq_120d := mlookD_enc (e := ecI_i64) keq_s m0_105 s_118 0
 have hq_120s := mlook_some (e := ecI_i64) keq_s m0_105 s_118
 simp only [hq_120, ecI_i64, List.map_nil] at hq_120d hq_120s
 refine Wp.seqR fun K10 hK10 => ?_
 simp only [go_sem, simprocAttr, hw7, hxs_118, hq_120d, hq_120s]
 first | apply hK10 | refine ⟨sd, hK10 _ _ ?_⟩
 refine Wp.seqW fun K11 hK11 hW11 => ?_
 refine Wp.seqR fun K12 hK12 => ?_
 simp only [go_sem, simprocAttr, hw7, hxs_118]
 first | apply hK12 | refine ⟨sd, hK12 _ _ ?_⟩
 refine cM hm (fun hc13 hm => ?_) (fun hc13 hm => ?_)
 ·refine Wp.seqR fun K14 hK14 => ?_
  simp only [go_sem, simprocAttr, hw7, hxs_118]
  first | apply hK14 | refine ⟨sd, hK14 _ _ ?_⟩
  obtain ⟨c_122, hm⟩ := chk_elim hm
  have hp_121 := mset_enc (e := ecI_i64) keq_s m0_105 s_118 (m0_105.length : Int)
  simp only [ecI_i64, List.map_nil] at hp_121
  refine Wp.region fun K15 hK15 => ?_
  simp only [go_sem, simprocAttr, hw7, hxs_118, hp_121]
  first | apply hK15 | refine ⟨by first | exact sd | ((repeat' apply And.intro) <;> first | assumption | omega | (simp only [List.length_append, List.length_map, List.length_cons, List.length_nil, List.length_set, List.length_replicate] at c_122 ⊢; omega)), hK15 _ _ ?_⟩
  refine hK11 _ _ ?_
  obtain ⟨c_123, hm⟩ := chk_elim hm
  refine Wp.region fun K16 hK16 => ?_
  simp only [go_sem, simprocAttr, hw7, hxs_118]
  first | apply hK16 | refine ⟨by first | exact sd | ((repeat' apply And.intro) <;> first | assumption | omega | (simp only [List.length_append, List.length_map, List.length_cons, List.length_nil, List.length_set, List.length_replicate] at c_123 ⊢; omega)), hK16 _ _ ?_⟩
  refine hK8 _ _ ?_
  refine Wp.region fun K17 hK17 => ?_
  simp only [go_sem, simprocAttr, hw7, hxs_118]
  first | apply hK17 | refine ⟨sd, hK17 _ _ ?_⟩
  simp only [thenQ, blockQ, ↓reduceIte]
  refine ⟨(aset m0_105 s_118 (m0_105.length : Int), o1_106 ++ [(m0_105.length : Int)]), hlt7, hnx_115 _ hm, ?_⟩
  simp only [go_sem, simprocAttr, hw7, hxs_118]
  try exact se3
 ·refine Wp.skip ?_
  refine hK11 _ _ ?_
  obtain ⟨c_124, hm⟩ := chk_elim hm
  refine Wp.region fun K18 hK18 => ?_
  simp only [go_sem, simprocAttr, hw7, hxs_118]
  first | apply hK18 | refine ⟨by first | exact sd | ((repeat' apply And.intro) <;> first | assumption | omega | (simp only [List.length_append, List.length_map, List.length_cons, List.length_nil, List.length_set, List.length_replicate] at c_124 ⊢; omega)), hK18 _ _ ?_⟩
  refine hK8 _ _ ?_
  refine Wp.region fun K19 hK19 => ?_
  simp only [go_sem, simprocAttr, hw7, hxs_118]
  first | apply hK19 | refine ⟨sd, hK19 _ _ ?_⟩
  simp only [thenQ, blockQ, ↓reduceIte]
  refine ⟨(m0_105, o1_106 ++ [(q_119.getD 0)]), hlt7, hnx_115 _ hm, ?_⟩
  simp only [go_sem, simprocAttr, hw7, hxs_118]
  try exact se3
theorem ok_slices_Index_int_int (s_1 : List Int) (v_2 : Int) (z : Int) (hm : slices_Index_int_int s_1 v_2 = some z) : Does Tryd.prog 96 [.p (.l (List.map ecI_i64 s_1)), .p (.i .i64 v_2)] [] (fun r X => r = .p (.i .i64 z) ∧ X = []) := by
 unfold slices_Index_int_int at hm
 refine Does.of_wp 0 19 [.tmp 4] Tryd.func96 rfl (by decide) rfl rfl (Nat.le_of_ble_eq_true rfl) fun B => ?_
 refine qS ?_
 refine Wp.seqW fun K2 hK2 hW2 => ?_
 obtain ⟨k_10, hk_10, hm⟩ := jp_elim hm
 have hcut2 : ∀ s, k_10 s = some z → K2 [] [] := by
  intro s hs
  have hm := hk_10 _ hs
  clear hs
  try dsimp only at hm
  try dsimp only
  refine hK2 _ _ ?_
  refine qS ?_
  refine Wp.ret ?_
  refine retQ_ret ?_
  cases hm
  exact fse3
 clear hK2 hk_10
 refine qS ?_
 refine Wp.block ?_
 obtain ⟨k_13, hk_13, hm⟩ := forL_cont hm
 refine Wp.fact 0 fun hl_16 => ?_
 replace hl_16 : s_1.length ≤ 274877906944 := by
  simp only [go_sem, simprocAttr, List.length_map] at hl_16
  omega
 refine Wp.forL (fun i_15 s => [(0, .p (.l (List.map ecI_i64 s_1))), (1, .p (.i .i64 v_2)), (7, .p (.i .i64 (s_1.length : Int))), (8, .p (.i .i64 (i_15 : Int)))]) (fun i_15 s => []) ?_ hm ?_
 ·
  exact fse3
 clear hm
 intro i_15 s hii_15 hm
 try dsimp only at hm
 try dsimp only
 refine qS ?_
 refine Wp.seqW fun K6 hK6 hW6 => ?_
 refine Wp.cond rfl ⟨⟩ (fun hc6 => ?_) (fun hc6 => ?_)
 rotate_left
 ·refine Wp.exit ?_
  have hm := hk_13 _ (forL_end hm (ge_nat (by first | exact hc6 | simpa using hc6)))
  try dsimp only at hm
  refine hW2 _ _ _ _ ?_ (hcut2 () hm)
  exact fse3
 have hlt6 := lt_nat (by first | exact hc6 | simpa using hc6)
 have hw6 := wrap_succ hlt6 hl_16
 obtain ⟨n_17, nx_14, hxn_17, hyn_17, hnx_14, hm⟩ := forL_step hm hlt6
 replace hxn_17 := hxn_17 ecI_i64
 refine Wp.skip ?_
 simp only [thenQ]
 refine hK6 _ _ ?_
 refine Wp.seqW fun K7 hK7 hW7 => ?_
 refine Wp.block ?_
 refine Wp.seqR fun K8 hK8 => ?_
 simp only [go_sem, simprocAttr, hw6, hxn_17]
 first | apply hK8 | refine ⟨sd, hK8 _ _ ?_⟩
 refine Wp.seqR fun K9 hK9 => ?_
 simp only [go_sem, simprocAttr, hw6, hxn_17]
 first | apply hK9 | refine ⟨sd, hK9 _ _ ?_⟩
 refine cM hm (fun hc10 hm => ?_) (fun hc10 hm => ?_)
 ·refine Wp.seqR fun K11 hK11 => ?_
  simp only [go_sem, simprocAttr, hw6, hxn_17]
  first | apply hK11 | refine ⟨sd, hK11 _ _ ?_⟩
  refine Wp.ret ?_
  refine retQ_ret ?_
  cases hm
  simp only [go_sem, simprocAttr, hw6, hxn_17]
  try exact se3
 ·refine Wp.skip ?_
  refine hK7 _ _ ?_
  refine Wp.region fun K12 hK12 => ?_
  simp only [go_sem, simprocAttr, hw6, hxn_17]
  first | apply hK12 | refine ⟨sd, hK12 _ _ ?_⟩
  simp only [thenQ, blockQ, ↓reduceIte]
  refine ⟨(), hlt6, hnx_14 _ hm, ?_⟩
  simp only [go_sem, simprocAttr, hw6, hxn_17]
  try exact se3
end Go.Proofs.YtkekfenkeeiigaaDoor
