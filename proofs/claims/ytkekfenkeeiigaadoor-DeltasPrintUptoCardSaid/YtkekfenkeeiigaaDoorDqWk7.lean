/- That the code does what the models say (part 7). -/
import Derived.Test.YtkekfenkeeiigaaDoorDqWk0
import Derived.Test.YtkekfenkeeiigaaDoorDqWk1
import Derived.Test.YtkekfenkeeiigaaDoorDqWk3
import Derived.Test.YtkekfenkeeiigaaDoorDqWk4
import Derived.Test.YtkekfenkeeiigaaDoorDqWk5
import Derived.Test.YtkekfenkeeiigaaDoorDqWk6
set_option linter.unusedSimpArgs false
set_option linter.unusedVariables false
open Go.Proofs Go.Shelf
namespace Go.Proofs.YtkekfenkeeiigaaDoor
open Go.Vc Go.Md
set_option maxRecDepth 100000
set_option maxHeartbeats 4000000
theorem ok_R_when (bad_1 : Bool) (e_2 : Int) (z : Int) (hm : R_when bad_1 e_2 = some z) : Does Tryd.prog 86 [.p (.b bad_1), .p (.i .i64 e_2)] [] (fun r X => r = .p (.i .i64 z) ∧ X = []) := by
 unfold R_when at hm
 refine Does.of_wp 0 7 [.tmp 4] Tryd.func86 rfl (by decide) rfl rfl (Nat.le_of_ble_eq_true rfl) fun B => ?_
 refine qS ?_
 refine Wp.seqW fun K2 hK2 hW2 => ?_
 refine qS ?_
 refine cM hm (fun hc4 hm => ?_) (fun hc4 hm => ?_)
 ·refine qS ?_
  refine Wp.ret ?_
  refine retQ_ret ?_
  cases hm
  exact fse3
 ·refine Wp.skip ?_
  refine hK2 _ _ ?_
  refine qS ?_
  refine Wp.ret ?_
  refine retQ_ret ?_
  cases hm
  exact fse3
theorem ok_R_first (l_1 : List Int) (z : Int) (hm : R_first l_1 = some z) : Does Tryd.prog 53 [.p (.l (List.map ecI_i64 l_1))] [] (fun r X => r = .p (.i .i64 z) ∧ X = []) := by
 unfold R_first at hm
 refine Does.of_wp 0 15 [.tmp 2] Tryd.func53 rfl (by decide) rfl rfl (Nat.le_of_ble_eq_true rfl) fun B => ?_
 refine qS ?_
 refine Wp.seqW fun K2 hK2 hW2 => ?_
 obtain ⟨k_9, hk_9, hm⟩ := jp_elim hm
 have hcut2 : ∀ s, k_9 s = some z → K2 [] [] := by
  intro s hs
  have hm := hk_9 _ hs
  clear hs
  try dsimp only at hm
  try dsimp only
  refine hK2 _ _ ?_
  refine qS ?_
  refine Wp.ret ?_
  refine retQ_ret ?_
  cases hm
  exact fse3
 clear hK2 hk_9
 refine qS ?_
 refine Wp.block ?_
 obtain ⟨k_12, hk_12, hm⟩ := forL_cont hm
 refine Wp.fact 5 fun hl_15 => ?_
 replace hl_15 : l_1.length ≤ 274877906944 := by
  simp only [go_sem, simprocAttr, List.length_map] at hl_15
  omega
 refine Wp.forL (fun i_14 s => [(5, .p (.l (List.map ecI_i64 l_1))), (6, .p (.i .i64 (l_1.length : Int))), (7, .p (.i .i64 (i_14 : Int)))]) (fun i_14 s => []) ?_ hm ?_
 ·
  exact fse3
 clear hm
 intro i_14 s hii_14 hm
 try dsimp only at hm
 try dsimp only
 refine qS ?_
 refine Wp.seqW fun K6 hK6 hW6 => ?_
 refine Wp.cond rfl ⟨⟩ (fun hc6 => ?_) (fun hc6 => ?_)
 rotate_left
 ·refine Wp.exit ?_
  have hm := hk_12 _ (forL_end hm (ge_nat (by first | exact hc6 | simpa using hc6)))
  try dsimp only at hm
  refine hW2 _ _ _ _ ?_ (hcut2 () hm)
  exact fse3
 have hlt6 := lt_nat (by first | exact hc6 | simpa using hc6)
 have hw6 := wrap_succ hlt6 hl_15
 obtain ⟨e_16, nx_13, hxe_16, hye_16, hnx_13, hm⟩ := forL_step hm hlt6
 replace hxe_16 := hxe_16 ecI_i64
 refine Wp.skip ?_
 simp only [thenQ]
 refine hK6 _ _ ?_
 refine Wp.seqW fun K7 hK7 hW7 => ?_
 refine Wp.block ?_
 refine Wp.seqR fun K8 hK8 => ?_
 simp only [go_sem, simprocAttr, hw6, hxe_16]
 first | apply hK8 | refine ⟨sd, hK8 _ _ ?_⟩
 refine Wp.seqR fun K9 hK9 => ?_
 simp only [go_sem, simprocAttr, hw6, hxe_16]
 first | apply hK9 | refine ⟨sd, hK9 _ _ ?_⟩
 refine cM hm (fun hc10 hm => ?_) (fun hc10 hm => ?_)
 ·refine Wp.seqR fun K11 hK11 => ?_
  simp only [go_sem, simprocAttr, hw6, hxe_16]
  first | apply hK11 | refine ⟨sd, hK11 _ _ ?_⟩
  refine Wp.ret ?_
  refine retQ_ret ?_
  cases hm
  simp only [go_sem, simprocAttr, hw6, hxe_16]
  try exact se3
 ·refine Wp.skip ?_
  refine hK7 _ _ ?_
  refine Wp.region fun K12 hK12 => ?_
  simp only [go_sem, simprocAttr, hw6, hxe_16]
  first | apply hK12 | refine ⟨sd, hK12 _ _ ?_⟩
  simp only [thenQ, blockQ, ↓reduceIte]
  refine ⟨(), hlt6, hnx_13 _ hm, ?_⟩
  simp only [go_sem, simprocAttr, hw6, hxe_16]
  try exact se3
theorem ok_R_DeltaError (d_1 : api_Delta) (z : Int) (hm : R_DeltaError d_1 = some z) : Does Tryd.prog 37 [.agg [.p (.i .i64 d_1.Old), .p (.i .i64 d_1.New), .p (.s d_1.OldSum), .p (.s d_1.NewSum), .p (.l (List.map enc_api_Piece d_1.Pieces))]] [] (fun r X => r = .p (.i .i64 z) ∧ X = []) := by
 unfold R_DeltaError at hm
 refine Does.of_wp 0 51 [.tmp 2] Tryd.func37 rfl (by decide) rfl rfl (Nat.le_of_ble_eq_true rfl) fun B => ?_
 refine qS ?_
 refine Wp.seqW fun K2 hK2 hW2 => ?_
 refine Wp.block ?_
 refine qS ?_
 refine cM hm (fun hc4 hm => ?_) (fun hc4 hm => ?_)
 ·refine qS ?_
  refine Wp.ret ?_
  refine retQ_ret ?_
  cases hm
  exact fse3
 ·obtain ⟨r_2, hr_2, hm⟩ := call_elim hm
  obtain ⟨r_3, hr_3, hm⟩ := callG_elim hm
  refine Wp.seqR fun K6 hK6 => ?_
  simp only [go_sem, simprocAttr]
  try refine ⟨sd, ?_⟩
  refine Rg.callX (av := ?av7) (g := true) (fun hg => ok_R_IsSum d_1.OldSum _ hr_2) si si si sg si ?cont7
  intro hv7
  simp only [go_sem, simprocAttr]
  try refine ⟨sd, ?_⟩
  refine Rg.callX (av := ?av8) (g := !(!r_2)) (fun hg => ok_R_IsSum d_1.NewSum _ (hr_3 hg)) si si si sg si ?cont8
  intro hv8
  simp only [go_sem, simprocAttr]
  first | apply hK6 | refine ⟨sd, hK6 _ _ ?_⟩
  refine cM hm (fun hc9 hm => ?_) (fun hc9 hm => ?_)
  ·refine qS ?_
   refine Wp.ret ?_
   refine retQ_ret ?_
   cases hm
   exact fse3
  ·refine Wp.skip ?_
   refine hK2 _ _ ?_
   obtain ⟨r_4, hr_4, hm⟩ := call_elim hm
   refine Wp.seqR fun K11 hK11 => ?_
   simp only [go_sem, simprocAttr]
   try refine ⟨sd, ?_⟩
   refine Rg.callX (av := ?av12) (g := true) (fun hg => ok_R_PiecesError d_1.Pieces d_1.Old _ hr_4) si si si sg si ?cont12
   intro hv12
   simp only [go_sem, simprocAttr]
   first | apply hK11 | refine ⟨sd, hK11 _ _ ?_⟩
   obtain ⟨r_5, hr_5, hm⟩ := call_elim hm
   obtain ⟨r_6, hr_6, hm⟩ := call_elim hm
   refine Wp.seqR fun K13 hK13 => ?_
   simp only [go_sem, simprocAttr]
   try refine ⟨sd, ?_⟩
   refine Rg.callX (av := ?av14) (g := true) (fun hg => ok_R_when (!decide (r_4.1 = d_1.New)) 11 _ hr_5) si si si sg si ?cont14
   intro hv14
   simp only [go_sem, simprocAttr]
   try refine ⟨sd, ?_⟩
   refine Rg.callX (av := ?av15) (g := true) (fun hg => ok_R_first [r_4.2, r_5] _ hr_6) si si si sg si ?cont15
   intro hv15
   simp only [go_sem, simprocAttr]
   first | apply hK13 | refine ⟨sd, hK13 _ _ ?_⟩
   refine Wp.ret ?_
   refine retQ_ret ?_
   cases hm
   exact fse3
theorem ok_R_ParseDelta_1_i1 (n_1 : Int) (o0_0_2 : Str) (o1_0_3 : Bool) (z : Str × Str × Bool) (hm : R_ParseDelta_1_i1 n_1 o0_0_2 o1_0_3 = some z) : Does Tryd.prog 87 [.p (.i .i64 n_1), .ptr 0 0, .ptr 1 0] [.cells 9 [.p (.s o0_0_2)], .cells 4 [.p (.b o1_0_3)]] (fun r X => r = .p (.s z.1) ∧ X = [.cells 9 [.p (.s z.2.1)], .cells 4 [.p (.b z.2.2)]]) := by
 unfold R_ParseDelta_1_i1 at hm
 refine Does.of_wp 2 21 [.tmp 4] Tryd.func87 rfl (by decide) rfl rfl (Nat.le_of_ble_eq_true rfl) fun B => ?_
 refine qS ?_
 refine Wp.seqW fun K2 hK2 hW2 => ?_
 refine qS ?_
 refine cM hm (fun hc4 hm => ?_) (fun hc4 hm => ?_)
 ·refine qS ?_
  refine qS ?_
  refine Wp.ret ?_
  refine retQ_ret ?_
  cases hm
  exact fse3
 ·refine Wp.skip ?_
  refine hK2 _ _ ?_
  obtain ⟨c_6, hm⟩ := chk_elim hm
  refine Wp.seqR fun K7 hK7 => ?_
  simp only [go_sem, simprocAttr]
  first | apply hK7 | refine ⟨by first | exact sd | ((repeat' apply And.intro) <;> first | assumption | omega | (simp only [List.length_append, List.length_map, List.length_cons, List.length_nil, List.length_set, List.length_replicate] at c_6 ⊢; omega)), hK7 _ _ ?_⟩
  obtain ⟨c_7, hm⟩ := chk_elim hm
  refine Wp.seqR fun K8 hK8 => ?_
  simp only [go_sem, simprocAttr]
  first | apply hK8 | refine ⟨by first | exact sd | ((repeat' apply And.intro) <;> first | assumption | omega | (simp only [List.length_append, List.length_map, List.length_cons, List.length_nil, List.length_set, List.length_replicate] at c_7 ⊢; omega)), hK8 _ _ ?_⟩
  refine qS ?_
  refine Wp.ret ?_
  refine retQ_ret ?_
  cases hm
  exact fse3
theorem ok_R_ParseDelta_2_i1 (o1_0_1 : Str) (o2_0_2 : Bool) (z : Int × Str × Bool) (hm : R_ParseDelta_2_i1 o1_0_1 o2_0_2 = some z) : Does Tryd.prog 88 [.ptr 0 0, .ptr 2 0] [.cells 108 [.fn 87 [.ptr 1 0, .ptr 2 0]], .cells 9 [.p (.s o1_0_1)], .cells 4 [.p (.b o2_0_2)]] (fun r X => r = .p (.i .i64 z.1) ∧ X = [.cells 108 [.fn 87 [.ptr 1 0, .ptr 2 0]], .cells 9 [.p (.s z.2.1)], .cells 4 [.p (.b z.2.2)]]) := by
 unfold R_ParseDelta_2_i1 at hm
 refine Does.of_wp 3 34 [.tmp 2] Tryd.func88 rfl (by decide) rfl rfl (Nat.le_of_ble_eq_true rfl) fun B => ?_
 refine qS ?_
 refine qS ?_
 refine Wp.seqW fun K3 hK3 hW3 => ?_
 obtain ⟨k_59, hk_59, hm⟩ := jp_elim hm
 have hcut3 : ∀ s, k_59 s = some z → K3 [(1, .ptr 2 0)] [.cells 108 [.fn 87 [.ptr 1 0, .ptr 2 0]], .cells 9 [.p (.s s.1)], .cells 4 [.p (.b s.2)]] := by
  intro s hs
  have hm := hk_59 _ hs
  clear hs
  obtain ⟨o1_0_57, o2_0_58⟩ := s
  try dsimp only at hm
  try dsimp only
  refine hK3 _ _ ?_
  refine qS ?_
  refine qS ?_
  refine Wp.ret ?_
  refine retQ_ret ?_
  cases hm
  exact fse3
 clear hK3 hk_59
 refine Wp.block ?_
 obtain ⟨k_72, hk_72, hm⟩ := loopN_cont hm
 refine Wp.loopN (fun s => [(0, .ptr 0 0), (1, .ptr 2 0), (3, .p (.i .i64 s.1)), (4, .p (.i .i64 s.2.1))]) (fun s => [.cells 108 [.fn 87 [.ptr 1 0, .ptr 2 0]], .cells 9 [.p (.s s.2.2.1)], .cells 4 [.p (.b s.2.2.2)]]) ?_ hm ?_
 ·
  exact fse3
 clear hm
 intro s nx_73 hm
 obtain ⟨n_65, k_66, o1_0_67, o2_0_68⟩ := s
 try dsimp only at hm
 try dsimp only
 refine Wp.seqW fun K6 hK6 hW6 => ?_
 refine qS ?_
 refine cM hm (fun hc8 hm => ?_) (fun hc8 hm => ?_)
 ·refine Wp.skip ?_
  refine hK6 _ _ ?_
  refine Wp.seqW fun K9 hK9 hW9 => ?_
  refine Wp.block ?_
  obtain ⟨r_74, hr_74, hm⟩ := call_elim hm
  refine Wp.seqR fun K10 hK10 => ?_
  simp only [go_sem, simprocAttr]
  try refine ⟨sd, ?_⟩
  refine Rg.callO (av := ?av11) [1, 2] (ok_R_ParseDelta_1_i1 1 o1_0_67 o2_0_68 _ hr_74) si si si sg sg ?cont11
  rintro _ _ ⟨rfl, rfl⟩ hv11
  simp only [go_sem, simprocAttr]
  first | apply hK10 | refine ⟨sd, hK10 _ _ ?_⟩
  refine Wp.seqW fun K12 hK12 hW12 => ?_
  refine qS ?_
  refine cM hm (fun hc14 hm => ?_) (fun hc14 hm => ?_)
  ·refine qS ?_
   refine Wp.ret ?_
   refine retQ_ret ?_
   cases hm
   exact fse3
  ·refine Wp.skip ?_
   refine hK12 _ _ ?_
   obtain ⟨c_75, hbc_75, hxc_75, hm⟩ := idxS_elim hm
   replace hxc_75 : ((r_74.1.getD 0 0).toNat : Int) = c_75 := hxc_75
   obtain ⟨c_76, hm⟩ := chk_elim hm
   refine Wp.seqR fun K16 hK16 => ?_
   simp only [go_sem, simprocAttr, hxc_75]
   first | apply hK16 | refine ⟨by first | exact sd | ((repeat' apply And.intro) <;> first | assumption | omega | (simp only [List.length_append, List.length_map, List.length_cons, List.length_nil, List.length_set, List.length_replicate] at c_76 ⊢; omega)), hK16 _ _ ?_⟩
   refine Wp.seqR fun K17 hK17 => ?_
   simp only [go_sem, simprocAttr, hxc_75]
   first | apply hK17 | refine ⟨sd, hK17 _ _ ?_⟩
   refine cM hm (fun hc18 hm => ?_) (fun hc18 hm => ?_)
   ·refine Wp.seqW fun K19 hK19 hW19 => ?_
    refine Wp.seqR fun K20 hK20 => ?_
    simp only [go_sem, simprocAttr, hxc_75]
    first | apply hK20 | refine ⟨sd, hK20 _ _ ?_⟩
    refine cM hm (fun hc21 hm => ?_) (fun hc21 hm => ?_)
    ·refine Wp.region fun K22 hK22 => ?_
     simp only [go_sem, simprocAttr, hxc_75]
     first | apply hK22 | refine ⟨sd, hK22 _ _ ?_⟩
     refine hK19 _ _ ?_
     refine Wp.seqR fun K23 hK23 => ?_
     simp only [go_sem, simprocAttr, hxc_75]
     first | apply hK23 | refine ⟨sd, hK23 _ _ ?_⟩
     refine Wp.ret ?_
     refine retQ_ret ?_
     cases hm
     simp only [go_sem, simprocAttr, hxc_75]
     try exact se3
    ·refine Wp.skip ?_
     refine hK19 _ _ ?_
     refine Wp.seqR fun K24 hK24 => ?_
     simp only [go_sem, simprocAttr, hxc_75]
     first | apply hK24 | refine ⟨sd, hK24 _ _ ?_⟩
     refine Wp.ret ?_
     refine retQ_ret ?_
     cases hm
     simp only [go_sem, simprocAttr, hxc_75]
     try exact se3
   ·refine Wp.skip ?_
    refine hK9 _ _ ?_
    refine Wp.region fun K25 hK25 => ?_
    simp only [go_sem, simprocAttr, hxc_75]
    first | apply hK25 | refine ⟨sd, hK25 _ _ ?_⟩
    simp only [thenQ, blockQ, ↓reduceIte]
    refine ⟨(bitsI .or .i64 n_65 (IntKind.i64.wrap ((IntKind.i64.wrap (bitsI .and .u8 c_75 127)) * 2 ^ (shI .i64 (IntKind.i64.wrap (7 * k_66))))), IntKind.i64.wrap (k_66 + 1), r_74.2.1, r_74.2.2), hm, ?_⟩
    simp only [go_sem, simprocAttr, hxc_75]
    try exact se3
 ·refine Wp.exit ?_
  simp only [thenQ, blockQ, ↓reduceIte]
  have hm := hk_72 _ hm
  try dsimp only at hm
  refine hW3 _ _ _ _ ?_ (hcut3 (o1_0_67, o2_0_68) hm)
  exact fse3
theorem ok_R_ParseDelta_3_i1 (o1_0_1 : Str) (o2_0_2 : Bool) (z : Str × Str × Bool) (hm : R_ParseDelta_3_i1 o1_0_1 o2_0_2 = some z) : Does Tryd.prog 89 [.ptr 0 0] [.cells 108 [.fn 87 [.ptr 1 0, .ptr 2 0]], .cells 9 [.p (.s o1_0_1)], .cells 4 [.p (.b o2_0_2)]] (fun r X => r = .p (.s z.1) ∧ X = [.cells 108 [.fn 87 [.ptr 1 0, .ptr 2 0]], .cells 9 [.p (.s z.2.1)], .cells 4 [.p (.b z.2.2)]]) := by
 unfold R_ParseDelta_3_i1 at hm
 refine Does.of_wp 3 29 [.tmp 1] Tryd.func89 rfl (by decide) rfl rfl (Nat.le_of_ble_eq_true rfl) fun B => ?_
 refine qS ?_
 obtain ⟨r_25, hr_25, hm⟩ := call_elim hm
 refine Wp.seqR fun K2 hK2 => ?_
 simp only [go_sem, simprocAttr]
 try refine ⟨sd, ?_⟩
 refine Rg.callO (av := ?av3) [1, 2] (ok_R_ParseDelta_1_i1 8 o1_0_1 o2_0_2 _ hr_25) si si si sg sg ?cont3
 rintro _ _ ⟨rfl, rfl⟩ hv3
 simp only [go_sem, simprocAttr]
 first | apply hK2 | refine ⟨sd, hK2 _ _ ?_⟩
 refine qS ?_
 refine Wp.seqW fun K5 hK5 hW5 => ?_
 obtain ⟨k_35, hk_35, hm⟩ := jp_elim hm
 have hcut5 : ∀ s, k_35 s = some z → K5 [(3, .p (.i .u64 s))] [.cells 108 [.fn 87 [.ptr 1 0, .ptr 2 0]], .cells 9 [.p (.s r_25.2.1)], .cells 4 [.p (.b r_25.2.2)]] := by
  intro n_34 hs
  have hm := hk_35 _ hs
  clear hs
  try dsimp only at hm
  try dsimp only
  refine hK5 _ _ ?_
  obtain ⟨r_36, hr_36, hm⟩ := call_elim hm
  refine Wp.seqR fun K6 hK6 => ?_
  simp only [go_sem, simprocAttr]
  try refine ⟨sd, ?_⟩
  refine Rg.callX (av := ?av7) (g := true) (fun hg => ok_strconv_FormatUint n_34 16 _ hr_36) si si si sg si ?cont7
  intro hv7
  simp only [go_sem, simprocAttr]
  first | apply hK6 | refine ⟨sd, hK6 _ _ ?_⟩
  obtain ⟨r_37, hr_37, hm⟩ := call_elim hm
  obtain ⟨c_38, hm⟩ := chk_elim hm
  refine Wp.seqR fun K8 hK8 => ?_
  simp only [go_sem, simprocAttr]
  try refine ⟨by first | exact sd | ((repeat' apply And.intro) <;> first | assumption | omega | (simp only [List.length_append, List.length_map, List.length_cons, List.length_nil, List.length_set, List.length_replicate] at c_38 ⊢; omega)), ?_⟩
  refine Rg.callX (av := ?av9) (g := true) (fun hg => ok_strings_Repeat ([48] : Str) (IntKind.i64.wrap (16 - (r_36.length : Int))) _ hr_37) si si si sg si ?cont9
  intro hv9
  simp only [go_sem, simprocAttr]
  first | apply hK8 | refine ⟨by first | exact sd | ((repeat' apply And.intro) <;> first | assumption | omega | (simp only [List.length_append, List.length_map, List.length_cons, List.length_nil, List.length_set, List.length_replicate] at c_38 ⊢; omega)), hK8 _ _ ?_⟩
  refine Wp.ret ?_
  refine retQ_ret ?_
  cases hm
  exact fse3
 clear hK5 hk_35
 refine qS ?_
 refine Wp.block ?_
 obtain ⟨k_42, hk_42, hm⟩ := forL_cont hm
 refine Wp.fact 2 fun hl_45 => ?_
 replace hl_45 : r_25.1.length ≤ 274877906944 := by
  simp only [go_sem, simprocAttr, List.length_map] at hl_45
  omega
 refine Wp.forL (fun i_44 s => [(2, .p (.s r_25.1)), (3, .p (.i .u64 s)), (9, .p (.i .i64 (r_25.1.length : Int))), (10, .p (.i .i64 (i_44 : Int)))]) (fun i_44 s => [.cells 108 [.fn 87 [.ptr 1 0, .ptr 2 0]], .cells 9 [.p (.s r_25.2.1)], .cells 4 [.p (.b r_25.2.2)]]) ?_ hm ?_
 ·
  exact fse3
 clear hm
 intro i_44 n_39 hii_44 hm
 try dsimp only at hm
 try dsimp only
 refine qS ?_
 refine Wp.seqW fun K12 hK12 hW12 => ?_
 refine Wp.cond rfl ⟨⟩ (fun hc12 => ?_) (fun hc12 => ?_)
 rotate_left
 ·refine Wp.exit ?_
  have hm := hk_42 _ (forL_end hm (ge_nat (by first | exact hc12 | simpa using hc12)))
  try dsimp only at hm
  refine hW5 _ _ _ _ ?_ (hcut5 n_39 hm)
  exact fse3
 have hlt12 := lt_nat (by first | exact hc12 | simpa using hc12)
 have hw12 := wrap_succ hlt12 hl_45
 obtain ⟨c_46, nx_43, hxc_46, hyc_46, hnx_43, hm⟩ := forL_step hm hlt12
 clear hxc_46
 refine Wp.skip ?_
 simp only [thenQ]
 refine hK12 _ _ ?_
 refine Wp.seqW fun K13 hK13 hW13 => ?_
 refine Wp.block ?_
 refine Wp.seqR fun K14 hK14 => ?_
 simp only [go_sem, simprocAttr, hw12, hyc_46]
 first | apply hK14 | refine ⟨sd, hK14 _ _ ?_⟩
 refine Wp.region fun K15 hK15 => ?_
 simp only [go_sem, simprocAttr, hw12, hyc_46]
 first | apply hK15 | refine ⟨sd, hK15 _ _ ?_⟩
 refine hK13 _ _ ?_
 refine Wp.region fun K16 hK16 => ?_
 simp only [go_sem, simprocAttr, hw12, hyc_46]
 first | apply hK16 | refine ⟨sd, hK16 _ _ ?_⟩
 simp only [thenQ, blockQ, ↓reduceIte]
 refine ⟨bitsI .or .u64 (IntKind.u64.wrap (n_39 * 2 ^ (shI .u64 8))) (IntKind.u64.wrap (c_46.toNat : Int)), hlt12, hnx_43 _ hm, ?_⟩
 simp only [go_sem, simprocAttr, hw12, hyc_46]
 try exact se3
theorem ok_R_ParseDelta (s_1 : Str) (z : api_Delta × Int) (hm : R_ParseDelta s_1 = some z) : Does Tryd.prog 38 [.p (.s s_1)] [] (fun r X => r = .tup [.agg [.p (.i .i64 z.1.Old), .p (.i .i64 z.1.New), .p (.s z.1.OldSum), .p (.s z.1.NewSum), .p (.l (List.map enc_api_Piece z.1.Pieces))], .p (.i .i64 z.2)] ∧ X = []) := by
 unfold R_ParseDelta at hm
 refine Does.of_wp 0 111 [.cell 2 41, .tmp 3] Tryd.func38 rfl (by decide) rfl rfl (Nat.le_of_ble_eq_true rfl) fun B => ?_
 refine qS ?_
 refine Wp.seqW fun K2 hK2 hW2 => ?_
 refine qS ?_
 refine cM hm (fun hc4 hm => ?_) (fun hc4 hm => ?_)
 ·refine qS ?_
  refine Wp.ret ?_
  simp only [thenQ, blockQ]
  refine retQ_retE ?_
  cases hm
  exact fse3
 ·refine Wp.skip ?_
  refine hK2 _ _ ?_
  refine qS ?_
  refine qS ?_
  refine qS ?_
  refine qS ?_
  obtain ⟨r_2, hr_2, hm⟩ := call_elim hm
  refine Wp.seqR fun K10 hK10 => ?_
  simp only [go_sem, simprocAttr]
  try refine ⟨sd, ?_⟩
  refine Rg.callO (av := ?av11) [1, 2] (ok_R_ParseDelta_1_i1 4 s_1 false _ hr_2) si si si sg sg ?cont11
  rintro _ _ ⟨rfl, rfl⟩ hv11
  simp only [go_sem, simprocAttr]
  first | apply hK10 | refine ⟨sd, hK10 _ _ ?_⟩
  obtain ⟨r_3, hr_3, hm⟩ := call_elim hm
  obtain ⟨r_4, hr_4, hm⟩ := call_elim hm
  refine Wp.seqR fun K12 hK12 => ?_
  simp only [go_sem, simprocAttr]
  try refine ⟨sd, ?_⟩
  refine Rg.callO (av := ?av13) [3, 1, 2] (ok_R_ParseDelta_2_i1 r_2.2.1 (!decide (r_2.1 = ([79, 70, 68, 49] : Str))) _ hr_3) si si si sg sg ?cont13
  rintro _ _ ⟨rfl, rfl⟩ hv13
  simp only [go_sem, simprocAttr]
  try refine ⟨sd, ?_⟩
  refine Rg.callO (av := ?av14) [3, 1, 2] (ok_R_ParseDelta_2_i1 r_3.2.1 r_3.2.2 _ hr_4) si si si sg sg ?cont14
  rintro _ _ ⟨rfl, rfl⟩ hv14
  simp only [go_sem, simprocAttr]
  first | apply hK12 | refine ⟨sd, hK12 _ _ ?_⟩
  obtain ⟨r_5, hr_5, hm⟩ := call_elim hm
  obtain ⟨r_6, hr_6, hm⟩ := call_elim hm
  refine Wp.seqR fun K15 hK15 => ?_
  simp only [go_sem, simprocAttr]
  try refine ⟨sd, ?_⟩
  refine Rg.callO (av := ?av16) [3, 1, 2] (ok_R_ParseDelta_3_i1 r_4.2.1 r_4.2.2 _ hr_5) si si si sg sg ?cont16
  rintro _ _ ⟨rfl, rfl⟩ hv16
  simp only [go_sem, simprocAttr]
  try refine ⟨sd, ?_⟩
  refine Rg.callO (av := ?av17) [3, 1, 2] (ok_R_ParseDelta_3_i1 r_5.2.1 r_5.2.2 _ hr_6) si si si sg sg ?cont17
  rintro _ _ ⟨rfl, rfl⟩ hv17
  simp only [go_sem, simprocAttr]
  first | apply hK15 | refine ⟨sd, hK15 _ _ ?_⟩
  refine qS ?_
  refine Wp.seqW fun K19 hK19 hW19 => ?_
  obtain ⟨k_57, hk_57, hm⟩ := jp_elim hm
  have hcut19 : ∀ s, k_57 s = some z → K19 [(0, .p (.s s_1)), (2, .ptr 0 0), (4, .ptr 1 0), (5, .ptr 2 0), (8, .fn 89 [.ptr 3 0]), (9, .ptr 4 0), (10, .p (.b s.1))] [.cells 41 [.p (.i .i64 0), .p (.i .i64 0), .p (.s []), .p (.s []), .nils], .cells 9 [.p (.s s.2.1)], .cells 4 [.p (.b s.2.2.1)], .cells 108 [.fn 87 [.ptr 1 0, .ptr 2 0]], .cells 41 [.p (.i .i64 r_3.1), .p (.i .i64 r_4.1), .p (.s r_5.1), .p (.s r_6.1), .buf 5], .buf 49 3 (List.map enc_api_Piece s.2.2.2)] := by
   intro s hs
   have hm := hk_57 _ hs
   clear hs
   obtain ⟨empty_53, o1_0_54, o2_0_55, o5_56⟩ := s
   try dsimp only at hm
   try dsimp only
   refine hK19 _ _ ?_
   obtain ⟨c_58, hm⟩ := chk_elim hm
   refine Wp.seqR fun K20 hK20 => ?_
   simp only [go_sem, simprocAttr]
   first | apply hK20 | refine ⟨by first | exact sd | ((repeat' apply And.intro) <;> first | assumption | omega | (simp only [List.length_append, List.length_map, List.length_cons, List.length_nil, List.length_set, List.length_replicate] at c_58 ⊢; omega)), hK20 _ _ ?_⟩
   obtain ⟨r_59, hr_59, hm⟩ := call_elim hm
   refine Wp.seqR fun K21 hK21 => ?_
   simp only [go_sem, simprocAttr]
   try refine ⟨sd, ?_⟩
   refine Rg.callO (av := ?av22) [3, 1, 2] (ok_R_ParseDelta_3_i1 o1_0_54 o2_0_55 _ hr_59) si si si sg sg ?cont22
   rintro _ _ ⟨rfl, rfl⟩ hv22
   simp only [go_sem, simprocAttr]
   first | apply hK21 | refine ⟨sd, hK21 _ _ ?_⟩
   refine Wp.seqW fun K23 hK23 hW23 => ?_
   refine qS ?_
   refine cM hm (fun hc25 hm => ?_) (fun hc25 hm => ?_)
   ·refine qS ?_
    refine Wp.ret ?_
    simp only [thenQ, blockQ]
    refine retQ_retE ?_
    cases hm
    exact fse3
   ·refine Wp.skip ?_
    refine hK23 _ _ ?_
    refine Wp.seqW fun K27 hK27 hW27 => ?_
    obtain ⟨r_60, hr_60, hm⟩ := call_elim hm
    refine Wp.seqR fun K28 hK28 => ?_
    simp only [go_sem, simprocAttr]
    try refine ⟨sd, ?_⟩
    refine Rg.callX (av := ?av29) (g := true) (fun hg => ok_R_SumOf (List.take ((IntKind.i64.wrap ((s_1.length : Int) - (o1_0_54.length : Int))).toNat) s_1) _ hr_60) si si si sg si ?cont29
    intro hv29
    simp only [go_sem, simprocAttr]
    first | apply hK28 | refine ⟨sd, hK28 _ _ ?_⟩
    refine cM hm (fun hc30 hm => ?_) (fun hc30 hm => ?_)
    ·refine qS ?_
     refine Wp.ret ?_
     simp only [thenQ, blockQ]
     refine retQ_retE ?_
     cases hm
     exact fse3
    ·refine Wp.skip ?_
     refine hK27 _ _ ?_
     refine Wp.seqW fun K32 hK32 hW32 => ?_
     obtain ⟨r_61, hr_61, hm⟩ := call_elim hm
     refine Wp.seqR fun K33 hK33 => ?_
     simp only [go_sem, simprocAttr]
     try refine ⟨sd, ?_⟩
     refine Rg.callX (av := ?av34) (g := true) (fun hg => ok_R_DeltaError (api_Delta.mk r_3.1 r_4.1 r_5.1 r_6.1 o5_56) _ hr_61) si si (by simp only [go_sem, simprocAttr, List.map_append, List.map_cons, List.map_nil]; exact Is.mk) sg si ?cont34
     intro hv34
     simp only [go_sem, simprocAttr]
     first | apply hK33 | refine ⟨sd, hK33 _ _ ?_⟩
     refine qS ?_
     refine cM hm (fun hc36 hm => ?_) (fun hc36 hm => ?_)
     ·refine qS ?_
      refine Wp.ret ?_
      simp only [thenQ, blockQ]
      refine retQ_retE ?_
      cases hm
      exact fse3
     ·refine Wp.skip ?_
      refine hK32 _ _ ?_
      refine qS ?_
      refine Wp.ret ?_
      refine retQ_ret ?_
      cases hm
      exact fse3
  clear hK19 hk_57
  obtain ⟨r_62, hr_62, hm⟩ := call_elim hm
  refine Wp.seqR fun K39 hK39 => ?_
  simp only [go_sem, simprocAttr]
  try refine ⟨sd, ?_⟩
  refine Rg.callO (av := ?av40) [3, 1, 2] (ok_R_ParseDelta_2_i1 r_6.2.1 r_6.2.2 _ hr_62) si si si sg sg ?cont40
  rintro _ _ ⟨rfl, rfl⟩ hv40
  simp only [go_sem, simprocAttr]
  first | apply hK39 | refine ⟨sd, hK39 _ _ ?_⟩
  refine Wp.block ?_
  refine Wp.adoptO 4 4 49 3 rfl rfl ?_
  simp only [go_sem, simprocAttr]
  obtain ⟨k_93, hk_93, hm⟩ := loopN_cont hm
  refine Wp.loopN (fun s => [(0, .p (.s s_1)), (2, .ptr 0 0), (4, .ptr 1 0), (5, .ptr 2 0), (6, .ptr 3 0), (7, .fn 88 [.ptr 3 0, .ptr 2 0]), (8, .fn 89 [.ptr 3 0]), (9, .ptr 4 0), (10, .p (.b s.1)), (11, .p (.i .i64 s.2.1))]) (fun s => [.cells 41 [.p (.i .i64 0), .p (.i .i64 0), .p (.s []), .p (.s []), .nils], .cells 9 [.p (.s s.2.2.1)], .cells 4 [.p (.b s.2.2.2.1)], .cells 108 [.fn 87 [.ptr 1 0, .ptr 2 0]], .cells 41 [.p (.i .i64 r_3.1), .p (.i .i64 r_4.1), .p (.s r_5.1), .p (.s r_6.1), .buf 5], .buf 49 3 (List.map enc_api_Piece s.2.2.2.2)]) ?_ hm ?_
  ·
   exact fse3
  clear hm
  intro s nx_94 hm
  obtain ⟨empty_81, n_82, o1_0_83, o2_0_84, o5_85⟩ := s
  try dsimp only at hm
  try dsimp only
  refine Wp.seqW fun K41 hK41 hW41 => ?_
  refine qS ?_
  refine cM hm (fun hc43 hm => ?_) (fun hc43 hm => ?_)
  ·refine Wp.skip ?_
   refine hK41 _ _ ?_
   refine Wp.seqW fun K44 hK44 hW44 => ?_
   refine Wp.block ?_
   obtain ⟨r_95, hr_95, hm⟩ := call_elim hm
   refine Wp.seqR fun K45 hK45 => ?_
   simp only [go_sem, simprocAttr]
   try refine ⟨sd, ?_⟩
   refine Rg.callO (av := ?av46) [1, 2] (ok_R_ParseDelta_1_i1 1 o1_0_83 o2_0_84 _ hr_95) si si si sg sg ?cont46
   rintro _ _ ⟨rfl, rfl⟩ hv46
   simp only [go_sem, simprocAttr]
   first | apply hK45 | refine ⟨sd, hK45 _ _ ?_⟩
   refine Wp.block ?_
   refine qS ?_
   refine cM hm (fun hc48 hm => ?_) (fun hc48 hm => ?_)
   ·obtain ⟨r_96, hr_96, hm⟩ := call_elim hm
    obtain ⟨r_97, hr_97, hm⟩ := call_elim hm
    obtain ⟨c_98, hm⟩ := chk_elim hm
    refine Wp.regD (plan := pl [(0, none), (1, none), (2, none), (4, none), (3, some [0, 1, 4]), (5, some [0, 1]), (6, none), (7, some [0, 1]), (8, some []), (9, none), (10, some [])]) (by kernel_rfl) rfl (by kernel_rfl) fun K49 hK49 => ?_
    simp only [go_sem, simprocAttr]
    try refine ⟨by first | exact sd | ((repeat' apply And.intro) <;> first | assumption | omega | (simp only [List.length_append, List.length_map, List.length_cons, List.length_nil, List.length_set, List.length_replicate] at c_98 ⊢; omega)), ?_⟩
    refine Dr.of_br (Br.callE (av := ?av50) (o := ?o50) [3, 1, 2] (ok_R_ParseDelta_2_i1 r_95.2.1 r_95.2.2 _ hr_96) si si si si si sg sg sg sg ?cont50)
    simp only [go_sem, simprocAttr]
    try refine ⟨by first | exact sd | ((repeat' apply And.intro) <;> first | assumption | omega | (simp only [List.length_append, List.length_map, List.length_cons, List.length_nil, List.length_set, List.length_replicate] at c_98 ⊢; omega)), ?_⟩
    refine Dr.of_br (Br.callE (av := ?av51) (o := ?o51) [3, 1, 2] (ok_R_ParseDelta_2_i1 r_96.2.1 r_96.2.2 _ hr_97) si si si si si sg sg sg sg ?cont51)
    simp only [go_sem, simprocAttr]
    first | apply hK49 | refine ⟨by first | exact sd | ((repeat' apply And.intro) <;> first | assumption | omega | (simp only [List.length_append, List.length_map, List.length_cons, List.length_nil, List.length_set, List.length_replicate] at c_98 ⊢; omega)), hK49 _ _ ?_⟩
    refine hK44 _ _ ?_
    refine qR ?_
    simp only [thenQ, blockQ, ↓reduceIte]
    refine ⟨(empty_81, IntKind.i64.wrap (n_82 - 1), r_97.2.1, r_97.2.2, o5_85 ++ [(api_Piece.mk r_96.1 r_97.1 [])]), hm, ?_⟩
    exact fse3
   ·refine qS ?_
    refine cM hm (fun hc54 hm => ?_) (fun hc54 hm => ?_)
    ·obtain ⟨r_99, hr_99, hm⟩ := call_elim hm
     obtain ⟨r_100, hr_100, hm⟩ := call_elim hm
     refine Wp.seqDS (plan := (.rd 0 (.rd 1 (.fk 2 [0] (.fk 3 [] (.rd 4 (.ef 5 [0, 1, 4] (.ef 6 [] .nil))) 5 [0, 1] (.ef 3 [] (.rd 4 (.ef 6 [] .nil)))) 5 [0, 1] (.ef 2 [0] (.ef 3 [] (.rd 4 (.ef 6 [] .nil)))))))) (by kernel_rfl) rfl (by kernel_rfl) fun K55 hK55 hW55 => ?_
     suffices hcont55 : K55 [(0, .p (.s s_1)), (2, .ptr 0 0), (4, .ptr 1 0), (5, .ptr 2 0), (6, .ptr 3 0), (7, .fn 88 [.ptr 3 0, .ptr 2 0]), (8, .fn 89 [.ptr 3 0]), (9, .ptr 4 0), (10, .p (.b empty_81)), (11, .p (.i .i64 n_82)), (12, .ptr 6 0), (40, .p (.i .i64 n_82)), (41, .p (.b (decide (0 < n_82)))), (42, .p (.b (decide (0 < n_82)))), (45, .p (.b ((decide (0 < n_82)) && (!o2_0_84)))), (48, .fn 87 [.ptr 1 0, .ptr 2 0]), (49, .p (.s r_95.1)), (50, .p (.b (decide (r_95.1 = ([0] : Str))))), (51, .p (.b (decide (r_95.1 = ([0] : Str))))), (62, .p (.b (decide (r_95.1 = ([1] : Str))))), (63, .p (.b (decide (r_95.1 = ([1] : Str))))), (64, .fn 87 [.ptr 1 0, .ptr 2 0]), (65, .fn 88 [.ptr 3 0, .ptr 2 0]), (66, .p (.i .i64 r_99.1)), (67, .p (.s r_100.1)), (68, .agg [.p (.i .i64 0), .p (.i .i64 0), .p (.s r_100.1)])] [.cells 41 [.p (.i .i64 0), .p (.i .i64 0), .p (.s []), .p (.s []), .nils], .cells 9 [.p (.s r_100.2.1)], .cells 4 [.p (.b r_100.2.2)], .cells 108 [.fn 87 [.ptr 1 0, .ptr 2 0]], .cells 41 [.p (.i .i64 r_3.1), .p (.i .i64 r_4.1), .p (.s r_5.1), .p (.s r_6.1), .buf 5], .buf 49 3 (List.map enc_api_Piece o5_85), .cells 49 [.p (.i .i64 0), .p (.i .i64 0), .p (.s r_100.1)]] by
      simp only [go_sem, simprocAttr]
      try refine ⟨sd, ?_⟩
      refine Dr.fk ?_ ?_
      ·
       refine id (Br.callE (av := ?av56) (o := ?o56) [3, 1, 2] (ok_R_ParseDelta_2_i1 r_95.2.1 r_95.2.2 _ hr_99) si si si si si sg sg sg sg ?cont56)
       simp only [go_sem, simprocAttr]
       try refine ⟨sd, ?_⟩
       refine Dr.fk ?_ ?_
       ·
        refine id (Br.callE (av := ?av57) (o := ?o57) [1, 2] (ok_R_ParseDelta_1_i1 r_99.1 r_99.2.1 r_99.2.2 _ hr_100) si si si si si sg sg sg sg ?cont57)
        simp only [go_sem, simprocAttr]
        first | refine hW55.weak _ _ _ _ ?_ hcont55 | refine ⟨sd, hW55.weak _ _ _ _ ?_ hcont55⟩
        exact fse3
       ·
        refine Br.run (o := ?o58) si si ?cont58
        simp only [go_sem, simprocAttr]
        try refine ⟨sd, ?_⟩
        refine Dr.of_br (Br.callE (av := ?av59) (o := ?o59) [1, 2] (ok_R_ParseDelta_1_i1 r_99.1 r_99.2.1 r_99.2.2 _ hr_100) si si si si si sg sg sg sg ?cont59)
        simp only [go_sem, simprocAttr]
        first | refine hW55.weak _ _ _ _ ?_ hcont55 | refine ⟨sd, hW55.weak _ _ _ _ ?_ hcont55⟩
        exact fse3
      ·
       refine Br.run (o := ?o60) si si ?cont60
       simp only [go_sem, simprocAttr]
       try refine ⟨sd, ?_⟩
       refine Dr.of_br (Br.callE (av := ?av61) (o := ?o61) [3, 1, 2] (ok_R_ParseDelta_2_i1 r_95.2.1 r_95.2.2 _ hr_99) si si si si si sg sg sg sg ?cont61)
       simp only [go_sem, simprocAttr]
       try refine ⟨sd, ?_⟩
       refine Dr.of_br (Br.callE (av := ?av62) (o := ?o62) [1, 2] (ok_R_ParseDelta_1_i1 r_99.1 r_99.2.1 r_99.2.2 _ hr_100) si si si si si sg sg sg sg ?cont62)
       simp only [go_sem, simprocAttr]
       first | refine hW55.weak _ _ _ _ ?_ hcont55 | refine ⟨sd, hW55.weak _ _ _ _ ?_ hcont55⟩
       exact fse3
     refine hK55 _ _ ?_
     refine qS ?_
     obtain ⟨c_101, hm⟩ := chk_elim hm
     refine Wp.region fun K64 hK64 => ?_
     simp only [go_sem, simprocAttr]
     first | apply hK64 | refine ⟨by first | exact sd | ((repeat' apply And.intro) <;> first | assumption | omega | (simp only [List.length_append, List.length_map, List.length_cons, List.length_nil, List.length_set, List.length_replicate] at c_101 ⊢; omega)), hK64 _ _ ?_⟩
     refine hK44 _ _ ?_
     refine qR ?_
     simp only [thenQ, blockQ, ↓reduceIte]
     refine ⟨((empty_81 || (decide (r_100.1 = []))), IntKind.i64.wrap (n_82 - 1), r_100.2.1, r_100.2.2, o5_85 ++ [(api_Piece.mk 0 0 r_100.1)]), hm, ?_⟩
     exact fse3
    ·refine qR ?_
     refine hK44 _ _ ?_
     refine qR ?_
     simp only [thenQ, blockQ, ↓reduceIte]
     refine ⟨(empty_81, IntKind.i64.wrap (n_82 - 1), r_95.2.1, true, o5_85), hm, ?_⟩
     exact fse3
  ·refine Wp.exit ?_
   simp only [thenQ, blockQ, ↓reduceIte]
   have hm := hk_93 _ hm
   try dsimp only at hm
   refine hW19 _ _ _ _ ?_ (hcut19 (empty_81, o1_0_83, o2_0_84, o5_85) hm)
   exact fse3
theorem ok_Law_DeltasPrint (a_1 : Str) (b_2 : Str) (raw_3 : Str) (d_4 : api_Delta) (z : Bool) (hm : Law_DeltasPrint a_1 b_2 raw_3 d_4 = some z) : Does Tryd.prog 8 [.p (.s a_1), .p (.s b_2), .p (.s raw_3), .agg [.p (.i .i64 d_4.Old), .p (.i .i64 d_4.New), .p (.s d_4.OldSum), .p (.s d_4.NewSum), .p (.l (List.map enc_api_Piece d_4.Pieces))]] [] (fun r X => r = .p (.b z) ∧ X = []) := by
 unfold Law_DeltasPrint at hm
 refine Does.of_wp 0 114 [.tmp 8] Tryd.func8 rfl (by decide) rfl rfl (Nat.le_of_ble_eq_true rfl) fun B => ?_
 refine qS ?_
 refine Wp.seqW fun K2 hK2 hW2 => ?_
 obtain ⟨r_5, hr_5, hm⟩ := call_elim hm
 refine Wp.seqR fun K3 hK3 => ?_
 simp only [go_sem, simprocAttr]
 try refine ⟨sd, ?_⟩
 refine Rg.callX (av := ?av4) (g := true) (fun hg => ok_Law_landed  _ hr_5) si si si sg si ?cont4
 intro hv4
 simp only [go_sem, simprocAttr]
 first | apply hK3 | refine ⟨sd, hK3 _ _ ?_⟩
 refine cM hm (fun hc5 hm => ?_) (fun hc5 hm => ?_)
 ·refine qS ?_
  refine Wp.ret ?_
  refine retQ_ret ?_
  cases hm
  exact fse3
 ·refine Wp.skip ?_
  refine hK2 _ _ ?_
  obtain ⟨r_6, hr_6, hm⟩ := call_elim hm
  refine Wp.seqR fun K7 hK7 => ?_
  simp only [go_sem, simprocAttr]
  try refine ⟨sd, ?_⟩
  refine Rg.callX (av := ?av8) (g := true) (fun hg => ok_delta_Print d_4 _ hr_6) si si si sg si ?cont8
  intro hv8
  simp only [go_sem, simprocAttr]
  first | apply hK7 | refine ⟨sd, hK7 _ _ ?_⟩
  refine Wp.seqW fun K9 hK9 hW9 => ?_
  obtain ⟨k_11, hk_11, hm⟩ := jp_elim hm
  have hcut9 : ∀ s, k_11 s = some z → K9 [(0, .p (.s a_1)), (1, .p (.s b_2)), (2, .p (.s raw_3)), (7, .ptr 0 0)] [.cells 41 [.p (.i .i64 d_4.Old), .p (.i .i64 d_4.New), .p (.s d_4.OldSum), .p (.s d_4.NewSum), .p (.l (List.map enc_api_Piece d_4.Pieces))]] := by
   intro s hs
   have hm := hk_11 _ hs
   clear hs
   try dsimp only at hm
   try dsimp only
   refine hK9 _ _ ?_
   obtain ⟨r_12, hr_12, hm⟩ := call_elim hm
   obtain ⟨r_13, hr_13, hm⟩ := call_elim hm
   obtain ⟨r_14, hr_14, hm⟩ := call_elim hm
   refine Wp.seqR fun K10 hK10 => ?_
   simp only [go_sem, simprocAttr]
   try refine ⟨sd, ?_⟩
   refine Rg.callX (av := ?av11) (g := true) (fun hg => ok_Law_short a_1 _ hr_12) si si si sg si ?cont11
   intro hv11
   simp only [go_sem, simprocAttr]
   try refine ⟨sd, ?_⟩
   refine Rg.callX (av := ?av12) (g := true) (fun hg => ok_Law_short b_2 _ hr_13) si si si sg si ?cont12
   intro hv12
   simp only [go_sem, simprocAttr]
   try refine ⟨sd, ?_⟩
   refine Rg.callF (av := ?av13) (ok_delta_Make r_12 r_13 _ hr_14) si si sg ?cont13
   intro hv13
   simp only [go_sem, simprocAttr]
   first | apply hK10 | refine ⟨sd, hK10 _ _ ?_⟩
   refine Wp.seqW fun K14 hK14 hW14 => ?_
   refine qS ?_
   refine cM hm (fun hc16 hm => ?_) (fun hc16 hm => ?_)
   ·refine qS ?_
    refine Wp.ret ?_
    refine retQ_ret ?_
    cases hm
    exact fse3
   ·refine Wp.skip ?_
    refine hK14 _ _ ?_
    obtain ⟨r_15, hr_15, hm⟩ := call_elim hm
    refine Wp.seqR fun K18 hK18 => ?_
    simp only [go_sem, simprocAttr]
    try refine ⟨sd, ?_⟩
    refine Rg.callX (av := ?av19) (g := true) (fun hg => ok_delta_Print r_14.1 _ hr_15) si si si sg si ?cont19
    intro hv19
    simp only [go_sem, simprocAttr]
    first | apply hK18 | refine ⟨sd, hK18 _ _ ?_⟩
    obtain ⟨r_16, hr_16, hm⟩ := call_elim hm
    refine Wp.seqR fun K20 hK20 => ?_
    simp only [go_sem, simprocAttr]
    try refine ⟨sd, ?_⟩
    refine Rg.callF (av := ?av21) (ok_delta_Parse r_15.1 _ hr_16) si si sg ?cont21
    intro hv21
    simp only [go_sem, simprocAttr]
    first | apply hK20 | refine ⟨sd, hK20 _ _ ?_⟩
    refine Wp.seqW fun K22 hK22 hW22 => ?_
    obtain ⟨r_17, hr_17, hm⟩ := callG_elim hm
    obtain ⟨r_18, hr_18, hm⟩ := callG_elim hm
    obtain ⟨v_19, hv_20, hm⟩ := letv_elim hm
    refine Wp.seqR fun K23 hK23 => ?_
    simp only [go_sem, simprocAttr, hv_20]
    try refine ⟨sd, ?_⟩
    refine Rg.callX (av := ?av24) (g := !((!decide (r_15.2 = 0)) || (!decide (r_16.2 = 0)))) (fun hg => ok_R_PrintDelta r_14.1 _ (hr_17 hg)) (by simp only [go_sem, simprocAttr, hv_20]; exact Is.mk) (by simp only [go_sem, simprocAttr, hv_20]; exact Is.mk) (by simp only [go_sem, simprocAttr, hv_20]; exact Is.mk) (by simp only [go_sem, simprocAttr, hv_20]) (by simp only [go_sem, simprocAttr, hv_20]; exact Is.mk) ?cont24
    intro hv24
    simp only [go_sem, simprocAttr, hv_20]
    try refine ⟨sd, ?_⟩
    refine Rg.callX (av := ?av25) (g := !(((!decide (r_15.2 = 0)) || (!decide (r_16.2 = 0))) || (!decide (r_15.1 = r_17)))) (fun hg => ok_Law_sameDelta r_16.1 r_14.1 _ (hr_18 hg)) (by simp only [go_sem, simprocAttr, hv_20]; exact Is.mk) (by simp only [go_sem, simprocAttr, hv_20]; exact Is.mk) (by simp only [go_sem, simprocAttr, hv_20]; exact Is.mk) (by simp only [go_sem, simprocAttr, hv_20]) (by simp only [go_sem, simprocAttr, hv_20]; exact Is.mk) ?cont25
    intro hv25
    simp only [go_sem, simprocAttr, hv_20]
    first | apply hK23 | refine ⟨sd, hK23 _ _ ?_⟩
    refine cM hm (fun hc26 hm => ?_) (fun hc26 hm => ?_)
    ·refine Wp.seqR fun K27 hK27 => ?_
     simp only [go_sem, simprocAttr, hv_20]
     first | apply hK27 | refine ⟨sd, hK27 _ _ ?_⟩
     refine Wp.ret ?_
     refine retQ_ret ?_
     cases hm
     simp only [go_sem, simprocAttr, hv_20]
     try exact se3
    ·refine Wp.skip ?_
     refine hK22 _ _ ?_
     obtain ⟨r_21, hr_21, hm⟩ := call_elim hm
     refine Wp.seqR fun K28 hK28 => ?_
     simp only [go_sem, simprocAttr, hv_20]
     try refine ⟨sd, ?_⟩
     refine Rg.callF (av := ?av29) (ok_delta_Parse raw_3 _ hr_21) (by simp only [go_sem, simprocAttr, hv_20]; exact Is.mk) (by simp only [go_sem, simprocAttr, hv_20]; exact Is.mk) (by simp only [go_sem, simprocAttr, hv_20]) ?cont29
     intro hv29
     simp only [go_sem, simprocAttr, hv_20]
     first | apply hK28 | refine ⟨sd, hK28 _ _ ?_⟩
     obtain ⟨r_22, hr_22, hm⟩ := call_elim hm
     refine Wp.seqR fun K30 hK30 => ?_
     simp only [go_sem, simprocAttr, hv_20]
     try refine ⟨sd, ?_⟩
     refine Rg.callF (av := ?av31) (ok_R_ParseDelta raw_3 _ hr_22) (by simp only [go_sem, simprocAttr, hv_20]; exact Is.mk) (by simp only [go_sem, simprocAttr, hv_20]; exact Is.mk) (by simp only [go_sem, simprocAttr, hv_20]) ?cont31
     intro hv31
     simp only [go_sem, simprocAttr, hv_20]
     first | apply hK30 | refine ⟨sd, hK30 _ _ ?_⟩
     obtain ⟨r_23, hr_23, hm⟩ := callG_elim hm
     refine Wp.seqR fun K32 hK32 => ?_
     simp only [go_sem, simprocAttr, hv_20]
     try refine ⟨sd, ?_⟩
     refine Rg.callX (av := ?av33) (g := decide (r_21.2 = r_22.2)) (fun hg => ok_Law_sameDelta r_21.1 r_22.1 _ (hr_23 hg)) (by simp only [go_sem, simprocAttr, hv_20]; exact Is.mk) (by simp only [go_sem, simprocAttr, hv_20]; exact Is.mk) (by simp only [go_sem, simprocAttr, hv_20]; exact Is.mk) (by simp only [go_sem, simprocAttr, hv_20]) (by simp only [go_sem, simprocAttr, hv_20]; exact Is.mk) ?cont33
     intro hv33
     simp only [go_sem, simprocAttr, hv_20]
     first | apply hK32 | refine ⟨sd, hK32 _ _ ?_⟩
     refine Wp.ret ?_
     refine retQ_ret ?_
     cases hm
     simp only [go_sem, simprocAttr, hv_20]
     try exact se3
  clear hK9 hk_11
  obtain ⟨r_24, hr_24, hm⟩ := call_elim hm
  refine Wp.seqR fun K34 hK34 => ?_
  simp only [go_sem, simprocAttr]
  try refine ⟨sd, ?_⟩
  refine Rg.callX (av := ?av35) (g := true) (fun hg => ok_R_DeltaError d_4 _ hr_24) si si si sg si ?cont35
  intro hv35
  simp only [go_sem, simprocAttr]
  first | apply hK34 | refine ⟨sd, hK34 _ _ ?_⟩
  refine qS ?_
  refine cM hm (fun hc37 hm => ?_) (fun hc37 hm => ?_)
  ·refine qS ?_
   refine cM hm (fun hc39 hm => ?_) (fun hc39 hm => ?_)
   ·refine qS ?_
    refine Wp.ret ?_
    refine retQ_ret ?_
    cases hm
    exact fse3
   ·refine Wp.skip ?_
    refine hW9 _ _ _ _ ?_ (hcut9 () hm)
    exact fse3
  ·obtain ⟨r_25, hr_25, hm⟩ := call_elim hm
   refine Wp.seqR fun K41 hK41 => ?_
   simp only [go_sem, simprocAttr]
   try refine ⟨sd, ?_⟩
   refine Rg.callF (av := ?av42) (ok_delta_Parse r_6.1 _ hr_25) si si sg ?cont42
   intro hv42
   simp only [go_sem, simprocAttr]
   first | apply hK41 | refine ⟨sd, hK41 _ _ ?_⟩
   obtain ⟨r_26, hr_26, hm⟩ := callG_elim hm
   obtain ⟨r_27, hr_27, hm⟩ := callG_elim hm
   obtain ⟨v_28, hv_29, hm⟩ := letv_elim hm
   refine Wp.seqR fun K43 hK43 => ?_
   simp only [go_sem, simprocAttr, hv_29]
   try refine ⟨sd, ?_⟩
   refine Rg.callX (av := ?av44) (g := !(!decide (r_6.2 = 0))) (fun hg => ok_R_PrintDelta d_4 _ (hr_26 hg)) (by simp only [go_sem, simprocAttr, hv_29]; exact Is.mk) (by simp only [go_sem, simprocAttr, hv_29]; exact Is.mk) (by simp only [go_sem, simprocAttr, hv_29]; exact Is.mk) (by simp only [go_sem, simprocAttr, hv_29]) (by simp only [go_sem, simprocAttr, hv_29]; exact Is.mk) ?cont44
   intro hv44
   simp only [go_sem, simprocAttr, hv_29]
   try refine ⟨sd, ?_⟩
   refine Rg.callX (av := ?av45) (g := !(((!decide (r_6.2 = 0)) || (!decide (r_6.1 = r_26))) || (!decide (r_25.2 = 0)))) (fun hg => ok_Law_sameDelta r_25.1 d_4 _ (hr_27 hg)) (by simp only [go_sem, simprocAttr, hv_29]; exact Is.mk) (by simp only [go_sem, simprocAttr, hv_29]; exact Is.mk) (by simp only [go_sem, simprocAttr, hv_29]; exact Is.mk) (by simp only [go_sem, simprocAttr, hv_29]) (by simp only [go_sem, simprocAttr, hv_29]; exact Is.mk) ?cont45
   intro hv45
   simp only [go_sem, simprocAttr, hv_29]
   first | apply hK43 | refine ⟨sd, hK43 _ _ ?_⟩
   refine cM hm (fun hc46 hm => ?_) (fun hc46 hm => ?_)
   ·refine Wp.seqR fun K47 hK47 => ?_
    simp only [go_sem, simprocAttr, hv_29]
    first | apply hK47 | refine ⟨sd, hK47 _ _ ?_⟩
    refine Wp.ret ?_
    refine retQ_ret ?_
    cases hm
    simp only [go_sem, simprocAttr, hv_29]
    try exact se3
   ·refine Wp.skip ?_
    refine hW9 _ _ _ _ ?_ (hcut9 () hm)
    simp only [go_sem, simprocAttr, hv_29]
    try exact se3
end Go.Proofs.YtkekfenkeeiigaaDoor
