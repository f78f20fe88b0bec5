/- That the code does what the models say (part 4). -/
import Derived.Test.YthofobeoaimclaaDoorDpWk0
import Derived.Test.YthofobeoaimclaaDoorDpWk1
import Derived.Test.YthofobeoaimclaaDoorDpWk2
import Derived.Test.YthofobeoaimclaaDoorDpWk3
set_option linter.unusedSimpArgs false
set_option linter.unusedVariables false
open Go.Proofs Go.Shelf
namespace Go.Proofs.YthofobeoaimclaaDoor
open Go.Vc Go.Md
set_option maxRecDepth 100000
set_option maxHeartbeats 4000000
theorem ok_delta_reader_piece_i1 (o0_0_1 : Str) (o0_1_2 : Int) (o0_2_3 : Bool) (z : api_Piece × Int × Bool) (hm : delta_reader_piece_i1 o0_0_1 o0_1_2 o0_2_3 = some z) : Does Tryd.prog 78 [.ptr 0 0] [.cells 107 [.p (.s o0_0_1), .p (.i .i64 o0_1_2), .p (.b o0_2_3)]] (fun r X => r = .agg [.p (.i .i64 z.1.At), .p (.i .i64 z.1.Long), .p (.s z.1.Data)] ∧ X = [.cells 107 [.p (.s o0_0_1), .p (.i .i64 z.2.1), .p (.b z.2.2)]]) := by
 unfold delta_reader_piece_i1 at hm
 refine Does.of_wp 1 49 [.cell 2 53] Tryd.func78 rfl (by decide) rfl rfl (Nat.le_of_ble_eq_true rfl) fun B => ?_
 refine qS ?_
 refine Wp.seqW fun K2 hK2 hW2 => ?_
 obtain ⟨r_10, hr_10, hm⟩ := call_elim hm
 refine Wp.seqR fun K3 hK3 => ?_
 simp only [go_sem, simprocAttr]
 try refine ⟨sd, ?_⟩
 refine Rg.callO (av := ?av4) [0] (ok_delta_reader_take_i1 1 o0_0_1 o0_1_2 o0_2_3 _ hr_10) si si si sg sg ?cont4
 rintro _ _ ⟨rfl, rfl⟩ hv4
 simp only [go_sem, simprocAttr]
 first | apply hK3 | refine ⟨sd, hK3 _ _ ?_⟩
 refine Wp.block ?_
 refine qS ?_
 refine cM hm (fun hc6 hm => ?_) (fun hc6 hm => ?_)
 ·refine Wp.skip ?_
  refine hK2 _ _ ?_
  refine qS ?_
  refine Wp.ret ?_
  refine retQ_ret ?_
  cases hm
  exact fse2
 ·obtain ⟨c_11, hbc_11, hxc_11, hm⟩ := idxS_elim hm
  replace hxc_11 : ((r_10.1.getD 0 0).toNat : Int) = c_11 := hxc_11
  refine Wp.seqR fun K8 hK8 => ?_
  simp only [go_sem, simprocAttr, hxc_11]
  first | apply hK8 | refine ⟨sd, hK8 _ _ ?_⟩
  refine cM hm (fun hc9 hm => ?_) (fun hc9 hm => ?_)
  ·obtain ⟨r_12, hr_12, hm⟩ := call_elim hm
   refine Wp.seqR fun K10 hK10 => ?_
   simp only [go_sem, simprocAttr, hxc_11]
   try refine ⟨sd, ?_⟩
   refine Rg.callO (av := ?av11) [0] (ok_delta_reader_number_i1 o0_0_1 r_10.2.2 r_10.2.1 _ hr_12) (by simp only [go_sem, simprocAttr, hxc_11]; exact Is.mk) (by simp only [go_sem, simprocAttr, hxc_11]; exact Is.mk) (by simp only [go_sem, simprocAttr, hxc_11]; exact Is.mk) (by simp only [go_sem, simprocAttr, hxc_11]) (by simp only [go_sem, simprocAttr, hxc_11]) ?cont11
   rintro _ _ ⟨rfl, rfl⟩ hv11
   simp only [go_sem, simprocAttr, hxc_11]
   first | apply hK10 | refine ⟨sd, hK10 _ _ ?_⟩
   obtain ⟨r_13, hr_13, hm⟩ := call_elim hm
   refine Wp.seqR fun K12 hK12 => ?_
   simp only [go_sem, simprocAttr, hxc_11]
   try refine ⟨sd, ?_⟩
   refine Rg.callO (av := ?av13) [0] (ok_delta_reader_number_i1 o0_0_1 r_12.2.1 r_12.2.2 _ hr_13) (by simp only [go_sem, simprocAttr, hxc_11]; exact Is.mk) (by simp only [go_sem, simprocAttr, hxc_11]; exact Is.mk) (by simp only [go_sem, simprocAttr, hxc_11]; exact Is.mk) (by simp only [go_sem, simprocAttr, hxc_11]) (by simp only [go_sem, simprocAttr, hxc_11]) ?cont13
   rintro _ _ ⟨rfl, rfl⟩ hv13
   simp only [go_sem, simprocAttr, hxc_11]
   first | apply hK12 | refine ⟨sd, hK12 _ _ ?_⟩
   refine Wp.ret ?_
   refine retQ_ret ?_
   cases hm
   simp only [go_sem, simprocAttr, hxc_11]
   try exact se2
  ·refine Wp.seqR fun K14 hK14 => ?_
   simp only [go_sem, simprocAttr, hxc_11]
   first | apply hK14 | refine ⟨sd, hK14 _ _ ?_⟩
   refine cM hm (fun hc15 hm => ?_) (fun hc15 hm => ?_)
   ·obtain ⟨r_14, hr_14, hm⟩ := call_elim hm
    obtain ⟨r_15, hr_15, hm⟩ := call_elim hm
    refine Wp.seqR fun K16 hK16 => ?_
    simp only [go_sem, simprocAttr, hxc_11]
    try refine ⟨sd, ?_⟩
    refine Rg.callO (av := ?av17) [0] (ok_delta_reader_number_i1 o0_0_1 r_10.2.2 r_10.2.1 _ hr_14) (by simp only [go_sem, simprocAttr, hxc_11]; exact Is.mk) (by simp only [go_sem, simprocAttr, hxc_11]; exact Is.mk) (by simp only [go_sem, simprocAttr, hxc_11]; exact Is.mk) (by simp only [go_sem, simprocAttr, hxc_11]) (by simp only [go_sem, simprocAttr, hxc_11]) ?cont17
    rintro _ _ ⟨rfl, rfl⟩ hv17
    simp only [go_sem, simprocAttr, hxc_11]
    try refine ⟨sd, ?_⟩
    refine Rg.callO (av := ?av18) [0] (ok_delta_reader_take_i1 r_14.1 o0_0_1 r_14.2.1 r_14.2.2 _ hr_15) (by simp only [go_sem, simprocAttr, hxc_11]; exact Is.mk) (by simp only [go_sem, simprocAttr, hxc_11]; exact Is.mk) (by simp only [go_sem, simprocAttr, hxc_11]; exact Is.mk) (by simp only [go_sem, simprocAttr, hxc_11]) (by simp only [go_sem, simprocAttr, hxc_11]) ?cont18
    rintro _ _ ⟨rfl, rfl⟩ hv18
    simp only [go_sem, simprocAttr, hxc_11]
    first | apply hK16 | refine ⟨sd, hK16 _ _ ?_⟩
    refine Wp.seqR fun K19 hK19 => ?_
    simp only [go_sem, simprocAttr, hxc_11]
    first | apply hK19 | refine ⟨sd, hK19 _ _ ?_⟩
    refine Wp.seqR fun K20 hK20 => ?_
    simp only [go_sem, simprocAttr, hxc_11]
    first | apply hK20 | refine ⟨sd, hK20 _ _ ?_⟩
    refine Wp.ret ?_
    refine retQ_ret ?_
    cases hm
    simp only [go_sem, simprocAttr, hxc_11]
    try exact se2
   ·refine Wp.region fun K21 hK21 => ?_
    simp only [go_sem, simprocAttr, hxc_11]
    first | apply hK21 | refine ⟨sd, hK21 _ _ ?_⟩
    refine hK2 _ _ ?_
    refine Wp.seqR fun K22 hK22 => ?_
    simp only [go_sem, simprocAttr, hxc_11]
    first | apply hK22 | refine ⟨sd, hK22 _ _ ?_⟩
    refine Wp.ret ?_
    refine retQ_ret ?_
    cases hm
    simp only [go_sem, simprocAttr, hxc_11]
    try exact se2
theorem ok_disk_SumOf (text_1 : Str) (z : Str) (hm : disk_SumOf text_1 = some z) : Does Tryd.prog 79 [.p (.s text_1)] [] (fun r X => r = .p (.s z) ∧ X = []) := by
 unfold disk_SumOf at hm
 refine Does.of_wp 0 39 [.tmp 2] Tryd.func79 rfl (by decide) rfl rfl (Nat.le_of_ble_eq_true rfl) fun B => ?_
 refine qS ?_
 refine qS ?_
 refine Wp.seqW fun K3 hK3 hW3 => ?_
 obtain ⟨k_11, hk_11, hm⟩ := jp_elim hm
 have hcut3 : ∀ s, k_11 s = some z → K3 [(3, .p (.i .u64 s))] [] := by
  intro n_10 hs
  have hm := hk_11 _ hs
  clear hs
  try dsimp only at hm
  try dsimp only
  refine hK3 _ _ ?_
  refine qS ?_
  refine Wp.seqW fun K5 hK5 hW5 => ?_
  obtain ⟨k_27, hk_27, hm⟩ := jp_elim hm
  have hcut5 : ∀ s, k_27 s = some z → K5 [(5, .buf 0)] [.buf 5 1 (List.map ecI_u8 s)] := by
   intro o0_26 hs
   have hm := hk_27 _ hs
   clear hs
   try dsimp only at hm
   try dsimp only
   refine hK5 _ _ ?_
   refine qS ?_
   refine Wp.ret ?_
   refine retQ_ret ?_
   cases hm
   exact fse2
  clear hK5 hk_27
  refine qS ?_
  refine Wp.block ?_
  obtain ⟨k_37, hk_37, hm⟩ := loopN_cont hm
  refine Wp.loopN (fun s => [(3, .p (.i .u64 n_10)), (5, .buf 0), (22, .p (.i .i64 ((List.replicate 16 0).length : Int))), (23, .p (.i .i64 s.1))]) (fun s => [.buf 5 1 (List.map ecI_u8 s.2)]) ?_ hm ?_
  ·
   exact fse2
  clear hm
  intro s nx_38 hm
  obtain ⟨t23_32, o0_33⟩ := s
  try dsimp only at hm
  try dsimp only
  refine qS ?_
  refine Wp.seqW fun K9 hK9 hW9 => ?_
  refine cM hm (fun hc10 hm => ?_) (fun hc10 hm => ?_)
  ·refine Wp.skip ?_
   refine hK9 _ _ ?_
   refine Wp.seqW fun K11 hK11 hW11 => ?_
   refine Wp.block ?_
   refine qS ?_
   obtain ⟨c_39, hm⟩ := chk_elim hm
   obtain ⟨c_40, hbc_40, hxc_40, hm⟩ := idxS_elim hm
   replace hxc_40 : ((([48, 49, 50, 51, 52, 53, 54, 55, 56, 57, 97, 98, 99, 100, 101, 102] : Str).getD ((bitsI .and .u64 (Int.fdiv n_10 (2 ^ (shI .u64 (IntKind.i64.wrap (60 - (IntKind.i64.wrap (4 * t23_32))))))) 15).toNat) 0).toNat : Int) = c_40 := hxc_40
   obtain ⟨c_41, hm⟩ := chk_elim hm
   refine Wp.region fun K13 hK13 => ?_
   simp only [go_sem, simprocAttr, hxc_40]
   first | apply hK13 | refine ⟨by first | exact sd | ((repeat' apply And.intro) <;> first | assumption | omega | (simp only [List.length_append, List.length_map, List.length_cons, List.length_nil, List.length_set, List.length_replicate] at c_39 c_41 ⊢; omega)), hK13 _ _ ?_⟩
   refine hK11 _ _ ?_
   refine Wp.region fun K14 hK14 => ?_
   simp only [go_sem, simprocAttr, hxc_40]
   first | apply hK14 | refine ⟨sd, hK14 _ _ ?_⟩
   simp only [thenQ, blockQ, ↓reduceIte]
   refine ⟨(IntKind.i64.wrap (t23_32 + 1), List.set o0_33 t23_32.toNat c_40), hm, ?_⟩
   simp only [go_sem, simprocAttr, hxc_40]
   try exact se2
  ·refine Wp.exit ?_
   simp only [thenQ, blockQ, ↓reduceIte]
   have hm := hk_37 _ hm
   try dsimp only at hm
   refine hW5 _ _ _ _ ?_ (hcut5 o0_33 hm)
   exact fse2
 clear hK3 hk_11
 refine qS ?_
 refine Wp.block ?_
 obtain ⟨k_45, hk_45, hm⟩ := forL_cont hm
 refine Wp.fact 0 fun hl_48 => ?_
 replace hl_48 : text_1.length ≤ 274877906944 := by
  simp only [go_sem, simprocAttr, List.length_map] at hl_48
  omega
 refine Wp.forL (fun i_47 s => [(0, .p (.s text_1)), (3, .p (.i .u64 s)), (4, .p (.i .i64 (i_47 : Int)))]) (fun i_47 s => []) ?_ hm ?_
 ·
  exact fse2
 clear hm
 intro i_47 n_42 hii_47 hm
 try dsimp only at hm
 try dsimp only
 refine Wp.seqW fun K16 hK16 hW16 => ?_
 refine qS ?_
 refine Wp.cond rfl ⟨⟩ (fun hc16 => ?_) (fun hc16 => ?_)
 rotate_left
 ·refine Wp.exit ?_
  have hm := hk_45 _ (forL_end hm (ge_nat (by first | exact hc16 | simpa using hc16)))
  try dsimp only at hm
  refine hW3 _ _ _ _ ?_ (hcut3 n_42 hm)
  exact fse2
 have hlt16 := lt_nat (by first | exact hc16 | simpa using hc16)
 have hw16 := wrap_succ hlt16 hl_48
 obtain ⟨c_49, nx_46, hxc_49, hyc_49, hnx_46, hm⟩ := forL_step hm hlt16
 clear hxc_49
 refine Wp.skip ?_
 simp only [thenQ]
 refine hK16 _ _ ?_
 refine Wp.seqW fun K18 hK18 hW18 => ?_
 refine Wp.block ?_
 refine Wp.region fun K19 hK19 => ?_
 simp only [go_sem, simprocAttr, hw16, hyc_49]
 first | apply hK19 | refine ⟨sd, hK19 _ _ ?_⟩
 refine hK18 _ _ ?_
 refine Wp.region fun K20 hK20 => ?_
 simp only [go_sem, simprocAttr, hw16, hyc_49]
 first | apply hK20 | refine ⟨sd, hK20 _ _ ?_⟩
 simp only [thenQ, blockQ, ↓reduceIte]
 refine ⟨IntKind.u64.wrap ((bitsI .xor .u64 n_42 (IntKind.u64.wrap (c_49.toNat : Int))) * 1099511628211), hlt16, hnx_46 _ hm, ?_⟩
 simp only [go_sem, simprocAttr, hw16, hyc_49]
 try exact se2
theorem ok_delta_outside (n_1 : Int) (low_2 : Int) (high_3 : Int) (z : Bool) (hm : delta_outside n_1 low_2 high_3 = some z) : Does Tryd.prog 89 [.p (.i .i64 n_1), .p (.i .i64 low_2), .p (.i .i64 high_3)] [] (fun r X => r = .p (.b z) ∧ X = []) := by
 unfold delta_outside at hm
 refine Does.of_wp 0 15 [.tmp 6] Tryd.func89 rfl (by decide) rfl rfl (Nat.le_of_ble_eq_true rfl) fun B => ?_
 refine qS ?_
 refine qS ?_
 refine Wp.ret ?_
 refine retQ_ret ?_
 cases hm
 exact fse2
theorem ok_delta_isSum (s_1 : Str) (z : Bool) (hm : delta_isSum s_1 = some z) : Does Tryd.prog 93 [.p (.s s_1)] [] (fun r X => r = .p (.b z) ∧ X = []) := by
 unfold delta_isSum at hm
 refine Does.of_wp 0 36 [.tmp 2] Tryd.func93 rfl (by decide) rfl rfl (Nat.le_of_ble_eq_true rfl) fun B => ?_
 refine qS ?_
 refine Wp.seqW fun K2 hK2 hW2 => ?_
 obtain ⟨k_9, hk_9, hm⟩ := jp_elim hm
 have hcut2 : ∀ s, k_9 s = some z → K2 [(0, .p (.s s_1))] [] := by
  intro s hs
  have hm := hk_9 _ hs
  clear hs
  try dsimp only at hm
  try dsimp only
  refine hK2 _ _ ?_
  refine qS ?_
  refine Wp.ret ?_
  refine retQ_ret ?_
  cases hm
  exact fse2
 clear hK2 hk_9
 refine qS ?_
 refine Wp.block ?_
 obtain ⟨k_12, hk_12, hm⟩ := forL_cont hm
 refine Wp.fact 0 fun hl_15 => ?_
 replace hl_15 : s_1.length ≤ 274877906944 := by
  simp only [go_sem, simprocAttr, List.length_map] at hl_15
  omega
 refine Wp.forL (fun i_14 s => [(0, .p (.s s_1)), (3, .p (.i .i64 (i_14 : Int)))]) (fun i_14 s => []) ?_ hm ?_
 ·
  exact fse2
 clear hm
 intro i_14 s hii_14 hm
 try dsimp only at hm
 try dsimp only
 refine Wp.seqW fun K5 hK5 hW5 => ?_
 refine qS ?_
 refine Wp.cond rfl ⟨⟩ (fun hc5 => ?_) (fun hc5 => ?_)
 rotate_left
 ·refine Wp.exit ?_
  have hm := hk_12 _ (forL_end hm (ge_nat (by first | exact hc5 | simpa using hc5)))
  try dsimp only at hm
  refine hW2 _ _ _ _ ?_ (hcut2 () hm)
  exact fse2
 have hlt5 := lt_nat (by first | exact hc5 | simpa using hc5)
 have hw5 := wrap_succ hlt5 hl_15
 obtain ⟨c_16, nx_13, hxc_16, hyc_16, hnx_13, hm⟩ := forL_step hm hlt5
 clear hxc_16
 refine Wp.skip ?_
 simp only [thenQ]
 refine hK5 _ _ ?_
 refine Wp.seqW fun K7 hK7 hW7 => ?_
 refine Wp.block ?_
 refine Wp.seqR fun K8 hK8 => ?_
 simp only [go_sem, simprocAttr, hw5, hyc_16]
 first | apply hK8 | refine ⟨sd, hK8 _ _ ?_⟩
 refine cM hm (fun hc9 hm => ?_) (fun hc9 hm => ?_)
 ·refine Wp.seqR fun K10 hK10 => ?_
  simp only [go_sem, simprocAttr, hw5, hyc_16]
  first | apply hK10 | refine ⟨sd, hK10 _ _ ?_⟩
  refine Wp.ret ?_
  refine retQ_ret ?_
  cases hm
  simp only [go_sem, simprocAttr, hw5, hyc_16]
  try exact se2
 ·refine Wp.skip ?_
  refine hK7 _ _ ?_
  refine Wp.region fun K11 hK11 => ?_
  simp only [go_sem, simprocAttr, hw5, hyc_16]
  first | apply hK11 | refine ⟨sd, hK11 _ _ ?_⟩
  simp only [thenQ, blockQ, ↓reduceIte]
  refine ⟨(), hlt5, hnx_13 _ hm, ?_⟩
  simp only [go_sem, simprocAttr, hw5, hyc_16]
  try exact se2
theorem ok_delta_CheckSteps (l_1 : List api_Piece) (old_2 : Int) (z : Int × Int) (hm : delta_CheckSteps l_1 old_2 = some z) : Does Tryd.prog 34 [.p (.l (List.map enc_api_Piece l_1)), .p (.i .i64 old_2)] [] (fun r X => r = .tup [.p (.i .i64 z.1), .p (.i .i64 z.2)] ∧ X = []) := by
 unfold delta_CheckSteps at hm
 refine Does.of_wp 0 67 [.tmp 4, .tmp 5] Tryd.func34 rfl (by decide) rfl rfl (Nat.le_of_ble_eq_true rfl) fun B => ?_
 refine qS ?_
 refine Wp.seqW fun K2 hK2 hW2 => ?_
 obtain ⟨r_3, hr_3, hm⟩ := call_elim hm
 refine Wp.seqR fun K3 hK3 => ?_
 simp only [go_sem, simprocAttr]
 try refine ⟨sd, ?_⟩
 refine Rg.callX (av := ?av4) (g := true) (fun hg => ok_delta_outside old_2 0 65536 _ hr_3) si si si sg si ?cont4
 intro hv4
 simp only [go_sem, simprocAttr]
 first | apply hK3 | refine ⟨sd, hK3 _ _ ?_⟩
 refine cM hm (fun hc5 hm => ?_) (fun hc5 hm => ?_)
 ·refine qS ?_
  refine Wp.ret ?_
  refine retQ_ret ?_
  cases hm
  exact fse2
 ·refine Wp.skip ?_
  refine hK2 _ _ ?_
  refine Wp.seqW fun K7 hK7 hW7 => ?_
  refine qS ?_
  refine cM hm (fun hc9 hm => ?_) (fun hc9 hm => ?_)
  ·refine qS ?_
   refine Wp.ret ?_
   refine retQ_ret ?_
   cases hm
   exact fse2
  ·refine Wp.skip ?_
   refine hK7 _ _ ?_
   refine qS ?_
   refine Wp.seqW fun K12 hK12 hW12 => ?_
   obtain ⟨k_13, hk_13, hm⟩ := jp_elim hm
   have hcut12 : ∀ s, k_13 s = some z → K12 [(6, .p (.i .i64 s))] [] := by
    intro size_12 hs
    have hm := hk_13 _ hs
    clear hs
    try dsimp only at hm
    try dsimp only
    refine hK12 _ _ ?_
    refine Wp.seqW fun K13 hK13 hW13 => ?_
    refine qS ?_
    refine cM hm (fun hc15 hm => ?_) (fun hc15 hm => ?_)
    ·refine qS ?_
     refine Wp.ret ?_
     refine retQ_ret ?_
     cases hm
     exact fse2
    ·refine Wp.skip ?_
     refine hK13 _ _ ?_
     refine qS ?_
     refine Wp.ret ?_
     refine retQ_ret ?_
     cases hm
     exact fse2
   clear hK12 hk_13
   refine qS ?_
   refine Wp.block ?_
   obtain ⟨k_17, hk_17, hm⟩ := forL_cont hm
   refine Wp.fact 14 fun hl_20 => ?_
   replace hl_20 : l_1.length ≤ 274877906944 := by
    simp only [go_sem, simprocAttr, List.length_map] at hl_20
    omega
   refine Wp.forL (fun i_19 s => [(1, .p (.i .i64 old_2)), (6, .p (.i .i64 s)), (14, .p (.l (List.map enc_api_Piece l_1))), (15, .p (.i .i64 (l_1.length : Int))), (16, .p (.i .i64 (i_19 : Int)))]) (fun i_19 s => []) ?_ hm ?_
   ·
    exact fse2
   clear hm
   intro i_19 size_14 hii_19 hm
   try dsimp only at hm
   try dsimp only
   refine qS ?_
   refine Wp.seqW fun K20 hK20 hW20 => ?_
   refine Wp.cond rfl ⟨⟩ (fun hc20 => ?_) (fun hc20 => ?_)
   rotate_left
   ·refine Wp.exit ?_
    have hm := hk_17 _ (forL_end hm (ge_nat (by first | exact hc20 | simpa using hc20)))
    try dsimp only at hm
    refine hW12 _ _ _ _ ?_ (hcut12 size_14 hm)
    exact fse2
   have hlt20 := lt_nat (by first | exact hc20 | simpa using hc20)
   have hw20 := wrap_succ hlt20 hl_20
   obtain ⟨p_21, nx_18, hxp_21, hyp_21, hnx_18, hm⟩ := forL_step hm hlt20
   replace hxp_21 := hxp_21 enc_api_Piece
   refine Wp.skip ?_
   simp only [thenQ]
   refine hK20 _ _ ?_
   refine Wp.seqW fun K21 hK21 hW21 => ?_
   refine Wp.block ?_
   refine Wp.seqR fun K22 hK22 => ?_
   simp only [go_sem, simprocAttr, hw20, hxp_21]
   first | apply hK22 | refine ⟨sd, hK22 _ _ ?_⟩
   refine Wp.seqW fun K23 hK23 hW23 => ?_
   refine Wp.seqR fun K24 hK24 => ?_
   simp only [go_sem, simprocAttr, hw20, hxp_21]
   first | apply hK24 | refine ⟨sd, hK24 _ _ ?_⟩
   refine cM hm (fun hc25 hm => ?_) (fun hc25 hm => ?_)
   ·refine Wp.seqW fun K26 hK26 hW26 => ?_
    refine Wp.seqR fun K27 hK27 => ?_
    simp only [go_sem, simprocAttr, hw20, hxp_21]
    first | apply hK27 | refine ⟨sd, hK27 _ _ ?_⟩
    refine cM hm (fun hc28 hm => ?_) (fun hc28 hm => ?_)
    ·refine Wp.seqR fun K29 hK29 => ?_
     simp only [go_sem, simprocAttr, hw20, hxp_21]
     first | apply hK29 | refine ⟨sd, hK29 _ _ ?_⟩
     refine Wp.ret ?_
     refine retQ_ret ?_
     cases hm
     simp only [go_sem, simprocAttr, hw20, hxp_21]
     try exact se2
    ·refine Wp.skip ?_
     refine hK26 _ _ ?_
     refine Wp.seqR fun K30 hK30 => ?_
     simp only [go_sem, simprocAttr, hw20, hxp_21]
     first | apply hK30 | refine ⟨sd, hK30 _ _ ?_⟩
     refine Wp.exit ?_
     refine hK21 _ _ ?_
     refine Wp.region fun K31 hK31 => ?_
     simp only [go_sem, simprocAttr, hw20, hxp_21]
     first | apply hK31 | refine ⟨sd, hK31 _ _ ?_⟩
     simp only [thenQ, blockQ, ↓reduceIte]
     refine ⟨IntKind.i64.wrap (size_14 + (p_21.Data.length : Int)), hlt20, hnx_18 _ hm, ?_⟩
     simp only [go_sem, simprocAttr, hw20, hxp_21]
     try exact se2
   ·refine Wp.skip ?_
    refine hK23 _ _ ?_
    refine Wp.seqW fun K32 hK32 hW32 => ?_
    refine Wp.seqR fun K33 hK33 => ?_
    simp only [go_sem, simprocAttr, hw20, hxp_21]
    first | apply hK33 | refine ⟨sd, hK33 _ _ ?_⟩
    refine cM hm (fun hc34 hm => ?_) (fun hc34 hm => ?_)
    ·refine Wp.seqR fun K35 hK35 => ?_
     simp only [go_sem, simprocAttr, hw20, hxp_21]
     first | apply hK35 | refine ⟨sd, hK35 _ _ ?_⟩
     refine Wp.ret ?_
     refine retQ_ret ?_
     cases hm
     simp only [go_sem, simprocAttr, hw20, hxp_21]
     try exact se2
    ·refine Wp.skip ?_
     refine hK32 _ _ ?_
     refine Wp.region fun K36 hK36 => ?_
     simp only [go_sem, simprocAttr, hw20, hxp_21]
     first | apply hK36 | refine ⟨sd, hK36 _ _ ?_⟩
     refine hK21 _ _ ?_
     refine Wp.region fun K37 hK37 => ?_
     simp only [go_sem, simprocAttr, hw20, hxp_21]
     first | apply hK37 | refine ⟨sd, hK37 _ _ ?_⟩
     simp only [thenQ, blockQ, ↓reduceIte]
     refine ⟨IntKind.i64.wrap (size_14 + p_21.Long), hlt20, hnx_18 _ hm, ?_⟩
     simp only [go_sem, simprocAttr, hw20, hxp_21]
     try exact se2
theorem ok_delta_Check (d_1 : api_Delta) (z : Int) (hm : delta_Check d_1 = some z) : Does Tryd.prog 42 [.agg [.p (.i .i64 d_1.Old), .p (.i .i64 d_1.New), .p (.s d_1.OldSum), .p (.s d_1.NewSum), .p (.l (List.map enc_api_Piece d_1.Pieces))]] [] (fun r X => r = .p (.i .i64 z) ∧ X = []) := by
 unfold delta_Check at hm
 refine Does.of_wp 0 40 [.tmp 2] Tryd.func42 rfl (by decide) rfl rfl (Nat.le_of_ble_eq_true rfl) fun B => ?_
 refine qS ?_
 refine Wp.seqW fun K2 hK2 hW2 => ?_
 obtain ⟨r_2, hr_2, hm⟩ := call_elim hm
 obtain ⟨r_3, hr_3, hm⟩ := callG_elim hm
 refine Wp.seqR fun K3 hK3 => ?_
 simp only [go_sem, simprocAttr]
 try refine ⟨sd, ?_⟩
 refine Rg.callX (av := ?av4) (g := true) (fun hg => ok_delta_outside d_1.Old 0 65536 _ hr_2) si si si sg si ?cont4
 intro hv4
 simp only [go_sem, simprocAttr]
 try refine ⟨sd, ?_⟩
 refine Rg.callX (av := ?av5) (g := !r_2) (fun hg => ok_delta_outside d_1.New 0 65536 _ (hr_3 hg)) si si si sg si ?cont5
 intro hv5
 simp only [go_sem, simprocAttr]
 first | apply hK3 | refine ⟨sd, hK3 _ _ ?_⟩
 refine cM hm (fun hc6 hm => ?_) (fun hc6 hm => ?_)
 ·refine qS ?_
  refine Wp.ret ?_
  refine retQ_ret ?_
  cases hm
  exact fse2
 ·refine Wp.skip ?_
  refine hK2 _ _ ?_
  refine Wp.seqW fun K8 hK8 hW8 => ?_
  obtain ⟨r_4, hr_4, hm⟩ := call_elim hm
  obtain ⟨r_5, hr_5, hm⟩ := callG_elim hm
  refine Wp.seqR fun K9 hK9 => ?_
  simp only [go_sem, simprocAttr]
  try refine ⟨sd, ?_⟩
  refine Rg.callX (av := ?av10) (g := true) (fun hg => ok_delta_isSum d_1.OldSum _ hr_4) si si si sg si ?cont10
  intro hv10
  simp only [go_sem, simprocAttr]
  try refine ⟨sd, ?_⟩
  refine Rg.callX (av := ?av11) (g := !(!r_4)) (fun hg => ok_delta_isSum d_1.NewSum _ (hr_5 hg)) si si si sg si ?cont11
  intro hv11
  simp only [go_sem, simprocAttr]
  first | apply hK9 | refine ⟨sd, hK9 _ _ ?_⟩
  refine cM hm (fun hc12 hm => ?_) (fun hc12 hm => ?_)
  ·refine qS ?_
   refine Wp.ret ?_
   refine retQ_ret ?_
   cases hm
   exact fse2
  ·refine Wp.skip ?_
   refine hK8 _ _ ?_
   obtain ⟨r_6, hr_6, hm⟩ := call_elim hm
   refine Wp.seqR fun K14 hK14 => ?_
   simp only [go_sem, simprocAttr]
   try refine ⟨sd, ?_⟩
   refine Rg.callX (av := ?av15) (g := true) (fun hg => ok_delta_CheckSteps d_1.Pieces d_1.Old _ hr_6) si si si sg si ?cont15
   intro hv15
   simp only [go_sem, simprocAttr]
   first | apply hK14 | refine ⟨sd, hK14 _ _ ?_⟩
   refine Wp.seqW fun K16 hK16 hW16 => ?_
   refine qS ?_
   refine cM hm (fun hc18 hm => ?_) (fun hc18 hm => ?_)
   ·refine qS ?_
    refine Wp.ret ?_
    refine retQ_ret ?_
    cases hm
    exact fse2
   ·refine Wp.skip ?_
    refine hK16 _ _ ?_
    refine qS ?_
    refine Wp.ret ?_
    refine retQ_ret ?_
    cases hm
    exact fse2
theorem ok_delta_Parse (text_1 : Str) (z : api_Delta × Int) (hm : delta_Parse text_1 = some z) : Does Tryd.prog 24 [.p (.s text_1)] [] (fun r X => r = .tup [.agg [.p (.i .i64 z.1.Old), .p (.i .i64 z.1.New), .p (.s z.1.OldSum), .p (.s z.1.NewSum), .p (.l (List.map enc_api_Piece z.1.Pieces))], .p (.i .i64 z.2)] ∧ X = []) := by
 unfold delta_Parse at hm
 refine Does.of_wp 0 81 [.cell 2 41, .tmp 3] Tryd.func24 rfl (by decide) rfl rfl (Nat.le_of_ble_eq_true rfl) fun B => ?_
 refine qS ?_
 refine Wp.seqW fun K2 hK2 hW2 => ?_
 refine qS ?_
 refine cM hm (fun hc4 hm => ?_) (fun hc4 hm => ?_)
 ·refine qS ?_
  refine Wp.ret ?_
  simp only [thenQ, blockQ]
  refine retQ_retE ?_
  cases hm
  exact fse2
 ·refine Wp.skip ?_
  refine hK2 _ _ ?_
  refine qS ?_
  refine Wp.seqW fun K7 hK7 hW7 => ?_
  obtain ⟨r_2, hr_2, hm⟩ := call_elim hm
  refine Wp.seqR fun K8 hK8 => ?_
  simp only [go_sem, simprocAttr]
  try refine ⟨sd, ?_⟩
  refine Rg.callO (av := ?av9) [1] (ok_delta_reader_take_i1 4 text_1 0 false _ hr_2) si si si sg sg ?cont9
  rintro _ _ ⟨rfl, rfl⟩ hv9
  simp only [go_sem, simprocAttr]
  first | apply hK8 | refine ⟨sd, hK8 _ _ ?_⟩
  refine cM hm (fun hc10 hm => ?_) (fun hc10 hm => ?_)
  ·refine qS ?_
   refine Wp.ret ?_
   simp only [thenQ, blockQ]
   refine retQ_retE ?_
   cases hm
   exact fse2
  ·refine Wp.skip ?_
   refine hK7 _ _ ?_
   obtain ⟨r_3, hr_3, hm⟩ := call_elim hm
   obtain ⟨r_4, hr_4, hm⟩ := call_elim hm
   refine Wp.seqR fun K12 hK12 => ?_
   simp only [go_sem, simprocAttr]
   try refine ⟨sd, ?_⟩
   refine Rg.callO (av := ?av13) [1] (ok_delta_reader_number_i1 text_1 r_2.2.2 r_2.2.1 _ hr_3) si si si sg sg ?cont13
   rintro _ _ ⟨rfl, rfl⟩ hv13
   simp only [go_sem, simprocAttr]
   try refine ⟨sd, ?_⟩
   refine Rg.callO (av := ?av14) [1] (ok_delta_reader_number_i1 text_1 r_3.2.1 r_3.2.2 _ hr_4) si si si sg sg ?cont14
   rintro _ _ ⟨rfl, rfl⟩ hv14
   simp only [go_sem, simprocAttr]
   first | apply hK12 | refine ⟨sd, hK12 _ _ ?_⟩
   obtain ⟨r_5, hr_5, hm⟩ := call_elim hm
   obtain ⟨r_6, hr_6, hm⟩ := call_elim hm
   refine Wp.seqR fun K15 hK15 => ?_
   simp only [go_sem, simprocAttr]
   try refine ⟨sd, ?_⟩
   refine Rg.callO (av := ?av16) [1] (ok_delta_reader_sum_i1 text_1 r_4.2.1 r_4.2.2 _ hr_5) si si si sg sg ?cont16
   rintro _ _ ⟨rfl, rfl⟩ hv16
   simp only [go_sem, simprocAttr]
   try refine ⟨sd, ?_⟩
   refine Rg.callO (av := ?av17) [1] (ok_delta_reader_sum_i1 text_1 r_5.2.1 r_5.2.2 _ hr_6) si si si sg sg ?cont17
   rintro _ _ ⟨rfl, rfl⟩ hv17
   simp only [go_sem, simprocAttr]
   first | apply hK15 | refine ⟨sd, hK15 _ _ ?_⟩
   refine Wp.seqW fun K18 hK18 hW18 => ?_
   obtain ⟨k_28, hk_28, hm⟩ := jp_elim hm
   have hcut18 : ∀ s, k_28 s = some z → K18 [(0, .p (.s text_1)), (2, .ptr 0 0), (4, .ptr 1 0), (5, .ptr 2 0)] [.cells 41 [.p (.i .i64 0), .p (.i .i64 0), .p (.s []), .p (.s []), .nils], .cells 107 [.p (.s text_1), .p (.i .i64 s.1), .p (.b s.2.1)], .cells 41 [.p (.i .i64 r_3.1), .p (.i .i64 r_4.1), .p (.s r_5.1), .p (.s r_6.1), .buf 3], .buf 53 3 (List.map enc_api_Piece s.2.2)] := by
    intro s hs
    have hm := hk_28 _ hs
    clear hs
    obtain ⟨o1_1_25, o1_2_26, o3_27⟩ := s
    try dsimp only at hm
    try dsimp only
    refine hK18 _ _ ?_
    refine qS ?_
    obtain ⟨r_29, hr_29, hm⟩ := call_elim hm
    refine Wp.seqR fun K20 hK20 => ?_
    simp only [go_sem, simprocAttr]
    try refine ⟨sd, ?_⟩
    refine Rg.callO (av := ?av21) [1] (ok_delta_reader_sum_i1 text_1 o1_1_25 o1_2_26 _ hr_29) si si si sg sg ?cont21
    rintro _ _ ⟨rfl, rfl⟩ hv21
    simp only [go_sem, simprocAttr]
    first | apply hK20 | refine ⟨sd, hK20 _ _ ?_⟩
    refine Wp.seqW fun K22 hK22 hW22 => ?_
    refine qS ?_
    refine cM hm (fun hc24 hm => ?_) (fun hc24 hm => ?_)
    ·refine qS ?_
     refine Wp.ret ?_
     simp only [thenQ, blockQ]
     refine retQ_retE ?_
     cases hm
     exact fse2
    ·refine Wp.skip ?_
     refine hK22 _ _ ?_
     refine Wp.seqW fun K26 hK26 hW26 => ?_
     obtain ⟨c_30, hm⟩ := chk_elim hm
     obtain ⟨r_31, hr_31, hm⟩ := call_elim hm
     refine Wp.seqR fun K27 hK27 => ?_
     simp only [go_sem, simprocAttr]
     try refine ⟨by first | exact sd | ((repeat' apply And.intro) <;> first | assumption | omega | (simp only [List.length_append, List.length_map, List.length_cons, List.length_nil, List.length_set, List.length_replicate] at c_30 ⊢; omega)), ?_⟩
     refine Rg.callX (av := ?av28) (g := true) (fun hg => ok_disk_SumOf (List.take o1_1_25.toNat text_1) _ hr_31) si si si sg si ?cont28
     intro hv28
     simp only [go_sem, simprocAttr]
     first | apply hK27 | refine ⟨by first | exact sd | ((repeat' apply And.intro) <;> first | assumption | omega | (simp only [List.length_append, List.length_map, List.length_cons, List.length_nil, List.length_set, List.length_replicate] at c_30 ⊢; omega)), hK27 _ _ ?_⟩
     refine cM hm (fun hc29 hm => ?_) (fun hc29 hm => ?_)
     ·refine qS ?_
      refine Wp.ret ?_
      simp only [thenQ, blockQ]
      refine retQ_retE ?_
      cases hm
      exact fse2
     ·refine Wp.skip ?_
      refine hK26 _ _ ?_
      refine Wp.seqW fun K31 hK31 hW31 => ?_
      obtain ⟨r_32, hr_32, hm⟩ := call_elim hm
      refine Wp.seqR fun K32 hK32 => ?_
      simp only [go_sem, simprocAttr]
      try refine ⟨sd, ?_⟩
      refine Rg.callX (av := ?av33) (g := true) (fun hg => ok_delta_Check (api_Delta.mk r_3.1 r_4.1 r_5.1 r_6.1 o3_27) _ hr_32) si si si sg si ?cont33
      intro hv33
      simp only [go_sem, simprocAttr]
      first | apply hK32 | refine ⟨sd, hK32 _ _ ?_⟩
      refine qS ?_
      refine cM hm (fun hc35 hm => ?_) (fun hc35 hm => ?_)
      ·refine qS ?_
       refine Wp.ret ?_
       simp only [thenQ, blockQ]
       refine retQ_retE ?_
       cases hm
       exact fse2
      ·refine Wp.skip ?_
       refine hK31 _ _ ?_
       refine qS ?_
       refine Wp.ret ?_
       refine retQ_ret ?_
       cases hm
       exact fse2
   clear hK18 hk_28
   obtain ⟨r_33, hr_33, hm⟩ := call_elim hm
   refine Wp.seqR fun K38 hK38 => ?_
   simp only [go_sem, simprocAttr]
   try refine ⟨sd, ?_⟩
   refine Rg.callO (av := ?av39) [1] (ok_delta_reader_number_i1 text_1 r_6.2.1 r_6.2.2 _ hr_33) si si si sg sg ?cont39
   rintro _ _ ⟨rfl, rfl⟩ hv39
   simp only [go_sem, simprocAttr]
   first | apply hK38 | refine ⟨sd, hK38 _ _ ?_⟩
   refine Wp.block ?_
   refine Wp.adoptO 2 4 53 3 rfl rfl ?_
   simp only [go_sem, simprocAttr]
   obtain ⟨k_46, hk_46, hm⟩ := loopN_cont hm
   refine Wp.loopN (fun s => [(0, .p (.s text_1)), (2, .ptr 0 0), (4, .ptr 1 0), (5, .ptr 2 0), (32, .p (.i .i64 r_33.1)), (33, .p (.i .i64 s.1))]) (fun s => [.cells 41 [.p (.i .i64 0), .p (.i .i64 0), .p (.s []), .p (.s []), .nils], .cells 107 [.p (.s text_1), .p (.i .i64 s.2.1), .p (.b s.2.2.1)], .cells 41 [.p (.i .i64 r_3.1), .p (.i .i64 r_4.1), .p (.s r_5.1), .p (.s r_6.1), .buf 3], .buf 53 3 (List.map enc_api_Piece s.2.2.2)]) ?_ hm ?_
   ·
    exact fse2
   clear hm
   intro s nx_47 hm
   obtain ⟨t33_40, o1_1_41, o1_2_42, o3_43⟩ := s
   try dsimp only at hm
   try dsimp only
   refine qS ?_
   refine Wp.seqW fun K41 hK41 hW41 => ?_
   refine cM hm (fun hc42 hm => ?_) (fun hc42 hm => ?_)
   ·refine Wp.skip ?_
    refine hK41 _ _ ?_
    refine Wp.seqW fun K43 hK43 hW43 => ?_
    refine Wp.block ?_
    refine Wp.seqW fun K44 hK44 hW44 => ?_
    refine qS ?_
    refine cM hm (fun hc46 hm => ?_) (fun hc46 hm => ?_)
    ·refine Wp.exit ?_
     simp only [thenQ, blockQ, ↓reduceIte]
     have hm := hk_46 _ hm
     try dsimp only at hm
     refine hW18 _ _ _ _ ?_ (hcut18 (o1_1_41, o1_2_42, o3_43) hm)
     exact fse2
    ·refine Wp.skip ?_
     refine hK44 _ _ ?_
     obtain ⟨r_48, hr_48, hm⟩ := call_elim hm
     obtain ⟨c_49, hm⟩ := chk_elim hm
     refine Wp.regD (plan := pl [(0, none), (1, none), (2, none), (3, some [0, 1]), (4, some [0, 1]), (5, some []), (6, none), (7, some [])]) (by kernel_rfl) rfl (by kernel_rfl) fun K47 hK47 => ?_
     simp only [go_sem, simprocAttr]
     try refine ⟨by first | exact sd | ((repeat' apply And.intro) <;> first | assumption | omega | (simp only [List.length_append, List.length_map, List.length_cons, List.length_nil, List.length_set, List.length_replicate] at c_49 ⊢; omega)), ?_⟩
     refine Dr.of_br (Br.callE (av := ?av48) (o := ?o48) [1] (ok_delta_reader_piece_i1 text_1 o1_1_41 o1_2_42 _ hr_48) si si si si si sg sg sg sg ?cont48)
     simp only [go_sem, simprocAttr]
     first | apply hK47 | refine ⟨by first | exact sd | ((repeat' apply And.intro) <;> first | assumption | omega | (simp only [List.length_append, List.length_map, List.length_cons, List.length_nil, List.length_set, List.length_replicate] at c_49 ⊢; omega)), hK47 _ _ ?_⟩
     refine hK43 _ _ ?_
     refine qR ?_
     simp only [thenQ, blockQ, ↓reduceIte]
     refine ⟨(IntKind.i64.wrap (t33_40 + 1), r_48.2.1, r_48.2.2, o3_43 ++ [r_48.1]), hm, ?_⟩
     exact fse2
   ·refine Wp.exit ?_
    simp only [thenQ, blockQ, ↓reduceIte]
    have hm := hk_46 _ hm
    try dsimp only at hm
    refine hW18 _ _ _ _ ?_ (hcut18 (o1_1_41, o1_2_42, o3_43) hm)
    exact fse2
theorem ok_R_ParseDelta_1_i1 (n_1 : Int) (o0_0_2 : Str) (o1_0_3 : Bool) (z : Str × Str × Bool) (hm : R_ParseDelta_1_i1 n_1 o0_0_2 o1_0_3 = some z) : Does Tryd.prog 80 [.p (.i .i64 n_1), .ptr 0 0, .ptr 1 0] [.cells 9 [.p (.s o0_0_2)], .cells 4 [.p (.b o1_0_3)]] (fun r X => r = .p (.s z.1) ∧ X = [.cells 9 [.p (.s z.2.1)], .cells 4 [.p (.b z.2.2)]]) := by
 unfold R_ParseDelta_1_i1 at hm
 refine Does.of_wp 2 21 [.tmp 4] Tryd.func80 rfl (by decide) rfl rfl (Nat.le_of_ble_eq_true rfl) fun B => ?_
 refine qS ?_
 refine Wp.seqW fun K2 hK2 hW2 => ?_
 refine qS ?_
 refine cM hm (fun hc4 hm => ?_) (fun hc4 hm => ?_)
 ·refine qS ?_
  refine qS ?_
  refine Wp.ret ?_
  refine retQ_ret ?_
  cases hm
  exact fse2
 ·refine Wp.skip ?_
  refine hK2 _ _ ?_
  obtain ⟨c_6, hm⟩ := chk_elim hm
  refine Wp.seqR fun K7 hK7 => ?_
  simp only [go_sem, simprocAttr]
  first | apply hK7 | refine ⟨by first | exact sd | ((repeat' apply And.intro) <;> first | assumption | omega | (simp only [List.length_append, List.length_map, List.length_cons, List.length_nil, List.length_set, List.length_replicate] at c_6 ⊢; omega)), hK7 _ _ ?_⟩
  obtain ⟨c_7, hm⟩ := chk_elim hm
  refine Wp.seqR fun K8 hK8 => ?_
  simp only [go_sem, simprocAttr]
  first | apply hK8 | refine ⟨by first | exact sd | ((repeat' apply And.intro) <;> first | assumption | omega | (simp only [List.length_append, List.length_map, List.length_cons, List.length_nil, List.length_set, List.length_replicate] at c_7 ⊢; omega)), hK8 _ _ ?_⟩
  refine qS ?_
  refine Wp.ret ?_
  refine retQ_ret ?_
  cases hm
  exact fse2
theorem ok_R_ParseDelta_2_i1 (o1_0_1 : Str) (o2_0_2 : Bool) (z : Int × Str × Bool) (hm : R_ParseDelta_2_i1 o1_0_1 o2_0_2 = some z) : Does Tryd.prog 81 [.ptr 0 0, .ptr 2 0] [.cells 104 [.fn 80 [.ptr 1 0, .ptr 2 0]], .cells 9 [.p (.s o1_0_1)], .cells 4 [.p (.b o2_0_2)]] (fun r X => r = .p (.i .i64 z.1) ∧ X = [.cells 104 [.fn 80 [.ptr 1 0, .ptr 2 0]], .cells 9 [.p (.s z.2.1)], .cells 4 [.p (.b z.2.2)]]) := by
 unfold R_ParseDelta_2_i1 at hm
 refine Does.of_wp 3 34 [.tmp 2] Tryd.func81 rfl (by decide) rfl rfl (Nat.le_of_ble_eq_true rfl) fun B => ?_
 refine qS ?_
 refine qS ?_
 refine Wp.seqW fun K3 hK3 hW3 => ?_
 obtain ⟨k_59, hk_59, hm⟩ := jp_elim hm
 have hcut3 : ∀ s, k_59 s = some z → K3 [(1, .ptr 2 0)] [.cells 104 [.fn 80 [.ptr 1 0, .ptr 2 0]], .cells 9 [.p (.s s.1)], .cells 4 [.p (.b s.2)]] := by
  intro s hs
  have hm := hk_59 _ hs
  clear hs
  obtain ⟨o1_0_57, o2_0_58⟩ := s
  try dsimp only at hm
  try dsimp only
  refine hK3 _ _ ?_
  refine qS ?_
  refine qS ?_
  refine Wp.ret ?_
  refine retQ_ret ?_
  cases hm
  exact fse2
 clear hK3 hk_59
 refine Wp.block ?_
 obtain ⟨k_72, hk_72, hm⟩ := loopN_cont hm
 refine Wp.loopN (fun s => [(0, .ptr 0 0), (1, .ptr 2 0), (3, .p (.i .i64 s.1)), (4, .p (.i .i64 s.2.1))]) (fun s => [.cells 104 [.fn 80 [.ptr 1 0, .ptr 2 0]], .cells 9 [.p (.s s.2.2.1)], .cells 4 [.p (.b s.2.2.2)]]) ?_ hm ?_
 ·
  exact fse2
 clear hm
 intro s nx_73 hm
 obtain ⟨n_65, k_66, o1_0_67, o2_0_68⟩ := s
 try dsimp only at hm
 try dsimp only
 refine Wp.seqW fun K6 hK6 hW6 => ?_
 refine qS ?_
 refine cM hm (fun hc8 hm => ?_) (fun hc8 hm => ?_)
 ·refine Wp.skip ?_
  refine hK6 _ _ ?_
  refine Wp.seqW fun K9 hK9 hW9 => ?_
  refine Wp.block ?_
  obtain ⟨r_74, hr_74, hm⟩ := call_elim hm
  refine Wp.seqR fun K10 hK10 => ?_
  simp only [go_sem, simprocAttr]
  try refine ⟨sd, ?_⟩
  refine Rg.callO (av := ?av11) [1, 2] (ok_R_ParseDelta_1_i1 1 o1_0_67 o2_0_68 _ hr_74) si si si sg sg ?cont11
  rintro _ _ ⟨rfl, rfl⟩ hv11
  simp only [go_sem, simprocAttr]
  first | apply hK10 | refine ⟨sd, hK10 _ _ ?_⟩
  refine Wp.seqW fun K12 hK12 hW12 => ?_
  refine qS ?_
  refine cM hm (fun hc14 hm => ?_) (fun hc14 hm => ?_)
  ·refine qS ?_
   refine Wp.ret ?_
   refine retQ_ret ?_
   cases hm
   exact fse2
  ·refine Wp.skip ?_
   refine hK12 _ _ ?_
   obtain ⟨c_75, hbc_75, hxc_75, hm⟩ := idxS_elim hm
   replace hxc_75 : ((r_74.1.getD 0 0).toNat : Int) = c_75 := hxc_75
   obtain ⟨c_76, hm⟩ := chk_elim hm
   refine Wp.seqR fun K16 hK16 => ?_
   simp only [go_sem, simprocAttr, hxc_75]
   first | apply hK16 | refine ⟨by first | exact sd | ((repeat' apply And.intro) <;> first | assumption | omega | (simp only [List.length_append, List.length_map, List.length_cons, List.length_nil, List.length_set, List.length_replicate] at c_76 ⊢; omega)), hK16 _ _ ?_⟩
   refine Wp.seqR fun K17 hK17 => ?_
   simp only [go_sem, simprocAttr, hxc_75]
   first | apply hK17 | refine ⟨sd, hK17 _ _ ?_⟩
   refine cM hm (fun hc18 hm => ?_) (fun hc18 hm => ?_)
   ·refine Wp.seqW fun K19 hK19 hW19 => ?_
    refine Wp.seqR fun K20 hK20 => ?_
    simp only [go_sem, simprocAttr, hxc_75]
    first | apply hK20 | refine ⟨sd, hK20 _ _ ?_⟩
    refine cM hm (fun hc21 hm => ?_) (fun hc21 hm => ?_)
    ·refine Wp.region fun K22 hK22 => ?_
     simp only [go_sem, simprocAttr, hxc_75]
     first | apply hK22 | refine ⟨sd, hK22 _ _ ?_⟩
     refine hK19 _ _ ?_
     refine Wp.seqR fun K23 hK23 => ?_
     simp only [go_sem, simprocAttr, hxc_75]
     first | apply hK23 | refine ⟨sd, hK23 _ _ ?_⟩
     refine Wp.ret ?_
     refine retQ_ret ?_
     cases hm
     simp only [go_sem, simprocAttr, hxc_75]
     try exact se2
    ·refine Wp.skip ?_
     refine hK19 _ _ ?_
     refine Wp.seqR fun K24 hK24 => ?_
     simp only [go_sem, simprocAttr, hxc_75]
     first | apply hK24 | refine ⟨sd, hK24 _ _ ?_⟩
     refine Wp.ret ?_
     refine retQ_ret ?_
     cases hm
     simp only [go_sem, simprocAttr, hxc_75]
     try exact se2
   ·refine Wp.skip ?_
    refine hK9 _ _ ?_
    refine Wp.region fun K25 hK25 => ?_
    simp only [go_sem, simprocAttr, hxc_75]
    first | apply hK25 | refine ⟨sd, hK25 _ _ ?_⟩
    simp only [thenQ, blockQ, ↓reduceIte]
    refine ⟨(bitsI .or .i64 n_65 (IntKind.i64.wrap ((IntKind.i64.wrap (bitsI .and .u8 c_75 127)) * 2 ^ (shI .i64 (IntKind.i64.wrap (7 * k_66))))), IntKind.i64.wrap (k_66 + 1), r_74.2.1, r_74.2.2), hm, ?_⟩
    simp only [go_sem, simprocAttr, hxc_75]
    try exact se2
 ·refine Wp.exit ?_
  simp only [thenQ, blockQ, ↓reduceIte]
  have hm := hk_72 _ hm
  try dsimp only at hm
  refine hW3 _ _ _ _ ?_ (hcut3 (o1_0_67, o2_0_68) hm)
  exact fse2
theorem ok_R_ParseDelta_3_i1 (o1_0_1 : Str) (o2_0_2 : Bool) (z : Str × Str × Bool) (hm : R_ParseDelta_3_i1 o1_0_1 o2_0_2 = some z) : Does Tryd.prog 82 [.ptr 0 0] [.cells 104 [.fn 80 [.ptr 1 0, .ptr 2 0]], .cells 9 [.p (.s o1_0_1)], .cells 4 [.p (.b o2_0_2)]] (fun r X => r = .p (.s z.1) ∧ X = [.cells 104 [.fn 80 [.ptr 1 0, .ptr 2 0]], .cells 9 [.p (.s z.2.1)], .cells 4 [.p (.b z.2.2)]]) := by
 unfold R_ParseDelta_3_i1 at hm
 refine Does.of_wp 3 29 [.tmp 1] Tryd.func82 rfl (by decide) rfl rfl (Nat.le_of_ble_eq_true rfl) fun B => ?_
 refine qS ?_
 obtain ⟨r_25, hr_25, hm⟩ := call_elim hm
 refine Wp.seqR fun K2 hK2 => ?_
 simp only [go_sem, simprocAttr]
 try refine ⟨sd, ?_⟩
 refine Rg.callO (av := ?av3) [1, 2] (ok_R_ParseDelta_1_i1 8 o1_0_1 o2_0_2 _ hr_25) si si si sg sg ?cont3
 rintro _ _ ⟨rfl, rfl⟩ hv3
 simp only [go_sem, simprocAttr]
 first | apply hK2 | refine ⟨sd, hK2 _ _ ?_⟩
 refine qS ?_
 refine Wp.seqW fun K5 hK5 hW5 => ?_
 obtain ⟨k_35, hk_35, hm⟩ := jp_elim hm
 have hcut5 : ∀ s, k_35 s = some z → K5 [(3, .p (.i .u64 s))] [.cells 104 [.fn 80 [.ptr 1 0, .ptr 2 0]], .cells 9 [.p (.s r_25.2.1)], .cells 4 [.p (.b r_25.2.2)]] := by
  intro n_34 hs
  have hm := hk_35 _ hs
  clear hs
  try dsimp only at hm
  try dsimp only
  refine hK5 _ _ ?_
  obtain ⟨r_36, hr_36, hm⟩ := call_elim hm
  refine Wp.seqR fun K6 hK6 => ?_
  simp only [go_sem, simprocAttr]
  try refine ⟨sd, ?_⟩
  refine Rg.callX (av := ?av7) (g := true) (fun hg => ok_strconv_FormatUint n_34 16 _ hr_36) si si si sg si ?cont7
  intro hv7
  simp only [go_sem, simprocAttr]
  first | apply hK6 | refine ⟨sd, hK6 _ _ ?_⟩
  obtain ⟨r_37, hr_37, hm⟩ := call_elim hm
  obtain ⟨c_38, hm⟩ := chk_elim hm
  refine Wp.seqR fun K8 hK8 => ?_
  simp only [go_sem, simprocAttr]
  try refine ⟨by first | exact sd | ((repeat' apply And.intro) <;> first | assumption | omega | (simp only [List.length_append, List.length_map, List.length_cons, List.length_nil, List.length_set, List.length_replicate] at c_38 ⊢; omega)), ?_⟩
  refine Rg.callX (av := ?av9) (g := true) (fun hg => ok_strings_Repeat ([48] : Str) (IntKind.i64.wrap (16 - (r_36.length : Int))) _ hr_37) si si si sg si ?cont9
  intro hv9
  simp only [go_sem, simprocAttr]
  first | apply hK8 | refine ⟨by first | exact sd | ((repeat' apply And.intro) <;> first | assumption | omega | (simp only [List.length_append, List.length_map, List.length_cons, List.length_nil, List.length_set, List.length_replicate] at c_38 ⊢; omega)), hK8 _ _ ?_⟩
  refine Wp.ret ?_
  refine retQ_ret ?_
  cases hm
  exact fse2
 clear hK5 hk_35
 refine qS ?_
 refine Wp.block ?_
 obtain ⟨k_42, hk_42, hm⟩ := forL_cont hm
 refine Wp.fact 2 fun hl_45 => ?_
 replace hl_45 : r_25.1.length ≤ 274877906944 := by
  simp only [go_sem, simprocAttr, List.length_map] at hl_45
  omega
 refine Wp.forL (fun i_44 s => [(2, .p (.s r_25.1)), (3, .p (.i .u64 s)), (9, .p (.i .i64 (r_25.1.length : Int))), (10, .p (.i .i64 (i_44 : Int)))]) (fun i_44 s => [.cells 104 [.fn 80 [.ptr 1 0, .ptr 2 0]], .cells 9 [.p (.s r_25.2.1)], .cells 4 [.p (.b r_25.2.2)]]) ?_ hm ?_
 ·
  exact fse2
 clear hm
 intro i_44 n_39 hii_44 hm
 try dsimp only at hm
 try dsimp only
 refine qS ?_
 refine Wp.seqW fun K12 hK12 hW12 => ?_
 refine Wp.cond rfl ⟨⟩ (fun hc12 => ?_) (fun hc12 => ?_)
 rotate_left
 ·refine Wp.exit ?_
  have hm := hk_42 _ (forL_end hm (ge_nat (by first | exact hc12 | simpa using hc12)))
  try dsimp only at hm
  refine hW5 _ _ _ _ ?_ (hcut5 n_39 hm)
  exact fse2
 have hlt12 := lt_nat (by first | exact hc12 | simpa using hc12)
 have hw12 := wrap_succ hlt12 hl_45
 obtain ⟨c_46, nx_43, hxc_46, hyc_46, hnx_43, hm⟩ := forL_step hm hlt12
 clear hxc_46
 refine Wp.skip ?_
 simp only [thenQ]
 refine hK12 _ _ ?_
 refine Wp.seqW fun K13 hK13 hW13 => ?_
 refine Wp.block ?_
 refine Wp.seqR fun K14 hK14 => ?_
 simp only [go_sem, simprocAttr, hw12, hyc_46]
 first | apply hK14 | refine ⟨sd, hK14 _ _ ?_⟩
 refine Wp.region fun K15 hK15 => ?_
 simp only [go_sem, simprocAttr, hw12, hyc_46]
 first | apply hK15 | refine ⟨sd, hK15 _ _ ?_⟩
 refine hK13 _ _ ?_
 refine Wp.region fun K16 hK16 => ?_
 simp only [go_sem, simprocAttr, hw12, hyc_46]
 first | apply hK16 | refine ⟨sd, hK16 _ _ ?_⟩
 simp only [thenQ, blockQ, ↓reduceIte]
 refine ⟨bitsI .or .u64 (IntKind.u64.wrap (n_39 * 2 ^ (shI .u64 8))) (IntKind.u64.wrap (c_46.toNat : Int)), hlt12, hnx_43 _ hm, ?_⟩
 simp only [go_sem, simprocAttr, hw12, hyc_46]
 try exact se2
theorem ok_R_IsSum (s_1 : Str) (z : Bool) (hm : R_IsSum s_1 = some z) : Does Tryd.prog 90 [.p (.s s_1)] [] (fun r X => r = .p (.b z) ∧ X = []) := by
 unfold R_IsSum at hm
 refine Does.of_wp 0 31 [.tmp 2] Tryd.func90 rfl (by decide) rfl rfl (Nat.le_of_ble_eq_true rfl) fun B => ?_
 refine qS ?_
 refine Wp.seqW fun K2 hK2 hW2 => ?_
 obtain ⟨k_9, hk_9, hm⟩ := jp_elim hm
 have hcut2 : ∀ s, k_9 s = some z → K2 [(0, .p (.s s_1))] [] := by
  intro s hs
  have hm := hk_9 _ hs
  clear hs
  try dsimp only at hm
  try dsimp only
  refine hK2 _ _ ?_
  refine qS ?_
  refine Wp.ret ?_
  refine retQ_ret ?_
  cases hm
  exact fse2
 clear hK2 hk_9
 refine qS ?_
 refine Wp.block ?_
 obtain ⟨k_12, hk_12, hm⟩ := forL_cont hm
 refine Wp.fact 0 fun hl_15 => ?_
 replace hl_15 : s_1.length ≤ 274877906944 := by
  simp only [go_sem, simprocAttr, List.length_map] at hl_15
  omega
 refine Wp.forL (fun i_14 s => [(0, .p (.s s_1)), (6, .p (.i .i64 (s_1.length : Int))), (7, .p (.i .i64 (i_14 : Int)))]) (fun i_14 s => []) ?_ hm ?_
 ·
  exact fse2
 clear hm
 intro i_14 s hii_14 hm
 try dsimp only at hm
 try dsimp only
 refine qS ?_
 refine Wp.seqW fun K6 hK6 hW6 => ?_
 refine Wp.cond rfl ⟨⟩ (fun hc6 => ?_) (fun hc6 => ?_)
 rotate_left
 ·refine Wp.exit ?_
  have hm := hk_12 _ (forL_end hm (ge_nat (by first | exact hc6 | simpa using hc6)))
  try dsimp only at hm
  refine hW2 _ _ _ _ ?_ (hcut2 () hm)
  exact fse2
 have hlt6 := lt_nat (by first | exact hc6 | simpa using hc6)
 have hw6 := wrap_succ hlt6 hl_15
 obtain ⟨c_16, nx_13, hxc_16, hyc_16, hnx_13, hm⟩ := forL_step hm hlt6
 clear hxc_16
 refine Wp.skip ?_
 simp only [thenQ]
 refine hK6 _ _ ?_
 refine Wp.seqW fun K7 hK7 hW7 => ?_
 refine Wp.block ?_
 refine Wp.seqR fun K8 hK8 => ?_
 simp only [go_sem, simprocAttr, hw6, hyc_16]
 first | apply hK8 | refine ⟨sd, hK8 _ _ ?_⟩
 refine Wp.seqR fun K9 hK9 => ?_
 simp only [go_sem, simprocAttr, hw6, hyc_16]
 first | apply hK9 | refine ⟨sd, hK9 _ _ ?_⟩
 refine Wp.seqR fun K10 hK10 => ?_
 simp only [go_sem, simprocAttr, hw6, hyc_16]
 first | apply hK10 | refine ⟨sd, hK10 _ _ ?_⟩
 refine cM hm (fun hc11 hm => ?_) (fun hc11 hm => ?_)
 ·refine Wp.seqR fun K12 hK12 => ?_
  simp only [go_sem, simprocAttr, hw6, hyc_16]
  first | apply hK12 | refine ⟨sd, hK12 _ _ ?_⟩
  refine Wp.ret ?_
  refine retQ_ret ?_
  cases hm
  simp only [go_sem, simprocAttr, hw6, hyc_16]
  try exact se2
 ·refine Wp.skip ?_
  refine hK7 _ _ ?_
  refine Wp.region fun K13 hK13 => ?_
  simp only [go_sem, simprocAttr, hw6, hyc_16]
  first | apply hK13 | refine ⟨sd, hK13 _ _ ?_⟩
  simp only [thenQ, blockQ, ↓reduceIte]
  refine ⟨(), hlt6, hnx_13 _ hm, ?_⟩
  simp only [go_sem, simprocAttr, hw6, hyc_16]
  try exact se2
theorem ok_R_PiecesError (l_1 : List api_Piece) (old_2 : Int) (z : Int × Int) (hm : R_PiecesError l_1 old_2 = some z) : Does Tryd.prog 35 [.p (.l (List.map enc_api_Piece l_1)), .p (.i .i64 old_2)] [] (fun r X => r = .tup [.p (.i .i64 z.1), .p (.i .i64 z.2)] ∧ X = []) := by
 unfold R_PiecesError at hm
 refine Does.of_wp 0 73 [.tmp 4, .tmp 5] Tryd.func35 rfl (by decide) rfl rfl (Nat.le_of_ble_eq_true rfl) fun B => ?_
 refine qS ?_
 refine Wp.seqW fun K2 hK2 hW2 => ?_
 refine qS ?_
 refine cM hm (fun hc4 hm => ?_) (fun hc4 hm => ?_)
 ·refine qS ?_
  refine Wp.ret ?_
  refine retQ_ret ?_
  cases hm
  exact fse2
 ·refine Wp.skip ?_
  refine hK2 _ _ ?_
  refine Wp.seqW fun K6 hK6 hW6 => ?_
  refine qS ?_
  refine cM hm (fun hc8 hm => ?_) (fun hc8 hm => ?_)
  ·refine qS ?_
   refine Wp.ret ?_
   refine retQ_ret ?_
   cases hm
   exact fse2
  ·refine Wp.skip ?_
   refine hK6 _ _ ?_
   refine qS ?_
   refine Wp.seqW fun K11 hK11 hW11 => ?_
   obtain ⟨k_12, hk_12, hm⟩ := jp_elim hm
   have hcut11 : ∀ s, k_12 s = some z → K11 [(6, .p (.i .i64 s))] [] := by
    intro n_11 hs
    have hm := hk_12 _ hs
    clear hs
    try dsimp only at hm
    try dsimp only
    refine hK11 _ _ ?_
    refine Wp.seqW fun K12 hK12 hW12 => ?_
    refine qS ?_
    refine cM hm (fun hc14 hm => ?_) (fun hc14 hm => ?_)
    ·refine qS ?_
     refine Wp.ret ?_
     refine retQ_ret ?_
     cases hm
     exact fse2
    ·refine Wp.skip ?_
     refine hK12 _ _ ?_
     refine qS ?_
     refine Wp.ret ?_
     refine retQ_ret ?_
     cases hm
     exact fse2
   clear hK11 hk_12
   refine qS ?_
   refine Wp.block ?_
   obtain ⟨k_16, hk_16, hm⟩ := forL_cont hm
   refine Wp.fact 18 fun hl_19 => ?_
   replace hl_19 : l_1.length ≤ 274877906944 := by
    simp only [go_sem, simprocAttr, List.length_map] at hl_19
    omega
   refine Wp.forL (fun i_18 s => [(1, .p (.i .i64 old_2)), (6, .p (.i .i64 s)), (18, .p (.l (List.map enc_api_Piece l_1))), (19, .p (.i .i64 (l_1.length : Int))), (20, .p (.i .i64 (i_18 : Int)))]) (fun i_18 s => []) ?_ hm ?_
   ·
    exact fse2
   clear hm
   intro i_18 n_13 hii_18 hm
   try dsimp only at hm
   try dsimp only
   refine qS ?_
   refine Wp.seqW fun K19 hK19 hW19 => ?_
   refine Wp.cond rfl ⟨⟩ (fun hc19 => ?_) (fun hc19 => ?_)
   rotate_left
   ·refine Wp.exit ?_
    have hm := hk_16 _ (forL_end hm (ge_nat (by first | exact hc19 | simpa using hc19)))
    try dsimp only at hm
    refine hW11 _ _ _ _ ?_ (hcut11 n_13 hm)
    exact fse2
   have hlt19 := lt_nat (by first | exact hc19 | simpa using hc19)
   have hw19 := wrap_succ hlt19 hl_19
   obtain ⟨p_20, nx_17, hxp_20, hyp_20, hnx_17, hm⟩ := forL_step hm hlt19
   replace hxp_20 := hxp_20 enc_api_Piece
   refine Wp.skip ?_
   simp only [thenQ]
   refine hK19 _ _ ?_
   refine Wp.seqW fun K20 hK20 hW20 => ?_
   refine Wp.block ?_
   refine Wp.seqR fun K21 hK21 => ?_
   simp only [go_sem, simprocAttr, hw19, hxp_20]
   first | apply hK21 | refine ⟨sd, hK21 _ _ ?_⟩
   refine Wp.block ?_
   refine Wp.seqR fun K22 hK22 => ?_
   simp only [go_sem, simprocAttr, hw19, hxp_20]
   first | apply hK22 | refine ⟨sd, hK22 _ _ ?_⟩
   refine cM hm (fun hc23 hm => ?_) (fun hc23 hm => ?_)
   ·refine Wp.seqW fun K24 hK24 hW24 => ?_
    refine Wp.seqR fun K25 hK25 => ?_
    simp only [go_sem, simprocAttr, hw19, hxp_20]
    first | apply hK25 | refine ⟨sd, hK25 _ _ ?_⟩
    refine cM hm (fun hc26 hm => ?_) (fun hc26 hm => ?_)
    ·refine Wp.seqR fun K27 hK27 => ?_
     simp only [go_sem, simprocAttr, hw19, hxp_20]
     first | apply hK27 | refine ⟨sd, hK27 _ _ ?_⟩
     refine Wp.ret ?_
     refine retQ_ret ?_
     cases hm
     simp only [go_sem, simprocAttr, hw19, hxp_20]
     try exact se2
    ·refine Wp.skip ?_
     refine hK24 _ _ ?_
     refine Wp.region fun K28 hK28 => ?_
     simp only [go_sem, simprocAttr, hw19, hxp_20]
     first | apply hK28 | refine ⟨sd, hK28 _ _ ?_⟩
     refine hK20 _ _ ?_
     refine Wp.region fun K29 hK29 => ?_
     simp only [go_sem, simprocAttr, hw19, hxp_20]
     first | apply hK29 | refine ⟨sd, hK29 _ _ ?_⟩
     simp only [thenQ, blockQ, ↓reduceIte]
     refine ⟨IntKind.i64.wrap (n_13 + (p_20.Data.length : Int)), hlt19, hnx_17 _ hm, ?_⟩
     simp only [go_sem, simprocAttr, hw19, hxp_20]
     try exact se2
   ·refine Wp.seqR fun K30 hK30 => ?_
    simp only [go_sem, simprocAttr, hw19, hxp_20]
    first | apply hK30 | refine ⟨sd, hK30 _ _ ?_⟩
    refine cM hm (fun hc31 hm => ?_) (fun hc31 hm => ?_)
    ·refine Wp.seqR fun K32 hK32 => ?_
     simp only [go_sem, simprocAttr, hw19, hxp_20]
     first | apply hK32 | refine ⟨sd, hK32 _ _ ?_⟩
     refine Wp.ret ?_
     refine retQ_ret ?_
     cases hm
     simp only [go_sem, simprocAttr, hw19, hxp_20]
     try exact se2
    ·refine Wp.region fun K33 hK33 => ?_
     simp only [go_sem, simprocAttr, hw19, hxp_20]
     first | apply hK33 | refine ⟨sd, hK33 _ _ ?_⟩
     refine hK20 _ _ ?_
     refine Wp.region fun K34 hK34 => ?_
     simp only [go_sem, simprocAttr, hw19, hxp_20]
     first | apply hK34 | refine ⟨sd, hK34 _ _ ?_⟩
     simp only [thenQ, blockQ, ↓reduceIte]
     refine ⟨IntKind.i64.wrap (n_13 + p_20.Long), hlt19, hnx_17 _ hm, ?_⟩
     simp only [go_sem, simprocAttr, hw19, hxp_20]
     try exact se2
theorem ok_R_when (bad_1 : Bool) (e_2 : Int) (z : Int) (hm : R_when bad_1 e_2 = some z) : Does Tryd.prog 91 [.p (.b bad_1), .p (.i .i64 e_2)] [] (fun r X => r = .p (.i .i64 z) ∧ X = []) := by
 unfold R_when at hm
 refine Does.of_wp 0 7 [.tmp 4] Tryd.func91 rfl (by decide) rfl rfl (Nat.le_of_ble_eq_true rfl) fun B => ?_
 refine qS ?_
 refine Wp.seqW fun K2 hK2 hW2 => ?_
 refine qS ?_
 refine cM hm (fun hc4 hm => ?_) (fun hc4 hm => ?_)
 ·refine qS ?_
  refine Wp.ret ?_
  refine retQ_ret ?_
  cases hm
  exact fse2
 ·refine Wp.skip ?_
  refine hK2 _ _ ?_
  refine qS ?_
  refine Wp.ret ?_
  refine retQ_ret ?_
  cases hm
  exact fse2
theorem ok_R_first (l_1 : List Int) (z : Int) (hm : R_first l_1 = some z) : Does Tryd.prog 63 [.p (.l (List.map ecI_i64 l_1))] [] (fun r X => r = .p (.i .i64 z) ∧ X = []) := by
 unfold R_first at hm
 refine Does.of_wp 0 15 [.tmp 2] Tryd.func63 rfl (by decide) rfl rfl (Nat.le_of_ble_eq_true rfl) fun B => ?_
 refine qS ?_
 refine Wp.seqW fun K2 hK2 hW2 => ?_
 obtain ⟨k_9, hk_9, hm⟩ := jp_elim hm
 have hcut2 : ∀ s, k_9 s = some z → K2 [] [] := by
  intro s hs
  have hm := hk_9 _ hs
  clear hs
  try dsimp only at hm
  try dsimp only
  refine hK2 _ _ ?_
  refine qS ?_
  refine Wp.ret ?_
  refine retQ_ret ?_
  cases hm
  exact fse2
 clear hK2 hk_9
 refine qS ?_
 refine Wp.block ?_
 obtain ⟨k_12, hk_12, hm⟩ := forL_cont hm
 refine Wp.fact 5 fun hl_15 => ?_
 replace hl_15 : l_1.length ≤ 274877906944 := by
  simp only [go_sem, simprocAttr, List.length_map] at hl_15
  omega
 refine Wp.forL (fun i_14 s => [(5, .p (.l (List.map ecI_i64 l_1))), (6, .p (.i .i64 (l_1.length : Int))), (7, .p (.i .i64 (i_14 : Int)))]) (fun i_14 s => []) ?_ hm ?_
 ·
  exact fse2
 clear hm
 intro i_14 s hii_14 hm
 try dsimp only at hm
 try dsimp only
 refine qS ?_
 refine Wp.seqW fun K6 hK6 hW6 => ?_
 refine Wp.cond rfl ⟨⟩ (fun hc6 => ?_) (fun hc6 => ?_)
 rotate_left
 ·refine Wp.exit ?_
  have hm := hk_12 _ (forL_end hm (ge_nat (by first | exact hc6 | simpa using hc6)))
  try dsimp only at hm
  refine hW2 _ _ _ _ ?_ (hcut2 () hm)
  exact fse2
 have hlt6 := lt_nat (by first | exact hc6 | simpa using hc6)
 have hw6 := wrap_succ hlt6 hl_15
 obtain ⟨e_16, nx_13, hxe_16, hye_16, hnx_13, hm⟩ := forL_step hm hlt6
 replace hxe_16 := hxe_16 ecI_i64
 refine Wp.skip ?_
 simp only [thenQ]
 refine hK6 _ _ ?_
 refine Wp.seqW fun K7 hK7 hW7 => ?_
 refine Wp.block ?_
 refine Wp.seqR fun K8 hK8 => ?_
 simp only [go_sem, simprocAttr, hw6, hxe_16]
 first | apply hK8 | refine ⟨sd, hK8 _ _ ?_⟩
 refine Wp.seqR fun K9 hK9 => ?_
 simp only [go_sem, simprocAttr, hw6, hxe_16]
 first | apply hK9 | refine ⟨sd, hK9 _ _ ?_⟩
 refine cM hm (fun hc10 hm => ?_) (fun hc10 hm => ?_)
 ·refine Wp.seqR fun K11 hK11 => ?_
  simp only [go_sem, simprocAttr, hw6, hxe_16]
  first | apply hK11 | refine ⟨sd, hK11 _ _ ?_⟩
  refine Wp.ret ?_
  refine retQ_ret ?_
  cases hm
  simp only [go_sem, simprocAttr, hw6, hxe_16]
  try exact se2
 ·refine Wp.skip ?_
  refine hK7 _ _ ?_
  refine Wp.region fun K12 hK12 => ?_
  simp only [go_sem, simprocAttr, hw6, hxe_16]
  first | apply hK12 | refine ⟨sd, hK12 _ _ ?_⟩
  simp only [thenQ, blockQ, ↓reduceIte]
  refine ⟨(), hlt6, hnx_13 _ hm, ?_⟩
  simp only [go_sem, simprocAttr, hw6, hxe_16]
  try exact se2
end Go.Proofs.YthofobeoaimclaaDoor
