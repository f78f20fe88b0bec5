/- That the code does what the models say (part 5). -/
import Derived.Test.YtkekfenkeeiigaaDoorDqWk0
import Derived.Test.YtkekfenkeeiigaaDoorDqWk1
import Derived.Test.YtkekfenkeeiigaaDoorDqWk3
import Derived.Test.YtkekfenkeeiigaaDoorDqWk4
set_option linter.unusedSimpArgs false
set_option linter.unusedVariables false
open Go.Proofs Go.Shelf
namespace Go.Proofs.YtkekfenkeeiigaaDoor
open Go.Vc Go.Md
set_option maxRecDepth 100000
set_option maxHeartbeats 4000000
theorem ok_delta_Parse (text_1 : Str) (z : api_Delta × Int) (hm : delta_Parse text_1 = some z) : Does Tryd.prog 26 [.p (.s text_1)] [] (fun r X => r = .tup [.agg [.p (.i .i64 z.1.Old), .p (.i .i64 z.1.New), .p (.s z.1.OldSum), .p (.s z.1.NewSum), .p (.l (List.map enc_api_Piece z.1.Pieces))], .p (.i .i64 z.2)] ∧ X = []) := by
 unfold delta_Parse at hm
 refine Does.of_wp 0 81 [.cell 2 41, .tmp 3] Tryd.func26 rfl (by decide) rfl rfl (Nat.le_of_ble_eq_true rfl) fun B => ?_
 refine qS ?_
 refine Wp.seqW fun K2 hK2 hW2 => ?_
 refine qS ?_
 refine cM hm (fun hc4 hm => ?_) (fun hc4 hm => ?_)
 ·refine qS ?_
  refine Wp.ret ?_
  simp only [thenQ, blockQ]
  refine retQ_retE ?_
  cases hm
  exact fse3
 ·refine Wp.skip ?_
  refine hK2 _ _ ?_
  refine qS ?_
  refine Wp.seqW fun K7 hK7 hW7 => ?_
  obtain ⟨r_2, hr_2, hm⟩ := call_elim hm
  refine Wp.seqR fun K8 hK8 => ?_
  simp only [go_sem, simprocAttr]
  try refine ⟨sd, ?_⟩
  refine Rg.callO (av := ?av9) [1] (ok_delta_reader_take_i1 4 text_1 0 false _ hr_2) si si si sg sg ?cont9
  rintro _ _ ⟨rfl, rfl⟩ hv9
  simp only [go_sem, simprocAttr]
  first | apply hK8 | refine ⟨sd, hK8 _ _ ?_⟩
  refine cM hm (fun hc10 hm => ?_) (fun hc10 hm => ?_)
  ·refine qS ?_
   refine Wp.ret ?_
   simp only [thenQ, blockQ]
   refine retQ_retE ?_
   cases hm
   exact fse3
  ·refine Wp.skip ?_
   refine hK7 _ _ ?_
   obtain ⟨r_3, hr_3, hm⟩ := call_elim hm
   obtain ⟨r_4, hr_4, hm⟩ := call_elim hm
   refine Wp.seqR fun K12 hK12 => ?_
   simp only [go_sem, simprocAttr]
   try refine ⟨sd, ?_⟩
   refine Rg.callO (av := ?av13) [1] (ok_delta_reader_number_i1 text_1 r_2.2.2 r_2.2.1 _ hr_3) si si si sg sg ?cont13
   rintro _ _ ⟨rfl, rfl⟩ hv13
   simp only [go_sem, simprocAttr]
   try refine ⟨sd, ?_⟩
   refine Rg.callO (av := ?av14) [1] (ok_delta_reader_number_i1 text_1 r_3.2.1 r_3.2.2 _ hr_4) si si si sg sg ?cont14
   rintro _ _ ⟨rfl, rfl⟩ hv14
   simp only [go_sem, simprocAttr]
   first | apply hK12 | refine ⟨sd, hK12 _ _ ?_⟩
   obtain ⟨r_5, hr_5, hm⟩ := call_elim hm
   obtain ⟨r_6, hr_6, hm⟩ := call_elim hm
   refine Wp.seqR fun K15 hK15 => ?_
   simp only [go_sem, simprocAttr]
   try refine ⟨sd, ?_⟩
   refine Rg.callO (av := ?av16) [1] (ok_delta_reader_sum_i1 text_1 r_4.2.1 r_4.2.2 _ hr_5) si si si sg sg ?cont16
   rintro _ _ ⟨rfl, rfl⟩ hv16
   simp only [go_sem, simprocAttr]
   try refine ⟨sd, ?_⟩
   refine Rg.callO (av := ?av17) [1] (ok_delta_reader_sum_i1 text_1 r_5.2.1 r_5.2.2 _ hr_6) si si si sg sg ?cont17
   rintro _ _ ⟨rfl, rfl⟩ hv17
   simp only [go_sem, simprocAttr]
   first | apply hK15 | refine ⟨sd, hK15 _ _ ?_⟩
   refine Wp.seqW fun K18 hK18 hW18 => ?_
   obtain ⟨k_28, hk_28, hm⟩ := jp_elim hm
   have hcut18 : ∀ s, k_28 s = some z → K18 [(0, .p (.s text_1)), (2, .ptr 0 0), (4, .ptr 1 0), (5, .ptr 2 0)] [.cells 41 [.p (.i .i64 0), .p (.i .i64 0), .p (.s []), .p (.s []), .nils], .cells 107 [.p (.s text_1), .p (.i .i64 s.1), .p (.b s.2.1)], .cells 41 [.p (.i .i64 r_3.1), .p (.i .i64 r_4.1), .p (.s r_5.1), .p (.s r_6.1), .buf 3], .buf 49 3 (List.map enc_api_Piece s.2.2)] := by
    intro s hs
    have hm := hk_28 _ hs
    clear hs
    obtain ⟨o1_1_25, o1_2_26, o3_27⟩ := s
    try dsimp only at hm
    try dsimp only
    refine hK18 _ _ ?_
    refine qS ?_
    obtain ⟨r_29, hr_29, hm⟩ := call_elim hm
    refine Wp.seqR fun K20 hK20 => ?_
    simp only [go_sem, simprocAttr]
    try refine ⟨sd, ?_⟩
    refine Rg.callO (av := ?av21) [1] (ok_delta_reader_sum_i1 text_1 o1_1_25 o1_2_26 _ hr_29) si si si sg sg ?cont21
    rintro _ _ ⟨rfl, rfl⟩ hv21
    simp only [go_sem, simprocAttr]
    first | apply hK20 | refine ⟨sd, hK20 _ _ ?_⟩
    refine Wp.seqW fun K22 hK22 hW22 => ?_
    refine qS ?_
    refine cM hm (fun hc24 hm => ?_) (fun hc24 hm => ?_)
    ·refine qS ?_
     refine Wp.ret ?_
     simp only [thenQ, blockQ]
     refine retQ_retE ?_
     cases hm
     exact fse3
    ·refine Wp.skip ?_
     refine hK22 _ _ ?_
     refine Wp.seqW fun K26 hK26 hW26 => ?_
     obtain ⟨c_30, hm⟩ := chk_elim hm
     obtain ⟨r_31, hr_31, hm⟩ := call_elim hm
     refine Wp.seqR fun K27 hK27 => ?_
     simp only [go_sem, simprocAttr]
     try refine ⟨by first | exact sd | ((repeat' apply And.intro) <;> first | assumption | omega | (simp only [List.length_append, List.length_map, List.length_cons, List.length_nil, List.length_set, List.length_replicate] at c_30 ⊢; omega)), ?_⟩
     refine Rg.callX (av := ?av28) (g := true) (fun hg => ok_disk_SumOf (List.take o1_1_25.toNat text_1) _ hr_31) si si si sg si ?cont28
     intro hv28
     simp only [go_sem, simprocAttr]
     first | apply hK27 | refine ⟨by first | exact sd | ((repeat' apply And.intro) <;> first | assumption | omega | (simp only [List.length_append, List.length_map, List.length_cons, List.length_nil, List.length_set, List.length_replicate] at c_30 ⊢; omega)), hK27 _ _ ?_⟩
     refine cM hm (fun hc29 hm => ?_) (fun hc29 hm => ?_)
     ·refine qS ?_
      refine Wp.ret ?_
      simp only [thenQ, blockQ]
      refine retQ_retE ?_
      cases hm
      exact fse3
     ·refine Wp.skip ?_
      refine hK26 _ _ ?_
      refine Wp.seqW fun K31 hK31 hW31 => ?_
      obtain ⟨r_32, hr_32, hm⟩ := call_elim hm
      refine Wp.seqR fun K32 hK32 => ?_
      simp only [go_sem, simprocAttr]
      try refine ⟨sd, ?_⟩
      refine Rg.callX (av := ?av33) (g := true) (fun hg => ok_delta_Check (api_Delta.mk r_3.1 r_4.1 r_5.1 r_6.1 o3_27) _ hr_32) si si (by simp only [go_sem, simprocAttr, List.map_append, List.map_cons, List.map_nil]; exact Is.mk) sg si ?cont33
      intro hv33
      simp only [go_sem, simprocAttr]
      first | apply hK32 | refine ⟨sd, hK32 _ _ ?_⟩
      refine qS ?_
      refine cM hm (fun hc35 hm => ?_) (fun hc35 hm => ?_)
      ·refine qS ?_
       refine Wp.ret ?_
       simp only [thenQ, blockQ]
       refine retQ_retE ?_
       cases hm
       exact fse3
      ·refine Wp.skip ?_
       refine hK31 _ _ ?_
       refine qS ?_
       refine Wp.ret ?_
       refine retQ_ret ?_
       cases hm
       exact fse3
   clear hK18 hk_28
   obtain ⟨r_33, hr_33, hm⟩ := call_elim hm
   refine Wp.seqR fun K38 hK38 => ?_
   simp only [go_sem, simprocAttr]
   try refine ⟨sd, ?_⟩
   refine Rg.callO (av := ?av39) [1] (ok_delta_reader_number_i1 text_1 r_6.2.1 r_6.2.2 _ hr_33) si si si sg sg ?cont39
   rintro _ _ ⟨rfl, rfl⟩ hv39
   simp only [go_sem, simprocAttr]
   first | apply hK38 | refine ⟨sd, hK38 _ _ ?_⟩
   refine Wp.block ?_
   refine Wp.adoptO 2 4 49 3 rfl rfl ?_
   simp only [go_sem, simprocAttr]
   obtain ⟨k_46, hk_46, hm⟩ := loopN_cont hm
   refine Wp.loopN (fun s => [(0, .p (.s text_1)), (2, .ptr 0 0), (4, .ptr 1 0), (5, .ptr 2 0), (32, .p (.i .i64 r_33.1)), (33, .p (.i .i64 s.1))]) (fun s => [.cells 41 [.p (.i .i64 0), .p (.i .i64 0), .p (.s []), .p (.s []), .nils], .cells 107 [.p (.s text_1), .p (.i .i64 s.2.1), .p (.b s.2.2.1)], .cells 41 [.p (.i .i64 r_3.1), .p (.i .i64 r_4.1), .p (.s r_5.1), .p (.s r_6.1), .buf 3], .buf 49 3 (List.map enc_api_Piece s.2.2.2)]) ?_ hm ?_
   ·
    exact fse3
   clear hm
   intro s nx_47 hm
   obtain ⟨t33_40, o1_1_41, o1_2_42, o3_43⟩ := s
   try dsimp only at hm
   try dsimp only
   refine qS ?_
   refine Wp.seqW fun K41 hK41 hW41 => ?_
   refine cM hm (fun hc42 hm => ?_) (fun hc42 hm => ?_)
   ·refine Wp.skip ?_
    refine hK41 _ _ ?_
    refine Wp.seqW fun K43 hK43 hW43 => ?_
    refine Wp.block ?_
    refine Wp.seqW fun K44 hK44 hW44 => ?_
    refine qS ?_
    refine cM hm (fun hc46 hm => ?_) (fun hc46 hm => ?_)
    ·refine Wp.exit ?_
     simp only [thenQ, blockQ, ↓reduceIte]
     have hm := hk_46 _ hm
     try dsimp only at hm
     refine hW18 _ _ _ _ ?_ (hcut18 (o1_1_41, o1_2_42, o3_43) hm)
     exact fse3
    ·refine Wp.skip ?_
     refine hK44 _ _ ?_
     obtain ⟨r_48, hr_48, hm⟩ := call_elim hm
     obtain ⟨c_49, hm⟩ := chk_elim hm
     refine Wp.regD (plan := pl [(0, none), (1, none), (2, none), (3, some [0, 1]), (4, some [0, 1]), (5, some []), (6, none), (7, some [])]) (by kernel_rfl) rfl (by kernel_rfl) fun K47 hK47 => ?_
     simp only [go_sem, simprocAttr]
     try refine ⟨by first | exact sd | ((repeat' apply And.intro) <;> first | assumption | omega | (simp only [List.length_append, List.length_map, List.length_cons, List.length_nil, List.length_set, List.length_replicate] at c_49 ⊢; omega)), ?_⟩
     refine Dr.of_br (Br.callE (av := ?av48) (o := ?o48) [1] (ok_delta_reader_piece_i1 text_1 o1_1_41 o1_2_42 _ hr_48) si si si si si sg sg sg sg ?cont48)
     simp only [go_sem, simprocAttr]
     first | apply hK47 | refine ⟨by first | exact sd | ((repeat' apply And.intro) <;> first | assumption | omega | (simp only [List.length_append, List.length_map, List.length_cons, List.length_nil, List.length_set, List.length_replicate] at c_49 ⊢; omega)), hK47 _ _ ?_⟩
     refine hK43 _ _ ?_
     refine qR ?_
     simp only [thenQ, blockQ, ↓reduceIte]
     refine ⟨(IntKind.i64.wrap (t33_40 + 1), r_48.2.1, r_48.2.2, o3_43 ++ [r_48.1]), hm, ?_⟩
     exact fse3
   ·refine Wp.exit ?_
    simp only [thenQ, blockQ, ↓reduceIte]
    have hm := hk_46 _ hm
    try dsimp only at hm
    refine hW18 _ _ _ _ ?_ (hcut18 (o1_1_41, o1_2_42, o3_43) hm)
    exact fse3
theorem ok_slices_Equal_api_Piece_api_Piece (s1_1 : List api_Piece) (s2_2 : List api_Piece) (z : Bool) (hm : slices_Equal_api_Piece_api_Piece s1_1 s2_2 = some z) : Does Tryd.prog 72 [.p (.l (List.map enc_api_Piece s1_1)), .p (.l (List.map enc_api_Piece s2_2))] [] (fun r X => r = .p (.b z) ∧ X = []) := by
 unfold slices_Equal_api_Piece_api_Piece at hm
 refine Does.of_wp 0 26 [.tmp 4] Tryd.func72 rfl (by decide) rfl rfl (Nat.le_of_ble_eq_true rfl) fun B => ?_
 refine qS ?_
 refine Wp.seqW fun K2 hK2 hW2 => ?_
 refine qS ?_
 refine cM hm (fun hc4 hm => ?_) (fun hc4 hm => ?_)
 ·refine qS ?_
  refine Wp.ret ?_
  refine retQ_ret ?_
  cases hm
  exact fse3
 ·refine Wp.skip ?_
  refine hK2 _ _ ?_
  refine Wp.seqW fun K6 hK6 hW6 => ?_
  obtain ⟨k_12, hk_12, hm⟩ := jp_elim hm
  have hcut6 : ∀ s, k_12 s = some z → K6 [] [] := by
   intro s hs
   have hm := hk_12 _ hs
   clear hs
   try dsimp only at hm
   try dsimp only
   refine hK6 _ _ ?_
   refine qS ?_
   refine Wp.ret ?_
   refine retQ_ret ?_
   cases hm
   exact fse3
  clear hK6 hk_12
  refine qS ?_
  refine Wp.block ?_
  obtain ⟨k_16, hk_16, hm⟩ := forL_cont hm
  refine Wp.fact 0 fun hl_19 => ?_
  replace hl_19 : s1_1.length ≤ 274877906944 := by
   simp only [go_sem, simprocAttr, List.length_map] at hl_19
   omega
  refine Wp.forL (fun i_18 s => [(0, .p (.l (List.map enc_api_Piece s1_1))), (1, .p (.l (List.map enc_api_Piece s2_2))), (12, .p (.i .i64 (s1_1.length : Int))), (13, .p (.i .i64 (i_18 : Int)))]) (fun i_18 s => []) ?_ hm ?_
  ·
   exact fse3
  clear hm
  intro i_18 s hii_18 hm
  try dsimp only at hm
  try dsimp only
  refine qS ?_
  refine Wp.seqW fun K10 hK10 hW10 => ?_
  refine Wp.cond rfl ⟨⟩ (fun hc10 => ?_) (fun hc10 => ?_)
  rotate_left
  ·refine Wp.exit ?_
   have hm := hk_16 _ (forL_end hm (ge_nat (by first | exact hc10 | simpa using hc10)))
   try dsimp only at hm
   refine hW6 _ _ _ _ ?_ (hcut6 () hm)
   exact fse3
  have hlt10 := lt_nat (by first | exact hc10 | simpa using hc10)
  have hw10 := wrap_succ hlt10 hl_19
  obtain ⟨p_20, nx_17, hxp_20, hyp_20, hnx_17, hm⟩ := forL_step hm hlt10
  replace hxp_20 := hxp_20 enc_api_Piece
  refine Wp.skip ?_
  simp only [thenQ]
  refine hK10 _ _ ?_
  refine Wp.seqW fun K11 hK11 hW11 => ?_
  refine Wp.block ?_
  refine Wp.seqR fun K12 hK12 => ?_
  simp only [go_sem, simprocAttr, hw10, hxp_20]
  first | apply hK12 | refine ⟨sd, hK12 _ _ ?_⟩
  obtain ⟨p_21, hbp_21, hxp_21, hyp_21, hm⟩ := idx_elim hm
  replace hxp_21 : ∀ d, (List.map enc_api_Piece s2_2).getD i_18 d = enc_api_Piece p_21 := hxp_21 enc_api_Piece
  refine Wp.seqD (plan := pl [(0, none), (1, none), (2, none), (3, none), (4, none), (5, none), (6, none), (7, none), (8, none)]) (by kernel_rfl) rfl (by kernel_rfl) fun K13 hK13 => ?_
  simp only [go_sem, simprocAttr, hw10, hxp_20, hxp_21]
  first | apply hK13 | refine ⟨sd, hK13 _ _ ?_⟩
  refine cM hm (fun hc14 hm => ?_) (fun hc14 hm => ?_)
  ·refine Wp.seqR fun K15 hK15 => ?_
   simp only [go_sem, simprocAttr, hw10, hxp_20, hxp_21]
   first | apply hK15 | refine ⟨sd, hK15 _ _ ?_⟩
   refine Wp.ret ?_
   refine retQ_ret ?_
   cases hm
   simp only [go_sem, simprocAttr, hw10, hxp_20, hxp_21]
   try exact se3
  ·refine Wp.skip ?_
   refine hK11 _ _ ?_
   refine Wp.region fun K16 hK16 => ?_
   simp only [go_sem, simprocAttr, hw10, hxp_20, hxp_21]
   first | apply hK16 | refine ⟨sd, hK16 _ _ ?_⟩
   simp only [thenQ, blockQ, ↓reduceIte]
   refine ⟨(), hlt10, hnx_17 _ hm, ?_⟩
   simp only [go_sem, simprocAttr, hw10, hxp_20, hxp_21]
   try exact se3
theorem ok_Law_sameDelta (a_1 : api_Delta) (b_2 : api_Delta) (z : Bool) (hm : Law_sameDelta a_1 b_2 = some z) : Does Tryd.prog 27 [.agg [.p (.i .i64 a_1.Old), .p (.i .i64 a_1.New), .p (.s a_1.OldSum), .p (.s a_1.NewSum), .p (.l (List.map enc_api_Piece a_1.Pieces))], .agg [.p (.i .i64 b_2.Old), .p (.i .i64 b_2.New), .p (.s b_2.OldSum), .p (.s b_2.NewSum), .p (.l (List.map enc_api_Piece b_2.Pieces))]] [] (fun r X => r = .p (.b z) ∧ X = []) := by
 unfold Law_sameDelta at hm
 refine Does.of_wp 0 38 [.tmp 4] Tryd.func27 rfl (by decide) rfl rfl (Nat.le_of_ble_eq_true rfl) fun B => ?_
 refine qS ?_
 obtain ⟨r_3, hr_3, hm⟩ := callG_elim hm
 refine Wp.seqR fun K2 hK2 => ?_
 simp only [go_sem, simprocAttr]
 try refine ⟨sd, ?_⟩
 refine Rg.callX (av := ?av3) (g := ((((decide (a_1.Old = b_2.Old)) && (decide (a_1.New = b_2.New))) && (decide (a_1.OldSum = b_2.OldSum))) && (decide (a_1.NewSum = b_2.NewSum)))) (fun hg => ok_slices_Equal_api_Piece_api_Piece a_1.Pieces b_2.Pieces _ (hr_3 hg)) si si si sg si ?cont3
 intro hv3
 simp only [go_sem, simprocAttr]
 first | apply hK2 | refine ⟨sd, hK2 _ _ ?_⟩
 refine Wp.ret ?_
 refine retQ_ret ?_
 cases hm
 exact fse3
theorem ok_internal_strconv_isPowerOfTwo (x_1 : Int) (z : Bool) (hm : internal_strconv_isPowerOfTwo x_1 = some z) : Does Tryd.prog 138 [.p (.i .i64 x_1)] [] (fun r X => r = .p (.b z) ∧ X = []) := by
 unfold internal_strconv_isPowerOfTwo at hm
 refine Does.of_wp 0 8 [.tmp 2] Tryd.func138 rfl (by decide) rfl rfl (Nat.le_of_ble_eq_true rfl) fun B => ?_
 refine qS ?_
 refine qS ?_
 refine Wp.ret ?_
 refine retQ_ret ?_
 cases hm
 exact fse3
theorem ok_math_bits_TrailingZeros64 (x_1 : Int) (z : Int) (hm : math_bits_TrailingZeros64 x_1 = some z) : Does Tryd.prog 149 [.p (.i .u64 x_1)] [] (fun r X => r = .p (.i .i64 z) ∧ X = []) := by
 unfold math_bits_TrailingZeros64 at hm
 refine Does.of_wp 0 14 [.tmp 2] Tryd.func149 rfl (by decide) rfl rfl (Nat.le_of_ble_eq_true rfl) fun B => ?_
 refine qS ?_
 refine Wp.seqW fun K2 hK2 hW2 => ?_
 refine qS ?_
 refine cM hm (fun hc4 hm => ?_) (fun hc4 hm => ?_)
 ·refine qS ?_
  refine Wp.ret ?_
  refine retQ_ret ?_
  cases hm
  exact fse3
 ·refine Wp.skip ?_
  refine hK2 _ _ ?_
  obtain ⟨c_2, hm⟩ := chk_elim hm
  refine Wp.seqR fun K6 hK6 => ?_
  simp only [go_sem, simprocAttr]
  first | apply hK6 | refine ⟨by first | exact sd | ((repeat' apply And.intro) <;> first | assumption | omega | (simp only [List.length_append, List.length_map, List.length_cons, List.length_nil, List.length_set, List.length_replicate] at c_2 ⊢; omega)), hK6 _ _ ?_⟩
  refine Wp.ret ?_
  refine retQ_ret ?_
  cases hm
  exact fse3
theorem ok_math_bits_TrailingZeros (x_1 : Int) (z : Int) (hm : math_bits_TrailingZeros x_1 = some z) : Does Tryd.prog 139 [.p (.i .u64 x_1)] [] (fun r X => r = .p (.i .i64 z) ∧ X = []) := by
 unfold math_bits_TrailingZeros at hm
 refine Does.of_wp 0 8 [.tmp 2] Tryd.func139 rfl (by decide) rfl rfl (Nat.le_of_ble_eq_true rfl) fun B => ?_
 refine qS ?_
 refine Wp.seqW fun K2 hK2 hW2 => ?_
 refine Wp.cond rfl ⟨⟩ (fun hc3 => ?_) (fun hc3 => ?_)
 ·cases hc3
 refine Wp.skip ?_
 refine hK2 _ _ ?_
 obtain ⟨r_2, hr_2, hm⟩ := call_elim hm
 refine Wp.seqR fun K4 hK4 => ?_
 simp only [go_sem, simprocAttr]
 try refine ⟨sd, ?_⟩
 refine Rg.callX (av := ?av5) (g := true) (fun hg => ok_math_bits_TrailingZeros64 x_1 _ hr_2) si si si sg si ?cont5
 intro hv5
 simp only [go_sem, simprocAttr]
 first | apply hK4 | refine ⟨sd, hK4 _ _ ?_⟩
 refine Wp.ret ?_
 refine retQ_ret ?_
 cases hm
 exact fse3
theorem ok_internal_strconv_formatBits (dst_1 : List Int) (u_2 : Int) (base_3 : Int) (neg_4 : Bool) (append__5 : Bool) (z : List Int × Str) (hm : internal_strconv_formatBits dst_1 u_2 base_3 neg_4 append__5 = some z) : Does Tryd.prog 124 [.p (.l (List.map ecI_u8 dst_1)), .p (.i .u64 u_2), .p (.i .i64 base_3), .p (.b neg_4), .p (.b append__5)] [] (fun r X => r = .tup [.p (.l (List.map ecI_u8 z.1)), .p (.s z.2)] ∧ X = []) := by
 unfold internal_strconv_formatBits at hm
 refine Does.of_wp 0 102 [.tmp 10, .tmp 11] Tryd.func124 rfl (by decide) rfl rfl (Nat.le_of_ble_eq_true rfl) fun B => ?_
 refine qS ?_
 refine Wp.seqW fun K2 hK2 hW2 => ?_
 obtain ⟨k_6, hk_6, hm⟩ := jp_elim hm
 have hcut2 : ∀ s, k_6 s = some z → K2 [(0, .p (.l (List.map ecI_u8 dst_1))), (1, .p (.i .u64 u_2)), (2, .p (.i .i64 base_3)), (3, .p (.b neg_4)), (4, .p (.b append__5)), (10, .nils), (11, .p (.s []))] [] := by
  intro s hs
  have hm := hk_6 _ hs
  clear hs
  try dsimp only at hm
  try dsimp only
  refine hK2 _ _ ?_
  refine qS ?_
  refine qS ?_
  refine Wp.seqW fun K5 hK5 hW5 => ?_
  obtain ⟨k_8, hk_8, hm⟩ := jp_elim hm
  have hcut5 : ∀ s, k_8 s = some z → K5 [(0, .p (.l (List.map ecI_u8 dst_1))), (1, .p (.i .u64 s)), (2, .p (.i .i64 base_3)), (3, .p (.b neg_4)), (4, .p (.b append__5)), (10, .nils), (11, .p (.s [])), (12, .ptr 0 0), (13, .p (.i .i64 65))] [.buf 177 1 (List.map ecI_u8 (List.replicate 65 0))] := by
   intro u_7 hs
   have hm := hk_8 _ hs
   clear hs
   try dsimp only at hm
   try dsimp only
   refine hK5 _ _ ?_
   refine Wp.seqW fun K6 hK6 hW6 => ?_
   obtain ⟨k_89, hk_89, hm⟩ := jp_elim hm
   have hcut6 : ∀ s, k_89 s = some z → K6 [(0, .p (.l (List.map ecI_u8 dst_1))), (3, .p (.b neg_4)), (4, .p (.b append__5)), (10, .nils), (11, .p (.s [])), (12, .ptr 0 0), (13, .p (.i .i64 s.1))] [.buf 177 1 (List.map ecI_u8 s.2)] := by
    intro s hs
    have hm := hk_89 _ hs
    clear hs
    obtain ⟨i_87, o0_88⟩ := s
    try dsimp only at hm
    try dsimp only
    refine hK6 _ _ ?_
    refine Wp.seqW fun K7 hK7 hW7 => ?_
    obtain ⟨k_93, hk_93, hm⟩ := jp_elim hm
    have hcut7 : ∀ s, k_93 s = some z → K7 [(0, .p (.l (List.map ecI_u8 dst_1))), (4, .p (.b append__5)), (10, .nils), (11, .p (.s [])), (12, .ptr 0 0), (13, .p (.i .i64 s.1))] [.buf 177 1 (List.map ecI_u8 s.2)] := by
     intro s hs
     have hm := hk_93 _ hs
     clear hs
     obtain ⟨i_91, o0_92⟩ := s
     try dsimp only at hm
     try dsimp only
     refine hK7 _ _ ?_
     refine Wp.seqW fun K8 hK8 hW8 => ?_
     refine qS ?_
     refine cM hm (fun hc10 hm => ?_) (fun hc10 hm => ?_)
     ·obtain ⟨c_94, hm⟩ := chk_elim hm
      cases hm
     ·refine Wp.skip ?_
      refine hK8 _ _ ?_
      obtain ⟨c_95, hm⟩ := chk_elim hm
      refine Wp.seqR fun K11 hK11 => ?_
      simp only [go_sem, simprocAttr]
      first | apply hK11 | refine ⟨by first | exact sd | ((repeat' apply And.intro) <;> first | assumption | omega | (simp only [List.length_append, List.length_map, List.length_cons, List.length_nil, List.length_set, List.length_replicate] at c_95 ⊢; omega)), hK11 _ _ ?_⟩
      refine Wp.ret ?_
      refine retQ_retE ?_
      cases hm
      exact fse3
    clear hK7 hk_93
    refine qS ?_
    refine cM hm (fun hc13 hm => ?_) (fun hc13 hm => ?_)
    ·refine qS ?_
     obtain ⟨c_96, hm⟩ := chk_elim hm
     refine Wp.region fun K15 hK15 => ?_
     simp only [go_sem, simprocAttr]
     first | apply hK15 | refine ⟨by first | exact sd | ((repeat' apply And.intro) <;> first | assumption | omega | (simp only [List.length_append, List.length_map, List.length_cons, List.length_nil, List.length_set, List.length_replicate] at c_96 ⊢; omega)), hK15 _ _ ?_⟩
     refine hW7 _ _ _ _ ?_ (hcut7 (IntKind.i64.wrap (i_87 - 1), List.set o0_88 ((IntKind.i64.wrap (i_87 - 1)).toNat) 45) hm)
     exact fse3
    ·refine Wp.skip ?_
     refine hW7 _ _ _ _ ?_ (hcut7 (i_87, o0_88) hm)
     exact fse3
   clear hK6 hk_89
   obtain ⟨r_97, hr_97, hm⟩ := call_elim hm
   refine Wp.seqR fun K16 hK16 => ?_
   simp only [go_sem, simprocAttr]
   try refine ⟨sd, ?_⟩
   refine Rg.callX (av := ?av17) (g := true) (fun hg => ok_internal_strconv_isPowerOfTwo base_3 _ hr_97) si si si sg si ?cont17
   intro hv17
   simp only [go_sem, simprocAttr]
   first | apply hK16 | refine ⟨sd, hK16 _ _ ?_⟩
   refine cM hm (fun hc18 hm => ?_) (fun hc18 hm => ?_)
   ·obtain ⟨r_98, hr_98, hm⟩ := call_elim hm
    refine Wp.seqR fun K19 hK19 => ?_
    simp only [go_sem, simprocAttr]
    try refine ⟨sd, ?_⟩
    refine Rg.callX (av := ?av20) (g := true) (fun hg => ok_math_bits_TrailingZeros (IntKind.u64.wrap base_3) _ hr_98) si si si sg si ?cont20
    intro hv20
    simp only [go_sem, simprocAttr]
    first | apply hK19 | refine ⟨sd, hK19 _ _ ?_⟩
    refine qS ?_
    refine qS ?_
    refine Wp.seqW fun K23 hK23 hW23 => ?_
    obtain ⟨k_118, hk_118, hm⟩ := jp_elim hm
    have hcut23 : ∀ s, k_118 s = some z → K23 [(0, .p (.l (List.map ecI_u8 dst_1))), (1, .p (.i .u64 s.1)), (3, .p (.b neg_4)), (4, .p (.b append__5)), (10, .nils), (11, .p (.s [])), (12, .ptr 0 0), (13, .p (.i .i64 s.2.1))] [.buf 177 1 (List.map ecI_u8 s.2.2)] := by
     intro s hs
     have hm := hk_118 _ hs
     clear hs
     obtain ⟨u_115, i_116, o0_117⟩ := s
     try dsimp only at hm
     try dsimp only
     refine hK23 _ _ ?_
     refine qS ?_
     obtain ⟨c_119, hbc_119, hxc_119, hm⟩ := idxS_elim hm
     replace hxc_119 : ((([48, 49, 50, 51, 52, 53, 54, 55, 56, 57, 97, 98, 99, 100, 101, 102, 103, 104, 105, 106, 107, 108, 109, 110, 111, 112, 113, 114, 115, 116, 117, 118, 119, 120, 121, 122] : Str).getD u_115.toNat 0).toNat : Int) = c_119 := hxc_119
     obtain ⟨c_120, hm⟩ := chk_elim hm
     refine Wp.region fun K25 hK25 => ?_
     simp only [go_sem, simprocAttr, hxc_119]
     first | apply hK25 | refine ⟨by first | exact sd | ((repeat' apply And.intro) <;> first | assumption | omega | (simp only [List.length_append, List.length_map, List.length_cons, List.length_nil, List.length_set, List.length_replicate] at c_120 ⊢; omega)), hK25 _ _ ?_⟩
     refine hW6 _ _ _ _ ?_ (hcut6 (IntKind.i64.wrap (i_116 - 1), List.set o0_117 ((IntKind.i64.wrap (i_116 - 1)).toNat) c_119) hm)
     simp only [go_sem, simprocAttr, hxc_119]
     try exact se3
    clear hK23 hk_118
    refine Wp.block ?_
    obtain ⟨k_132, hk_132, hm⟩ := loopN_cont hm
    refine Wp.loopN (fun s => [(0, .p (.l (List.map ecI_u8 dst_1))), (1, .p (.i .u64 s.1)), (3, .p (.b neg_4)), (4, .p (.b append__5)), (10, .nils), (11, .p (.s [])), (12, .ptr 0 0), (13, .p (.i .i64 s.2.1)), (14, .p (.i .u64 (IntKind.u64.wrap r_98))), (15, .p (.i .u64 (IntKind.u64.wrap base_3))), (16, .p (.i .u64 (IntKind.u64.wrap ((IntKind.u64.wrap base_3) - 1))))]) (fun s => [.buf 177 1 (List.map ecI_u8 s.2.2)]) ?_ hm ?_
    ·
     exact fse3
    clear hm
    intro s nx_133 hm
    obtain ⟨u_126, i_127, o0_128⟩ := s
    try dsimp only at hm
    try dsimp only
    refine Wp.seqW fun K26 hK26 hW26 => ?_
    refine qS ?_
    refine cM hm (fun hc28 hm => ?_) (fun hc28 hm => ?_)
    ·refine Wp.skip ?_
     refine hK26 _ _ ?_
     refine Wp.block ?_
     refine qS ?_
     obtain ⟨c_134, hbc_134, hxc_134, hm⟩ := idxS_elim hm
     replace hxc_134 : ((([48, 49, 50, 51, 52, 53, 54, 55, 56, 57, 97, 98, 99, 100, 101, 102, 103, 104, 105, 106, 107, 108, 109, 110, 111, 112, 113, 114, 115, 116, 117, 118, 119, 120, 121, 122] : Str).getD ((bitsI .and .u64 u_126 (IntKind.u64.wrap ((IntKind.u64.wrap base_3) - 1))).toNat) 0).toNat : Int) = c_134 := hxc_134
     obtain ⟨c_135, hm⟩ := chk_elim hm
     refine Wp.seqR fun K30 hK30 => ?_
     simp only [go_sem, simprocAttr, hxc_134]
     first | apply hK30 | refine ⟨by first | exact sd | ((repeat' apply And.intro) <;> first | assumption | omega | (simp only [List.length_append, List.length_map, List.length_cons, List.length_nil, List.length_set, List.length_replicate] at c_135 ⊢; omega)), hK30 _ _ ?_⟩
     obtain ⟨c_136, hm⟩ := chk_elim hm
     refine Wp.region fun K31 hK31 => ?_
     simp only [go_sem, simprocAttr, hxc_134]
     first | apply hK31 | refine ⟨by first | exact sd | ((repeat' apply And.intro) <;> first | assumption | omega | (simp only [List.length_append, List.length_map, List.length_cons, List.length_nil, List.length_set, List.length_replicate] at c_136 ⊢; omega)), hK31 _ _ ?_⟩
     simp only [thenQ, blockQ, ↓reduceIte]
     refine ⟨(Int.fdiv u_126 (2 ^ (shI .u64 (IntKind.u64.wrap r_98))), IntKind.i64.wrap (i_127 - 1), List.set o0_128 ((IntKind.i64.wrap (i_127 - 1)).toNat) c_134), hm, ?_⟩
     simp only [go_sem, simprocAttr, hxc_134]
     try exact se3
    ·refine Wp.exit ?_
     simp only [thenQ, blockQ, ↓reduceIte]
     have hm := hk_132 _ hm
     try dsimp only at hm
     refine hW23 _ _ _ _ ?_ (hcut23 (u_126, i_127, o0_128) hm)
     exact fse3
   ·refine qS ?_
    refine Wp.seqW fun K33 hK33 hW33 => ?_
    obtain ⟨k_156, hk_156, hm⟩ := jp_elim hm
    have hcut33 : ∀ s, k_156 s = some z → K33 [(0, .p (.l (List.map ecI_u8 dst_1))), (1, .p (.i .u64 s.1)), (3, .p (.b neg_4)), (4, .p (.b append__5)), (10, .nils), (11, .p (.s [])), (12, .ptr 0 0), (13, .p (.i .i64 s.2.1))] [.buf 177 1 (List.map ecI_u8 s.2.2)] := by
     intro s hs
     have hm := hk_156 _ hs
     clear hs
     obtain ⟨u_153, i_154, o0_155⟩ := s
     try dsimp only at hm
     try dsimp only
     refine hK33 _ _ ?_
     refine qS ?_
     obtain ⟨c_157, hbc_157, hxc_157, hm⟩ := idxS_elim hm
     replace hxc_157 : ((([48, 49, 50, 51, 52, 53, 54, 55, 56, 57, 97, 98, 99, 100, 101, 102, 103, 104, 105, 106, 107, 108, 109, 110, 111, 112, 113, 114, 115, 116, 117, 118, 119, 120, 121, 122] : Str).getD u_153.toNat 0).toNat : Int) = c_157 := hxc_157
     obtain ⟨c_158, hm⟩ := chk_elim hm
     refine Wp.region fun K35 hK35 => ?_
     simp only [go_sem, simprocAttr, hxc_157]
     first | apply hK35 | refine ⟨by first | exact sd | ((repeat' apply And.intro) <;> first | assumption | omega | (simp only [List.length_append, List.length_map, List.length_cons, List.length_nil, List.length_set, List.length_replicate] at c_158 ⊢; omega)), hK35 _ _ ?_⟩
     refine hW6 _ _ _ _ ?_ (hcut6 (IntKind.i64.wrap (i_154 - 1), List.set o0_155 ((IntKind.i64.wrap (i_154 - 1)).toNat) c_157) hm)
     simp only [go_sem, simprocAttr, hxc_157]
     try exact se3
    clear hK33 hk_156
    refine Wp.block ?_
    obtain ⟨k_170, hk_170, hm⟩ := loopN_cont hm
    refine Wp.loopN (fun s => [(0, .p (.l (List.map ecI_u8 dst_1))), (1, .p (.i .u64 s.1)), (3, .p (.b neg_4)), (4, .p (.b append__5)), (10, .nils), (11, .p (.s [])), (12, .ptr 0 0), (13, .p (.i .i64 s.2.1)), (17, .p (.i .u64 (IntKind.u64.wrap base_3)))]) (fun s => [.buf 177 1 (List.map ecI_u8 s.2.2)]) ?_ hm ?_
    ·
     exact fse3
    clear hm
    intro s nx_171 hm
    obtain ⟨u_164, i_165, o0_166⟩ := s
    try dsimp only at hm
    try dsimp only
    refine Wp.seqW fun K36 hK36 hW36 => ?_
    refine qS ?_
    refine cM hm (fun hc38 hm => ?_) (fun hc38 hm => ?_)
    ·refine Wp.skip ?_
     refine hK36 _ _ ?_
     refine Wp.block ?_
     refine qS ?_
     obtain ⟨c_172, hm⟩ := chk_elim hm
     refine Wp.seqR fun K40 hK40 => ?_
     simp only [go_sem, simprocAttr]
     first | apply hK40 | refine ⟨by first | exact sd | ((repeat' apply And.intro) <;> first | assumption | omega | (simp only [List.length_append, List.length_map, List.length_cons, List.length_nil, List.length_set, List.length_replicate] at c_172 ⊢; omega)), hK40 _ _ ?_⟩
     obtain ⟨c_173, hbc_173, hxc_173, hm⟩ := idxS_elim hm
     replace hxc_173 : ((([48, 49, 50, 51, 52, 53, 54, 55, 56, 57, 97, 98, 99, 100, 101, 102, 103, 104, 105, 106, 107, 108, 109, 110, 111, 112, 113, 114, 115, 116, 117, 118, 119, 120, 121, 122] : Str).getD ((IntKind.u64.wrap (u_164 - (IntKind.u64.wrap ((IntKind.u64.wrap (Int.tdiv u_164 (IntKind.u64.wrap base_3))) * (IntKind.u64.wrap base_3))))).toNat) 0).toNat : Int) = c_173 := hxc_173
     obtain ⟨c_174, hm⟩ := chk_elim hm
     refine Wp.seqR fun K41 hK41 => ?_
     simp only [go_sem, simprocAttr, hxc_173]
     first | apply hK41 | refine ⟨by first | exact sd | ((repeat' apply And.intro) <;> first | assumption | omega | (simp only [List.length_append, List.length_map, List.length_cons, List.length_nil, List.length_set, List.length_replicate] at c_174 ⊢; omega)), hK41 _ _ ?_⟩
     refine Wp.region fun K42 hK42 => ?_
     simp only [go_sem, simprocAttr, hxc_173]
     first | apply hK42 | refine ⟨sd, hK42 _ _ ?_⟩
     simp only [thenQ, blockQ, ↓reduceIte]
     refine ⟨(IntKind.u64.wrap (Int.tdiv u_164 (IntKind.u64.wrap base_3)), IntKind.i64.wrap (i_165 - 1), List.set o0_166 ((IntKind.i64.wrap (i_165 - 1)).toNat) c_173), hm, ?_⟩
     simp only [go_sem, simprocAttr, hxc_173]
     try exact se3
    ·refine Wp.exit ?_
     simp only [thenQ, blockQ, ↓reduceIte]
     have hm := hk_170 _ hm
     try dsimp only at hm
     refine hW33 _ _ _ _ ?_ (hcut33 (u_164, i_165, o0_166) hm)
     exact fse3
  clear hK5 hk_8
  refine qS ?_
  refine cM hm (fun hc44 hm => ?_) (fun hc44 hm => ?_)
  ·refine qR ?_
   refine hW5 _ _ _ _ ?_ (hcut5 (IntKind.u64.wrap (-u_2)) hm)
   exact fse3
  ·refine Wp.skip ?_
   refine hW5 _ _ _ _ ?_ (hcut5 u_2 hm)
   exact fse3
 clear hK2 hk_6
 refine qS ?_
 refine cM hm (fun hc47 hm => ?_) (fun hc47 hm => ?_)
 ·cases hm
 ·refine Wp.skip ?_
  refine hW2 _ _ _ _ ?_ (hcut2 () hm)
  exact fse3
theorem ok_internal_strconv_FormatUint (i_1 : Int) (base_2 : Int) (z : Str) (hm : internal_strconv_FormatUint i_1 base_2 = some z) : Does Tryd.prog 111 [.p (.i .u64 i_1), .p (.i .i64 base_2)] [] (fun r X => r = .p (.s z) ∧ X = []) := by
 unfold internal_strconv_FormatUint at hm
 refine Does.of_wp 0 32 [.tmp 4] Tryd.func111 rfl (by decide) rfl rfl (Nat.le_of_ble_eq_true rfl) fun B => ?_
 refine qS ?_
 refine Wp.seqW fun K2 hK2 hW2 => ?_
 refine qS ?_
 refine cM hm (fun hc4 hm => ?_) (fun hc4 hm => ?_)
 ·refine Wp.seqW fun K5 hK5 hW5 => ?_
  refine qS ?_
  refine cM hm (fun hc7 hm => ?_) (fun hc7 hm => ?_)
  ·cases hm
  ·refine Wp.skip ?_
   refine hK5 _ _ ?_
   refine qS ?_
   cases hm
 ·refine Wp.skip ?_
  refine hK2 _ _ ?_
  obtain ⟨r_3, hr_3, hm⟩ := call_elim hm
  refine Wp.seqR fun K9 hK9 => ?_
  simp only [go_sem, simprocAttr]
  try refine ⟨sd, ?_⟩
  refine Rg.callF (av := ?av10) (ok_internal_strconv_formatBits [] i_1 base_2 false false _ hr_3) si si sg ?cont10
  intro hv10
  simp only [go_sem, simprocAttr]
  first | apply hK9 | refine ⟨sd, hK9 _ _ ?_⟩
  refine qS ?_
  refine Wp.ret ?_
  refine retQ_ret ?_
  cases hm
  exact fse3
theorem ok_strconv_FormatUint (i_1 : Int) (base_2 : Int) (z : Str) (hm : strconv_FormatUint i_1 base_2 = some z) : Does Tryd.prog 90 [.p (.i .u64 i_1), .p (.i .i64 base_2)] [] (fun r X => r = .p (.s z) ∧ X = []) := by
 unfold strconv_FormatUint at hm
 refine Does.of_wp 0 8 [.tmp 4] Tryd.func90 rfl (by decide) rfl rfl (Nat.le_of_ble_eq_true rfl) fun B => ?_
 refine qS ?_
 obtain ⟨r_3, hr_3, hm⟩ := call_elim hm
 refine Wp.seqR fun K2 hK2 => ?_
 simp only [go_sem, simprocAttr]
 try refine ⟨sd, ?_⟩
 refine Rg.callX (av := ?av3) (g := true) (fun hg => ok_internal_strconv_FormatUint i_1 base_2 _ hr_3) si si si sg si ?cont3
 intro hv3
 simp only [go_sem, simprocAttr]
 first | apply hK2 | refine ⟨sd, hK2 _ _ ?_⟩
 refine Wp.ret ?_
 refine retQ_ret ?_
 cases hm
 exact fse3
theorem ok_math_bits_Mul64 (x_1 : Int) (y_2 : Int) (z : Int × Int) (hm : math_bits_Mul64 x_1 y_2 = some z) : Does Tryd.prog 102 [.p (.i .u64 x_1), .p (.i .u64 y_2)] [] (fun r X => r = .tup [.p (.i .u64 z.1), .p (.i .u64 z.2)] ∧ X = []) := by
 unfold math_bits_Mul64 at hm
 refine Does.of_wp 0 51 [.tmp 4, .tmp 5] Tryd.func102 rfl (by decide) rfl rfl (Nat.le_of_ble_eq_true rfl) fun B => ?_
 refine qS ?_
 refine qS ?_
 refine qS ?_
 refine qS ?_
 refine qS ?_
 refine qS ?_
 refine qS ?_
 refine qS ?_
 refine qS ?_
 refine qS ?_
 refine qS ?_
 refine qS ?_
 refine Wp.ret ?_
 refine retQ_ret ?_
 cases hm
 exact fse3
theorem ok_math_bits_Mul (x_1 : Int) (y_2 : Int) (z : Int × Int) (hm : math_bits_Mul x_1 y_2 = some z) : Does Tryd.prog 60 [.p (.i .u64 x_1), .p (.i .u64 y_2)] [] (fun r X => r = .tup [.p (.i .u64 z.1), .p (.i .u64 z.2)] ∧ X = []) := by
 unfold math_bits_Mul at hm
 refine Does.of_wp 0 30 [.tmp 4, .tmp 5] Tryd.func60 rfl (by decide) rfl rfl (Nat.le_of_ble_eq_true rfl) fun B => ?_
 refine qS ?_
 refine Wp.seqW fun K2 hK2 hW2 => ?_
 refine Wp.cond rfl ⟨⟩ (fun hc3 => ?_) (fun hc3 => ?_)
 ·cases hc3
 refine Wp.skip ?_
 refine hK2 _ _ ?_
 obtain ⟨r_3, hr_3, hm⟩ := call_elim hm
 refine Wp.seqR fun K4 hK4 => ?_
 simp only [go_sem, simprocAttr]
 try refine ⟨sd, ?_⟩
 refine Rg.callX (av := ?av5) (g := true) (fun hg => ok_math_bits_Mul64 x_1 y_2 _ hr_3) si si si sg si ?cont5
 intro hv5
 simp only [go_sem, simprocAttr]
 first | apply hK4 | refine ⟨sd, hK4 _ _ ?_⟩
 refine qS ?_
 refine Wp.ret ?_
 refine retQ_ret ?_
 cases hm
 exact fse3
theorem ok_internal_stringslite_HasPrefix (s_1 : Str) (prefix_2 : Str) (z : Bool) (hm : internal_stringslite_HasPrefix s_1 prefix_2 = some z) : Does Tryd.prog 103 [.p (.s s_1), .p (.s prefix_2)] [] (fun r X => r = .p (.b z) ∧ X = []) := by
 unfold internal_stringslite_HasPrefix at hm
 refine Does.of_wp 0 18 [.tmp 4] Tryd.func103 rfl (by decide) rfl rfl (Nat.le_of_ble_eq_true rfl) fun B => ?_
 refine qS ?_
 obtain ⟨c_3, hm⟩ := chk_elim hm
 refine Wp.seqR fun K2 hK2 => ?_
 simp only [go_sem, simprocAttr]
 first | apply hK2 | refine ⟨by first | exact sd | ((repeat' apply And.intro) <;> first | assumption | omega | (simp only [List.length_append, List.length_map, List.length_cons, List.length_nil, List.length_set, List.length_replicate] at c_3 ⊢; omega)), hK2 _ _ ?_⟩
 refine Wp.ret ?_
 refine retQ_ret ?_
 cases hm
 exact fse3
theorem ok_strings_HasPrefix (s_1 : Str) (prefix_2 : Str) (z : Bool) (hm : strings_HasPrefix s_1 prefix_2 = some z) : Does Tryd.prog 61 [.p (.s s_1), .p (.s prefix_2)] [] (fun r X => r = .p (.b z) ∧ X = []) := by
 unfold strings_HasPrefix at hm
 refine Does.of_wp 0 8 [.tmp 4] Tryd.func61 rfl (by decide) rfl rfl (Nat.le_of_ble_eq_true rfl) fun B => ?_
 refine qS ?_
 obtain ⟨r_3, hr_3, hm⟩ := call_elim hm
 refine Wp.seqR fun K2 hK2 => ?_
 simp only [go_sem, simprocAttr]
 try refine ⟨sd, ?_⟩
 refine Rg.callX (av := ?av3) (g := true) (fun hg => ok_internal_stringslite_HasPrefix s_1 prefix_2 _ hr_3) si si si sg si ?cont3
 intro hv3
 simp only [go_sem, simprocAttr]
 first | apply hK2 | refine ⟨sd, hK2 _ _ ?_⟩
 refine Wp.ret ?_
 refine retQ_ret ?_
 cases hm
 exact fse3
theorem ok_strings_Builder_Grow (n : Int) (o0 : Str) (z : Unit) (hm : strings_Builder_Grow n o0 = some z) : Does Tryd.prog 62 [.ptr 0 0, .p (.i .i64 n)] [.cells 81 [.np 0, .buf 1], .sb 5 o0] (fun r X => r = .tup [] ∧ X = [.cells 81 [.np 0, .buf 1], .sb 5 o0]) := by
 obtain ⟨h, -⟩ := chk_elim hm
 obtain ⟨k, rfl⟩ := Int.eq_ofNat_of_zero_le h.1
 exact Does.grow growLay growExt k o0 (by omega)
theorem ok_strings_Builder_Len_i1 (o1_1 : Str) (z : Int) (hm : strings_Builder_Len_i1 o1_1 = some z) : Does Tryd.prog 51 [.ptr 0 0] [.cells 81 [.np 0, .buf 1], .sb 5 o1_1] (fun r X => r = .p (.i .i64 z) ∧ X = [.cells 81 [.np 0, .buf 1], .sb 5 o1_1]) := by
 unfold strings_Builder_Len_i1 at hm
 refine Does.of_wp 2 8 [.tmp 2] Tryd.func51 rfl (by decide) rfl rfl (Nat.le_of_ble_eq_true rfl) fun B => ?_
 refine qS ?_
 refine qS ?_
 refine Wp.ret ?_
 refine retQ_ret ?_
 cases hm
 exact fse3
end Go.Proofs.YtkekfenkeeiigaaDoor
