/- That the code does what the models say (part 3). -/
import Derived.Test.YthofobeoaimclaaDoorRdWk0
import Derived.Test.YthofobeoaimclaaDoorRdWk1
import Derived.Test.YthofobeoaimclaaDoorRdWk2
set_option linter.unusedSimpArgs false
set_option linter.unusedVariables false
open Go.Proofs Go.Shelf
namespace Go.Proofs.YthofobeoaimclaaDoor
open Go.Vc Go.Md
set_option maxRecDepth 100000
set_option maxHeartbeats 4000000
theorem ok_delta_Apply (a_1 : Str) (d_2 : api_Delta) (z : Str × Int) (hm : delta_Apply a_1 d_2 = some z) : Does Tryd.prog 29 [.p (.s a_1), .agg [.p (.i .i64 d_2.Old), .p (.i .i64 d_2.New), .p (.s d_2.OldSum), .p (.s d_2.NewSum), .p (.l (List.map enc_api_Piece d_2.Pieces))]] [] (fun r X => r = .tup [.p (.s z.1), .p (.i .i64 z.2)] ∧ X = []) := by
 unfold delta_Apply at hm
 refine Does.of_wp 0 57 [.tmp 4, .tmp 5] Tryd.func29 rfl (by decide) rfl rfl (Nat.le_of_ble_eq_true rfl) fun B => ?_
 refine qS ?_
 refine Wp.seqW fun K2 hK2 hW2 => ?_
 obtain ⟨r_3, hr_3, hm⟩ := call_elim hm
 refine Wp.seqR fun K3 hK3 => ?_
 simp only [go_sem, simprocAttr]
 try refine ⟨sd, ?_⟩
 refine Rg.callX (av := ?av4) (g := true) (fun hg => ok_delta_Check d_2 _ hr_3) si si si sg si ?cont4
 intro hv4
 simp only [go_sem, simprocAttr]
 first | apply hK3 | refine ⟨sd, hK3 _ _ ?_⟩
 refine qS ?_
 refine cM hm (fun hc6 hm => ?_) (fun hc6 hm => ?_)
 ·refine qS ?_
  refine Wp.ret ?_
  refine retQ_ret ?_
  cases hm
  exact fse1
 ·refine Wp.skip ?_
  refine hK2 _ _ ?_
  refine Wp.seqW fun K8 hK8 hW8 => ?_
  obtain ⟨r_4, hr_4, hm⟩ := callG_elim hm
  refine Wp.seqD (plan := [(0, none), (1, none), (2, none), (3, none), (4, none), (5, none), (6, none), (7, none), (8, none), (9, none), (10, none), (11, none)]) (by kernel_rfl) rfl (by kernel_rfl) fun K9 hK9 => ?_
  simp only [go_sem, simprocAttr]
  try refine ⟨sd, ?_⟩
  refine Dr.callF (av := ?av10) (g := !(!decide ((a_1.length : Int) = d_2.Old))) (o := ?o10) (fun hg => ok_disk_SumOf a_1 _ (hr_4 hg)) si si si si sg si ?cont10
  simp only [go_sem, simprocAttr]
  first | apply hK9 | refine ⟨sd, hK9 _ _ ?_⟩
  refine cM hm (fun hc11 hm => ?_) (fun hc11 hm => ?_)
  ·refine qS ?_
   refine Wp.ret ?_
   refine retQ_ret ?_
   cases hm
   exact fse1
  ·refine Wp.skip ?_
   refine hK8 _ _ ?_
   refine qS ?_
   refine Wp.adoptB 1 5 rfl ?_
   simp only [go_sem, simprocAttr]
   refine Wp.seqW fun K14 hK14 hW14 => ?_
   obtain ⟨k_25, hk_25, hm⟩ := jp_elim hm
   have hcut14 : ∀ s, k_25 s = some z → K14 [(3, .ptr 0 0), (7, .ptr 1 0)] [.cells 41 [.p (.i .i64 d_2.Old), .p (.i .i64 d_2.New), .p (.s d_2.OldSum), .p (.s d_2.NewSum), .p (.l (List.map enc_api_Piece d_2.Pieces))], .cells 86 [.np 1, .buf 2], .sb 5 s] := by
    intro o2_24 hs
    have hm := hk_25 _ hs
    clear hs
    try dsimp only at hm
    try dsimp only
    refine hK14 _ _ ?_
    refine Wp.seqW fun K15 hK15 hW15 => ?_
    obtain ⟨r_27, hr_27, hm⟩ := call_elim hm
    obtain ⟨r_28, hr_28, hm⟩ := call_elim hm
    refine Wp.seqD (plan := [(2, none), (3, none), (0, some [2, 3]), (1, none), (4, none)]) (by kernel_rfl) rfl (by kernel_rfl) fun K16 hK16 => ?_
    simp only [go_sem, simprocAttr]
    try refine ⟨sd, ?_⟩
    refine Dr.callS (av := ?av17) (o := ?o17) 2 [1, 2] (ok_strings_Builder_String_i1 o2_24 _ hr_27) si si si si si sg sg sg sg ?cont17
    simp only [go_sem, simprocAttr]
    try refine ⟨sd, ?_⟩
    refine Dr.callF (av := ?av18) (g := true) (o := ?o18) (fun hg => ok_disk_SumOf r_27 _ hr_28) si si si si sg si ?cont18
    simp only [go_sem, simprocAttr]
    first | apply hK16 | refine ⟨sd, hK16 _ _ ?_⟩
    refine cM hm (fun hc19 hm => ?_) (fun hc19 hm => ?_)
    ·refine qS ?_
     refine Wp.ret ?_
     refine retQ_ret ?_
     cases hm
     exact fse1
    ·refine Wp.skip ?_
     refine hK15 _ _ ?_
     obtain ⟨r_29, hr_29, hm⟩ := call_elim hm
     refine Wp.seqR fun K21 hK21 => ?_
     simp only [go_sem, simprocAttr]
     try refine ⟨sd, ?_⟩
     refine Rg.callO (av := ?av22) [1, 2] (ok_strings_Builder_String_i1 o2_24 _ hr_29) si si si sg sg ?cont22
     rintro _ _ ⟨rfl, rfl⟩ hv22
     simp only [go_sem, simprocAttr]
     first | apply hK21 | refine ⟨sd, hK21 _ _ ?_⟩
     refine Wp.ret ?_
     refine retQ_ret ?_
     cases hm
     exact fse1
   clear hK14 hk_25
   refine qS ?_
   refine Wp.block ?_
   obtain ⟨k_41, hk_41, hm⟩ := forL_cont hm
   refine Wp.fact 28 fun hl_44 => ?_
   replace hl_44 : d_2.Pieces.length ≤ 274877906944 := by
    simp only [go_sem, simprocAttr, List.length_map] at hl_44
    omega
   refine Wp.forL (fun i_43 s => [(0, .p (.s a_1)), (3, .ptr 0 0), (7, .ptr 1 0), (28, .p (.l (List.map enc_api_Piece d_2.Pieces))), (29, .p (.i .i64 (d_2.Pieces.length : Int))), (30, .p (.i .i64 (i_43 : Int)))]) (fun i_43 s => [.cells 41 [.p (.i .i64 d_2.Old), .p (.i .i64 d_2.New), .p (.s d_2.OldSum), .p (.s d_2.NewSum), .p (.l (List.map enc_api_Piece d_2.Pieces))], .cells 86 [.np 1, .buf 2], .sb 5 s]) ?_ hm ?_
   ·
    exact fse1
   clear hm
   intro i_43 o2_36 hii_43 hm
   try dsimp only at hm
   try dsimp only
   refine qS ?_
   refine Wp.seqW fun K25 hK25 hW25 => ?_
   refine Wp.cond rfl ⟨⟩ (fun hc25 => ?_) (fun hc25 => ?_)
   rotate_left
   ·refine Wp.exit ?_
    have hm := hk_41 _ (forL_end hm (ge_nat (by first | exact hc25 | simpa using hc25)))
    try dsimp only at hm
    refine hW14 _ _ _ _ ?_ (hcut14 o2_36 hm)
    exact fse1
   have hlt25 := lt_nat (by first | exact hc25 | simpa using hc25)
   have hw25 := wrap_succ hlt25 hl_44
   obtain ⟨p_45, nx_42, hxp_45, hyp_45, hnx_42, hm⟩ := forL_step hm hlt25
   replace hxp_45 := hxp_45 enc_api_Piece
   refine Wp.skip ?_
   simp only [thenQ]
   refine hK25 _ _ ?_
   refine Wp.seqW fun K26 hK26 hW26 => ?_
   refine Wp.block ?_
   refine Wp.seqR fun K27 hK27 => ?_
   simp only [go_sem, simprocAttr, hw25, hxp_45]
   first | apply hK27 | refine ⟨sd, hK27 _ _ ?_⟩
   refine Wp.seqR fun K28 hK28 => ?_
   simp only [go_sem, simprocAttr, hw25, hxp_45]
   first | apply hK28 | refine ⟨sd, hK28 _ _ ?_⟩
   refine cM hm (fun hc29 hm => ?_) (fun hc29 hm => ?_)
   ·obtain ⟨r_46, hr_46, hm⟩ := call_elim hm
    refine Wp.region fun K30 hK30 => ?_
    simp only [go_sem, simprocAttr, hw25, hxp_45]
    try refine ⟨sd, ?_⟩
    refine Rg.callO (av := ?av31) [1, 2] (ok_strings_Builder_WriteString_i1 p_45.Data o2_36 _ hr_46) (by simp only [go_sem, simprocAttr, hw25, hxp_45]; exact Is.mk) (by simp only [go_sem, simprocAttr, hw25, hxp_45]; exact Is.mk) (by simp only [go_sem, simprocAttr, hw25, hxp_45]; exact Is.mk) (by simp only [go_sem, simprocAttr, hw25, hxp_45]) (by simp only [go_sem, simprocAttr, hw25, hxp_45]) ?cont31
    rintro _ _ ⟨rfl, rfl⟩ hv31
    simp only [go_sem, simprocAttr, hw25, hxp_45]
    first | apply hK30 | refine ⟨sd, hK30 _ _ ?_⟩
    refine hK26 _ _ ?_
    refine Wp.region fun K32 hK32 => ?_
    simp only [go_sem, simprocAttr, hw25, hxp_45]
    first | apply hK32 | refine ⟨sd, hK32 _ _ ?_⟩
    simp only [thenQ, blockQ, ↓reduceIte]
    refine ⟨r_46.2, hlt25, hnx_42 _ hm, ?_⟩
    simp only [go_sem, simprocAttr, hw25, hxp_45]
    try exact se1
   ·obtain ⟨c_47, hm⟩ := chk_elim hm
    obtain ⟨r_48, hr_48, hm⟩ := call_elim hm
    refine Wp.region fun K33 hK33 => ?_
    simp only [go_sem, simprocAttr, hw25, hxp_45]
    try refine ⟨by first | exact sd | ((repeat' apply And.intro) <;> first | assumption | omega | (simp only [List.length_append, List.length_map, List.length_cons, List.length_nil, List.length_set, List.length_replicate] at c_47 ⊢; omega)), ?_⟩
    refine Rg.callO (av := ?av34) [1, 2] (ok_strings_Builder_WriteString_i1 (List.take ((IntKind.i64.wrap (p_45.At + p_45.Long)).toNat - p_45.At.toNat) (List.drop p_45.At.toNat a_1)) o2_36 _ hr_48) (by simp only [go_sem, simprocAttr, hw25, hxp_45]; exact Is.mk) (by simp only [go_sem, simprocAttr, hw25, hxp_45]; exact Is.mk) (by simp only [go_sem, simprocAttr, hw25, hxp_45]; exact Is.mk) (by simp only [go_sem, simprocAttr, hw25, hxp_45]) (by simp only [go_sem, simprocAttr, hw25, hxp_45]) ?cont34
    rintro _ _ ⟨rfl, rfl⟩ hv34
    simp only [go_sem, simprocAttr, hw25, hxp_45]
    first | apply hK33 | refine ⟨by first | exact sd | ((repeat' apply And.intro) <;> first | assumption | omega | (simp only [List.length_append, List.length_map, List.length_cons, List.length_nil, List.length_set, List.length_replicate] at c_47 ⊢; omega)), hK33 _ _ ?_⟩
    refine hK26 _ _ ?_
    refine Wp.region fun K35 hK35 => ?_
    simp only [go_sem, simprocAttr, hw25, hxp_45]
    first | apply hK35 | refine ⟨sd, hK35 _ _ ?_⟩
    simp only [thenQ, blockQ, ↓reduceIte]
    refine ⟨r_48.2, hlt25, hnx_42 _ hm, ?_⟩
    simp only [go_sem, simprocAttr, hw25, hxp_45]
    try exact se1
theorem ok_strings_Join (elems_1 : List Str) (sep_2 : Str) (z : Str) (hm : strings_Join elems_1 sep_2 = some z) : Does Tryd.prog 59 [.p (.l (List.map ecS elems_1)), .p (.s sep_2)] [] (fun r X => r = .p (.s z) ∧ X = []) := by
 unfold strings_Join at hm
 refine Does.of_wp 0 75 [.tmp 4] Tryd.func59 rfl (by decide) rfl rfl (Nat.le_of_ble_eq_true rfl) fun B => ?_
 refine qS ?_
 refine Wp.seqW fun K2 hK2 hW2 => ?_
 refine qS ?_
 refine Wp.block ?_
 refine qS ?_
 refine cM hm (fun hc5 hm => ?_) (fun hc5 hm => ?_)
 ·refine qS ?_
  refine Wp.ret ?_
  refine retQ_ret ?_
  cases hm
  exact fse1
 ·refine qS ?_
  refine cM hm (fun hc8 hm => ?_) (fun hc8 hm => ?_)
  ·obtain ⟨s_3, hbs_3, hxs_3, hys_3, hm⟩ := idx_elim hm
   replace hxs_3 : ∀ d, (List.map ecS elems_1).getD 0 d = ecS s_3 := hxs_3 ecS
   refine Wp.seqR fun K9 hK9 => ?_
   simp only [go_sem, simprocAttr, hxs_3]
   first | apply hK9 | refine ⟨sd, hK9 _ _ ?_⟩
   refine Wp.ret ?_
   refine retQ_ret ?_
   cases hm
   simp only [go_sem, simprocAttr, hxs_3]
   try exact se1
  ·refine Wp.skip ?_
   refine hK2 _ _ ?_
   refine qS ?_
   refine Wp.seqW fun K11 hK11 hW11 => ?_
   obtain ⟨k_6, hk_6, hm⟩ := jp_elim hm
   have hcut11 : ∀ s, k_6 s = some z → K11 [(0, .p (.l (List.map ecS elems_1))), (1, .p (.s sep_2)), (5, .p (.i .i64 s))] [] := by
    intro n_5 hs
    have hm := hk_6 _ hs
    clear hs
    try dsimp only at hm
    try dsimp only
    refine hK11 _ _ ?_
    refine Wp.seqW fun K12 hK12 hW12 => ?_
    obtain ⟨k_16, hk_16, hm⟩ := jp_elim hm
    have hcut12 : ∀ s, k_16 s = some z → K12 [(0, .p (.l (List.map ecS elems_1))), (1, .p (.s sep_2)), (5, .p (.i .i64 s))] [] := by
     intro n_15 hs
     have hm := hk_16 _ hs
     clear hs
     try dsimp only at hm
     try dsimp only
     refine hK12 _ _ ?_
     refine qS ?_
     refine Wp.adoptB 0 5 rfl ?_
     simp only [go_sem, simprocAttr]
     obtain ⟨r_17, hr_17, hm⟩ := call_elim hm
     refine Wp.seqR fun K14 hK14 => ?_
     simp only [go_sem, simprocAttr]
     try refine ⟨sd, ?_⟩
     refine Rg.callO (av := ?av15) [0, 1] (ok_strings_Builder_Grow n_15 [] _ hr_17) si si si sg sg ?cont15
     rintro _ _ ⟨rfl, rfl⟩ hv15
     simp only [go_sem, simprocAttr]
     first | apply hK14 | refine ⟨sd, hK14 _ _ ?_⟩
     obtain ⟨s_18, hbs_18, hxs_18, hys_18, hm⟩ := idx_elim hm
     replace hxs_18 : ∀ d, (List.map ecS elems_1).getD 0 d = ecS s_18 := hxs_18 ecS
     obtain ⟨r_19, hr_19, hm⟩ := call_elim hm
     refine Wp.seqR fun K16 hK16 => ?_
     simp only [go_sem, simprocAttr, hxs_18]
     try refine ⟨sd, ?_⟩
     refine Rg.callO (av := ?av17) [0, 1] (ok_strings_Builder_WriteString_i1 s_18 [] _ hr_19) (by simp only [go_sem, simprocAttr, hxs_18]; exact Is.mk) (by simp only [go_sem, simprocAttr, hxs_18]; exact Is.mk) (by simp only [go_sem, simprocAttr, hxs_18]; exact Is.mk) (by simp only [go_sem, simprocAttr, hxs_18]) (by simp only [go_sem, simprocAttr, hxs_18]) ?cont17
     rintro _ _ ⟨rfl, rfl⟩ hv17
     simp only [go_sem, simprocAttr, hxs_18]
     first | apply hK16 | refine ⟨sd, hK16 _ _ ?_⟩
     refine Wp.seqW fun K18 hK18 hW18 => ?_
     obtain ⟨k_38, hk_38, hm⟩ := jp_elim hm
     have hcut18 : ∀ s, k_38 s = some z → K18 [(8, .ptr 0 0)] [.cells 86 [.np 0, .buf 1], .sb 5 s] := by
      intro o1_37 hs
      have hm := hk_38 _ hs
      clear hs
      try dsimp only at hm
      try dsimp only
      refine hK18 _ _ ?_
      obtain ⟨r_39, hr_39, hm⟩ := call_elim hm
      refine Wp.seqR fun K19 hK19 => ?_
      simp only [go_sem, simprocAttr, hxs_18]
      try refine ⟨sd, ?_⟩
      refine Rg.callO (av := ?av20) [0, 1] (ok_strings_Builder_String_i1 o1_37 _ hr_39) (by simp only [go_sem, simprocAttr, hxs_18]; exact Is.mk) (by simp only [go_sem, simprocAttr, hxs_18]; exact Is.mk) (by simp only [go_sem, simprocAttr, hxs_18]; exact Is.mk) (by simp only [go_sem, simprocAttr, hxs_18]) (by simp only [go_sem, simprocAttr, hxs_18]) ?cont20
      rintro _ _ ⟨rfl, rfl⟩ hv20
      simp only [go_sem, simprocAttr, hxs_18]
      first | apply hK19 | refine ⟨sd, hK19 _ _ ?_⟩
      refine Wp.ret ?_
      refine retQ_ret ?_
      cases hm
      simp only [go_sem, simprocAttr, hxs_18]
      try exact se1
     clear hK18 hk_38
     obtain ⟨c_40, hm⟩ := chk_elim hm
     refine Wp.seqR fun K21 hK21 => ?_
     simp only [go_sem, simprocAttr, hxs_18]
     first | apply hK21 | refine ⟨by first | exact sd | ((repeat' apply And.intro) <;> first | assumption | omega | (simp only [List.length_append, List.length_map, List.length_cons, List.length_nil, List.length_set, List.length_replicate] at c_40 ⊢; omega)), hK21 _ _ ?_⟩
     refine Wp.block ?_
     obtain ⟨k_50, hk_50, hm⟩ := forL_cont hm
     refine Wp.fact 63 fun hl_53 => ?_
     replace hl_53 : (List.drop 1 elems_1).length ≤ 274877906944 := by
      simp only [go_sem, simprocAttr, List.length_map] at hl_53
      omega
     refine Wp.forL (fun i_52 s => [(1, .p (.s sep_2)), (8, .ptr 0 0), (63, .p (.l (List.map ecS (List.drop 1 elems_1)))), (64, .p (.i .i64 ((List.drop 1 elems_1).length : Int))), (65, .p (.i .i64 (i_52 : Int)))]) (fun i_52 s => [.cells 86 [.np 0, .buf 1], .sb 5 s]) ?_ hm ?_
     ·
      simp only [go_sem, simprocAttr, hxs_18]
      try exact se1
     clear hm
     intro i_52 o1_46 hii_52 hm
     try dsimp only at hm
     try dsimp only
     refine Wp.seqR fun K22 hK22 => ?_
     simp only [go_sem, simprocAttr, hxs_18]
     first | apply hK22 | refine ⟨sd, hK22 _ _ ?_⟩
     refine Wp.seqW fun K23 hK23 hW23 => ?_
     refine Wp.cond rfl ⟨⟩ (fun hc23 => ?_) (fun hc23 => ?_)
     rotate_left
     ·refine Wp.exit ?_
      have hm := hk_50 _ (forL_end hm (ge_nat (by first | exact hc23 | simpa using hc23)))
      try dsimp only at hm
      refine hW18 _ _ _ _ ?_ (hcut18 o1_46 hm)
      simp only [go_sem, simprocAttr, hxs_18]
      try exact se1
     have hlt23 := lt_nat (by first | exact hc23 | simpa using hc23)
     have hw23 := wrap_succ hlt23 hl_53
     obtain ⟨s_54, nx_51, hxs_54, hys_54, hnx_51, hm⟩ := forL_step hm hlt23
     replace hxs_54 := hxs_54 ecS
     refine Wp.skip ?_
     simp only [thenQ]
     refine hK23 _ _ ?_
     refine Wp.seqW fun K24 hK24 hW24 => ?_
     refine Wp.block ?_
     refine Wp.seqR fun K25 hK25 => ?_
     simp only [go_sem, simprocAttr, hxs_18, hw23, hxs_54]
     first | apply hK25 | refine ⟨sd, hK25 _ _ ?_⟩
     obtain ⟨r_55, hr_55, hm⟩ := call_elim hm
     refine Wp.seqR fun K26 hK26 => ?_
     simp only [go_sem, simprocAttr, hxs_18, hw23, hxs_54]
     try refine ⟨sd, ?_⟩
     refine Rg.callO (av := ?av27) [0, 1] (ok_strings_Builder_WriteString_i1 sep_2 o1_46 _ hr_55) (by simp only [go_sem, simprocAttr, hxs_18, hw23, hxs_54]; exact Is.mk) (by simp only [go_sem, simprocAttr, hxs_18, hw23, hxs_54]; exact Is.mk) (by simp only [go_sem, simprocAttr, hxs_18, hw23, hxs_54]; exact Is.mk) (by simp only [go_sem, simprocAttr, hxs_18, hw23, hxs_54]) (by simp only [go_sem, simprocAttr, hxs_18, hw23, hxs_54]) ?cont27
     rintro _ _ ⟨rfl, rfl⟩ hv27
     simp only [go_sem, simprocAttr, hxs_18, hw23, hxs_54]
     first | apply hK26 | refine ⟨sd, hK26 _ _ ?_⟩
     obtain ⟨r_56, hr_56, hm⟩ := call_elim hm
     refine Wp.region fun K28 hK28 => ?_
     simp only [go_sem, simprocAttr, hxs_18, hw23, hxs_54]
     try refine ⟨sd, ?_⟩
     refine Rg.callO (av := ?av29) [0, 1] (ok_strings_Builder_WriteString_i1 s_54 r_55.2 _ hr_56) (by simp only [go_sem, simprocAttr, hxs_18, hw23, hxs_54]; exact Is.mk) (by simp only [go_sem, simprocAttr, hxs_18, hw23, hxs_54]; exact Is.mk) (by simp only [go_sem, simprocAttr, hxs_18, hw23, hxs_54]; exact Is.mk) (by simp only [go_sem, simprocAttr, hxs_18, hw23, hxs_54]) (by simp only [go_sem, simprocAttr, hxs_18, hw23, hxs_54]) ?cont29
     rintro _ _ ⟨rfl, rfl⟩ hv29
     simp only [go_sem, simprocAttr, hxs_18, hw23, hxs_54]
     first | apply hK28 | refine ⟨sd, hK28 _ _ ?_⟩
     refine hK24 _ _ ?_
     refine Wp.region fun K30 hK30 => ?_
     simp only [go_sem, simprocAttr, hxs_18, hw23, hxs_54]
     first | apply hK30 | refine ⟨sd, hK30 _ _ ?_⟩
     simp only [thenQ, blockQ, ↓reduceIte]
     refine ⟨r_56.2, hlt23, hnx_51 _ hm, ?_⟩
     simp only [go_sem, simprocAttr, hxs_18, hw23, hxs_54]
     try exact se1
    clear hK12 hk_16
    refine qS ?_
    refine Wp.block ?_
    obtain ⟨k_60, hk_60, hm⟩ := forL_cont hm
    refine Wp.fact 0 fun hl_63 => ?_
    replace hl_63 : elems_1.length ≤ 274877906944 := by
     simp only [go_sem, simprocAttr, List.length_map] at hl_63
     omega
    refine Wp.forL (fun i_62 s => [(0, .p (.l (List.map ecS elems_1))), (1, .p (.s sep_2)), (5, .p (.i .i64 s)), (39, .p (.l (List.map ecS elems_1))), (40, .p (.i .i64 (elems_1.length : Int))), (41, .p (.i .i64 (i_62 : Int)))]) (fun i_62 s => []) ?_ hm ?_
    ·
     exact fse1
    clear hm
    intro i_62 n_57 hii_62 hm
    try dsimp only at hm
    try dsimp only
    refine qS ?_
    refine Wp.seqW fun K33 hK33 hW33 => ?_
    refine Wp.cond rfl ⟨⟩ (fun hc33 => ?_) (fun hc33 => ?_)
    rotate_left
    ·refine Wp.exit ?_
     have hm := hk_60 _ (forL_end hm (ge_nat (by first | exact hc33 | simpa using hc33)))
     try dsimp only at hm
     refine hW12 _ _ _ _ ?_ (hcut12 n_57 hm)
     exact fse1
    have hlt33 := lt_nat (by first | exact hc33 | simpa using hc33)
    have hw33 := wrap_succ hlt33 hl_63
    obtain ⟨s_64, nx_61, hxs_64, hys_64, hnx_61, hm⟩ := forL_step hm hlt33
    replace hxs_64 := hxs_64 ecS
    refine Wp.skip ?_
    simp only [thenQ]
    refine hK33 _ _ ?_
    refine Wp.seqW fun K34 hK34 hW34 => ?_
    refine Wp.block ?_
    refine Wp.seqR fun K35 hK35 => ?_
    simp only [go_sem, simprocAttr, hw33, hxs_64]
    first | apply hK35 | refine ⟨sd, hK35 _ _ ?_⟩
    refine Wp.seqW fun K36 hK36 hW36 => ?_
    refine Wp.seqR fun K37 hK37 => ?_
    simp only [go_sem, simprocAttr, hw33, hxs_64]
    first | apply hK37 | refine ⟨sd, hK37 _ _ ?_⟩
    refine cM hm (fun hc38 hm => ?_) (fun hc38 hm => ?_)
    ·cases hm
    ·refine Wp.skip ?_
     refine hK36 _ _ ?_
     refine Wp.region fun K39 hK39 => ?_
     simp only [go_sem, simprocAttr, hw33, hxs_64]
     first | apply hK39 | refine ⟨sd, hK39 _ _ ?_⟩
     refine hK34 _ _ ?_
     refine Wp.region fun K40 hK40 => ?_
     simp only [go_sem, simprocAttr, hw33, hxs_64]
     first | apply hK40 | refine ⟨sd, hK40 _ _ ?_⟩
     simp only [thenQ, blockQ, ↓reduceIte]
     refine ⟨IntKind.i64.wrap (n_57 + (s_64.length : Int)), hlt33, hnx_61 _ hm, ?_⟩
     simp only [go_sem, simprocAttr, hw33, hxs_64]
     try exact se1
   clear hK11 hk_6
   refine qS ?_
   refine cM hm (fun hc42 hm => ?_) (fun hc42 hm => ?_)
   ·refine Wp.seqW fun K43 hK43 hW43 => ?_
    obtain ⟨c_65, hm⟩ := chk_elim hm
    refine Wp.seqR fun K44 hK44 => ?_
    simp only [go_sem, simprocAttr]
    first | apply hK44 | refine ⟨by first | exact sd | ((repeat' apply And.intro) <;> first | assumption | omega | (simp only [List.length_append, List.length_map, List.length_cons, List.length_nil, List.length_set, List.length_replicate] at c_65 ⊢; omega)), hK44 _ _ ?_⟩
    refine cM hm (fun hc45 hm => ?_) (fun hc45 hm => ?_)
    ·cases hm
    ·refine Wp.skip ?_
     refine hK43 _ _ ?_
     refine qR ?_
     refine hW11 _ _ _ _ ?_ (hcut11 (IntKind.i64.wrap (0 + (IntKind.i64.wrap ((sep_2.length : Int) * (IntKind.i64.wrap ((elems_1.length : Int) - 1)))))) hm)
     exact fse1
   ·refine Wp.skip ?_
    refine hW11 _ _ _ _ ?_ (hcut11 0 hm)
    exact fse1
theorem ok_delta_joined (l_1 : List api_Piece) (z : List api_Piece) (hm : delta_joined l_1 = some z) : Does Tryd.prog 92 [.p (.l (List.map enc_api_Piece l_1))] [] (fun r X => r = .p (.l (List.map enc_api_Piece z)) ∧ X = []) := by
 unfold delta_joined at hm
 refine Does.of_wp 0 79 [.tmp 2] Tryd.func92 rfl (by decide) rfl rfl (Nat.le_of_ble_eq_true rfl) fun B => ?_
 refine qS ?_
 refine qS ?_
 refine Wp.seqW fun K3 hK3 hW3 => ?_
 obtain ⟨k_107, hk_107, hm⟩ := jp_elim hm
 have hcut3 : ∀ s, k_107 s = some z → K3 [(3, .buf 0)] [.buf 53 3 (List.map enc_api_Piece s)] := by
  intro o0_106 hs
  have hm := hk_107 _ hs
  clear hs
  try dsimp only at hm
  try dsimp only
  refine hK3 _ _ ?_
  refine qS ?_
  refine Wp.ret ?_
  refine retQ_ret ?_
  cases hm
  exact fse1
 clear hK3 hk_107
 refine qS ?_
 refine Wp.block ?_
 refine Wp.adopt 3 53 3 rfl ?_
 simp only [go_sem, simprocAttr]
 obtain ⟨k_177, hk_177, hm⟩ := loopN_cont hm
 refine Wp.loopN (fun s => [(0, .p (.l (List.map enc_api_Piece l_1))), (3, .buf 0), (4, .p (.i .i64 s.1))]) (fun s => [.buf 53 3 (List.map enc_api_Piece s.2)]) ?_ hm ?_
 ·
  exact fse1
 clear hm
 intro s nx_178 hm
 obtain ⟨i_142, o0_143⟩ := s
 try dsimp only at hm
 try dsimp only
 refine Wp.seqW fun K6 hK6 hW6 => ?_
 refine qS ?_
 refine cM hm (fun hc8 hm => ?_) (fun hc8 hm => ?_)
 ·refine Wp.skip ?_
  refine hK6 _ _ ?_
  refine Wp.block ?_
  obtain ⟨p_179, hbp_179, hxp_179, hyp_179, hm⟩ := idx_elim hm
  replace hxp_179 : ∀ d, (List.map enc_api_Piece l_1).getD i_142.toNat d = enc_api_Piece p_179 := hxp_179 enc_api_Piece
  refine Wp.seqR fun K9 hK9 => ?_
  simp only [go_sem, simprocAttr, hxp_179]
  first | apply hK9 | refine ⟨sd, hK9 _ _ ?_⟩
  refine Wp.seqR fun K10 hK10 => ?_
  simp only [go_sem, simprocAttr, hxp_179]
  first | apply hK10 | refine ⟨sd, hK10 _ _ ?_⟩
  refine Wp.seqW fun K11 hK11 hW11 => ?_
  obtain ⟨k_195, hk_195, hm⟩ := jp_elim hm
  have hcut11 : ∀ s, k_195 s = some z → K11 [(0, .p (.l (List.map enc_api_Piece l_1))), (3, .buf 0), (4, .p (.i .i64 s.1)), (5, .ptr 1 0), (6, .buf 2)] [.buf 53 3 (List.map enc_api_Piece o0_143), .cells 53 [.p (.i .i64 p_179.At), .p (.i .i64 s.2.1), .p (.s p_179.Data)], .buf 9 1 (List.map ecS s.2.2)] := by
   intro s hs
   have hm := hk_195 _ hs
   clear hs
   obtain ⟨i_192, o1_1_193, o2_194⟩ := s
   try dsimp only at hm
   try dsimp only
   refine hK11 _ _ ?_
   refine Wp.seqW fun K12 hK12 hW12 => ?_
   refine Wp.seqR fun K13 hK13 => ?_
   simp only [go_sem, simprocAttr, hxp_179]
   first | apply hK13 | refine ⟨sd, hK13 _ _ ?_⟩
   refine cM hm (fun hc14 hm => ?_) (fun hc14 hm => ?_)
   ·obtain ⟨r_196, hr_196, hm⟩ := call_elim hm
    obtain ⟨c_197, hm⟩ := chk_elim hm
    refine Wp.regD (plan := [(0, none), (1, none), (2, none), (3, none), (4, none), (5, none), (6, some [])]) (by kernel_rfl) rfl (by kernel_rfl) fun K15 hK15 => ?_
    simp only [go_sem, simprocAttr, hxp_179]
    try refine ⟨by first | exact sd | ((repeat' apply And.intro) <;> first | assumption | omega | (simp only [List.length_append, List.length_map, List.length_cons, List.length_nil, List.length_set, List.length_replicate] at c_197 ⊢; omega)), ?_⟩
    refine Dr.callF (av := ?av16) (g := true) (o := ?o16) (fun hg => ok_strings_Join o2_194 [] _ hr_196) (by simp only [go_sem, simprocAttr, hxp_179]; exact Is.mk) (by simp only [go_sem, simprocAttr, hxp_179]; exact Is.mk) (by simp only [go_sem, simprocAttr, hxp_179]; exact Is.mk) (by simp only [go_sem, simprocAttr, hxp_179]; exact Is.mk) (by simp only [go_sem, simprocAttr, hxp_179]) (by simp only [go_sem, simprocAttr, hxp_179]; exact Is.mk) ?cont16
    simp only [go_sem, simprocAttr, hxp_179]
    first | apply hK15 | refine ⟨by first | exact sd | ((repeat' apply And.intro) <;> first | assumption | omega | (simp only [List.length_append, List.length_map, List.length_cons, List.length_nil, List.length_set, List.length_replicate] at c_197 ⊢; omega)), hK15 _ _ ?_⟩
    refine hK12 _ _ ?_
    obtain ⟨c_198, hm⟩ := chk_elim hm
    refine Wp.region fun K17 hK17 => ?_
    simp only [go_sem, simprocAttr, hxp_179]
    first | apply hK17 | refine ⟨by first | exact sd | ((repeat' apply And.intro) <;> first | assumption | omega | (simp only [List.length_append, List.length_map, List.length_cons, List.length_nil, List.length_set, List.length_replicate] at c_198 ⊢; omega)), hK17 _ _ ?_⟩
    simp only [thenQ, blockQ, ↓reduceIte]
    refine ⟨(i_192, o0_143 ++ [(api_Piece.mk p_179.At o1_1_193 (p_179.Data ++ r_196))]), hm, ?_⟩
    simp only [go_sem, simprocAttr, hxp_179]
    try exact se1
   ·refine Wp.skip ?_
    refine hK12 _ _ ?_
    obtain ⟨c_199, hm⟩ := chk_elim hm
    refine Wp.region fun K18 hK18 => ?_
    simp only [go_sem, simprocAttr, hxp_179]
    first | apply hK18 | refine ⟨by first | exact sd | ((repeat' apply And.intro) <;> first | assumption | omega | (simp only [List.length_append, List.length_map, List.length_cons, List.length_nil, List.length_set, List.length_replicate] at c_199 ⊢; omega)), hK18 _ _ ?_⟩
    simp only [thenQ, blockQ, ↓reduceIte]
    refine ⟨(i_192, o0_143 ++ [(api_Piece.mk p_179.At o1_1_193 p_179.Data)]), hm, ?_⟩
    simp only [go_sem, simprocAttr, hxp_179]
    try exact se1
  clear hK11 hk_195
  refine Wp.seqR fun K19 hK19 => ?_
  simp only [go_sem, simprocAttr, hxp_179]
  first | apply hK19 | refine ⟨sd, hK19 _ _ ?_⟩
  refine Wp.block ?_
  refine Wp.adopt 6 9 1 rfl ?_
  simp only [go_sem, simprocAttr, hxp_179]
  obtain ⟨k_208, hk_208, hm⟩ := loopN_cont hm
  refine Wp.loopN (fun s => [(0, .p (.l (List.map enc_api_Piece l_1))), (3, .buf 0), (4, .p (.i .i64 s.1)), (5, .ptr 1 0), (6, .buf 2)]) (fun s => [.buf 53 3 (List.map enc_api_Piece o0_143), .cells 53 [.p (.i .i64 p_179.At), .p (.i .i64 s.2.1), .p (.s p_179.Data)], .buf 9 1 (List.map ecS s.2.2)]) ?_ hm ?_
  ·
   simp only [go_sem, simprocAttr, hxp_179]
   try exact se1
  clear hm
  intro s nx_209 hm
  obtain ⟨i_203, o1_1_204, o2_205⟩ := s
  try dsimp only at hm
  try dsimp only
  refine Wp.seqW fun K20 hK20 hW20 => ?_
  refine Wp.seqR fun K21 hK21 => ?_
  simp only [go_sem, simprocAttr, hxp_179]
  first | apply hK21 | refine ⟨sd, hK21 _ _ ?_⟩
  refine cM hm (fun hc22 hm => ?_) (fun hc22 hm => ?_)
  ·refine Wp.skip ?_
   refine hK20 _ _ ?_
   refine Wp.seqW fun K23 hK23 hW23 => ?_
   refine Wp.block ?_
   obtain ⟨p_210, hbp_210, hxp_210, hyp_210, hm⟩ := idx_elim hm
   replace hxp_210 : ∀ d, (List.map enc_api_Piece l_1).getD i_203.toNat d = enc_api_Piece p_210 := hxp_210 enc_api_Piece
   refine Wp.seqR fun K24 hK24 => ?_
   simp only [go_sem, simprocAttr, hxp_179, hxp_210]
   first | apply hK24 | refine ⟨sd, hK24 _ _ ?_⟩
   refine Wp.seqR fun K25 hK25 => ?_
   simp only [go_sem, simprocAttr, hxp_179, hxp_210]
   first | apply hK25 | refine ⟨sd, hK25 _ _ ?_⟩
   refine cM hm (fun hc26 hm => ?_) (fun hc26 hm => ?_)
   ·refine Wp.region fun K27 hK27 => ?_
    simp only [go_sem, simprocAttr, hxp_179, hxp_210]
    first | apply hK27 | refine ⟨sd, hK27 _ _ ?_⟩
    refine hK23 _ _ ?_
    refine Wp.region fun K28 hK28 => ?_
    simp only [go_sem, simprocAttr, hxp_179, hxp_210]
    first | apply hK28 | refine ⟨sd, hK28 _ _ ?_⟩
    simp only [thenQ, blockQ, ↓reduceIte]
    refine ⟨(IntKind.i64.wrap (i_203 + 1), IntKind.i64.wrap (o1_1_204 + p_210.Long), o2_205), hm, ?_⟩
    simp only [go_sem, simprocAttr, hxp_179, hxp_210]
    try exact se1
   ·refine Wp.seqR fun K29 hK29 => ?_
    simp only [go_sem, simprocAttr, hxp_179, hxp_210]
    first | apply hK29 | refine ⟨sd, hK29 _ _ ?_⟩
    refine cM hm (fun hc30 hm => ?_) (fun hc30 hm => ?_)
    ·obtain ⟨c_211, hm⟩ := chk_elim hm
     refine Wp.region fun K31 hK31 => ?_
     simp only [go_sem, simprocAttr, hxp_179, hxp_210]
     first | apply hK31 | refine ⟨by first | exact sd | ((repeat' apply And.intro) <;> first | assumption | omega | (simp only [List.length_append, List.length_map, List.length_cons, List.length_nil, List.length_set, List.length_replicate] at c_211 ⊢; omega)), hK31 _ _ ?_⟩
     refine hK23 _ _ ?_
     refine Wp.region fun K32 hK32 => ?_
     simp only [go_sem, simprocAttr, hxp_179, hxp_210]
     first | apply hK32 | refine ⟨sd, hK32 _ _ ?_⟩
     simp only [thenQ, blockQ, ↓reduceIte]
     refine ⟨(IntKind.i64.wrap (i_203 + 1), o1_1_204, o2_205 ++ [p_210.Data]), hm, ?_⟩
     simp only [go_sem, simprocAttr, hxp_179, hxp_210]
     try exact se1
    ·refine Wp.exit ?_
     simp only [thenQ, blockQ, ↓reduceIte]
     have hm := hk_208 _ hm
     try dsimp only at hm
     refine hW11 _ _ _ _ ?_ (hcut11 (i_203, o1_1_204, o2_205) hm)
     simp only [go_sem, simprocAttr, hxp_179, hxp_210]
     try exact se1
  ·refine Wp.exit ?_
   simp only [thenQ, blockQ, ↓reduceIte]
   have hm := hk_208 _ hm
   try dsimp only at hm
   refine hW11 _ _ _ _ ?_ (hcut11 (i_203, o1_1_204, o2_205) hm)
   simp only [go_sem, simprocAttr, hxp_179]
   try exact se1
 ·refine Wp.exit ?_
  simp only [thenQ, blockQ, ↓reduceIte]
  have hm := hk_177 _ hm
  try dsimp only at hm
  refine hW3 _ _ _ _ ?_ (hcut3 o0_143 hm)
  exact fse1
theorem ok_delta_Tidy (d_1 : api_Delta) (z : api_Delta × Int) (hm : delta_Tidy d_1 = some z) : Does Tryd.prog 39 [.agg [.p (.i .i64 d_1.Old), .p (.i .i64 d_1.New), .p (.s d_1.OldSum), .p (.s d_1.NewSum), .p (.l (List.map enc_api_Piece d_1.Pieces))]] [] (fun r X => r = .tup [.agg [.p (.i .i64 z.1.Old), .p (.i .i64 z.1.New), .p (.s z.1.OldSum), .p (.s z.1.NewSum), .p (.l (List.map enc_api_Piece z.1.Pieces))], .p (.i .i64 z.2)] ∧ X = []) := by
 unfold delta_Tidy at hm
 refine Does.of_wp 0 16 [.cell 2 41, .tmp 3] Tryd.func39 rfl (by decide) rfl rfl (Nat.le_of_ble_eq_true rfl) fun B => ?_
 refine qS ?_
 refine Wp.seqW fun K2 hK2 hW2 => ?_
 obtain ⟨r_2, hr_2, hm⟩ := call_elim hm
 refine Wp.seqR fun K3 hK3 => ?_
 simp only [go_sem, simprocAttr]
 try refine ⟨sd, ?_⟩
 refine Rg.callX (av := ?av4) (g := true) (fun hg => ok_delta_Check d_1 _ hr_2) si si si sg si ?cont4
 intro hv4
 simp only [go_sem, simprocAttr]
 first | apply hK3 | refine ⟨sd, hK3 _ _ ?_⟩
 refine qS ?_
 refine cM hm (fun hc6 hm => ?_) (fun hc6 hm => ?_)
 ·refine qS ?_
  refine Wp.ret ?_
  simp only [thenQ, blockQ]
  refine retQ_retE ?_
  cases hm
  exact fse1
 ·refine Wp.skip ?_
  refine hK2 _ _ ?_
  obtain ⟨r_3, hr_3, hm⟩ := call_elim hm
  refine Wp.seqR fun K8 hK8 => ?_
  simp only [go_sem, simprocAttr]
  try refine ⟨sd, ?_⟩
  refine Rg.callF (av := ?av9) (ok_delta_joined d_1.Pieces _ hr_3) si si sg ?cont9
  intro hv9
  simp only [go_sem, simprocAttr]
  first | apply hK8 | refine ⟨sd, hK8 _ _ ?_⟩
  refine qS ?_
  refine Wp.ret ?_
  refine retQ_ret ?_
  cases hm
  exact fse1
theorem ok_delta_Fresh (d_1 : api_Delta) (z : Int × Int) (hm : delta_Fresh d_1 = some z) : Does Tryd.prog 40 [.agg [.p (.i .i64 d_1.Old), .p (.i .i64 d_1.New), .p (.s d_1.OldSum), .p (.s d_1.NewSum), .p (.l (List.map enc_api_Piece d_1.Pieces))]] [] (fun r X => r = .tup [.p (.i .i64 z.1), .p (.i .i64 z.2)] ∧ X = []) := by
 unfold delta_Fresh at hm
 refine Does.of_wp 0 27 [.tmp 2, .tmp 3] Tryd.func40 rfl (by decide) rfl rfl (Nat.le_of_ble_eq_true rfl) fun B => ?_
 refine qS ?_
 refine Wp.seqW fun K2 hK2 hW2 => ?_
 obtain ⟨r_2, hr_2, hm⟩ := call_elim hm
 refine Wp.seqR fun K3 hK3 => ?_
 simp only [go_sem, simprocAttr]
 try refine ⟨sd, ?_⟩
 refine Rg.callX (av := ?av4) (g := true) (fun hg => ok_delta_Check d_1 _ hr_2) si si si sg si ?cont4
 intro hv4
 simp only [go_sem, simprocAttr]
 first | apply hK3 | refine ⟨sd, hK3 _ _ ?_⟩
 refine qS ?_
 refine cM hm (fun hc6 hm => ?_) (fun hc6 hm => ?_)
 ·refine qS ?_
  refine Wp.ret ?_
  refine retQ_ret ?_
  cases hm
  exact fse1
 ·refine Wp.skip ?_
  refine hK2 _ _ ?_
  refine qS ?_
  refine Wp.seqW fun K9 hK9 hW9 => ?_
  obtain ⟨k_12, hk_12, hm⟩ := jp_elim hm
  have hcut9 : ∀ s, k_12 s = some z → K9 [(5, .p (.i .i64 s))] [] := by
   intro n_11 hs
   have hm := hk_12 _ hs
   clear hs
   try dsimp only at hm
   try dsimp only
   refine hK9 _ _ ?_
   refine qS ?_
   refine Wp.ret ?_
   refine retQ_ret ?_
   cases hm
   exact fse1
  clear hK9 hk_12
  refine qS ?_
  refine Wp.block ?_
  obtain ⟨k_16, hk_16, hm⟩ := forL_cont hm
  refine Wp.fact 14 fun hl_19 => ?_
  replace hl_19 : d_1.Pieces.length ≤ 274877906944 := by
   simp only [go_sem, simprocAttr, List.length_map] at hl_19
   omega
  refine Wp.forL (fun i_18 s => [(5, .p (.i .i64 s)), (14, .p (.l (List.map enc_api_Piece d_1.Pieces))), (15, .p (.i .i64 (d_1.Pieces.length : Int))), (16, .p (.i .i64 (i_18 : Int)))]) (fun i_18 s => [.cells 41 [.p (.i .i64 d_1.Old), .p (.i .i64 d_1.New), .p (.s d_1.OldSum), .p (.s d_1.NewSum), .p (.l (List.map enc_api_Piece d_1.Pieces))]]) ?_ hm ?_
  ·
   exact fse1
  clear hm
  intro i_18 n_13 hii_18 hm
  try dsimp only at hm
  try dsimp only
  refine qS ?_
  refine Wp.seqW fun K13 hK13 hW13 => ?_
  refine Wp.cond rfl ⟨⟩ (fun hc13 => ?_) (fun hc13 => ?_)
  rotate_left
  ·refine Wp.exit ?_
   have hm := hk_16 _ (forL_end hm (ge_nat (by first | exact hc13 | simpa using hc13)))
   try dsimp only at hm
   refine hW9 _ _ _ _ ?_ (hcut9 n_13 hm)
   exact fse1
  have hlt13 := lt_nat (by first | exact hc13 | simpa using hc13)
  have hw13 := wrap_succ hlt13 hl_19
  obtain ⟨p_20, nx_17, hxp_20, hyp_20, hnx_17, hm⟩ := forL_step hm hlt13
  replace hxp_20 := hxp_20 enc_api_Piece
  refine Wp.skip ?_
  simp only [thenQ]
  refine hK13 _ _ ?_
  refine Wp.seqW fun K14 hK14 hW14 => ?_
  refine Wp.block ?_
  refine Wp.seqR fun K15 hK15 => ?_
  simp only [go_sem, simprocAttr, hw13, hxp_20]
  first | apply hK15 | refine ⟨sd, hK15 _ _ ?_⟩
  refine Wp.region fun K16 hK16 => ?_
  simp only [go_sem, simprocAttr, hw13, hxp_20]
  first | apply hK16 | refine ⟨sd, hK16 _ _ ?_⟩
  refine hK14 _ _ ?_
  refine Wp.region fun K17 hK17 => ?_
  simp only [go_sem, simprocAttr, hw13, hxp_20]
  first | apply hK17 | refine ⟨sd, hK17 _ _ ?_⟩
  simp only [thenQ, blockQ, ↓reduceIte]
  refine ⟨IntKind.i64.wrap (n_13 + (p_20.Data.length : Int)), hlt13, hnx_17 _ hm, ?_⟩
  simp only [go_sem, simprocAttr, hw13, hxp_20]
  try exact se1
theorem ok_delta_putNumber_i1 (n_1 : Int) (o0_2 : List Int) (z : List Int) (hm : delta_putNumber_i1 n_1 o0_2 = some z) : Does Tryd.prog 87 [.buf 0, .p (.i .i64 n_1)] [.buf 5 1 (List.map ecI_u8 o0_2)] (fun r X => r = .buf 0 ∧ X = [.buf 5 1 (List.map ecI_u8 z)]) := by
 unfold delta_putNumber_i1 at hm
 refine Does.of_wp 1 21 [.tmp 4] Tryd.func87 rfl (by decide) rfl rfl (Nat.le_of_ble_eq_true rfl) fun B => ?_
 refine qS ?_
 refine Wp.seqW fun K2 hK2 hW2 => ?_
 obtain ⟨k_33, hk_33, hm⟩ := jp_elim hm
 have hcut2 : ∀ s, k_33 s = some z → K2 [(0, .buf 0), (1, .p (.i .i64 s.1))] [.buf 5 1 (List.map ecI_u8 s.2)] := by
  intro s hs
  have hm := hk_33 _ hs
  clear hs
  obtain ⟨n_31, o0_32⟩ := s
  try dsimp only at hm
  try dsimp only
  refine hK2 _ _ ?_
  obtain ⟨c_34, hm⟩ := chk_elim hm
  refine Wp.seqR fun K3 hK3 => ?_
  simp only [go_sem, simprocAttr]
  first | apply hK3 | refine ⟨by first | exact sd | ((repeat' apply And.intro) <;> first | assumption | omega | (simp only [List.length_append, List.length_map, List.length_cons, List.length_nil, List.length_set, List.length_replicate] at c_34 ⊢; omega)), hK3 _ _ ?_⟩
  refine Wp.ret ?_
  refine retQ_ret ?_
  cases hm
  exact fse1
 clear hK2 hk_33
 refine Wp.block ?_
 obtain ⟨k_40, hk_40, hm⟩ := loopN_cont hm
 refine Wp.loopN (fun s => [(0, .buf 0), (1, .p (.i .i64 s.1))]) (fun s => [.buf 5 1 (List.map ecI_u8 s.2)]) ?_ hm ?_
 ·
  exact fse1
 clear hm
 intro s nx_41 hm
 obtain ⟨n_37, o0_38⟩ := s
 try dsimp only at hm
 try dsimp only
 refine Wp.seqW fun K4 hK4 hW4 => ?_
 refine qS ?_
 refine cM hm (fun hc6 hm => ?_) (fun hc6 hm => ?_)
 ·refine Wp.skip ?_
  refine hK4 _ _ ?_
  refine Wp.block ?_
  obtain ⟨c_42, hm⟩ := chk_elim hm
  refine Wp.seqR fun K7 hK7 => ?_
  simp only [go_sem, simprocAttr]
  first | apply hK7 | refine ⟨by first | exact sd | ((repeat' apply And.intro) <;> first | assumption | omega | (simp only [List.length_append, List.length_map, List.length_cons, List.length_nil, List.length_set, List.length_replicate] at c_42 ⊢; omega)), hK7 _ _ ?_⟩
  refine qR ?_
  simp only [thenQ, blockQ, ↓reduceIte]
  refine ⟨(Int.fdiv n_37 (2 ^ (shI .i64 7)), o0_38 ++ [IntKind.u8.wrap (bitsI .or .i64 (bitsI .and .i64 n_37 127) 128)]), hm, ?_⟩
  exact fse1
 ·refine Wp.exit ?_
  simp only [thenQ, blockQ, ↓reduceIte]
  have hm := hk_40 _ hm
  try dsimp only at hm
  refine hW2 _ _ _ _ ?_ (hcut2 (n_37, o0_38) hm)
  exact fse1
theorem ok_internal_strconv_lower (c_1 : Int) (z : Int) (hm : internal_strconv_lower c_1 = some z) : Does Tryd.prog 137 [.p (.i .u8 c_1)] [] (fun r X => r = .p (.i .u8 z) ∧ X = []) := by
 unfold internal_strconv_lower at hm
 refine Does.of_wp 0 5 [.tmp 2] Tryd.func137 rfl (by decide) rfl rfl (Nat.le_of_ble_eq_true rfl) fun B => ?_
 refine qS ?_
 refine qS ?_
 refine Wp.ret ?_
 refine retQ_ret ?_
 cases hm
 exact fse1
theorem ok_internal_strconv_underscoreOK (s_1 : Str) (z : Bool) (hm : internal_strconv_underscoreOK s_1 = some z) : Does Tryd.prog 138 [.p (.s s_1)] [] (fun r X => r = .p (.b z) ∧ X = []) := by
 unfold internal_strconv_underscoreOK at hm
 refine Does.of_wp 0 94 [.tmp 2] Tryd.func138 rfl (by decide) rfl rfl (Nat.le_of_ble_eq_true rfl) fun B => ?_
 refine qS ?_
 refine qS ?_
 refine qS ?_
 refine Wp.seqW fun K4 hK4 hW4 => ?_
 obtain ⟨k_6, hk_6, hm⟩ := jp_elim hm
 have hcut4 : ∀ s, k_6 s = some z → K4 [(0, .p (.s s)), (3, .p (.i .i32 94)), (4, .p (.i .i64 0))] [] := by
  intro s_5 hs
  have hm := hk_6 _ hs
  clear hs
  try dsimp only at hm
  try dsimp only
  refine hK4 _ _ ?_
  refine qS ?_
  refine Wp.seqW fun K6 hK6 hW6 => ?_
  obtain ⟨k_19, hk_19, hm⟩ := jp_elim hm
  have hcut6 : ∀ s, k_19 s = some z → K6 [(0, .p (.s s_5)), (3, .p (.i .i32 s.1)), (4, .p (.i .i64 s.2.1)), (5, .p (.b s.2.2))] [] := by
   intro s hs
   have hm := hk_19 _ hs
   clear hs
   obtain ⟨saw_16, i_17, hex_18⟩ := s
   try dsimp only at hm
   try dsimp only
   refine hK6 _ _ ?_
   refine Wp.seqW fun K7 hK7 hW7 => ?_
   obtain ⟨k_31, hk_31, hm⟩ := jp_elim hm
   have hcut7 : ∀ s, k_31 s = some z → K7 [(3, .p (.i .i32 s))] [] := by
    intro saw_30 hs
    have hm := hk_31 _ hs
    clear hs
    try dsimp only at hm
    try dsimp only
    refine hK7 _ _ ?_
    refine qS ?_
    refine Wp.ret ?_
    refine retQ_ret ?_
    cases hm
    exact fse1
   clear hK7 hk_31
   refine Wp.block ?_
   obtain ⟨k_37, hk_37, hm⟩ := loopN_cont hm
   refine Wp.loopN (fun s => [(0, .p (.s s_5)), (3, .p (.i .i32 s.1)), (4, .p (.i .i64 s.2)), (5, .p (.b hex_18))]) (fun s => []) ?_ hm ?_
   ·
    exact fse1
   clear hm
   intro s nx_38 hm
   obtain ⟨saw_32, i_33⟩ := s
   try dsimp only at hm
   try dsimp only
   refine Wp.seqW fun K9 hK9 hW9 => ?_
   refine qS ?_
   refine cM hm (fun hc11 hm => ?_) (fun hc11 hm => ?_)
   ·refine Wp.skip ?_
    refine hK9 _ _ ?_
    refine Wp.seqW fun K12 hK12 hW12 => ?_
    refine Wp.block ?_
    refine Wp.seqW fun K13 hK13 hW13 => ?_
    obtain ⟨c_39, hbc_39, hxc_39, hm⟩ := idxS_elim hm
    replace hxc_39 : ((s_5.getD i_33.toNat 0).toNat : Int) = c_39 := hxc_39
    obtain ⟨r_40, hr_40, hm⟩ := callG_elim hm
    obtain ⟨r_41, hr_41, hm⟩ := callG_elim hm
    refine Wp.seqR fun K14 hK14 => ?_
    simp only [go_sem, simprocAttr, hxc_39]
    try refine ⟨sd, ?_⟩
    refine Rg.callX (av := ?av15) (g := ((!((decide (48 ≤ c_39)) && (decide (c_39 ≤ 57)))) && hex_18)) (fun hg => ok_internal_strconv_lower c_39 _ (hr_40 hg)) (by simp only [go_sem, simprocAttr, hxc_39]; exact Is.mk) (by simp only [go_sem, simprocAttr, hxc_39]; exact Is.mk) (by simp only [go_sem, simprocAttr, hxc_39]; exact Is.mk) (by simp only [go_sem, simprocAttr, hxc_39]) (by simp only [go_sem, simprocAttr, hxc_39]; exact Is.mk) ?cont15
    intro hv15
    simp only [go_sem, simprocAttr, hxc_39]
    try refine ⟨sd, ?_⟩
    refine Rg.callX (av := ?av16) (g := ((!((decide (48 ≤ c_39)) && (decide (c_39 ≤ 57)))) && (hex_18 && (decide (97 ≤ r_40))))) (fun hg => ok_internal_strconv_lower c_39 _ (hr_41 hg)) (by simp only [go_sem, simprocAttr, hxc_39]; exact Is.mk) (by simp only [go_sem, simprocAttr, hxc_39]; exact Is.mk) (by simp only [go_sem, simprocAttr, hxc_39]; exact Is.mk) (by simp only [go_sem, simprocAttr, hxc_39]) (by simp only [go_sem, simprocAttr, hxc_39]; exact Is.mk) ?cont16
    intro hv16
    simp only [go_sem, simprocAttr, hxc_39]
    first | apply hK14 | refine ⟨sd, hK14 _ _ ?_⟩
    refine cM hm (fun hc17 hm => ?_) (fun hc17 hm => ?_)
    ·refine Wp.seqR fun K18 hK18 => ?_
     simp only [go_sem, simprocAttr, hxc_39]
     first | apply hK18 | refine ⟨sd, hK18 _ _ ?_⟩
     refine Wp.exit ?_
     refine hK12 _ _ ?_
     refine Wp.region fun K19 hK19 => ?_
     simp only [go_sem, simprocAttr, hxc_39]
     first | apply hK19 | refine ⟨sd, hK19 _ _ ?_⟩
     simp only [thenQ, blockQ, ↓reduceIte]
     refine ⟨(48, IntKind.i64.wrap (i_33 + 1)), hm, ?_⟩
     simp only [go_sem, simprocAttr, hxc_39]
     try exact se1
    ·refine Wp.skip ?_
     refine hK13 _ _ ?_
     refine Wp.seqW fun K20 hK20 hW20 => ?_
     refine Wp.seqR fun K21 hK21 => ?_
     simp only [go_sem, simprocAttr, hxc_39]
     first | apply hK21 | refine ⟨sd, hK21 _ _ ?_⟩
     refine cM hm (fun hc22 hm => ?_) (fun hc22 hm => ?_)
     ·refine Wp.seqW fun K23 hK23 hW23 => ?_
      refine Wp.seqR fun K24 hK24 => ?_
      simp only [go_sem, simprocAttr, hxc_39]
      first | apply hK24 | refine ⟨sd, hK24 _ _ ?_⟩
      refine cM hm (fun hc25 hm => ?_) (fun hc25 hm => ?_)
      ·refine Wp.seqR fun K26 hK26 => ?_
       simp only [go_sem, simprocAttr, hxc_39]
       first | apply hK26 | refine ⟨sd, hK26 _ _ ?_⟩
       refine Wp.ret ?_
       refine retQ_ret ?_
       cases hm
       simp only [go_sem, simprocAttr, hxc_39]
       try exact se1
      ·refine Wp.skip ?_
       refine hK23 _ _ ?_
       refine Wp.seqR fun K27 hK27 => ?_
       simp only [go_sem, simprocAttr, hxc_39]
       first | apply hK27 | refine ⟨sd, hK27 _ _ ?_⟩
       refine Wp.exit ?_
       refine hK12 _ _ ?_
       refine Wp.region fun K28 hK28 => ?_
       simp only [go_sem, simprocAttr, hxc_39]
       first | apply hK28 | refine ⟨sd, hK28 _ _ ?_⟩
       simp only [thenQ, blockQ, ↓reduceIte]
       refine ⟨(95, IntKind.i64.wrap (i_33 + 1)), hm, ?_⟩
       simp only [go_sem, simprocAttr, hxc_39]
       try exact se1
     ·refine Wp.skip ?_
      refine hK20 _ _ ?_
      refine Wp.seqW fun K29 hK29 hW29 => ?_
      refine Wp.seqR fun K30 hK30 => ?_
      simp only [go_sem, simprocAttr, hxc_39]
      first | apply hK30 | refine ⟨sd, hK30 _ _ ?_⟩
      refine cM hm (fun hc31 hm => ?_) (fun hc31 hm => ?_)
      ·refine Wp.seqR fun K32 hK32 => ?_
       simp only [go_sem, simprocAttr, hxc_39]
       first | apply hK32 | refine ⟨sd, hK32 _ _ ?_⟩
       refine Wp.ret ?_
       refine retQ_ret ?_
       cases hm
       simp only [go_sem, simprocAttr, hxc_39]
       try exact se1
      ·refine Wp.skip ?_
       refine hK29 _ _ ?_
       refine Wp.region fun K33 hK33 => ?_
       simp only [go_sem, simprocAttr, hxc_39]
       first | apply hK33 | refine ⟨sd, hK33 _ _ ?_⟩
       refine hK12 _ _ ?_
       refine Wp.region fun K34 hK34 => ?_
       simp only [go_sem, simprocAttr, hxc_39]
       first | apply hK34 | refine ⟨sd, hK34 _ _ ?_⟩
       simp only [thenQ, blockQ, ↓reduceIte]
       refine ⟨(33, IntKind.i64.wrap (i_33 + 1)), hm, ?_⟩
       simp only [go_sem, simprocAttr, hxc_39]
       try exact se1
   ·refine Wp.exit ?_
    simp only [thenQ, blockQ, ↓reduceIte]
    have hm := hk_37 _ hm
    try dsimp only at hm
    refine hW7 _ _ _ _ ?_ (hcut7 saw_32 hm)
    exact fse1
  clear hK6 hk_19
  obtain ⟨c_42, hm⟩ := chk_elim hm
  obtain ⟨c_43, hm⟩ := chk_elim hm
  obtain ⟨r_44, hr_44, hm⟩ := callG_elim hm
  obtain ⟨c_45, hm⟩ := chk_elim hm
  obtain ⟨r_46, hr_46, hm⟩ := callG_elim hm
  obtain ⟨c_47, hm⟩ := chk_elim hm
  obtain ⟨r_48, hr_48, hm⟩ := callG_elim hm
  refine Wp.seqR fun K35 hK35 => ?_
  simp only [go_sem, simprocAttr]
  try refine ⟨by first | exact sd | ((repeat' apply And.intro) <;> first | assumption | omega | (simp only [List.length_append, List.length_map, List.length_cons, List.length_nil, List.length_set, List.length_replicate] at c_42 c_43 c_45 c_47 ⊢; omega)), ?_⟩
  refine Rg.callX (av := ?av36) (g := ((decide (2 ≤ (s_5.length : Int))) && (decide (((s_5.getD 0 0).toNat : Int) = 48)))) (fun hg => ok_internal_strconv_lower ((s_5.getD 1 0).toNat : Int) _ (hr_44 hg)) si si si sg si ?cont36
  intro hv36
  simp only [go_sem, simprocAttr]
  try refine ⟨by first | exact sd | ((repeat' apply And.intro) <;> first | assumption | omega | (simp only [List.length_append, List.length_map, List.length_cons, List.length_nil, List.length_set, List.length_replicate] at c_42 c_43 c_45 c_47 ⊢; omega)), ?_⟩
  refine Rg.callX (av := ?av37) (g := (((decide (2 ≤ (s_5.length : Int))) && (decide (((s_5.getD 0 0).toNat : Int) = 48))) && (!(decide (r_44 = 98))))) (fun hg => ok_internal_strconv_lower ((s_5.getD 1 0).toNat : Int) _ (hr_46 hg)) si si si sg si ?cont37
  intro hv37
  simp only [go_sem, simprocAttr]
  try refine ⟨by first | exact sd | ((repeat' apply And.intro) <;> first | assumption | omega | (simp only [List.length_append, List.length_map, List.length_cons, List.length_nil, List.length_set, List.length_replicate] at c_42 c_43 c_45 c_47 ⊢; omega)), ?_⟩
  refine Rg.callX (av := ?av38) (g := (((decide (2 ≤ (s_5.length : Int))) && (decide (((s_5.getD 0 0).toNat : Int) = 48))) && (!((decide (r_44 = 98)) || (decide (r_46 = 111)))))) (fun hg => ok_internal_strconv_lower ((s_5.getD 1 0).toNat : Int) _ (hr_48 hg)) si si si sg si ?cont38
  intro hv38
  simp only [go_sem, simprocAttr]
  first | apply hK35 | refine ⟨by first | exact sd | ((repeat' apply And.intro) <;> first | assumption | omega | (simp only [List.length_append, List.length_map, List.length_cons, List.length_nil, List.length_set, List.length_replicate] at c_42 c_43 c_45 c_47 ⊢; omega)), hK35 _ _ ?_⟩
  refine cM hm (fun hc39 hm => ?_) (fun hc39 hm => ?_)
  ·refine qS ?_
   refine qS ?_
   obtain ⟨c_49, hbc_49, hxc_49, hm⟩ := idxS_elim hm
   replace hxc_49 : ((s_5.getD 1 0).toNat : Int) = c_49 := hxc_49
   obtain ⟨r_50, hr_50, hm⟩ := call_elim hm
   refine Wp.region fun K42 hK42 => ?_
   simp only [go_sem, simprocAttr, hxc_49]
   try refine ⟨sd, ?_⟩
   refine Rg.callX (av := ?av43) (g := true) (fun hg => ok_internal_strconv_lower c_49 _ hr_50) (by simp only [go_sem, simprocAttr, hxc_49]; exact Is.mk) (by simp only [go_sem, simprocAttr, hxc_49]; exact Is.mk) (by simp only [go_sem, simprocAttr, hxc_49]; exact Is.mk) (by simp only [go_sem, simprocAttr, hxc_49]) (by simp only [go_sem, simprocAttr, hxc_49]; exact Is.mk) ?cont43
   intro hv43
   simp only [go_sem, simprocAttr, hxc_49]
   first | apply hK42 | refine ⟨sd, hK42 _ _ ?_⟩
   refine hW6 _ _ _ _ ?_ (hcut6 (48, 2, decide (r_50 = 120)) hm)
   simp only [go_sem, simprocAttr, hxc_49]
   try exact se1
  ·refine Wp.skip ?_
   refine hW6 _ _ _ _ ?_ (hcut6 (94, 0, false) hm)
   exact fse1
 clear hK4 hk_6
 obtain ⟨c_51, hm⟩ := chk_elim hm
 obtain ⟨c_52, hm⟩ := chk_elim hm
 refine Wp.seqR fun K44 hK44 => ?_
 simp only [go_sem, simprocAttr]
 first | apply hK44 | refine ⟨by first | exact sd | ((repeat' apply And.intro) <;> first | assumption | omega | (simp only [List.length_append, List.length_map, List.length_cons, List.length_nil, List.length_set, List.length_replicate] at c_51 c_52 ⊢; omega)), hK44 _ _ ?_⟩
 refine cM hm (fun hc45 hm => ?_) (fun hc45 hm => ?_)
 ·obtain ⟨c_53, hm⟩ := chk_elim hm
  refine Wp.region fun K46 hK46 => ?_
  simp only [go_sem, simprocAttr]
  first | apply hK46 | refine ⟨by first | exact sd | ((repeat' apply And.intro) <;> first | assumption | omega | (simp only [List.length_append, List.length_map, List.length_cons, List.length_nil, List.length_set, List.length_replicate] at c_53 ⊢; omega)), hK46 _ _ ?_⟩
  refine hW4 _ _ _ _ ?_ (hcut4 (List.drop 1 s_1) hm)
  exact fse1
 ·refine Wp.skip ?_
  refine hW4 _ _ _ _ ?_ (hcut4 s_1 hm)
  exact fse1
end Go.Proofs.YthofobeoaimclaaDoor
