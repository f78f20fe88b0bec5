/- That the code does what the models say (part 5). -/
import Derived.Test.YtkekfenkeeiigaaDoorLmWk0
import Derived.Test.YtkekfenkeeiigaaDoorLmWk1
import Derived.Test.YtkekfenkeeiigaaDoorLmWk2
import Derived.Test.YtkekfenkeeiigaaDoorLmWk3
import Derived.Test.YtkekfenkeeiigaaDoorLmWk4
set_option linter.unusedSimpArgs false
set_option linter.unusedVariables false
open Go.Proofs Go.Shelf
namespace Go.Proofs.YtkekfenkeeiigaaDoor
open Go.Vc Go.Md
set_option maxRecDepth 100000
set_option maxHeartbeats 4000000
theorem ok_R_MergeTexts_1_i1 (i_1 : Int) (j_2 : Int) (k_3 : Int) (o0_0_4 : List Str) (o1_0_5 : Int) (o2_0_6 : List Str) (o3_0_7 : Int) (o4_0_8 : List Str) (o5_0_9 : Int) (o6_0_10 : Str) (o7_0_11 : Int) (z : Str × Int) (hm : R_MergeTexts_1_i1 i_1 j_2 k_3 o0_0_4 o1_0_5 o2_0_6 o3_0_7 o4_0_8 o5_0_9 o6_0_10 o7_0_11 = some z) : Does Tryd.prog 55 [.p (.i .i64 i_1), .p (.i .i64 j_2), .p (.i .i64 k_3), .ptr 0 0, .ptr 1 0, .ptr 2 0, .ptr 3 0, .ptr 4 0, .ptr 5 0, .ptr 6 0, .ptr 7 0] [.cells 31 [.p (.l (List.map ecS o0_0_4))], .cells 3 [.p (.i .i64 o1_0_5)], .cells 31 [.p (.l (List.map ecS o2_0_6))], .cells 3 [.p (.i .i64 o3_0_7)], .cells 31 [.p (.l (List.map ecS o4_0_8))], .cells 3 [.p (.i .i64 o5_0_9)], .cells 9 [.p (.s o6_0_10)], .cells 3 [.p (.i .i64 o7_0_11)]] (fun r X => r = .tup [] ∧ X = [.cells 31 [.p (.l (List.map ecS o0_0_4))], .cells 3 [.p (.i .i64 o1_0_5)], .cells 31 [.p (.l (List.map ecS o2_0_6))], .cells 3 [.p (.i .i64 o3_0_7)], .cells 31 [.p (.l (List.map ecS o4_0_8))], .cells 3 [.p (.i .i64 o5_0_9)], .cells 9 [.p (.s z.1)], .cells 3 [.p (.i .i64 z.2)]]) := by
 unfold R_MergeTexts_1_i1 at hm
 refine Does.of_wp 8 66 [] Tryd.func55 rfl (by decide) rfl rfl (Nat.le_of_ble_eq_true rfl) fun B => ?_
 obtain ⟨c_27, hm⟩ := chk_elim hm
 obtain ⟨r_28, hr_28, hm⟩ := call_elim hm
 obtain ⟨c_29, hm⟩ := chk_elim hm
 obtain ⟨r_30, hr_30, hm⟩ := call_elim hm
 obtain ⟨c_31, hm⟩ := chk_elim hm
 obtain ⟨r_32, hr_32, hm⟩ := call_elim hm
 refine Wp.seqD (plan := pl [(0, none), (1, none), (2, none), (3, none), (4, none), (5, none), (6, none), (7, none), (8, none), (9, none), (10, none), (11, none), (12, none), (13, none), (14, none), (15, none), (16, none), (17, none)]) (by kernel_rfl) rfl (by kernel_rfl) fun K1 hK1 => ?_
 simp only [go_sem, simprocAttr]
 try refine ⟨by first | exact sd | ((repeat' apply And.intro) <;> first | assumption | omega | (simp only [List.length_append, List.length_map, List.length_cons, List.length_nil, List.length_set, List.length_replicate] at c_27 c_29 c_31 ⊢; omega)), ?_⟩
 refine Dr.callF (av := ?av2) (g := true) (o := ?o2) (fun hg => ok_strings_Join (List.take (i_1.toNat - o1_0_5.toNat) (List.drop o1_0_5.toNat o0_0_4)) [] _ hr_28) si si si si sg si ?cont2
 simp only [go_sem, simprocAttr]
 try refine ⟨by first | exact sd | ((repeat' apply And.intro) <;> first | assumption | omega | (simp only [List.length_append, List.length_map, List.length_cons, List.length_nil, List.length_set, List.length_replicate] at c_27 c_29 c_31 ⊢; omega)), ?_⟩
 refine Dr.callF (av := ?av3) (g := true) (o := ?o3) (fun hg => ok_strings_Join (List.take (j_2.toNat - o3_0_7.toNat) (List.drop o3_0_7.toNat o2_0_6)) [] _ hr_30) si si si si sg si ?cont3
 simp only [go_sem, simprocAttr]
 try refine ⟨by first | exact sd | ((repeat' apply And.intro) <;> first | assumption | omega | (simp only [List.length_append, List.length_map, List.length_cons, List.length_nil, List.length_set, List.length_replicate] at c_27 c_29 c_31 ⊢; omega)), ?_⟩
 refine Dr.callF (av := ?av4) (g := true) (o := ?o4) (fun hg => ok_strings_Join (List.take (k_3.toNat - o5_0_9.toNat) (List.drop o5_0_9.toNat o4_0_8)) [] _ hr_32) si si si si sg si ?cont4
 simp only [go_sem, simprocAttr]
 first | apply hK1 | refine ⟨by first | exact sd | ((repeat' apply And.intro) <;> first | assumption | omega | (simp only [List.length_append, List.length_map, List.length_cons, List.length_nil, List.length_set, List.length_replicate] at c_27 c_29 c_31 ⊢; omega)), hK1 _ _ ?_⟩
 refine Wp.block ?_
 refine qS ?_
 refine cM hm (fun hc6 hm => ?_) (fun hc6 hm => ?_)
 ·obtain ⟨c_33, hm⟩ := chk_elim hm
  refine Wp.region fun K7 hK7 => ?_
  simp only [go_sem, simprocAttr]
  first | apply hK7 | refine ⟨by first | exact sd | ((repeat' apply And.intro) <;> first | assumption | omega | (simp only [List.length_append, List.length_map, List.length_cons, List.length_nil, List.length_set, List.length_replicate] at c_33 ⊢; omega)), hK7 _ _ ?_⟩
  simp only [thenQ, blockQ, ↓reduceIte]
  refine retQ_normal ?_
  cases hm
  exact fse3
 ·refine qS ?_
  refine cM hm (fun hc9 hm => ?_) (fun hc9 hm => ?_)
  ·obtain ⟨c_34, hm⟩ := chk_elim hm
   refine Wp.region fun K10 hK10 => ?_
   simp only [go_sem, simprocAttr]
   first | apply hK10 | refine ⟨by first | exact sd | ((repeat' apply And.intro) <;> first | assumption | omega | (simp only [List.length_append, List.length_map, List.length_cons, List.length_nil, List.length_set, List.length_replicate] at c_34 ⊢; omega)), hK10 _ _ ?_⟩
   simp only [thenQ, blockQ, ↓reduceIte]
   refine retQ_normal ?_
   cases hm
   exact fse3
  ·refine qS ?_
   refine qS ?_
   obtain ⟨r_35, hr_35, hm⟩ := call_elim hm
   obtain ⟨c_36, hm⟩ := chk_elim hm
   obtain ⟨c_37, hm⟩ := chk_elim hm
   obtain ⟨r_38, hr_38, hm⟩ := call_elim hm
   obtain ⟨c_39, hm⟩ := chk_elim hm
   obtain ⟨c_40, hm⟩ := chk_elim hm
   obtain ⟨c_41, hm⟩ := chk_elim hm
   refine Wp.regD (plan := pl [(0, none), (1, none), (2, none), (3, none), (4, none), (5, none), (6, none), (7, none), (8, none), (9, none), (10, none), (11, none), (12, some [])]) (by kernel_rfl) rfl (by kernel_rfl) fun K13 hK13 => ?_
   simp only [go_sem, simprocAttr]
   try refine ⟨by first | exact sd | ((repeat' apply And.intro) <;> first | assumption | omega | (simp only [List.length_append, List.length_map, List.length_cons, List.length_nil, List.length_set, List.length_replicate] at c_36 c_37 c_39 c_40 c_41 ⊢; omega)), ?_⟩
   refine Dr.callF (av := ?av14) (g := true) (o := ?o14) (fun hg => ok_R_MergeTexts_1_1 r_30 _ hr_35) si si si si sg si ?cont14
   simp only [go_sem, simprocAttr]
   try refine ⟨by first | exact sd | ((repeat' apply And.intro) <;> first | assumption | omega | (simp only [List.length_append, List.length_map, List.length_cons, List.length_nil, List.length_set, List.length_replicate] at c_36 c_37 c_39 c_40 c_41 ⊢; omega)), ?_⟩
   refine Dr.callF (av := ?av15) (g := true) (o := ?o15) (fun hg => ok_R_MergeTexts_1_1 r_32 _ hr_38) si si si si sg si ?cont15
   simp only [go_sem, simprocAttr]
   first | apply hK13 | refine ⟨by first | exact sd | ((repeat' apply And.intro) <;> first | assumption | omega | (simp only [List.length_append, List.length_map, List.length_cons, List.length_nil, List.length_set, List.length_replicate] at c_36 c_37 c_39 c_40 c_41 ⊢; omega)), hK13 _ _ ?_⟩
   simp only [thenQ, blockQ, ↓reduceIte]
   refine retQ_normal ?_
   cases hm
   exact fse3
theorem ok_R_MergeTexts (base_1 : Str) (a_2 : Str) (b_3 : Str) (z : Str × Int × Int) (hm : R_MergeTexts base_1 a_2 b_3 = some z) : Does Tryd.prog 16 [.p (.s base_1), .p (.s a_2), .p (.s b_3)] [] (fun r X => r = .tup [.p (.s z.1), .p (.i .i64 z.2.1), .p (.i .i64 z.2.2)] ∧ X = []) := by
 unfold R_MergeTexts at hm
 refine Does.of_wp 0 103 [.tmp 6, .tmp 7, .tmp 8] Tryd.func16 rfl (by decide) rfl rfl (Nat.le_of_ble_eq_true rfl) fun B => ?_
 refine qS ?_
 refine Wp.seqW fun K2 hK2 hW2 => ?_
 obtain ⟨r_4, hr_4, hm⟩ := call_elim hm
 obtain ⟨r_5, hr_5, hm⟩ := call_elim hm
 obtain ⟨r_6, hr_6, hm⟩ := call_elim hm
 refine Wp.seqR fun K3 hK3 => ?_
 simp only [go_sem, simprocAttr]
 try refine ⟨sd, ?_⟩
 refine Rg.callX (av := ?av4) (g := true) (fun hg => ok_R_LinesError base_1 a_2 _ hr_4) si si si sg si ?cont4
 intro hv4
 simp only [go_sem, simprocAttr]
 try refine ⟨sd, ?_⟩
 refine Rg.callX (av := ?av5) (g := true) (fun hg => ok_R_LinesError base_1 b_3 _ hr_5) si si si sg si ?cont5
 intro hv5
 simp only [go_sem, simprocAttr]
 try refine ⟨sd, ?_⟩
 refine Rg.callX (av := ?av6) (g := true) (fun hg => ok_R_first [r_4, r_5] _ hr_6) si si si sg si ?cont6
 intro hv6
 simp only [go_sem, simprocAttr]
 first | apply hK3 | refine ⟨sd, hK3 _ _ ?_⟩
 refine qS ?_
 refine cM hm (fun hc8 hm => ?_) (fun hc8 hm => ?_)
 ·refine qS ?_
  refine Wp.ret ?_
  refine retQ_ret ?_
  cases hm
  exact fse3
 ·refine Wp.skip ?_
  refine hK2 _ _ ?_
  obtain ⟨r_7, hr_7, hm⟩ := call_elim hm
  obtain ⟨r_8, hr_8, hm⟩ := call_elim hm
  obtain ⟨r_9, hr_9, hm⟩ := call_elim hm
  refine Wp.seqR fun K10 hK10 => ?_
  simp only [go_sem, simprocAttr]
  try refine ⟨sd, ?_⟩
  refine Rg.callF (av := ?av11) (ok_R_linesOf base_1 _ hr_7) si si sg ?cont11
  intro hv11
  simp only [go_sem, simprocAttr]
  try refine ⟨sd, ?_⟩
  refine Rg.callF (av := ?av12) (ok_R_linesOf a_2 _ hr_8) si si sg ?cont12
  intro hv12
  simp only [go_sem, simprocAttr]
  try refine ⟨sd, ?_⟩
  refine Rg.callF (av := ?av13) (ok_R_linesOf b_3 _ hr_9) si si sg ?cont13
  intro hv13
  simp only [go_sem, simprocAttr]
  first | apply hK10 | refine ⟨sd, hK10 _ _ ?_⟩
  obtain ⟨r_13, hr_13, hm⟩ := call_elim hm
  obtain ⟨r_14, hr_14, hm⟩ := call_elim hm
  refine Wp.seqD (plan := pl [(0, none), (1, none), (3, none), (4, none), (2, some [3, 4]), (5, some []), (6, none), (7, none)]) (by kernel_rfl) rfl (by kernel_rfl) fun K14 hK14 => ?_
  simp only [go_sem, simprocAttr]
  try refine ⟨sd, ?_⟩
  refine Dr.of_br (Br.callR (av := ?av15) (g := true) (o := ?o15) [] (fun hg => ok_R_Pairs r_7 r_8 _ hr_13) si si si si si sg sg sg sg ?cont15)
  simp only [go_sem, simprocAttr]
  try refine ⟨sd, ?_⟩
  refine Dr.of_br (Br.callR (av := ?av16) (g := true) (o := ?o16) [] (fun hg => ok_R_Pairs r_7 r_9 _ hr_14) si si si si si sg sg sg sg ?cont16)
  simp only [go_sem, simprocAttr]
  first | apply hK14 | refine ⟨sd, hK14 _ _ ?_⟩
  refine qS ?_
  refine qS ?_
  refine qS ?_
  refine qS ?_
  refine Wp.seqW fun K21 hK21 hW21 => ?_
  obtain ⟨k_51, hk_51, hm⟩ := jp_elim hm
  have hcut21 : ∀ s, k_51 s = some z → K21 [(10, .ptr 0 0), (11, .ptr 1 0), (12, .ptr 2 0), (15, .ptr 3 0), (16, .ptr 4 0), (20, .fn 55 [.ptr 0 0, .ptr 5 0, .ptr 1 0, .ptr 6 0, .ptr 2 0, .ptr 7 0, .ptr 3 0, .ptr 4 0])] [.cells 31 [.p (.l (List.map ecS r_7))], .cells 31 [.p (.l (List.map ecS r_8))], .cells 31 [.p (.l (List.map ecS r_9))], .cells 9 [.p (.s s.1)], .cells 3 [.p (.i .i64 s.2.1)], .cells 3 [.p (.i .i64 s.2.2.1)], .cells 3 [.p (.i .i64 s.2.2.2.1)], .cells 3 [.p (.i .i64 s.2.2.2.2)]] := by
   intro s hs
   have hm := hk_51 _ hs
   clear hs
   obtain ⟨o3_0_46, o4_0_47, o5_0_48, o6_0_49, o7_0_50⟩ := s
   try dsimp only at hm
   try dsimp only
   refine hK21 _ _ ?_
   obtain ⟨r_52, hr_52, hm⟩ := call_elim hm
   refine Wp.seqR fun K22 hK22 => ?_
   simp only [go_sem, simprocAttr]
   try refine ⟨sd, ?_⟩
   refine Rg.callO (av := ?av23) [0, 5, 1, 6, 2, 7, 3, 4] (ok_R_MergeTexts_1_i1 (r_7.length : Int) (r_8.length : Int) (r_9.length : Int) r_7 o5_0_48 r_8 o6_0_49 r_9 o7_0_50 o3_0_46 o4_0_47 _ hr_52) si si si sg sg ?cont23
   rintro _ _ ⟨rfl, rfl⟩ hv23
   simp only [go_sem, simprocAttr]
   first | apply hK22 | refine ⟨sd, hK22 _ _ ?_⟩
   refine Wp.seqW fun K24 hK24 hW24 => ?_
   refine qS ?_
   refine cM hm (fun hc26 hm => ?_) (fun hc26 hm => ?_)
   ·refine qS ?_
    refine Wp.ret ?_
    refine retQ_ret ?_
    cases hm
    exact fse3
   ·refine Wp.skip ?_
    refine hK24 _ _ ?_
    refine Wp.seqD (plan := pl [(0, none), (1, none), (2, none), (3, none), (4, none)]) (by kernel_rfl) rfl (by kernel_rfl) fun K28 hK28 => ?_
    simp only [go_sem, simprocAttr]
    first | apply hK28 | refine ⟨sd, hK28 _ _ ?_⟩
    refine Wp.ret ?_
    refine retQ_ret ?_
    cases hm
    exact fse3
  clear hK21 hk_51
  refine qS ?_
  refine Wp.block ?_
  obtain ⟨k_72, hk_72, hm⟩ := forL_cont hm
  refine Wp.fact 48 fun hl_75 => ?_
  replace hl_75 : r_13.length ≤ 274877906944 := by
   simp only [go_sem, simprocAttr, List.length_map] at hl_75
   omega
  refine Wp.forL (fun i_74 s => [(10, .ptr 0 0), (11, .ptr 1 0), (12, .ptr 2 0), (14, .p (.l (List.map enc_Arr2_Int r_14))), (15, .ptr 3 0), (16, .ptr 4 0), (17, .ptr 5 0), (18, .ptr 6 0), (19, .ptr 7 0), (20, .fn 55 [.ptr 0 0, .ptr 5 0, .ptr 1 0, .ptr 6 0, .ptr 2 0, .ptr 7 0, .ptr 3 0, .ptr 4 0]), (48, .p (.l (List.map enc_Arr2_Int r_13))), (49, .p (.i .i64 (r_13.length : Int))), (50, .p (.i .i64 (i_74 : Int)))]) (fun i_74 s => [.cells 31 [.p (.l (List.map ecS r_7))], .cells 31 [.p (.l (List.map ecS r_8))], .cells 31 [.p (.l (List.map ecS r_9))], .cells 9 [.p (.s s.1)], .cells 3 [.p (.i .i64 s.2.1)], .cells 3 [.p (.i .i64 s.2.2.1)], .cells 3 [.p (.i .i64 s.2.2.2.1)], .cells 3 [.p (.i .i64 s.2.2.2.2)]]) ?_ hm ?_
  ·
   exact fse3
  clear hm
  intro i_74 s hii_74 hm
  obtain ⟨o3_0_61, o4_0_62, o5_0_63, o6_0_64, o7_0_65⟩ := s
  try dsimp only at hm
  try dsimp only
  refine qS ?_
  refine Wp.seqW fun K31 hK31 hW31 => ?_
  refine Wp.cond rfl ⟨⟩ (fun hc31 => ?_) (fun hc31 => ?_)
  rotate_left
  ·refine Wp.exit ?_
   have hm := hk_72 _ (forL_end hm (ge_nat (by first | exact hc31 | simpa using hc31)))
   try dsimp only at hm
   refine hW21 _ _ _ _ ?_ (hcut21 (o3_0_61, o4_0_62, o5_0_63, o6_0_64, o7_0_65) hm)
   exact fse3
  have hlt31 := lt_nat (by first | exact hc31 | simpa using hc31)
  have hw31 := wrap_succ hlt31 hl_75
  obtain ⟨x_76, nx_73, hxx_76, hyx_76, hnx_73, hm⟩ := forL_step hm hlt31
  replace hxx_76 := hxx_76 enc_Arr2_Int
  refine Wp.skip ?_
  simp only [thenQ]
  refine hK31 _ _ ?_
  refine Wp.seqW fun K32 hK32 hW32 => ?_
  refine Wp.block ?_
  refine Wp.seqR fun K33 hK33 => ?_
  simp only [go_sem, simprocAttr, hw31, hxx_76]
  first | apply hK33 | refine ⟨sd, hK33 _ _ ?_⟩
  obtain ⟨r_77, hr_77, hm⟩ := call_elim hm
  refine Wp.seqR fun K34 hK34 => ?_
  simp only [go_sem, simprocAttr, hw31, hxx_76]
  try refine ⟨sd, ?_⟩
  refine Rg.callR (av := ?av35) (g := true) [8] (fun hg => ok_slices_IndexFunc_2_int_2_int_i1 r_14 x_76.a0 x_76.a1 _ hr_77) (by simp only [go_sem, simprocAttr, hw31, hxx_76]; exact Is.mk) (by simp only [go_sem, simprocAttr, hw31, hxx_76]; exact Is.mk) (by simp only [go_sem, simprocAttr, hw31, hxx_76]; exact Is.mk) (by simp only [go_sem, simprocAttr, hw31, hxx_76]; exact Is.mk) (by simp only [go_sem, simprocAttr, hw31, hxx_76]) (by simp only [go_sem, simprocAttr, hw31, hxx_76]) (by simp only [go_sem, simprocAttr, hw31, hxx_76]) ?cont35
  simp only [go_sem, simprocAttr, hw31, hxx_76]
  first | apply hK34 | refine ⟨sd, hK34 _ _ ?_⟩
  refine Wp.seqW fun K36 hK36 hW36 => ?_
  refine Wp.seqR fun K37 hK37 => ?_
  simp only [go_sem, simprocAttr, hw31, hxx_76]
  first | apply hK37 | refine ⟨sd, hK37 _ _ ?_⟩
  refine cM hm (fun hc38 hm => ?_) (fun hc38 hm => ?_)
  ·refine Wp.exit ?_
   refine hK32 _ _ ?_
   refine Wp.region fun K39 hK39 => ?_
   simp only [go_sem, simprocAttr, hw31, hxx_76]
   first | apply hK39 | refine ⟨sd, hK39 _ _ ?_⟩
   simp only [thenQ, blockQ, ↓reduceIte]
   refine ⟨(o3_0_61, o4_0_62, o5_0_63, o6_0_64, o7_0_65), hlt31, hnx_73 _ hm, ?_⟩
   simp only [go_sem, simprocAttr, hw31, hxx_76]
   try exact se3
  ·refine Wp.skip ?_
   refine hK36 _ _ ?_
   obtain ⟨x_78, hbx_78, hxx_78, hyx_78, hm⟩ := idx_elim hm
   replace hxx_78 : ∀ d, (List.map enc_Arr2_Int r_14).getD r_77.toNat d = enc_Arr2_Int x_78 := hxx_78 enc_Arr2_Int
   obtain ⟨r_79, hr_79, hm⟩ := call_elim hm
   refine Wp.seqD (plan := pl [(0, none), (1, none), (2, none), (3, none), (4, none), (5, none), (6, none), (7, none), (8, none), (9, none), (10, some [])]) (by kernel_rfl) rfl (by kernel_rfl) fun K40 hK40 => ?_
   simp only [go_sem, simprocAttr, hw31, hxx_76, hxx_78]
   try refine ⟨sd, ?_⟩
   refine Dr.of_br (Br.callE (av := ?av41) (o := ?o41) [0, 5, 1, 6, 2, 7, 3, 4] (ok_R_MergeTexts_1_i1 x_76.a0 x_76.a1 x_78.a1 r_7 o5_0_63 r_8 o6_0_64 r_9 o7_0_65 o3_0_61 o4_0_62 _ hr_79) (by simp only [go_sem, simprocAttr, hw31, hxx_76, hxx_78]; exact Is.mk) (by simp only [go_sem, simprocAttr, hw31, hxx_76, hxx_78]; exact Is.mk) (by simp only [go_sem, simprocAttr, hw31, hxx_76, hxx_78]; exact Is.mk) (by simp only [go_sem, simprocAttr, hw31, hxx_76, hxx_78]; exact Is.mk) (by simp only [go_sem, simprocAttr, hw31, hxx_76, hxx_78]; exact Is.mk) (by simp only [go_sem, simprocAttr, hw31, hxx_76, hxx_78]) (by simp only [go_sem, simprocAttr, hw31, hxx_76, hxx_78]) (by simp only [go_sem, simprocAttr, hw31, hxx_76, hxx_78]) ?hag41 ?cont41)
   case hag41 => first | (simp only [go_sem, simprocAttr, hw31, hxx_76, hxx_78]; done) | (simp only [go_sem, simprocAttr, hw31, hxx_76, hxx_78]; exact sd)
   simp only [go_sem, simprocAttr, hw31, hxx_76, hxx_78]
   first | apply hK40 | refine ⟨sd, hK40 _ _ ?_⟩
   obtain ⟨s_80, hbs_80, hxs_80, hys_80, hm⟩ := idx_elim hm
   replace hxs_80 : ∀ d, (List.map ecS r_7).getD x_76.a0.toNat d = ecS s_80 := hxs_80 ecS
   obtain ⟨c_81, hm⟩ := chk_elim hm
   refine Wp.seqD (plan := pl [(0, none), (1, none), (2, none), (3, none), (4, none), (5, none), (6, none), (7, some [])]) (by kernel_rfl) rfl (by kernel_rfl) fun K42 hK42 => ?_
   simp only [go_sem, simprocAttr, hw31, hxx_76, hxx_78, hxs_80]
   first | apply hK42 | refine ⟨by first | exact sd | ((repeat' apply And.intro) <;> first | assumption | omega | (simp only [List.length_append, List.length_map, List.length_cons, List.length_nil, List.length_set, List.length_replicate] at c_81 ⊢; omega)), hK42 _ _ ?_⟩
   refine Wp.regD (plan := pl [(0, none), (1, none), (2, none), (3, none), (4, none), (5, none), (6, none), (7, none), (8, none), (9, none), (10, none), (11, none), (12, some [3, 4, 5, 6, 7, 8, 9, 10, 11]), (13, some [6, 7, 8, 9, 10, 11]), (14, some [])]) (by kernel_rfl) rfl (by kernel_rfl) fun K43 hK43 => ?_
   simp only [go_sem, simprocAttr, hw31, hxx_76, hxx_78, hxs_80]
   first | apply hK43 | refine ⟨sd, hK43 _ _ ?_⟩
   refine hK32 _ _ ?_
   refine Wp.region fun K44 hK44 => ?_
   simp only [go_sem, simprocAttr, hw31, hxx_76, hxx_78, hxs_80]
   first | apply hK44 | refine ⟨sd, hK44 _ _ ?_⟩
   simp only [thenQ, blockQ, ↓reduceIte]
   refine ⟨(r_79.1 ++ s_80, r_79.2, IntKind.i64.wrap (x_76.a0 + 1), IntKind.i64.wrap (x_76.a1 + 1), IntKind.i64.wrap (x_78.a1 + 1)), hlt31, hnx_73 _ hm, ?_⟩
   simp only [go_sem, simprocAttr, hw31, hxx_76, hxx_78, hxs_80]
   try exact se3
theorem ok_Law_LinesMatch (base_1 : Str) (a_2 : Str) (b_3 : Str) (z : Bool) (hm : Law_LinesMatch base_1 a_2 b_3 = some z) : Does Tryd.prog 3 [.p (.s base_1), .p (.s a_2), .p (.s b_3)] [] (fun r X => r = .p (.b z) ∧ X = []) := by
 unfold Law_LinesMatch at hm
 refine Does.of_wp 0 111 [.tmp 6] Tryd.func3 rfl (by decide) rfl rfl (Nat.le_of_ble_eq_true rfl) fun B => ?_
 refine qS ?_
 refine Wp.seqW fun K2 hK2 hW2 => ?_
 obtain ⟨r_4, hr_4, hm⟩ := call_elim hm
 refine Wp.seqR fun K3 hK3 => ?_
 simp only [go_sem, simprocAttr]
 try refine ⟨sd, ?_⟩
 refine Rg.callX (av := ?av4) (g := true) (fun hg => ok_Law_landed  _ hr_4) si si si sg si ?cont4
 intro hv4
 simp only [go_sem, simprocAttr]
 first | apply hK3 | refine ⟨sd, hK3 _ _ ?_⟩
 refine cM hm (fun hc5 hm => ?_) (fun hc5 hm => ?_)
 ·refine qS ?_
  refine Wp.ret ?_
  refine retQ_ret ?_
  cases hm
  exact fse2
 ·refine Wp.skip ?_
  refine hK2 _ _ ?_
  obtain ⟨r_5, hr_5, hm⟩ := call_elim hm
  obtain ⟨r_6, hr_6, hm⟩ := call_elim hm
  obtain ⟨r_7, hr_7, hm⟩ := call_elim hm
  refine Wp.seqR fun K7 hK7 => ?_
  simp only [go_sem, simprocAttr]
  try refine ⟨sd, ?_⟩
  refine Rg.callX (av := ?av8) (g := true) (fun hg => ok_Law_short base_1 _ hr_5) si si si sg si ?cont8
  intro hv8
  simp only [go_sem, simprocAttr]
  try refine ⟨sd, ?_⟩
  refine Rg.callX (av := ?av9) (g := true) (fun hg => ok_Law_short a_2 _ hr_6) si si si sg si ?cont9
  intro hv9
  simp only [go_sem, simprocAttr]
  try refine ⟨sd, ?_⟩
  refine Rg.callX (av := ?av10) (g := true) (fun hg => ok_Law_short b_3 _ hr_7) si si si sg si ?cont10
  intro hv10
  simp only [go_sem, simprocAttr]
  first | apply hK7 | refine ⟨sd, hK7 _ _ ?_⟩
  obtain ⟨r_8, hr_8, hm⟩ := call_elim hm
  refine Wp.seqR fun K11 hK11 => ?_
  simp only [go_sem, simprocAttr]
  try refine ⟨sd, ?_⟩
  refine Rg.callF (av := ?av12) (ok_delta_Lines r_5 r_6 _ hr_8) si si sg ?cont12
  intro hv12
  simp only [go_sem, simprocAttr]
  first | apply hK11 | refine ⟨sd, hK11 _ _ ?_⟩
  refine Wp.seqW fun K13 hK13 hW13 => ?_
  obtain ⟨r_9, hr_9, hr_9d, hm⟩ := callG_elim2 hm
  obtain ⟨r_10, hr_10, hr_10d, hm⟩ := callG_elim2 hm
  obtain ⟨r_11, hr_11, hr_11d, hm⟩ := callG_elim2 hm
  obtain ⟨r_12, hr_12, hm⟩ := callG_elim hm
  refine Wp.seqR fun K14 hK14 => ?_
  simp only [go_sem, simprocAttr]
  try refine ⟨sd, ?_⟩
  refine Rg.callGO (av := ?av15) (g := !(!decide (r_8.2 = 0))) [] (fun hg => ok_Law_lines r_5 _ (hr_9 hg)) (fun hg => by obtain rfl := hr_9d hg; rfl) si si si si sg sg ?cont15
  simp only [go_sem, simprocAttr]
  try refine ⟨sd, ?_⟩
  refine Rg.callGO (av := ?av16) (g := !(!decide (r_8.2 = 0))) [] (fun hg => ok_Law_lines r_6 _ (hr_10 hg)) (fun hg => by obtain rfl := hr_10d hg; rfl) si si si si sg sg ?cont16
  simp only [go_sem, simprocAttr]
  try refine ⟨sd, ?_⟩
  refine Rg.callGO (av := ?av17) (g := !(!decide (r_8.2 = 0))) [] (fun hg => ok_R_Pairs r_9 r_10 _ (hr_11 hg)) (fun hg => by obtain rfl := hr_11d hg; rfl) si si si si sg sg ?cont17
  simp only [go_sem, simprocAttr]
  try refine ⟨sd, ?_⟩
  refine Rg.callX (av := ?av18) (g := !(!decide (r_8.2 = 0))) (fun hg => ok_slices_Equal_2_int_2_int r_8.1 r_11 _ (hr_12 hg)) si si si sg si ?cont18
  intro hv18
  simp only [go_sem, simprocAttr]
  first | apply hK14 | refine ⟨sd, hK14 _ _ ?_⟩
  refine cM hm (fun hc19 hm => ?_) (fun hc19 hm => ?_)
  ·refine qS ?_
   refine Wp.ret ?_
   refine retQ_ret ?_
   cases hm
   exact fse3
  ·refine Wp.skip ?_
   refine hK13 _ _ ?_
   obtain ⟨r_13, hr_13, hm⟩ := call_elim hm
   refine Wp.seqR fun K21 hK21 => ?_
   simp only [go_sem, simprocAttr]
   try refine ⟨sd, ?_⟩
   refine Rg.callX (av := ?av22) (g := true) (fun hg => ok_delta_Merge r_5 r_6 r_7 _ hr_13) si si si sg si ?cont22
   intro hv22
   simp only [go_sem, simprocAttr]
   first | apply hK21 | refine ⟨sd, hK21 _ _ ?_⟩
   obtain ⟨r_14, hr_14, hm⟩ := call_elim hm
   refine Wp.seqR fun K23 hK23 => ?_
   simp only [go_sem, simprocAttr]
   try refine ⟨sd, ?_⟩
   refine Rg.callX (av := ?av24) (g := true) (fun hg => ok_R_MergeTexts r_5 r_6 r_7 _ hr_14) si si si sg si ?cont24
   intro hv24
   simp only [go_sem, simprocAttr]
   first | apply hK23 | refine ⟨sd, hK23 _ _ ?_⟩
   refine Wp.seqW fun K25 hK25 hW25 => ?_
   obtain ⟨v_15, hv_16, hm⟩ := letv_elim hm
   refine Wp.seqR fun K26 hK26 => ?_
   simp only [go_sem, simprocAttr, hv_16]
   first | apply hK26 | refine ⟨sd, hK26 _ _ ?_⟩
   refine cM hm (fun hc27 hm => ?_) (fun hc27 hm => ?_)
   ·refine Wp.seqR fun K28 hK28 => ?_
    simp only [go_sem, simprocAttr, hv_16]
    first | apply hK28 | refine ⟨sd, hK28 _ _ ?_⟩
    refine Wp.ret ?_
    refine retQ_ret ?_
    cases hm
    simp only [go_sem, simprocAttr, hv_16]
    try exact se3
   ·refine Wp.skip ?_
    refine hK25 _ _ ?_
    obtain ⟨r_17, hr_17, hm⟩ := call_elim hm
    refine Wp.seqR fun K29 hK29 => ?_
    simp only [go_sem, simprocAttr, hv_16]
    try refine ⟨sd, ?_⟩
    refine Rg.callX (av := ?av30) (g := true) (fun hg => ok_delta_Merge r_5 r_5 r_7 _ hr_17) (by simp only [go_sem, simprocAttr, hv_16]; exact Is.mk) (by simp only [go_sem, simprocAttr, hv_16]; exact Is.mk) (by simp only [go_sem, simprocAttr, hv_16]; exact Is.mk) (by simp only [go_sem, simprocAttr, hv_16]) (by simp only [go_sem, simprocAttr, hv_16]; exact Is.mk) ?cont30
    intro hv30
    simp only [go_sem, simprocAttr, hv_16]
    first | apply hK29 | refine ⟨sd, hK29 _ _ ?_⟩
    obtain ⟨r_18, hr_18, hm⟩ := call_elim hm
    refine Wp.seqR fun K31 hK31 => ?_
    simp only [go_sem, simprocAttr, hv_16]
    try refine ⟨sd, ?_⟩
    refine Rg.callX (av := ?av32) (g := true) (fun hg => ok_delta_Merge r_5 r_6 r_5 _ hr_18) (by simp only [go_sem, simprocAttr, hv_16]; exact Is.mk) (by simp only [go_sem, simprocAttr, hv_16]; exact Is.mk) (by simp only [go_sem, simprocAttr, hv_16]; exact Is.mk) (by simp only [go_sem, simprocAttr, hv_16]) (by simp only [go_sem, simprocAttr, hv_16]; exact Is.mk) ?cont32
    intro hv32
    simp only [go_sem, simprocAttr, hv_16]
    first | apply hK31 | refine ⟨sd, hK31 _ _ ?_⟩
    obtain ⟨v_19, hv_20, hm⟩ := letv_elim hm
    refine Wp.seqR fun K33 hK33 => ?_
    simp only [go_sem, simprocAttr, hv_16, hv_20]
    first | apply hK33 | refine ⟨sd, hK33 _ _ ?_⟩
    refine Wp.ret ?_
    refine retQ_ret ?_
    cases hm
    simp only [go_sem, simprocAttr, hv_16, hv_20]
    try exact se3
end Go.Proofs.YtkekfenkeeiigaaDoor
