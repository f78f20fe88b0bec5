/- That the code does what the models say (part 3). -/
import Derived.Test.YtkekfenkeeiigaaDoorLbWk0
import Derived.Test.YtkekfenkeeiigaaDoorLbWk1
import Derived.Test.YtkekfenkeeiigaaDoorLbWk2
set_option linter.unusedSimpArgs false
set_option linter.unusedVariables false
open Go.Proofs Go.Shelf
namespace Go.Proofs.YtkekfenkeeiigaaDoor
open Go.Vc Go.Md
set_option maxRecDepth 100000
set_option maxHeartbeats 4000000
theorem ok_strings_Join (elems_1 : List Str) (sep_2 : Str) (z : Str) (hm : strings_Join elems_1 sep_2 = some z) : Does Tryd.prog 49 [.p (.l (List.map ecS elems_1)), .p (.s sep_2)] [] (fun r X => r = .p (.s z) ∧ X = []) := by
 unfold strings_Join at hm
 refine Does.of_wp 0 75 [.tmp 4] Tryd.func49 rfl (by decide) rfl rfl (Nat.le_of_ble_eq_true rfl) fun B => ?_
 refine qS ?_
 refine Wp.seqW fun K2 hK2 hW2 => ?_
 refine qS ?_
 refine Wp.block ?_
 refine qS ?_
 refine cM hm (fun hc5 hm => ?_) (fun hc5 hm => ?_)
 ·refine qS ?_
  refine Wp.ret ?_
  refine retQ_ret ?_
  cases hm
  exact fse3
 ·refine qS ?_
  refine cM hm (fun hc8 hm => ?_) (fun hc8 hm => ?_)
  ·obtain ⟨s_3, hbs_3, hxs_3, hys_3, hm⟩ := idx_elim hm
   replace hxs_3 : ∀ d, (List.map ecS elems_1).getD 0 d = ecS s_3 := hxs_3 ecS
   refine Wp.seqR fun K9 hK9 => ?_
   simp only [go_sem, simprocAttr, hxs_3]
   first | apply hK9 | refine ⟨sd, hK9 _ _ ?_⟩
   refine Wp.ret ?_
   refine retQ_ret ?_
   cases hm
   simp only [go_sem, simprocAttr, hxs_3]
   try exact se3
  ·refine Wp.skip ?_
   refine hK2 _ _ ?_
   refine qS ?_
   refine Wp.seqW fun K11 hK11 hW11 => ?_
   obtain ⟨k_6, hk_6, hm⟩ := jp_elim hm
   have hcut11 : ∀ s, k_6 s = some z → K11 [(0, .p (.l (List.map ecS elems_1))), (1, .p (.s sep_2)), (5, .p (.i .i64 s))] [] := by
    intro n_5 hs
    have hm := hk_6 _ hs
    clear hs
    try dsimp only at hm
    try dsimp only
    refine hK11 _ _ ?_
    refine Wp.seqW fun K12 hK12 hW12 => ?_
    obtain ⟨k_16, hk_16, hm⟩ := jp_elim hm
    have hcut12 : ∀ s, k_16 s = some z → K12 [(0, .p (.l (List.map ecS elems_1))), (1, .p (.s sep_2)), (5, .p (.i .i64 s))] [] := by
     intro n_15 hs
     have hm := hk_16 _ hs
     clear hs
     try dsimp only at hm
     try dsimp only
     refine hK12 _ _ ?_
     refine qS ?_
     refine Wp.adoptB 0 5 rfl ?_
     simp only [go_sem, simprocAttr]
     obtain ⟨r_17, hr_17, hm⟩ := call_elim hm
     refine Wp.seqR fun K14 hK14 => ?_
     simp only [go_sem, simprocAttr]
     try refine ⟨sd, ?_⟩
     refine Rg.callO (av := ?av15) [0, 1] (ok_strings_Builder_Grow n_15 [] _ hr_17) si si si sg sg ?cont15
     rintro _ _ ⟨rfl, rfl⟩ hv15
     simp only [go_sem, simprocAttr]
     first | apply hK14 | refine ⟨sd, hK14 _ _ ?_⟩
     obtain ⟨s_18, hbs_18, hxs_18, hys_18, hm⟩ := idx_elim hm
     replace hxs_18 : ∀ d, (List.map ecS elems_1).getD 0 d = ecS s_18 := hxs_18 ecS
     obtain ⟨r_19, hr_19, hm⟩ := call_elim hm
     refine Wp.seqR fun K16 hK16 => ?_
     simp only [go_sem, simprocAttr, hxs_18]
     try refine ⟨sd, ?_⟩
     refine Rg.callO (av := ?av17) [0, 1] (ok_strings_Builder_WriteString_i1 s_18 [] _ hr_19) (by simp only [go_sem, simprocAttr, hxs_18]; exact Is.mk) (by simp only [go_sem, simprocAttr, hxs_18]; exact Is.mk) (by simp only [go_sem, simprocAttr, hxs_18]; exact Is.mk) (by simp only [go_sem, simprocAttr, hxs_18]) (by simp only [go_sem, simprocAttr, hxs_18]) ?cont17
     rintro _ _ ⟨rfl, rfl⟩ hv17
     simp only [go_sem, simprocAttr, hxs_18]
     first | apply hK16 | refine ⟨sd, hK16 _ _ ?_⟩
     refine Wp.seqW fun K18 hK18 hW18 => ?_
     obtain ⟨k_38, hk_38, hm⟩ := jp_elim hm
     have hcut18 : ∀ s, k_38 s = some z → K18 [(8, .ptr 0 0)] [.cells 81 [.np 0, .buf 1], .sb 5 s] := by
      intro o1_37 hs
      have hm := hk_38 _ hs
      clear hs
      try dsimp only at hm
      try dsimp only
      refine hK18 _ _ ?_
      obtain ⟨r_39, hr_39, hm⟩ := call_elim hm
      refine Wp.seqR fun K19 hK19 => ?_
      simp only [go_sem, simprocAttr, hxs_18]
      try refine ⟨sd, ?_⟩
      refine Rg.callO (av := ?av20) [0, 1] (ok_strings_Builder_String_i1 o1_37 _ hr_39) (by simp only [go_sem, simprocAttr, hxs_18]; exact Is.mk) (by simp only [go_sem, simprocAttr, hxs_18]; exact Is.mk) (by simp only [go_sem, simprocAttr, hxs_18]; exact Is.mk) (by simp only [go_sem, simprocAttr, hxs_18]) (by simp only [go_sem, simprocAttr, hxs_18]) ?cont20
      rintro _ _ ⟨rfl, rfl⟩ hv20
      simp only [go_sem, simprocAttr, hxs_18]
      first | apply hK19 | refine ⟨sd, hK19 _ _ ?_⟩
      refine Wp.ret ?_
      refine retQ_ret ?_
      cases hm
      simp only [go_sem, simprocAttr, hxs_18]
      try exact se3
     clear hK18 hk_38
     obtain ⟨c_40, hm⟩ := chk_elim hm
     refine Wp.seqR fun K21 hK21 => ?_
     simp only [go_sem, simprocAttr, hxs_18]
     first | apply hK21 | refine ⟨by first | exact sd | ((repeat' apply And.intro) <;> first | assumption | omega | (simp only [List.length_append, List.length_map, List.length_cons, List.length_nil, List.length_set, List.length_replicate] at c_40 ⊢; omega)), hK21 _ _ ?_⟩
     refine Wp.block ?_
     obtain ⟨k_50, hk_50, hm⟩ := forL_cont hm
     refine Wp.fact 63 fun hl_53 => ?_
     replace hl_53 : (List.drop 1 elems_1).length ≤ 274877906944 := by
      simp only [go_sem, simprocAttr, List.length_map] at hl_53
      omega
     refine Wp.forL (fun i_52 s => [(1, .p (.s sep_2)), (8, .ptr 0 0), (63, .p (.l (List.map ecS (List.drop 1 elems_1)))), (64, .p (.i .i64 ((List.drop 1 elems_1).length : Int))), (65, .p (.i .i64 (i_52 : Int)))]) (fun i_52 s => [.cells 81 [.np 0, .buf 1], .sb 5 s]) ?_ hm ?_
     ·
      simp only [go_sem, simprocAttr, hxs_18]
      try exact se3
     clear hm
     intro i_52 o1_46 hii_52 hm
     try dsimp only at hm
     try dsimp only
     refine Wp.seqR fun K22 hK22 => ?_
     simp only [go_sem, simprocAttr, hxs_18]
     first | apply hK22 | refine ⟨sd, hK22 _ _ ?_⟩
     refine Wp.seqW fun K23 hK23 hW23 => ?_
     refine Wp.cond rfl ⟨⟩ (fun hc23 => ?_) (fun hc23 => ?_)
     rotate_left
     ·refine Wp.exit ?_
      have hm := hk_50 _ (forL_end hm (ge_nat (by first | exact hc23 | simpa using hc23)))
      try dsimp only at hm
      refine hW18 _ _ _ _ ?_ (hcut18 o1_46 hm)
      simp only [go_sem, simprocAttr, hxs_18]
      try exact se3
     have hlt23 := lt_nat (by first | exact hc23 | simpa using hc23)
     have hw23 := wrap_succ hlt23 hl_53
     obtain ⟨s_54, nx_51, hxs_54, hys_54, hnx_51, hm⟩ := forL_step hm hlt23
     replace hxs_54 := hxs_54 ecS
     refine Wp.skip ?_
     simp only [thenQ]
     refine hK23 _ _ ?_
     refine Wp.seqW fun K24 hK24 hW24 => ?_
     refine Wp.block ?_
     refine Wp.seqR fun K25 hK25 => ?_
     simp only [go_sem, simprocAttr, hxs_18, hw23, hxs_54]
     first | apply hK25 | refine ⟨sd, hK25 _ _ ?_⟩
     obtain ⟨r_55, hr_55, hm⟩ := call_elim hm
     refine Wp.seqR fun K26 hK26 => ?_
     simp only [go_sem, simprocAttr, hxs_18, hw23, hxs_54]
     try refine ⟨sd, ?_⟩
     refine Rg.callO (av := ?av27) [0, 1] (ok_strings_Builder_WriteString_i1 sep_2 o1_46 _ hr_55) (by simp only [go_sem, simprocAttr, hxs_18, hw23, hxs_54]; exact Is.mk) (by simp only [go_sem, simprocAttr, hxs_18, hw23, hxs_54]; exact Is.mk) (by simp only [go_sem, simprocAttr, hxs_18, hw23, hxs_54]; exact Is.mk) (by simp only [go_sem, simprocAttr, hxs_18, hw23, hxs_54]) (by simp only [go_sem, simprocAttr, hxs_18, hw23, hxs_54]) ?cont27
     rintro _ _ ⟨rfl, rfl⟩ hv27
     simp only [go_sem, simprocAttr, hxs_18, hw23, hxs_54]
     first | apply hK26 | refine ⟨sd, hK26 _ _ ?_⟩
     obtain ⟨r_56, hr_56, hm⟩ := call_elim hm
     refine Wp.region fun K28 hK28 => ?_
     simp only [go_sem, simprocAttr, hxs_18, hw23, hxs_54]
     try refine ⟨sd, ?_⟩
     refine Rg.callO (av := ?av29) [0, 1] (ok_strings_Builder_WriteString_i1 s_54 r_55.2 _ hr_56) (by simp only [go_sem, simprocAttr, hxs_18, hw23, hxs_54]; exact Is.mk) (by simp only [go_sem, simprocAttr, hxs_18, hw23, hxs_54]; exact Is.mk) (by simp only [go_sem, simprocAttr, hxs_18, hw23, hxs_54]; exact Is.mk) (by simp only [go_sem, simprocAttr, hxs_18, hw23, hxs_54]) (by simp only [go_sem, simprocAttr, hxs_18, hw23, hxs_54]) ?cont29
     rintro _ _ ⟨rfl, rfl⟩ hv29
     simp only [go_sem, simprocAttr, hxs_18, hw23, hxs_54]
     first | apply hK28 | refine ⟨sd, hK28 _ _ ?_⟩
     refine hK24 _ _ ?_
     refine Wp.region fun K30 hK30 => ?_
     simp only [go_sem, simprocAttr, hxs_18, hw23, hxs_54]
     first | apply hK30 | refine ⟨sd, hK30 _ _ ?_⟩
     simp only [thenQ, blockQ, ↓reduceIte]
     refine ⟨r_56.2, hlt23, hnx_51 _ hm, ?_⟩
     simp only [go_sem, simprocAttr, hxs_18, hw23, hxs_54]
     try exact se3
    clear hK12 hk_16
    refine qS ?_
    refine Wp.block ?_
    obtain ⟨k_60, hk_60, hm⟩ := forL_cont hm
    refine Wp.fact 0 fun hl_63 => ?_
    replace hl_63 : elems_1.length ≤ 274877906944 := by
     simp only [go_sem, simprocAttr, List.length_map] at hl_63
     omega
    refine Wp.forL (fun i_62 s => [(0, .p (.l (List.map ecS elems_1))), (1, .p (.s sep_2)), (5, .p (.i .i64 s)), (39, .p (.l (List.map ecS elems_1))), (40, .p (.i .i64 (elems_1.length : Int))), (41, .p (.i .i64 (i_62 : Int)))]) (fun i_62 s => []) ?_ hm ?_
    ·
     exact fse3
    clear hm
    intro i_62 n_57 hii_62 hm
    try dsimp only at hm
    try dsimp only
    refine qS ?_
    refine Wp.seqW fun K33 hK33 hW33 => ?_
    refine Wp.cond rfl ⟨⟩ (fun hc33 => ?_) (fun hc33 => ?_)
    rotate_left
    ·refine Wp.exit ?_
     have hm := hk_60 _ (forL_end hm (ge_nat (by first | exact hc33 | simpa using hc33)))
     try dsimp only at hm
     refine hW12 _ _ _ _ ?_ (hcut12 n_57 hm)
     exact fse3
    have hlt33 := lt_nat (by first | exact hc33 | simpa using hc33)
    have hw33 := wrap_succ hlt33 hl_63
    obtain ⟨s_64, nx_61, hxs_64, hys_64, hnx_61, hm⟩ := forL_step hm hlt33
    replace hxs_64 := hxs_64 ecS
    refine Wp.skip ?_
    simp only [thenQ]
    refine hK33 _ _ ?_
    refine Wp.seqW fun K34 hK34 hW34 => ?_
    refine Wp.block ?_
    refine Wp.seqR fun K35 hK35 => ?_
    simp only [go_sem, simprocAttr, hw33, hxs_64]
    first | apply hK35 | refine ⟨sd, hK35 _ _ ?_⟩
    refine Wp.seqW fun K36 hK36 hW36 => ?_
    refine Wp.seqR fun K37 hK37 => ?_
    simp only [go_sem, simprocAttr, hw33, hxs_64]
    first | apply hK37 | refine ⟨sd, hK37 _ _ ?_⟩
    refine cM hm (fun hc38 hm => ?_) (fun hc38 hm => ?_)
    ·cases hm
    ·refine Wp.skip ?_
     refine hK36 _ _ ?_
     refine Wp.region fun K39 hK39 => ?_
     simp only [go_sem, simprocAttr, hw33, hxs_64]
     first | apply hK39 | refine ⟨sd, hK39 _ _ ?_⟩
     refine hK34 _ _ ?_
     refine Wp.region fun K40 hK40 => ?_
     simp only [go_sem, simprocAttr, hw33, hxs_64]
     first | apply hK40 | refine ⟨sd, hK40 _ _ ?_⟩
     simp only [thenQ, blockQ, ↓reduceIte]
     refine ⟨IntKind.i64.wrap (n_57 + (s_64.length : Int)), hlt33, hnx_61 _ hm, ?_⟩
     simp only [go_sem, simprocAttr, hw33, hxs_64]
     try exact se3
   clear hK11 hk_6
   refine qS ?_
   refine cM hm (fun hc42 hm => ?_) (fun hc42 hm => ?_)
   ·refine Wp.seqW fun K43 hK43 hW43 => ?_
    obtain ⟨c_65, hm⟩ := chk_elim hm
    refine Wp.seqR fun K44 hK44 => ?_
    simp only [go_sem, simprocAttr]
    first | apply hK44 | refine ⟨by first | exact sd | ((repeat' apply And.intro) <;> first | assumption | omega | (simp only [List.length_append, List.length_map, List.length_cons, List.length_nil, List.length_set, List.length_replicate] at c_65 ⊢; omega)), hK44 _ _ ?_⟩
    refine cM hm (fun hc45 hm => ?_) (fun hc45 hm => ?_)
    ·cases hm
    ·refine Wp.skip ?_
     refine hK43 _ _ ?_
     refine qR ?_
     refine hW11 _ _ _ _ ?_ (hcut11 (IntKind.i64.wrap (0 + (IntKind.i64.wrap ((sep_2.length : Int) * (IntKind.i64.wrap ((elems_1.length : Int) - 1)))))) hm)
     exact fse3
   ·refine Wp.skip ?_
    refine hW11 _ _ _ _ ?_ (hcut11 0 hm)
    exact fse3
theorem ok_internal_stringslite_HasSuffix (s_1 : Str) (suffix_2 : Str) (z : Bool) (hm : internal_stringslite_HasSuffix s_1 suffix_2 = some z) : Does Tryd.prog 100 [.p (.s s_1), .p (.s suffix_2)] [] (fun r X => r = .p (.b z) ∧ X = []) := by
 unfold internal_stringslite_HasSuffix at hm
 refine Does.of_wp 0 21 [.tmp 4] Tryd.func100 rfl (by decide) rfl rfl (Nat.le_of_ble_eq_true rfl) fun B => ?_
 refine qS ?_
 obtain ⟨c_3, hm⟩ := chk_elim hm
 refine Wp.seqR fun K2 hK2 => ?_
 simp only [go_sem, simprocAttr]
 first | apply hK2 | refine ⟨by first | exact sd | ((repeat' apply And.intro) <;> first | assumption | omega | (simp only [List.length_append, List.length_map, List.length_cons, List.length_nil, List.length_set, List.length_replicate] at c_3 ⊢; omega)), hK2 _ _ ?_⟩
 refine Wp.ret ?_
 refine retQ_ret ?_
 cases hm
 exact fse3
theorem ok_strings_HasSuffix (s_1 : Str) (suffix_2 : Str) (z : Bool) (hm : strings_HasSuffix s_1 suffix_2 = some z) : Does Tryd.prog 57 [.p (.s s_1), .p (.s suffix_2)] [] (fun r X => r = .p (.b z) ∧ X = []) := by
 unfold strings_HasSuffix at hm
 refine Does.of_wp 0 8 [.tmp 4] Tryd.func57 rfl (by decide) rfl rfl (Nat.le_of_ble_eq_true rfl) fun B => ?_
 refine qS ?_
 obtain ⟨r_3, hr_3, hm⟩ := call_elim hm
 refine Wp.seqR fun K2 hK2 => ?_
 simp only [go_sem, simprocAttr]
 try refine ⟨sd, ?_⟩
 refine Rg.callX (av := ?av3) (g := true) (fun hg => ok_internal_stringslite_HasSuffix s_1 suffix_2 _ hr_3) si si si sg si ?cont3
 intro hv3
 simp only [go_sem, simprocAttr]
 first | apply hK2 | refine ⟨sd, hK2 _ _ ?_⟩
 refine Wp.ret ?_
 refine retQ_ret ?_
 cases hm
 exact fse3
theorem ok_delta_ended (s_1 : Str) (z : Str) (hm : delta_ended s_1 = some z) : Does Tryd.prog 98 [.p (.s s_1)] [] (fun r X => r = .p (.s z) ∧ X = []) := by
 unfold delta_ended at hm
 refine Does.of_wp 0 13 [.tmp 2] Tryd.func98 rfl (by decide) rfl rfl (Nat.le_of_ble_eq_true rfl) fun B => ?_
 refine qS ?_
 refine Wp.seqW fun K2 hK2 hW2 => ?_
 obtain ⟨r_2, hr_2, hm⟩ := callG_elim hm
 refine Wp.seqR fun K3 hK3 => ?_
 simp only [go_sem, simprocAttr]
 try refine ⟨sd, ?_⟩
 refine Rg.callX (av := ?av4) (g := !decide (s_1 = [])) (fun hg => ok_strings_HasSuffix s_1 ([10] : Str) _ (hr_2 hg)) si si si sg si ?cont4
 intro hv4
 simp only [go_sem, simprocAttr]
 first | apply hK3 | refine ⟨sd, hK3 _ _ ?_⟩
 refine cM hm (fun hc5 hm => ?_) (fun hc5 hm => ?_)
 ·obtain ⟨c_3, hm⟩ := chk_elim hm
  refine Wp.region fun K6 hK6 => ?_
  simp only [go_sem, simprocAttr]
  first | apply hK6 | refine ⟨by first | exact sd | ((repeat' apply And.intro) <;> first | assumption | omega | (simp only [List.length_append, List.length_map, List.length_cons, List.length_nil, List.length_set, List.length_replicate] at c_3 ⊢; omega)), hK6 _ _ ?_⟩
  refine hK2 _ _ ?_
  refine qS ?_
  refine Wp.ret ?_
  refine retQ_ret ?_
  cases hm
  exact fse3
 ·refine Wp.skip ?_
  refine hK2 _ _ ?_
  refine qS ?_
  refine Wp.ret ?_
  refine retQ_ret ?_
  cases hm
  exact fse3
theorem ok_delta_settle (base_1 : Str) (a_2 : Str) (b_3 : Str) (z : Str × Bool) (hm : delta_settle base_1 a_2 b_3 = some z) : Does Tryd.prog 48 [.p (.s base_1), .p (.s a_2), .p (.s b_3)] [] (fun r X => r = .tup [.p (.s z.1), .p (.b z.2)] ∧ X = []) := by
 unfold delta_settle at hm
 refine Does.of_wp 0 31 [.tmp 6, .tmp 7] Tryd.func48 rfl (by decide) rfl rfl (Nat.le_of_ble_eq_true rfl) fun B => ?_
 refine qS ?_
 refine Wp.seqW fun K2 hK2 hW2 => ?_
 refine Wp.block ?_
 refine qS ?_
 refine cM hm (fun hc4 hm => ?_) (fun hc4 hm => ?_)
 ·refine qS ?_
  refine Wp.ret ?_
  refine retQ_ret ?_
  cases hm
  exact fse3
 ·refine qS ?_
  refine cM hm (fun hc7 hm => ?_) (fun hc7 hm => ?_)
  ·refine qS ?_
   refine Wp.ret ?_
   refine retQ_ret ?_
   cases hm
   exact fse3
  ·refine Wp.skip ?_
   refine hK2 _ _ ?_
   obtain ⟨r_4, hr_4, hm⟩ := call_elim hm
   obtain ⟨c_5, hm⟩ := chk_elim hm
   obtain ⟨c_6, hm⟩ := chk_elim hm
   obtain ⟨r_7, hr_7, hm⟩ := call_elim hm
   obtain ⟨c_8, hm⟩ := chk_elim hm
   obtain ⟨c_9, hm⟩ := chk_elim hm
   refine Wp.seqR fun K9 hK9 => ?_
   simp only [go_sem, simprocAttr]
   try refine ⟨by first | exact sd | ((repeat' apply And.intro) <;> first | assumption | omega | (simp only [List.length_append, List.length_map, List.length_cons, List.length_nil, List.length_set, List.length_replicate] at c_5 c_6 c_8 c_9 ⊢; omega)), ?_⟩
   refine Rg.callX (av := ?av10) (g := true) (fun hg => ok_delta_ended a_2 _ hr_4) si si si sg si ?cont10
   intro hv10
   simp only [go_sem, simprocAttr]
   try refine ⟨by first | exact sd | ((repeat' apply And.intro) <;> first | assumption | omega | (simp only [List.length_append, List.length_map, List.length_cons, List.length_nil, List.length_set, List.length_replicate] at c_5 c_6 c_8 c_9 ⊢; omega)), ?_⟩
   refine Rg.callX (av := ?av11) (g := true) (fun hg => ok_delta_ended b_3 _ hr_7) si si si sg si ?cont11
   intro hv11
   simp only [go_sem, simprocAttr]
   first | apply hK9 | refine ⟨by first | exact sd | ((repeat' apply And.intro) <;> first | assumption | omega | (simp only [List.length_append, List.length_map, List.length_cons, List.length_nil, List.length_set, List.length_replicate] at c_5 c_6 c_8 c_9 ⊢; omega)), hK9 _ _ ?_⟩
   refine Wp.ret ?_
   refine retQ_ret ?_
   cases hm
   exact fse3
theorem ok_delta_Merge_1_i1 (toX_1 : Int) (toY_2 : Int) (toZ_3 : Int) (o0_0_4 : List Str) (o1_0_5 : Int) (o2_0_6 : List Str) (o3_0_7 : Int) (o4_0_8 : List Str) (o5_0_9 : Int) (o7_10 : Str) (o8_0_11 : Int) (z : Str × Int) (hm : delta_Merge_1_i1 toX_1 toY_2 toZ_3 o0_0_4 o1_0_5 o2_0_6 o3_0_7 o4_0_8 o5_0_9 o7_10 o8_0_11 = some z) : Does Tryd.prog 47 [.p (.i .i64 toX_1), .p (.i .i64 toY_2), .p (.i .i64 toZ_3), .ptr 0 0, .ptr 1 0, .ptr 2 0, .ptr 3 0, .ptr 4 0, .ptr 5 0, .ptr 6 0, .ptr 8 0] [.cells 31 [.p (.l (List.map ecS o0_0_4))], .cells 3 [.p (.i .i64 o1_0_5)], .cells 31 [.p (.l (List.map ecS o2_0_6))], .cells 3 [.p (.i .i64 o3_0_7)], .cells 31 [.p (.l (List.map ecS o4_0_8))], .cells 3 [.p (.i .i64 o5_0_9)], .cells 81 [.np 6, .buf 7], .sb 5 o7_10, .cells 3 [.p (.i .i64 o8_0_11)]] (fun r X => r = .tup [] ∧ X = [.cells 31 [.p (.l (List.map ecS o0_0_4))], .cells 3 [.p (.i .i64 o1_0_5)], .cells 31 [.p (.l (List.map ecS o2_0_6))], .cells 3 [.p (.i .i64 o3_0_7)], .cells 31 [.p (.l (List.map ecS o4_0_8))], .cells 3 [.p (.i .i64 o5_0_9)], .cells 81 [.np 6, .buf 7], .sb 5 z.1, .cells 3 [.p (.i .i64 z.2)]]) := by
 unfold delta_Merge_1_i1 at hm
 refine Does.of_wp 9 40 [] Tryd.func47 rfl (by decide) rfl rfl (Nat.le_of_ble_eq_true rfl) fun B => ?_
 obtain ⟨c_20, hm⟩ := chk_elim hm
 obtain ⟨r_21, hr_21, hm⟩ := call_elim hm
 obtain ⟨c_22, hm⟩ := chk_elim hm
 obtain ⟨r_23, hr_23, hm⟩ := call_elim hm
 obtain ⟨c_24, hm⟩ := chk_elim hm
 obtain ⟨r_25, hr_25, hm⟩ := call_elim hm
 obtain ⟨r_26, hr_26, hm⟩ := call_elim hm
 refine Wp.seqD (plan := pl [(0, none), (1, none), (2, none), (3, none), (4, none), (5, none), (6, none), (7, none), (8, none), (9, none), (10, none), (11, none), (12, none), (13, none), (14, none), (15, none), (16, none), (17, none), (18, none), (19, none), (20, none)]) (by kernel_rfl) rfl (by kernel_rfl) fun K1 hK1 => ?_
 simp only [go_sem, simprocAttr]
 try refine ⟨by first | exact sd | ((repeat' apply And.intro) <;> first | assumption | omega | (simp only [List.length_append, List.length_map, List.length_cons, List.length_nil, List.length_set, List.length_replicate] at c_20 c_22 c_24 ⊢; omega)), ?_⟩
 refine Dr.callF (av := ?av2) (g := true) (o := ?o2) (fun hg => ok_strings_Join (List.take (toX_1.toNat - o1_0_5.toNat) (List.drop o1_0_5.toNat o0_0_4)) [] _ hr_21) si si si si sg si ?cont2
 simp only [go_sem, simprocAttr]
 try refine ⟨by first | exact sd | ((repeat' apply And.intro) <;> first | assumption | omega | (simp only [List.length_append, List.length_map, List.length_cons, List.length_nil, List.length_set, List.length_replicate] at c_20 c_22 c_24 ⊢; omega)), ?_⟩
 refine Dr.callF (av := ?av3) (g := true) (o := ?o3) (fun hg => ok_strings_Join (List.take (toY_2.toNat - o3_0_7.toNat) (List.drop o3_0_7.toNat o2_0_6)) [] _ hr_23) si si si si sg si ?cont3
 simp only [go_sem, simprocAttr]
 try refine ⟨by first | exact sd | ((repeat' apply And.intro) <;> first | assumption | omega | (simp only [List.length_append, List.length_map, List.length_cons, List.length_nil, List.length_set, List.length_replicate] at c_20 c_22 c_24 ⊢; omega)), ?_⟩
 refine Dr.callF (av := ?av4) (g := true) (o := ?o4) (fun hg => ok_strings_Join (List.take (toZ_3.toNat - o5_0_9.toNat) (List.drop o5_0_9.toNat o4_0_8)) [] _ hr_25) si si si si sg si ?cont4
 simp only [go_sem, simprocAttr]
 try refine ⟨by first | exact sd | ((repeat' apply And.intro) <;> first | assumption | omega | (simp only [List.length_append, List.length_map, List.length_cons, List.length_nil, List.length_set, List.length_replicate] at c_20 c_22 c_24 ⊢; omega)), ?_⟩
 refine Dr.callF (av := ?av5) (g := true) (o := ?o5) (fun hg => ok_delta_settle r_21 r_23 r_25 _ hr_26) si si si si sg si ?cont5
 simp only [go_sem, simprocAttr]
 first | apply hK1 | refine ⟨by first | exact sd | ((repeat' apply And.intro) <;> first | assumption | omega | (simp only [List.length_append, List.length_map, List.length_cons, List.length_nil, List.length_set, List.length_replicate] at c_20 c_22 c_24 ⊢; omega)), hK1 _ _ ?_⟩
 obtain ⟨r_27, hr_27, hm⟩ := call_elim hm
 refine Wp.seqR fun K6 hK6 => ?_
 simp only [go_sem, simprocAttr]
 try refine ⟨sd, ?_⟩
 refine Rg.callO (av := ?av7) [6, 7] (ok_strings_Builder_WriteString_i1 r_26.1 o7_10 _ hr_27) si si si sg sg ?cont7
 rintro _ _ ⟨rfl, rfl⟩ hv7
 simp only [go_sem, simprocAttr]
 first | apply hK6 | refine ⟨sd, hK6 _ _ ?_⟩
 refine qS ?_
 refine cM hm (fun hc9 hm => ?_) (fun hc9 hm => ?_)
 ·refine qR ?_
  refine retQ_normal ?_
  cases hm
  exact fse3
 ·refine Wp.skip ?_
  refine retQ_normal ?_
  cases hm
  exact fse3
theorem ok_strings_Builder_Len_i1 (o1_1 : Str) (z : Int) (hm : strings_Builder_Len_i1 o1_1 = some z) : Does Tryd.prog 51 [.ptr 0 0] [.cells 81 [.np 0, .buf 1], .sb 5 o1_1] (fun r X => r = .p (.i .i64 z) ∧ X = [.cells 81 [.np 0, .buf 1], .sb 5 o1_1]) := by
 unfold strings_Builder_Len_i1 at hm
 refine Does.of_wp 2 8 [.tmp 2] Tryd.func51 rfl (by decide) rfl rfl (Nat.le_of_ble_eq_true rfl) fun B => ?_
 refine qS ?_
 refine qS ?_
 refine Wp.ret ?_
 refine retQ_ret ?_
 cases hm
 exact fse3
theorem ok_delta_Merge (base_1 : Str) (a_2 : Str) (b_3 : Str) (z : Str × Int × Int) (hm : delta_Merge base_1 a_2 b_3 = some z) : Does Tryd.prog 15 [.p (.s base_1), .p (.s a_2), .p (.s b_3)] [] (fun r X => r = .tup [.p (.s z.1), .p (.i .i64 z.2.1), .p (.i .i64 z.2.2)] ∧ X = []) := by
 unfold delta_Merge at hm
 refine Does.of_wp 0 115 [.tmp 6, .tmp 7, .tmp 8] Tryd.func15 rfl (by decide) rfl rfl (Nat.le_of_ble_eq_true rfl) fun B => ?_
 refine qS ?_
 obtain ⟨r_4, hr_4, hm⟩ := call_elim hm
 refine Wp.seqR fun K2 hK2 => ?_
 simp only [go_sem, simprocAttr]
 try refine ⟨sd, ?_⟩
 refine Rg.callF (av := ?av3) (ok_delta_Lines base_1 a_2 _ hr_4) si si sg ?cont3
 intro hv3
 simp only [go_sem, simprocAttr]
 first | apply hK2 | refine ⟨sd, hK2 _ _ ?_⟩
 refine Wp.seqW fun K4 hK4 hW4 => ?_
 refine qS ?_
 refine cM hm (fun hc6 hm => ?_) (fun hc6 hm => ?_)
 ·refine qS ?_
  refine Wp.ret ?_
  refine retQ_ret ?_
  cases hm
  exact fse3
 ·refine Wp.skip ?_
  refine hK4 _ _ ?_
  obtain ⟨r_5, hr_5, hm⟩ := call_elim hm
  refine Wp.seqR fun K8 hK8 => ?_
  simp only [go_sem, simprocAttr]
  try refine ⟨sd, ?_⟩
  refine Rg.callF (av := ?av9) (ok_delta_Lines base_1 b_3 _ hr_5) si si sg ?cont9
  intro hv9
  simp only [go_sem, simprocAttr]
  first | apply hK8 | refine ⟨sd, hK8 _ _ ?_⟩
  refine Wp.seqW fun K10 hK10 hW10 => ?_
  refine qS ?_
  refine cM hm (fun hc12 hm => ?_) (fun hc12 hm => ?_)
  ·refine qS ?_
   refine Wp.ret ?_
   refine retQ_ret ?_
   cases hm
   exact fse3
  ·refine Wp.skip ?_
   refine hK10 _ _ ?_
   obtain ⟨r_6, hr_6, hm⟩ := call_elim hm
   obtain ⟨r_7, hr_7, hm⟩ := call_elim hm
   obtain ⟨r_8, hr_8, hm⟩ := call_elim hm
   refine Wp.seqR fun K14 hK14 => ?_
   simp only [go_sem, simprocAttr]
   try refine ⟨sd, ?_⟩
   refine Rg.callF (av := ?av15) (ok_delta_linesOf base_1 _ hr_6) si si sg ?cont15
   intro hv15
   simp only [go_sem, simprocAttr]
   try refine ⟨sd, ?_⟩
   refine Rg.callF (av := ?av16) (ok_delta_linesOf a_2 _ hr_7) si si sg ?cont16
   intro hv16
   simp only [go_sem, simprocAttr]
   try refine ⟨sd, ?_⟩
   refine Rg.callF (av := ?av17) (ok_delta_linesOf b_3 _ hr_8) si si sg ?cont17
   intro hv17
   simp only [go_sem, simprocAttr]
   first | apply hK14 | refine ⟨sd, hK14 _ _ ?_⟩
   obtain ⟨r_12, hr_12, hm⟩ := call_elim hm
   obtain ⟨r_13, hr_13, hm⟩ := call_elim hm
   refine Wp.seqD (plan := pl [(0, none), (1, none), (2, none), (4, none), (5, none), (6, none), (3, some [4, 5, 6]), (7, some []), (8, none), (9, none)]) (by kernel_rfl) rfl (by kernel_rfl) fun K18 hK18 => ?_
   simp only [go_sem, simprocAttr]
   try refine ⟨sd, ?_⟩
   refine Dr.of_br (Br.callR (av := ?av19) (g := true) (o := ?o19) [] (fun hg => ok_delta_places r_4.1 (r_6.length : Int) _ hr_12) si si si si si sg sg sg sg ?cont19)
   simp only [go_sem, simprocAttr]
   try refine ⟨sd, ?_⟩
   refine Dr.of_br (Br.callR (av := ?av20) (g := true) (o := ?o20) [] (fun hg => ok_delta_places r_5.1 (r_6.length : Int) _ hr_13) si si si si si sg sg sg sg ?cont20)
   simp only [go_sem, simprocAttr]
   first | apply hK18 | refine ⟨sd, hK18 _ _ ?_⟩
   refine qS ?_
   refine Wp.adoptB 3 5 rfl ?_
   simp only [go_sem, simprocAttr]
   refine qS ?_
   refine qS ?_
   refine qS ?_
   refine Wp.seqW fun K25 hK25 hW25 => ?_
   obtain ⟨k_51, hk_51, hm⟩ := jp_elim hm
   have hcut25 : ∀ s, k_51 s = some z → K25 [(12, .ptr 0 0), (13, .ptr 1 0), (14, .ptr 2 0), (17, .ptr 3 0), (18, .ptr 5 0), (22, .fn 47 [.ptr 0 0, .ptr 6 0, .ptr 1 0, .ptr 7 0, .ptr 2 0, .ptr 8 0, .ptr 3 0, .ptr 5 0])] [.cells 31 [.p (.l (List.map ecS r_6))], .cells 31 [.p (.l (List.map ecS r_7))], .cells 31 [.p (.l (List.map ecS r_8))], .cells 81 [.np 3, .buf 4], .sb 5 s.1, .cells 3 [.p (.i .i64 s.2.1)], .cells 3 [.p (.i .i64 s.2.2.1)], .cells 3 [.p (.i .i64 s.2.2.2.1)], .cells 3 [.p (.i .i64 s.2.2.2.2)]] := by
    intro s hs
    have hm := hk_51 _ hs
    clear hs
    obtain ⟨o4_46, o5_0_47, o6_0_48, o7_0_49, o8_0_50⟩ := s
    try dsimp only at hm
    try dsimp only
    refine hK25 _ _ ?_
    obtain ⟨r_52, hr_52, hm⟩ := call_elim hm
    refine Wp.seqR fun K26 hK26 => ?_
    simp only [go_sem, simprocAttr]
    try refine ⟨sd, ?_⟩
    refine Rg.callO (av := ?av27) [0, 6, 1, 7, 2, 8, 3, 4, 5] (ok_delta_Merge_1_i1 (r_6.length : Int) (r_7.length : Int) (r_8.length : Int) r_6 o6_0_48 r_7 o7_0_49 r_8 o8_0_50 o4_46 o5_0_47 _ hr_52) si si si sg sg ?cont27
    rintro _ _ ⟨rfl, rfl⟩ hv27
    simp only [go_sem, simprocAttr]
    first | apply hK26 | refine ⟨sd, hK26 _ _ ?_⟩
    refine Wp.seqW fun K28 hK28 hW28 => ?_
    obtain ⟨r_53, hr_53, hm⟩ := call_elim hm
    refine Wp.seqR fun K29 hK29 => ?_
    simp only [go_sem, simprocAttr]
    try refine ⟨sd, ?_⟩
    refine Rg.callO (av := ?av30) [3, 4] (ok_strings_Builder_Len_i1 r_52.1 _ hr_53) si si si sg sg ?cont30
    rintro _ _ ⟨rfl, rfl⟩ hv30
    simp only [go_sem, simprocAttr]
    first | apply hK29 | refine ⟨sd, hK29 _ _ ?_⟩
    refine cM hm (fun hc31 hm => ?_) (fun hc31 hm => ?_)
    ·refine qS ?_
     refine Wp.ret ?_
     refine retQ_ret ?_
     cases hm
     exact fse3
    ·refine Wp.skip ?_
     refine hK28 _ _ ?_
     obtain ⟨r_55, hr_55, hm⟩ := call_elim hm
     refine Wp.seqD (plan := pl [(1, none), (0, some [1]), (2, none), (3, none), (4, none)]) (by kernel_rfl) rfl (by kernel_rfl) fun K33 hK33 => ?_
     simp only [go_sem, simprocAttr]
     try refine ⟨sd, ?_⟩
     refine Dr.of_br (Br.callS (av := ?av34) (o := ?o34) 4 [3, 4] (ok_strings_Builder_String_i1 r_52.1 _ hr_55) si si si si si sg sg sg sg ?cont34)
     simp only [go_sem, simprocAttr]
     first | apply hK33 | refine ⟨sd, hK33 _ _ ?_⟩
     refine Wp.ret ?_
     refine retQ_ret ?_
     cases hm
     exact fse3
   clear hK25 hk_51
   refine qS ?_
   refine Wp.block ?_
   obtain ⟨k_77, hk_77, hm⟩ := loopN_cont hm
   refine Wp.loopN (fun s => [(12, .ptr 0 0), (13, .ptr 1 0), (14, .ptr 2 0), (15, .p (.l (List.map ecI_i64 r_12))), (16, .p (.l (List.map ecI_i64 r_13))), (17, .ptr 3 0), (18, .ptr 5 0), (19, .ptr 6 0), (20, .ptr 7 0), (21, .ptr 8 0), (22, .fn 47 [.ptr 0 0, .ptr 6 0, .ptr 1 0, .ptr 7 0, .ptr 2 0, .ptr 8 0, .ptr 3 0, .ptr 5 0]), (58, .p (.i .i64 (r_6.length : Int))), (59, .p (.i .i64 s.1))]) (fun s => [.cells 31 [.p (.l (List.map ecS r_6))], .cells 31 [.p (.l (List.map ecS r_7))], .cells 31 [.p (.l (List.map ecS r_8))], .cells 81 [.np 3, .buf 4], .sb 5 s.2.1, .cells 3 [.p (.i .i64 s.2.2.1)], .cells 3 [.p (.i .i64 s.2.2.2.1)], .cells 3 [.p (.i .i64 s.2.2.2.2.1)], .cells 3 [.p (.i .i64 s.2.2.2.2.2)]]) ?_ hm ?_
   ·
    exact fse3
   clear hm
   intro s nx_78 hm
   obtain ⟨t59_64, o4_65, o5_0_66, o6_0_67, o7_0_68, o8_0_69⟩ := s
   try dsimp only at hm
   try dsimp only
   refine qS ?_
   refine Wp.seqW fun K37 hK37 hW37 => ?_
   refine cM hm (fun hc38 hm => ?_) (fun hc38 hm => ?_)
   ·refine Wp.skip ?_
    refine hK37 _ _ ?_
    refine Wp.seqW fun K39 hK39 hW39 => ?_
    refine Wp.block ?_
    refine qS ?_
    refine Wp.seqW fun K41 hK41 hW41 => ?_
    obtain ⟨n_79, hbn_79, hxn_79, hyn_79, hm⟩ := idx_elim hm
    replace hxn_79 : ∀ d, (List.map ecI_i64 r_12).getD t59_64.toNat d = ecI_i64 n_79 := hxn_79 ecI_i64
    obtain ⟨c_80, hm⟩ := chk_elim hm
    have hr_81 := getD_enc (l := r_13) (e := ecI_i64) (d := 0) (i := t59_64.toNat)
    simp only [ecI_i64, List.map_nil] at hr_81
    refine Wp.seqR fun K42 hK42 => ?_
    simp only [go_sem, simprocAttr, hxn_79, hr_81]
    first | apply hK42 | refine ⟨by first | exact sd | ((repeat' apply And.intro) <;> first | assumption | omega | (simp only [List.length_append, List.length_map, List.length_cons, List.length_nil, List.length_set, List.length_replicate] at c_80 ⊢; omega)), hK42 _ _ ?_⟩
    refine cM hm (fun hc43 hm => ?_) (fun hc43 hm => ?_)
    ·refine Wp.exit ?_
     refine hK39 _ _ ?_
     refine Wp.region fun K44 hK44 => ?_
     simp only [go_sem, simprocAttr, hxn_79]
     first | apply hK44 | refine ⟨sd, hK44 _ _ ?_⟩
     simp only [thenQ, blockQ, ↓reduceIte]
     refine ⟨(IntKind.i64.wrap (t59_64 + 1), o4_65, o5_0_66, o6_0_67, o7_0_68, o8_0_69), hm, ?_⟩
     simp only [go_sem, simprocAttr, hxn_79]
     try exact se3
    ·refine Wp.skip ?_
     refine hK41 _ _ ?_
     obtain ⟨n_82, hbn_82, hxn_82, hyn_82, hm⟩ := idx_elim hm
     replace hxn_82 : ∀ d, (List.map ecI_i64 r_13).getD t59_64.toNat d = ecI_i64 n_82 := hxn_82 ecI_i64
     obtain ⟨r_83, hr_83, hm⟩ := call_elim hm
     refine Wp.seqD (plan := pl [(0, none), (1, none), (2, none), (3, none), (4, none), (5, none), (6, none), (7, none), (8, none), (9, none), (10, some [])]) (by kernel_rfl) rfl (by kernel_rfl) fun K45 hK45 => ?_
     simp only [go_sem, simprocAttr, hxn_79, hxn_82]
     try refine ⟨sd, ?_⟩
     refine Dr.of_br (Br.callS (av := ?av46) (o := ?o46) 4 [0, 6, 1, 7, 2, 8, 3, 4, 5] (ok_delta_Merge_1_i1 t59_64 n_79 n_82 r_6 o6_0_67 r_7 o7_0_68 r_8 o8_0_69 o4_65 o5_0_66 _ hr_83) (by simp only [go_sem, simprocAttr, hxn_79, hxn_82]; exact Is.mk) (by simp only [go_sem, simprocAttr, hxn_79, hxn_82]; exact Is.mk) (by simp only [go_sem, simprocAttr, hxn_79, hxn_82]; exact Is.mk) (by simp only [go_sem, simprocAttr, hxn_79, hxn_82]; exact Is.mk) (by simp only [go_sem, simprocAttr, hxn_79, hxn_82]; exact Is.mk) (by simp only [go_sem, simprocAttr, hxn_79, hxn_82]) (by simp only [go_sem, simprocAttr, hxn_79, hxn_82]) (by simp only [go_sem, simprocAttr, hxn_79, hxn_82]) ?hag46 ?cont46)
     case hag46 => first | (simp only [go_sem, simprocAttr, hxn_79, hxn_82]; done) | (simp only [go_sem, simprocAttr, hxn_79, hxn_82]; exact sd)
     simp only [go_sem, simprocAttr, hxn_79, hxn_82]
     first | apply hK45 | refine ⟨sd, hK45 _ _ ?_⟩
     obtain ⟨s_84, hbs_84, hxs_84, hys_84, hm⟩ := idx_elim hm
     replace hxs_84 : ∀ d, (List.map ecS r_6).getD t59_64.toNat d = ecS s_84 := hxs_84 ecS
     obtain ⟨r_85, hr_85, hm⟩ := call_elim hm
     refine Wp.seqR fun K47 hK47 => ?_
     simp only [go_sem, simprocAttr, hxn_79, hxn_82, hxs_84]
     try refine ⟨sd, ?_⟩
     refine Rg.callO (av := ?av48) [3, 4] (ok_strings_Builder_WriteString_i1 s_84 r_83.1 _ hr_85) (by simp only [go_sem, simprocAttr, hxn_79, hxn_82, hxs_84]; exact Is.mk) (by simp only [go_sem, simprocAttr, hxn_79, hxn_82, hxs_84]; exact Is.mk) (by simp only [go_sem, simprocAttr, hxn_79, hxn_82, hxs_84]; exact Is.mk) (by simp only [go_sem, simprocAttr, hxn_79, hxn_82, hxs_84]) (by simp only [go_sem, simprocAttr, hxn_79, hxn_82, hxs_84]) ?cont48
     rintro _ _ ⟨rfl, rfl⟩ hv48
     simp only [go_sem, simprocAttr, hxn_79, hxn_82, hxs_84]
     first | apply hK47 | refine ⟨sd, hK47 _ _ ?_⟩
     refine Wp.regD (plan := pl [(0, none), (1, none), (2, none), (3, none), (4, none), (5, none), (6, none), (7, none), (8, none), (9, none), (10, none), (11, none), (12, some [2, 3, 4, 5, 6, 7, 8, 9, 10, 11]), (13, some [7, 8, 9, 10, 11]), (14, some [])]) (by kernel_rfl) rfl (by kernel_rfl) fun K49 hK49 => ?_
     simp only [go_sem, simprocAttr, hxn_79, hxn_82, hxs_84]
     first | apply hK49 | refine ⟨sd, hK49 _ _ ?_⟩
     refine hK39 _ _ ?_
     refine Wp.region fun K50 hK50 => ?_
     simp only [go_sem, simprocAttr, hxn_79, hxn_82, hxs_84]
     first | apply hK50 | refine ⟨sd, hK50 _ _ ?_⟩
     simp only [thenQ, blockQ, ↓reduceIte]
     refine ⟨(IntKind.i64.wrap (t59_64 + 1), r_85.2, r_83.2, IntKind.i64.wrap (t59_64 + 1), IntKind.i64.wrap (n_79 + 1), IntKind.i64.wrap (n_82 + 1)), hm, ?_⟩
     simp only [go_sem, simprocAttr, hxn_79, hxn_82, hxs_84]
     try exact se3
   ·refine Wp.exit ?_
    simp only [thenQ, blockQ, ↓reduceIte]
    have hm := hk_77 _ hm
    try dsimp only at hm
    refine hW25 _ _ _ _ ?_ (hcut25 (o4_65, o5_0_66, o6_0_67, o7_0_68, o8_0_69) hm)
    exact fse3
theorem ok_R_linesOf (s_1 : Str) (z : List Str) (hm : R_linesOf s_1 = some z) : Does Tryd.prog 54 [.p (.s s_1)] [] (fun r X => r = .p (.l (List.map ecS z)) ∧ X = []) := by
 unfold R_linesOf at hm
 refine Does.of_wp 0 19 [.tmp 2] Tryd.func54 rfl (by decide) rfl rfl (Nat.le_of_ble_eq_true rfl) fun B => ?_
 refine qS ?_
 obtain ⟨r_2, hr_2, hm⟩ := call_elim hm
 refine Wp.seqR fun K2 hK2 => ?_
 simp only [go_sem, simprocAttr]
 try refine ⟨sd, ?_⟩
 refine Rg.callF (av := ?av3) (ok_strings_SplitAfter s_1 ([10] : Str) _ hr_2) si si sg ?cont3
 intro hv3
 simp only [go_sem, simprocAttr]
 first | apply hK2 | refine ⟨sd, hK2 _ _ ?_⟩
 refine Wp.seqW fun K4 hK4 hW4 => ?_
 refine qS ?_
 obtain ⟨s_3, hbs_3, hxs_3, hys_3, hm⟩ := idx_elim hm
 replace hxs_3 : ∀ d, (List.map ecS r_2).getD ((IntKind.i64.wrap ((r_2.length : Int) - 1)).toNat) d = ecS s_3 := hxs_3 ecS
 refine Wp.seqR fun K6 hK6 => ?_
 simp only [go_sem, simprocAttr, hxs_3]
 first | apply hK6 | refine ⟨sd, hK6 _ _ ?_⟩
 refine cM hm (fun hc7 hm => ?_) (fun hc7 hm => ?_)
 ·obtain ⟨c_4, hm⟩ := chk_elim hm
  refine Wp.region fun K8 hK8 => ?_
  simp only [go_sem, simprocAttr, hxs_3]
  first | apply hK8 | refine ⟨by first | exact sd | ((repeat' apply And.intro) <;> first | assumption | omega | (simp only [List.length_append, List.length_map, List.length_cons, List.length_nil, List.length_set, List.length_replicate] at c_4 ⊢; omega)), hK8 _ _ ?_⟩
  refine hK4 _ _ ?_
  refine Wp.seqR fun K9 hK9 => ?_
  simp only [go_sem, simprocAttr, hxs_3]
  first | apply hK9 | refine ⟨sd, hK9 _ _ ?_⟩
  refine Wp.ret ?_
  refine retQ_ret ?_
  cases hm
  simp only [go_sem, simprocAttr, hxs_3]
  try exact se3
 ·refine Wp.skip ?_
  refine hK4 _ _ ?_
  refine Wp.seqR fun K10 hK10 => ?_
  simp only [go_sem, simprocAttr, hxs_3]
  first | apply hK10 | refine ⟨sd, hK10 _ _ ?_⟩
  refine Wp.ret ?_
  refine retQ_ret ?_
  cases hm
  simp only [go_sem, simprocAttr, hxs_3]
  try exact se3
theorem ok_R_LinesError (a_1 : Str) (b_2 : Str) (z : Int) (hm : R_LinesError a_1 b_2 = some z) : Does Tryd.prog 18 [.p (.s a_1), .p (.s b_2)] [] (fun r X => r = .p (.i .i64 z) ∧ X = []) := by
 unfold R_LinesError at hm
 refine Does.of_wp 0 25 [.tmp 4] Tryd.func18 rfl (by decide) rfl rfl (Nat.le_of_ble_eq_true rfl) fun B => ?_
 refine qS ?_
 refine Wp.seqW fun K2 hK2 hW2 => ?_
 obtain ⟨k_12, hk_12, hm⟩ := jp_elim hm
 have hcut2 : ∀ s, k_12 s = some z → K2 [] [] := by
  intro s hs
  have hm := hk_12 _ hs
  clear hs
  try dsimp only at hm
  try dsimp only
  refine hK2 _ _ ?_
  refine qS ?_
  refine Wp.ret ?_
  refine retQ_ret ?_
  cases hm
  exact fse3
 clear hK2 hk_12
 refine qS ?_
 refine Wp.block ?_
 obtain ⟨k_16, hk_16, hm⟩ := forL_cont hm
 refine Wp.fact 9 fun hl_19 => ?_
 replace hl_19 : [a_1, b_2].length ≤ 274877906944 := Nat.le_of_ble_eq_true rfl
 refine Wp.forL (fun i_18 s => [(9, .full (List.map ecS [a_1, b_2])), (10, .p (.i .i64 ([a_1, b_2].length : Int))), (11, .p (.i .i64 (i_18 : Int)))]) (fun i_18 s => []) ?_ hm ?_
 ·
  exact fse3
 clear hm
 intro i_18 s hii_18 hm
 try dsimp only at hm
 try dsimp only
 refine qS ?_
 refine Wp.seqW fun K6 hK6 hW6 => ?_
 refine Wp.cond rfl ⟨⟩ (fun hc6 => ?_) (fun hc6 => ?_)
 rotate_left
 ·refine Wp.exit ?_
  have hm := hk_16 _ (forL_end hm (ge_nat (by first | exact hc6 | simpa using hc6)))
  try dsimp only at hm
  refine hW2 _ _ _ _ ?_ (hcut2 () hm)
  exact fse3
 have hlt6 := lt_nat (by first | exact hc6 | simpa using hc6)
 have hw6 := wrap_succ hlt6 hl_19
 obtain ⟨s_20, nx_17, hxs_20, hys_20, hnx_17, hm⟩ := forL_step hm hlt6
 replace hxs_20 := hxs_20 ecS
 simp only [List.map_cons, List.map_nil, ecS] at hxs_20
 refine Wp.skip ?_
 simp only [thenQ]
 refine hK6 _ _ ?_
 refine Wp.seqW fun K7 hK7 hW7 => ?_
 refine Wp.block ?_
 refine Wp.seqR fun K8 hK8 => ?_
 simp only [go_sem, simprocAttr, hw6, hxs_20]
 first | apply hK8 | refine ⟨sd, hK8 _ _ ?_⟩
 obtain ⟨r_21, hr_21, hr_21d, hm⟩ := callG_elim2 hm
 refine Wp.seqR fun K9 hK9 => ?_
 simp only [go_sem, simprocAttr, hw6, hxs_20]
 try refine ⟨sd, ?_⟩
 refine Rg.callGO (av := ?av10) (g := !(decide (65536 < (s_20.length : Int)))) [] (fun hg => ok_R_linesOf s_20 _ (hr_21 hg)) (fun hg => by obtain rfl := hr_21d hg; rfl) (by simp only [go_sem, simprocAttr, hw6, hxs_20]; exact Is.mk) (by simp only [go_sem, simprocAttr, hw6, hxs_20]; exact Is.mk) (by simp only [go_sem, simprocAttr, hw6, hxs_20]; exact Is.mk) (by simp only [go_sem, simprocAttr, hw6, hxs_20]; exact Is.mk) (by simp only [go_sem, simprocAttr, hw6, hxs_20]) (by simp only [go_sem, simprocAttr, hw6, hxs_20]) ?cont10
 simp only [go_sem, simprocAttr, hw6, hxs_20]
 first | apply hK9 | refine ⟨sd, hK9 _ _ ?_⟩
 refine cM hm (fun hc11 hm => ?_) (fun hc11 hm => ?_)
 ·refine Wp.seqR fun K12 hK12 => ?_
  simp only [go_sem, simprocAttr, hw6, hxs_20]
  first | apply hK12 | refine ⟨sd, hK12 _ _ ?_⟩
  refine Wp.ret ?_
  refine retQ_ret ?_
  cases hm
  simp only [go_sem, simprocAttr, hw6, hxs_20]
  try exact se3
 ·refine Wp.skip ?_
  refine hK7 _ _ ?_
  refine Wp.region fun K13 hK13 => ?_
  simp only [go_sem, simprocAttr, hw6, hxs_20]
  first | apply hK13 | refine ⟨sd, hK13 _ _ ?_⟩
  simp only [thenQ, blockQ, ↓reduceIte]
  refine ⟨(), hlt6, hnx_17 _ hm, ?_⟩
  simp only [go_sem, simprocAttr, hw6, hxs_20]
  try exact se3
theorem ok_math_bits_Mul64 (x_1 : Int) (y_2 : Int) (z : Int × Int) (hm : math_bits_Mul64 x_1 y_2 = some z) : Does Tryd.prog 102 [.p (.i .u64 x_1), .p (.i .u64 y_2)] [] (fun r X => r = .tup [.p (.i .u64 z.1), .p (.i .u64 z.2)] ∧ X = []) := by
 unfold math_bits_Mul64 at hm
 refine Does.of_wp 0 51 [.tmp 4, .tmp 5] Tryd.func102 rfl (by decide) rfl rfl (Nat.le_of_ble_eq_true rfl) fun B => ?_
 refine qS ?_
 refine qS ?_
 refine qS ?_
 refine qS ?_
 refine qS ?_
 refine qS ?_
 refine qS ?_
 refine qS ?_
 refine qS ?_
 refine qS ?_
 refine qS ?_
 refine qS ?_
 refine Wp.ret ?_
 refine retQ_ret ?_
 cases hm
 exact fse3
theorem ok_math_bits_Mul (x_1 : Int) (y_2 : Int) (z : Int × Int) (hm : math_bits_Mul x_1 y_2 = some z) : Does Tryd.prog 60 [.p (.i .u64 x_1), .p (.i .u64 y_2)] [] (fun r X => r = .tup [.p (.i .u64 z.1), .p (.i .u64 z.2)] ∧ X = []) := by
 unfold math_bits_Mul at hm
 refine Does.of_wp 0 30 [.tmp 4, .tmp 5] Tryd.func60 rfl (by decide) rfl rfl (Nat.le_of_ble_eq_true rfl) fun B => ?_
 refine qS ?_
 refine Wp.seqW fun K2 hK2 hW2 => ?_
 refine Wp.cond rfl ⟨⟩ (fun hc3 => ?_) (fun hc3 => ?_)
 ·cases hc3
 refine Wp.skip ?_
 refine hK2 _ _ ?_
 obtain ⟨r_3, hr_3, hm⟩ := call_elim hm
 refine Wp.seqR fun K4 hK4 => ?_
 simp only [go_sem, simprocAttr]
 try refine ⟨sd, ?_⟩
 refine Rg.callX (av := ?av5) (g := true) (fun hg => ok_math_bits_Mul64 x_1 y_2 _ hr_3) si si si sg si ?cont5
 intro hv5
 simp only [go_sem, simprocAttr]
 first | apply hK4 | refine ⟨sd, hK4 _ _ ?_⟩
 refine qS ?_
 refine Wp.ret ?_
 refine retQ_ret ?_
 cases hm
 exact fse3
theorem ok_internal_stringslite_HasPrefix (s_1 : Str) (prefix_2 : Str) (z : Bool) (hm : internal_stringslite_HasPrefix s_1 prefix_2 = some z) : Does Tryd.prog 103 [.p (.s s_1), .p (.s prefix_2)] [] (fun r X => r = .p (.b z) ∧ X = []) := by
 unfold internal_stringslite_HasPrefix at hm
 refine Does.of_wp 0 18 [.tmp 4] Tryd.func103 rfl (by decide) rfl rfl (Nat.le_of_ble_eq_true rfl) fun B => ?_
 refine qS ?_
 obtain ⟨c_3, hm⟩ := chk_elim hm
 refine Wp.seqR fun K2 hK2 => ?_
 simp only [go_sem, simprocAttr]
 first | apply hK2 | refine ⟨by first | exact sd | ((repeat' apply And.intro) <;> first | assumption | omega | (simp only [List.length_append, List.length_map, List.length_cons, List.length_nil, List.length_set, List.length_replicate] at c_3 ⊢; omega)), hK2 _ _ ?_⟩
 refine Wp.ret ?_
 refine retQ_ret ?_
 cases hm
 exact fse3
theorem ok_strings_HasPrefix (s_1 : Str) (prefix_2 : Str) (z : Bool) (hm : strings_HasPrefix s_1 prefix_2 = some z) : Does Tryd.prog 61 [.p (.s s_1), .p (.s prefix_2)] [] (fun r X => r = .p (.b z) ∧ X = []) := by
 unfold strings_HasPrefix at hm
 refine Does.of_wp 0 8 [.tmp 4] Tryd.func61 rfl (by decide) rfl rfl (Nat.le_of_ble_eq_true rfl) fun B => ?_
 refine qS ?_
 obtain ⟨r_3, hr_3, hm⟩ := call_elim hm
 refine Wp.seqR fun K2 hK2 => ?_
 simp only [go_sem, simprocAttr]
 try refine ⟨sd, ?_⟩
 refine Rg.callX (av := ?av3) (g := true) (fun hg => ok_internal_stringslite_HasPrefix s_1 prefix_2 _ hr_3) si si si sg si ?cont3
 intro hv3
 simp only [go_sem, simprocAttr]
 first | apply hK2 | refine ⟨sd, hK2 _ _ ?_⟩
 refine Wp.ret ?_
 refine retQ_ret ?_
 cases hm
 exact fse3
end Go.Proofs.YtkekfenkeeiigaaDoor
