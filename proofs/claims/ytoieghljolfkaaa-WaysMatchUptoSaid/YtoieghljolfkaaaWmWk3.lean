/- That the code does what the models say (part 3). -/
import Derived.Test.YtoieghljolfkaaaWmWk0
import Derived.Test.YtoieghljolfkaaaWmWk1
import Derived.Test.YtoieghljolfkaaaWmWk2
set_option linter.unusedSimpArgs false
set_option linter.unusedVariables false
namespace Go.Proofs.Ytoieghljolfkaaa
open Go.Vc Go.Md
set_option maxRecDepth 100000
set_option maxHeartbeats 4000000
theorem ok_slices_insertionSortOrdered_int_i1 (a_1 : Int) (b_2 : Int) (o0_3 : List Int) (z : List Int) (hm : slices_insertionSortOrdered_int_i1 a_1 b_2 o0_3 = some z) : Does Try.prog 64 [.buf 0, .p (.i .i64 a_1), .p (.i .i64 b_2)] [.fx 3 1 (List.map ecI_i64 o0_3)] (fun r X => r = .tup [] ∧ X = [.fx 3 1 (List.map ecI_i64 z)]) := by
 unfold slices_insertionSortOrdered_int_i1 at hm
 refine Does.of_wp 1 49 [] Try.func64 rfl (by decide) rfl rfl (Nat.le_of_ble_eq_true rfl) fun B => ?_
 refine qS ?_
 refine Wp.block ?_
 obtain ⟨k_672, hk_672, hm⟩ := loopN_cont hm
 refine Wp.loopN (fun s => [(0, .buf 0), (1, .p (.i .i64 a_1)), (2, .p (.i .i64 b_2)), (6, .p (.i .i64 s.1))]) (fun s => [.fx 3 1 (List.map ecI_i64 s.2)]) ?_ hm ?_
 ·
  exact fse5
 clear hm
 intro s nx_673 hm
 obtain ⟨i_538, o0_539⟩ := s
 try dsimp only at hm
 try dsimp only
 refine Wp.seqW fun K2 hK2 hW2 => ?_
 refine qS ?_
 refine cM hm (fun hc4 hm => ?_) (fun hc4 hm => ?_)
 ·refine Wp.skip ?_
  refine hK2 _ _ ?_
  refine Wp.seqW fun K5 hK5 hW5 => ?_
  obtain ⟨k_740, hk_740, hm⟩ := jp_elim hm
  have hcut5 : ∀ s, k_740 s = some z → K5 [(0, .buf 0), (1, .p (.i .i64 a_1)), (2, .p (.i .i64 b_2)), (6, .p (.i .i64 i_538))] [.fx 3 1 (List.map ecI_i64 s)] := by
   intro o0_739 hs
   have hm := hk_740 _ hs
   clear hs
   try dsimp only at hm
   try dsimp only
   refine hK5 _ _ ?_
   refine qR ?_
   simp only [thenQ, blockQ, ↓reduceIte]
   refine ⟨(IntKind.i64.wrap (i_538 + 1), o0_739), hm, ?_⟩
   exact fse5
  clear hK5 hk_740
  refine Wp.block ?_
  refine qS ?_
  refine Wp.block ?_
  obtain ⟨k_784, hk_784, hm⟩ := loopN_cont hm
  refine Wp.loopN (fun s => [(0, .buf 0), (1, .p (.i .i64 a_1)), (2, .p (.i .i64 b_2)), (6, .p (.i .i64 i_538)), (7, .p (.i .i64 s.1))]) (fun s => [.fx 3 1 (List.map ecI_i64 s.2)]) ?_ hm ?_
  ·
   exact fse5
  clear hm
  intro s nx_785 hm
  obtain ⟨j_762, o0_763⟩ := s
  try dsimp only at hm
  try dsimp only
  refine Wp.seqW fun K8 hK8 hW8 => ?_
  obtain ⟨c_786, hm⟩ := chk_elim hm
  obtain ⟨c_787, hm⟩ := chk_elim hm
  obtain ⟨r_788, hr_788, hm⟩ := callG_elim hm
  refine Wp.seqDW (plan := pl [(0, none), (1, none), (2, none), (3, none), (4, none), (5, none), (6, none), (7, none), (8, none), (9, none), (10, none), (11, none), (12, none), (13, none), (14, none)]) (by kernel_rfl) rfl (by kernel_rfl) fun K9 hK9 hW9 => ?_
  suffices hcont9 : K9 [(0, .buf 0), (1, .p (.i .i64 a_1)), (2, .p (.i .i64 b_2)), (6, .p (.i .i64 i_538)), (7, .p (.i .i64 j_762)), (30, .p (.b ((decide (a_1 < j_762)) && r_788)))] [.fx 3 1 (List.map ecI_i64 o0_763)] by
   rcases Bool.eq_false_or_eq_true (decide (a_1 < j_762)) with hg_789 | hg_789
   ·
    have c_790 := c_786 hg_789
    try dsimp only at c_790
    have c_791 := c_787 hg_789
    try dsimp only at c_791
    have hr_792 := fun h => getD_encB (l := o0_763) (e := ecI_i64) (d := 0) (i := j_762.toNat) h []
    have hr_793 := fun h => getD_encB (l := o0_763) (e := ecI_i64) (d := 0) (i := (IntKind.i64.wrap (j_762 - 1)).toNat) h []
    simp only [go_sem, simprocAttr, false_implies, and_true, true_and, bad, hg_789, hr_792 (by omega), hr_793 (by omega)]
    try refine ⟨by first | exact sd | ((repeat' apply And.intro) <;> first | assumption | omega | (simp only [List.length_append, List.length_map, List.length_cons, List.length_nil, List.length_set, List.length_replicate] at c_786 c_787 c_790 c_791 ⊢; omega)), ?_⟩
    refine Dr.callF (av := ?av10) (g := decide (a_1 < j_762)) (o := ?o10) (fun hg => ok_cmp_Less_int (o0_763.getD j_762.toNat 0) (o0_763.getD ((IntKind.i64.wrap (j_762 - 1)).toNat) 0) _ (hr_788 hg)) (by simp only [go_sem, simprocAttr, false_implies, and_true, true_and, bad, hg_789, hr_792 (by omega), hr_793 (by omega)]; exact Is.mk) (by simp only [go_sem, simprocAttr, false_implies, and_true, true_and, bad, hg_789, hr_792 (by omega), hr_793 (by omega)]; exact Is.mk) (by simp only [go_sem, simprocAttr, false_implies, and_true, true_and, bad, hg_789, hr_792 (by omega), hr_793 (by omega)]; exact Is.mk) (by simp only [go_sem, simprocAttr, false_implies, and_true, true_and, bad, hg_789, hr_792 (by omega), hr_793 (by omega)]; exact Is.mk) (by simp only [go_sem, simprocAttr, false_implies, and_true, true_and, bad, hg_789, hr_792 (by omega), hr_793 (by omega)]) (by simp only [go_sem, simprocAttr, false_implies, and_true, true_and, bad, hg_789, hr_792 (by omega), hr_793 (by omega)]; exact Is.mk) ?cont10
    simp only [go_sem, simprocAttr, false_implies, and_true, true_and, bad, hg_789, hr_792 (by omega), hr_793 (by omega)]
    first | refine hW9 _ _ _ _ ?_ hcont9 | refine ⟨by first | exact sd | ((repeat' apply And.intro) <;> first | assumption | omega | (simp only [List.length_append, List.length_map, List.length_cons, List.length_nil, List.length_set, List.length_replicate] at c_786 c_787 c_790 c_791 ⊢; omega)), hW9 _ _ _ _ ?_ hcont9⟩
    simp only [go_sem, simprocAttr, false_implies, and_true, true_and, bad, hg_789, hr_792 (by omega), hr_793 (by omega)]
    try exact se5
   ·
    rcases Nat.lt_or_ge j_762.toNat o0_763.length with hi_794 | hi_794
    ·
     have hr_795 := getD_encB (l := o0_763) (e := ecI_i64) (d := 0) (i := j_762.toNat) hi_794 []
     rcases Nat.lt_or_ge ((IntKind.i64.wrap (j_762 - 1)).toNat) o0_763.length with hi_796 | hi_796
     ·
      have hr_797 := getD_encB (l := o0_763) (e := ecI_i64) (d := 0) (i := (IntKind.i64.wrap (j_762 - 1)).toNat) hi_796 []
      simp only [go_sem, simprocAttr, false_implies, and_true, true_and, bad, hg_789, hr_795, hr_797]
      try refine ⟨by first | exact sd | ((repeat' apply And.intro) <;> first | assumption | omega | (simp only [List.length_append, List.length_map, List.length_cons, List.length_nil, List.length_set, List.length_replicate] at c_786 c_787 ⊢; omega)), ?_⟩
      refine Dr.skipG (o := ?o11) (v := .p (.b r_788)) (gw := ?gw11) (by simp only [go_sem, simprocAttr, false_implies, and_true, true_and, bad, hg_789, hr_795, hr_797]; exact Is.mk) (by simp only [go_sem, simprocAttr, false_implies, and_true, true_and, bad, hg_789, hr_795, hr_797]; exact Is.mk) (by simp only [go_sem, simprocAttr, false_implies, and_true, true_and, bad, hg_789, hr_795, hr_797]; exact Is.mk) (by simp only [go_sem, simprocAttr, false_implies, and_true, true_and, bad, hg_789, hr_795, hr_797]) ?cont11
      simp only [go_sem, simprocAttr, false_implies, and_true, true_and, bad, hg_789, hr_795, hr_797]
      first | refine hW9 _ _ _ _ ?_ hcont9 | refine ⟨by first | exact sd | ((repeat' apply And.intro) <;> first | assumption | omega | (simp only [List.length_append, List.length_map, List.length_cons, List.length_nil, List.length_set, List.length_replicate] at c_786 c_787 ⊢; omega)), hW9 _ _ _ _ ?_ hcont9⟩
      simp only [go_sem, simprocAttr, false_implies, and_true, true_and, bad, hg_789, hr_795, hr_797]
      try exact se5
     ·
      have hr_797 : (List.map ecI_i64 o0_763).getD ((IntKind.i64.wrap (j_762 - 1)).toNat) [] = [] := by rw [List.getD_eq_getElem?_getD, List.getElem?_eq_none (by simpa using hi_796)]; rfl
      simp only [go_sem, simprocAttr, false_implies, and_true, true_and, bad, hg_789, hr_795, hr_797]
      try refine ⟨by first | exact sd | ((repeat' apply And.intro) <;> first | assumption | omega | (simp only [List.length_append, List.length_map, List.length_cons, List.length_nil, List.length_set, List.length_replicate] at c_786 c_787 ⊢; omega)), ?_⟩
      refine Dr.skipG (o := ?o12) (v := .p (.b r_788)) (gw := ?gw12) (by simp only [go_sem, simprocAttr, false_implies, and_true, true_and, bad, hg_789, hr_795, hr_797]; exact Is.mk) (by simp only [go_sem, simprocAttr, false_implies, and_true, true_and, bad, hg_789, hr_795, hr_797]; exact Is.mk) (by simp only [go_sem, simprocAttr, false_implies, and_true, true_and, bad, hg_789, hr_795, hr_797]; exact Is.mk) (by simp only [go_sem, simprocAttr, false_implies, and_true, true_and, bad, hg_789, hr_795, hr_797]) ?cont12
      simp only [go_sem, simprocAttr, false_implies, and_true, true_and, bad, hg_789, hr_795, hr_797]
      first | refine hW9 _ _ _ _ ?_ hcont9 | refine ⟨by first | exact sd | ((repeat' apply And.intro) <;> first | assumption | omega | (simp only [List.length_append, List.length_map, List.length_cons, List.length_nil, List.length_set, List.length_replicate] at c_786 c_787 ⊢; omega)), hW9 _ _ _ _ ?_ hcont9⟩
      simp only [go_sem, simprocAttr, false_implies, and_true, true_and, bad, hg_789, hr_795, hr_797]
      try exact se5
    ·
     have hr_795 : (List.map ecI_i64 o0_763).getD j_762.toNat [] = [] := by rw [List.getD_eq_getElem?_getD, List.getElem?_eq_none (by simpa using hi_794)]; rfl
     rcases Nat.lt_or_ge ((IntKind.i64.wrap (j_762 - 1)).toNat) o0_763.length with hi_798 | hi_798
     ·
      have hr_799 := getD_encB (l := o0_763) (e := ecI_i64) (d := 0) (i := (IntKind.i64.wrap (j_762 - 1)).toNat) hi_798 []
      simp only [go_sem, simprocAttr, false_implies, and_true, true_and, bad, hg_789, hr_795, hr_799]
      try refine ⟨by first | exact sd | ((repeat' apply And.intro) <;> first | assumption | omega | (simp only [List.length_append, List.length_map, List.length_cons, List.length_nil, List.length_set, List.length_replicate] at c_786 c_787 ⊢; omega)), ?_⟩
      refine Dr.skipG (o := ?o13) (v := .p (.b r_788)) (gw := ?gw13) (by simp only [go_sem, simprocAttr, false_implies, and_true, true_and, bad, hg_789, hr_795, hr_799]; exact Is.mk) (by simp only [go_sem, simprocAttr, false_implies, and_true, true_and, bad, hg_789, hr_795, hr_799]; exact Is.mk) (by simp only [go_sem, simprocAttr, false_implies, and_true, true_and, bad, hg_789, hr_795, hr_799]; exact Is.mk) (by simp only [go_sem, simprocAttr, false_implies, and_true, true_and, bad, hg_789, hr_795, hr_799]) ?cont13
      simp only [go_sem, simprocAttr, false_implies, and_true, true_and, bad, hg_789, hr_795, hr_799]
      first | refine hW9 _ _ _ _ ?_ hcont9 | refine ⟨by first | exact sd | ((repeat' apply And.intro) <;> first | assumption | omega | (simp only [List.length_append, List.length_map, List.length_cons, List.length_nil, List.length_set, List.length_replicate] at c_786 c_787 ⊢; omega)), hW9 _ _ _ _ ?_ hcont9⟩
      simp only [go_sem, simprocAttr, false_implies, and_true, true_and, bad, hg_789, hr_795, hr_799]
      try exact se5
     ·
      have hr_799 : (List.map ecI_i64 o0_763).getD ((IntKind.i64.wrap (j_762 - 1)).toNat) [] = [] := by rw [List.getD_eq_getElem?_getD, List.getElem?_eq_none (by simpa using hi_798)]; rfl
      simp only [go_sem, simprocAttr, false_implies, and_true, true_and, bad, hg_789, hr_795, hr_799]
      try refine ⟨by first | exact sd | ((repeat' apply And.intro) <;> first | assumption | omega | (simp only [List.length_append, List.length_map, List.length_cons, List.length_nil, List.length_set, List.length_replicate] at c_786 c_787 ⊢; omega)), ?_⟩
      refine Dr.skipG (o := ?o14) (v := .p (.b r_788)) (gw := ?gw14) (by simp only [go_sem, simprocAttr, false_implies, and_true, true_and, bad, hg_789, hr_795, hr_799]; exact Is.mk) (by simp only [go_sem, simprocAttr, false_implies, and_true, true_and, bad, hg_789, hr_795, hr_799]; exact Is.mk) (by simp only [go_sem, simprocAttr, false_implies, and_true, true_and, bad, hg_789, hr_795, hr_799]; exact Is.mk) (by simp only [go_sem, simprocAttr, false_implies, and_true, true_and, bad, hg_789, hr_795, hr_799]) ?cont14
      simp only [go_sem, simprocAttr, false_implies, and_true, true_and, bad, hg_789, hr_795, hr_799]
      first | refine hW9 _ _ _ _ ?_ hcont9 | refine ⟨by first | exact sd | ((repeat' apply And.intro) <;> first | assumption | omega | (simp only [List.length_append, List.length_map, List.length_cons, List.length_nil, List.length_set, List.length_replicate] at c_786 c_787 ⊢; omega)), hW9 _ _ _ _ ?_ hcont9⟩
      simp only [go_sem, simprocAttr, false_implies, and_true, true_and, bad, hg_789, hr_795, hr_799]
      try exact se5
  refine hK9 _ _ ?_
  refine cM hm (fun hc15 hm => ?_) (fun hc15 hm => ?_)
  ·refine Wp.skip ?_
   refine hK8 _ _ ?_
   refine Wp.seqW fun K16 hK16 hW16 => ?_
   refine Wp.block ?_
   obtain ⟨c_800, hm⟩ := chk_elim hm
   obtain ⟨c_801, hm⟩ := chk_elim hm
   obtain ⟨c_802, hm⟩ := chk_elim hm
   obtain ⟨c_803, hm⟩ := chk_elim hm
   have hr_804 := fun h => getD_encB (l := o0_763) (e := ecI_i64) (d := 0) (i := (IntKind.i64.wrap (j_762 - 1)).toNat) h []
   have hr_805 := fun h => getD_encB (l := o0_763) (e := ecI_i64) (d := 0) (i := j_762.toNat) h []
   refine Wp.regD (plan := pl [(0, none), (1, none), (2, none), (3, none), (4, none), (5, none), (6, none), (7, none), (8, none), (9, none), (10, none), (11, none), (12, none), (13, none), (14, none), (15, some [2, 3, 4]), (16, none), (17, some [])]) (by kernel_rfl) rfl (by kernel_rfl) fun K17 hK17 => ?_
   simp only [go_sem, simprocAttr, hr_804 (by omega), hr_805 (by omega)]
   first | apply hK17 | refine ⟨by first | exact sd | ((repeat' apply And.intro) <;> first | assumption | omega | (simp only [List.length_append, List.length_map, List.length_cons, List.length_nil, List.length_set, List.length_replicate] at c_800 c_801 c_802 c_803 ⊢; omega)), hK17 _ _ ?_⟩
   refine hK16 _ _ ?_
   refine qR ?_
   simp only [thenQ, blockQ, ↓reduceIte]
   refine ⟨(IntKind.i64.wrap (j_762 - 1), List.set (List.set o0_763 j_762.toNat (o0_763.getD ((IntKind.i64.wrap (j_762 - 1)).toNat) 0)) ((IntKind.i64.wrap (j_762 - 1)).toNat) (o0_763.getD j_762.toNat 0)), hm, ?_⟩
   exact fse5
  ·refine Wp.exit ?_
   simp only [thenQ, blockQ, ↓reduceIte]
   have hm := hk_784 _ hm
   try dsimp only at hm
   refine hW5 _ _ _ _ ?_ (hcut5 o0_763 hm)
   exact fse5
 ·refine Wp.exit ?_
  simp only [thenQ, blockQ, ↓reduceIte]
  have hm := hk_672 _ hm
  try dsimp only at hm
  refine retQ_normal ?_
  cases hm
  exact fse5
theorem ok_slices_pdqsortOrdered_int_i1 (a_1 : Int) (b_2 : Int) (limit_3 : Int) (o0_4 : List Int) (z : List Int) (hm : slices_pdqsortOrdered_int_i1 a_1 b_2 limit_3 o0_4 = some z) : Does Try.prog 61 [.buf 0, .p (.i .i64 a_1), .p (.i .i64 b_2), .p (.i .i64 limit_3)] [.fx 3 1 (List.map ecI_i64 o0_4)] (fun r X => r = .tup [] ∧ X = [.fx 3 1 (List.map ecI_i64 z)]) := by
 unfold slices_pdqsortOrdered_int_i1 at hm
 refine Does.of_wp 1 134 [] Try.func61 rfl (by decide) rfl rfl (Nat.le_of_ble_eq_true rfl) fun B => ?_
 refine qS ?_
 refine qS ?_
 refine Wp.block ?_
 obtain ⟨k_27, hk_27, hm⟩ := loopN_cont hm
 refine Wp.loopN (fun s => [(0, .buf 0), (1, .p (.i .i64 a_1)), (2, .p (.i .i64 b_2)), (3, .p (.i .i64 limit_3)), (8, .p (.b true)), (9, .p (.b true))]) (fun s => [.fx 3 1 (List.map ecI_i64 o0_4)]) ?_ hm ?_
 ·
  exact fse5
 clear hm
 intro s nx_28 hm
 try dsimp only at hm
 try dsimp only
 refine Wp.block ?_
 refine qS ?_
 refine Wp.seqW fun K4 hK4 hW4 => ?_
 refine qS ?_
 refine cM hm (fun hc6 hm => ?_) (fun hc6 hm => ?_)
 ·obtain ⟨r_29, hr_29, hm⟩ := call_elim hm
  refine Wp.seqR fun K7 hK7 => ?_
  simp only [go_sem, simprocAttr]
  try refine ⟨sd, ?_⟩
  refine Rg.callO (av := ?av8) [0] (ok_slices_insertionSortOrdered_int_i1 a_1 b_2 o0_4 _ hr_29) si si si sg sg ?cont8
  rintro _ _ ⟨rfl, rfl⟩ hv8
  simp only [go_sem, simprocAttr]
  first | apply hK7 | refine ⟨sd, hK7 _ _ ?_⟩
  refine Wp.ret ?_
  refine retQ_ret ?_
  cases hm
  exact fse5
 ·refine Wp.skip ?_
  refine hK4 _ _ ?_
  refine Wp.seqW fun K9 hK9 hW9 => ?_
  refine qS ?_
  refine cM hm (fun hc11 hm => ?_) (fun hc11 hm => ?_)
  ·cases hm
  ·refine Wp.skip ?_
   refine hK9 _ _ ?_
   refine Wp.seqW fun K12 hK12 hW12 => ?_
   obtain ⟨k_30, hk_30, hm⟩ := jp_elim hm
   have hcut12 : ∀ s, k_30 s = some z → K12 [(0, .buf 0), (1, .p (.i .i64 a_1)), (2, .p (.i .i64 b_2)), (3, .p (.i .i64 limit_3)), (8, .p (.b true)), (9, .p (.b true)), (10, .p (.i .i64 (IntKind.i64.wrap (b_2 - a_1))))] [.fx 3 1 (List.map ecI_i64 o0_4)] := by
    intro s hs
    have hm := hk_30 _ hs
    clear hs
    try dsimp only at hm
    try dsimp only
    refine hK12 _ _ ?_
    cases hm
   clear hK12 hk_30
   refine qS ?_
   refine cM hm (fun hc14 hm => ?_) (fun hc14 hm => ?_)
   ·cases hm
   ·refine Wp.skip ?_
    refine hW12 _ _ _ _ ?_ (hcut12 () hm)
    exact fse5
theorem ok_slices_Sort_int_int_i1 (o0_1 : List Int) (z : List Int) (hm : slices_Sort_int_int_i1 o0_1 = some z) : Does Try.prog 56 [.buf 0] [.fx 3 1 (List.map ecI_i64 o0_1)] (fun r X => r = .tup [] ∧ X = [.fx 3 1 (List.map ecI_i64 z)]) := by
 unfold slices_Sort_int_int_i1 at hm
 refine Does.of_wp 1 11 [] Try.func56 rfl (by decide) rfl rfl (Nat.le_of_ble_eq_true rfl) fun B => ?_
 refine qS ?_
 obtain ⟨r_4, hr_4, hm⟩ := call_elim hm
 obtain ⟨r_5, hr_5, hm⟩ := call_elim hm
 refine Wp.region fun K2 hK2 => ?_
 simp only [go_sem, simprocAttr]
 try refine ⟨sd, ?_⟩
 refine Rg.callX (av := ?av3) (g := true) (fun hg => ok_math_bits_Len (IntKind.u64.wrap (o0_1.length : Int)) _ hr_4) si si si sg si ?cont3
 intro hv3
 simp only [go_sem, simprocAttr]
 try refine ⟨sd, ?_⟩
 refine Rg.callO (av := ?av4) [0] (ok_slices_pdqsortOrdered_int_i1 0 (o0_1.length : Int) r_4 o0_1 _ hr_5) si si si sg sg ?cont4
 rintro _ _ ⟨rfl, rfl⟩ hv4
 simp only [go_sem, simprocAttr]
 first | apply hK2 | refine ⟨sd, hK2 _ _ ?_⟩
 refine retQ_normal ?_
 cases hm
 exact fse5
theorem ok_R_keysOf_i1 (m0_1 : List (Int × outref1_route)) (z : List Int) (hm : R_keysOf_i1 m0_1 = some z) : Does Try.prog 39 [.mp 0] [.mp true (encM (Dt.i .i64) enc_outref1_route m0_1)] (fun r X => r = .p (.l (List.map ecI_i64 z)) ∧ X = [.mp true (encM (Dt.i .i64) enc_outref1_route m0_1)]) := by
 unfold R_keysOf_i1 at hm
 refine Does.of_wp 1 18 [.tmp 2] Try.func39 rfl (by decide) rfl rfl (Nat.le_of_ble_eq_true rfl) fun B => ?_
 refine qS ?_
 refine qS ?_
 refine Wp.seqW fun K3 hK3 hW3 => ?_
 obtain ⟨k_75, hk_75, hm⟩ := jp_elim hm
 have hcut3 : ∀ s, k_75 s = some z → K3 [(3, .buf 2)] [.mp true (encM (Dt.i .i64) enc_outref1_route m0_1), .gone, .buf 3 1 (List.map ecI_i64 s)] := by
  intro o2_74 hs
  have hm := hk_75 _ hs
  clear hs
  try dsimp only at hm
  try dsimp only
  refine hK3 _ _ ?_
  refine Wp.toFix 2 (by simp only [go_sem, simprocAttr]; exact Is.mk) (by simp only [go_sem, simprocAttr]) ?_
  simp only [go_sem, simprocAttr]
  obtain ⟨r_76, hr_76, hm⟩ := call_elim hm
  refine Wp.seqR fun K4 hK4 => ?_
  simp only [go_sem, simprocAttr]
  try refine ⟨sd, ?_⟩
  refine Rg.callO (av := ?av5) [2] (ok_slices_Sort_int_int_i1 o2_74 _ hr_76) si si si sg sg ?cont5
  rintro _ _ ⟨rfl, rfl⟩ hv5
  simp only [go_sem, simprocAttr]
  first | apply hK4 | refine ⟨sd, hK4 _ _ ?_⟩
  refine Wp.toBuf 2 (by simp only [go_sem, simprocAttr]; exact Is.mk) (by simp only [go_sem, simprocAttr]) ?_
  simp only [go_sem, simprocAttr]
  refine qS ?_
  refine Wp.ret ?_
  refine retQ_ret ?_
  cases hm
  exact fse5
 clear hK3 hk_75
 refine Wp.seqR fun K7 hK7 => ?_
 simp only [go_sem, simprocAttr]
 try refine ⟨sd, ?_⟩
 refine Rg.range (i := 0) (ag := ?ag8) (es := ?es8) (kt := ?kt8) (et := ?et8) Is.mk Is.mk sg sg si si si ?cont8
 intro bs_77 cl_78 hb_79 hn_80 hl_81
 replace hb_79 := encM_bs hb_79
 simp only [go_sem, simprocAttr]
 first | apply hK7 | refine ⟨sd, hK7 _ _ ?_⟩
 refine Wp.block ?_
 refine Wp.adopt 3 3 1 rfl ?_
 simp only [go_sem, simprocAttr]
 obtain ⟨k_90, hk_90, hm⟩ := forM_cont hm
 refine Wp.forM (bs := bs_77) (fun sn_92 s => [(3, .buf 2), (6, .ptr 1 0)]) (fun sn_92 s => [.mpb true (encM (Dt.i .i64) enc_outref1_route m0_1) bs_77 cl_78, .it 0 cl_78 sn_92, .buf 3 1 (List.map ecI_i64 s)]) hb_79 ?_ hm ?_
 ·
  exact fse5
 clear hm
 intro sn_92 o2_85 hm
 try dsimp only at hm
 try dsimp only
 refine Wp.seqR fun K9 hK9 => ?_
 simp only [go_sem, simprocAttr]
 try refine ⟨by exact sd, ?_⟩
 refine Rg.next (q := 1) (i := 0) (cl := cl_78) (bs := bs_77) (seen := sn_92) (ag := ?ag9) (es := ?es9) Is.mk Is.mk sg sg si si si sg ?hb9 hn_80 hl_81 ?he9 ?hs9
 case hb9 => rw [encM_len]; exact hb_79
 case he9 =>
  intro hend
  simp only [go_sem, simprocAttr]
  first | apply hK9 | refine ⟨by exact sd, hK9 _ _ ?_⟩
  refine Wp.seqW fun K10 hK10 hW10 => ?_
  refine Wp.cond rfl ⟨⟩ (fun h => ?_) (fun h => ?_)
  ·cases h
  refine Wp.endM 0 1 (by simp only [go_sem, simprocAttr]; exact Is.mk) (by simp only [go_sem, simprocAttr]; exact Is.mk) (by simp only [go_sem, simprocAttr]) ?_
  simp only [go_sem, simprocAttr]
  refine Wp.exit ?_
  have hm := hk_90 _ (forM_end hm ((left_length (m := bs_77) hb_79 rfl).trans hend))
  try dsimp only at hm
  refine hW3 _ _ _ _ ?_ (hcut3 o2_85 hm)
  exact fse5
 case hs9 =>
  intro j_93 p_94 st_95 hok_96
  simp only [go_sem, simprocAttr]
  first | apply hK9 | refine ⟨by exact sd, hK9 _ _ ?_⟩
  refine Wp.seqW fun K10 hK10 hW10 => ?_
  refine Wp.cond rfl ⟨⟩ (fun h => ?_) (fun h => ?_)
  rotate_left
  ·cases h
  refine Wp.skip ?_
  simp only [thenQ]
  refine hK10 _ _ ?_
  obtain ⟨e_97, nx_91, hx_98, hnx_91, hm⟩ := forM_step hm (hok_96.er _ hb_79).1
  replace hx_98 := (hok_96.er _ hb_79).2.2.symm.trans hx_98
  refine Wp.block ?_
  refine Wp.seqR fun K11 hK11 => ?_
  simp only [go_sem, simprocAttr]
  try refine ⟨sd, ?_⟩
  refine Rg.entry (q := 1) (i := 0) (cl := cl_78) (bs := bs_77) (seen := sn_92) (ag := ?ag12) (es := ?es12) (d := ?d12) (row := ?row12) Is.mk Is.mk sg sg si si si hn_80 hok_96.hp ?he12 ?cont12
  case he12 => exact encM_get hx_98
  simp only [go_sem, simprocAttr]
  first | apply hK11 | refine ⟨sd, hK11 _ _ ?_⟩
  obtain ⟨c_99, hm⟩ := chk_elim hm
  refine Wp.region fun K13 hK13 => ?_
  simp only [go_sem, simprocAttr]
  first | apply hK13 | refine ⟨by first | exact sd | ((repeat' apply And.intro) <;> first | assumption | omega | (simp only [List.length_append, List.length_map, List.length_cons, List.length_nil, List.length_set, List.length_replicate] at c_99 ⊢; omega)), hK13 _ _ ?_⟩
  simp only [thenQ, blockQ, ↓reduceIte]
  refine ⟨_, o2_85 ++ [e_97.1], (forM_next hok_96 hb_79 (hnx_91 _ hm)).1, (forM_next hok_96 hb_79 (hnx_91 _ hm)).2, ?_⟩
  exact fse5
theorem ok_slices_Clone_int_int_new (s_1 : List Int) (z : List Int) (hm : slices_Clone_int_int_new s_1 = some z) : Does Try.prog 41 [.p (.l (List.map ecI_i64 s_1))] [] (fun r X => r = .buf 0 ∧ X = [.buf 3 1 (List.map ecI_i64 z)]) := by
 unfold slices_Clone_int_int_new at hm
 refine Does.of_wp 1 8 [.tmp 2] Try.func41 rfl (by decide) rfl rfl (Nat.le_of_ble_eq_true rfl) fun B => ?_
 refine qS ?_
 refine Wp.seqW fun K2 hK2 hW2 => ?_
 refine Wp.seqR fun K3 hK3 => ?_
 simp only [go_sem, simprocAttr]
 try refine ⟨sd, ?_⟩
 refine Rg.isnil (rows := ?rows4) (e := ?e4) (esz := ?esz4) (eb := ?eb4) (ez := ?ez4) Is.mk Is.mk sg sg si si ?cont4
 intro b_5 hb_6
 replace hm := anyOf_elim hm b_5 (fun h => List.map_eq_nil_iff.1 (hb_6 h))
 try dsimp only at hm
 simp only [go_sem, simprocAttr]
 first | apply hK3 | refine ⟨sd, hK3 _ _ ?_⟩
 refine cM hm (fun hc5 hm => ?_) (fun hc5 hm => ?_)
 ·refine qS ?_
  refine Wp.adopt 2 3 1 rfl ?_
  simp only [go_sem, simprocAttr]
  refine Wp.ret ?_
  refine retQ_ret ?_
  cases hm
  exact fse5
 ·refine Wp.skip ?_
  refine hK2 _ _ ?_
  obtain ⟨c_7, hm⟩ := chk_elim hm
  refine Wp.seqR fun K7 hK7 => ?_
  simp only [go_sem, simprocAttr]
  first | apply hK7 | refine ⟨by first | exact sd | ((repeat' apply And.intro) <;> first | assumption | omega | (simp only [List.length_append, List.length_map, List.length_cons, List.length_nil, List.length_set, List.length_replicate] at c_7 ⊢; omega)), hK7 _ _ ?_⟩
  refine Wp.ret ?_
  refine retQ_ret ?_
  cases hm
  exact fse5
theorem ok_R_route_less (a_1 : outref1_route) (b_2 : outref1_route) (z : Bool) (hm : R_route_less a_1 b_2 = some z) : Does Try.prog 42 [.agg [.p (.i .i64 a_1.cost), .p (.l (List.map ecI_i64 a_1.steps))], .agg [.p (.i .i64 b_2.cost), .p (.l (List.map ecI_i64 b_2.steps))]] [] (fun r X => r = .p (.b z) ∧ X = []) := by
 unfold R_route_less at hm
 refine Does.of_wp 0 35 [.tmp 4] Try.func42 rfl (by decide) rfl rfl (Nat.le_of_ble_eq_true rfl) fun B => ?_
 refine qS ?_
 refine Wp.seqW fun K2 hK2 hW2 => ?_
 refine qS ?_
 refine cM hm (fun hc4 hm => ?_) (fun hc4 hm => ?_)
 ·refine qS ?_
  refine Wp.ret ?_
  refine retQ_ret ?_
  cases hm
  exact fse5
 ·refine Wp.skip ?_
  refine hK2 _ _ ?_
  refine Wp.seqW fun K6 hK6 hW6 => ?_
  refine qS ?_
  refine cM hm (fun hc8 hm => ?_) (fun hc8 hm => ?_)
  ·refine qS ?_
   refine Wp.ret ?_
   refine retQ_ret ?_
   cases hm
   exact fse5
  ·refine Wp.skip ?_
   refine hK6 _ _ ?_
   obtain ⟨r_3, hr_3, hm⟩ := call_elim hm
   refine Wp.seqR fun K10 hK10 => ?_
   simp only [go_sem, simprocAttr]
   try refine ⟨sd, ?_⟩
   refine Rg.callX (av := ?av11) (g := true) (fun hg => ok_slices_Compare_int_int a_1.steps b_2.steps _ hr_3) si si si sg si ?cont11
   intro hv11
   simp only [go_sem, simprocAttr]
   first | apply hK10 | refine ⟨sd, hK10 _ _ ?_⟩
   refine Wp.ret ?_
   refine retQ_ret ?_
   cases hm
   exact fse5
theorem ok_R_Best_1_i1 (v_1 : Int) (cost_2 : Int) (m1_3 : List (Int × outref1_route)) (o2_0_4 : Int) (o3_0_5 : Bool) (z : (List (Int × outref1_route)) × Bool) (hm : R_Best_1_i1 v_1 cost_2 m1_3 o2_0_4 o3_0_5 = some z) : Does Try.prog 40 [.p (.i .i64 v_1), .p (.i .i64 cost_2), .ptr 0 0, .ptr 2 0, .ptr 3 0] [.cells 82 [.mp 1], .mp true (encM (Dt.i .i64) enc_outref1_route m1_3), .cells 3 [.p (.i .i64 o2_0_4)], .cells 4 [.p (.b o3_0_5)]] (fun r X => r = .tup [] ∧ X = [.cells 82 [.mp 1], .mp true (encM (Dt.i .i64) enc_outref1_route z.1), .cells 3 [.p (.i .i64 o2_0_4)], .cells 4 [.p (.b z.2)]]) := by
 unfold R_Best_1_i1 at hm
 refine Does.of_wp 4 41 [] Try.func40 rfl (by decide) rfl rfl (Nat.le_of_ble_eq_true rfl) fun B => ?_
 obtain ⟨q_18, hq_19, hm⟩ := letv_elim hm
 have hq_19d := mlookD_enc (e := enc_outref1_route) (keq_i .i64) m1_3 o2_0_4 (outref1_route.mk 0 [])
 have hq_19s := mlook_some (e := enc_outref1_route) (keq_i .i64) m1_3 o2_0_4
 simp only [hq_19, enc_outref1_route, List.map_nil] at hq_19d hq_19s
 obtain ⟨r_20, hr_20, hm⟩ := call_elim hm
 obtain ⟨c_21, hm⟩ := chk_elim hm
 refine Wp.seqDS (plan := (.rd 0 (.rd 1 (.rd 2 (.rd 3 (.rd 4 (.rd 5 (.rd 6 (.rd 7 (.rd 8 (.rd 9 (.rd 11 (.f3 10 [0, 1, 2, 3, 4, 5, 11] (.fk 12 [0, 1, 2, 3, 4, 5, 6, 7, 8, 9] (.fk 13 [0, 1, 2, 3, 4, 5] (.rd 14 (.ef 15 [0, 1, 2, 3, 4, 5, 6, 7, 8, 9, 11, 14] (.ef 16 [] .nil))) 15 [0, 1, 2, 3, 4, 5, 6, 7, 8, 9, 11] (.ef 13 [0, 1, 2, 3, 4, 5] (.rd 14 (.ef 16 [] .nil)))) 15 [0, 1, 2, 3, 4, 5, 6, 7, 8, 9, 11] (.ef 12 [0, 1, 2, 3, 4, 5, 6, 7, 8, 9] (.ef 13 [0, 1, 2, 3, 4, 5] (.rd 14 (.ef 16 [] .nil))))) 12 [0, 1, 2, 3, 4, 5, 6, 7, 8, 9] (.fk 10 [0, 1, 2, 3, 4, 5, 11] (.fk 13 [0, 1, 2, 3, 4, 5] (.rd 14 (.ef 15 [0, 1, 2, 3, 4, 5, 6, 7, 8, 9, 11, 14] (.ef 16 [] .nil))) 15 [0, 1, 2, 3, 4, 5, 6, 7, 8, 9, 11] (.ef 13 [0, 1, 2, 3, 4, 5] (.rd 14 (.ef 16 [] .nil)))) 15 [0, 1, 2, 3, 4, 5, 6, 7, 8, 9, 11] (.ef 10 [0, 1, 2, 3, 4, 5, 11] (.ef 13 [0, 1, 2, 3, 4, 5] (.rd 14 (.ef 16 [] .nil))))) 15 [0, 1, 2, 3, 4, 5, 6, 7, 8, 9, 11] (.fk 10 [0, 1, 2, 3, 4, 5, 11] (.ef 12 [0, 1, 2, 3, 4, 5, 6, 7, 8, 9] (.ef 13 [0, 1, 2, 3, 4, 5] (.rd 14 (.ef 16 [] .nil)))) 12 [0, 1, 2, 3, 4, 5, 6, 7, 8, 9] (.ef 10 [0, 1, 2, 3, 4, 5, 11] (.ef 13 [0, 1, 2, 3, 4, 5] (.rd 14 (.ef 16 [] .nil)))))))))))))))))) (by kernel_rfl) rfl (by kernel_rfl) fun K1 hK1 hW1 => ?_
 suffices hcont1 : K1 [(0, .p (.i .i64 v_1)), (1, .p (.i .i64 cost_2)), (2, .ptr 0 0), (3, .ptr 2 0), (4, .ptr 3 0), (7, .ptr 5 0), (10, .mp 1), (11, .p (.i .i64 o2_0_4)), (12, .agg [.p (.i .i64 ((q_18.getD (outref1_route.mk 0 [])).cost)), .p (.l (List.map ecI_i64 ((q_18.getD (outref1_route.mk 0 [])).steps)))]), (13, .p (.i .i64 ((q_18.getD (outref1_route.mk 0 [])).cost))), (14, .p (.i .i64 cost_2)), (15, .p (.i .i64 (IntKind.i64.wrap (((q_18.getD (outref1_route.mk 0 [])).cost) + cost_2)))), (16, .mp 1), (17, .p (.i .i64 o2_0_4)), (18, .agg [.p (.i .i64 ((q_18.getD (outref1_route.mk 0 [])).cost)), .p (.l (List.map ecI_i64 ((q_18.getD (outref1_route.mk 0 [])).steps)))]), (19, .p (.l (List.map ecI_i64 ((q_18.getD (outref1_route.mk 0 [])).steps)))), (20, .top), (21, .p (.i .i64 v_1)), (22, .full (List.map ecI_i64 [v_1])), (23, .buf 4), (24, .agg [.p (.i .i64 (IntKind.i64.wrap (((q_18.getD (outref1_route.mk 0 [])).cost) + cost_2))), .buf 4])] [.cells 82 [.mp 1], .mp true (encM (Dt.i .i64) enc_outref1_route m1_3), .cells 3 [.p (.i .i64 o2_0_4)], .cells 4 [.p (.b o3_0_5)], .buf 3 1 (List.map ecI_i64 (r_20 ++ [v_1])), .cells 81 [.p (.i .i64 (IntKind.i64.wrap (((q_18.getD (outref1_route.mk 0 [])).cost) + cost_2))), .buf 4]] by
  simp only [go_sem, simprocAttr, hq_19d, hq_19s]
  try refine ⟨by first | exact sd | ((repeat' apply And.intro) <;> first | assumption | omega | (simp only [List.length_append, List.length_map, List.length_cons, List.length_nil, List.length_set, List.length_replicate] at c_21 ⊢; omega)), ?_⟩
  refine Dr.f3 ?_ ?_ ?_
  ·
   refine id (Br.callE (av := ?av2) (o := ?o2) [] (ok_slices_Clone_int_int_new ((q_18.getD (outref1_route.mk 0 [])).steps) _ hr_20) (by simp only [go_sem, simprocAttr, hq_19d, hq_19s]; exact Is.mk) (by simp only [go_sem, simprocAttr, hq_19d, hq_19s]; exact Is.mk) (by simp only [go_sem, simprocAttr, hq_19d, hq_19s]; exact Is.mk) (by simp only [go_sem, simprocAttr, hq_19d, hq_19s]; exact Is.mk) (by simp only [go_sem, simprocAttr, hq_19d, hq_19s]; exact Is.mk) (by simp only [go_sem, simprocAttr, hq_19d, hq_19s]) (by simp only [go_sem, simprocAttr, hq_19d, hq_19s]) (by simp only [go_sem, simprocAttr, hq_19d, hq_19s]) (by simp only [go_sem, simprocAttr, hq_19d, hq_19s]) ?cont2)
   simp only [go_sem, simprocAttr, hq_19d, hq_19s]
   try refine ⟨by first | exact sd | ((repeat' apply And.intro) <;> first | assumption | omega | (simp only [List.length_append, List.length_map, List.length_cons, List.length_nil, List.length_set, List.length_replicate] at c_21 ⊢; omega)), ?_⟩
   refine Dr.fk ?_ ?_
   ·
    refine Br.run (o := ?o3) (by simp only [go_sem, simprocAttr, hq_19d, hq_19s]; exact Is.mk) (by simp only [go_sem, simprocAttr, hq_19d, hq_19s]; exact Is.mk) ?cont3
    simp only [go_sem, simprocAttr, hq_19d, hq_19s]
    try refine ⟨by first | exact sd | ((repeat' apply And.intro) <;> first | assumption | omega | (simp only [List.length_append, List.length_map, List.length_cons, List.length_nil, List.length_set, List.length_replicate] at c_21 ⊢; omega)), ?_⟩
    refine Dr.fk ?_ ?_
    ·
     refine Br.run (o := ?o4) (by simp only [go_sem, simprocAttr, hq_19d, hq_19s]; exact Is.mk) (by simp only [go_sem, simprocAttr, hq_19d, hq_19s]; exact Is.mk) ?cont4
     simp only [go_sem, simprocAttr, hq_19d, hq_19s]
     first | refine hW1.weak _ _ _ _ ?_ hcont1 | refine ⟨by first | exact sd | ((repeat' apply And.intro) <;> first | assumption | omega | (simp only [List.length_append, List.length_map, List.length_cons, List.length_nil, List.length_set, List.length_replicate] at c_21 ⊢; omega)), hW1.weak _ _ _ _ ?_ hcont1⟩
     simp only [go_sem, simprocAttr, hq_19d, hq_19s]
     try exact se5
    ·
     refine Br.run (o := ?o5) (by simp only [go_sem, simprocAttr, hq_19d, hq_19s]; exact Is.mk) (by simp only [go_sem, simprocAttr, hq_19d, hq_19s]; exact Is.mk) ?cont5
     simp only [go_sem, simprocAttr, hq_19d, hq_19s]
     first | refine hW1.weak _ _ _ _ ?_ hcont1 | refine ⟨by first | exact sd | ((repeat' apply And.intro) <;> first | assumption | omega | (simp only [List.length_append, List.length_map, List.length_cons, List.length_nil, List.length_set, List.length_replicate] at c_21 ⊢; omega)), hW1.weak _ _ _ _ ?_ hcont1⟩
     simp only [go_sem, simprocAttr, hq_19d, hq_19s]
     try exact se5
   ·
    refine Br.run (o := ?o6) (by simp only [go_sem, simprocAttr, hq_19d, hq_19s]; exact Is.mk) (by simp only [go_sem, simprocAttr, hq_19d, hq_19s]; exact Is.mk) ?cont6
    simp only [go_sem, simprocAttr, hq_19d, hq_19s]
    first | refine hW1.weak _ _ _ _ ?_ hcont1 | refine ⟨by first | exact sd | ((repeat' apply And.intro) <;> first | assumption | omega | (simp only [List.length_append, List.length_map, List.length_cons, List.length_nil, List.length_set, List.length_replicate] at c_21 ⊢; omega)), hW1.weak _ _ _ _ ?_ hcont1⟩
    simp only [go_sem, simprocAttr, hq_19d, hq_19s]
    try exact se5
  ·
   refine Br.run (o := ?o7) (by simp only [go_sem, simprocAttr, hq_19d, hq_19s]; exact Is.mk) (by simp only [go_sem, simprocAttr, hq_19d, hq_19s]; exact Is.mk) ?cont7
   simp only [go_sem, simprocAttr, hq_19d, hq_19s]
   try refine ⟨by first | exact sd | ((repeat' apply And.intro) <;> first | assumption | omega | (simp only [List.length_append, List.length_map, List.length_cons, List.length_nil, List.length_set, List.length_replicate] at c_21 ⊢; omega)), ?_⟩
   refine Dr.fk ?_ ?_
   ·
    refine id (Br.callE (av := ?av8) (o := ?o8) [] (ok_slices_Clone_int_int_new ((q_18.getD (outref1_route.mk 0 [])).steps) _ hr_20) (by simp only [go_sem, simprocAttr, hq_19d, hq_19s]; exact Is.mk) (by simp only [go_sem, simprocAttr, hq_19d, hq_19s]; exact Is.mk) (by simp only [go_sem, simprocAttr, hq_19d, hq_19s]; exact Is.mk) (by simp only [go_sem, simprocAttr, hq_19d, hq_19s]; exact Is.mk) (by simp only [go_sem, simprocAttr, hq_19d, hq_19s]; exact Is.mk) (by simp only [go_sem, simprocAttr, hq_19d, hq_19s]) (by simp only [go_sem, simprocAttr, hq_19d, hq_19s]) (by simp only [go_sem, simprocAttr, hq_19d, hq_19s]) (by simp only [go_sem, simprocAttr, hq_19d, hq_19s]) ?cont8)
    simp only [go_sem, simprocAttr, hq_19d, hq_19s]
    try refine ⟨by first | exact sd | ((repeat' apply And.intro) <;> first | assumption | omega | (simp only [List.length_append, List.length_map, List.length_cons, List.length_nil, List.length_set, List.length_replicate] at c_21 ⊢; omega)), ?_⟩
    refine Dr.fk ?_ ?_
    ·
     refine Br.run (o := ?o9) (by simp only [go_sem, simprocAttr, hq_19d, hq_19s]; exact Is.mk) (by simp only [go_sem, simprocAttr, hq_19d, hq_19s]; exact Is.mk) ?cont9
     simp only [go_sem, simprocAttr, hq_19d, hq_19s]
     first | refine hW1.weak _ _ _ _ ?_ hcont1 | refine ⟨by first | exact sd | ((repeat' apply And.intro) <;> first | assumption | omega | (simp only [List.length_append, List.length_map, List.length_cons, List.length_nil, List.length_set, List.length_replicate] at c_21 ⊢; omega)), hW1.weak _ _ _ _ ?_ hcont1⟩
     simp only [go_sem, simprocAttr, hq_19d, hq_19s]
     try exact se5
    ·
     refine Br.run (o := ?o10) (by simp only [go_sem, simprocAttr, hq_19d, hq_19s]; exact Is.mk) (by simp only [go_sem, simprocAttr, hq_19d, hq_19s]; exact Is.mk) ?cont10
     simp only [go_sem, simprocAttr, hq_19d, hq_19s]
     first | refine hW1.weak _ _ _ _ ?_ hcont1 | refine ⟨by first | exact sd | ((repeat' apply And.intro) <;> first | assumption | omega | (simp only [List.length_append, List.length_map, List.length_cons, List.length_nil, List.length_set, List.length_replicate] at c_21 ⊢; omega)), hW1.weak _ _ _ _ ?_ hcont1⟩
     simp only [go_sem, simprocAttr, hq_19d, hq_19s]
     try exact se5
   ·
    refine Br.run (o := ?o11) (by simp only [go_sem, simprocAttr, hq_19d, hq_19s]; exact Is.mk) (by simp only [go_sem, simprocAttr, hq_19d, hq_19s]; exact Is.mk) ?cont11
    simp only [go_sem, simprocAttr, hq_19d, hq_19s]
    try refine ⟨by first | exact sd | ((repeat' apply And.intro) <;> first | assumption | omega | (simp only [List.length_append, List.length_map, List.length_cons, List.length_nil, List.length_set, List.length_replicate] at c_21 ⊢; omega)), ?_⟩
    refine Dr.of_br (Br.callE (av := ?av12) (o := ?o12) [] (ok_slices_Clone_int_int_new ((q_18.getD (outref1_route.mk 0 [])).steps) _ hr_20) (by simp only [go_sem, simprocAttr, hq_19d, hq_19s]; exact Is.mk) (by simp only [go_sem, simprocAttr, hq_19d, hq_19s]; exact Is.mk) (by simp only [go_sem, simprocAttr, hq_19d, hq_19s]; exact Is.mk) (by simp only [go_sem, simprocAttr, hq_19d, hq_19s]; exact Is.mk) (by simp only [go_sem, simprocAttr, hq_19d, hq_19s]; exact Is.mk) (by simp only [go_sem, simprocAttr, hq_19d, hq_19s]) (by simp only [go_sem, simprocAttr, hq_19d, hq_19s]) (by simp only [go_sem, simprocAttr, hq_19d, hq_19s]) (by simp only [go_sem, simprocAttr, hq_19d, hq_19s]) ?cont12)
    simp only [go_sem, simprocAttr, hq_19d, hq_19s]
    first | refine hW1.swap 4 5 _ _ (by exact Nat.le_of_ble_eq_true rfl) (by exact Nat.le_of_ble_eq_true rfl) (by exact Nat.le_of_ble_eq_true rfl) (by exact Nat.le_of_ble_eq_true rfl) ?_ | refine ⟨by first | exact sd | ((repeat' apply And.intro) <;> first | assumption | omega | (simp only [List.length_append, List.length_map, List.length_cons, List.length_nil, List.length_set, List.length_replicate] at c_21 ⊢; omega)), hW1.swap 4 5 _ _ (by exact Nat.le_of_ble_eq_true rfl) (by exact Nat.le_of_ble_eq_true rfl) (by exact Nat.le_of_ble_eq_true rfl) (by exact Nat.le_of_ble_eq_true rfl) ?_⟩
    simp only [go_sem, simprocAttr, hq_19d, hq_19s]
    refine hW1.weak _ _ _ _ ?_ hcont1
    simp only [go_sem, simprocAttr, hq_19d, hq_19s]
    try exact se5
  ·
   refine Br.run (o := ?o13) (by simp only [go_sem, simprocAttr, hq_19d, hq_19s]; exact Is.mk) (by simp only [go_sem, simprocAttr, hq_19d, hq_19s]; exact Is.mk) ?cont13
   simp only [go_sem, simprocAttr, hq_19d, hq_19s]
   try refine ⟨by first | exact sd | ((repeat' apply And.intro) <;> first | assumption | omega | (simp only [List.length_append, List.length_map, List.length_cons, List.length_nil, List.length_set, List.length_replicate] at c_21 ⊢; omega)), ?_⟩
   refine Dr.fk ?_ ?_
   ·
    refine id (Br.callE (av := ?av14) (o := ?o14) [] (ok_slices_Clone_int_int_new ((q_18.getD (outref1_route.mk 0 [])).steps) _ hr_20) (by simp only [go_sem, simprocAttr, hq_19d, hq_19s]; exact Is.mk) (by simp only [go_sem, simprocAttr, hq_19d, hq_19s]; exact Is.mk) (by simp only [go_sem, simprocAttr, hq_19d, hq_19s]; exact Is.mk) (by simp only [go_sem, simprocAttr, hq_19d, hq_19s]; exact Is.mk) (by simp only [go_sem, simprocAttr, hq_19d, hq_19s]; exact Is.mk) (by simp only [go_sem, simprocAttr, hq_19d, hq_19s]) (by simp only [go_sem, simprocAttr, hq_19d, hq_19s]) (by simp only [go_sem, simprocAttr, hq_19d, hq_19s]) (by simp only [go_sem, simprocAttr, hq_19d, hq_19s]) ?cont14)
    simp only [go_sem, simprocAttr, hq_19d, hq_19s]
    first | refine hW1.swap 4 5 _ _ (by exact Nat.le_of_ble_eq_true rfl) (by exact Nat.le_of_ble_eq_true rfl) (by exact Nat.le_of_ble_eq_true rfl) (by exact Nat.le_of_ble_eq_true rfl) ?_ | refine ⟨by first | exact sd | ((repeat' apply And.intro) <;> first | assumption | omega | (simp only [List.length_append, List.length_map, List.length_cons, List.length_nil, List.length_set, List.length_replicate] at c_21 ⊢; omega)), hW1.swap 4 5 _ _ (by exact Nat.le_of_ble_eq_true rfl) (by exact Nat.le_of_ble_eq_true rfl) (by exact Nat.le_of_ble_eq_true rfl) (by exact Nat.le_of_ble_eq_true rfl) ?_⟩
    simp only [go_sem, simprocAttr, hq_19d, hq_19s]
    refine hW1.weak _ _ _ _ ?_ hcont1
    simp only [go_sem, simprocAttr, hq_19d, hq_19s]
    try exact se5
   ·
    refine Br.run (o := ?o15) (by simp only [go_sem, simprocAttr, hq_19d, hq_19s]; exact Is.mk) (by simp only [go_sem, simprocAttr, hq_19d, hq_19s]; exact Is.mk) ?cont15
    simp only [go_sem, simprocAttr, hq_19d, hq_19s]
    try refine ⟨by first | exact sd | ((repeat' apply And.intro) <;> first | assumption | omega | (simp only [List.length_append, List.length_map, List.length_cons, List.length_nil, List.length_set, List.length_replicate] at c_21 ⊢; omega)), ?_⟩
    refine Dr.of_br (Br.callE (av := ?av16) (o := ?o16) [] (ok_slices_Clone_int_int_new ((q_18.getD (outref1_route.mk 0 [])).steps) _ hr_20) (by simp only [go_sem, simprocAttr, hq_19d, hq_19s]; exact Is.mk) (by simp only [go_sem, simprocAttr, hq_19d, hq_19s]; exact Is.mk) (by simp only [go_sem, simprocAttr, hq_19d, hq_19s]; exact Is.mk) (by simp only [go_sem, simprocAttr, hq_19d, hq_19s]; exact Is.mk) (by simp only [go_sem, simprocAttr, hq_19d, hq_19s]; exact Is.mk) (by simp only [go_sem, simprocAttr, hq_19d, hq_19s]) (by simp only [go_sem, simprocAttr, hq_19d, hq_19s]) (by simp only [go_sem, simprocAttr, hq_19d, hq_19s]) (by simp only [go_sem, simprocAttr, hq_19d, hq_19s]) ?cont16)
    simp only [go_sem, simprocAttr, hq_19d, hq_19s]
    first | refine hW1.swap 4 5 _ _ (by exact Nat.le_of_ble_eq_true rfl) (by exact Nat.le_of_ble_eq_true rfl) (by exact Nat.le_of_ble_eq_true rfl) (by exact Nat.le_of_ble_eq_true rfl) ?_ | refine ⟨by first | exact sd | ((repeat' apply And.intro) <;> first | assumption | omega | (simp only [List.length_append, List.length_map, List.length_cons, List.length_nil, List.length_set, List.length_replicate] at c_21 ⊢; omega)), hW1.swap 4 5 _ _ (by exact Nat.le_of_ble_eq_true rfl) (by exact Nat.le_of_ble_eq_true rfl) (by exact Nat.le_of_ble_eq_true rfl) (by exact Nat.le_of_ble_eq_true rfl) ?_⟩
    simp only [go_sem, simprocAttr, hq_19d, hq_19s]
    refine hW1.weak _ _ _ _ ?_ hcont1
    simp only [go_sem, simprocAttr, hq_19d, hq_19s]
    try exact se5
 refine hK1 _ _ ?_
 obtain ⟨q_22, hq_23, hm⟩ := letv_elim hm
 have hq_23d := mlookD_enc (e := enc_outref1_route) (keq_i .i64) m1_3 v_1 (outref1_route.mk 0 [])
 have hq_23s := mlook_some (e := enc_outref1_route) (keq_i .i64) m1_3 v_1
 simp only [hq_23, enc_outref1_route, List.map_nil] at hq_23d hq_23s
 refine Wp.seqR fun K17 hK17 => ?_
 simp only [go_sem, simprocAttr, hq_23d, hq_23s]
 first | apply hK17 | refine ⟨sd, hK17 _ _ ?_⟩
 obtain ⟨r_24, hr_24, hm⟩ := callG_elim hm
 refine Wp.seqR fun K18 hK18 => ?_
 simp only [go_sem, simprocAttr]
 try refine ⟨sd, ?_⟩
 refine Rg.callX (av := ?av19) (g := !(!q_22.isSome)) (fun hg => ok_R_route_less (outref1_route.mk (IntKind.i64.wrap (((q_18.getD (outref1_route.mk 0 [])).cost) + cost_2)) (r_20 ++ [v_1])) (q_22.getD (outref1_route.mk 0 [])) _ (hr_24 hg)) si si (by simp only [go_sem, simprocAttr, List.map_append, List.map_cons, List.map_nil]; exact Is.mk) sg si ?cont19
 intro hv19
 simp only [go_sem, simprocAttr]
 first | apply hK18 | refine ⟨sd, hK18 _ _ ?_⟩
 refine cM hm (fun hc20 hm => ?_) (fun hc20 hm => ?_)
 ·refine Wp.freeze 4 (by simp only [go_sem, simprocAttr]; exact Is.mk) (by first | (simp only [go_sem, simprocAttr]; done) | (simp only [go_sem, simprocAttr]; omega)) ?_
  simp only [go_sem, simprocAttr]
  obtain ⟨c_26, hm⟩ := chk_elim hm
  have hp_25 := mset_enc (e := enc_outref1_route) (keq_i .i64) m1_3 v_1 (outref1_route.mk (IntKind.i64.wrap (((q_18.getD (outref1_route.mk 0 [])).cost) + cost_2)) (r_20 ++ [v_1]))
  simp only [enc_outref1_route, List.map_nil] at hp_25
  refine Wp.seqR fun K21 hK21 => ?_
  simp only [go_sem, simprocAttr, hp_25]
  first | apply hK21 | refine ⟨by first | exact sd | ((repeat' apply And.intro) <;> first | assumption | omega | (simp only [List.length_append, List.length_map, List.length_cons, List.length_nil, List.length_set, List.length_replicate] at c_26 ⊢; omega)), hK21 _ _ ?_⟩
  refine qR ?_
  refine retQ_normal ?_
  cases hm
  exact fse5
 ·refine Wp.skip ?_
  refine retQ_normal ?_
  cases hm
  exact fse5
end Go.Proofs.Ytoieghljolfkaaa
