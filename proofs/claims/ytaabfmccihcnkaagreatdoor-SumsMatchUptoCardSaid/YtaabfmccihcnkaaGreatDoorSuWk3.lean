/- That the code does what the models say (part 3). -/
import Derived.Test.YtaabfmccihcnkaaGreatDoorSuWk0
import Derived.Test.YtaabfmccihcnkaaGreatDoorSuWk2
set_option linter.unusedSimpArgs false
set_option linter.unusedVariables false
open Go.Proofs Go.Shelf
namespace Go.Proofs.YtaabfmccihcnkaaGreatDoor
open Go.Vc Go.Md
set_option maxRecDepth 100000
set_option maxHeartbeats 4000000
theorem ok_slices_insertionSortCmpFunc_api_Setting_i1 (a_1 : Int) (b_2 : Int) (o0_3 : List api_Setting) (z : List api_Setting) (hm : slices_insertionSortCmpFunc_api_Setting_i1 a_1 b_2 o0_3 = some z) : Does Tryz.prog 286 [.buf 0, .p (.i .i64 a_1), .p (.i .i64 b_2), .fn 96 []] [.fx 40 2 (List.map enc_api_Setting o0_3)] (fun r X => r = .tup [] ∧ X = [.fx 40 2 (List.map enc_api_Setting z)]) := by
 unfold slices_insertionSortCmpFunc_api_Setting_i1 at hm
 refine Does.of_wp 1 53 [] Tryz.func286 rfl (by decide) rfl rfl (Nat.le_of_ble_eq_true rfl) fun B => ?_
 refine qS ?_
 refine Wp.block ?_
 obtain ⟨k_672, hk_672, hm⟩ := loopN_cont hm
 refine Wp.loopN (fun s => [(0, .buf 0), (1, .p (.i .i64 a_1)), (2, .p (.i .i64 b_2)), (3, .fn 96 []), (8, .p (.i .i64 s.1))]) (fun s => [.fx 40 2 (List.map enc_api_Setting s.2)]) ?_ hm ?_
 ·
  exact fse1
 clear hm
 intro s nx_673 hm
 obtain ⟨i_538, o0_539⟩ := s
 try dsimp only at hm
 try dsimp only
 refine Wp.seqW fun K2 hK2 hW2 => ?_
 refine qS ?_
 refine cM hm (fun hc4 hm => ?_) (fun hc4 hm => ?_)
 ·refine Wp.skip ?_
  refine hK2 _ _ ?_
  refine Wp.seqW fun K5 hK5 hW5 => ?_
  obtain ⟨k_740, hk_740, hm⟩ := jp_elim hm
  have hcut5 : ∀ s, k_740 s = some z → K5 [(0, .buf 0), (1, .p (.i .i64 a_1)), (2, .p (.i .i64 b_2)), (3, .fn 96 []), (8, .p (.i .i64 i_538))] [.fx 40 2 (List.map enc_api_Setting s)] := by
   intro o0_739 hs
   have hm := hk_740 _ hs
   clear hs
   try dsimp only at hm
   try dsimp only
   refine hK5 _ _ ?_
   refine qR ?_
   simp only [thenQ, blockQ, ↓reduceIte]
   refine ⟨(IntKind.i64.wrap (i_538 + 1), o0_739), hm, ?_⟩
   exact fse1
  clear hK5 hk_740
  refine Wp.block ?_
  refine qS ?_
  refine Wp.block ?_
  obtain ⟨k_784, hk_784, hm⟩ := loopN_cont hm
  refine Wp.loopN (fun s => [(0, .buf 0), (1, .p (.i .i64 a_1)), (2, .p (.i .i64 b_2)), (3, .fn 96 []), (8, .p (.i .i64 i_538)), (9, .p (.i .i64 s.1))]) (fun s => [.fx 40 2 (List.map enc_api_Setting s.2)]) ?_ hm ?_
  ·
   exact fse1
  clear hm
  intro s nx_785 hm
  obtain ⟨j_762, o0_763⟩ := s
  try dsimp only at hm
  try dsimp only
  refine Wp.seqW fun K8 hK8 hW8 => ?_
  obtain ⟨c_786, hm⟩ := chk_elim hm
  obtain ⟨c_787, hm⟩ := chk_elim hm
  obtain ⟨r_788, hr_788, hm⟩ := callG_elim hm
  refine Wp.seqDW (plan := pl [(0, none), (1, none), (2, none), (3, none), (4, none), (5, none), (6, none), (7, none), (8, none), (9, none), (10, none), (11, none), (12, none), (13, none), (14, none), (15, none), (16, none)]) (by kernel_rfl) rfl (by kernel_rfl) fun K9 hK9 hW9 => ?_
  suffices hcont9 : K9 [(0, .buf 0), (1, .p (.i .i64 a_1)), (2, .p (.i .i64 b_2)), (3, .fn 96 []), (8, .p (.i .i64 i_538)), (9, .p (.i .i64 j_762)), (18, .p (.i .i64 j_762)), (19, .p (.i .i64 a_1)), (20, .p (.b (decide (a_1 < j_762)))), (21, .p (.b (decide (a_1 < j_762)))), (34, .p (.b ((decide (a_1 < j_762)) && (decide (r_788 < 0)))))] [.fx 40 2 (List.map enc_api_Setting o0_763)] by
   rcases Bool.eq_false_or_eq_true (decide (a_1 < j_762)) with hg_789 | hg_789
   ·
    have c_790 := c_786 hg_789
    have c_791 := c_787 hg_789
    have hr_792 := fun h => getD_encB (l := o0_763) (e := enc_api_Setting) (d := (api_Setting.mk [] [])) (i := j_762.toNat) h []
    have hr_793 := fun h => getD_encB (l := o0_763) (e := enc_api_Setting) (d := (api_Setting.mk [] [])) (i := (IntKind.i64.wrap (j_762 - 1)).toNat) h []
    simp only [go_sem, simprocAttr, false_implies, and_true, true_and, bad, hg_789, hr_792 (by omega), hr_793 (by omega)]
    try refine ⟨by first | exact sd | ((repeat' apply And.intro) <;> first | assumption | omega | (simp only [List.length_append, List.length_map, List.length_cons, List.length_nil, List.length_set, List.length_replicate] at c_786 c_787 c_790 c_791 ⊢; omega)), ?_⟩
    refine Dr.callF (av := ?av10) (g := decide (a_1 < j_762)) (o := ?o10) (fun hg => ok_Law_fit_1 (api_Setting.mk ((o0_763.getD j_762.toNat (api_Setting.mk [] [])).Key) ((o0_763.getD j_762.toNat (api_Setting.mk [] [])).Value)) (api_Setting.mk ((o0_763.getD ((IntKind.i64.wrap (j_762 - 1)).toNat) (api_Setting.mk [] [])).Key) ((o0_763.getD ((IntKind.i64.wrap (j_762 - 1)).toNat) (api_Setting.mk [] [])).Value)) _ (hr_788 hg)) (by simp only [go_sem, simprocAttr, false_implies, and_true, true_and, bad, hg_789, hr_792 (by omega), hr_793 (by omega)]; exact Is.mk) (by simp only [go_sem, simprocAttr, false_implies, and_true, true_and, bad, hg_789, hr_792 (by omega), hr_793 (by omega)]; exact Is.mk) (by simp only [go_sem, simprocAttr, false_implies, and_true, true_and, bad, hg_789, hr_792 (by omega), hr_793 (by omega)]; exact Is.mk) (by simp only [go_sem, simprocAttr, false_implies, and_true, true_and, bad, hg_789, hr_792 (by omega), hr_793 (by omega)]; exact Is.mk) (by simp only [go_sem, simprocAttr, false_implies, and_true, true_and, bad, hg_789, hr_792 (by omega), hr_793 (by omega)]) (by simp only [go_sem, simprocAttr, false_implies, and_true, true_and, bad, hg_789, hr_792 (by omega), hr_793 (by omega)]; exact Is.mk) ?cont10
    simp only [go_sem, simprocAttr, false_implies, and_true, true_and, bad, hg_789, hr_792 (by omega), hr_793 (by omega)]
    first | refine hW9 _ _ _ _ ?_ hcont9 | refine ⟨by first | exact sd | ((repeat' apply And.intro) <;> first | assumption | omega | (simp only [List.length_append, List.length_map, List.length_cons, List.length_nil, List.length_set, List.length_replicate] at c_786 c_787 c_790 c_791 ⊢; omega)), hW9 _ _ _ _ ?_ hcont9⟩
    simp only [go_sem, simprocAttr, false_implies, and_true, true_and, bad, hg_789, hr_792 (by omega), hr_793 (by omega)]
    try exact se1
   ·
    rcases Nat.lt_or_ge j_762.toNat o0_763.length with hi_794 | hi_794
    ·
     have hr_795 := getD_encB (l := o0_763) (e := enc_api_Setting) (d := (api_Setting.mk [] [])) (i := j_762.toNat) hi_794 []
     rcases Nat.lt_or_ge ((IntKind.i64.wrap (j_762 - 1)).toNat) o0_763.length with hi_796 | hi_796
     ·
      have hr_797 := getD_encB (l := o0_763) (e := enc_api_Setting) (d := (api_Setting.mk [] [])) (i := (IntKind.i64.wrap (j_762 - 1)).toNat) hi_796 []
      simp only [go_sem, simprocAttr, false_implies, and_true, true_and, bad, hg_789, hr_795, hr_797]
      try refine ⟨by first | exact sd | ((repeat' apply And.intro) <;> first | assumption | omega | (simp only [List.length_append, List.length_map, List.length_cons, List.length_nil, List.length_set, List.length_replicate] at c_786 c_787 ⊢; omega)), ?_⟩
      refine Dr.skipG (o := ?o11) (v := .p (.i .i64 r_788)) (gw := ?gw11) (by simp only [go_sem, simprocAttr, false_implies, and_true, true_and, bad, hg_789, hr_795, hr_797]; exact Is.mk) (by simp only [go_sem, simprocAttr, false_implies, and_true, true_and, bad, hg_789, hr_795, hr_797]; exact Is.mk) (by simp only [go_sem, simprocAttr, false_implies, and_true, true_and, bad, hg_789, hr_795, hr_797]; exact Is.mk) (by simp only [go_sem, simprocAttr, false_implies, and_true, true_and, bad, hg_789, hr_795, hr_797]) ?cont11
      simp only [go_sem, simprocAttr, false_implies, and_true, true_and, bad, hg_789, hr_795, hr_797]
      first | refine hW9 _ _ _ _ ?_ hcont9 | refine ⟨by first | exact sd | ((repeat' apply And.intro) <;> first | assumption | omega | (simp only [List.length_append, List.length_map, List.length_cons, List.length_nil, List.length_set, List.length_replicate] at c_786 c_787 ⊢; omega)), hW9 _ _ _ _ ?_ hcont9⟩
      simp only [go_sem, simprocAttr, false_implies, and_true, true_and, bad, hg_789, hr_795, hr_797]
      try exact se1
     ·
      have hr_797 : (List.map enc_api_Setting o0_763).getD ((IntKind.i64.wrap (j_762 - 1)).toNat) [] = [] := by rw [List.getD_eq_getElem?_getD, List.getElem?_eq_none (by simpa using hi_796)]; rfl
      simp only [go_sem, simprocAttr, false_implies, and_true, true_and, bad, hg_789, hr_795, hr_797]
      try refine ⟨by first | exact sd | ((repeat' apply And.intro) <;> first | assumption | omega | (simp only [List.length_append, List.length_map, List.length_cons, List.length_nil, List.length_set, List.length_replicate] at c_786 c_787 ⊢; omega)), ?_⟩
      refine Dr.skipG (o := ?o12) (v := .p (.i .i64 r_788)) (gw := ?gw12) (by simp only [go_sem, simprocAttr, false_implies, and_true, true_and, bad, hg_789, hr_795, hr_797]; exact Is.mk) (by simp only [go_sem, simprocAttr, false_implies, and_true, true_and, bad, hg_789, hr_795, hr_797]; exact Is.mk) (by simp only [go_sem, simprocAttr, false_implies, and_true, true_and, bad, hg_789, hr_795, hr_797]; exact Is.mk) (by simp only [go_sem, simprocAttr, false_implies, and_true, true_and, bad, hg_789, hr_795, hr_797]) ?cont12
      simp only [go_sem, simprocAttr, false_implies, and_true, true_and, bad, hg_789, hr_795, hr_797]
      first | refine hW9 _ _ _ _ ?_ hcont9 | refine ⟨by first | exact sd | ((repeat' apply And.intro) <;> first | assumption | omega | (simp only [List.length_append, List.length_map, List.length_cons, List.length_nil, List.length_set, List.length_replicate] at c_786 c_787 ⊢; omega)), hW9 _ _ _ _ ?_ hcont9⟩
      simp only [go_sem, simprocAttr, false_implies, and_true, true_and, bad, hg_789, hr_795, hr_797]
      try exact se1
    ·
     have hr_795 : (List.map enc_api_Setting o0_763).getD j_762.toNat [] = [] := by rw [List.getD_eq_getElem?_getD, List.getElem?_eq_none (by simpa using hi_794)]; rfl
     rcases Nat.lt_or_ge ((IntKind.i64.wrap (j_762 - 1)).toNat) o0_763.length with hi_798 | hi_798
     ·
      have hr_799 := getD_encB (l := o0_763) (e := enc_api_Setting) (d := (api_Setting.mk [] [])) (i := (IntKind.i64.wrap (j_762 - 1)).toNat) hi_798 []
      simp only [go_sem, simprocAttr, false_implies, and_true, true_and, bad, hg_789, hr_795, hr_799]
      try refine ⟨by first | exact sd | ((repeat' apply And.intro) <;> first | assumption | omega | (simp only [List.length_append, List.length_map, List.length_cons, List.length_nil, List.length_set, List.length_replicate] at c_786 c_787 ⊢; omega)), ?_⟩
      refine Dr.skipG (o := ?o13) (v := .p (.i .i64 r_788)) (gw := ?gw13) (by simp only [go_sem, simprocAttr, false_implies, and_true, true_and, bad, hg_789, hr_795, hr_799]; exact Is.mk) (by simp only [go_sem, simprocAttr, false_implies, and_true, true_and, bad, hg_789, hr_795, hr_799]; exact Is.mk) (by simp only [go_sem, simprocAttr, false_implies, and_true, true_and, bad, hg_789, hr_795, hr_799]; exact Is.mk) (by simp only [go_sem, simprocAttr, false_implies, and_true, true_and, bad, hg_789, hr_795, hr_799]) ?cont13
      simp only [go_sem, simprocAttr, false_implies, and_true, true_and, bad, hg_789, hr_795, hr_799]
      first | refine hW9 _ _ _ _ ?_ hcont9 | refine ⟨by first | exact sd | ((repeat' apply And.intro) <;> first | assumption | omega | (simp only [List.length_append, List.length_map, List.length_cons, List.length_nil, List.length_set, List.length_replicate] at c_786 c_787 ⊢; omega)), hW9 _ _ _ _ ?_ hcont9⟩
      simp only [go_sem, simprocAttr, false_implies, and_true, true_and, bad, hg_789, hr_795, hr_799]
      try exact se1
     ·
      have hr_799 : (List.map enc_api_Setting o0_763).getD ((IntKind.i64.wrap (j_762 - 1)).toNat) [] = [] := by rw [List.getD_eq_getElem?_getD, List.getElem?_eq_none (by simpa using hi_798)]; rfl
      simp only [go_sem, simprocAttr, false_implies, and_true, true_and, bad, hg_789, hr_795, hr_799]
      try refine ⟨by first | exact sd | ((repeat' apply And.intro) <;> first | assumption | omega | (simp only [List.length_append, List.length_map, List.length_cons, List.length_nil, List.length_set, List.length_replicate] at c_786 c_787 ⊢; omega)), ?_⟩
      refine Dr.skipG (o := ?o14) (v := .p (.i .i64 r_788)) (gw := ?gw14) (by simp only [go_sem, simprocAttr, false_implies, and_true, true_and, bad, hg_789, hr_795, hr_799]; exact Is.mk) (by simp only [go_sem, simprocAttr, false_implies, and_true, true_and, bad, hg_789, hr_795, hr_799]; exact Is.mk) (by simp only [go_sem, simprocAttr, false_implies, and_true, true_and, bad, hg_789, hr_795, hr_799]; exact Is.mk) (by simp only [go_sem, simprocAttr, false_implies, and_true, true_and, bad, hg_789, hr_795, hr_799]) ?cont14
      simp only [go_sem, simprocAttr, false_implies, and_true, true_and, bad, hg_789, hr_795, hr_799]
      first | refine hW9 _ _ _ _ ?_ hcont9 | refine ⟨by first | exact sd | ((repeat' apply And.intro) <;> first | assumption | omega | (simp only [List.length_append, List.length_map, List.length_cons, List.length_nil, List.length_set, List.length_replicate] at c_786 c_787 ⊢; omega)), hW9 _ _ _ _ ?_ hcont9⟩
      simp only [go_sem, simprocAttr, false_implies, and_true, true_and, bad, hg_789, hr_795, hr_799]
      try exact se1
  refine hK9 _ _ ?_
  refine cM hm (fun hc15 hm => ?_) (fun hc15 hm => ?_)
  ·refine Wp.skip ?_
   refine hK8 _ _ ?_
   refine Wp.seqW fun K16 hK16 hW16 => ?_
   refine Wp.block ?_
   obtain ⟨c_800, hm⟩ := chk_elim hm
   obtain ⟨c_801, hm⟩ := chk_elim hm
   obtain ⟨c_802, hm⟩ := chk_elim hm
   obtain ⟨c_803, hm⟩ := chk_elim hm
   have hr_804 := fun h => getD_encB (l := o0_763) (e := enc_api_Setting) (d := (api_Setting.mk [] [])) (i := (IntKind.i64.wrap (j_762 - 1)).toNat) h []
   have hr_805 := fun h => getD_encB (l := o0_763) (e := enc_api_Setting) (d := (api_Setting.mk [] [])) (i := j_762.toNat) h []
   refine Wp.regD (plan := pl [(0, none), (1, none), (2, none), (3, none), (4, none), (5, none), (6, none), (7, none), (8, none), (9, none), (10, none), (11, none), (12, none), (13, none), (14, none), (15, some [2, 3, 4]), (16, none), (17, some [])]) (by kernel_rfl) rfl (by kernel_rfl) fun K17 hK17 => ?_
   simp only [go_sem, simprocAttr, hr_804 (by omega), hr_805 (by omega)]
   first | apply hK17 | refine ⟨by first | exact sd | ((repeat' apply And.intro) <;> first | assumption | omega | (simp only [List.length_append, List.length_map, List.length_cons, List.length_nil, List.length_set, List.length_replicate] at c_800 c_801 c_802 c_803 ⊢; omega)), hK17 _ _ ?_⟩
   refine hK16 _ _ ?_
   refine qR ?_
   simp only [thenQ, blockQ, ↓reduceIte]
   refine ⟨(IntKind.i64.wrap (j_762 - 1), List.set (List.set o0_763 j_762.toNat (api_Setting.mk ((o0_763.getD ((IntKind.i64.wrap (j_762 - 1)).toNat) (api_Setting.mk [] [])).Key) ((o0_763.getD ((IntKind.i64.wrap (j_762 - 1)).toNat) (api_Setting.mk [] [])).Value))) ((IntKind.i64.wrap (j_762 - 1)).toNat) (api_Setting.mk ((o0_763.getD j_762.toNat (api_Setting.mk [] [])).Key) ((o0_763.getD j_762.toNat (api_Setting.mk [] [])).Value))), hm, ?_⟩
   exact fse1
  ·refine Wp.exit ?_
   simp only [thenQ, blockQ, ↓reduceIte]
   have hm := hk_784 _ hm
   try dsimp only at hm
   refine hW5 _ _ _ _ ?_ (hcut5 o0_763 hm)
   exact fse1
 ·refine Wp.exit ?_
  simp only [thenQ, blockQ, ↓reduceIte]
  have hm := hk_672 _ hm
  try dsimp only at hm
  refine retQ_normal ?_
  cases hm
  exact fse1
theorem ok_slices_stableCmpFunc_api_Setting_i1 (n_1 : Int) (o0_2 : List api_Setting) (z : List api_Setting) (hm : slices_stableCmpFunc_api_Setting_i1 n_1 o0_2 = some z) : Does Tryz.prog 213 [.buf 0, .p (.i .i64 n_1), .fn 96 []] [.fx 40 2 (List.map enc_api_Setting o0_2)] (fun r X => r = .tup [] ∧ X = [.fx 40 2 (List.map enc_api_Setting z)]) := by
 unfold slices_stableCmpFunc_api_Setting_i1 at hm
 refine Does.of_wp 1 63 [] Tryz.func213 rfl (by decide) rfl rfl (Nat.le_of_ble_eq_true rfl) fun B => ?_
 refine qS ?_
 refine qS ?_
 refine Wp.seqW fun K3 hK3 hW3 => ?_
 obtain ⟨k_60, hk_60, hm⟩ := jp_elim hm
 have hcut3 : ∀ s, k_60 s = some z → K3 [(0, .buf 0), (1, .p (.i .i64 n_1)), (2, .fn 96 []), (6, .p (.i .i64 20)), (7, .p (.i .i64 s.1))] [.fx 40 2 (List.map enc_api_Setting s.2)] := by
  intro s hs
  have hm := hk_60 _ hs
  clear hs
  obtain ⟨a_58, o0_59⟩ := s
  try dsimp only at hm
  try dsimp only
  refine hK3 _ _ ?_
  obtain ⟨r_61, hr_61, hm⟩ := call_elim hm
  refine Wp.seqR fun K4 hK4 => ?_
  simp only [go_sem, simprocAttr]
  try refine ⟨sd, ?_⟩
  refine Rg.callO (av := ?av5) [0] (ok_slices_insertionSortCmpFunc_api_Setting_i1 a_58 n_1 o0_59 _ hr_61) si si si sg sg ?cont5
  rintro _ _ ⟨rfl, rfl⟩ hv5
  simp only [go_sem, simprocAttr]
  first | apply hK4 | refine ⟨sd, hK4 _ _ ?_⟩
  refine Wp.block ?_
  obtain ⟨k_72, hk_72, hm⟩ := loopN_cont hm
  refine Wp.loopN (fun s => [(0, .buf 0), (1, .p (.i .i64 n_1)), (2, .fn 96 []), (6, .p (.i .i64 s))]) (fun s => [.fx 40 2 (List.map enc_api_Setting r_61)]) ?_ hm ?_
  ·
   exact fse1
  clear hm
  intro blockSize_62 nx_73 hm
  try dsimp only at hm
  try dsimp only
  refine Wp.seqW fun K6 hK6 hW6 => ?_
  refine qS ?_
  refine cM hm (fun hc8 hm => ?_) (fun hc8 hm => ?_)
  ·refine Wp.skip ?_
   refine hK6 _ _ ?_
   refine Wp.block ?_
   refine qS ?_
   refine Wp.seqW fun K10 hK10 hW10 => ?_
   obtain ⟨k_78, hk_78, hm⟩ := jp_elim hm
   have hcut10 : ∀ s, k_78 s = some z → K10 [(0, .buf 0), (1, .p (.i .i64 n_1)), (2, .fn 96 []), (6, .p (.i .i64 blockSize_62)), (7, .p (.i .i64 0))] [.fx 40 2 (List.map enc_api_Setting r_61)] := by
    intro s hs
    have hm := hk_78 _ hs
    clear hs
    try dsimp only at hm
    try dsimp only
    refine hK10 _ _ ?_
    refine Wp.seqW fun K11 hK11 hW11 => ?_
    refine qS ?_
    refine qS ?_
    refine cM hm (fun hc14 hm => ?_) (fun hc14 hm => ?_)
    ·cases hm
    ·refine Wp.skip ?_
     refine hK11 _ _ ?_
     refine qR ?_
     simp only [thenQ, blockQ, ↓reduceIte]
     refine ⟨IntKind.i64.wrap (blockSize_62 * 2), hm, ?_⟩
     exact fse1
   clear hK10 hk_78
   refine Wp.block ?_
   obtain ⟨k_81, hk_81, hm⟩ := loopN_cont hm
   refine Wp.loopN (fun s => [(0, .buf 0), (1, .p (.i .i64 n_1)), (2, .fn 96 []), (6, .p (.i .i64 blockSize_62)), (7, .p (.i .i64 0)), (8, .p (.i .i64 (IntKind.i64.wrap (2 * blockSize_62))))]) (fun s => [.fx 40 2 (List.map enc_api_Setting r_61)]) ?_ hm ?_
   ·
    exact fse1
   clear hm
   intro s nx_82 hm
   try dsimp only at hm
   try dsimp only
   refine Wp.seqW fun K16 hK16 hW16 => ?_
   refine qS ?_
   refine cM hm (fun hc18 hm => ?_) (fun hc18 hm => ?_)
   ·refine Wp.skip ?_
    refine hK16 _ _ ?_
    refine Wp.block ?_
    cases hm
   ·refine Wp.exit ?_
    simp only [thenQ, blockQ, ↓reduceIte]
    have hm := hk_81 _ hm
    try dsimp only at hm
    refine hW10 _ _ _ _ ?_ (hcut10 () hm)
    exact fse1
  ·refine Wp.exit ?_
   simp only [thenQ, blockQ, ↓reduceIte]
   have hm := hk_72 _ hm
   try dsimp only at hm
   refine retQ_normal ?_
   cases hm
   exact fse1
 clear hK3 hk_60
 refine Wp.block ?_
 obtain ⟨k_90, hk_90, hm⟩ := loopN_cont hm
 refine Wp.loopN (fun s => [(0, .buf 0), (1, .p (.i .i64 n_1)), (2, .fn 96 []), (6, .p (.i .i64 20)), (7, .p (.i .i64 s.1)), (8, .p (.i .i64 s.2.1))]) (fun s => [.fx 40 2 (List.map enc_api_Setting s.2.2)]) ?_ hm ?_
 ·
  exact fse1
 clear hm
 intro s nx_91 hm
 obtain ⟨a_86, b_87, o0_88⟩ := s
 try dsimp only at hm
 try dsimp only
 refine Wp.seqW fun K19 hK19 hW19 => ?_
 refine qS ?_
 refine cM hm (fun hc21 hm => ?_) (fun hc21 hm => ?_)
 ·refine Wp.skip ?_
  refine hK19 _ _ ?_
  refine Wp.block ?_
  obtain ⟨r_92, hr_92, hm⟩ := call_elim hm
  refine Wp.seqR fun K22 hK22 => ?_
  simp only [go_sem, simprocAttr]
  try refine ⟨sd, ?_⟩
  refine Rg.callO (av := ?av23) [0] (ok_slices_insertionSortCmpFunc_api_Setting_i1 a_86 b_87 o0_88 _ hr_92) si si si sg sg ?cont23
  rintro _ _ ⟨rfl, rfl⟩ hv23
  simp only [go_sem, simprocAttr]
  first | apply hK22 | refine ⟨sd, hK22 _ _ ?_⟩
  refine qS ?_
  refine qR ?_
  simp only [thenQ, blockQ, ↓reduceIte]
  refine ⟨(b_87, IntKind.i64.wrap (b_87 + 20), r_92), hm, ?_⟩
  exact fse1
 ·refine Wp.exit ?_
  simp only [thenQ, blockQ, ↓reduceIte]
  have hm := hk_90 _ hm
  try dsimp only at hm
  refine hW3 _ _ _ _ ?_ (hcut3 (a_86, o0_88) hm)
  exact fse1
theorem ok_slices_SortStableFunc_api_Setting_api_Setting_i1 (o0_1 : List api_Setting) (z : List api_Setting) (hm : slices_SortStableFunc_api_Setting_api_Setting_i1 o0_1 = some z) : Does Tryz.prog 95 [.buf 0, .fn 96 []] [.fx 40 2 (List.map enc_api_Setting o0_1)] (fun r X => r = .tup [] ∧ X = [.fx 40 2 (List.map enc_api_Setting z)]) := by
 unfold slices_SortStableFunc_api_Setting_api_Setting_i1 at hm
 refine Does.of_wp 1 9 [] Tryz.func95 rfl (by decide) rfl rfl (Nat.le_of_ble_eq_true rfl) fun B => ?_
 obtain ⟨r_3, hr_3, hm⟩ := call_elim hm
 refine Wp.region fun K1 hK1 => ?_
 simp only [go_sem, simprocAttr]
 try refine ⟨sd, ?_⟩
 refine Rg.callO (av := ?av2) [0] (ok_slices_stableCmpFunc_api_Setting_i1 (o0_1.length : Int) o0_1 _ hr_3) si si si sg sg ?cont2
 rintro _ _ ⟨rfl, rfl⟩ hv2
 simp only [go_sem, simprocAttr]
 first | apply hK1 | refine ⟨sd, hK1 _ _ ?_⟩
 refine retQ_normal ?_
 cases hm
 exact fse1
theorem ok_Law_fit_2 (a_1 : api_Setting) (b_2 : api_Setting) (z : Bool) (hm : Law_fit_2 a_1 b_2 = some z) : Does Tryz.prog 99 [.agg [.p (.s a_1.Key), .p (.s a_1.Value)], .agg [.p (.s b_2.Key), .p (.s b_2.Value)]] [] (fun r X => r = .p (.b z) ∧ X = []) := by
 unfold Law_fit_2 at hm
 refine Does.of_wp 0 10 [.tmp 4] Tryz.func99 rfl (by decide) rfl rfl (Nat.le_of_ble_eq_true rfl) fun B => ?_
 refine qS ?_
 refine qS ?_
 refine Wp.ret ?_
 refine retQ_ret ?_
 cases hm
 exact fse1
theorem ok_slices_CompactFunc_api_Setting_api_Setting_i1 (o0_1 : List api_Setting) (z : Nat × Nat × List api_Setting) (hm : slices_CompactFunc_api_Setting_api_Setting_i1 o0_1 = some z) : Does Tryz.prog 98 [.buf 0, .fn 99 []] [.fx 40 2 (List.map enc_api_Setting o0_1)] (fun r X => r = .vw 0 2 z.1 z.2.1 ∧ X = [.fx 40 2 (List.map enc_api_Setting z.2.2)]) := by
 unfold slices_CompactFunc_api_Setting_api_Setting_i1 at hm
 refine Does.of_wp 1 66 [.tmp 4] Tryz.func98 rfl (by decide) rfl rfl (Nat.le_of_ble_eq_true rfl) fun B => ?_
 refine Wp.toView 0 0 (by simp only [go_sem, simprocAttr]; exact Is.mk) (by simp only [go_sem, simprocAttr]; exact Is.mk) ?_
 simp only [go_sem, simprocAttr]
 refine qS ?_
 refine Wp.seqW fun K2 hK2 hW2 => ?_
 refine qS ?_
 refine cM hm (fun hc4 hm => ?_) (fun hc4 hm => ?_)
 ·refine qS ?_
  refine Wp.ret ?_
  refine retQ_ret ?_
  cases hm
  exact fse1
 ·refine Wp.skip ?_
  refine hK2 _ _ ?_
  refine Wp.seqW fun K6 hK6 hW6 => ?_
  obtain ⟨k_1158, hk_1158, hm⟩ := jp_elim hm
  have hcut6 : ∀ s, k_1158 s = some z → K6 [(0, .vw 0 2 0 o0_1.length)] [.fx 40 2 (List.map enc_api_Setting o0_1)] := by
   intro s hs
   have hm := hk_1158 _ hs
   clear hs
   try dsimp only at hm
   try dsimp only
   refine hK6 _ _ ?_
   refine qS ?_
   refine Wp.ret ?_
   refine retQ_ret ?_
   cases hm
   exact fse1
  clear hK6 hk_1158
  refine qS ?_
  refine Wp.block ?_
  obtain ⟨k_1351, hk_1351, hm⟩ := loopN_cont hm
  refine Wp.loopN (fun s => [(0, .vw 0 2 0 o0_1.length), (1, .fn 99 []), (5, .p (.i .i64 s))]) (fun s => [.fx 40 2 (List.map enc_api_Setting o0_1)]) ?_ hm ?_
  ·
   exact fse1
  clear hm
  intro k_1159 nx_1352 hm
  try dsimp only at hm
  try dsimp only
  refine Wp.seqW fun K9 hK9 hW9 => ?_
  refine qS ?_
  refine cM hm (fun hc11 hm => ?_) (fun hc11 hm => ?_)
  ·refine Wp.skip ?_
   refine hK9 _ _ ?_
   refine Wp.seqW fun K12 hK12 hW12 => ?_
   obtain ⟨k_1448, hk_1448, hm⟩ := jp_elim hm
   have hcut12 : ∀ s, k_1448 s = some z → K12 [(0, .vw 0 2 0 o0_1.length), (1, .fn 99 []), (5, .p (.i .i64 k_1159))] [.fx 40 2 (List.map enc_api_Setting o0_1)] := by
    intro s hs
    have hm := hk_1448 _ hs
    clear hs
    try dsimp only at hm
    try dsimp only
    refine hK12 _ _ ?_
    refine qR ?_
    simp only [thenQ, blockQ, ↓reduceIte]
    refine ⟨IntKind.i64.wrap (k_1159 + 1), hm, ?_⟩
    exact fse1
   clear hK12 hk_1448
   refine Wp.block ?_
   obtain ⟨c_1449, hm⟩ := chk_elim hm
   obtain ⟨c_1450, hm⟩ := chk_elim hm
   obtain ⟨r_1451, hr_1451, hm⟩ := call_elim hm
   have hr_1452 := fun h => getD_encB (l := o0_1) (e := enc_api_Setting) (d := (api_Setting.mk [] [])) (i := (k_1159.toNat : Nat)) h []
   have hr_1453 := fun h => getD_encB (l := o0_1) (e := enc_api_Setting) (d := (api_Setting.mk [] [])) (i := ((IntKind.i64.wrap (k_1159 - 1)).toNat : Nat)) h []
   refine Wp.seqD (plan := pl [(0, none), (1, none), (2, none), (3, none), (4, none), (5, none), (6, none), (7, none), (8, none), (9, none), (10, none)]) (by kernel_rfl) rfl (by kernel_rfl) fun K14 hK14 => ?_
   simp only [go_sem, simprocAttr, hr_1452 (by omega), hr_1453 (by omega)]
   try refine ⟨by first | exact sd | ((repeat' apply And.intro) <;> first | assumption | omega | (simp only [List.length_append, List.length_map, List.length_cons, List.length_nil, List.length_set, List.length_replicate] at c_1449 c_1450 ⊢; omega)), ?_⟩
   refine Dr.callF (av := ?av15) (g := true) (o := ?o15) (fun hg => ok_Law_fit_2 (api_Setting.mk ((o0_1.getD (k_1159.toNat : Nat) (api_Setting.mk [] [])).Key) ((o0_1.getD (k_1159.toNat : Nat) (api_Setting.mk [] [])).Value)) (api_Setting.mk ((o0_1.getD ((IntKind.i64.wrap (k_1159 - 1)).toNat : Nat) (api_Setting.mk [] [])).Key) ((o0_1.getD ((IntKind.i64.wrap (k_1159 - 1)).toNat : Nat) (api_Setting.mk [] [])).Value)) _ hr_1451) (by simp only [go_sem, simprocAttr, hr_1452 (by omega), hr_1453 (by omega)]; exact Is.mk) (by simp only [go_sem, simprocAttr, hr_1452 (by omega), hr_1453 (by omega)]; exact Is.mk) (by simp only [go_sem, simprocAttr, hr_1452 (by omega), hr_1453 (by omega)]; exact Is.mk) (by simp only [go_sem, simprocAttr, hr_1452 (by omega), hr_1453 (by omega)]; exact Is.mk) (by simp only [go_sem, simprocAttr, hr_1452 (by omega), hr_1453 (by omega)]) (by simp only [go_sem, simprocAttr, hr_1452 (by omega), hr_1453 (by omega)]; exact Is.mk) ?cont15
   simp only [go_sem, simprocAttr, hr_1452 (by omega), hr_1453 (by omega)]
   first | apply hK14 | refine ⟨by first | exact sd | ((repeat' apply And.intro) <;> first | assumption | omega | (simp only [List.length_append, List.length_map, List.length_cons, List.length_nil, List.length_set, List.length_replicate] at c_1449 c_1450 ⊢; omega)), hK14 _ _ ?_⟩
   refine cM hm (fun hc16 hm => ?_) (fun hc16 hm => ?_)
   ·obtain ⟨c_1454, hm⟩ := chk_elim hm
    refine Wp.seqR fun K17 hK17 => ?_
    simp only [go_sem, simprocAttr]
    first | apply hK17 | refine ⟨by first | exact sd | ((repeat' apply And.intro) <;> first | assumption | omega | (simp only [List.length_append, List.length_map, List.length_cons, List.length_nil, List.length_set, List.length_replicate] at c_1454 ⊢; omega)), hK17 _ _ ?_⟩
    refine Wp.seqW fun K18 hK18 hW18 => ?_
    obtain ⟨k_1499, hk_1499, hm⟩ := jp_elim hm
    have hcut18 : ∀ s, k_1499 s = some z → K18 [(0, .vw 0 2 0 o0_1.length), (5, .p (.i .i64 s.1))] [.fx 40 2 (List.map enc_api_Setting s.2)] := by
     intro s hs
     have hm := hk_1499 _ hs
     clear hs
     obtain ⟨k_1497, o0_1498⟩ := s
     try dsimp only at hm
     try dsimp only
     refine hK18 _ _ ?_
     obtain ⟨c_1500, hm⟩ := chk_elim hm
     refine Wp.seqR fun K19 hK19 => ?_
     simp only [go_sem, simprocAttr]
     try refine ⟨by first | exact sd | ((repeat' apply And.intro) <;> first | assumption | omega | (simp only [List.length_append, List.length_map, List.length_cons, List.length_nil, List.length_set, List.length_replicate] at c_1500 ⊢; omega)), ?_⟩
     refine Rg.clear (i := ?i20) (sz := ?sz20) (a := ?a20) (m := ?m20) (T := ?T20) (rows := ?rows20) (e := ?e20) (eb := ?eb20) (ez := ?ez20) (z := ?z20) (fx := ?fx20) Is.mk Is.mk Is.mk Is.mk Is.mk sg sg si si si si sg sg sg ?cont20
     simp only [go_sem, simprocAttr]
     first | apply hK19 | refine ⟨by first | exact sd | ((repeat' apply And.intro) <;> first | assumption | omega | (simp only [List.length_append, List.length_map, List.length_cons, List.length_nil, List.length_set, List.length_replicate] at c_1500 ⊢; omega)), hK19 _ _ ?_⟩
     obtain ⟨c_1501, hm⟩ := chk_elim hm
     refine Wp.seqR fun K21 hK21 => ?_
     simp only [go_sem, simprocAttr]
     first | apply hK21 | refine ⟨by first | exact sd | ((repeat' apply And.intro) <;> first | assumption | omega | (simp only [List.length_append, List.length_map, List.length_cons, List.length_nil, List.length_set, List.length_replicate] at c_1501 ⊢; omega)), hK21 _ _ ?_⟩
     refine Wp.ret ?_
     refine retQ_ret ?_
     cases hm
     exact fse1
    clear hK18 hk_1499
    refine qS ?_
    refine Wp.block ?_
    obtain ⟨k_1530, hk_1530, hm⟩ := loopN_cont hm
    refine Wp.loopN (fun s => [(0, .vw 0 2 0 o0_1.length), (1, .fn 99 []), (5, .p (.i .i64 s.1)), (6, .vw 0 2 k_1159.toNat (o0_1.length - k_1159.toNat)), (7, .p (.i .i64 s.2.1))]) (fun s => [.fx 40 2 (List.map enc_api_Setting s.2.2)]) ?_ hm ?_
    ·
     exact fse1
    clear hm
    intro s nx_1531 hm
    obtain ⟨k_1515, k2_1516, o0_1517⟩ := s
    try dsimp only at hm
    try dsimp only
    refine Wp.seqW fun K23 hK23 hW23 => ?_
    refine qS ?_
    refine cM hm (fun hc25 hm => ?_) (fun hc25 hm => ?_)
    ·refine Wp.skip ?_
     refine hK23 _ _ ?_
     refine Wp.seqW fun K26 hK26 hW26 => ?_
     refine Wp.block ?_
     obtain ⟨c_1532, hm⟩ := chk_elim hm
     obtain ⟨c_1533, hm⟩ := chk_elim hm
     obtain ⟨c_1534, hm⟩ := chk_elim hm
     obtain ⟨c_1535, hm⟩ := chk_elim hm
     obtain ⟨r_1536, hr_1536, hm⟩ := call_elim hm
     have hr_1537 := fun h => getD_encB (l := o0_1517) (e := enc_api_Setting) (d := (api_Setting.mk [] [])) (i := (k_1159.toNat + k2_1516.toNat : Nat)) h []
     have hr_1538 := fun h => getD_encB (l := o0_1517) (e := enc_api_Setting) (d := (api_Setting.mk [] [])) (i := (k_1159.toNat + ((IntKind.i64.wrap (k2_1516 - 1)).toNat) : Nat)) h []
     refine Wp.seqD (plan := pl [(0, none), (1, none), (2, none), (3, none), (4, none), (5, none), (6, none), (7, none), (8, none), (9, none), (10, none), (11, none)]) (by kernel_rfl) rfl (by kernel_rfl) fun K27 hK27 => ?_
     simp only [go_sem, simprocAttr, hr_1537 (by omega), hr_1538 (by omega)]
     try refine ⟨by first | exact sd | ((repeat' apply And.intro) <;> first | assumption | omega | (simp only [List.length_append, List.length_map, List.length_cons, List.length_nil, List.length_set, List.length_replicate] at c_1532 c_1533 c_1534 c_1535 ⊢; omega)), ?_⟩
     refine Dr.callF (av := ?av28) (g := true) (o := ?o28) (fun hg => ok_Law_fit_2 (api_Setting.mk ((o0_1517.getD (k_1159.toNat + k2_1516.toNat : Nat) (api_Setting.mk [] [])).Key) ((o0_1517.getD (k_1159.toNat + k2_1516.toNat : Nat) (api_Setting.mk [] [])).Value)) (api_Setting.mk ((o0_1517.getD (k_1159.toNat + ((IntKind.i64.wrap (k2_1516 - 1)).toNat) : Nat) (api_Setting.mk [] [])).Key) ((o0_1517.getD (k_1159.toNat + ((IntKind.i64.wrap (k2_1516 - 1)).toNat) : Nat) (api_Setting.mk [] [])).Value)) _ hr_1536) (by simp only [go_sem, simprocAttr, hr_1537 (by omega), hr_1538 (by omega)]; exact Is.mk) (by simp only [go_sem, simprocAttr, hr_1537 (by omega), hr_1538 (by omega)]; exact Is.mk) (by simp only [go_sem, simprocAttr, hr_1537 (by omega), hr_1538 (by omega)]; exact Is.mk) (by simp only [go_sem, simprocAttr, hr_1537 (by omega), hr_1538 (by omega)]; exact Is.mk) (by simp only [go_sem, simprocAttr, hr_1537 (by omega), hr_1538 (by omega)]) (by simp only [go_sem, simprocAttr, hr_1537 (by omega), hr_1538 (by omega)]; exact Is.mk) ?cont28
     simp only [go_sem, simprocAttr, hr_1537 (by omega), hr_1538 (by omega)]
     first | apply hK27 | refine ⟨by first | exact sd | ((repeat' apply And.intro) <;> first | assumption | omega | (simp only [List.length_append, List.length_map, List.length_cons, List.length_nil, List.length_set, List.length_replicate] at c_1532 c_1533 c_1534 c_1535 ⊢; omega)), hK27 _ _ ?_⟩
     refine cM hm (fun hc29 hm => ?_) (fun hc29 hm => ?_)
     ·obtain ⟨c_1539, hm⟩ := chk_elim hm
      obtain ⟨c_1540, hm⟩ := chk_elim hm
      obtain ⟨c_1541, hm⟩ := chk_elim hm
      obtain ⟨c_1542, hm⟩ := chk_elim hm
      have hr_1543 := fun h => getD_encB (l := o0_1517) (e := enc_api_Setting) (d := (api_Setting.mk [] [])) (i := (k_1159.toNat + k2_1516.toNat : Nat)) h []
      refine Wp.seqR fun K30 hK30 => ?_
      simp only [go_sem, simprocAttr, hr_1543 (by omega)]
      first | apply hK30 | refine ⟨by first | exact sd | ((repeat' apply And.intro) <;> first | assumption | omega | (simp only [List.length_append, List.length_map, List.length_cons, List.length_nil, List.length_set, List.length_replicate] at c_1539 c_1540 c_1541 c_1542 ⊢; omega)), hK30 _ _ ?_⟩
      refine qR ?_
      refine hK26 _ _ ?_
      refine qR ?_
      simp only [thenQ, blockQ, ↓reduceIte]
      refine ⟨(IntKind.i64.wrap (k_1515 + 1), IntKind.i64.wrap (k2_1516 + 1), List.set o0_1517 (k_1515.toNat : Nat) (api_Setting.mk ((o0_1517.getD (k_1159.toNat + k2_1516.toNat : Nat) (api_Setting.mk [] [])).Key) ((o0_1517.getD (k_1159.toNat + k2_1516.toNat : Nat) (api_Setting.mk [] [])).Value))), hm, ?_⟩
      exact fse1
     ·refine Wp.skip ?_
      refine hK26 _ _ ?_
      refine qR ?_
      simp only [thenQ, blockQ, ↓reduceIte]
      refine ⟨(k_1515, IntKind.i64.wrap (k2_1516 + 1), o0_1517), hm, ?_⟩
      exact fse1
    ·refine Wp.exit ?_
     simp only [thenQ, blockQ, ↓reduceIte]
     have hm := hk_1530 _ hm
     try dsimp only at hm
     refine hW18 _ _ _ _ ?_ (hcut18 (k_1515, o0_1517) hm)
     exact fse1
   ·refine Wp.skip ?_
    refine hW12 _ _ _ _ ?_ (hcut12 () hm)
    exact fse1
  ·refine Wp.exit ?_
   simp only [thenQ, blockQ, ↓reduceIte]
   have hm := hk_1351 _ hm
   try dsimp only at hm
   refine hW6 _ _ _ _ ?_ (hcut6 () hm)
   exact fse1
theorem ok_R_when (bad_1 : Bool) (e_2 : Int) (z : Int) (hm : R_when bad_1 e_2 = some z) : Does Tryz.prog 87 [.p (.b bad_1), .p (.i .i64 e_2)] [] (fun r X => r = .p (.i .i64 z) ∧ X = []) := by
 unfold R_when at hm
 refine Does.of_wp 0 7 [.tmp 4] Tryz.func87 rfl (by decide) rfl rfl (Nat.le_of_ble_eq_true rfl) fun B => ?_
 refine qS ?_
 refine Wp.seqW fun K2 hK2 hW2 => ?_
 refine qS ?_
 refine cM hm (fun hc4 hm => ?_) (fun hc4 hm => ?_)
 ·refine qS ?_
  refine Wp.ret ?_
  refine retQ_ret ?_
  cases hm
  exact fse2
 ·refine Wp.skip ?_
  refine hK2 _ _ ?_
  refine qS ?_
  refine Wp.ret ?_
  refine retQ_ret ?_
  cases hm
  exact fse2
theorem ok_R_Check_1_i1 (i_1 : Int) (s_2 : Str) (o0_0_3 : Str) (z : Int × Str) (hm : R_Check_1_i1 i_1 s_2 o0_0_3 = some z) : Does Tryz.prog 86 [.p (.i .i64 i_1), .p (.s s_2), .ptr 0 0] [.cells 9 [.p (.s o0_0_3)]] (fun r X => r = .p (.i .i64 z.1) ∧ X = [.cells 9 [.p (.s z.2)]]) := by
 unfold R_Check_1_i1 at hm
 refine Does.of_wp 1 17 [.tmp 5] Tryz.func86 rfl (by decide) rfl rfl (Nat.le_of_ble_eq_true rfl) fun B => ?_
 refine qS ?_
 refine qS ?_
 refine qS ?_
 obtain ⟨r_5, hr_5, hm⟩ := call_elim hm
 refine Wp.seqR fun K4 hK4 => ?_
 simp only [go_sem, simprocAttr]
 try refine ⟨sd, ?_⟩
 refine Rg.callX (av := ?av5) (g := true) (fun hg => ok_R_when ((decide (0 < i_1)) && (strLt s_2 o0_0_3 || decide (s_2 = o0_0_3))) 7 _ hr_5) si si si sg si ?cont5
 intro hv5
 simp only [go_sem, simprocAttr]
 first | apply hK4 | refine ⟨sd, hK4 _ _ ?_⟩
 refine Wp.ret ?_
 refine retQ_ret ?_
 cases hm
 exact fse2
theorem ok_R_first (l_1 : List Int) (z : Int) (hm : R_first l_1 = some z) : Does Tryz.prog 88 [.p (.l (List.map ecI_i64 l_1))] [] (fun r X => r = .p (.i .i64 z) ∧ X = []) := by
 unfold R_first at hm
 refine Does.of_wp 0 15 [.tmp 2] Tryz.func88 rfl (by decide) rfl rfl (Nat.le_of_ble_eq_true rfl) fun B => ?_
 refine qS ?_
 refine Wp.seqW fun K2 hK2 hW2 => ?_
 obtain ⟨k_9, hk_9, hm⟩ := jp_elim hm
 have hcut2 : ∀ s, k_9 s = some z → K2 [] [] := by
  intro s hs
  have hm := hk_9 _ hs
  clear hs
  try dsimp only at hm
  try dsimp only
  refine hK2 _ _ ?_
  refine qS ?_
  refine Wp.ret ?_
  refine retQ_ret ?_
  cases hm
  exact fse2
 clear hK2 hk_9
 refine qS ?_
 refine Wp.block ?_
 obtain ⟨k_12, hk_12, hm⟩ := forL_cont hm
 refine Wp.fact 5 fun hl_15 => ?_
 replace hl_15 : l_1.length ≤ 274877906944 := by
  simp only [go_sem, simprocAttr, List.length_map] at hl_15
  omega
 refine Wp.forL (fun i_14 s => [(5, .p (.l (List.map ecI_i64 l_1))), (6, .p (.i .i64 (l_1.length : Int))), (7, .p (.i .i64 (i_14 : Int)))]) (fun i_14 s => []) ?_ hm ?_
 ·
  exact fse2
 clear hm
 intro i_14 s hii_14 hm
 try dsimp only at hm
 try dsimp only
 refine qS ?_
 refine Wp.seqW fun K6 hK6 hW6 => ?_
 refine Wp.cond rfl ⟨⟩ (fun hc6 => ?_) (fun hc6 => ?_)
 rotate_left
 ·refine Wp.exit ?_
  have hm := hk_12 _ (forL_end hm (ge_nat (by first | exact hc6 | simpa using hc6)))
  try dsimp only at hm
  refine hW2 _ _ _ _ ?_ (hcut2 () hm)
  exact fse2
 have hlt6 := lt_nat (by first | exact hc6 | simpa using hc6)
 have hw6 := wrap_succ hlt6 hl_15
 obtain ⟨e_16, nx_13, hxe_16, hye_16, hnx_13, hm⟩ := forL_step hm hlt6
 replace hxe_16 := hxe_16 ecI_i64
 refine Wp.skip ?_
 simp only [thenQ]
 refine hK6 _ _ ?_
 refine Wp.seqW fun K7 hK7 hW7 => ?_
 refine Wp.block ?_
 refine Wp.seqR fun K8 hK8 => ?_
 simp only [go_sem, simprocAttr, hw6, hxe_16]
 first | apply hK8 | refine ⟨sd, hK8 _ _ ?_⟩
 refine Wp.seqR fun K9 hK9 => ?_
 simp only [go_sem, simprocAttr, hw6, hxe_16]
 first | apply hK9 | refine ⟨sd, hK9 _ _ ?_⟩
 refine cM hm (fun hc10 hm => ?_) (fun hc10 hm => ?_)
 ·refine Wp.seqR fun K11 hK11 => ?_
  simp only [go_sem, simprocAttr, hw6, hxe_16]
  first | apply hK11 | refine ⟨sd, hK11 _ _ ?_⟩
  refine Wp.ret ?_
  refine retQ_ret ?_
  cases hm
  simp only [go_sem, simprocAttr, hw6, hxe_16]
  try exact se2
 ·refine Wp.skip ?_
  refine hK7 _ _ ?_
  refine Wp.region fun K12 hK12 => ?_
  simp only [go_sem, simprocAttr, hw6, hxe_16]
  first | apply hK12 | refine ⟨sd, hK12 _ _ ?_⟩
  simp only [thenQ, blockQ, ↓reduceIte]
  refine ⟨(), hlt6, hnx_13 _ hm, ?_⟩
  simp only [go_sem, simprocAttr, hw6, hxe_16]
  try exact se2
theorem ok_internal_stringslite_IndexByte (s_1 : Str) (c_2 : Int) (z : Int) (hm : internal_stringslite_IndexByte s_1 c_2 = some z) : Does Tryz.prog 368 [.p (.s s_1), .p (.i .u8 c_2)] [] (fun r X => r = .p (.i .i64 z) ∧ X = []) := by
 unfold internal_stringslite_IndexByte at hm
 refine Does.of_wp 0 8 [.tmp 4] Tryz.func368 rfl (by decide) rfl rfl (Nat.le_of_ble_eq_true rfl) fun B => ?_
 refine qS ?_
 have hb_3 := ixByte_bd s_1 c_2
 refine Wp.seqR fun K2 hK2 => ?_
 simp only [go_sem, simprocAttr]
 try refine ⟨sd, ?_⟩
 refine Rg.callN (av := ?av3) (g := true) (fun hg => nv_407 s_1 c_2) si si si sg si ?cont3
 intro hv3
 simp only [go_sem, simprocAttr]
 first | apply hK2 | refine ⟨sd, hK2 _ _ ?_⟩
 refine Wp.ret ?_
 refine retQ_ret ?_
 cases hm
 exact fse2
theorem ok_internal_stringslite_Index (s_1 : Str) (substr_2 : Str) (z : Int) (hm : internal_stringslite_Index s_1 substr_2 = some z) : Does Tryz.prog 323 [.p (.s s_1), .p (.s substr_2)] [] (fun r X => r = .p (.i .i64 z) ∧ X = []) := by
 unfold internal_stringslite_Index at hm
 refine Does.of_wp 0 143 [.tmp 4] Tryz.func323 rfl (by decide) rfl rfl (Nat.le_of_ble_eq_true rfl) fun B => ?_
 refine qS ?_
 refine qS ?_
 refine Wp.seqW fun K3 hK3 hW3 => ?_
 refine Wp.block ?_
 refine qS ?_
 refine cM hm (fun hc5 hm => ?_) (fun hc5 hm => ?_)
 ·refine qS ?_
  refine Wp.ret ?_
  refine retQ_ret ?_
  cases hm
  exact fse2
 ·refine qS ?_
  refine cM hm (fun hc8 hm => ?_) (fun hc8 hm => ?_)
  ·obtain ⟨c_3, hbc_3, hxc_3, hm⟩ := idxS_elim hm
   replace hxc_3 : ((substr_2.getD 0 0).toNat : Int) = c_3 := hxc_3
   obtain ⟨r_4, hr_4, hm⟩ := call_elim hm
   refine Wp.seqR fun K9 hK9 => ?_
   simp only [go_sem, simprocAttr, hxc_3]
   try refine ⟨sd, ?_⟩
   refine Rg.callX (av := ?av10) (g := true) (fun hg => ok_internal_stringslite_IndexByte s_1 c_3 _ hr_4) (by simp only [go_sem, simprocAttr, hxc_3]; exact Is.mk) (by simp only [go_sem, simprocAttr, hxc_3]; exact Is.mk) (by simp only [go_sem, simprocAttr, hxc_3]; exact Is.mk) (by simp only [go_sem, simprocAttr, hxc_3]) (by simp only [go_sem, simprocAttr, hxc_3]; exact Is.mk) ?cont10
   intro hv10
   simp only [go_sem, simprocAttr, hxc_3]
   first | apply hK9 | refine ⟨sd, hK9 _ _ ?_⟩
   refine Wp.ret ?_
   refine retQ_ret ?_
   cases hm
   simp only [go_sem, simprocAttr, hxc_3]
   try exact se2
  ·refine qS ?_
   refine cM hm (fun hc12 hm => ?_) (fun hc12 hm => ?_)
   ·refine qS ?_
    refine Wp.ret ?_
    refine retQ_ret ?_
    cases hm
    exact fse2
   ·cases hm
theorem ok_strings_Index (s_1 : Str) (substr_2 : Str) (z : Int) (hm : strings_Index s_1 substr_2 = some z) : Does Tryz.prog 252 [.p (.s s_1), .p (.s substr_2)] [] (fun r X => r = .p (.i .i64 z) ∧ X = []) := by
 unfold strings_Index at hm
 refine Does.of_wp 0 8 [.tmp 4] Tryz.func252 rfl (by decide) rfl rfl (Nat.le_of_ble_eq_true rfl) fun B => ?_
 refine qS ?_
 obtain ⟨r_3, hr_3, hm⟩ := call_elim hm
 refine Wp.seqR fun K2 hK2 => ?_
 simp only [go_sem, simprocAttr]
 try refine ⟨sd, ?_⟩
 refine Rg.callX (av := ?av3) (g := true) (fun hg => ok_internal_stringslite_Index s_1 substr_2 _ hr_3) si si si sg si ?cont3
 intro hv3
 simp only [go_sem, simprocAttr]
 first | apply hK2 | refine ⟨sd, hK2 _ _ ?_⟩
 refine Wp.ret ?_
 refine retQ_ret ?_
 cases hm
 exact fse2
theorem ok_strings_Count (s_1 : Str) (substr_2 : Str) (z : Int) (hm : strings_Count s_1 substr_2 = some z) : Does Tryz.prog 314 [.p (.s s_1), .p (.s substr_2)] [] (fun r X => r = .p (.i .i64 z) ∧ X = []) := by
 unfold strings_Count at hm
 refine Does.of_wp 0 34 [.tmp 4] Tryz.func314 rfl (by decide) rfl rfl (Nat.le_of_ble_eq_true rfl) fun B => ?_
 refine qS ?_
 refine Wp.seqW fun K2 hK2 hW2 => ?_
 refine qS ?_
 refine cM hm (fun hc4 hm => ?_) (fun hc4 hm => ?_)
 ·cases hm
 ·refine Wp.skip ?_
  refine hK2 _ _ ?_
  refine Wp.seqW fun K5 hK5 hW5 => ?_
  refine qS ?_
  refine cM hm (fun hc7 hm => ?_) (fun hc7 hm => ?_)
  ·obtain ⟨c_3, hbc_3, hxc_3, hm⟩ := idxS_elim hm
   replace hxc_3 : ((substr_2.getD 0 0).toNat : Int) = c_3 := hxc_3
   have hb_4 := cntByte_bd s_1 c_3
   refine Wp.seqR fun K8 hK8 => ?_
   simp only [go_sem, simprocAttr, hxc_3]
   try refine ⟨sd, ?_⟩
   refine Rg.callN (av := ?av9) (g := true) (fun hg => nv_367 s_1 c_3) (by simp only [go_sem, simprocAttr, hxc_3]; exact Is.mk) (by simp only [go_sem, simprocAttr, hxc_3]; exact Is.mk) (by simp only [go_sem, simprocAttr, hxc_3]; exact Is.mk) (by simp only [go_sem, simprocAttr, hxc_3]) (by simp only [go_sem, simprocAttr, hxc_3]; exact Is.mk) ?cont9
   intro hv9
   simp only [go_sem, simprocAttr, hxc_3]
   first | apply hK8 | refine ⟨sd, hK8 _ _ ?_⟩
   refine Wp.ret ?_
   refine retQ_ret ?_
   cases hm
   simp only [go_sem, simprocAttr, hxc_3]
   try exact se2
  ·refine Wp.skip ?_
   refine hK5 _ _ ?_
   refine qS ?_
   refine Wp.block ?_
   obtain ⟨k_14, hk_14, hm⟩ := loopN_cont hm
   refine Wp.loopN (fun s => [(0, .p (.s s.1)), (1, .p (.s substr_2)), (4, .p (.i .i64 0)), (5, .p (.i .i64 s.2))]) (fun s => []) ?_ hm ?_
   ·
    exact fse2
   clear hm
   intro s nx_15 hm
   obtain ⟨s_10, n_11⟩ := s
   try dsimp only at hm
   try dsimp only
   refine Wp.block ?_
   obtain ⟨r_16, hr_16, hm⟩ := call_elim hm
   refine Wp.seqR fun K11 hK11 => ?_
   simp only [go_sem, simprocAttr]
   try refine ⟨sd, ?_⟩
   refine Rg.callX (av := ?av12) (g := true) (fun hg => ok_strings_Index s_10 substr_2 _ hr_16) si si si sg si ?cont12
   intro hv12
   simp only [go_sem, simprocAttr]
   first | apply hK11 | refine ⟨sd, hK11 _ _ ?_⟩
   refine Wp.seqW fun K13 hK13 hW13 => ?_
   refine qS ?_
   refine cM hm (fun hc15 hm => ?_) (fun hc15 hm => ?_)
   ·refine qS ?_
    refine Wp.ret ?_
    refine retQ_ret ?_
    cases hm
    exact fse2
   ·refine Wp.skip ?_
    refine hK13 _ _ ?_
    refine qS ?_
    obtain ⟨c_17, hm⟩ := chk_elim hm
    refine Wp.region fun K18 hK18 => ?_
    simp only [go_sem, simprocAttr]
    first | apply hK18 | refine ⟨by first | exact sd | ((repeat' apply And.intro) <;> first | assumption | omega | (simp only [List.length_append, List.length_map, List.length_cons, List.length_nil, List.length_set, List.length_replicate] at c_17 ⊢; omega)), hK18 _ _ ?_⟩
    simp only [thenQ, blockQ, ↓reduceIte]
    refine ⟨(List.drop ((IntKind.i64.wrap (r_16 + (substr_2.length : Int))).toNat) s_10, IntKind.i64.wrap (n_11 + 1)), hm, ?_⟩
    exact fse2
theorem ok_strings_genSplit (s_1 : Str) (sep_2 : Str) (sepSave_3 : Int) (n_4 : Int) (z : List Str) (hm : strings_genSplit s_1 sep_2 sepSave_3 n_4 = some z) : Does Tryz.prog 246 [.p (.s s_1), .p (.s sep_2), .p (.i .i64 sepSave_3), .p (.i .i64 n_4)] [] (fun r X => r = .p (.l (List.map ecS z)) ∧ X = []) := by
 unfold strings_genSplit at hm
 refine Does.of_wp 0 66 [.tmp 8] Tryz.func246 rfl (by decide) rfl rfl (Nat.le_of_ble_eq_true rfl) fun B => ?_
 refine qS ?_
 refine Wp.seqW fun K2 hK2 hW2 => ?_
 refine qS ?_
 refine cM hm (fun hc4 hm => ?_) (fun hc4 hm => ?_)
 ·refine qS ?_
  refine Wp.ret ?_
  simp only [thenQ, blockQ]
  refine retQ_retE ?_
  cases hm
  exact fse2
 ·refine Wp.skip ?_
  refine hK2 _ _ ?_
  refine Wp.seqW fun K6 hK6 hW6 => ?_
  refine qS ?_
  refine cM hm (fun hc8 hm => ?_) (fun hc8 hm => ?_)
  ·cases hm
  ·refine Wp.skip ?_
   refine hK6 _ _ ?_
   refine Wp.seqW fun K9 hK9 hW9 => ?_
   obtain ⟨k_7, hk_7, hm⟩ := jp_elim hm
   have hcut9 : ∀ s, k_7 s = some z → K9 [(0, .p (.s s_1)), (1, .p (.s sep_2)), (2, .p (.i .i64 sepSave_3)), (3, .p (.i .i64 s))] [] := by
    intro n_6 hs
    have hm := hk_7 _ hs
    clear hs
    try dsimp only at hm
    try dsimp only
    refine hK9 _ _ ?_
    refine qS ?_
    obtain ⟨c_8, hm⟩ := chk_elim hm
    refine Wp.seqR fun K11 hK11 => ?_
    simp only [go_sem, simprocAttr]
    first | apply hK11 | refine ⟨by first | exact sd | ((repeat' apply And.intro) <;> first | assumption | omega | (simp only [List.length_append, List.length_map, List.length_cons, List.length_nil, List.length_set, List.length_replicate] at c_8 ⊢; omega)), hK11 _ _ ?_⟩
    refine qS ?_
    refine qS ?_
    refine Wp.seqW fun K14 hK14 hW14 => ?_
    obtain ⟨k_31, hk_31, hm⟩ := jp_elim hm
    have hcut14 : ∀ s, k_31 s = some z → K14 [(0, .p (.s s.1)), (9, .buf 0), (10, .p (.i .i64 s.2.1))] [.buf 9 1 (List.map ecS s.2.2)] := by
     intro s hs
     have hm := hk_31 _ hs
     clear hs
     obtain ⟨s_28, i_29, o0_30⟩ := s
     try dsimp only at hm
     try dsimp only
     refine hK14 _ _ ?_
     obtain ⟨c_32, hm⟩ := chk_elim hm
     refine Wp.seqR fun K15 hK15 => ?_
     simp only [go_sem, simprocAttr]
     first | apply hK15 | refine ⟨by first | exact sd | ((repeat' apply And.intro) <;> first | assumption | omega | (simp only [List.length_append, List.length_map, List.length_cons, List.length_nil, List.length_set, List.length_replicate] at c_32 ⊢; omega)), hK15 _ _ ?_⟩
     refine Wp.freeze 0 (by simp only [go_sem, simprocAttr]; exact Is.mk) (by first | (simp only [go_sem, simprocAttr]; done) | (simp only [go_sem, simprocAttr]; omega)) ?_
     simp only [go_sem, simprocAttr]
     obtain ⟨c_33, hm⟩ := chk_elim hm
     refine Wp.seqR fun K16 hK16 => ?_
     simp only [go_sem, simprocAttr]
     first | apply hK16 | refine ⟨by first | exact sd | ((repeat' apply And.intro) <;> first | assumption | omega | (simp only [List.length_append, List.length_map, List.length_cons, List.length_nil, List.length_set, List.length_replicate] at c_33 ⊢; omega)), hK16 _ _ ?_⟩
     refine Wp.ret ?_
     refine retQ_ret ?_
     cases hm
     exact fse2
    clear hK14 hk_31
    refine Wp.block ?_
    obtain ⟨k_47, hk_47, hm⟩ := loopN_cont hm
    refine Wp.loopN (fun s => [(0, .p (.s s.1)), (1, .p (.s sep_2)), (2, .p (.i .i64 sepSave_3)), (3, .p (.i .i64 (IntKind.i64.wrap ((min n_6 (IntKind.i64.wrap ((s_1.length : Int) + 1))) - 1)))), (9, .buf 0), (10, .p (.i .i64 s.2.1))]) (fun s => [.buf 9 1 (List.map ecS s.2.2)]) ?_ hm ?_
    ·
     exact fse2
    clear hm
    intro s nx_48 hm
    obtain ⟨s_40, i_41, o0_42⟩ := s
    try dsimp only at hm
    try dsimp only
    refine Wp.seqW fun K17 hK17 hW17 => ?_
    refine qS ?_
    refine cM hm (fun hc19 hm => ?_) (fun hc19 hm => ?_)
    ·refine Wp.skip ?_
     refine hK17 _ _ ?_
     refine Wp.block ?_
     obtain ⟨r_49, hr_49, hm⟩ := call_elim hm
     refine Wp.seqR fun K20 hK20 => ?_
     simp only [go_sem, simprocAttr]
     try refine ⟨sd, ?_⟩
     refine Rg.callX (av := ?av21) (g := true) (fun hg => ok_strings_Index s_40 sep_2 _ hr_49) si si si sg si ?cont21
     intro hv21
     simp only [go_sem, simprocAttr]
     first | apply hK20 | refine ⟨sd, hK20 _ _ ?_⟩
     refine Wp.seqW fun K22 hK22 hW22 => ?_
     refine qS ?_
     refine cM hm (fun hc24 hm => ?_) (fun hc24 hm => ?_)
     ·refine Wp.exit ?_
      simp only [thenQ, blockQ, ↓reduceIte]
      have hm := hk_47 _ hm
      try dsimp only at hm
      refine hW14 _ _ _ _ ?_ (hcut14 (s_40, i_41, o0_42) hm)
      exact fse2
     ·refine Wp.skip ?_
      refine hK22 _ _ ?_
      obtain ⟨c_50, hm⟩ := chk_elim hm
      obtain ⟨c_51, hm⟩ := chk_elim hm
      refine Wp.seqR fun K25 hK25 => ?_
      simp only [go_sem, simprocAttr]
      first | apply hK25 | refine ⟨by first | exact sd | ((repeat' apply And.intro) <;> first | assumption | omega | (simp only [List.length_append, List.length_map, List.length_cons, List.length_nil, List.length_set, List.length_replicate] at c_50 c_51 ⊢; omega)), hK25 _ _ ?_⟩
      obtain ⟨c_52, hm⟩ := chk_elim hm
      refine Wp.seqR fun K26 hK26 => ?_
      simp only [go_sem, simprocAttr]
      first | apply hK26 | refine ⟨by first | exact sd | ((repeat' apply And.intro) <;> first | assumption | omega | (simp only [List.length_append, List.length_map, List.length_cons, List.length_nil, List.length_set, List.length_replicate] at c_52 ⊢; omega)), hK26 _ _ ?_⟩
      refine qR ?_
      simp only [thenQ, blockQ, ↓reduceIte]
      refine ⟨(List.drop ((IntKind.i64.wrap (r_49 + (sep_2.length : Int))).toNat) s_40, IntKind.i64.wrap (i_41 + 1), List.set o0_42 i_41.toNat (List.take ((IntKind.i64.wrap (r_49 + sepSave_3)).toNat) s_40)), hm, ?_⟩
      exact fse2
    ·refine Wp.exit ?_
     simp only [thenQ, blockQ, ↓reduceIte]
     have hm := hk_47 _ hm
     try dsimp only at hm
     refine hW14 _ _ _ _ ?_ (hcut14 (s_40, i_41, o0_42) hm)
     exact fse2
   clear hK9 hk_7
   refine qS ?_
   refine cM hm (fun hc29 hm => ?_) (fun hc29 hm => ?_)
   ·obtain ⟨r_53, hr_53, hm⟩ := call_elim hm
    refine Wp.region fun K30 hK30 => ?_
    simp only [go_sem, simprocAttr]
    try refine ⟨sd, ?_⟩
    refine Rg.callX (av := ?av31) (g := true) (fun hg => ok_strings_Count s_1 sep_2 _ hr_53) si si si sg si ?cont31
    intro hv31
    simp only [go_sem, simprocAttr]
    first | apply hK30 | refine ⟨sd, hK30 _ _ ?_⟩
    refine hW9 _ _ _ _ ?_ (hcut9 (IntKind.i64.wrap (r_53 + 1)) hm)
    exact fse2
   ·refine Wp.skip ?_
    refine hW9 _ _ _ _ ?_ (hcut9 n_4 hm)
    exact fse2
theorem ok_strings_Split (s_1 : Str) (sep_2 : Str) (z : List Str) (hm : strings_Split s_1 sep_2 = some z) : Does Tryz.prog 238 [.p (.s s_1), .p (.s sep_2)] [] (fun r X => r = .p (.l (List.map ecS z)) ∧ X = []) := by
 unfold strings_Split at hm
 refine Does.of_wp 0 8 [.tmp 4] Tryz.func238 rfl (by decide) rfl rfl (Nat.le_of_ble_eq_true rfl) fun B => ?_
 refine qS ?_
 obtain ⟨r_3, hr_3, hm⟩ := call_elim hm
 refine Wp.seqR fun K2 hK2 => ?_
 simp only [go_sem, simprocAttr]
 try refine ⟨sd, ?_⟩
 refine Rg.callF (av := ?av3) (ok_strings_genSplit s_1 sep_2 0 (-1) _ hr_3) si si sg ?cont3
 intro hv3
 simp only [go_sem, simprocAttr]
 first | apply hK2 | refine ⟨sd, hK2 _ _ ?_⟩
 refine Wp.ret ?_
 refine retQ_ret ?_
 cases hm
 exact fse2
end Go.Proofs.YtaabfmccihcnkaaGreatDoor
