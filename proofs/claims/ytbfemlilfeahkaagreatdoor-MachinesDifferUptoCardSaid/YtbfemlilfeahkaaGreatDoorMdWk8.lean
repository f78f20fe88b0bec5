/- That the code does what the models say (part 8). -/
import Derived.Test.YtbfemlilfeahkaaGreatDoorMdWk0
import Derived.Test.YtbfemlilfeahkaaGreatDoorMdWk1
import Derived.Test.YtbfemlilfeahkaaGreatDoorMdWk5
set_option linter.unusedSimpArgs false
set_option linter.unusedVariables false
open Go.Proofs Go.Shelf
namespace Go.Proofs.YtbfemlilfeahkaaGreatDoor
open Go.Vc Go.Md
set_option maxRecDepth 100000
set_option maxHeartbeats 4000000
theorem ok_disk_sides_api_File_i1 (a_1 : List api_File) (b_2 : List api_File) (z : List api_File × List api_File) (hm : disk_sides_api_File_i1 a_1 b_2 = some z) : Does Tryz.prog 161 [.p (.l (List.map enc_api_File a_1)), .p (.l (List.map enc_api_File b_2)), .fn 80 []] [] (fun r X => r = .tup [.p (.l (List.map enc_api_File z.1)), .p (.l (List.map enc_api_File z.2))] ∧ X = []) := by
 unfold disk_sides_api_File_i1 at hm
 refine Does.of_wp 0 90 [.tmp 6, .tmp 7] Tryz.func161 rfl (by decide) rfl rfl (Nat.le_of_ble_eq_true rfl) fun B => ?_
 refine qS ?_
 refine qS ?_
 refine Wp.seqW fun K3 hK3 hW3 => ?_
 obtain ⟨k_70, hk_70, hm⟩ := jp_elim hm
 have hcut3 : ∀ s, k_70 s = some z → K3 [(6, .buf 0), (7, .buf 1)] [.buf 37 3 (List.map enc_api_File s.1), .buf 37 3 (List.map enc_api_File s.2)] := by
  intro s hs
  have hm := hk_70 _ hs
  clear hs
  obtain ⟨o0_68, o1_69⟩ := s
  try dsimp only at hm
  try dsimp only
  refine hK3 _ _ ?_
  refine qS ?_
  refine Wp.ret ?_
  refine retQ_ret ?_
  cases hm
  exact fse4
 clear hK3 hk_70
 refine Wp.block ?_
 refine Wp.adopt 6 37 3 rfl ?_
 simp only [go_sem, simprocAttr]
 refine Wp.adopt 7 37 3 rfl ?_
 simp only [go_sem, simprocAttr]
 obtain ⟨k_115, hk_115, hm⟩ := loopN_cont hm
 refine Wp.loopN (fun s => [(0, .p (.l (List.map enc_api_File a_1))), (1, .p (.l (List.map enc_api_File b_2))), (2, .fn 80 []), (6, .buf 0), (7, .buf 1), (8, .p (.i .i64 s.1)), (9, .p (.i .i64 s.2.1))]) (fun s => [.buf 37 3 (List.map enc_api_File s.2.2.1), .buf 37 3 (List.map enc_api_File s.2.2.2)]) ?_ hm ?_
 ·
  exact fse4
 clear hm
 intro s nx_116 hm
 obtain ⟨i_92, k_93, o0_94, o1_95⟩ := s
 try dsimp only at hm
 try dsimp only
 refine Wp.seqW fun K5 hK5 hW5 => ?_
 refine qS ?_
 refine cM hm (fun hc7 hm => ?_) (fun hc7 hm => ?_)
 ·refine Wp.skip ?_
  refine hK5 _ _ ?_
  refine Wp.block ?_
  refine qS ?_
  refine Wp.seqW fun K9 hK9 hW9 => ?_
  obtain ⟨k_123, hk_123, hm⟩ := jp_elim hm
  have hcut9 : ∀ s, k_123 s = some z → K9 [(0, .p (.l (List.map enc_api_File a_1))), (1, .p (.l (List.map enc_api_File b_2))), (2, .fn 80 []), (6, .buf 0), (7, .buf 1), (8, .p (.i .i64 i_92)), (9, .p (.i .i64 k_93)), (10, .p (.i .i64 s))] [.buf 37 3 (List.map enc_api_File o0_94), .buf 37 3 (List.map enc_api_File o1_95)] := by
   intro way_122 hs
   have hm := hk_123 _ hs
   clear hs
   try dsimp only at hm
   try dsimp only
   refine hK9 _ _ ?_
   refine Wp.block ?_
   refine qS ?_
   refine cM hm (fun hc11 hm => ?_) (fun hc11 hm => ?_)
   ·obtain ⟨f_124, hbf_124, hxf_124, hyf_124, hm⟩ := idx_elim hm
    replace hxf_124 : ∀ d, (List.map enc_api_File a_1).getD i_92.toNat d = enc_api_File f_124 := hxf_124 enc_api_File
    obtain ⟨c_125, hm⟩ := chk_elim hm
    refine Wp.seqR fun K12 hK12 => ?_
    simp only [go_sem, simprocAttr, hxf_124]
    first | apply hK12 | refine ⟨by first | exact sd | ((repeat' apply And.intro) <;> first | assumption | omega | (simp only [List.length_append, List.length_map, List.length_cons, List.length_nil, List.length_set, List.length_replicate] at c_125 ⊢; omega)), hK12 _ _ ?_⟩
    refine Wp.region fun K13 hK13 => ?_
    simp only [go_sem, simprocAttr, hxf_124]
    first | apply hK13 | refine ⟨sd, hK13 _ _ ?_⟩
    simp only [thenQ, blockQ, ↓reduceIte]
    refine ⟨(IntKind.i64.wrap (i_92 + 1), k_93, o0_94 ++ [f_124], o1_95), hm, ?_⟩
    simp only [go_sem, simprocAttr, hxf_124]
    try exact se4
   ·refine qS ?_
    refine cM hm (fun hc15 hm => ?_) (fun hc15 hm => ?_)
    ·obtain ⟨f_126, hbf_126, hxf_126, hyf_126, hm⟩ := idx_elim hm
     replace hxf_126 : ∀ d, (List.map enc_api_File b_2).getD k_93.toNat d = enc_api_File f_126 := hxf_126 enc_api_File
     obtain ⟨c_127, hm⟩ := chk_elim hm
     refine Wp.seqR fun K16 hK16 => ?_
     simp only [go_sem, simprocAttr, hxf_126]
     first | apply hK16 | refine ⟨by first | exact sd | ((repeat' apply And.intro) <;> first | assumption | omega | (simp only [List.length_append, List.length_map, List.length_cons, List.length_nil, List.length_set, List.length_replicate] at c_127 ⊢; omega)), hK16 _ _ ?_⟩
     refine Wp.region fun K17 hK17 => ?_
     simp only [go_sem, simprocAttr, hxf_126]
     first | apply hK17 | refine ⟨sd, hK17 _ _ ?_⟩
     simp only [thenQ, blockQ, ↓reduceIte]
     refine ⟨(i_92, IntKind.i64.wrap (k_93 + 1), o0_94, o1_95 ++ [f_126]), hm, ?_⟩
     simp only [go_sem, simprocAttr, hxf_126]
     try exact se4
    ·refine Wp.seqW fun K18 hK18 hW18 => ?_
     obtain ⟨f_128, hbf_128, hxf_128, hyf_128, hm⟩ := idx_elim hm
     replace hxf_128 : ∀ d, (List.map enc_api_File a_1).getD i_92.toNat d = enc_api_File f_128 := hxf_128 enc_api_File
     obtain ⟨f_129, hbf_129, hxf_129, hyf_129, hm⟩ := idx_elim hm
     replace hxf_129 : ∀ d, (List.map enc_api_File b_2).getD k_93.toNat d = enc_api_File f_129 := hxf_129 enc_api_File
     refine Wp.seqD (plan := [(0, none), (1, none), (2, none), (3, none), (4, none), (5, none), (6, none), (7, none), (8, none)]) (by kernel_rfl) rfl (by kernel_rfl) fun K19 hK19 => ?_
     simp only [go_sem, simprocAttr, hxf_128, hxf_129]
     first | apply hK19 | refine ⟨sd, hK19 _ _ ?_⟩
     refine cM hm (fun hc20 hm => ?_) (fun hc20 hm => ?_)
     ·obtain ⟨c_130, hm⟩ := chk_elim hm
      refine Wp.region fun K21 hK21 => ?_
      simp only [go_sem, simprocAttr, hxf_128, hxf_129]
      first | apply hK21 | refine ⟨by first | exact sd | ((repeat' apply And.intro) <;> first | assumption | omega | (simp only [List.length_append, List.length_map, List.length_cons, List.length_nil, List.length_set, List.length_replicate] at c_130 ⊢; omega)), hK21 _ _ ?_⟩
      refine hK18 _ _ ?_
      refine Wp.region fun K22 hK22 => ?_
      simp only [go_sem, simprocAttr, hxf_128, hxf_129]
      first | apply hK22 | refine ⟨sd, hK22 _ _ ?_⟩
      simp only [thenQ, blockQ, ↓reduceIte]
      refine ⟨(IntKind.i64.wrap (i_92 + 1), IntKind.i64.wrap (k_93 + 1), o0_94, o1_95 ++ [f_129]), hm, ?_⟩
      simp only [go_sem, simprocAttr, hxf_128, hxf_129]
      try exact se4
     ·refine Wp.skip ?_
      refine hK18 _ _ ?_
      refine Wp.region fun K23 hK23 => ?_
      simp only [go_sem, simprocAttr, hxf_128, hxf_129]
      first | apply hK23 | refine ⟨sd, hK23 _ _ ?_⟩
      simp only [thenQ, blockQ, ↓reduceIte]
      refine ⟨(IntKind.i64.wrap (i_92 + 1), IntKind.i64.wrap (k_93 + 1), o0_94, o1_95), hm, ?_⟩
      simp only [go_sem, simprocAttr, hxf_128, hxf_129]
      try exact se4
  clear hK9 hk_123
  refine Wp.block ?_
  refine qS ?_
  refine cM hm (fun hc25 hm => ?_) (fun hc25 hm => ?_)
  ·refine qR ?_
   refine hW9 _ _ _ _ ?_ (hcut9 (-1) hm)
   exact fse4
  ·refine qS ?_
   refine cM hm (fun hc28 hm => ?_) (fun hc28 hm => ?_)
   ·refine qR ?_
    refine hW9 _ _ _ _ ?_ (hcut9 1 hm)
    exact fse4
   ·obtain ⟨f_131, hbf_131, hxf_131, hyf_131, hm⟩ := idx_elim hm
    replace hxf_131 : ∀ d, (List.map enc_api_File a_1).getD i_92.toNat d = enc_api_File f_131 := hxf_131 enc_api_File
    obtain ⟨r_132, hr_132, hm⟩ := call_elim hm
    obtain ⟨f_133, hbf_133, hxf_133, hyf_133, hm⟩ := idx_elim hm
    replace hxf_133 : ∀ d, (List.map enc_api_File b_2).getD k_93.toNat d = enc_api_File f_133 := hxf_133 enc_api_File
    obtain ⟨r_134, hr_134, hm⟩ := call_elim hm
    obtain ⟨r_135, hr_135, hm⟩ := call_elim hm
    refine Wp.regD (plan := [(0, none), (1, none), (2, none), (3, none), (4, none), (5, none), (6, none), (7, none), (8, none), (9, none), (10, none), (11, none), (12, none), (13, none)]) (by kernel_rfl) rfl (by kernel_rfl) fun K30 hK30 => ?_
    simp only [go_sem, simprocAttr, hxf_131, hxf_133]
    try refine ⟨sd, ?_⟩
    refine Dr.callF (av := ?av31) (g := true) (o := ?o31) (fun hg => ok_disk_pathOf f_131 _ hr_132) (by simp only [go_sem, simprocAttr, hxf_131, hxf_133]; exact Is.mk) (by simp only [go_sem, simprocAttr, hxf_131, hxf_133]; exact Is.mk) (by simp only [go_sem, simprocAttr, hxf_131, hxf_133]; exact Is.mk) (by simp only [go_sem, simprocAttr, hxf_131, hxf_133]; exact Is.mk) (by simp only [go_sem, simprocAttr, hxf_131, hxf_133]) (by simp only [go_sem, simprocAttr, hxf_131, hxf_133]; exact Is.mk) ?cont31
    simp only [go_sem, simprocAttr, hxf_131, hxf_133]
    try refine ⟨sd, ?_⟩
    refine Dr.callF (av := ?av32) (g := true) (o := ?o32) (fun hg => ok_disk_pathOf f_133 _ hr_134) (by simp only [go_sem, simprocAttr, hxf_131, hxf_133]; exact Is.mk) (by simp only [go_sem, simprocAttr, hxf_131, hxf_133]; exact Is.mk) (by simp only [go_sem, simprocAttr, hxf_131, hxf_133]; exact Is.mk) (by simp only [go_sem, simprocAttr, hxf_131, hxf_133]; exact Is.mk) (by simp only [go_sem, simprocAttr, hxf_131, hxf_133]) (by simp only [go_sem, simprocAttr, hxf_131, hxf_133]; exact Is.mk) ?cont32
    simp only [go_sem, simprocAttr, hxf_131, hxf_133]
    try refine ⟨sd, ?_⟩
    refine Dr.callF (av := ?av33) (g := true) (o := ?o33) (fun hg => ok_strings_Compare r_132 r_134 _ hr_135) (by simp only [go_sem, simprocAttr, hxf_131, hxf_133]; exact Is.mk) (by simp only [go_sem, simprocAttr, hxf_131, hxf_133]; exact Is.mk) (by simp only [go_sem, simprocAttr, hxf_131, hxf_133]; exact Is.mk) (by simp only [go_sem, simprocAttr, hxf_131, hxf_133]; exact Is.mk) (by simp only [go_sem, simprocAttr, hxf_131, hxf_133]) (by simp only [go_sem, simprocAttr, hxf_131, hxf_133]; exact Is.mk) ?cont33
    simp only [go_sem, simprocAttr, hxf_131, hxf_133]
    first | apply hK30 | refine ⟨sd, hK30 _ _ ?_⟩
    refine hW9 _ _ _ _ ?_ (hcut9 r_135 hm)
    simp only [go_sem, simprocAttr, hxf_131, hxf_133]
    try exact se4
 ·refine Wp.exit ?_
  simp only [thenQ, blockQ, ↓reduceIte]
  have hm := hk_115 _ hm
  try dsimp only at hm
  refine hW3 _ _ _ _ ?_ (hcut3 (o0_94, o1_95) hm)
  exact fse4
theorem ok_disk_sides_api_Setting_i1 (a_1 : List api_Setting) (b_2 : List api_Setting) (z : List api_Setting × List api_Setting) (hm : disk_sides_api_Setting_i1 a_1 b_2 = some z) : Does Tryz.prog 162 [.p (.l (List.map enc_api_Setting a_1)), .p (.l (List.map enc_api_Setting b_2)), .fn 77 []] [] (fun r X => r = .tup [.p (.l (List.map enc_api_Setting z.1)), .p (.l (List.map enc_api_Setting z.2))] ∧ X = []) := by
 unfold disk_sides_api_Setting_i1 at hm
 refine Does.of_wp 0 90 [.tmp 6, .tmp 7] Tryz.func162 rfl (by decide) rfl rfl (Nat.le_of_ble_eq_true rfl) fun B => ?_
 refine qS ?_
 refine qS ?_
 refine Wp.seqW fun K3 hK3 hW3 => ?_
 obtain ⟨k_70, hk_70, hm⟩ := jp_elim hm
 have hcut3 : ∀ s, k_70 s = some z → K3 [(6, .buf 0), (7, .buf 1)] [.buf 33 2 (List.map enc_api_Setting s.1), .buf 33 2 (List.map enc_api_Setting s.2)] := by
  intro s hs
  have hm := hk_70 _ hs
  clear hs
  obtain ⟨o0_68, o1_69⟩ := s
  try dsimp only at hm
  try dsimp only
  refine hK3 _ _ ?_
  refine qS ?_
  refine Wp.ret ?_
  refine retQ_ret ?_
  cases hm
  exact fse4
 clear hK3 hk_70
 refine Wp.block ?_
 refine Wp.adopt 6 33 2 rfl ?_
 simp only [go_sem, simprocAttr]
 refine Wp.adopt 7 33 2 rfl ?_
 simp only [go_sem, simprocAttr]
 obtain ⟨k_115, hk_115, hm⟩ := loopN_cont hm
 refine Wp.loopN (fun s => [(0, .p (.l (List.map enc_api_Setting a_1))), (1, .p (.l (List.map enc_api_Setting b_2))), (2, .fn 77 []), (6, .buf 0), (7, .buf 1), (8, .p (.i .i64 s.1)), (9, .p (.i .i64 s.2.1))]) (fun s => [.buf 33 2 (List.map enc_api_Setting s.2.2.1), .buf 33 2 (List.map enc_api_Setting s.2.2.2)]) ?_ hm ?_
 ·
  exact fse4
 clear hm
 intro s nx_116 hm
 obtain ⟨i_92, k_93, o0_94, o1_95⟩ := s
 try dsimp only at hm
 try dsimp only
 refine Wp.seqW fun K5 hK5 hW5 => ?_
 refine qS ?_
 refine cM hm (fun hc7 hm => ?_) (fun hc7 hm => ?_)
 ·refine Wp.skip ?_
  refine hK5 _ _ ?_
  refine Wp.block ?_
  refine qS ?_
  refine Wp.seqW fun K9 hK9 hW9 => ?_
  obtain ⟨k_123, hk_123, hm⟩ := jp_elim hm
  have hcut9 : ∀ s, k_123 s = some z → K9 [(0, .p (.l (List.map enc_api_Setting a_1))), (1, .p (.l (List.map enc_api_Setting b_2))), (2, .fn 77 []), (6, .buf 0), (7, .buf 1), (8, .p (.i .i64 i_92)), (9, .p (.i .i64 k_93)), (10, .p (.i .i64 s))] [.buf 33 2 (List.map enc_api_Setting o0_94), .buf 33 2 (List.map enc_api_Setting o1_95)] := by
   intro way_122 hs
   have hm := hk_123 _ hs
   clear hs
   try dsimp only at hm
   try dsimp only
   refine hK9 _ _ ?_
   refine Wp.block ?_
   refine qS ?_
   refine cM hm (fun hc11 hm => ?_) (fun hc11 hm => ?_)
   ·obtain ⟨s_124, hbs_124, hxs_124, hys_124, hm⟩ := idx_elim hm
    replace hxs_124 : ∀ d, (List.map enc_api_Setting a_1).getD i_92.toNat d = enc_api_Setting s_124 := hxs_124 enc_api_Setting
    obtain ⟨c_125, hm⟩ := chk_elim hm
    refine Wp.seqR fun K12 hK12 => ?_
    simp only [go_sem, simprocAttr, hxs_124]
    first | apply hK12 | refine ⟨by first | exact sd | ((repeat' apply And.intro) <;> first | assumption | omega | (simp only [List.length_append, List.length_map, List.length_cons, List.length_nil, List.length_set, List.length_replicate] at c_125 ⊢; omega)), hK12 _ _ ?_⟩
    refine Wp.region fun K13 hK13 => ?_
    simp only [go_sem, simprocAttr, hxs_124]
    first | apply hK13 | refine ⟨sd, hK13 _ _ ?_⟩
    simp only [thenQ, blockQ, ↓reduceIte]
    refine ⟨(IntKind.i64.wrap (i_92 + 1), k_93, o0_94 ++ [s_124], o1_95), hm, ?_⟩
    simp only [go_sem, simprocAttr, hxs_124]
    try exact se4
   ·refine qS ?_
    refine cM hm (fun hc15 hm => ?_) (fun hc15 hm => ?_)
    ·obtain ⟨s_126, hbs_126, hxs_126, hys_126, hm⟩ := idx_elim hm
     replace hxs_126 : ∀ d, (List.map enc_api_Setting b_2).getD k_93.toNat d = enc_api_Setting s_126 := hxs_126 enc_api_Setting
     obtain ⟨c_127, hm⟩ := chk_elim hm
     refine Wp.seqR fun K16 hK16 => ?_
     simp only [go_sem, simprocAttr, hxs_126]
     first | apply hK16 | refine ⟨by first | exact sd | ((repeat' apply And.intro) <;> first | assumption | omega | (simp only [List.length_append, List.length_map, List.length_cons, List.length_nil, List.length_set, List.length_replicate] at c_127 ⊢; omega)), hK16 _ _ ?_⟩
     refine Wp.region fun K17 hK17 => ?_
     simp only [go_sem, simprocAttr, hxs_126]
     first | apply hK17 | refine ⟨sd, hK17 _ _ ?_⟩
     simp only [thenQ, blockQ, ↓reduceIte]
     refine ⟨(i_92, IntKind.i64.wrap (k_93 + 1), o0_94, o1_95 ++ [s_126]), hm, ?_⟩
     simp only [go_sem, simprocAttr, hxs_126]
     try exact se4
    ·refine Wp.seqW fun K18 hK18 hW18 => ?_
     obtain ⟨s_128, hbs_128, hxs_128, hys_128, hm⟩ := idx_elim hm
     replace hxs_128 : ∀ d, (List.map enc_api_Setting a_1).getD i_92.toNat d = enc_api_Setting s_128 := hxs_128 enc_api_Setting
     obtain ⟨s_129, hbs_129, hxs_129, hys_129, hm⟩ := idx_elim hm
     replace hxs_129 : ∀ d, (List.map enc_api_Setting b_2).getD k_93.toNat d = enc_api_Setting s_129 := hxs_129 enc_api_Setting
     refine Wp.seqD (plan := [(0, none), (1, none), (2, none), (3, none), (4, none), (5, none), (6, none), (7, none), (8, none)]) (by kernel_rfl) rfl (by kernel_rfl) fun K19 hK19 => ?_
     simp only [go_sem, simprocAttr, hxs_128, hxs_129]
     first | apply hK19 | refine ⟨sd, hK19 _ _ ?_⟩
     refine cM hm (fun hc20 hm => ?_) (fun hc20 hm => ?_)
     ·obtain ⟨c_130, hm⟩ := chk_elim hm
      refine Wp.region fun K21 hK21 => ?_
      simp only [go_sem, simprocAttr, hxs_128, hxs_129]
      first | apply hK21 | refine ⟨by first | exact sd | ((repeat' apply And.intro) <;> first | assumption | omega | (simp only [List.length_append, List.length_map, List.length_cons, List.length_nil, List.length_set, List.length_replicate] at c_130 ⊢; omega)), hK21 _ _ ?_⟩
      refine hK18 _ _ ?_
      refine Wp.region fun K22 hK22 => ?_
      simp only [go_sem, simprocAttr, hxs_128, hxs_129]
      first | apply hK22 | refine ⟨sd, hK22 _ _ ?_⟩
      simp only [thenQ, blockQ, ↓reduceIte]
      refine ⟨(IntKind.i64.wrap (i_92 + 1), IntKind.i64.wrap (k_93 + 1), o0_94, o1_95 ++ [s_129]), hm, ?_⟩
      simp only [go_sem, simprocAttr, hxs_128, hxs_129]
      try exact se4
     ·refine Wp.skip ?_
      refine hK18 _ _ ?_
      refine Wp.region fun K23 hK23 => ?_
      simp only [go_sem, simprocAttr, hxs_128, hxs_129]
      first | apply hK23 | refine ⟨sd, hK23 _ _ ?_⟩
      simp only [thenQ, blockQ, ↓reduceIte]
      refine ⟨(IntKind.i64.wrap (i_92 + 1), IntKind.i64.wrap (k_93 + 1), o0_94, o1_95), hm, ?_⟩
      simp only [go_sem, simprocAttr, hxs_128, hxs_129]
      try exact se4
  clear hK9 hk_123
  refine Wp.block ?_
  refine qS ?_
  refine cM hm (fun hc25 hm => ?_) (fun hc25 hm => ?_)
  ·refine qR ?_
   refine hW9 _ _ _ _ ?_ (hcut9 (-1) hm)
   exact fse4
  ·refine qS ?_
   refine cM hm (fun hc28 hm => ?_) (fun hc28 hm => ?_)
   ·refine qR ?_
    refine hW9 _ _ _ _ ?_ (hcut9 1 hm)
    exact fse4
   ·obtain ⟨s_131, hbs_131, hxs_131, hys_131, hm⟩ := idx_elim hm
    replace hxs_131 : ∀ d, (List.map enc_api_Setting a_1).getD i_92.toNat d = enc_api_Setting s_131 := hxs_131 enc_api_Setting
    obtain ⟨r_132, hr_132, hm⟩ := call_elim hm
    obtain ⟨s_133, hbs_133, hxs_133, hys_133, hm⟩ := idx_elim hm
    replace hxs_133 : ∀ d, (List.map enc_api_Setting b_2).getD k_93.toNat d = enc_api_Setting s_133 := hxs_133 enc_api_Setting
    obtain ⟨r_134, hr_134, hm⟩ := call_elim hm
    obtain ⟨r_135, hr_135, hm⟩ := call_elim hm
    refine Wp.regD (plan := [(0, none), (1, none), (2, none), (3, none), (4, none), (5, none), (6, none), (7, none), (8, none), (9, none), (10, none), (11, none), (12, none), (13, none)]) (by kernel_rfl) rfl (by kernel_rfl) fun K30 hK30 => ?_
    simp only [go_sem, simprocAttr, hxs_131, hxs_133]
    try refine ⟨sd, ?_⟩
    refine Dr.callF (av := ?av31) (g := true) (o := ?o31) (fun hg => ok_disk_keyOf s_131 _ hr_132) (by simp only [go_sem, simprocAttr, hxs_131, hxs_133]; exact Is.mk) (by simp only [go_sem, simprocAttr, hxs_131, hxs_133]; exact Is.mk) (by simp only [go_sem, simprocAttr, hxs_131, hxs_133]; exact Is.mk) (by simp only [go_sem, simprocAttr, hxs_131, hxs_133]; exact Is.mk) (by simp only [go_sem, simprocAttr, hxs_131, hxs_133]) (by simp only [go_sem, simprocAttr, hxs_131, hxs_133]; exact Is.mk) ?cont31
    simp only [go_sem, simprocAttr, hxs_131, hxs_133]
    try refine ⟨sd, ?_⟩
    refine Dr.callF (av := ?av32) (g := true) (o := ?o32) (fun hg => ok_disk_keyOf s_133 _ hr_134) (by simp only [go_sem, simprocAttr, hxs_131, hxs_133]; exact Is.mk) (by simp only [go_sem, simprocAttr, hxs_131, hxs_133]; exact Is.mk) (by simp only [go_sem, simprocAttr, hxs_131, hxs_133]; exact Is.mk) (by simp only [go_sem, simprocAttr, hxs_131, hxs_133]; exact Is.mk) (by simp only [go_sem, simprocAttr, hxs_131, hxs_133]) (by simp only [go_sem, simprocAttr, hxs_131, hxs_133]; exact Is.mk) ?cont32
    simp only [go_sem, simprocAttr, hxs_131, hxs_133]
    try refine ⟨sd, ?_⟩
    refine Dr.callF (av := ?av33) (g := true) (o := ?o33) (fun hg => ok_strings_Compare r_132 r_134 _ hr_135) (by simp only [go_sem, simprocAttr, hxs_131, hxs_133]; exact Is.mk) (by simp only [go_sem, simprocAttr, hxs_131, hxs_133]; exact Is.mk) (by simp only [go_sem, simprocAttr, hxs_131, hxs_133]; exact Is.mk) (by simp only [go_sem, simprocAttr, hxs_131, hxs_133]; exact Is.mk) (by simp only [go_sem, simprocAttr, hxs_131, hxs_133]) (by simp only [go_sem, simprocAttr, hxs_131, hxs_133]; exact Is.mk) ?cont33
    simp only [go_sem, simprocAttr, hxs_131, hxs_133]
    first | apply hK30 | refine ⟨sd, hK30 _ _ ?_⟩
    refine hW9 _ _ _ _ ?_ (hcut9 r_135 hm)
    simp only [go_sem, simprocAttr, hxs_131, hxs_133]
    try exact se4
 ·refine Wp.exit ?_
  simp only [thenQ, blockQ, ↓reduceIte]
  have hm := hk_115 _ hm
  try dsimp only at hm
  refine hW3 _ _ _ _ ?_ (hcut3 (o0_94, o1_95) hm)
  exact fse4
theorem ok_disk_sides_api_Service_i1 (a_1 : List api_Service) (b_2 : List api_Service) (z : List api_Service × List api_Service) (hm : disk_sides_api_Service_i1 a_1 b_2 = some z) : Does Tryz.prog 163 [.p (.l (List.map enc_api_Service a_1)), .p (.l (List.map enc_api_Service b_2)), .fn 84 []] [] (fun r X => r = .tup [.p (.l (List.map enc_api_Service z.1)), .p (.l (List.map enc_api_Service z.2))] ∧ X = []) := by
 unfold disk_sides_api_Service_i1 at hm
 refine Does.of_wp 0 90 [.tmp 6, .tmp 7] Tryz.func163 rfl (by decide) rfl rfl (Nat.le_of_ble_eq_true rfl) fun B => ?_
 refine qS ?_
 refine qS ?_
 refine Wp.seqW fun K3 hK3 hW3 => ?_
 obtain ⟨k_70, hk_70, hm⟩ := jp_elim hm
 have hcut3 : ∀ s, k_70 s = some z → K3 [(6, .buf 0), (7, .buf 1)] [.buf 41 4 (List.map enc_api_Service s.1), .buf 41 4 (List.map enc_api_Service s.2)] := by
  intro s hs
  have hm := hk_70 _ hs
  clear hs
  obtain ⟨o0_68, o1_69⟩ := s
  try dsimp only at hm
  try dsimp only
  refine hK3 _ _ ?_
  refine qS ?_
  refine Wp.ret ?_
  refine retQ_ret ?_
  cases hm
  exact fse4
 clear hK3 hk_70
 refine Wp.block ?_
 refine Wp.adopt 6 41 4 rfl ?_
 simp only [go_sem, simprocAttr]
 refine Wp.adopt 7 41 4 rfl ?_
 simp only [go_sem, simprocAttr]
 obtain ⟨k_115, hk_115, hm⟩ := loopN_cont hm
 refine Wp.loopN (fun s => [(0, .p (.l (List.map enc_api_Service a_1))), (1, .p (.l (List.map enc_api_Service b_2))), (2, .fn 84 []), (6, .buf 0), (7, .buf 1), (8, .p (.i .i64 s.1)), (9, .p (.i .i64 s.2.1))]) (fun s => [.buf 41 4 (List.map enc_api_Service s.2.2.1), .buf 41 4 (List.map enc_api_Service s.2.2.2)]) ?_ hm ?_
 ·
  exact fse4
 clear hm
 intro s nx_116 hm
 obtain ⟨i_92, k_93, o0_94, o1_95⟩ := s
 try dsimp only at hm
 try dsimp only
 refine Wp.seqW fun K5 hK5 hW5 => ?_
 refine qS ?_
 refine cM hm (fun hc7 hm => ?_) (fun hc7 hm => ?_)
 ·refine Wp.skip ?_
  refine hK5 _ _ ?_
  refine Wp.block ?_
  refine qS ?_
  refine Wp.seqW fun K9 hK9 hW9 => ?_
  obtain ⟨k_123, hk_123, hm⟩ := jp_elim hm
  have hcut9 : ∀ s, k_123 s = some z → K9 [(0, .p (.l (List.map enc_api_Service a_1))), (1, .p (.l (List.map enc_api_Service b_2))), (2, .fn 84 []), (6, .buf 0), (7, .buf 1), (8, .p (.i .i64 i_92)), (9, .p (.i .i64 k_93)), (10, .p (.i .i64 s))] [.buf 41 4 (List.map enc_api_Service o0_94), .buf 41 4 (List.map enc_api_Service o1_95)] := by
   intro way_122 hs
   have hm := hk_123 _ hs
   clear hs
   try dsimp only at hm
   try dsimp only
   refine hK9 _ _ ?_
   refine Wp.block ?_
   refine qS ?_
   refine cM hm (fun hc11 hm => ?_) (fun hc11 hm => ?_)
   ·obtain ⟨s_124, hbs_124, hxs_124, hys_124, hm⟩ := idx_elim hm
    replace hxs_124 : ∀ d, (List.map enc_api_Service a_1).getD i_92.toNat d = enc_api_Service s_124 := hxs_124 enc_api_Service
    obtain ⟨c_125, hm⟩ := chk_elim hm
    refine Wp.seqR fun K12 hK12 => ?_
    simp only [go_sem, simprocAttr, hxs_124]
    first | apply hK12 | refine ⟨by first | exact sd | ((repeat' apply And.intro) <;> first | assumption | omega | (simp only [List.length_append, List.length_map, List.length_cons, List.length_nil, List.length_set, List.length_replicate] at c_125 ⊢; omega)), hK12 _ _ ?_⟩
    refine Wp.region fun K13 hK13 => ?_
    simp only [go_sem, simprocAttr, hxs_124]
    first | apply hK13 | refine ⟨sd, hK13 _ _ ?_⟩
    simp only [thenQ, blockQ, ↓reduceIte]
    refine ⟨(IntKind.i64.wrap (i_92 + 1), k_93, o0_94 ++ [s_124], o1_95), hm, ?_⟩
    simp only [go_sem, simprocAttr, hxs_124]
    try exact se4
   ·refine qS ?_
    refine cM hm (fun hc15 hm => ?_) (fun hc15 hm => ?_)
    ·obtain ⟨s_126, hbs_126, hxs_126, hys_126, hm⟩ := idx_elim hm
     replace hxs_126 : ∀ d, (List.map enc_api_Service b_2).getD k_93.toNat d = enc_api_Service s_126 := hxs_126 enc_api_Service
     obtain ⟨c_127, hm⟩ := chk_elim hm
     refine Wp.seqR fun K16 hK16 => ?_
     simp only [go_sem, simprocAttr, hxs_126]
     first | apply hK16 | refine ⟨by first | exact sd | ((repeat' apply And.intro) <;> first | assumption | omega | (simp only [List.length_append, List.length_map, List.length_cons, List.length_nil, List.length_set, List.length_replicate] at c_127 ⊢; omega)), hK16 _ _ ?_⟩
     refine Wp.region fun K17 hK17 => ?_
     simp only [go_sem, simprocAttr, hxs_126]
     first | apply hK17 | refine ⟨sd, hK17 _ _ ?_⟩
     simp only [thenQ, blockQ, ↓reduceIte]
     refine ⟨(i_92, IntKind.i64.wrap (k_93 + 1), o0_94, o1_95 ++ [s_126]), hm, ?_⟩
     simp only [go_sem, simprocAttr, hxs_126]
     try exact se4
    ·refine Wp.seqW fun K18 hK18 hW18 => ?_
     obtain ⟨s_128, hbs_128, hxs_128, hys_128, hm⟩ := idx_elim hm
     replace hxs_128 : ∀ d, (List.map enc_api_Service a_1).getD i_92.toNat d = enc_api_Service s_128 := hxs_128 enc_api_Service
     obtain ⟨s_129, hbs_129, hxs_129, hys_129, hm⟩ := idx_elim hm
     replace hxs_129 : ∀ d, (List.map enc_api_Service b_2).getD k_93.toNat d = enc_api_Service s_129 := hxs_129 enc_api_Service
     refine Wp.seqD (plan := [(0, none), (1, none), (2, none), (3, none), (4, none), (5, none), (6, none), (7, none), (8, none)]) (by kernel_rfl) rfl (by kernel_rfl) fun K19 hK19 => ?_
     simp only [go_sem, simprocAttr, hxs_128, hxs_129]
     first | apply hK19 | refine ⟨sd, hK19 _ _ ?_⟩
     refine cM hm (fun hc20 hm => ?_) (fun hc20 hm => ?_)
     ·obtain ⟨c_130, hm⟩ := chk_elim hm
      refine Wp.region fun K21 hK21 => ?_
      simp only [go_sem, simprocAttr, hxs_128, hxs_129]
      first | apply hK21 | refine ⟨by first | exact sd | ((repeat' apply And.intro) <;> first | assumption | omega | (simp only [List.length_append, List.length_map, List.length_cons, List.length_nil, List.length_set, List.length_replicate] at c_130 ⊢; omega)), hK21 _ _ ?_⟩
      refine hK18 _ _ ?_
      refine Wp.region fun K22 hK22 => ?_
      simp only [go_sem, simprocAttr, hxs_128, hxs_129]
      first | apply hK22 | refine ⟨sd, hK22 _ _ ?_⟩
      simp only [thenQ, blockQ, ↓reduceIte]
      refine ⟨(IntKind.i64.wrap (i_92 + 1), IntKind.i64.wrap (k_93 + 1), o0_94, o1_95 ++ [s_129]), hm, ?_⟩
      simp only [go_sem, simprocAttr, hxs_128, hxs_129]
      try exact se4
     ·refine Wp.skip ?_
      refine hK18 _ _ ?_
      refine Wp.region fun K23 hK23 => ?_
      simp only [go_sem, simprocAttr, hxs_128, hxs_129]
      first | apply hK23 | refine ⟨sd, hK23 _ _ ?_⟩
      simp only [thenQ, blockQ, ↓reduceIte]
      refine ⟨(IntKind.i64.wrap (i_92 + 1), IntKind.i64.wrap (k_93 + 1), o0_94, o1_95), hm, ?_⟩
      simp only [go_sem, simprocAttr, hxs_128, hxs_129]
      try exact se4
  clear hK9 hk_123
  refine Wp.block ?_
  refine qS ?_
  refine cM hm (fun hc25 hm => ?_) (fun hc25 hm => ?_)
  ·refine qR ?_
   refine hW9 _ _ _ _ ?_ (hcut9 (-1) hm)
   exact fse4
  ·refine qS ?_
   refine cM hm (fun hc28 hm => ?_) (fun hc28 hm => ?_)
   ·refine qR ?_
    refine hW9 _ _ _ _ ?_ (hcut9 1 hm)
    exact fse4
   ·obtain ⟨s_131, hbs_131, hxs_131, hys_131, hm⟩ := idx_elim hm
    replace hxs_131 : ∀ d, (List.map enc_api_Service a_1).getD i_92.toNat d = enc_api_Service s_131 := hxs_131 enc_api_Service
    obtain ⟨r_132, hr_132, hm⟩ := call_elim hm
    obtain ⟨s_133, hbs_133, hxs_133, hys_133, hm⟩ := idx_elim hm
    replace hxs_133 : ∀ d, (List.map enc_api_Service b_2).getD k_93.toNat d = enc_api_Service s_133 := hxs_133 enc_api_Service
    obtain ⟨r_134, hr_134, hm⟩ := call_elim hm
    obtain ⟨r_135, hr_135, hm⟩ := call_elim hm
    refine Wp.regD (plan := [(0, none), (1, none), (2, none), (3, none), (4, none), (5, none), (6, none), (7, none), (8, none), (9, none), (10, none), (11, none), (12, none), (13, none)]) (by kernel_rfl) rfl (by kernel_rfl) fun K30 hK30 => ?_
    simp only [go_sem, simprocAttr, hxs_131, hxs_133]
    try refine ⟨sd, ?_⟩
    refine Dr.callF (av := ?av31) (g := true) (o := ?o31) (fun hg => ok_disk_nameOf s_131 _ hr_132) (by simp only [go_sem, simprocAttr, hxs_131, hxs_133]; exact Is.mk) (by simp only [go_sem, simprocAttr, hxs_131, hxs_133]; exact Is.mk) (by simp only [go_sem, simprocAttr, hxs_131, hxs_133]; exact Is.mk) (by simp only [go_sem, simprocAttr, hxs_131, hxs_133]; exact Is.mk) (by simp only [go_sem, simprocAttr, hxs_131, hxs_133]) (by simp only [go_sem, simprocAttr, hxs_131, hxs_133]; exact Is.mk) ?cont31
    simp only [go_sem, simprocAttr, hxs_131, hxs_133]
    try refine ⟨sd, ?_⟩
    refine Dr.callF (av := ?av32) (g := true) (o := ?o32) (fun hg => ok_disk_nameOf s_133 _ hr_134) (by simp only [go_sem, simprocAttr, hxs_131, hxs_133]; exact Is.mk) (by simp only [go_sem, simprocAttr, hxs_131, hxs_133]; exact Is.mk) (by simp only [go_sem, simprocAttr, hxs_131, hxs_133]; exact Is.mk) (by simp only [go_sem, simprocAttr, hxs_131, hxs_133]; exact Is.mk) (by simp only [go_sem, simprocAttr, hxs_131, hxs_133]) (by simp only [go_sem, simprocAttr, hxs_131, hxs_133]; exact Is.mk) ?cont32
    simp only [go_sem, simprocAttr, hxs_131, hxs_133]
    try refine ⟨sd, ?_⟩
    refine Dr.callF (av := ?av33) (g := true) (o := ?o33) (fun hg => ok_strings_Compare r_132 r_134 _ hr_135) (by simp only [go_sem, simprocAttr, hxs_131, hxs_133]; exact Is.mk) (by simp only [go_sem, simprocAttr, hxs_131, hxs_133]; exact Is.mk) (by simp only [go_sem, simprocAttr, hxs_131, hxs_133]; exact Is.mk) (by simp only [go_sem, simprocAttr, hxs_131, hxs_133]; exact Is.mk) (by simp only [go_sem, simprocAttr, hxs_131, hxs_133]) (by simp only [go_sem, simprocAttr, hxs_131, hxs_133]; exact Is.mk) ?cont33
    simp only [go_sem, simprocAttr, hxs_131, hxs_133]
    first | apply hK30 | refine ⟨sd, hK30 _ _ ?_⟩
    refine hW9 _ _ _ _ ?_ (hcut9 r_135 hm)
    simp only [go_sem, simprocAttr, hxs_131, hxs_133]
    try exact se4
 ·refine Wp.exit ?_
  simp only [thenQ, blockQ, ↓reduceIte]
  have hm := hk_115 _ hm
  try dsimp only at hm
  refine hW3 _ _ _ _ ?_ (hcut3 (o0_94, o1_95) hm)
  exact fse4
theorem ok_disk_diff (a_1 : api_Machine) (b_2 : api_Machine) (z : List api_Change) (hm : disk_diff a_1 b_2 = some z) : Does Tryz.prog 118 [.agg [.p (.l (List.map enc_api_Setting a_1.Facts)), .p (.l (List.map enc_api_File a_1.Files)), .p (.l (List.map enc_api_Setting a_1.Settings)), .p (.l (List.map enc_api_Service a_1.Services))], .agg [.p (.l (List.map enc_api_Setting b_2.Facts)), .p (.l (List.map enc_api_File b_2.Files)), .p (.l (List.map enc_api_Setting b_2.Settings)), .p (.l (List.map enc_api_Service b_2.Services))]] [] (fun r X => r = .p (.l (List.map enc_api_Change z)) ∧ X = []) := by
 unfold disk_diff at hm
 refine Does.of_wp 0 127 [.tmp 4] Tryz.func118 rfl (by decide) rfl rfl (Nat.le_of_ble_eq_true rfl) fun B => ?_
 refine qS ?_
 obtain ⟨r_3, hr_3, hm⟩ := call_elim hm
 refine Wp.seqR fun K2 hK2 => ?_
 simp only [go_sem, simprocAttr]
 try refine ⟨sd, ?_⟩
 refine Rg.callF (av := ?av3) (ok_disk_sides_api_File_i1 a_1.Files b_2.Files _ hr_3) si si sg ?cont3
 intro hv3
 simp only [go_sem, simprocAttr]
 first | apply hK2 | refine ⟨sd, hK2 _ _ ?_⟩
 obtain ⟨r_4, hr_4, hm⟩ := call_elim hm
 refine Wp.seqR fun K4 hK4 => ?_
 simp only [go_sem, simprocAttr]
 try refine ⟨sd, ?_⟩
 refine Rg.callF (av := ?av5) (ok_disk_sides_api_Setting_i1 a_1.Settings b_2.Settings _ hr_4) si si sg ?cont5
 intro hv5
 simp only [go_sem, simprocAttr]
 first | apply hK4 | refine ⟨sd, hK4 _ _ ?_⟩
 obtain ⟨r_5, hr_5, hm⟩ := call_elim hm
 refine Wp.seqR fun K6 hK6 => ?_
 simp only [go_sem, simprocAttr]
 try refine ⟨sd, ?_⟩
 refine Rg.callF (av := ?av7) (ok_disk_sides_api_Service_i1 a_1.Services b_2.Services _ hr_5) si si sg ?cont7
 intro hv7
 simp only [go_sem, simprocAttr]
 first | apply hK6 | refine ⟨sd, hK6 _ _ ?_⟩
 refine qS ?_
 refine Wp.seqW fun K9 hK9 hW9 => ?_
 obtain ⟨k_20, hk_20, hm⟩ := jp_elim hm
 have hcut9 : ∀ s, k_20 s = some z → K9 [(6, .p (.l (List.map enc_api_File r_3.2))), (7, .p (.l (List.map enc_api_Setting r_4.1))), (8, .p (.l (List.map enc_api_Setting r_4.2))), (9, .p (.l (List.map enc_api_Service r_5.1))), (10, .p (.l (List.map enc_api_Service r_5.2))), (11, .buf 2)] [.cells 26 [.top, .top, .top, .top], .cells 26 [.top, .top, .top, .top], .buf 72 10 (List.map enc_api_Change s)] := by
  intro o2_19 hs
  have hm := hk_20 _ hs
  clear hs
  try dsimp only at hm
  try dsimp only
  refine hK9 _ _ ?_
  refine Wp.seqW fun K10 hK10 hW10 => ?_
  obtain ⟨k_35, hk_35, hm⟩ := jp_elim hm
  have hcut10 : ∀ s, k_35 s = some z → K10 [(6, .p (.l (List.map enc_api_File r_3.2))), (8, .p (.l (List.map enc_api_Setting r_4.2))), (9, .p (.l (List.map enc_api_Service r_5.1))), (10, .p (.l (List.map enc_api_Service r_5.2))), (11, .buf 2)] [.cells 26 [.top, .top, .top, .top], .cells 26 [.top, .top, .top, .top], .buf 72 10 (List.map enc_api_Change s)] := by
   intro o2_34 hs
   have hm := hk_35 _ hs
   clear hs
   try dsimp only at hm
   try dsimp only
   refine hK10 _ _ ?_
   refine Wp.seqW fun K11 hK11 hW11 => ?_
   obtain ⟨k_50, hk_50, hm⟩ := jp_elim hm
   have hcut11 : ∀ s, k_50 s = some z → K11 [(6, .p (.l (List.map enc_api_File r_3.2))), (8, .p (.l (List.map enc_api_Setting r_4.2))), (10, .p (.l (List.map enc_api_Service r_5.2))), (11, .buf 2)] [.cells 26 [.top, .top, .top, .top], .cells 26 [.top, .top, .top, .top], .buf 72 10 (List.map enc_api_Change s)] := by
    intro o2_49 hs
    have hm := hk_50 _ hs
    clear hs
    try dsimp only at hm
    try dsimp only
    refine hK11 _ _ ?_
    refine Wp.seqW fun K12 hK12 hW12 => ?_
    obtain ⟨k_65, hk_65, hm⟩ := jp_elim hm
    have hcut12 : ∀ s, k_65 s = some z → K12 [(8, .p (.l (List.map enc_api_Setting r_4.2))), (10, .p (.l (List.map enc_api_Service r_5.2))), (11, .buf 2)] [.cells 26 [.top, .top, .top, .top], .cells 26 [.top, .top, .top, .top], .buf 72 10 (List.map enc_api_Change s)] := by
     intro o2_64 hs
     have hm := hk_65 _ hs
     clear hs
     try dsimp only at hm
     try dsimp only
     refine hK12 _ _ ?_
     refine Wp.seqW fun K13 hK13 hW13 => ?_
     obtain ⟨k_80, hk_80, hm⟩ := jp_elim hm
     have hcut13 : ∀ s, k_80 s = some z → K13 [(10, .p (.l (List.map enc_api_Service r_5.2))), (11, .buf 2)] [.cells 26 [.top, .top, .top, .top], .cells 26 [.top, .top, .top, .top], .buf 72 10 (List.map enc_api_Change s)] := by
      intro o2_79 hs
      have hm := hk_80 _ hs
      clear hs
      try dsimp only at hm
      try dsimp only
      refine hK13 _ _ ?_
      refine Wp.seqW fun K14 hK14 hW14 => ?_
      obtain ⟨k_95, hk_95, hm⟩ := jp_elim hm
      have hcut14 : ∀ s, k_95 s = some z → K14 [(11, .buf 2)] [.cells 26 [.top, .top, .top, .top], .cells 26 [.top, .top, .top, .top], .buf 72 10 (List.map enc_api_Change s)] := by
       intro o2_94 hs
       have hm := hk_95 _ hs
       clear hs
       try dsimp only at hm
       try dsimp only
       refine hK14 _ _ ?_
       refine qS ?_
       refine Wp.ret ?_
       refine retQ_ret ?_
       cases hm
       exact fse4
      clear hK14 hk_95
      refine qS ?_
      refine Wp.block ?_
      obtain ⟨k_103, hk_103, hm⟩ := forL_cont hm
      refine Wp.fact 114 fun hl_106 => ?_
      replace hl_106 : r_5.2.length ≤ 274877906944 := by
       simp only [go_sem, simprocAttr, List.length_map] at hl_106
       omega
      refine Wp.forL (fun i_105 s => [(11, .buf 2), (114, .p (.l (List.map enc_api_Service r_5.2))), (115, .p (.i .i64 (r_5.2.length : Int))), (116, .p (.i .i64 (i_105 : Int)))]) (fun i_105 s => [.cells 26 [.top, .top, .top, .top], .cells 26 [.top, .top, .top, .top], .buf 72 10 (List.map enc_api_Change s)]) ?_ hm ?_
      ·
       exact fse4
      clear hm
      intro i_105 o2_100 hii_105 hm
      try dsimp only at hm
      try dsimp only
      refine qS ?_
      refine Wp.seqW fun K18 hK18 hW18 => ?_
      refine Wp.cond rfl ⟨⟩ (fun hc18 => ?_) (fun hc18 => ?_)
      rotate_left
      ·refine Wp.exit ?_
       have hm := hk_103 _ (forL_end hm (ge_nat (by first | exact hc18 | simpa using hc18)))
       try dsimp only at hm
       refine hW14 _ _ _ _ ?_ (hcut14 o2_100 hm)
       exact fse4
      have hlt18 := lt_nat (by first | exact hc18 | simpa using hc18)
      have hw18 := wrap_succ hlt18 hl_106
      obtain ⟨s_107, nx_104, hxs_107, hys_107, hnx_104, hm⟩ := forL_step hm hlt18
      replace hxs_107 := hxs_107 enc_api_Service
      refine Wp.skip ?_
      simp only [thenQ]
      refine hK18 _ _ ?_
      refine Wp.seqW fun K19 hK19 hW19 => ?_
      refine Wp.block ?_
      refine Wp.seqR fun K20 hK20 => ?_
      simp only [go_sem, simprocAttr, hw18, hxs_107]
      first | apply hK20 | refine ⟨sd, hK20 _ _ ?_⟩
      obtain ⟨c_108, hm⟩ := chk_elim hm
      refine Wp.region fun K21 hK21 => ?_
      simp only [go_sem, simprocAttr, hw18, hxs_107]
      first | apply hK21 | refine ⟨by first | exact sd | ((repeat' apply And.intro) <;> first | assumption | omega | (simp only [List.length_append, List.length_map, List.length_cons, List.length_nil, List.length_set, List.length_replicate] at c_108 ⊢; omega)), hK21 _ _ ?_⟩
      refine hK19 _ _ ?_
      refine Wp.region fun K22 hK22 => ?_
      simp only [go_sem, simprocAttr, hw18, hxs_107]
      first | apply hK22 | refine ⟨sd, hK22 _ _ ?_⟩
      simp only [thenQ, blockQ, ↓reduceIte]
      refine ⟨o2_100 ++ [(api_Change.mk 5 (api_File.mk [] [] false) (api_Setting.mk [] []) s_107)], hlt18, hnx_104 _ hm, ?_⟩
      simp only [go_sem, simprocAttr, hw18, hxs_107]
      try exact se4
     clear hK13 hk_80
     refine qS ?_
     refine Wp.block ?_
     obtain ⟨k_116, hk_116, hm⟩ := forL_cont hm
     refine Wp.fact 102 fun hl_119 => ?_
     replace hl_119 : r_4.2.length ≤ 274877906944 := by
      simp only [go_sem, simprocAttr, List.length_map] at hl_119
      omega
     refine Wp.forL (fun i_118 s => [(10, .p (.l (List.map enc_api_Service r_5.2))), (11, .buf 2), (102, .p (.l (List.map enc_api_Setting r_4.2))), (103, .p (.i .i64 (r_4.2.length : Int))), (104, .p (.i .i64 (i_118 : Int)))]) (fun i_118 s => [.cells 26 [.top, .top, .top, .top], .cells 26 [.top, .top, .top, .top], .buf 72 10 (List.map enc_api_Change s)]) ?_ hm ?_
     ·
      exact fse4
     clear hm
     intro i_118 o2_113 hii_118 hm
     try dsimp only at hm
     try dsimp only
     refine qS ?_
     refine Wp.seqW fun K25 hK25 hW25 => ?_
     refine Wp.cond rfl ⟨⟩ (fun hc25 => ?_) (fun hc25 => ?_)
     rotate_left
     ·refine Wp.exit ?_
      have hm := hk_116 _ (forL_end hm (ge_nat (by first | exact hc25 | simpa using hc25)))
      try dsimp only at hm
      refine hW13 _ _ _ _ ?_ (hcut13 o2_113 hm)
      exact fse4
     have hlt25 := lt_nat (by first | exact hc25 | simpa using hc25)
     have hw25 := wrap_succ hlt25 hl_119
     obtain ⟨s_120, nx_117, hxs_120, hys_120, hnx_117, hm⟩ := forL_step hm hlt25
     replace hxs_120 := hxs_120 enc_api_Setting
     refine Wp.skip ?_
     simp only [thenQ]
     refine hK25 _ _ ?_
     refine Wp.seqW fun K26 hK26 hW26 => ?_
     refine Wp.block ?_
     refine Wp.seqR fun K27 hK27 => ?_
     simp only [go_sem, simprocAttr, hw25, hxs_120]
     first | apply hK27 | refine ⟨sd, hK27 _ _ ?_⟩
     obtain ⟨c_121, hm⟩ := chk_elim hm
     refine Wp.region fun K28 hK28 => ?_
     simp only [go_sem, simprocAttr, hw25, hxs_120]
     first | apply hK28 | refine ⟨by first | exact sd | ((repeat' apply And.intro) <;> first | assumption | omega | (simp only [List.length_append, List.length_map, List.length_cons, List.length_nil, List.length_set, List.length_replicate] at c_121 ⊢; omega)), hK28 _ _ ?_⟩
     refine hK26 _ _ ?_
     refine Wp.region fun K29 hK29 => ?_
     simp only [go_sem, simprocAttr, hw25, hxs_120]
     first | apply hK29 | refine ⟨sd, hK29 _ _ ?_⟩
     simp only [thenQ, blockQ, ↓reduceIte]
     refine ⟨o2_113 ++ [(api_Change.mk 3 (api_File.mk [] [] false) s_120 (api_Service.mk [] [] false false))], hlt25, hnx_117 _ hm, ?_⟩
     simp only [go_sem, simprocAttr, hw25, hxs_120]
     try exact se4
    clear hK12 hk_65
    refine qS ?_
    refine Wp.block ?_
    obtain ⟨k_129, hk_129, hm⟩ := forL_cont hm
    refine Wp.fact 90 fun hl_132 => ?_
    replace hl_132 : r_3.2.length ≤ 274877906944 := by
     simp only [go_sem, simprocAttr, List.length_map] at hl_132
     omega
    refine Wp.forL (fun i_131 s => [(8, .p (.l (List.map enc_api_Setting r_4.2))), (10, .p (.l (List.map enc_api_Service r_5.2))), (11, .buf 2), (90, .p (.l (List.map enc_api_File r_3.2))), (91, .p (.i .i64 (r_3.2.length : Int))), (92, .p (.i .i64 (i_131 : Int)))]) (fun i_131 s => [.cells 26 [.top, .top, .top, .top], .cells 26 [.top, .top, .top, .top], .buf 72 10 (List.map enc_api_Change s)]) ?_ hm ?_
    ·
     exact fse4
    clear hm
    intro i_131 o2_126 hii_131 hm
    try dsimp only at hm
    try dsimp only
    refine qS ?_
    refine Wp.seqW fun K32 hK32 hW32 => ?_
    refine Wp.cond rfl ⟨⟩ (fun hc32 => ?_) (fun hc32 => ?_)
    rotate_left
    ·refine Wp.exit ?_
     have hm := hk_129 _ (forL_end hm (ge_nat (by first | exact hc32 | simpa using hc32)))
     try dsimp only at hm
     refine hW12 _ _ _ _ ?_ (hcut12 o2_126 hm)
     exact fse4
    have hlt32 := lt_nat (by first | exact hc32 | simpa using hc32)
    have hw32 := wrap_succ hlt32 hl_132
    obtain ⟨f_133, nx_130, hxf_133, hyf_133, hnx_130, hm⟩ := forL_step hm hlt32
    replace hxf_133 := hxf_133 enc_api_File
    refine Wp.skip ?_
    simp only [thenQ]
    refine hK32 _ _ ?_
    refine Wp.seqW fun K33 hK33 hW33 => ?_
    refine Wp.block ?_
    refine Wp.seqR fun K34 hK34 => ?_
    simp only [go_sem, simprocAttr, hw32, hxf_133]
    first | apply hK34 | refine ⟨sd, hK34 _ _ ?_⟩
    obtain ⟨c_134, hm⟩ := chk_elim hm
    refine Wp.region fun K35 hK35 => ?_
    simp only [go_sem, simprocAttr, hw32, hxf_133]
    first | apply hK35 | refine ⟨by first | exact sd | ((repeat' apply And.intro) <;> first | assumption | omega | (simp only [List.length_append, List.length_map, List.length_cons, List.length_nil, List.length_set, List.length_replicate] at c_134 ⊢; omega)), hK35 _ _ ?_⟩
    refine hK33 _ _ ?_
    refine Wp.region fun K36 hK36 => ?_
    simp only [go_sem, simprocAttr, hw32, hxf_133]
    first | apply hK36 | refine ⟨sd, hK36 _ _ ?_⟩
    simp only [thenQ, blockQ, ↓reduceIte]
    refine ⟨o2_126 ++ [(api_Change.mk 1 f_133 (api_Setting.mk [] []) (api_Service.mk [] [] false false))], hlt32, hnx_130 _ hm, ?_⟩
    simp only [go_sem, simprocAttr, hw32, hxf_133]
    try exact se4
   clear hK11 hk_50
   refine qS ?_
   refine Wp.block ?_
   obtain ⟨k_142, hk_142, hm⟩ := forL_cont hm
   refine Wp.fact 76 fun hl_145 => ?_
   replace hl_145 : r_5.1.length ≤ 274877906944 := by
    simp only [go_sem, simprocAttr, List.length_map] at hl_145
    omega
   refine Wp.forL (fun i_144 s => [(6, .p (.l (List.map enc_api_File r_3.2))), (8, .p (.l (List.map enc_api_Setting r_4.2))), (10, .p (.l (List.map enc_api_Service r_5.2))), (11, .buf 2), (76, .p (.l (List.map enc_api_Service r_5.1))), (77, .p (.i .i64 (r_5.1.length : Int))), (78, .p (.i .i64 (i_144 : Int)))]) (fun i_144 s => [.cells 26 [.top, .top, .top, .top], .cells 26 [.top, .top, .top, .top], .buf 72 10 (List.map enc_api_Change s)]) ?_ hm ?_
   ·
    exact fse4
   clear hm
   intro i_144 o2_139 hii_144 hm
   try dsimp only at hm
   try dsimp only
   refine qS ?_
   refine Wp.seqW fun K39 hK39 hW39 => ?_
   refine Wp.cond rfl ⟨⟩ (fun hc39 => ?_) (fun hc39 => ?_)
   rotate_left
   ·refine Wp.exit ?_
    have hm := hk_142 _ (forL_end hm (ge_nat (by first | exact hc39 | simpa using hc39)))
    try dsimp only at hm
    refine hW11 _ _ _ _ ?_ (hcut11 o2_139 hm)
    exact fse4
   have hlt39 := lt_nat (by first | exact hc39 | simpa using hc39)
   have hw39 := wrap_succ hlt39 hl_145
   obtain ⟨s_146, nx_143, hxs_146, hys_146, hnx_143, hm⟩ := forL_step hm hlt39
   replace hxs_146 := hxs_146 enc_api_Service
   refine Wp.skip ?_
   simp only [thenQ]
   refine hK39 _ _ ?_
   refine Wp.seqW fun K40 hK40 hW40 => ?_
   refine Wp.block ?_
   refine Wp.seqR fun K41 hK41 => ?_
   simp only [go_sem, simprocAttr, hw39, hxs_146]
   first | apply hK41 | refine ⟨sd, hK41 _ _ ?_⟩
   obtain ⟨c_147, hm⟩ := chk_elim hm
   refine Wp.region fun K42 hK42 => ?_
   simp only [go_sem, simprocAttr, hw39, hxs_146]
   first | apply hK42 | refine ⟨by first | exact sd | ((repeat' apply And.intro) <;> first | assumption | omega | (simp only [List.length_append, List.length_map, List.length_cons, List.length_nil, List.length_set, List.length_replicate] at c_147 ⊢; omega)), hK42 _ _ ?_⟩
   refine hK40 _ _ ?_
   refine Wp.region fun K43 hK43 => ?_
   simp only [go_sem, simprocAttr, hw39, hxs_146]
   first | apply hK43 | refine ⟨sd, hK43 _ _ ?_⟩
   simp only [thenQ, blockQ, ↓reduceIte]
   refine ⟨o2_139 ++ [(api_Change.mk 6 (api_File.mk [] [] false) (api_Setting.mk [] []) (api_Service.mk s_146.Name [] false false))], hlt39, hnx_143 _ hm, ?_⟩
   simp only [go_sem, simprocAttr, hw39, hxs_146]
   try exact se4
  clear hK10 hk_35
  refine qS ?_
  refine Wp.block ?_
  obtain ⟨k_155, hk_155, hm⟩ := forL_cont hm
  refine Wp.fact 62 fun hl_158 => ?_
  replace hl_158 : r_4.1.length ≤ 274877906944 := by
   simp only [go_sem, simprocAttr, List.length_map] at hl_158
   omega
  refine Wp.forL (fun i_157 s => [(6, .p (.l (List.map enc_api_File r_3.2))), (8, .p (.l (List.map enc_api_Setting r_4.2))), (9, .p (.l (List.map enc_api_Service r_5.1))), (10, .p (.l (List.map enc_api_Service r_5.2))), (11, .buf 2), (62, .p (.l (List.map enc_api_Setting r_4.1))), (63, .p (.i .i64 (r_4.1.length : Int))), (64, .p (.i .i64 (i_157 : Int)))]) (fun i_157 s => [.cells 26 [.top, .top, .top, .top], .cells 26 [.top, .top, .top, .top], .buf 72 10 (List.map enc_api_Change s)]) ?_ hm ?_
  ·
   exact fse4
  clear hm
  intro i_157 o2_152 hii_157 hm
  try dsimp only at hm
  try dsimp only
  refine qS ?_
  refine Wp.seqW fun K46 hK46 hW46 => ?_
  refine Wp.cond rfl ⟨⟩ (fun hc46 => ?_) (fun hc46 => ?_)
  rotate_left
  ·refine Wp.exit ?_
   have hm := hk_155 _ (forL_end hm (ge_nat (by first | exact hc46 | simpa using hc46)))
   try dsimp only at hm
   refine hW10 _ _ _ _ ?_ (hcut10 o2_152 hm)
   exact fse4
  have hlt46 := lt_nat (by first | exact hc46 | simpa using hc46)
  have hw46 := wrap_succ hlt46 hl_158
  obtain ⟨s_159, nx_156, hxs_159, hys_159, hnx_156, hm⟩ := forL_step hm hlt46
  replace hxs_159 := hxs_159 enc_api_Setting
  refine Wp.skip ?_
  simp only [thenQ]
  refine hK46 _ _ ?_
  refine Wp.seqW fun K47 hK47 hW47 => ?_
  refine Wp.block ?_
  refine Wp.seqR fun K48 hK48 => ?_
  simp only [go_sem, simprocAttr, hw46, hxs_159]
  first | apply hK48 | refine ⟨sd, hK48 _ _ ?_⟩
  obtain ⟨c_160, hm⟩ := chk_elim hm
  refine Wp.region fun K49 hK49 => ?_
  simp only [go_sem, simprocAttr, hw46, hxs_159]
  first | apply hK49 | refine ⟨by first | exact sd | ((repeat' apply And.intro) <;> first | assumption | omega | (simp only [List.length_append, List.length_map, List.length_cons, List.length_nil, List.length_set, List.length_replicate] at c_160 ⊢; omega)), hK49 _ _ ?_⟩
  refine hK47 _ _ ?_
  refine Wp.region fun K50 hK50 => ?_
  simp only [go_sem, simprocAttr, hw46, hxs_159]
  first | apply hK50 | refine ⟨sd, hK50 _ _ ?_⟩
  simp only [thenQ, blockQ, ↓reduceIte]
  refine ⟨o2_152 ++ [(api_Change.mk 4 (api_File.mk [] [] false) (api_Setting.mk s_159.Key []) (api_Service.mk [] [] false false))], hlt46, hnx_156 _ hm, ?_⟩
  simp only [go_sem, simprocAttr, hw46, hxs_159]
  try exact se4
 clear hK9 hk_20
 refine qS ?_
 refine Wp.block ?_
 refine Wp.adopt 11 72 10 rfl ?_
 simp only [go_sem, simprocAttr]
 obtain ⟨k_168, hk_168, hm⟩ := forL_cont hm
 refine Wp.fact 48 fun hl_171 => ?_
 replace hl_171 : r_3.1.length ≤ 274877906944 := by
  simp only [go_sem, simprocAttr, List.length_map] at hl_171
  omega
 refine Wp.forL (fun i_170 s => [(6, .p (.l (List.map enc_api_File r_3.2))), (7, .p (.l (List.map enc_api_Setting r_4.1))), (8, .p (.l (List.map enc_api_Setting r_4.2))), (9, .p (.l (List.map enc_api_Service r_5.1))), (10, .p (.l (List.map enc_api_Service r_5.2))), (11, .buf 2), (48, .p (.l (List.map enc_api_File r_3.1))), (49, .p (.i .i64 (r_3.1.length : Int))), (50, .p (.i .i64 (i_170 : Int)))]) (fun i_170 s => [.cells 26 [.p (.l (List.map enc_api_Setting a_1.Facts)), .p (.l (List.map enc_api_File a_1.Files)), .p (.l (List.map enc_api_Setting a_1.Settings)), .p (.l (List.map enc_api_Service a_1.Services))], .cells 26 [.p (.l (List.map enc_api_Setting b_2.Facts)), .p (.l (List.map enc_api_File b_2.Files)), .p (.l (List.map enc_api_Setting b_2.Settings)), .p (.l (List.map enc_api_Service b_2.Services))], .buf 72 10 (List.map enc_api_Change s)]) ?_ hm ?_
 ·
  exact fse4
 clear hm
 intro i_170 o2_165 hii_170 hm
 try dsimp only at hm
 try dsimp only
 refine qS ?_
 refine Wp.seqW fun K53 hK53 hW53 => ?_
 refine Wp.cond rfl ⟨⟩ (fun hc53 => ?_) (fun hc53 => ?_)
 rotate_left
 ·refine Wp.exit ?_
  have hm := hk_168 _ (forL_end hm (ge_nat (by first | exact hc53 | simpa using hc53)))
  try dsimp only at hm
  refine hW9 _ _ _ _ ?_ (hcut9 o2_165 hm)
  exact fse4
 have hlt53 := lt_nat (by first | exact hc53 | simpa using hc53)
 have hw53 := wrap_succ hlt53 hl_171
 obtain ⟨f_172, nx_169, hxf_172, hyf_172, hnx_169, hm⟩ := forL_step hm hlt53
 replace hxf_172 := hxf_172 enc_api_File
 refine Wp.skip ?_
 simp only [thenQ]
 refine hK53 _ _ ?_
 refine Wp.seqW fun K54 hK54 hW54 => ?_
 refine Wp.block ?_
 refine Wp.seqR fun K55 hK55 => ?_
 simp only [go_sem, simprocAttr, hw53, hxf_172]
 first | apply hK55 | refine ⟨sd, hK55 _ _ ?_⟩
 obtain ⟨c_173, hm⟩ := chk_elim hm
 refine Wp.region fun K56 hK56 => ?_
 simp only [go_sem, simprocAttr, hw53, hxf_172]
 first | apply hK56 | refine ⟨by first | exact sd | ((repeat' apply And.intro) <;> first | assumption | omega | (simp only [List.length_append, List.length_map, List.length_cons, List.length_nil, List.length_set, List.length_replicate] at c_173 ⊢; omega)), hK56 _ _ ?_⟩
 refine hK54 _ _ ?_
 refine Wp.region fun K57 hK57 => ?_
 simp only [go_sem, simprocAttr, hw53, hxf_172]
 first | apply hK57 | refine ⟨sd, hK57 _ _ ?_⟩
 simp only [thenQ, blockQ, ↓reduceIte]
 refine ⟨o2_165 ++ [(api_Change.mk 2 (api_File.mk f_172.Path [] false) (api_Setting.mk [] []) (api_Service.mk [] [] false false))], hlt53, hnx_169 _ hm, ?_⟩
 simp only [go_sem, simprocAttr, hw53, hxf_172]
 try exact se4
end Go.Proofs.YtbfemlilfeahkaaGreatDoor
