/- That the code does what the models say (part 5). -/
import Derived.Test.YtkekfenkeeiigaaDoorDmWk0
import Derived.Test.YtkekfenkeeiigaaDoorDmWk3
import Derived.Test.YtkekfenkeeiigaaDoorDmWk4
set_option linter.unusedSimpArgs false
set_option linter.unusedVariables false
open Go.Proofs Go.Shelf
namespace Go.Proofs.YtkekfenkeeiigaaDoor
open Go.Vc Go.Md
set_option maxRecDepth 100000
set_option maxHeartbeats 4000000
theorem ok_internal_strconv_formatBits (dst_1 : List Int) (u_2 : Int) (base_3 : Int) (neg_4 : Bool) (append__5 : Bool) (z : List Int × Str) (hm : internal_strconv_formatBits dst_1 u_2 base_3 neg_4 append__5 = some z) : Does Tryd.prog 124 [.p (.l (List.map ecI_u8 dst_1)), .p (.i .u64 u_2), .p (.i .i64 base_3), .p (.b neg_4), .p (.b append__5)] [] (fun r X => r = .tup [.p (.l (List.map ecI_u8 z.1)), .p (.s z.2)] ∧ X = []) := by
 unfold internal_strconv_formatBits at hm
 refine Does.of_wp 0 102 [.tmp 10, .tmp 11] Tryd.func124 rfl (by decide) rfl rfl (Nat.le_of_ble_eq_true rfl) fun B => ?_
 refine qS ?_
 refine Wp.seqW fun K2 hK2 hW2 => ?_
 obtain ⟨k_6, hk_6, hm⟩ := jp_elim hm
 have hcut2 : ∀ s, k_6 s = some z → K2 [(0, .p (.l (List.map ecI_u8 dst_1))), (1, .p (.i .u64 u_2)), (2, .p (.i .i64 base_3)), (3, .p (.b neg_4)), (4, .p (.b append__5)), (10, .nils), (11, .p (.s []))] [] := by
  intro s hs
  have hm := hk_6 _ hs
  clear hs
  try dsimp only at hm
  try dsimp only
  refine hK2 _ _ ?_
  refine qS ?_
  refine qS ?_
  refine Wp.seqW fun K5 hK5 hW5 => ?_
  obtain ⟨k_8, hk_8, hm⟩ := jp_elim hm
  have hcut5 : ∀ s, k_8 s = some z → K5 [(0, .p (.l (List.map ecI_u8 dst_1))), (1, .p (.i .u64 s)), (2, .p (.i .i64 base_3)), (3, .p (.b neg_4)), (4, .p (.b append__5)), (10, .nils), (11, .p (.s [])), (12, .ptr 0 0), (13, .p (.i .i64 65))] [.buf 177 1 (List.map ecI_u8 (List.replicate 65 0))] := by
   intro u_7 hs
   have hm := hk_8 _ hs
   clear hs
   try dsimp only at hm
   try dsimp only
   refine hK5 _ _ ?_
   refine Wp.seqW fun K6 hK6 hW6 => ?_
   obtain ⟨k_89, hk_89, hm⟩ := jp_elim hm
   have hcut6 : ∀ s, k_89 s = some z → K6 [(0, .p (.l (List.map ecI_u8 dst_1))), (3, .p (.b neg_4)), (4, .p (.b append__5)), (10, .nils), (11, .p (.s [])), (12, .ptr 0 0), (13, .p (.i .i64 s.1))] [.buf 177 1 (List.map ecI_u8 s.2)] := by
    intro s hs
    have hm := hk_89 _ hs
    clear hs
    obtain ⟨i_87, o0_88⟩ := s
    try dsimp only at hm
    try dsimp only
    refine hK6 _ _ ?_
    refine Wp.seqW fun K7 hK7 hW7 => ?_
    obtain ⟨k_93, hk_93, hm⟩ := jp_elim hm
    have hcut7 : ∀ s, k_93 s = some z → K7 [(0, .p (.l (List.map ecI_u8 dst_1))), (4, .p (.b append__5)), (10, .nils), (11, .p (.s [])), (12, .ptr 0 0), (13, .p (.i .i64 s.1))] [.buf 177 1 (List.map ecI_u8 s.2)] := by
     intro s hs
     have hm := hk_93 _ hs
     clear hs
     obtain ⟨i_91, o0_92⟩ := s
     try dsimp only at hm
     try dsimp only
     refine hK7 _ _ ?_
     refine Wp.seqW fun K8 hK8 hW8 => ?_
     refine qS ?_
     refine cM hm (fun hc10 hm => ?_) (fun hc10 hm => ?_)
     ·obtain ⟨c_94, hm⟩ := chk_elim hm
      cases hm
     ·refine Wp.skip ?_
      refine hK8 _ _ ?_
      obtain ⟨c_95, hm⟩ := chk_elim hm
      refine Wp.seqR fun K11 hK11 => ?_
      simp only [go_sem, simprocAttr]
      first | apply hK11 | refine ⟨by first | exact sd | ((repeat' apply And.intro) <;> first | assumption | omega | (simp only [List.length_append, List.length_map, List.length_cons, List.length_nil, List.length_set, List.length_replicate] at c_95 ⊢; omega)), hK11 _ _ ?_⟩
      refine Wp.ret ?_
      refine retQ_retE ?_
      cases hm
      exact fse3
    clear hK7 hk_93
    refine qS ?_
    refine cM hm (fun hc13 hm => ?_) (fun hc13 hm => ?_)
    ·refine qS ?_
     obtain ⟨c_96, hm⟩ := chk_elim hm
     refine Wp.region fun K15 hK15 => ?_
     simp only [go_sem, simprocAttr]
     first | apply hK15 | refine ⟨by first | exact sd | ((repeat' apply And.intro) <;> first | assumption | omega | (simp only [List.length_append, List.length_map, List.length_cons, List.length_nil, List.length_set, List.length_replicate] at c_96 ⊢; omega)), hK15 _ _ ?_⟩
     refine hW7 _ _ _ _ ?_ (hcut7 (IntKind.i64.wrap (i_87 - 1), List.set o0_88 ((IntKind.i64.wrap (i_87 - 1)).toNat) 45) hm)
     exact fse3
    ·refine Wp.skip ?_
     refine hW7 _ _ _ _ ?_ (hcut7 (i_87, o0_88) hm)
     exact fse3
   clear hK6 hk_89
   obtain ⟨r_97, hr_97, hm⟩ := call_elim hm
   refine Wp.seqR fun K16 hK16 => ?_
   simp only [go_sem, simprocAttr]
   try refine ⟨sd, ?_⟩
   refine Rg.callX (av := ?av17) (g := true) (fun hg => ok_internal_strconv_isPowerOfTwo base_3 _ hr_97) si si si sg si ?cont17
   intro hv17
   simp only [go_sem, simprocAttr]
   first | apply hK16 | refine ⟨sd, hK16 _ _ ?_⟩
   refine cM hm (fun hc18 hm => ?_) (fun hc18 hm => ?_)
   ·obtain ⟨r_98, hr_98, hm⟩ := call_elim hm
    refine Wp.seqR fun K19 hK19 => ?_
    simp only [go_sem, simprocAttr]
    try refine ⟨sd, ?_⟩
    refine Rg.callX (av := ?av20) (g := true) (fun hg => ok_math_bits_TrailingZeros (IntKind.u64.wrap base_3) _ hr_98) si si si sg si ?cont20
    intro hv20
    simp only [go_sem, simprocAttr]
    first | apply hK19 | refine ⟨sd, hK19 _ _ ?_⟩
    refine qS ?_
    refine qS ?_
    refine Wp.seqW fun K23 hK23 hW23 => ?_
    obtain ⟨k_118, hk_118, hm⟩ := jp_elim hm
    have hcut23 : ∀ s, k_118 s = some z → K23 [(0, .p (.l (List.map ecI_u8 dst_1))), (1, .p (.i .u64 s.1)), (3, .p (.b neg_4)), (4, .p (.b append__5)), (10, .nils), (11, .p (.s [])), (12, .ptr 0 0), (13, .p (.i .i64 s.2.1))] [.buf 177 1 (List.map ecI_u8 s.2.2)] := by
     intro s hs
     have hm := hk_118 _ hs
     clear hs
     obtain ⟨u_115, i_116, o0_117⟩ := s
     try dsimp only at hm
     try dsimp only
     refine hK23 _ _ ?_
     refine qS ?_
     obtain ⟨c_119, hbc_119, hxc_119, hm⟩ := idxS_elim hm
     replace hxc_119 : ((([48, 49, 50, 51, 52, 53, 54, 55, 56, 57, 97, 98, 99, 100, 101, 102, 103, 104, 105, 106, 107, 108, 109, 110, 111, 112, 113, 114, 115, 116, 117, 118, 119, 120, 121, 122] : Str).getD u_115.toNat 0).toNat : Int) = c_119 := hxc_119
     obtain ⟨c_120, hm⟩ := chk_elim hm
     refine Wp.region fun K25 hK25 => ?_
     simp only [go_sem, simprocAttr, hxc_119]
     first | apply hK25 | refine ⟨by first | exact sd | ((repeat' apply And.intro) <;> first | assumption | omega | (simp only [List.length_append, List.length_map, List.length_cons, List.length_nil, List.length_set, List.length_replicate] at c_120 ⊢; omega)), hK25 _ _ ?_⟩
     refine hW6 _ _ _ _ ?_ (hcut6 (IntKind.i64.wrap (i_116 - 1), List.set o0_117 ((IntKind.i64.wrap (i_116 - 1)).toNat) c_119) hm)
     simp only [go_sem, simprocAttr, hxc_119]
     try exact se3
    clear hK23 hk_118
    refine Wp.block ?_
    obtain ⟨k_132, hk_132, hm⟩ := loopN_cont hm
    refine Wp.loopN (fun s => [(0, .p (.l (List.map ecI_u8 dst_1))), (1, .p (.i .u64 s.1)), (3, .p (.b neg_4)), (4, .p (.b append__5)), (10, .nils), (11, .p (.s [])), (12, .ptr 0 0), (13, .p (.i .i64 s.2.1)), (14, .p (.i .u64 (IntKind.u64.wrap r_98))), (15, .p (.i .u64 (IntKind.u64.wrap base_3))), (16, .p (.i .u64 (IntKind.u64.wrap ((IntKind.u64.wrap base_3) - 1))))]) (fun s => [.buf 177 1 (List.map ecI_u8 s.2.2)]) ?_ hm ?_
    ·
     exact fse3
    clear hm
    intro s nx_133 hm
    obtain ⟨u_126, i_127, o0_128⟩ := s
    try dsimp only at hm
    try dsimp only
    refine Wp.seqW fun K26 hK26 hW26 => ?_
    refine qS ?_
    refine cM hm (fun hc28 hm => ?_) (fun hc28 hm => ?_)
    ·refine Wp.skip ?_
     refine hK26 _ _ ?_
     refine Wp.block ?_
     refine qS ?_
     obtain ⟨c_134, hbc_134, hxc_134, hm⟩ := idxS_elim hm
     replace hxc_134 : ((([48, 49, 50, 51, 52, 53, 54, 55, 56, 57, 97, 98, 99, 100, 101, 102, 103, 104, 105, 106, 107, 108, 109, 110, 111, 112, 113, 114, 115, 116, 117, 118, 119, 120, 121, 122] : Str).getD ((bitsI .and .u64 u_126 (IntKind.u64.wrap ((IntKind.u64.wrap base_3) - 1))).toNat) 0).toNat : Int) = c_134 := hxc_134
     obtain ⟨c_135, hm⟩ := chk_elim hm
     refine Wp.seqR fun K30 hK30 => ?_
     simp only [go_sem, simprocAttr, hxc_134]
     first | apply hK30 | refine ⟨by first | exact sd | ((repeat' apply And.intro) <;> first | assumption | omega | (simp only [List.length_append, List.length_map, List.length_cons, List.length_nil, List.length_set, List.length_replicate] at c_135 ⊢; omega)), hK30 _ _ ?_⟩
     obtain ⟨c_136, hm⟩ := chk_elim hm
     refine Wp.region fun K31 hK31 => ?_
     simp only [go_sem, simprocAttr, hxc_134]
     first | apply hK31 | refine ⟨by first | exact sd | ((repeat' apply And.intro) <;> first | assumption | omega | (simp only [List.length_append, List.length_map, List.length_cons, List.length_nil, List.length_set, List.length_replicate] at c_136 ⊢; omega)), hK31 _ _ ?_⟩
     simp only [thenQ, blockQ, ↓reduceIte]
     refine ⟨(Int.fdiv u_126 (2 ^ (shI .u64 (IntKind.u64.wrap r_98))), IntKind.i64.wrap (i_127 - 1), List.set o0_128 ((IntKind.i64.wrap (i_127 - 1)).toNat) c_134), hm, ?_⟩
     simp only [go_sem, simprocAttr, hxc_134]
     try exact se3
    ·refine Wp.exit ?_
     simp only [thenQ, blockQ, ↓reduceIte]
     have hm := hk_132 _ hm
     try dsimp only at hm
     refine hW23 _ _ _ _ ?_ (hcut23 (u_126, i_127, o0_128) hm)
     exact fse3
   ·refine qS ?_
    refine Wp.seqW fun K33 hK33 hW33 => ?_
    obtain ⟨k_156, hk_156, hm⟩ := jp_elim hm
    have hcut33 : ∀ s, k_156 s = some z → K33 [(0, .p (.l (List.map ecI_u8 dst_1))), (1, .p (.i .u64 s.1)), (3, .p (.b neg_4)), (4, .p (.b append__5)), (10, .nils), (11, .p (.s [])), (12, .ptr 0 0), (13, .p (.i .i64 s.2.1))] [.buf 177 1 (List.map ecI_u8 s.2.2)] := by
     intro s hs
     have hm := hk_156 _ hs
     clear hs
     obtain ⟨u_153, i_154, o0_155⟩ := s
     try dsimp only at hm
     try dsimp only
     refine hK33 _ _ ?_
     refine qS ?_
     obtain ⟨c_157, hbc_157, hxc_157, hm⟩ := idxS_elim hm
     replace hxc_157 : ((([48, 49, 50, 51, 52, 53, 54, 55, 56, 57, 97, 98, 99, 100, 101, 102, 103, 104, 105, 106, 107, 108, 109, 110, 111, 112, 113, 114, 115, 116, 117, 118, 119, 120, 121, 122] : Str).getD u_153.toNat 0).toNat : Int) = c_157 := hxc_157
     obtain ⟨c_158, hm⟩ := chk_elim hm
     refine Wp.region fun K35 hK35 => ?_
     simp only [go_sem, simprocAttr, hxc_157]
     first | apply hK35 | refine ⟨by first | exact sd | ((repeat' apply And.intro) <;> first | assumption | omega | (simp only [List.length_append, List.length_map, List.length_cons, List.length_nil, List.length_set, List.length_replicate] at c_158 ⊢; omega)), hK35 _ _ ?_⟩
     refine hW6 _ _ _ _ ?_ (hcut6 (IntKind.i64.wrap (i_154 - 1), List.set o0_155 ((IntKind.i64.wrap (i_154 - 1)).toNat) c_157) hm)
     simp only [go_sem, simprocAttr, hxc_157]
     try exact se3
    clear hK33 hk_156
    refine Wp.block ?_
    obtain ⟨k_170, hk_170, hm⟩ := loopN_cont hm
    refine Wp.loopN (fun s => [(0, .p (.l (List.map ecI_u8 dst_1))), (1, .p (.i .u64 s.1)), (3, .p (.b neg_4)), (4, .p (.b append__5)), (10, .nils), (11, .p (.s [])), (12, .ptr 0 0), (13, .p (.i .i64 s.2.1)), (17, .p (.i .u64 (IntKind.u64.wrap base_3)))]) (fun s => [.buf 177 1 (List.map ecI_u8 s.2.2)]) ?_ hm ?_
    ·
     exact fse3
    clear hm
    intro s nx_171 hm
    obtain ⟨u_164, i_165, o0_166⟩ := s
    try dsimp only at hm
    try dsimp only
    refine Wp.seqW fun K36 hK36 hW36 => ?_
    refine qS ?_
    refine cM hm (fun hc38 hm => ?_) (fun hc38 hm => ?_)
    ·refine Wp.skip ?_
     refine hK36 _ _ ?_
     refine Wp.block ?_
     refine qS ?_
     obtain ⟨c_172, hm⟩ := chk_elim hm
     refine Wp.seqR fun K40 hK40 => ?_
     simp only [go_sem, simprocAttr]
     first | apply hK40 | refine ⟨by first | exact sd | ((repeat' apply And.intro) <;> first | assumption | omega | (simp only [List.length_append, List.length_map, List.length_cons, List.length_nil, List.length_set, List.length_replicate] at c_172 ⊢; omega)), hK40 _ _ ?_⟩
     obtain ⟨c_173, hbc_173, hxc_173, hm⟩ := idxS_elim hm
     replace hxc_173 : ((([48, 49, 50, 51, 52, 53, 54, 55, 56, 57, 97, 98, 99, 100, 101, 102, 103, 104, 105, 106, 107, 108, 109, 110, 111, 112, 113, 114, 115, 116, 117, 118, 119, 120, 121, 122] : Str).getD ((IntKind.u64.wrap (u_164 - (IntKind.u64.wrap ((IntKind.u64.wrap (Int.tdiv u_164 (IntKind.u64.wrap base_3))) * (IntKind.u64.wrap base_3))))).toNat) 0).toNat : Int) = c_173 := hxc_173
     obtain ⟨c_174, hm⟩ := chk_elim hm
     refine Wp.seqR fun K41 hK41 => ?_
     simp only [go_sem, simprocAttr, hxc_173]
     first | apply hK41 | refine ⟨by first | exact sd | ((repeat' apply And.intro) <;> first | assumption | omega | (simp only [List.length_append, List.length_map, List.length_cons, List.length_nil, List.length_set, List.length_replicate] at c_174 ⊢; omega)), hK41 _ _ ?_⟩
     refine Wp.region fun K42 hK42 => ?_
     simp only [go_sem, simprocAttr, hxc_173]
     first | apply hK42 | refine ⟨sd, hK42 _ _ ?_⟩
     simp only [thenQ, blockQ, ↓reduceIte]
     refine ⟨(IntKind.u64.wrap (Int.tdiv u_164 (IntKind.u64.wrap base_3)), IntKind.i64.wrap (i_165 - 1), List.set o0_166 ((IntKind.i64.wrap (i_165 - 1)).toNat) c_173), hm, ?_⟩
     simp only [go_sem, simprocAttr, hxc_173]
     try exact se3
    ·refine Wp.exit ?_
     simp only [thenQ, blockQ, ↓reduceIte]
     have hm := hk_170 _ hm
     try dsimp only at hm
     refine hW33 _ _ _ _ ?_ (hcut33 (u_164, i_165, o0_166) hm)
     exact fse3
  clear hK5 hk_8
  refine qS ?_
  refine cM hm (fun hc44 hm => ?_) (fun hc44 hm => ?_)
  ·refine qR ?_
   refine hW5 _ _ _ _ ?_ (hcut5 (IntKind.u64.wrap (-u_2)) hm)
   exact fse3
  ·refine Wp.skip ?_
   refine hW5 _ _ _ _ ?_ (hcut5 u_2 hm)
   exact fse3
 clear hK2 hk_6
 refine qS ?_
 refine cM hm (fun hc47 hm => ?_) (fun hc47 hm => ?_)
 ·cases hm
 ·refine Wp.skip ?_
  refine hW2 _ _ _ _ ?_ (hcut2 () hm)
  exact fse3
theorem ok_internal_strconv_FormatUint (i_1 : Int) (base_2 : Int) (z : Str) (hm : internal_strconv_FormatUint i_1 base_2 = some z) : Does Tryd.prog 111 [.p (.i .u64 i_1), .p (.i .i64 base_2)] [] (fun r X => r = .p (.s z) ∧ X = []) := by
 unfold internal_strconv_FormatUint at hm
 refine Does.of_wp 0 32 [.tmp 4] Tryd.func111 rfl (by decide) rfl rfl (Nat.le_of_ble_eq_true rfl) fun B => ?_
 refine qS ?_
 refine Wp.seqW fun K2 hK2 hW2 => ?_
 refine qS ?_
 refine cM hm (fun hc4 hm => ?_) (fun hc4 hm => ?_)
 ·refine Wp.seqW fun K5 hK5 hW5 => ?_
  refine qS ?_
  refine cM hm (fun hc7 hm => ?_) (fun hc7 hm => ?_)
  ·cases hm
  ·refine Wp.skip ?_
   refine hK5 _ _ ?_
   refine qS ?_
   cases hm
 ·refine Wp.skip ?_
  refine hK2 _ _ ?_
  obtain ⟨r_3, hr_3, hm⟩ := call_elim hm
  refine Wp.seqR fun K9 hK9 => ?_
  simp only [go_sem, simprocAttr]
  try refine ⟨sd, ?_⟩
  refine Rg.callF (av := ?av10) (ok_internal_strconv_formatBits [] i_1 base_2 false false _ hr_3) si si sg ?cont10
  intro hv10
  simp only [go_sem, simprocAttr]
  first | apply hK9 | refine ⟨sd, hK9 _ _ ?_⟩
  refine qS ?_
  refine Wp.ret ?_
  refine retQ_ret ?_
  cases hm
  exact fse3
theorem ok_strconv_FormatUint (i_1 : Int) (base_2 : Int) (z : Str) (hm : strconv_FormatUint i_1 base_2 = some z) : Does Tryd.prog 90 [.p (.i .u64 i_1), .p (.i .i64 base_2)] [] (fun r X => r = .p (.s z) ∧ X = []) := by
 unfold strconv_FormatUint at hm
 refine Does.of_wp 0 8 [.tmp 4] Tryd.func90 rfl (by decide) rfl rfl (Nat.le_of_ble_eq_true rfl) fun B => ?_
 refine qS ?_
 obtain ⟨r_3, hr_3, hm⟩ := call_elim hm
 refine Wp.seqR fun K2 hK2 => ?_
 simp only [go_sem, simprocAttr]
 try refine ⟨sd, ?_⟩
 refine Rg.callX (av := ?av3) (g := true) (fun hg => ok_internal_strconv_FormatUint i_1 base_2 _ hr_3) si si si sg si ?cont3
 intro hv3
 simp only [go_sem, simprocAttr]
 first | apply hK2 | refine ⟨sd, hK2 _ _ ?_⟩
 refine Wp.ret ?_
 refine retQ_ret ?_
 cases hm
 exact fse3
theorem ok_math_bits_Mul64 (x_1 : Int) (y_2 : Int) (z : Int × Int) (hm : math_bits_Mul64 x_1 y_2 = some z) : Does Tryd.prog 102 [.p (.i .u64 x_1), .p (.i .u64 y_2)] [] (fun r X => r = .tup [.p (.i .u64 z.1), .p (.i .u64 z.2)] ∧ X = []) := by
 unfold math_bits_Mul64 at hm
 refine Does.of_wp 0 51 [.tmp 4, .tmp 5] Tryd.func102 rfl (by decide) rfl rfl (Nat.le_of_ble_eq_true rfl) fun B => ?_
 refine qS ?_
 refine qS ?_
 refine qS ?_
 refine qS ?_
 refine qS ?_
 refine qS ?_
 refine qS ?_
 refine qS ?_
 refine qS ?_
 refine qS ?_
 refine qS ?_
 refine qS ?_
 refine Wp.ret ?_
 refine retQ_ret ?_
 cases hm
 exact fse3
theorem ok_math_bits_Mul (x_1 : Int) (y_2 : Int) (z : Int × Int) (hm : math_bits_Mul x_1 y_2 = some z) : Does Tryd.prog 60 [.p (.i .u64 x_1), .p (.i .u64 y_2)] [] (fun r X => r = .tup [.p (.i .u64 z.1), .p (.i .u64 z.2)] ∧ X = []) := by
 unfold math_bits_Mul at hm
 refine Does.of_wp 0 30 [.tmp 4, .tmp 5] Tryd.func60 rfl (by decide) rfl rfl (Nat.le_of_ble_eq_true rfl) fun B => ?_
 refine qS ?_
 refine Wp.seqW fun K2 hK2 hW2 => ?_
 refine Wp.cond rfl ⟨⟩ (fun hc3 => ?_) (fun hc3 => ?_)
 ·cases hc3
 refine Wp.skip ?_
 refine hK2 _ _ ?_
 obtain ⟨r_3, hr_3, hm⟩ := call_elim hm
 refine Wp.seqR fun K4 hK4 => ?_
 simp only [go_sem, simprocAttr]
 try refine ⟨sd, ?_⟩
 refine Rg.callX (av := ?av5) (g := true) (fun hg => ok_math_bits_Mul64 x_1 y_2 _ hr_3) si si si sg si ?cont5
 intro hv5
 simp only [go_sem, simprocAttr]
 first | apply hK4 | refine ⟨sd, hK4 _ _ ?_⟩
 refine qS ?_
 refine Wp.ret ?_
 refine retQ_ret ?_
 cases hm
 exact fse3
theorem ok_internal_stringslite_HasPrefix (s_1 : Str) (prefix_2 : Str) (z : Bool) (hm : internal_stringslite_HasPrefix s_1 prefix_2 = some z) : Does Tryd.prog 103 [.p (.s s_1), .p (.s prefix_2)] [] (fun r X => r = .p (.b z) ∧ X = []) := by
 unfold internal_stringslite_HasPrefix at hm
 refine Does.of_wp 0 18 [.tmp 4] Tryd.func103 rfl (by decide) rfl rfl (Nat.le_of_ble_eq_true rfl) fun B => ?_
 refine qS ?_
 obtain ⟨c_3, hm⟩ := chk_elim hm
 refine Wp.seqR fun K2 hK2 => ?_
 simp only [go_sem, simprocAttr]
 first | apply hK2 | refine ⟨by first | exact sd | ((repeat' apply And.intro) <;> first | assumption | omega | (simp only [List.length_append, List.length_map, List.length_cons, List.length_nil, List.length_set, List.length_replicate] at c_3 ⊢; omega)), hK2 _ _ ?_⟩
 refine Wp.ret ?_
 refine retQ_ret ?_
 cases hm
 exact fse3
theorem ok_strings_HasPrefix (s_1 : Str) (prefix_2 : Str) (z : Bool) (hm : strings_HasPrefix s_1 prefix_2 = some z) : Does Tryd.prog 61 [.p (.s s_1), .p (.s prefix_2)] [] (fun r X => r = .p (.b z) ∧ X = []) := by
 unfold strings_HasPrefix at hm
 refine Does.of_wp 0 8 [.tmp 4] Tryd.func61 rfl (by decide) rfl rfl (Nat.le_of_ble_eq_true rfl) fun B => ?_
 refine qS ?_
 obtain ⟨r_3, hr_3, hm⟩ := call_elim hm
 refine Wp.seqR fun K2 hK2 => ?_
 simp only [go_sem, simprocAttr]
 try refine ⟨sd, ?_⟩
 refine Rg.callX (av := ?av3) (g := true) (fun hg => ok_internal_stringslite_HasPrefix s_1 prefix_2 _ hr_3) si si si sg si ?cont3
 intro hv3
 simp only [go_sem, simprocAttr]
 first | apply hK2 | refine ⟨sd, hK2 _ _ ?_⟩
 refine Wp.ret ?_
 refine retQ_ret ?_
 cases hm
 exact fse3
theorem ok_strings_Builder_Grow (n : Int) (o0 : Str) (z : Unit) (hm : strings_Builder_Grow n o0 = some z) : Does Tryd.prog 62 [.ptr 0 0, .p (.i .i64 n)] [.cells 81 [.np 0, .buf 1], .sb 5 o0] (fun r X => r = .tup [] ∧ X = [.cells 81 [.np 0, .buf 1], .sb 5 o0]) := by
 obtain ⟨h, -⟩ := chk_elim hm
 obtain ⟨k, rfl⟩ := Int.eq_ofNat_of_zero_le h.1
 exact Does.grow growLay growExt k o0 (by omega)
theorem ok_strings_Builder_Len_i1 (o1_1 : Str) (z : Int) (hm : strings_Builder_Len_i1 o1_1 = some z) : Does Tryd.prog 51 [.ptr 0 0] [.cells 81 [.np 0, .buf 1], .sb 5 o1_1] (fun r X => r = .p (.i .i64 z) ∧ X = [.cells 81 [.np 0, .buf 1], .sb 5 o1_1]) := by
 unfold strings_Builder_Len_i1 at hm
 refine Does.of_wp 2 8 [.tmp 2] Tryd.func51 rfl (by decide) rfl rfl (Nat.le_of_ble_eq_true rfl) fun B => ?_
 refine qS ?_
 refine qS ?_
 refine Wp.ret ?_
 refine retQ_ret ?_
 cases hm
 exact fse3
theorem ok_strings_Repeat (s_1 : Str) (count_2 : Int) (z : Str) (hm : strings_Repeat s_1 count_2 = some z) : Does Tryd.prog 17 [.p (.s s_1), .p (.i .i64 count_2)] [] (fun r X => r = .p (.s z) ∧ X = []) := by
 unfold strings_Repeat at hm
 refine Does.of_wp 0 125 [.tmp 4] Tryd.func17 rfl (by decide) rfl rfl (Nat.le_of_ble_eq_true rfl) fun B => ?_
 refine qS ?_
 refine Wp.seqW fun K2 hK2 hW2 => ?_
 refine qS ?_
 refine Wp.block ?_
 refine qS ?_
 refine cM hm (fun hc5 hm => ?_) (fun hc5 hm => ?_)
 ·refine qS ?_
  refine Wp.ret ?_
  refine retQ_ret ?_
  cases hm
  exact fse3
 ·refine qS ?_
  refine cM hm (fun hc8 hm => ?_) (fun hc8 hm => ?_)
  ·refine qS ?_
   refine Wp.ret ?_
   refine retQ_ret ?_
   cases hm
   exact fse3
  ·refine Wp.skip ?_
   refine hK2 _ _ ?_
   refine Wp.seqW fun K10 hK10 hW10 => ?_
   obtain ⟨k_3, hk_3, hm⟩ := jp_elim hm
   have hcut10 : ∀ s, k_3 s = some z → K10 [(0, .p (.s s_1)), (1, .p (.i .i64 count_2))] [] := by
    intro s hs
    have hm := hk_3 _ hs
    clear hs
    try dsimp only at hm
    try dsimp only
    refine hK10 _ _ ?_
    obtain ⟨r_4, hr_4, hm⟩ := call_elim hm
    refine Wp.seqR fun K11 hK11 => ?_
    simp only [go_sem, simprocAttr]
    try refine ⟨sd, ?_⟩
    refine Rg.callX (av := ?av12) (g := true) (fun hg => ok_math_bits_Mul (IntKind.u64.wrap (s_1.length : Int)) (IntKind.u64.wrap count_2) _ hr_4) si si si sg si ?cont12
    intro hv12
    simp only [go_sem, simprocAttr]
    first | apply hK11 | refine ⟨sd, hK11 _ _ ?_⟩
    refine Wp.seqW fun K13 hK13 hW13 => ?_
    obtain ⟨k_5, hk_5, hm⟩ := jp_elim hm
    have hcut13 : ∀ s, k_5 s = some z → K13 [(0, .p (.s s_1)), (6, .p (.i .u64 r_4.2))] [] := by
     intro s hs
     have hm := hk_5 _ hs
     clear hs
     try dsimp only at hm
     try dsimp only
     refine hK13 _ _ ?_
     refine qS ?_
     refine Wp.seqW fun K15 hK15 hW15 => ?_
     refine qS ?_
     refine cM hm (fun hc17 hm => ?_) (fun hc17 hm => ?_)
     ·refine qS ?_
      refine Wp.ret ?_
      refine retQ_ret ?_
      cases hm
      exact fse3
     ·refine Wp.skip ?_
      refine hK15 _ _ ?_
      refine Wp.seqW fun K19 hK19 hW19 => ?_
      obtain ⟨k_19, hk_19, hm⟩ := jp_elim hm
      have hcut19 : ∀ s, k_19 s = some z → K19 [(0, .p (.s s_1)), (7, .p (.i .i64 (IntKind.i64.wrap r_4.2)))] [] := by
       intro s hs
       have hm := hk_19 _ hs
       clear hs
       try dsimp only at hm
       try dsimp only
       refine hK19 _ _ ?_
       refine qS ?_
       refine Wp.seqW fun K21 hK21 hW21 => ?_
       obtain ⟨k_22, hk_22, hm⟩ := jp_elim hm
       have hcut21 : ∀ s, k_22 s = some z → K21 [(0, .p (.s s_1)), (7, .p (.i .i64 (IntKind.i64.wrap r_4.2))), (8, .p (.i .i64 s))] [] := by
        intro chunkMax_21 hs
        have hm := hk_22 _ hs
        clear hs
        try dsimp only at hm
        try dsimp only
        refine hK21 _ _ ?_
        refine qS ?_
        refine Wp.adoptB 0 5 rfl ?_
        simp only [go_sem, simprocAttr]
        obtain ⟨r_23, hr_23, hm⟩ := call_elim hm
        refine Wp.seqR fun K23 hK23 => ?_
        simp only [go_sem, simprocAttr]
        try refine ⟨sd, ?_⟩
        refine Rg.callO (av := ?av24) [0, 1] (ok_strings_Builder_Grow (IntKind.i64.wrap r_4.2) [] _ hr_23) si si si sg sg ?cont24
        rintro _ _ ⟨rfl, rfl⟩ hv24
        simp only [go_sem, simprocAttr]
        first | apply hK23 | refine ⟨sd, hK23 _ _ ?_⟩
        obtain ⟨r_24, hr_24, hm⟩ := call_elim hm
        refine Wp.seqR fun K25 hK25 => ?_
        simp only [go_sem, simprocAttr]
        try refine ⟨sd, ?_⟩
        refine Rg.callO (av := ?av26) [0, 1] (ok_strings_Builder_WriteString_i1 s_1 [] _ hr_24) si si si sg sg ?cont26
        rintro _ _ ⟨rfl, rfl⟩ hv26
        simp only [go_sem, simprocAttr]
        first | apply hK25 | refine ⟨sd, hK25 _ _ ?_⟩
        refine Wp.seqW fun K27 hK27 hW27 => ?_
        obtain ⟨k_47, hk_47, hm⟩ := jp_elim hm
        have hcut27 : ∀ s, k_47 s = some z → K27 [(9, .ptr 0 0)] [.cells 81 [.np 0, .buf 1], .sb 5 s] := by
         intro o1_46 hs
         have hm := hk_47 _ hs
         clear hs
         try dsimp only at hm
         try dsimp only
         refine hK27 _ _ ?_
         obtain ⟨r_48, hr_48, hm⟩ := call_elim hm
         refine Wp.seqR fun K28 hK28 => ?_
         simp only [go_sem, simprocAttr]
         try refine ⟨sd, ?_⟩
         refine Rg.callO (av := ?av29) [0, 1] (ok_strings_Builder_String_i1 o1_46 _ hr_48) si si si sg sg ?cont29
         rintro _ _ ⟨rfl, rfl⟩ hv29
         simp only [go_sem, simprocAttr]
         first | apply hK28 | refine ⟨sd, hK28 _ _ ?_⟩
         refine Wp.ret ?_
         refine retQ_ret ?_
         cases hm
         exact fse3
        clear hK27 hk_47
        refine Wp.block ?_
        obtain ⟨k_62, hk_62, hm⟩ := loopN_cont hm
        refine Wp.loopN (fun s => [(7, .p (.i .i64 (IntKind.i64.wrap r_4.2))), (8, .p (.i .i64 chunkMax_21)), (9, .ptr 0 0)]) (fun s => [.cells 81 [.np 0, .buf 1], .sb 5 s]) ?_ hm ?_
        ·
         exact fse3
        clear hm
        intro o1_55 nx_63 hm
        try dsimp only at hm
        try dsimp only
        refine Wp.seqW fun K30 hK30 hW30 => ?_
        obtain ⟨r_64, hr_64, hm⟩ := call_elim hm
        refine Wp.seqR fun K31 hK31 => ?_
        simp only [go_sem, simprocAttr]
        try refine ⟨sd, ?_⟩
        refine Rg.callO (av := ?av32) [0, 1] (ok_strings_Builder_Len_i1 o1_55 _ hr_64) si si si sg sg ?cont32
        rintro _ _ ⟨rfl, rfl⟩ hv32
        simp only [go_sem, simprocAttr]
        first | apply hK31 | refine ⟨sd, hK31 _ _ ?_⟩
        refine cM hm (fun hc33 hm => ?_) (fun hc33 hm => ?_)
        ·refine Wp.skip ?_
         refine hK30 _ _ ?_
         refine Wp.block ?_
         obtain ⟨r_65, hr_65, hm⟩ := call_elim hm
         obtain ⟨r_66, hr_66, hm⟩ := call_elim hm
         refine Wp.seqR fun K34 hK34 => ?_
         simp only [go_sem, simprocAttr]
         try refine ⟨sd, ?_⟩
         refine Rg.callO (av := ?av35) [0, 1] (ok_strings_Builder_Len_i1 o1_55 _ hr_65) si si si sg sg ?cont35
         rintro _ _ ⟨rfl, rfl⟩ hv35
         simp only [go_sem, simprocAttr]
         try refine ⟨sd, ?_⟩
         refine Rg.callO (av := ?av36) [0, 1] (ok_strings_Builder_Len_i1 o1_55 _ hr_66) si si si sg sg ?cont36
         rintro _ _ ⟨rfl, rfl⟩ hv36
         simp only [go_sem, simprocAttr]
         first | apply hK34 | refine ⟨sd, hK34 _ _ ?_⟩
         obtain ⟨r_67, hr_67, hm⟩ := call_elim hm
         obtain ⟨c_68, hm⟩ := chk_elim hm
         obtain ⟨r_69, hr_69, hm⟩ := call_elim hm
         refine Wp.region fun K37 hK37 => ?_
         simp only [go_sem, simprocAttr]
         try refine ⟨by first | exact sd | ((repeat' apply And.intro) <;> first | assumption | omega | (simp only [List.length_append, List.length_map, List.length_cons, List.length_nil, List.length_set, List.length_replicate] at c_68 ⊢; omega)), ?_⟩
         refine Rg.callO (av := ?av38) [0, 1] (ok_strings_Builder_String_i1 o1_55 _ hr_67) si si si sg sg ?cont38
         rintro _ _ ⟨rfl, rfl⟩ hv38
         simp only [go_sem, simprocAttr]
         try refine ⟨by first | exact sd | ((repeat' apply And.intro) <;> first | assumption | omega | (simp only [List.length_append, List.length_map, List.length_cons, List.length_nil, List.length_set, List.length_replicate] at c_68 ⊢; omega)), ?_⟩
         refine Rg.callO (av := ?av39) [0, 1] (ok_strings_Builder_WriteString_i1 (List.take ((min (min (IntKind.i64.wrap ((IntKind.i64.wrap r_4.2) - r_65)) r_66) chunkMax_21).toNat) r_67) o1_55 _ hr_69) si si si sg sg ?cont39
         rintro _ _ ⟨rfl, rfl⟩ hv39
         simp only [go_sem, simprocAttr]
         first | apply hK37 | refine ⟨by first | exact sd | ((repeat' apply And.intro) <;> first | assumption | omega | (simp only [List.length_append, List.length_map, List.length_cons, List.length_nil, List.length_set, List.length_replicate] at c_68 ⊢; omega)), hK37 _ _ ?_⟩
         simp only [thenQ, blockQ, ↓reduceIte]
         refine ⟨r_69.2, hm, ?_⟩
         exact fse3
        ·refine Wp.exit ?_
         simp only [thenQ, blockQ, ↓reduceIte]
         have hm := hk_62 _ hm
         try dsimp only at hm
         refine hW27 _ _ _ _ ?_ (hcut27 o1_55 hm)
         exact fse3
       clear hK21 hk_22
       refine qS ?_
       refine cM hm (fun hc41 hm => ?_) (fun hc41 hm => ?_)
       ·obtain ⟨c_70, hm⟩ := chk_elim hm
        refine Wp.seqR fun K42 hK42 => ?_
        simp only [go_sem, simprocAttr]
        first | apply hK42 | refine ⟨by first | exact sd | ((repeat' apply And.intro) <;> first | assumption | omega | (simp only [List.length_append, List.length_map, List.length_cons, List.length_nil, List.length_set, List.length_replicate] at c_70 ⊢; omega)), hK42 _ _ ?_⟩
        refine qS ?_
        refine cM hm (fun hc44 hm => ?_) (fun hc44 hm => ?_)
        ·refine qR ?_
         refine hW21 _ _ _ _ ?_ (hcut21 (s_1.length : Int) hm)
         exact fse3
        ·refine Wp.skip ?_
         refine hW21 _ _ _ _ ?_ (hcut21 (IntKind.i64.wrap ((IntKind.i64.wrap (Int.tdiv 8192 (s_1.length : Int))) * (s_1.length : Int))) hm)
         exact fse3
       ·refine Wp.skip ?_
        refine hW21 _ _ _ _ ?_ (hcut21 (IntKind.i64.wrap r_4.2) hm)
        exact fse3
      clear hK19 hk_19
      obtain ⟨c_71, hbc_71, hxc_71, hm⟩ := idxS_elim hm
      replace hxc_71 : ((s_1.getD 0 0).toNat : Int) = c_71 := hxc_71
      refine Wp.seqR fun K46 hK46 => ?_
      simp only [go_sem, simprocAttr, hxc_71]
      first | apply hK46 | refine ⟨sd, hK46 _ _ ?_⟩
      refine Wp.block ?_
      refine Wp.seqW fun K47 hK47 hW47 => ?_
      obtain ⟨k_73, hk_73, hm⟩ := jp_elim hm
      have hcut47 : ∀ s, k_73 s = some z → K47 [(0, .p (.s s_1)), (7, .p (.i .i64 (IntKind.i64.wrap r_4.2))), (43, .p (.b s))] [] := by
       intro t43_72 hs
       have hm := hk_73 _ hs
       clear hs
       try dsimp only at hm
       try dsimp only
       refine hK47 _ _ ?_
       refine cM hm (fun hc48 hm => ?_) (fun hc48 hm => ?_)
       ·refine Wp.block ?_
        obtain ⟨r_74, hr_74, hm⟩ := callG_elim hm
        refine Wp.seqR fun K49 hK49 => ?_
        simp only [go_sem, simprocAttr, hxc_71]
        try refine ⟨sd, ?_⟩
        refine Rg.callX (av := ?av50) (g := decide ((IntKind.i64.wrap r_4.2) ≤ 128)) (fun hg => ok_strings_HasPrefix ((List.append [32, 32, 32, 32, 32, 32, 32, 32, 32, 32, 32, 32, 32, 32, 32, 32, 32, 32, 32, 32, 32, 32, 32, 32, 32, 32, 32, 32, 32, 32, 32, 32, 32, 32, 32, 32, 32, 32, 32, 32, 32, 32, 32, 32, 32, 32, 32, 32, 32, 32, 32, 32, 32, 32, 32, 32, 32, 32, 32, 32, 32, 32, 32, 32] [32, 32, 32, 32, 32, 32, 32, 32, 32, 32, 32, 32, 32, 32, 32, 32, 32, 32, 32, 32, 32, 32, 32, 32, 32, 32, 32, 32, 32, 32, 32, 32, 32, 32, 32, 32, 32, 32, 32, 32, 32, 32, 32, 32, 32, 32, 32, 32, 32, 32, 32, 32, 32, 32, 32, 32, 32, 32, 32, 32, 32, 32, 32, 32]) : Str) s_1 _ (hr_74 hg)) (by simp only [go_sem, simprocAttr, hxc_71]; exact Is.mk) (by simp only [go_sem, simprocAttr, hxc_71]; exact Is.mk) (by simp only [go_sem, simprocAttr, hxc_71]; exact Is.mk) (by simp only [go_sem, simprocAttr, hxc_71]) (by simp only [go_sem, simprocAttr, hxc_71]; exact Is.mk) ?cont50
        intro hv50
        simp only [go_sem, simprocAttr, hxc_71]
        first | apply hK49 | refine ⟨sd, hK49 _ _ ?_⟩
        refine cM hm (fun hc51 hm => ?_) (fun hc51 hm => ?_)
        ·obtain ⟨c_75, hm⟩ := chk_elim hm
         refine Wp.seqR fun K52 hK52 => ?_
         simp only [go_sem, simprocAttr, hxc_71]
         first | apply hK52 | refine ⟨by first | exact sd | ((repeat' apply And.intro) <;> first | assumption | omega | (simp only [List.length_append, List.length_map, List.length_cons, List.length_nil, List.length_set, List.length_replicate] at c_75 ⊢; omega)), hK52 _ _ ?_⟩
         refine Wp.ret ?_
         refine retQ_ret ?_
         cases hm
         simp only [go_sem, simprocAttr, hxc_71]
         try exact se3
        ·obtain ⟨r_76, hr_76, hm⟩ := callG_elim hm
         refine Wp.seqR fun K53 hK53 => ?_
         simp only [go_sem, simprocAttr, hxc_71]
         try refine ⟨sd, ?_⟩
         refine Rg.callX (av := ?av54) (g := decide ((IntKind.i64.wrap r_4.2) ≤ 128)) (fun hg => ok_strings_HasPrefix ((List.append [45, 45, 45, 45, 45, 45, 45, 45, 45, 45, 45, 45, 45, 45, 45, 45, 45, 45, 45, 45, 45, 45, 45, 45, 45, 45, 45, 45, 45, 45, 45, 45, 45, 45, 45, 45, 45, 45, 45, 45, 45, 45, 45, 45, 45, 45, 45, 45, 45, 45, 45, 45, 45, 45, 45, 45, 45, 45, 45, 45, 45, 45, 45, 45] [45, 45, 45, 45, 45, 45, 45, 45, 45, 45, 45, 45, 45, 45, 45, 45, 45, 45, 45, 45, 45, 45, 45, 45, 45, 45, 45, 45, 45, 45, 45, 45, 45, 45, 45, 45, 45, 45, 45, 45, 45, 45, 45, 45, 45, 45, 45, 45, 45, 45, 45, 45, 45, 45, 45, 45, 45, 45, 45, 45, 45, 45, 45, 45]) : Str) s_1 _ (hr_76 hg)) (by simp only [go_sem, simprocAttr, hxc_71]; exact Is.mk) (by simp only [go_sem, simprocAttr, hxc_71]; exact Is.mk) (by simp only [go_sem, simprocAttr, hxc_71]; exact Is.mk) (by simp only [go_sem, simprocAttr, hxc_71]) (by simp only [go_sem, simprocAttr, hxc_71]; exact Is.mk) ?cont54
         intro hv54
         simp only [go_sem, simprocAttr, hxc_71]
         first | apply hK53 | refine ⟨sd, hK53 _ _ ?_⟩
         refine cM hm (fun hc55 hm => ?_) (fun hc55 hm => ?_)
         ·obtain ⟨c_77, hm⟩ := chk_elim hm
          refine Wp.seqR fun K56 hK56 => ?_
          simp only [go_sem, simprocAttr, hxc_71]
          first | apply hK56 | refine ⟨by first | exact sd | ((repeat' apply And.intro) <;> first | assumption | omega | (simp only [List.length_append, List.length_map, List.length_cons, List.length_nil, List.length_set, List.length_replicate] at c_77 ⊢; omega)), hK56 _ _ ?_⟩
          refine Wp.ret ?_
          refine retQ_ret ?_
          cases hm
          simp only [go_sem, simprocAttr, hxc_71]
          try exact se3
         ·obtain ⟨r_78, hr_78, hm⟩ := callG_elim hm
          refine Wp.seqR fun K57 hK57 => ?_
          simp only [go_sem, simprocAttr, hxc_71]
          try refine ⟨sd, ?_⟩
          refine Rg.callX (av := ?av58) (g := decide ((IntKind.i64.wrap r_4.2) ≤ 64)) (fun hg => ok_strings_HasPrefix ([48, 48, 48, 48, 48, 48, 48, 48, 48, 48, 48, 48, 48, 48, 48, 48, 48, 48, 48, 48, 48, 48, 48, 48, 48, 48, 48, 48, 48, 48, 48, 48, 48, 48, 48, 48, 48, 48, 48, 48, 48, 48, 48, 48, 48, 48, 48, 48, 48, 48, 48, 48, 48, 48, 48, 48, 48, 48, 48, 48, 48, 48, 48, 48] : Str) s_1 _ (hr_78 hg)) (by simp only [go_sem, simprocAttr, hxc_71]; exact Is.mk) (by simp only [go_sem, simprocAttr, hxc_71]; exact Is.mk) (by simp only [go_sem, simprocAttr, hxc_71]; exact Is.mk) (by simp only [go_sem, simprocAttr, hxc_71]) (by simp only [go_sem, simprocAttr, hxc_71]; exact Is.mk) ?cont58
          intro hv58
          simp only [go_sem, simprocAttr, hxc_71]
          first | apply hK57 | refine ⟨sd, hK57 _ _ ?_⟩
          refine cM hm (fun hc59 hm => ?_) (fun hc59 hm => ?_)
          ·obtain ⟨c_79, hm⟩ := chk_elim hm
           refine Wp.seqR fun K60 hK60 => ?_
           simp only [go_sem, simprocAttr, hxc_71]
           first | apply hK60 | refine ⟨by first | exact sd | ((repeat' apply And.intro) <;> first | assumption | omega | (simp only [List.length_append, List.length_map, List.length_cons, List.length_nil, List.length_set, List.length_replicate] at c_79 ⊢; omega)), hK60 _ _ ?_⟩
           refine Wp.ret ?_
           refine retQ_ret ?_
           cases hm
           simp only [go_sem, simprocAttr, hxc_71]
           try exact se3
          ·obtain ⟨r_80, hr_80, hm⟩ := callG_elim hm
           refine Wp.seqR fun K61 hK61 => ?_
           simp only [go_sem, simprocAttr, hxc_71]
           try refine ⟨sd, ?_⟩
           refine Rg.callX (av := ?av62) (g := decide ((IntKind.i64.wrap r_4.2) ≤ 128)) (fun hg => ok_strings_HasPrefix ((List.append [61, 61, 61, 61, 61, 61, 61, 61, 61, 61, 61, 61, 61, 61, 61, 61, 61, 61, 61, 61, 61, 61, 61, 61, 61, 61, 61, 61, 61, 61, 61, 61, 61, 61, 61, 61, 61, 61, 61, 61, 61, 61, 61, 61, 61, 61, 61, 61, 61, 61, 61, 61, 61, 61, 61, 61, 61, 61, 61, 61, 61, 61, 61, 61] [61, 61, 61, 61, 61, 61, 61, 61, 61, 61, 61, 61, 61, 61, 61, 61, 61, 61, 61, 61, 61, 61, 61, 61, 61, 61, 61, 61, 61, 61, 61, 61, 61, 61, 61, 61, 61, 61, 61, 61, 61, 61, 61, 61, 61, 61, 61, 61, 61, 61, 61, 61, 61, 61, 61, 61, 61, 61, 61, 61, 61, 61, 61, 61]) : Str) s_1 _ (hr_80 hg)) (by simp only [go_sem, simprocAttr, hxc_71]; exact Is.mk) (by simp only [go_sem, simprocAttr, hxc_71]; exact Is.mk) (by simp only [go_sem, simprocAttr, hxc_71]; exact Is.mk) (by simp only [go_sem, simprocAttr, hxc_71]) (by simp only [go_sem, simprocAttr, hxc_71]; exact Is.mk) ?cont62
           intro hv62
           simp only [go_sem, simprocAttr, hxc_71]
           first | apply hK61 | refine ⟨sd, hK61 _ _ ?_⟩
           refine cM hm (fun hc63 hm => ?_) (fun hc63 hm => ?_)
           ·obtain ⟨c_81, hm⟩ := chk_elim hm
            refine Wp.seqR fun K64 hK64 => ?_
            simp only [go_sem, simprocAttr, hxc_71]
            first | apply hK64 | refine ⟨by first | exact sd | ((repeat' apply And.intro) <;> first | assumption | omega | (simp only [List.length_append, List.length_map, List.length_cons, List.length_nil, List.length_set, List.length_replicate] at c_81 ⊢; omega)), hK64 _ _ ?_⟩
            refine Wp.ret ?_
            refine retQ_ret ?_
            cases hm
            simp only [go_sem, simprocAttr, hxc_71]
            try exact se3
           ·obtain ⟨r_82, hr_82, hm⟩ := callG_elim hm
            refine Wp.seqR fun K65 hK65 => ?_
            simp only [go_sem, simprocAttr, hxc_71]
            try refine ⟨sd, ?_⟩
            refine Rg.callX (av := ?av66) (g := decide ((IntKind.i64.wrap r_4.2) ≤ 64)) (fun hg => ok_strings_HasPrefix ([9, 9, 9, 9, 9, 9, 9, 9, 9, 9, 9, 9, 9, 9, 9, 9, 9, 9, 9, 9, 9, 9, 9, 9, 9, 9, 9, 9, 9, 9, 9, 9, 9, 9, 9, 9, 9, 9, 9, 9, 9, 9, 9, 9, 9, 9, 9, 9, 9, 9, 9, 9, 9, 9, 9, 9, 9, 9, 9, 9, 9, 9, 9, 9] : Str) s_1 _ (hr_82 hg)) (by simp only [go_sem, simprocAttr, hxc_71]; exact Is.mk) (by simp only [go_sem, simprocAttr, hxc_71]; exact Is.mk) (by simp only [go_sem, simprocAttr, hxc_71]; exact Is.mk) (by simp only [go_sem, simprocAttr, hxc_71]) (by simp only [go_sem, simprocAttr, hxc_71]; exact Is.mk) ?cont66
            intro hv66
            simp only [go_sem, simprocAttr, hxc_71]
            first | apply hK65 | refine ⟨sd, hK65 _ _ ?_⟩
            refine cM hm (fun hc67 hm => ?_) (fun hc67 hm => ?_)
            ·obtain ⟨c_83, hm⟩ := chk_elim hm
             refine Wp.seqR fun K68 hK68 => ?_
             simp only [go_sem, simprocAttr, hxc_71]
             first | apply hK68 | refine ⟨by first | exact sd | ((repeat' apply And.intro) <;> first | assumption | omega | (simp only [List.length_append, List.length_map, List.length_cons, List.length_nil, List.length_set, List.length_replicate] at c_83 ⊢; omega)), hK68 _ _ ?_⟩
             refine Wp.ret ?_
             refine retQ_ret ?_
             cases hm
             simp only [go_sem, simprocAttr, hxc_71]
             try exact se3
            ·refine Wp.skip ?_
             refine hW19 _ _ _ _ ?_ (hcut19 () hm)
             simp only [go_sem, simprocAttr, hxc_71]
             try exact se3
       ·refine Wp.skip ?_
        refine hW19 _ _ _ _ ?_ (hcut19 () hm)
        simp only [go_sem, simprocAttr, hxc_71]
        try exact se3
      clear hK47 hk_73
      refine Wp.seqR fun K69 hK69 => ?_
      simp only [go_sem, simprocAttr, hxc_71]
      first | apply hK69 | refine ⟨sd, hK69 _ _ ?_⟩
      refine cM hm (fun hc70 hm => ?_) (fun hc70 hm => ?_)
      ·refine Wp.skip ?_
       refine hW47 _ _ _ _ ?_ (hcut47 (decide (c_71 = 32)) hm)
       simp only [go_sem, simprocAttr, hxc_71]
       try exact se3
      ·refine Wp.seqR fun K71 hK71 => ?_
       simp only [go_sem, simprocAttr, hxc_71]
       first | apply hK71 | refine ⟨sd, hK71 _ _ ?_⟩
       refine cM hm (fun hc72 hm => ?_) (fun hc72 hm => ?_)
       ·refine Wp.skip ?_
        refine hW47 _ _ _ _ ?_ (hcut47 (decide (c_71 = 45)) hm)
        simp only [go_sem, simprocAttr, hxc_71]
        try exact se3
       ·refine Wp.seqR fun K73 hK73 => ?_
        simp only [go_sem, simprocAttr, hxc_71]
        first | apply hK73 | refine ⟨sd, hK73 _ _ ?_⟩
        refine cM hm (fun hc74 hm => ?_) (fun hc74 hm => ?_)
        ·refine Wp.skip ?_
         refine hW47 _ _ _ _ ?_ (hcut47 (decide (c_71 = 48)) hm)
         simp only [go_sem, simprocAttr, hxc_71]
         try exact se3
        ·refine Wp.seqR fun K75 hK75 => ?_
         simp only [go_sem, simprocAttr, hxc_71]
         first | apply hK75 | refine ⟨sd, hK75 _ _ ?_⟩
         refine cM hm (fun hc76 hm => ?_) (fun hc76 hm => ?_)
         ·refine Wp.skip ?_
          refine hW47 _ _ _ _ ?_ (hcut47 (decide (c_71 = 61)) hm)
          simp only [go_sem, simprocAttr, hxc_71]
          try exact se3
         ·refine Wp.region fun K77 hK77 => ?_
          simp only [go_sem, simprocAttr, hxc_71]
          first | apply hK77 | refine ⟨sd, hK77 _ _ ?_⟩
          refine hW47 _ _ _ _ ?_ (hcut47 (decide (c_71 = 9)) hm)
          simp only [go_sem, simprocAttr, hxc_71]
          try exact se3
    clear hK13 hk_5
    refine qS ?_
    refine cM hm (fun hc79 hm => ?_) (fun hc79 hm => ?_)
    ·cases hm
    ·refine Wp.skip ?_
     refine hW13 _ _ _ _ ?_ (hcut13 () hm)
     exact fse3
   clear hK10 hk_3
   refine qS ?_
   refine cM hm (fun hc81 hm => ?_) (fun hc81 hm => ?_)
   ·cases hm
   ·refine Wp.skip ?_
    refine hW10 _ _ _ _ ?_ (hcut10 () hm)
    exact fse3
theorem ok_R_SumOf (s_1 : Str) (z : Str) (hm : R_SumOf s_1 = some z) : Does Tryd.prog 79 [.p (.s s_1)] [] (fun r X => r = .p (.s z) ∧ X = []) := by
 unfold R_SumOf at hm
 refine Does.of_wp 0 27 [.tmp 2] Tryd.func79 rfl (by decide) rfl rfl (Nat.le_of_ble_eq_true rfl) fun B => ?_
 refine qS ?_
 refine qS ?_
 refine Wp.seqW fun K3 hK3 hW3 => ?_
 obtain ⟨k_11, hk_11, hm⟩ := jp_elim hm
 have hcut3 : ∀ s, k_11 s = some z → K3 [(3, .p (.i .u64 s))] [] := by
  intro h_10 hs
  have hm := hk_11 _ hs
  clear hs
  try dsimp only at hm
  try dsimp only
  refine hK3 _ _ ?_
  obtain ⟨r_12, hr_12, hm⟩ := call_elim hm
  refine Wp.seqR fun K4 hK4 => ?_
  simp only [go_sem, simprocAttr]
  try refine ⟨sd, ?_⟩
  refine Rg.callX (av := ?av5) (g := true) (fun hg => ok_strconv_FormatUint h_10 16 _ hr_12) si si si sg si ?cont5
  intro hv5
  simp only [go_sem, simprocAttr]
  first | apply hK4 | refine ⟨sd, hK4 _ _ ?_⟩
  obtain ⟨r_13, hr_13, hm⟩ := call_elim hm
  obtain ⟨c_14, hm⟩ := chk_elim hm
  refine Wp.seqR fun K6 hK6 => ?_
  simp only [go_sem, simprocAttr]
  try refine ⟨by first | exact sd | ((repeat' apply And.intro) <;> first | assumption | omega | (simp only [List.length_append, List.length_map, List.length_cons, List.length_nil, List.length_set, List.length_replicate] at c_14 ⊢; omega)), ?_⟩
  refine Rg.callX (av := ?av7) (g := true) (fun hg => ok_strings_Repeat ([48] : Str) (IntKind.i64.wrap (16 - (r_12.length : Int))) _ hr_13) si si si sg si ?cont7
  intro hv7
  simp only [go_sem, simprocAttr]
  first | apply hK6 | refine ⟨by first | exact sd | ((repeat' apply And.intro) <;> first | assumption | omega | (simp only [List.length_append, List.length_map, List.length_cons, List.length_nil, List.length_set, List.length_replicate] at c_14 ⊢; omega)), hK6 _ _ ?_⟩
  refine Wp.ret ?_
  refine retQ_ret ?_
  cases hm
  exact fse3
 clear hK3 hk_11
 refine qS ?_
 refine Wp.block ?_
 obtain ⟨k_18, hk_18, hm⟩ := forL_cont hm
 refine Wp.fact 0 fun hl_21 => ?_
 replace hl_21 : s_1.length ≤ 274877906944 := by
  simp only [go_sem, simprocAttr, List.length_map] at hl_21
  omega
 refine Wp.forL (fun i_20 s => [(0, .p (.s s_1)), (3, .p (.i .u64 s)), (7, .p (.i .i64 (s_1.length : Int))), (8, .p (.i .i64 (i_20 : Int)))]) (fun i_20 s => []) ?_ hm ?_
 ·
  exact fse3
 clear hm
 intro i_20 h_15 hii_20 hm
 try dsimp only at hm
 try dsimp only
 refine qS ?_
 refine Wp.seqW fun K10 hK10 hW10 => ?_
 refine Wp.cond rfl ⟨⟩ (fun hc10 => ?_) (fun hc10 => ?_)
 rotate_left
 ·refine Wp.exit ?_
  have hm := hk_18 _ (forL_end hm (ge_nat (by first | exact hc10 | simpa using hc10)))
  try dsimp only at hm
  refine hW3 _ _ _ _ ?_ (hcut3 h_15 hm)
  exact fse3
 have hlt10 := lt_nat (by first | exact hc10 | simpa using hc10)
 have hw10 := wrap_succ hlt10 hl_21
 obtain ⟨c_22, nx_19, hxc_22, hyc_22, hnx_19, hm⟩ := forL_step hm hlt10
 clear hxc_22
 refine Wp.skip ?_
 simp only [thenQ]
 refine hK10 _ _ ?_
 refine Wp.seqW fun K11 hK11 hW11 => ?_
 refine Wp.block ?_
 refine Wp.seqR fun K12 hK12 => ?_
 simp only [go_sem, simprocAttr, hw10, hyc_22]
 first | apply hK12 | refine ⟨sd, hK12 _ _ ?_⟩
 refine Wp.region fun K13 hK13 => ?_
 simp only [go_sem, simprocAttr, hw10, hyc_22]
 first | apply hK13 | refine ⟨sd, hK13 _ _ ?_⟩
 refine hK11 _ _ ?_
 refine Wp.region fun K14 hK14 => ?_
 simp only [go_sem, simprocAttr, hw10, hyc_22]
 first | apply hK14 | refine ⟨sd, hK14 _ _ ?_⟩
 simp only [thenQ, blockQ, ↓reduceIte]
 refine ⟨IntKind.u64.wrap ((bitsI .xor .u64 h_15 (IntKind.u64.wrap (c_22.toNat : Int))) * 1099511628211), hlt10, hnx_19 _ hm, ?_⟩
 simp only [go_sem, simprocAttr, hw10, hyc_22]
 try exact se3
end Go.Proofs.YtkekfenkeeiigaaDoor
