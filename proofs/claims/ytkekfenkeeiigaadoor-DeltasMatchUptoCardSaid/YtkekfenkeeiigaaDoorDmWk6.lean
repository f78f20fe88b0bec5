/- That the code does what the models say (part 6). -/
import Derived.Test.YtkekfenkeeiigaaDoorDmWk0
import Derived.Test.YtkekfenkeeiigaaDoorDmWk1
import Derived.Test.YtkekfenkeeiigaaDoorDmWk3
import Derived.Test.YtkekfenkeeiigaaDoorDmWk4
import Derived.Test.YtkekfenkeeiigaaDoorDmWk5
set_option linter.unusedSimpArgs false
set_option linter.unusedVariables false
open Go.Proofs Go.Shelf
namespace Go.Proofs.YtkekfenkeeiigaaDoor
open Go.Vc Go.Md
set_option maxRecDepth 100000
set_option maxHeartbeats 4000000
theorem ok_R_Delta (a_1 : Str) (b_2 : Str) (z : api_Delta × Int) (hm : R_Delta a_1 b_2 = some z) : Does Tryd.prog 32 [.p (.s a_1), .p (.s b_2)] [] (fun r X => r = .tup [.agg [.p (.i .i64 z.1.Old), .p (.i .i64 z.1.New), .p (.s z.1.OldSum), .p (.s z.1.NewSum), .p (.l (List.map enc_api_Piece z.1.Pieces))], .p (.i .i64 z.2)] ∧ X = []) := by
 unfold R_Delta at hm
 refine Does.of_wp 0 114 [.cell 4 41, .tmp 5] Tryd.func32 rfl (by decide) rfl rfl (Nat.le_of_ble_eq_true rfl) fun B => ?_
 refine qS ?_
 refine Wp.seqW fun K2 hK2 hW2 => ?_
 refine qS ?_
 refine cM hm (fun hc4 hm => ?_) (fun hc4 hm => ?_)
 ·refine qS ?_
  refine Wp.ret ?_
  simp only [thenQ, blockQ]
  refine retQ_retE ?_
  cases hm
  exact fse3
 ·refine Wp.skip ?_
  refine hK2 _ _ ?_
  refine qS ?_
  refine qS ?_
  refine Wp.seqW fun K8 hK8 hW8 => ?_
  obtain ⟨k_504, hk_504, hm⟩ := jp_elim hm
  have hcut8 : ∀ s, k_504 s = some z → K8 [(0, .p (.s a_1)), (1, .p (.s b_2)), (4, .ptr 0 0), (6, .buf 1), (7, .p (.s s.1))] [.cells 41 [.p (.i .i64 0), .p (.i .i64 0), .p (.s []), .p (.s []), .nils], .buf 49 3 (List.map enc_api_Piece s.2)] := by
   intro s hs
   have hm := hk_504 _ hs
   clear hs
   obtain ⟨data_502, o1_503⟩ := s
   try dsimp only at hm
   try dsimp only
   refine hK8 _ _ ?_
   refine Wp.seqW fun K9 hK9 hW9 => ?_
   obtain ⟨k_507, hk_507, hm⟩ := jp_elim hm
   have hcut9 : ∀ s, k_507 s = some z → K9 [(0, .p (.s a_1)), (1, .p (.s b_2)), (4, .ptr 0 0), (6, .buf 1)] [.cells 41 [.p (.i .i64 0), .p (.i .i64 0), .p (.s []), .p (.s []), .nils], .buf 49 3 (List.map enc_api_Piece s)] := by
    intro o1_506 hs
    have hm := hk_507 _ hs
    clear hs
    try dsimp only at hm
    try dsimp only
    refine hK9 _ _ ?_
    refine Wp.seqW fun K10 hK10 hW10 => ?_
    refine qS ?_
    refine cM hm (fun hc12 hm => ?_) (fun hc12 hm => ?_)
    ·refine qS ?_
     refine Wp.ret ?_
     simp only [thenQ, blockQ]
     refine retQ_retE ?_
     cases hm
     exact fse3
    ·refine Wp.skip ?_
     refine hK10 _ _ ?_
     obtain ⟨r_508, hr_508, hm⟩ := call_elim hm
     obtain ⟨r_509, hr_509, hm⟩ := call_elim hm
     refine Wp.seqR fun K14 hK14 => ?_
     simp only [go_sem, simprocAttr]
     try refine ⟨sd, ?_⟩
     refine Rg.callX (av := ?av15) (g := true) (fun hg => ok_R_SumOf a_1 _ hr_508) si si si sg si ?cont15
     intro hv15
     simp only [go_sem, simprocAttr]
     try refine ⟨sd, ?_⟩
     refine Rg.callX (av := ?av16) (g := true) (fun hg => ok_R_SumOf b_2 _ hr_509) si si si sg si ?cont16
     intro hv16
     simp only [go_sem, simprocAttr]
     first | apply hK14 | refine ⟨sd, hK14 _ _ ?_⟩
     refine Wp.ret ?_
     refine retQ_ret ?_
     cases hm
     exact fse3
   clear hK9 hk_507
   refine qS ?_
   refine cM hm (fun hc18 hm => ?_) (fun hc18 hm => ?_)
   ·obtain ⟨c_510, hm⟩ := chk_elim hm
    refine Wp.region fun K19 hK19 => ?_
    simp only [go_sem, simprocAttr]
    first | apply hK19 | refine ⟨by first | exact sd | ((repeat' apply And.intro) <;> first | assumption | omega | (simp only [List.length_append, List.length_map, List.length_cons, List.length_nil, List.length_set, List.length_replicate] at c_510 ⊢; omega)), hK19 _ _ ?_⟩
    refine hW9 _ _ _ _ ?_ (hcut9 (o1_503 ++ [(api_Piece.mk 0 0 data_502)]) hm)
    exact fse3
   ·refine Wp.skip ?_
    refine hW9 _ _ _ _ ?_ (hcut9 o1_503 hm)
    exact fse3
  clear hK8 hk_504
  refine qS ?_
  refine Wp.block ?_
  refine Wp.adopt 6 49 3 rfl ?_
  simp only [go_sem, simprocAttr]
  obtain ⟨k_844, hk_844, hm⟩ := loopN_cont hm
  refine Wp.loopN (fun s => [(0, .p (.s a_1)), (1, .p (.s b_2)), (4, .ptr 0 0), (6, .buf 1), (7, .p (.s s.1)), (8, .p (.i .i64 s.2.1))]) (fun s => [.cells 41 [.p (.i .i64 0), .p (.i .i64 0), .p (.s []), .p (.s []), .nils], .buf 49 3 (List.map enc_api_Piece s.2.2)]) ?_ hm ?_
  ·
   exact fse3
  clear hm
  intro s nx_845 hm
  obtain ⟨data_677, i_678, o1_679⟩ := s
  try dsimp only at hm
  try dsimp only
  refine Wp.seqW fun K21 hK21 hW21 => ?_
  refine qS ?_
  refine cM hm (fun hc23 hm => ?_) (fun hc23 hm => ?_)
  ·refine Wp.skip ?_
   refine hK21 _ _ ?_
   refine Wp.block ?_
   refine qS ?_
   refine Wp.seqW fun K25 hK25 hW25 => ?_
   obtain ⟨k_926, hk_926, hm⟩ := jp_elim hm
   have hcut25 : ∀ s, k_926 s = some z → K25 [(0, .p (.s a_1)), (1, .p (.s b_2)), (4, .ptr 0 0), (6, .buf 1), (7, .p (.s data_677)), (8, .p (.i .i64 i_678)), (9, .p (.i .i64 s.1)), (10, .p (.i .i64 s.2))] [.cells 41 [.p (.i .i64 0), .p (.i .i64 0), .p (.s []), .p (.s []), .nils], .buf 49 3 (List.map enc_api_Piece o1_679)] := by
    intro s hs
    have hm := hk_926 _ hs
    clear hs
    obtain ⟨at_924, long_925⟩ := s
    try dsimp only at hm
    try dsimp only
    refine hK25 _ _ ?_
    refine Wp.seqW fun K26 hK26 hW26 => ?_
    refine qS ?_
    refine cM hm (fun hc28 hm => ?_) (fun hc28 hm => ?_)
    ·obtain ⟨c_927, hm⟩ := chk_elim hm
     obtain ⟨c_928, hm⟩ := chk_elim hm
     refine Wp.seqR fun K29 hK29 => ?_
     simp only [go_sem, simprocAttr]
     first | apply hK29 | refine ⟨by first | exact sd | ((repeat' apply And.intro) <;> first | assumption | omega | (simp only [List.length_append, List.length_map, List.length_cons, List.length_nil, List.length_set, List.length_replicate] at c_927 c_928 ⊢; omega)), hK29 _ _ ?_⟩
     refine qS ?_
     refine Wp.exit ?_
     simp only [thenQ, blockQ, ↓reduceIte]
     refine ⟨(data_677 ++ (List.take ((IntKind.i64.wrap (i_678 + 1)).toNat - i_678.toNat) (List.drop i_678.toNat b_2)), IntKind.i64.wrap (i_678 + 1), o1_679), hm, ?_⟩
     exact fse3
    ·refine Wp.skip ?_
     refine hK26 _ _ ?_
     refine Wp.seqW fun K31 hK31 hW31 => ?_
     refine qS ?_
     refine cM hm (fun hc33 hm => ?_) (fun hc33 hm => ?_)
     ·obtain ⟨c_929, hm⟩ := chk_elim hm
      refine Wp.seqR fun K34 hK34 => ?_
      simp only [go_sem, simprocAttr]
      first | apply hK34 | refine ⟨by first | exact sd | ((repeat' apply And.intro) <;> first | assumption | omega | (simp only [List.length_append, List.length_map, List.length_cons, List.length_nil, List.length_set, List.length_replicate] at c_929 ⊢; omega)), hK34 _ _ ?_⟩
      refine qR ?_
      refine hK31 _ _ ?_
      obtain ⟨c_930, hm⟩ := chk_elim hm
      refine Wp.seqR fun K36 hK36 => ?_
      simp only [go_sem, simprocAttr]
      first | apply hK36 | refine ⟨by first | exact sd | ((repeat' apply And.intro) <;> first | assumption | omega | (simp only [List.length_append, List.length_map, List.length_cons, List.length_nil, List.length_set, List.length_replicate] at c_930 ⊢; omega)), hK36 _ _ ?_⟩
      refine qR ?_
      simp only [thenQ, blockQ, ↓reduceIte]
      refine ⟨([], IntKind.i64.wrap (i_678 + long_925), (o1_679 ++ [(api_Piece.mk 0 0 data_677)]) ++ [(api_Piece.mk at_924 long_925 [])]), hm, ?_⟩
      exact fse3
     ·refine Wp.skip ?_
      refine hK31 _ _ ?_
      obtain ⟨c_931, hm⟩ := chk_elim hm
      refine Wp.seqR fun K38 hK38 => ?_
      simp only [go_sem, simprocAttr]
      first | apply hK38 | refine ⟨by first | exact sd | ((repeat' apply And.intro) <;> first | assumption | omega | (simp only [List.length_append, List.length_map, List.length_cons, List.length_nil, List.length_set, List.length_replicate] at c_931 ⊢; omega)), hK38 _ _ ?_⟩
      refine qR ?_
      simp only [thenQ, blockQ, ↓reduceIte]
      refine ⟨(data_677, IntKind.i64.wrap (i_678 + long_925), o1_679 ++ [(api_Piece.mk at_924 long_925 [])]), hm, ?_⟩
      exact fse3
   clear hK25 hk_926
   refine qS ?_
   refine Wp.block ?_
   obtain ⟨k_970, hk_970, hm⟩ := forL_cont hm
   refine Wp.fact 0 fun hl_973 => ?_
   replace hl_973 : a_1.length ≤ 274877906944 := by
    simp only [go_sem, simprocAttr, List.length_map] at hl_973
    omega
   refine Wp.forL (fun i_972 s => [(0, .p (.s a_1)), (1, .p (.s b_2)), (4, .ptr 0 0), (6, .buf 1), (7, .p (.s data_677)), (8, .p (.i .i64 i_678)), (9, .p (.i .i64 s.1)), (10, .p (.i .i64 s.2)), (27, .p (.i .i64 (a_1.length : Int))), (28, .p (.i .i64 (i_972 : Int)))]) (fun i_972 s => [.cells 41 [.p (.i .i64 0), .p (.i .i64 0), .p (.s []), .p (.s []), .nils], .buf 49 3 (List.map enc_api_Piece o1_679)]) ?_ hm ?_
   ·
    exact fse3
   clear hm
   intro i_972 s hii_972 hm
   obtain ⟨at_932, long_933⟩ := s
   try dsimp only at hm
   try dsimp only
   refine qS ?_
   refine Wp.seqW fun K42 hK42 hW42 => ?_
   refine Wp.cond rfl ⟨⟩ (fun hc42 => ?_) (fun hc42 => ?_)
   rotate_left
   ·refine Wp.exit ?_
    have hm := hk_970 _ (forL_end hm (ge_nat (by first | exact hc42 | simpa using hc42)))
    try dsimp only at hm
    refine hW25 _ _ _ _ ?_ (hcut25 (at_932, long_933) hm)
    exact fse3
   have hlt42 := lt_nat (by first | exact hc42 | simpa using hc42)
   have hw42 := wrap_succ hlt42 hl_973
   obtain ⟨c_974, nx_971, hxc_974, hyc_974, hnx_971, hm⟩ := forL_step hm hlt42
   clear hxc_974
   refine Wp.skip ?_
   simp only [thenQ]
   refine hK42 _ _ ?_
   refine Wp.seqW fun K43 hK43 hW43 => ?_
   obtain ⟨k_993, hk_993, hm⟩ := jp_elim hm
   have hcut43 : ∀ s, k_993 s = some z → K43 [(0, .p (.s a_1)), (1, .p (.s b_2)), (4, .ptr 0 0), (6, .buf 1), (7, .p (.s data_677)), (8, .p (.i .i64 i_678)), (9, .p (.i .i64 s.1)), (10, .p (.i .i64 s.2)), (27, .p (.i .i64 (a_1.length : Int))), (28, .p (.i .i64 (i_972 : Int)))] [.cells 41 [.p (.i .i64 0), .p (.i .i64 0), .p (.s []), .p (.s []), .nils], .buf 49 3 (List.map enc_api_Piece o1_679)] := by
    intro s hs
    have hm := hk_993 _ hs
    clear hs
    obtain ⟨at_991, long_992⟩ := s
    try dsimp only at hm
    try dsimp only
    refine hK43 _ _ ?_
    refine Wp.region fun K44 hK44 => ?_
    simp only [go_sem, simprocAttr, hw42, hyc_974]
    first | apply hK44 | refine ⟨sd, hK44 _ _ ?_⟩
    simp only [thenQ, blockQ, ↓reduceIte]
    refine ⟨(at_991, long_992), hlt42, hnx_971 _ hm, ?_⟩
    simp only [go_sem, simprocAttr, hw42, hyc_974]
    try exact se3
   clear hK43 hk_993
   refine Wp.block ?_
   refine Wp.seqR fun K45 hK45 => ?_
   simp only [go_sem, simprocAttr, hw42, hyc_974]
   first | apply hK45 | refine ⟨sd, hK45 _ _ ?_⟩
   refine Wp.seqR fun K46 hK46 => ?_
   simp only [go_sem, simprocAttr, hw42, hyc_974]
   first | apply hK46 | refine ⟨sd, hK46 _ _ ?_⟩
   refine Wp.seqW fun K47 hK47 hW47 => ?_
   obtain ⟨k_1002, hk_1002, hm⟩ := jp_elim hm
   have hcut47 : ∀ s, k_1002 s = some z → K47 [(0, .p (.s a_1)), (1, .p (.s b_2)), (4, .ptr 0 0), (6, .buf 1), (7, .p (.s data_677)), (8, .p (.i .i64 i_678)), (9, .p (.i .i64 at_932)), (10, .p (.i .i64 long_933)), (11, .p (.i .i64 (i_972 : Int))), (12, .p (.i .i64 s)), (27, .p (.i .i64 (a_1.length : Int))), (28, .p (.i .i64 (i_972 : Int)))] [.cells 41 [.p (.i .i64 0), .p (.i .i64 0), .p (.s []), .p (.s []), .nils], .buf 49 3 (List.map enc_api_Piece o1_679)] := by
    intro n_1001 hs
    have hm := hk_1002 _ hs
    clear hs
    try dsimp only at hm
    try dsimp only
    refine hK47 _ _ ?_
    refine Wp.seqR fun K48 hK48 => ?_
    simp only [go_sem, simprocAttr, hw42, hyc_974]
    first | apply hK48 | refine ⟨sd, hK48 _ _ ?_⟩
    refine cM hm (fun hc49 hm => ?_) (fun hc49 hm => ?_)
    ·refine Wp.region fun K50 hK50 => ?_
     simp only [go_sem, simprocAttr, hw42, hyc_974]
     first | apply hK50 | refine ⟨sd, hK50 _ _ ?_⟩
     refine hW43 _ _ _ _ ?_ (hcut43 ((i_972 : Int), n_1001) hm)
     simp only [go_sem, simprocAttr, hw42, hyc_974]
     try exact se3
    ·refine Wp.skip ?_
     refine hW43 _ _ _ _ ?_ (hcut43 (at_932, long_933) hm)
     simp only [go_sem, simprocAttr, hw42, hyc_974]
     try exact se3
   clear hK47 hk_1002
   refine Wp.block ?_
   obtain ⟨k_1006, hk_1006, hm⟩ := loopN_cont hm
   refine Wp.loopN (fun s => [(0, .p (.s a_1)), (1, .p (.s b_2)), (4, .ptr 0 0), (6, .buf 1), (7, .p (.s data_677)), (8, .p (.i .i64 i_678)), (9, .p (.i .i64 at_932)), (10, .p (.i .i64 long_933)), (11, .p (.i .i64 (i_972 : Int))), (12, .p (.i .i64 s)), (27, .p (.i .i64 (a_1.length : Int))), (28, .p (.i .i64 (i_972 : Int)))]) (fun s => [.cells 41 [.p (.i .i64 0), .p (.i .i64 0), .p (.s []), .p (.s []), .nils], .buf 49 3 (List.map enc_api_Piece o1_679)]) ?_ hm ?_
   ·
    simp only [go_sem, simprocAttr, hw42, hyc_974]
    try exact se3
   clear hm
   intro n_1003 nx_1007 hm
   try dsimp only at hm
   try dsimp only
   refine Wp.seqW fun K51 hK51 hW51 => ?_
   obtain ⟨c_1008, hm⟩ := chk_elim hm
   obtain ⟨c_1009, hm⟩ := chk_elim hm
   refine Wp.seqD (plan := pl [(0, none), (1, none), (2, none), (3, none), (4, none), (5, none), (6, none), (7, none), (8, none), (9, none), (10, none), (11, none), (12, none), (13, none), (14, none), (15, none), (16, none), (17, none), (18, none), (19, none), (20, none), (21, none), (22, none), (23, none), (24, none), (25, none), (26, none)]) (by kernel_rfl) rfl (by kernel_rfl) fun K52 hK52 => ?_
   simp only [go_sem, simprocAttr, hw42, hyc_974]
   first | apply hK52 | refine ⟨by first | exact sd | ((repeat' apply And.intro) <;> first | assumption | omega | (simp only [List.length_append, List.length_map, List.length_cons, List.length_nil, List.length_set, List.length_replicate] at c_1008 c_1009 ⊢; omega)), hK52 _ _ ?_⟩
   refine cM hm (fun hc53 hm => ?_) (fun hc53 hm => ?_)
   ·refine Wp.skip ?_
    refine hK51 _ _ ?_
    refine Wp.block ?_
    refine Wp.region fun K54 hK54 => ?_
    simp only [go_sem, simprocAttr, hw42, hyc_974]
    first | apply hK54 | refine ⟨sd, hK54 _ _ ?_⟩
    simp only [thenQ, blockQ, ↓reduceIte]
    refine ⟨IntKind.i64.wrap (n_1003 + 1), hm, ?_⟩
    simp only [go_sem, simprocAttr, hw42, hyc_974]
    try exact se3
   ·refine Wp.exit ?_
    simp only [thenQ, blockQ, ↓reduceIte]
    have hm := hk_1006 _ hm
    try dsimp only at hm
    refine hW47 _ _ _ _ ?_ (hcut47 n_1003 hm)
    simp only [go_sem, simprocAttr, hw42, hyc_974]
    try exact se3
  ·refine Wp.exit ?_
   simp only [thenQ, blockQ, ↓reduceIte]
   have hm := hk_844 _ hm
   try dsimp only at hm
   refine hW8 _ _ _ _ ?_ (hcut8 (data_677, o1_679) hm)
   exact fse3
theorem ok_delta_Fresh (d_1 : api_Delta) (z : Int × Int) (hm : delta_Fresh d_1 = some z) : Does Tryd.prog 34 [.agg [.p (.i .i64 d_1.Old), .p (.i .i64 d_1.New), .p (.s d_1.OldSum), .p (.s d_1.NewSum), .p (.l (List.map enc_api_Piece d_1.Pieces))]] [] (fun r X => r = .tup [.p (.i .i64 z.1), .p (.i .i64 z.2)] ∧ X = []) := by
 unfold delta_Fresh at hm
 refine Does.of_wp 0 27 [.tmp 2, .tmp 3] Tryd.func34 rfl (by decide) rfl rfl (Nat.le_of_ble_eq_true rfl) fun B => ?_
 refine qS ?_
 refine Wp.seqW fun K2 hK2 hW2 => ?_
 obtain ⟨r_2, hr_2, hm⟩ := call_elim hm
 refine Wp.seqR fun K3 hK3 => ?_
 simp only [go_sem, simprocAttr]
 try refine ⟨sd, ?_⟩
 refine Rg.callX (av := ?av4) (g := true) (fun hg => ok_delta_Check d_1 _ hr_2) si si si sg si ?cont4
 intro hv4
 simp only [go_sem, simprocAttr]
 first | apply hK3 | refine ⟨sd, hK3 _ _ ?_⟩
 refine qS ?_
 refine cM hm (fun hc6 hm => ?_) (fun hc6 hm => ?_)
 ·refine qS ?_
  refine Wp.ret ?_
  refine retQ_ret ?_
  cases hm
  exact fse3
 ·refine Wp.skip ?_
  refine hK2 _ _ ?_
  refine qS ?_
  refine Wp.seqW fun K9 hK9 hW9 => ?_
  obtain ⟨k_12, hk_12, hm⟩ := jp_elim hm
  have hcut9 : ∀ s, k_12 s = some z → K9 [(5, .p (.i .i64 s))] [] := by
   intro n_11 hs
   have hm := hk_12 _ hs
   clear hs
   try dsimp only at hm
   try dsimp only
   refine hK9 _ _ ?_
   refine qS ?_
   refine Wp.ret ?_
   refine retQ_ret ?_
   cases hm
   exact fse3
  clear hK9 hk_12
  refine qS ?_
  refine Wp.block ?_
  obtain ⟨k_16, hk_16, hm⟩ := forL_cont hm
  refine Wp.fact 14 fun hl_19 => ?_
  replace hl_19 : d_1.Pieces.length ≤ 274877906944 := by
   simp only [go_sem, simprocAttr, List.length_map] at hl_19
   omega
  refine Wp.forL (fun i_18 s => [(5, .p (.i .i64 s)), (14, .p (.l (List.map enc_api_Piece d_1.Pieces))), (15, .p (.i .i64 (d_1.Pieces.length : Int))), (16, .p (.i .i64 (i_18 : Int)))]) (fun i_18 s => [.cells 41 [.p (.i .i64 d_1.Old), .p (.i .i64 d_1.New), .p (.s d_1.OldSum), .p (.s d_1.NewSum), .p (.l (List.map enc_api_Piece d_1.Pieces))]]) ?_ hm ?_
  ·
   exact fse3
  clear hm
  intro i_18 n_13 hii_18 hm
  try dsimp only at hm
  try dsimp only
  refine qS ?_
  refine Wp.seqW fun K13 hK13 hW13 => ?_
  refine Wp.cond rfl ⟨⟩ (fun hc13 => ?_) (fun hc13 => ?_)
  rotate_left
  ·refine Wp.exit ?_
   have hm := hk_16 _ (forL_end hm (ge_nat (by first | exact hc13 | simpa using hc13)))
   try dsimp only at hm
   refine hW9 _ _ _ _ ?_ (hcut9 n_13 hm)
   exact fse3
  have hlt13 := lt_nat (by first | exact hc13 | simpa using hc13)
  have hw13 := wrap_succ hlt13 hl_19
  obtain ⟨p_20, nx_17, hxp_20, hyp_20, hnx_17, hm⟩ := forL_step hm hlt13
  replace hxp_20 := hxp_20 enc_api_Piece
  refine Wp.skip ?_
  simp only [thenQ]
  refine hK13 _ _ ?_
  refine Wp.seqW fun K14 hK14 hW14 => ?_
  refine Wp.block ?_
  refine Wp.seqR fun K15 hK15 => ?_
  simp only [go_sem, simprocAttr, hw13, hxp_20]
  first | apply hK15 | refine ⟨sd, hK15 _ _ ?_⟩
  refine Wp.region fun K16 hK16 => ?_
  simp only [go_sem, simprocAttr, hw13, hxp_20]
  first | apply hK16 | refine ⟨sd, hK16 _ _ ?_⟩
  refine hK14 _ _ ?_
  refine Wp.region fun K17 hK17 => ?_
  simp only [go_sem, simprocAttr, hw13, hxp_20]
  first | apply hK17 | refine ⟨sd, hK17 _ _ ?_⟩
  simp only [thenQ, blockQ, ↓reduceIte]
  refine ⟨IntKind.i64.wrap (n_13 + (p_20.Data.length : Int)), hlt13, hnx_17 _ hm, ?_⟩
  simp only [go_sem, simprocAttr, hw13, hxp_20]
  try exact se3
theorem ok_delta_Cost (d_1 : api_Delta) (z : Int × Int) (hm : delta_Cost d_1 = some z) : Does Tryd.prog 30 [.agg [.p (.i .i64 d_1.Old), .p (.i .i64 d_1.New), .p (.s d_1.OldSum), .p (.s d_1.NewSum), .p (.l (List.map enc_api_Piece d_1.Pieces))]] [] (fun r X => r = .tup [.p (.i .i64 z.1), .p (.i .i64 z.2)] ∧ X = []) := by
 unfold delta_Cost at hm
 refine Does.of_wp 0 14 [.tmp 2, .tmp 3] Tryd.func30 rfl (by decide) rfl rfl (Nat.le_of_ble_eq_true rfl) fun B => ?_
 refine qS ?_
 obtain ⟨r_2, hr_2, hm⟩ := call_elim hm
 refine Wp.seqR fun K2 hK2 => ?_
 simp only [go_sem, simprocAttr]
 try refine ⟨sd, ?_⟩
 refine Rg.callX (av := ?av3) (g := true) (fun hg => ok_delta_Print d_1 _ hr_2) si si si sg si ?cont3
 intro hv3
 simp only [go_sem, simprocAttr]
 first | apply hK2 | refine ⟨sd, hK2 _ _ ?_⟩
 refine qS ?_
 refine Wp.ret ?_
 refine retQ_ret ?_
 cases hm
 exact fse3
theorem ok_R_groups (n_1 : Int) (z : Str) (hm : R_groups n_1 = some z) : Does Tryd.prog 82 [.p (.i .i64 n_1)] [] (fun r X => r = .p (.s z) ∧ X = []) := by
 unfold R_groups at hm
 refine Does.of_wp 0 22 [.tmp 2] Tryd.func82 rfl (by decide) rfl rfl (Nat.le_of_ble_eq_true rfl) fun B => ?_
 refine qS ?_
 refine qS ?_
 refine Wp.seqW fun K3 hK3 hW3 => ?_
 obtain ⟨k_10, hk_10, hm⟩ := jp_elim hm
 have hcut3 : ∀ s, k_10 s = some z → K3 [(0, .p (.i .i64 s.1)), (3, .p (.s s.2))] [] := by
  intro s hs
  have hm := hk_10 _ hs
  clear hs
  obtain ⟨n_8, out_9⟩ := s
  try dsimp only at hm
  try dsimp only
  refine hK3 _ _ ?_
  obtain ⟨c_11, hm⟩ := chk_elim hm
  refine Wp.seqR fun K4 hK4 => ?_
  simp only [go_sem, simprocAttr]
  first | apply hK4 | refine ⟨by first | exact sd | ((repeat' apply And.intro) <;> first | assumption | omega | (simp only [List.length_append, List.length_map, List.length_cons, List.length_nil, List.length_set, List.length_replicate] at c_11 ⊢; omega)), hK4 _ _ ?_⟩
  refine Wp.ret ?_
  refine retQ_ret ?_
  cases hm
  exact fse3
 clear hK3 hk_10
 refine Wp.block ?_
 obtain ⟨k_15, hk_15, hm⟩ := loopN_cont hm
 refine Wp.loopN (fun s => [(0, .p (.i .i64 s.1)), (3, .p (.s s.2))]) (fun s => []) ?_ hm ?_
 ·
  exact fse3
 clear hm
 intro s nx_16 hm
 obtain ⟨n_12, out_13⟩ := s
 try dsimp only at hm
 try dsimp only
 refine Wp.seqW fun K5 hK5 hW5 => ?_
 refine qS ?_
 refine cM hm (fun hc7 hm => ?_) (fun hc7 hm => ?_)
 ·refine Wp.skip ?_
  refine hK5 _ _ ?_
  refine Wp.block ?_
  obtain ⟨c_17, hm⟩ := chk_elim hm
  refine Wp.seqR fun K8 hK8 => ?_
  simp only [go_sem, simprocAttr]
  first | apply hK8 | refine ⟨by first | exact sd | ((repeat' apply And.intro) <;> first | assumption | omega | (simp only [List.length_append, List.length_map, List.length_cons, List.length_nil, List.length_set, List.length_replicate] at c_17 ⊢; omega)), hK8 _ _ ?_⟩
  refine qR ?_
  simp only [thenQ, blockQ, ↓reduceIte]
  refine ⟨(Int.fdiv n_12 (2 ^ (shI .i64 7)), out_13 ++ (Go.Vc.strOf [bitsI .or .u8 (IntKind.u8.wrap (bitsI .and .i64 n_12 127)) 128])), hm, ?_⟩
  exact fse3
 ·refine Wp.exit ?_
  simp only [thenQ, blockQ, ↓reduceIte]
  have hm := hk_15 _ hm
  try dsimp only at hm
  refine hW3 _ _ _ _ ?_ (hcut3 (n_12, out_13) hm)
  exact fse3
theorem ok_R_rawSum (s_1 : Str) (z : Str) (hm : R_rawSum s_1 = some z) : Does Tryd.prog 83 [.p (.s s_1)] [] (fun r X => r = .p (.s z) ∧ X = []) := by
 unfold R_rawSum at hm
 refine Does.of_wp 0 30 [.tmp 2] Tryd.func83 rfl (by decide) rfl rfl (Nat.le_of_ble_eq_true rfl) fun B => ?_
 refine qS ?_
 obtain ⟨r_2, hr_2, hm⟩ := call_elim hm
 refine Wp.seqR fun K2 hK2 => ?_
 simp only [go_sem, simprocAttr]
 try refine ⟨sd, ?_⟩
 refine Rg.callF (av := ?av3) (ok_strconv_ParseUint s_1 16 64 _ hr_2) si si sg ?cont3
 intro hv3
 simp only [go_sem, simprocAttr]
 first | apply hK2 | refine ⟨sd, hK2 _ _ ?_⟩
 refine qS ?_
 refine Wp.seqW fun K5 hK5 hW5 => ?_
 obtain ⟨k_15, hk_15, hm⟩ := jp_elim hm
 have hcut5 : ∀ s, k_15 s = some z → K5 [(5, .buf 0)] [.buf 5 1 (List.map ecI_u8 s)] := by
  intro o0_14 hs
  have hm := hk_15 _ hs
  clear hs
  try dsimp only at hm
  try dsimp only
  refine hK5 _ _ ?_
  refine qS ?_
  refine Wp.ret ?_
  refine retQ_ret ?_
  cases hm
  exact fse3
 clear hK5 hk_15
 refine qS ?_
 refine Wp.block ?_
 obtain ⟨k_23, hk_23, hm⟩ := loopN_cont hm
 refine Wp.loopN (fun s => [(3, .p (.i .u64 r_2)), (5, .buf 0), (14, .p (.i .i64 ((List.replicate 8 0).length : Int))), (15, .p (.i .i64 s.1))]) (fun s => [.buf 5 1 (List.map ecI_u8 s.2)]) ?_ hm ?_
 ·
  exact fse3
 clear hm
 intro s nx_24 hm
 obtain ⟨t15_19, o0_20⟩ := s
 try dsimp only at hm
 try dsimp only
 refine qS ?_
 refine Wp.seqW fun K9 hK9 hW9 => ?_
 refine cM hm (fun hc10 hm => ?_) (fun hc10 hm => ?_)
 ·refine Wp.skip ?_
  refine hK9 _ _ ?_
  refine Wp.seqW fun K11 hK11 hW11 => ?_
  refine Wp.block ?_
  refine qS ?_
  obtain ⟨c_25, hm⟩ := chk_elim hm
  obtain ⟨c_26, hm⟩ := chk_elim hm
  refine Wp.region fun K13 hK13 => ?_
  simp only [go_sem, simprocAttr]
  first | apply hK13 | refine ⟨by first | exact sd | ((repeat' apply And.intro) <;> first | assumption | omega | (simp only [List.length_append, List.length_map, List.length_cons, List.length_nil, List.length_set, List.length_replicate] at c_25 c_26 ⊢; omega)), hK13 _ _ ?_⟩
  refine hK11 _ _ ?_
  refine qR ?_
  simp only [thenQ, blockQ, ↓reduceIte]
  refine ⟨(IntKind.i64.wrap (t15_19 + 1), List.set o0_20 t15_19.toNat (IntKind.u8.wrap (Int.fdiv r_2 (2 ^ (shI .u64 (IntKind.i64.wrap (56 - (IntKind.i64.wrap (8 * t15_19))))))))), hm, ?_⟩
  exact fse3
 ·refine Wp.exit ?_
  simp only [thenQ, blockQ, ↓reduceIte]
  have hm := hk_23 _ hm
  try dsimp only at hm
  refine hW5 _ _ _ _ ?_ (hcut5 o0_20 hm)
  exact fse3
theorem ok_R_PrintDelta (d_1 : api_Delta) (z : Str) (hm : R_PrintDelta d_1 = some z) : Does Tryd.prog 35 [.agg [.p (.i .i64 d_1.Old), .p (.i .i64 d_1.New), .p (.s d_1.OldSum), .p (.s d_1.NewSum), .p (.l (List.map enc_api_Piece d_1.Pieces))]] [] (fun r X => r = .p (.s z) ∧ X = []) := by
 unfold R_PrintDelta at hm
 refine Does.of_wp 0 64 [.tmp 2] Tryd.func35 rfl (by decide) rfl rfl (Nat.le_of_ble_eq_true rfl) fun B => ?_
 refine qS ?_
 obtain ⟨r_2, hr_2, hm⟩ := call_elim hm
 obtain ⟨c_3, hm⟩ := chk_elim hm
 obtain ⟨r_4, hr_4, hm⟩ := call_elim hm
 obtain ⟨c_5, hm⟩ := chk_elim hm
 obtain ⟨r_6, hr_6, hm⟩ := call_elim hm
 obtain ⟨c_7, hm⟩ := chk_elim hm
 obtain ⟨r_8, hr_8, hm⟩ := call_elim hm
 obtain ⟨c_9, hm⟩ := chk_elim hm
 obtain ⟨r_10, hr_10, hm⟩ := call_elim hm
 obtain ⟨c_11, hm⟩ := chk_elim hm
 refine Wp.seqD (plan := pl [(0, none), (1, none), (2, none), (3, none), (4, none), (5, none), (6, none), (7, none), (8, none), (9, none), (10, none), (11, none), (12, none), (13, none), (14, none), (15, none), (16, none), (17, none), (18, none), (19, none), (20, none), (21, none)]) (by kernel_rfl) rfl (by kernel_rfl) fun K2 hK2 => ?_
 simp only [go_sem, simprocAttr]
 try refine ⟨by first | exact sd | ((repeat' apply And.intro) <;> first | assumption | omega | (simp only [List.length_append, List.length_map, List.length_cons, List.length_nil, List.length_set, List.length_replicate] at c_3 c_5 c_7 c_9 c_11 ⊢; omega)), ?_⟩
 refine Dr.callF (av := ?av3) (g := true) (o := ?o3) (fun hg => ok_R_groups d_1.Old _ hr_2) si si si si sg si ?cont3
 simp only [go_sem, simprocAttr]
 try refine ⟨by first | exact sd | ((repeat' apply And.intro) <;> first | assumption | omega | (simp only [List.length_append, List.length_map, List.length_cons, List.length_nil, List.length_set, List.length_replicate] at c_3 c_5 c_7 c_9 c_11 ⊢; omega)), ?_⟩
 refine Dr.callF (av := ?av4) (g := true) (o := ?o4) (fun hg => ok_R_groups d_1.New _ hr_4) si si si si sg si ?cont4
 simp only [go_sem, simprocAttr]
 try refine ⟨by first | exact sd | ((repeat' apply And.intro) <;> first | assumption | omega | (simp only [List.length_append, List.length_map, List.length_cons, List.length_nil, List.length_set, List.length_replicate] at c_3 c_5 c_7 c_9 c_11 ⊢; omega)), ?_⟩
 refine Dr.callF (av := ?av5) (g := true) (o := ?o5) (fun hg => ok_R_rawSum d_1.OldSum _ hr_6) si si si si sg si ?cont5
 simp only [go_sem, simprocAttr]
 try refine ⟨by first | exact sd | ((repeat' apply And.intro) <;> first | assumption | omega | (simp only [List.length_append, List.length_map, List.length_cons, List.length_nil, List.length_set, List.length_replicate] at c_3 c_5 c_7 c_9 c_11 ⊢; omega)), ?_⟩
 refine Dr.callF (av := ?av6) (g := true) (o := ?o6) (fun hg => ok_R_rawSum d_1.NewSum _ hr_8) si si si si sg si ?cont6
 simp only [go_sem, simprocAttr]
 try refine ⟨by first | exact sd | ((repeat' apply And.intro) <;> first | assumption | omega | (simp only [List.length_append, List.length_map, List.length_cons, List.length_nil, List.length_set, List.length_replicate] at c_3 c_5 c_7 c_9 c_11 ⊢; omega)), ?_⟩
 refine Dr.callF (av := ?av7) (g := true) (o := ?o7) (fun hg => ok_R_groups (d_1.Pieces.length : Int) _ hr_10) si si si si sg si ?cont7
 simp only [go_sem, simprocAttr]
 first | apply hK2 | refine ⟨by first | exact sd | ((repeat' apply And.intro) <;> first | assumption | omega | (simp only [List.length_append, List.length_map, List.length_cons, List.length_nil, List.length_set, List.length_replicate] at c_3 c_5 c_7 c_9 c_11 ⊢; omega)), hK2 _ _ ?_⟩
 refine qS ?_
 refine Wp.adoptB 1 5 rfl ?_
 simp only [go_sem, simprocAttr]
 obtain ⟨r_12, hr_12, hm⟩ := call_elim hm
 refine Wp.seqR fun K9 hK9 => ?_
 simp only [go_sem, simprocAttr]
 try refine ⟨sd, ?_⟩
 refine Rg.callO (av := ?av10) [1, 2] (ok_strings_Builder_WriteString_i1 (((((([79, 70, 68, 49] : Str) ++ r_2) ++ r_4) ++ r_6) ++ r_8) ++ r_10) [] _ hr_12) si si si sg sg ?cont10
 rintro _ _ ⟨rfl, rfl⟩ hv10
 simp only [go_sem, simprocAttr]
 first | apply hK9 | refine ⟨sd, hK9 _ _ ?_⟩
 refine Wp.seqW fun K11 hK11 hW11 => ?_
 obtain ⟨k_60, hk_60, hm⟩ := jp_elim hm
 have hcut11 : ∀ s, k_60 s = some z → K11 [(4, .ptr 1 0)] [.cells 41 [.top, .top, .top, .top, .top], .cells 81 [.np 1, .buf 2], .sb 5 s] := by
  intro o2_59 hs
  have hm := hk_60 _ hs
  clear hs
  try dsimp only at hm
  try dsimp only
  refine hK11 _ _ ?_
  obtain ⟨r_61, hr_61, hm⟩ := call_elim hm
  obtain ⟨r_62, hr_62, hm⟩ := call_elim hm
  obtain ⟨r_63, hr_63, hm⟩ := call_elim hm
  obtain ⟨r_64, hr_64, hm⟩ := call_elim hm
  obtain ⟨c_65, hm⟩ := chk_elim hm
  refine Wp.seqR fun K12 hK12 => ?_
  simp only [go_sem, simprocAttr]
  try refine ⟨by first | exact sd | ((repeat' apply And.intro) <;> first | assumption | omega | (simp only [List.length_append, List.length_map, List.length_cons, List.length_nil, List.length_set, List.length_replicate] at c_65 ⊢; omega)), ?_⟩
  refine Rg.callO (av := ?av13) [1, 2] (ok_strings_Builder_String_i1 o2_59 _ hr_61) si si si sg sg ?cont13
  rintro _ _ ⟨rfl, rfl⟩ hv13
  simp only [go_sem, simprocAttr]
  try refine ⟨by first | exact sd | ((repeat' apply And.intro) <;> first | assumption | omega | (simp only [List.length_append, List.length_map, List.length_cons, List.length_nil, List.length_set, List.length_replicate] at c_65 ⊢; omega)), ?_⟩
  refine Rg.callO (av := ?av14) [1, 2] (ok_strings_Builder_String_i1 o2_59 _ hr_62) si si si sg sg ?cont14
  rintro _ _ ⟨rfl, rfl⟩ hv14
  simp only [go_sem, simprocAttr]
  try refine ⟨by first | exact sd | ((repeat' apply And.intro) <;> first | assumption | omega | (simp only [List.length_append, List.length_map, List.length_cons, List.length_nil, List.length_set, List.length_replicate] at c_65 ⊢; omega)), ?_⟩
  refine Rg.callX (av := ?av15) (g := true) (fun hg => ok_R_SumOf r_62 _ hr_63) si si si sg si ?cont15
  intro hv15
  simp only [go_sem, simprocAttr]
  try refine ⟨by first | exact sd | ((repeat' apply And.intro) <;> first | assumption | omega | (simp only [List.length_append, List.length_map, List.length_cons, List.length_nil, List.length_set, List.length_replicate] at c_65 ⊢; omega)), ?_⟩
  refine Rg.callX (av := ?av16) (g := true) (fun hg => ok_R_rawSum r_63 _ hr_64) si si si sg si ?cont16
  intro hv16
  simp only [go_sem, simprocAttr]
  first | apply hK12 | refine ⟨by first | exact sd | ((repeat' apply And.intro) <;> first | assumption | omega | (simp only [List.length_append, List.length_map, List.length_cons, List.length_nil, List.length_set, List.length_replicate] at c_65 ⊢; omega)), hK12 _ _ ?_⟩
  refine Wp.ret ?_
  refine retQ_ret ?_
  cases hm
  exact fse3
 clear hK11 hk_60
 refine qS ?_
 refine Wp.block ?_
 obtain ⟨k_89, hk_89, hm⟩ := forL_cont hm
 refine Wp.fact 31 fun hl_92 => ?_
 replace hl_92 : d_1.Pieces.length ≤ 274877906944 := by
  simp only [go_sem, simprocAttr, List.length_map] at hl_92
  omega
 refine Wp.forL (fun i_91 s => [(4, .ptr 1 0), (31, .p (.l (List.map enc_api_Piece d_1.Pieces))), (32, .p (.i .i64 (d_1.Pieces.length : Int))), (33, .p (.i .i64 (i_91 : Int)))]) (fun i_91 s => [.cells 41 [.p (.i .i64 d_1.Old), .p (.i .i64 d_1.New), .p (.s d_1.OldSum), .p (.s d_1.NewSum), .p (.l (List.map enc_api_Piece d_1.Pieces))], .cells 81 [.np 1, .buf 2], .sb 5 s]) ?_ hm ?_
 ·
  exact fse3
 clear hm
 intro i_91 o2_78 hii_91 hm
 try dsimp only at hm
 try dsimp only
 refine qS ?_
 refine Wp.seqW fun K19 hK19 hW19 => ?_
 refine Wp.cond rfl ⟨⟩ (fun hc19 => ?_) (fun hc19 => ?_)
 rotate_left
 ·refine Wp.exit ?_
  have hm := hk_89 _ (forL_end hm (ge_nat (by first | exact hc19 | simpa using hc19)))
  try dsimp only at hm
  refine hW11 _ _ _ _ ?_ (hcut11 o2_78 hm)
  exact fse3
 have hlt19 := lt_nat (by first | exact hc19 | simpa using hc19)
 have hw19 := wrap_succ hlt19 hl_92
 obtain ⟨p_93, nx_90, hxp_93, hyp_93, hnx_90, hm⟩ := forL_step hm hlt19
 replace hxp_93 := hxp_93 enc_api_Piece
 refine Wp.skip ?_
 simp only [thenQ]
 refine hK19 _ _ ?_
 refine Wp.seqW fun K20 hK20 hW20 => ?_
 refine Wp.block ?_
 refine Wp.seqR fun K21 hK21 => ?_
 simp only [go_sem, simprocAttr, hw19, hxp_93]
 first | apply hK21 | refine ⟨sd, hK21 _ _ ?_⟩
 refine Wp.seqR fun K22 hK22 => ?_
 simp only [go_sem, simprocAttr, hw19, hxp_93]
 first | apply hK22 | refine ⟨sd, hK22 _ _ ?_⟩
 refine cM hm (fun hc23 hm => ?_) (fun hc23 hm => ?_)
 ·obtain ⟨r_94, hr_94, hm⟩ := call_elim hm
  obtain ⟨c_95, hm⟩ := chk_elim hm
  obtain ⟨c_96, hm⟩ := chk_elim hm
  obtain ⟨r_97, hr_97, hm⟩ := call_elim hm
  refine Wp.regD (plan := pl [(0, none), (1, none), (2, none), (3, none), (4, none), (5, none), (6, none), (7, none), (8, some [])]) (by kernel_rfl) rfl (by kernel_rfl) fun K24 hK24 => ?_
  simp only [go_sem, simprocAttr, hw19, hxp_93]
  try refine ⟨by first | exact sd | ((repeat' apply And.intro) <;> first | assumption | omega | (simp only [List.length_append, List.length_map, List.length_cons, List.length_nil, List.length_set, List.length_replicate] at c_95 c_96 ⊢; omega)), ?_⟩
  refine Dr.callF (av := ?av25) (g := true) (o := ?o25) (fun hg => ok_R_groups (p_93.Data.length : Int) _ hr_94) (by simp only [go_sem, simprocAttr, hw19, hxp_93]; exact Is.mk) (by simp only [go_sem, simprocAttr, hw19, hxp_93]; exact Is.mk) (by simp only [go_sem, simprocAttr, hw19, hxp_93]; exact Is.mk) (by simp only [go_sem, simprocAttr, hw19, hxp_93]; exact Is.mk) (by simp only [go_sem, simprocAttr, hw19, hxp_93]) (by simp only [go_sem, simprocAttr, hw19, hxp_93]; exact Is.mk) ?cont25
  simp only [go_sem, simprocAttr, hw19, hxp_93]
  try refine ⟨by first | exact sd | ((repeat' apply And.intro) <;> first | assumption | omega | (simp only [List.length_append, List.length_map, List.length_cons, List.length_nil, List.length_set, List.length_replicate] at c_95 c_96 ⊢; omega)), ?_⟩
  refine Dr.of_br (Br.callS (av := ?av26) (o := ?o26) 2 [1, 2] (ok_strings_Builder_WriteString_i1 ((([1] : Str) ++ r_94) ++ p_93.Data) o2_78 _ hr_97) (by simp only [go_sem, simprocAttr, hw19, hxp_93]; exact Is.mk) (by simp only [go_sem, simprocAttr, hw19, hxp_93]; exact Is.mk) (by simp only [go_sem, simprocAttr, hw19, hxp_93]; exact Is.mk) (by simp only [go_sem, simprocAttr, hw19, hxp_93]; exact Is.mk) (by simp only [go_sem, simprocAttr, hw19, hxp_93]; first | exact Is.mk | (simp only [List.map_append, List.map_cons, List.map_nil, eN_enc_delta_state, ecB, ecI_i64, ecI_u8, ecS, iN_enc_delta_state]; exact Is.mk)) (by simp only [go_sem, simprocAttr, hw19, hxp_93]) (by simp only [go_sem, simprocAttr, hw19, hxp_93]) (by simp only [go_sem, simprocAttr, hw19, hxp_93]) (by simp only [go_sem, simprocAttr, hw19, hxp_93]) ?cont26)
  simp only [go_sem, simprocAttr, hw19, hxp_93]
  first | apply hK24 | refine ⟨by first | exact sd | ((repeat' apply And.intro) <;> first | assumption | omega | (simp only [List.length_append, List.length_map, List.length_cons, List.length_nil, List.length_set, List.length_replicate] at c_95 c_96 ⊢; omega)), hK24 _ _ ?_⟩
  refine hK20 _ _ ?_
  refine Wp.region fun K27 hK27 => ?_
  simp only [go_sem, simprocAttr, hw19, hxp_93]
  first | apply hK27 | refine ⟨sd, hK27 _ _ ?_⟩
  simp only [thenQ, blockQ, ↓reduceIte]
  refine ⟨r_97.2, hlt19, hnx_90 _ hm, ?_⟩
  simp only [go_sem, simprocAttr, hw19, hxp_93]
  try exact se3
 ·obtain ⟨r_98, hr_98, hm⟩ := call_elim hm
  obtain ⟨c_99, hm⟩ := chk_elim hm
  obtain ⟨r_100, hr_100, hm⟩ := call_elim hm
  obtain ⟨c_101, hm⟩ := chk_elim hm
  obtain ⟨r_102, hr_102, hm⟩ := call_elim hm
  refine Wp.regD (plan := pl [(0, none), (1, none), (2, none), (3, none), (4, none), (5, none), (6, none), (7, none), (8, some [])]) (by kernel_rfl) rfl (by kernel_rfl) fun K28 hK28 => ?_
  simp only [go_sem, simprocAttr, hw19, hxp_93]
  try refine ⟨by first | exact sd | ((repeat' apply And.intro) <;> first | assumption | omega | (simp only [List.length_append, List.length_map, List.length_cons, List.length_nil, List.length_set, List.length_replicate] at c_99 c_101 ⊢; omega)), ?_⟩
  refine Dr.callF (av := ?av29) (g := true) (o := ?o29) (fun hg => ok_R_groups p_93.At _ hr_98) (by simp only [go_sem, simprocAttr, hw19, hxp_93]; exact Is.mk) (by simp only [go_sem, simprocAttr, hw19, hxp_93]; exact Is.mk) (by simp only [go_sem, simprocAttr, hw19, hxp_93]; exact Is.mk) (by simp only [go_sem, simprocAttr, hw19, hxp_93]; exact Is.mk) (by simp only [go_sem, simprocAttr, hw19, hxp_93]) (by simp only [go_sem, simprocAttr, hw19, hxp_93]; exact Is.mk) ?cont29
  simp only [go_sem, simprocAttr, hw19, hxp_93]
  try refine ⟨by first | exact sd | ((repeat' apply And.intro) <;> first | assumption | omega | (simp only [List.length_append, List.length_map, List.length_cons, List.length_nil, List.length_set, List.length_replicate] at c_99 c_101 ⊢; omega)), ?_⟩
  refine Dr.callF (av := ?av30) (g := true) (o := ?o30) (fun hg => ok_R_groups p_93.Long _ hr_100) (by simp only [go_sem, simprocAttr, hw19, hxp_93]; exact Is.mk) (by simp only [go_sem, simprocAttr, hw19, hxp_93]; exact Is.mk) (by simp only [go_sem, simprocAttr, hw19, hxp_93]; exact Is.mk) (by simp only [go_sem, simprocAttr, hw19, hxp_93]; exact Is.mk) (by simp only [go_sem, simprocAttr, hw19, hxp_93]) (by simp only [go_sem, simprocAttr, hw19, hxp_93]; exact Is.mk) ?cont30
  simp only [go_sem, simprocAttr, hw19, hxp_93]
  try refine ⟨by first | exact sd | ((repeat' apply And.intro) <;> first | assumption | omega | (simp only [List.length_append, List.length_map, List.length_cons, List.length_nil, List.length_set, List.length_replicate] at c_99 c_101 ⊢; omega)), ?_⟩
  refine Dr.of_br (Br.callS (av := ?av31) (o := ?o31) 2 [1, 2] (ok_strings_Builder_WriteString_i1 ((([0] : Str) ++ r_98) ++ r_100) o2_78 _ hr_102) (by simp only [go_sem, simprocAttr, hw19, hxp_93]; exact Is.mk) (by simp only [go_sem, simprocAttr, hw19, hxp_93]; exact Is.mk) (by simp only [go_sem, simprocAttr, hw19, hxp_93]; exact Is.mk) (by simp only [go_sem, simprocAttr, hw19, hxp_93]; exact Is.mk) (by simp only [go_sem, simprocAttr, hw19, hxp_93]; first | exact Is.mk | (simp only [List.map_append, List.map_cons, List.map_nil, eN_enc_delta_state, ecB, ecI_i64, ecI_u8, ecS, iN_enc_delta_state]; exact Is.mk)) (by simp only [go_sem, simprocAttr, hw19, hxp_93]) (by simp only [go_sem, simprocAttr, hw19, hxp_93]) (by simp only [go_sem, simprocAttr, hw19, hxp_93]) (by simp only [go_sem, simprocAttr, hw19, hxp_93]) ?cont31)
  simp only [go_sem, simprocAttr, hw19, hxp_93]
  first | apply hK28 | refine ⟨by first | exact sd | ((repeat' apply And.intro) <;> first | assumption | omega | (simp only [List.length_append, List.length_map, List.length_cons, List.length_nil, List.length_set, List.length_replicate] at c_99 c_101 ⊢; omega)), hK28 _ _ ?_⟩
  refine hK20 _ _ ?_
  refine Wp.region fun K32 hK32 => ?_
  simp only [go_sem, simprocAttr, hw19, hxp_93]
  first | apply hK32 | refine ⟨sd, hK32 _ _ ?_⟩
  simp only [thenQ, blockQ, ↓reduceIte]
  refine ⟨r_102.2, hlt19, hnx_90 _ hm, ?_⟩
  simp only [go_sem, simprocAttr, hw19, hxp_93]
  try exact se3
theorem ok_delta_Back (a_1 : Str) (d_2 : api_Delta) (z : api_Delta × Int) (hm : delta_Back a_1 d_2 = some z) : Does Tryd.prog 36 [.p (.s a_1), .agg [.p (.i .i64 d_2.Old), .p (.i .i64 d_2.New), .p (.s d_2.OldSum), .p (.s d_2.NewSum), .p (.l (List.map enc_api_Piece d_2.Pieces))]] [] (fun r X => r = .tup [.agg [.p (.i .i64 z.1.Old), .p (.i .i64 z.1.New), .p (.s z.1.OldSum), .p (.s z.1.NewSum), .p (.l (List.map enc_api_Piece z.1.Pieces))], .p (.i .i64 z.2)] ∧ X = []) := by
 unfold delta_Back at hm
 refine Does.of_wp 0 23 [.cell 4 41, .tmp 5] Tryd.func36 rfl (by decide) rfl rfl (Nat.le_of_ble_eq_true rfl) fun B => ?_
 refine qS ?_
 obtain ⟨r_3, hr_3, hm⟩ := call_elim hm
 refine Wp.seqR fun K2 hK2 => ?_
 simp only [go_sem, simprocAttr]
 try refine ⟨sd, ?_⟩
 refine Rg.callX (av := ?av3) (g := true) (fun hg => ok_delta_Apply a_1 d_2 _ hr_3) si si si sg si ?cont3
 intro hv3
 simp only [go_sem, simprocAttr]
 first | apply hK2 | refine ⟨sd, hK2 _ _ ?_⟩
 refine Wp.seqW fun K4 hK4 hW4 => ?_
 refine qS ?_
 refine cM hm (fun hc6 hm => ?_) (fun hc6 hm => ?_)
 ·refine qS ?_
  refine Wp.ret ?_
  simp only [thenQ, blockQ]
  refine retQ_retE ?_
  cases hm
  exact fse3
 ·refine Wp.skip ?_
  refine hK4 _ _ ?_
  obtain ⟨r_4, hr_4, hm⟩ := call_elim hm
  refine Wp.seqR fun K8 hK8 => ?_
  simp only [go_sem, simprocAttr]
  try refine ⟨sd, ?_⟩
  refine Rg.callF (av := ?av9) (ok_delta_Make r_3.1 a_1 _ hr_4) si si sg ?cont9
  intro hv9
  simp only [go_sem, simprocAttr]
  first | apply hK8 | refine ⟨sd, hK8 _ _ ?_⟩
  refine Wp.ret ?_
  refine retQ_ret ?_
  cases hm
  exact fse3
theorem ok_Law_DeltasMatch (a_1 : Str) (b_2 : Str) (z : Bool) (hm : Law_DeltasMatch a_1 b_2 = some z) : Does Tryd.prog 7 [.p (.s a_1), .p (.s b_2)] [] (fun r X => r = .p (.b z) ∧ X = []) := by
 unfold Law_DeltasMatch at hm
 refine Does.of_wp 0 142 [.tmp 4] Tryd.func7 rfl (by decide) rfl rfl (Nat.le_of_ble_eq_true rfl) fun B => ?_
 refine qS ?_
 refine Wp.seqW fun K2 hK2 hW2 => ?_
 obtain ⟨r_3, hr_3, hm⟩ := call_elim hm
 refine Wp.seqR fun K3 hK3 => ?_
 simp only [go_sem, simprocAttr]
 try refine ⟨sd, ?_⟩
 refine Rg.callX (av := ?av4) (g := true) (fun hg => ok_Law_landed  _ hr_3) si si si sg si ?cont4
 intro hv4
 simp only [go_sem, simprocAttr]
 first | apply hK3 | refine ⟨sd, hK3 _ _ ?_⟩
 refine cM hm (fun hc5 hm => ?_) (fun hc5 hm => ?_)
 ·refine qS ?_
  refine Wp.ret ?_
  refine retQ_ret ?_
  cases hm
  exact fse3
 ·refine Wp.skip ?_
  refine hK2 _ _ ?_
  obtain ⟨r_4, hr_4, hm⟩ := call_elim hm
  obtain ⟨r_5, hr_5, hm⟩ := call_elim hm
  refine Wp.seqR fun K7 hK7 => ?_
  simp only [go_sem, simprocAttr]
  try refine ⟨sd, ?_⟩
  refine Rg.callX (av := ?av8) (g := true) (fun hg => ok_Law_short a_1 _ hr_4) si si si sg si ?cont8
  intro hv8
  simp only [go_sem, simprocAttr]
  try refine ⟨sd, ?_⟩
  refine Rg.callX (av := ?av9) (g := true) (fun hg => ok_Law_short b_2 _ hr_5) si si si sg si ?cont9
  intro hv9
  simp only [go_sem, simprocAttr]
  first | apply hK7 | refine ⟨sd, hK7 _ _ ?_⟩
  obtain ⟨r_6, hr_6, hm⟩ := call_elim hm
  refine Wp.seqR fun K10 hK10 => ?_
  simp only [go_sem, simprocAttr]
  try refine ⟨sd, ?_⟩
  refine Rg.callF (av := ?av11) (ok_delta_Make r_4 r_5 _ hr_6) si si sg ?cont11
  intro hv11
  simp only [go_sem, simprocAttr]
  first | apply hK10 | refine ⟨sd, hK10 _ _ ?_⟩
  obtain ⟨r_7, hr_7, hm⟩ := call_elim hm
  refine Wp.seqR fun K12 hK12 => ?_
  simp only [go_sem, simprocAttr]
  try refine ⟨sd, ?_⟩
  refine Rg.callF (av := ?av13) (ok_R_Delta r_4 r_5 _ hr_7) si si sg ?cont13
  intro hv13
  simp only [go_sem, simprocAttr]
  first | apply hK12 | refine ⟨sd, hK12 _ _ ?_⟩
  refine Wp.seqW fun K14 hK14 hW14 => ?_
  obtain ⟨r_8, hr_8, hm⟩ := callG_elim hm
  refine Wp.seqR fun K15 hK15 => ?_
  simp only [go_sem, simprocAttr]
  try refine ⟨sd, ?_⟩
  refine Rg.callX (av := ?av16) (g := !(!decide (r_6.2 = r_7.2))) (fun hg => ok_Law_sameDelta r_6.1 r_7.1 _ (hr_8 hg)) si si si sg si ?cont16
  intro hv16
  simp only [go_sem, simprocAttr]
  first | apply hK15 | refine ⟨sd, hK15 _ _ ?_⟩
  refine cM hm (fun hc17 hm => ?_) (fun hc17 hm => ?_)
  ·refine qS ?_
   refine Wp.ret ?_
   refine retQ_ret ?_
   cases hm
   exact fse3
  ·refine Wp.skip ?_
   refine hK14 _ _ ?_
   obtain ⟨r_9, hr_9, hm⟩ := call_elim hm
   refine Wp.seqR fun K19 hK19 => ?_
   simp only [go_sem, simprocAttr]
   try refine ⟨sd, ?_⟩
   refine Rg.callX (av := ?av20) (g := true) (fun hg => ok_delta_Apply r_4 r_6.1 _ hr_9) si si si sg si ?cont20
   intro hv20
   simp only [go_sem, simprocAttr]
   first | apply hK19 | refine ⟨sd, hK19 _ _ ?_⟩
   refine Wp.seqW fun K21 hK21 hW21 => ?_
   obtain ⟨r_10, hr_10, hm⟩ := callG_elim hm
   refine Wp.seqR fun K22 hK22 => ?_
   simp only [go_sem, simprocAttr]
   try refine ⟨sd, ?_⟩
   refine Rg.callX (av := ?av23) (g := !((!decide (r_9.2 = 0)) || (!decide (r_9.1 = r_5)))) (fun hg => ok_delta_Check r_6.1 _ (hr_10 hg)) si si si sg si ?cont23
   intro hv23
   simp only [go_sem, simprocAttr]
   first | apply hK22 | refine ⟨sd, hK22 _ _ ?_⟩
   refine cM hm (fun hc24 hm => ?_) (fun hc24 hm => ?_)
   ·refine qS ?_
    refine Wp.ret ?_
    refine retQ_ret ?_
    cases hm
    exact fse3
   ·refine Wp.skip ?_
    refine hK21 _ _ ?_
    refine qS ?_
    refine Wp.seqW fun K27 hK27 hW27 => ?_
    obtain ⟨k_20, hk_20, hm⟩ := jp_elim hm
    have hcut27 : ∀ s, k_20 s = some z → K27 [(0, .p (.s r_4)), (1, .p (.s r_5)), (5, .ptr 0 0), (10, .p (.i .i64 s))] [.cells 41 [.p (.i .i64 r_6.1.Old), .p (.i .i64 r_6.1.New), .p (.s r_6.1.OldSum), .p (.s r_6.1.NewSum), .p (.l (List.map enc_api_Piece r_6.1.Pieces))]] := by
     intro fresh_19 hs
     have hm := hk_20 _ hs
     clear hs
     try dsimp only at hm
     try dsimp only
     refine hK27 _ _ ?_
     obtain ⟨r_21, hr_21, hm⟩ := call_elim hm
     refine Wp.seqR fun K28 hK28 => ?_
     simp only [go_sem, simprocAttr]
     try refine ⟨sd, ?_⟩
     refine Rg.callX (av := ?av29) (g := true) (fun hg => ok_delta_Fresh r_6.1 _ hr_21) si si si sg si ?cont29
     intro hv29
     simp only [go_sem, simprocAttr]
     first | apply hK28 | refine ⟨sd, hK28 _ _ ?_⟩
     obtain ⟨r_22, hr_22, hm⟩ := call_elim hm
     refine Wp.seqR fun K30 hK30 => ?_
     simp only [go_sem, simprocAttr]
     try refine ⟨sd, ?_⟩
     refine Rg.callX (av := ?av31) (g := true) (fun hg => ok_delta_Cost r_6.1 _ hr_22) si si si sg si ?cont31
     intro hv31
     simp only [go_sem, simprocAttr]
     first | apply hK30 | refine ⟨sd, hK30 _ _ ?_⟩
     refine Wp.seqW fun K32 hK32 hW32 => ?_
     obtain ⟨r_23, hr_23, hm⟩ := callG_elim hm
     obtain ⟨v_24, hv_25, hm⟩ := letv_elim hm
     refine Wp.seqR fun K33 hK33 => ?_
     simp only [go_sem, simprocAttr, hv_25]
     try refine ⟨sd, ?_⟩
     refine Rg.callX (av := ?av34) (g := !(((!decide (r_21.2 = 0)) || (!decide (r_22.2 = 0))) || (!decide (r_21.1 = fresh_19)))) (fun hg => ok_R_PrintDelta r_6.1 _ (hr_23 hg)) (by simp only [go_sem, simprocAttr, hv_25]; exact Is.mk) (by simp only [go_sem, simprocAttr, hv_25]; exact Is.mk) (by simp only [go_sem, simprocAttr, hv_25]; exact Is.mk) (by simp only [go_sem, simprocAttr, hv_25]) (by simp only [go_sem, simprocAttr, hv_25]; exact Is.mk) ?cont34
     intro hv34
     simp only [go_sem, simprocAttr, hv_25]
     first | apply hK33 | refine ⟨sd, hK33 _ _ ?_⟩
     refine cM hm (fun hc35 hm => ?_) (fun hc35 hm => ?_)
     ·refine Wp.seqR fun K36 hK36 => ?_
      simp only [go_sem, simprocAttr, hv_25]
      first | apply hK36 | refine ⟨sd, hK36 _ _ ?_⟩
      refine Wp.ret ?_
      refine retQ_ret ?_
      cases hm
      simp only [go_sem, simprocAttr, hv_25]
      try exact se3
     ·refine Wp.skip ?_
      refine hK32 _ _ ?_
      obtain ⟨r_26, hr_26, hm⟩ := call_elim hm
      refine Wp.seqR fun K37 hK37 => ?_
      simp only [go_sem, simprocAttr, hv_25]
      try refine ⟨sd, ?_⟩
      refine Rg.callF (av := ?av38) (ok_delta_Back r_4 r_6.1 _ hr_26) (by simp only [go_sem, simprocAttr, hv_25]; exact Is.mk) (by simp only [go_sem, simprocAttr, hv_25]; exact Is.mk) (by simp only [go_sem, simprocAttr, hv_25]) ?cont38
      intro hv38
      simp only [go_sem, simprocAttr, hv_25]
      first | apply hK37 | refine ⟨sd, hK37 _ _ ?_⟩
      obtain ⟨r_27, hr_27, hm⟩ := call_elim hm
      refine Wp.seqR fun K39 hK39 => ?_
      simp only [go_sem, simprocAttr, hv_25]
      try refine ⟨sd, ?_⟩
      refine Rg.callF (av := ?av40) (ok_R_Delta r_5 r_4 _ hr_27) (by simp only [go_sem, simprocAttr, hv_25]; exact Is.mk) (by simp only [go_sem, simprocAttr, hv_25]; exact Is.mk) (by simp only [go_sem, simprocAttr, hv_25]) ?cont40
      intro hv40
      simp only [go_sem, simprocAttr, hv_25]
      first | apply hK39 | refine ⟨sd, hK39 _ _ ?_⟩
      obtain ⟨r_28, hr_28, hm⟩ := call_elim hm
      refine Wp.seqR fun K41 hK41 => ?_
      simp only [go_sem, simprocAttr, hv_25]
      try refine ⟨sd, ?_⟩
      refine Rg.callX (av := ?av42) (g := true) (fun hg => ok_delta_Apply r_5 r_26.1 _ hr_28) (by simp only [go_sem, simprocAttr, hv_25]; exact Is.mk) (by simp only [go_sem, simprocAttr, hv_25]; exact Is.mk) (by simp only [go_sem, simprocAttr, hv_25]; exact Is.mk) (by simp only [go_sem, simprocAttr, hv_25]) (by simp only [go_sem, simprocAttr, hv_25]; exact Is.mk) ?cont42
      intro hv42
      simp only [go_sem, simprocAttr, hv_25]
      first | apply hK41 | refine ⟨sd, hK41 _ _ ?_⟩
      obtain ⟨r_29, hr_29, hm⟩ := callG_elim hm
      refine Wp.seqR fun K43 hK43 => ?_
      simp only [go_sem, simprocAttr, hv_25]
      try refine ⟨sd, ?_⟩
      refine Rg.callX (av := ?av44) (g := decide (r_26.2 = 0)) (fun hg => ok_Law_sameDelta r_26.1 r_27.1 _ (hr_29 hg)) (by simp only [go_sem, simprocAttr, hv_25]; exact Is.mk) (by simp only [go_sem, simprocAttr, hv_25]; exact Is.mk) (by simp only [go_sem, simprocAttr, hv_25]; exact Is.mk) (by simp only [go_sem, simprocAttr, hv_25]) (by simp only [go_sem, simprocAttr, hv_25]; exact Is.mk) ?cont44
      intro hv44
      simp only [go_sem, simprocAttr, hv_25]
      first | apply hK43 | refine ⟨sd, hK43 _ _ ?_⟩
      refine Wp.ret ?_
      refine retQ_ret ?_
      cases hm
      simp only [go_sem, simprocAttr, hv_25]
      try exact se3
    clear hK27 hk_20
    refine qS ?_
    refine Wp.block ?_
    obtain ⟨k_33, hk_33, hm⟩ := forL_cont hm
    refine Wp.fact 68 fun hl_36 => ?_
    replace hl_36 : r_6.1.Pieces.length ≤ 274877906944 := by
     simp only [go_sem, simprocAttr, List.length_map] at hl_36
     omega
    refine Wp.forL (fun i_35 s => [(0, .p (.s r_4)), (1, .p (.s r_5)), (5, .ptr 0 0), (10, .p (.i .i64 s)), (68, .p (.l (List.map enc_api_Piece r_6.1.Pieces))), (69, .p (.i .i64 (r_6.1.Pieces.length : Int))), (70, .p (.i .i64 (i_35 : Int)))]) (fun i_35 s => [.cells 41 [.p (.i .i64 r_6.1.Old), .p (.i .i64 r_6.1.New), .p (.s r_6.1.OldSum), .p (.s r_6.1.NewSum), .p (.l (List.map enc_api_Piece r_6.1.Pieces))], .cells 41 [.p (.i .i64 r_7.1.Old), .p (.i .i64 r_7.1.New), .p (.s r_7.1.OldSum), .p (.s r_7.1.NewSum), .p (.l (List.map enc_api_Piece r_7.1.Pieces))]]) ?_ hm ?_
    ·
     exact fse3
    clear hm
    intro i_35 fresh_30 hii_35 hm
    try dsimp only at hm
    try dsimp only
    refine qS ?_
    refine Wp.seqW fun K47 hK47 hW47 => ?_
    refine Wp.cond rfl ⟨⟩ (fun hc47 => ?_) (fun hc47 => ?_)
    rotate_left
    ·refine Wp.exit ?_
     have hm := hk_33 _ (forL_end hm (ge_nat (by first | exact hc47 | simpa using hc47)))
     try dsimp only at hm
     refine hW27 _ _ _ _ ?_ (hcut27 fresh_30 hm)
     exact fse3
    have hlt47 := lt_nat (by first | exact hc47 | simpa using hc47)
    have hw47 := wrap_succ hlt47 hl_36
    obtain ⟨p_37, nx_34, hxp_37, hyp_37, hnx_34, hm⟩ := forL_step hm hlt47
    replace hxp_37 := hxp_37 enc_api_Piece
    refine Wp.skip ?_
    simp only [thenQ]
    refine hK47 _ _ ?_
    refine Wp.seqW fun K48 hK48 hW48 => ?_
    refine Wp.block ?_
    refine Wp.seqR fun K49 hK49 => ?_
    simp only [go_sem, simprocAttr, hw47, hxp_37]
    first | apply hK49 | refine ⟨sd, hK49 _ _ ?_⟩
    refine Wp.region fun K50 hK50 => ?_
    simp only [go_sem, simprocAttr, hw47, hxp_37]
    first | apply hK50 | refine ⟨sd, hK50 _ _ ?_⟩
    refine hK48 _ _ ?_
    refine Wp.region fun K51 hK51 => ?_
    simp only [go_sem, simprocAttr, hw47, hxp_37]
    first | apply hK51 | refine ⟨sd, hK51 _ _ ?_⟩
    simp only [thenQ, blockQ, ↓reduceIte]
    refine ⟨IntKind.i64.wrap (fresh_30 + (p_37.Data.length : Int)), hlt47, hnx_34 _ hm, ?_⟩
    simp only [go_sem, simprocAttr, hw47, hxp_37]
    try exact se3
end Go.Proofs.YtkekfenkeeiigaaDoor
