/- That the code does what the models say (part 5). -/
import Derived.Test.YthofobeoaimclaaDoorDpWk0
import Derived.Test.YthofobeoaimclaaDoorDpWk1
import Derived.Test.YthofobeoaimclaaDoorDpWk2
import Derived.Test.YthofobeoaimclaaDoorDpWk3
import Derived.Test.YthofobeoaimclaaDoorDpWk4
set_option linter.unusedSimpArgs false
set_option linter.unusedVariables false
open Go.Proofs Go.Shelf
namespace Go.Proofs.YthofobeoaimclaaDoor
open Go.Vc Go.Md
set_option maxRecDepth 100000
set_option maxHeartbeats 4000000
theorem ok_R_DeltaError (d_1 : api_Delta) (z : Int) (hm : R_DeltaError d_1 = some z) : Does Tryd.prog 38 [.agg [.p (.i .i64 d_1.Old), .p (.i .i64 d_1.New), .p (.s d_1.OldSum), .p (.s d_1.NewSum), .p (.l (List.map enc_api_Piece d_1.Pieces))]] [] (fun r X => r = .p (.i .i64 z) ∧ X = []) := by
 unfold R_DeltaError at hm
 refine Does.of_wp 0 51 [.tmp 2] Tryd.func38 rfl (by decide) rfl rfl (Nat.le_of_ble_eq_true rfl) fun B => ?_
 refine qS ?_
 refine Wp.seqW fun K2 hK2 hW2 => ?_
 refine Wp.block ?_
 refine qS ?_
 refine cM hm (fun hc4 hm => ?_) (fun hc4 hm => ?_)
 ·refine qS ?_
  refine Wp.ret ?_
  refine retQ_ret ?_
  cases hm
  exact fse2
 ·obtain ⟨r_2, hr_2, hm⟩ := call_elim hm
  obtain ⟨r_3, hr_3, hm⟩ := callG_elim hm
  refine Wp.seqR fun K6 hK6 => ?_
  simp only [go_sem, simprocAttr]
  try refine ⟨sd, ?_⟩
  refine Rg.callX (av := ?av7) (g := true) (fun hg => ok_R_IsSum d_1.OldSum _ hr_2) si si si sg si ?cont7
  intro hv7
  simp only [go_sem, simprocAttr]
  try refine ⟨sd, ?_⟩
  refine Rg.callX (av := ?av8) (g := !(!r_2)) (fun hg => ok_R_IsSum d_1.NewSum _ (hr_3 hg)) si si si sg si ?cont8
  intro hv8
  simp only [go_sem, simprocAttr]
  first | apply hK6 | refine ⟨sd, hK6 _ _ ?_⟩
  refine cM hm (fun hc9 hm => ?_) (fun hc9 hm => ?_)
  ·refine qS ?_
   refine Wp.ret ?_
   refine retQ_ret ?_
   cases hm
   exact fse2
  ·refine Wp.skip ?_
   refine hK2 _ _ ?_
   obtain ⟨r_4, hr_4, hm⟩ := call_elim hm
   refine Wp.seqR fun K11 hK11 => ?_
   simp only [go_sem, simprocAttr]
   try refine ⟨sd, ?_⟩
   refine Rg.callX (av := ?av12) (g := true) (fun hg => ok_R_PiecesError d_1.Pieces d_1.Old _ hr_4) si si si sg si ?cont12
   intro hv12
   simp only [go_sem, simprocAttr]
   first | apply hK11 | refine ⟨sd, hK11 _ _ ?_⟩
   obtain ⟨r_5, hr_5, hm⟩ := call_elim hm
   obtain ⟨r_6, hr_6, hm⟩ := call_elim hm
   refine Wp.seqR fun K13 hK13 => ?_
   simp only [go_sem, simprocAttr]
   try refine ⟨sd, ?_⟩
   refine Rg.callX (av := ?av14) (g := true) (fun hg => ok_R_when (!decide (r_4.1 = d_1.New)) 11 _ hr_5) si si si sg si ?cont14
   intro hv14
   simp only [go_sem, simprocAttr]
   try refine ⟨sd, ?_⟩
   refine Rg.callX (av := ?av15) (g := true) (fun hg => ok_R_first [r_4.2, r_5] _ hr_6) si si si sg si ?cont15
   intro hv15
   simp only [go_sem, simprocAttr]
   first | apply hK13 | refine ⟨sd, hK13 _ _ ?_⟩
   refine Wp.ret ?_
   refine retQ_ret ?_
   cases hm
   exact fse2
theorem ok_R_ParseDelta (s_1 : Str) (z : api_Delta × Int) (hm : R_ParseDelta s_1 = some z) : Does Tryd.prog 25 [.p (.s s_1)] [] (fun r X => r = .tup [.agg [.p (.i .i64 z.1.Old), .p (.i .i64 z.1.New), .p (.s z.1.OldSum), .p (.s z.1.NewSum), .p (.l (List.map enc_api_Piece z.1.Pieces))], .p (.i .i64 z.2)] ∧ X = []) := by
 unfold R_ParseDelta at hm
 refine Does.of_wp 0 111 [.cell 2 41, .tmp 3] Tryd.func25 rfl (by decide) rfl rfl (Nat.le_of_ble_eq_true rfl) fun B => ?_
 refine qS ?_
 refine Wp.seqW fun K2 hK2 hW2 => ?_
 refine qS ?_
 refine cM hm (fun hc4 hm => ?_) (fun hc4 hm => ?_)
 ·refine qS ?_
  refine Wp.ret ?_
  simp only [thenQ, blockQ]
  refine retQ_retE ?_
  cases hm
  exact fse2
 ·refine Wp.skip ?_
  refine hK2 _ _ ?_
  refine qS ?_
  refine qS ?_
  refine qS ?_
  refine qS ?_
  obtain ⟨r_2, hr_2, hm⟩ := call_elim hm
  refine Wp.seqR fun K10 hK10 => ?_
  simp only [go_sem, simprocAttr]
  try refine ⟨sd, ?_⟩
  refine Rg.callO (av := ?av11) [1, 2] (ok_R_ParseDelta_1_i1 4 s_1 false _ hr_2) si si si sg sg ?cont11
  rintro _ _ ⟨rfl, rfl⟩ hv11
  simp only [go_sem, simprocAttr]
  first | apply hK10 | refine ⟨sd, hK10 _ _ ?_⟩
  obtain ⟨r_3, hr_3, hm⟩ := call_elim hm
  obtain ⟨r_4, hr_4, hm⟩ := call_elim hm
  refine Wp.seqR fun K12 hK12 => ?_
  simp only [go_sem, simprocAttr]
  try refine ⟨sd, ?_⟩
  refine Rg.callO (av := ?av13) [3, 1, 2] (ok_R_ParseDelta_2_i1 r_2.2.1 (!decide (r_2.1 = ([79, 70, 68, 49] : Str))) _ hr_3) si si si sg sg ?cont13
  rintro _ _ ⟨rfl, rfl⟩ hv13
  simp only [go_sem, simprocAttr]
  try refine ⟨sd, ?_⟩
  refine Rg.callO (av := ?av14) [3, 1, 2] (ok_R_ParseDelta_2_i1 r_3.2.1 r_3.2.2 _ hr_4) si si si sg sg ?cont14
  rintro _ _ ⟨rfl, rfl⟩ hv14
  simp only [go_sem, simprocAttr]
  first | apply hK12 | refine ⟨sd, hK12 _ _ ?_⟩
  obtain ⟨r_5, hr_5, hm⟩ := call_elim hm
  obtain ⟨r_6, hr_6, hm⟩ := call_elim hm
  refine Wp.seqR fun K15 hK15 => ?_
  simp only [go_sem, simprocAttr]
  try refine ⟨sd, ?_⟩
  refine Rg.callO (av := ?av16) [3, 1, 2] (ok_R_ParseDelta_3_i1 r_4.2.1 r_4.2.2 _ hr_5) si si si sg sg ?cont16
  rintro _ _ ⟨rfl, rfl⟩ hv16
  simp only [go_sem, simprocAttr]
  try refine ⟨sd, ?_⟩
  refine Rg.callO (av := ?av17) [3, 1, 2] (ok_R_ParseDelta_3_i1 r_5.2.1 r_5.2.2 _ hr_6) si si si sg sg ?cont17
  rintro _ _ ⟨rfl, rfl⟩ hv17
  simp only [go_sem, simprocAttr]
  first | apply hK15 | refine ⟨sd, hK15 _ _ ?_⟩
  refine qS ?_
  refine Wp.seqW fun K19 hK19 hW19 => ?_
  obtain ⟨k_57, hk_57, hm⟩ := jp_elim hm
  have hcut19 : ∀ s, k_57 s = some z → K19 [(0, .p (.s s_1)), (2, .ptr 0 0), (4, .ptr 1 0), (5, .ptr 2 0), (8, .fn 82 [.ptr 3 0]), (9, .ptr 4 0), (10, .p (.b s.1))] [.cells 41 [.p (.i .i64 0), .p (.i .i64 0), .p (.s []), .p (.s []), .nils], .cells 9 [.p (.s s.2.1)], .cells 4 [.p (.b s.2.2.1)], .cells 104 [.fn 80 [.ptr 1 0, .ptr 2 0]], .cells 41 [.p (.i .i64 r_3.1), .p (.i .i64 r_4.1), .p (.s r_5.1), .p (.s r_6.1), .buf 5], .buf 53 3 (List.map enc_api_Piece s.2.2.2)] := by
   intro s hs
   have hm := hk_57 _ hs
   clear hs
   obtain ⟨empty_53, o1_0_54, o2_0_55, o5_56⟩ := s
   try dsimp only at hm
   try dsimp only
   refine hK19 _ _ ?_
   obtain ⟨c_58, hm⟩ := chk_elim hm
   refine Wp.seqR fun K20 hK20 => ?_
   simp only [go_sem, simprocAttr]
   first | apply hK20 | refine ⟨by first | exact sd | ((repeat' apply And.intro) <;> first | assumption | omega | (simp only [List.length_append, List.length_map, List.length_cons, List.length_nil, List.length_set, List.length_replicate] at c_58 ⊢; omega)), hK20 _ _ ?_⟩
   obtain ⟨r_59, hr_59, hm⟩ := call_elim hm
   refine Wp.seqR fun K21 hK21 => ?_
   simp only [go_sem, simprocAttr]
   try refine ⟨sd, ?_⟩
   refine Rg.callO (av := ?av22) [3, 1, 2] (ok_R_ParseDelta_3_i1 o1_0_54 o2_0_55 _ hr_59) si si si sg sg ?cont22
   rintro _ _ ⟨rfl, rfl⟩ hv22
   simp only [go_sem, simprocAttr]
   first | apply hK21 | refine ⟨sd, hK21 _ _ ?_⟩
   refine Wp.seqW fun K23 hK23 hW23 => ?_
   refine qS ?_
   refine cM hm (fun hc25 hm => ?_) (fun hc25 hm => ?_)
   ·refine qS ?_
    refine Wp.ret ?_
    simp only [thenQ, blockQ]
    refine retQ_retE ?_
    cases hm
    exact fse2
   ·refine Wp.skip ?_
    refine hK23 _ _ ?_
    refine Wp.seqW fun K27 hK27 hW27 => ?_
    obtain ⟨r_60, hr_60, hm⟩ := call_elim hm
    refine Wp.seqR fun K28 hK28 => ?_
    simp only [go_sem, simprocAttr]
    try refine ⟨sd, ?_⟩
    refine Rg.callX (av := ?av29) (g := true) (fun hg => ok_R_SumOf (List.take ((IntKind.i64.wrap ((s_1.length : Int) - (o1_0_54.length : Int))).toNat) s_1) _ hr_60) si si si sg si ?cont29
    intro hv29
    simp only [go_sem, simprocAttr]
    first | apply hK28 | refine ⟨sd, hK28 _ _ ?_⟩
    refine cM hm (fun hc30 hm => ?_) (fun hc30 hm => ?_)
    ·refine qS ?_
     refine Wp.ret ?_
     simp only [thenQ, blockQ]
     refine retQ_retE ?_
     cases hm
     exact fse2
    ·refine Wp.skip ?_
     refine hK27 _ _ ?_
     refine Wp.seqW fun K32 hK32 hW32 => ?_
     obtain ⟨r_61, hr_61, hm⟩ := call_elim hm
     refine Wp.seqR fun K33 hK33 => ?_
     simp only [go_sem, simprocAttr]
     try refine ⟨sd, ?_⟩
     refine Rg.callX (av := ?av34) (g := true) (fun hg => ok_R_DeltaError (api_Delta.mk r_3.1 r_4.1 r_5.1 r_6.1 o5_56) _ hr_61) si si si sg si ?cont34
     intro hv34
     simp only [go_sem, simprocAttr]
     first | apply hK33 | refine ⟨sd, hK33 _ _ ?_⟩
     refine qS ?_
     refine cM hm (fun hc36 hm => ?_) (fun hc36 hm => ?_)
     ·refine qS ?_
      refine Wp.ret ?_
      simp only [thenQ, blockQ]
      refine retQ_retE ?_
      cases hm
      exact fse2
     ·refine Wp.skip ?_
      refine hK32 _ _ ?_
      refine qS ?_
      refine Wp.ret ?_
      refine retQ_ret ?_
      cases hm
      exact fse2
  clear hK19 hk_57
  obtain ⟨r_62, hr_62, hm⟩ := call_elim hm
  refine Wp.seqR fun K39 hK39 => ?_
  simp only [go_sem, simprocAttr]
  try refine ⟨sd, ?_⟩
  refine Rg.callO (av := ?av40) [3, 1, 2] (ok_R_ParseDelta_2_i1 r_6.2.1 r_6.2.2 _ hr_62) si si si sg sg ?cont40
  rintro _ _ ⟨rfl, rfl⟩ hv40
  simp only [go_sem, simprocAttr]
  first | apply hK39 | refine ⟨sd, hK39 _ _ ?_⟩
  refine Wp.block ?_
  refine Wp.adoptO 4 4 53 3 rfl rfl ?_
  simp only [go_sem, simprocAttr]
  obtain ⟨k_93, hk_93, hm⟩ := loopN_cont hm
  refine Wp.loopN (fun s => [(0, .p (.s s_1)), (2, .ptr 0 0), (4, .ptr 1 0), (5, .ptr 2 0), (6, .ptr 3 0), (7, .fn 81 [.ptr 3 0, .ptr 2 0]), (8, .fn 82 [.ptr 3 0]), (9, .ptr 4 0), (10, .p (.b s.1)), (11, .p (.i .i64 s.2.1))]) (fun s => [.cells 41 [.p (.i .i64 0), .p (.i .i64 0), .p (.s []), .p (.s []), .nils], .cells 9 [.p (.s s.2.2.1)], .cells 4 [.p (.b s.2.2.2.1)], .cells 104 [.fn 80 [.ptr 1 0, .ptr 2 0]], .cells 41 [.p (.i .i64 r_3.1), .p (.i .i64 r_4.1), .p (.s r_5.1), .p (.s r_6.1), .buf 5], .buf 53 3 (List.map enc_api_Piece s.2.2.2.2)]) ?_ hm ?_
  ·
   exact fse2
  clear hm
  intro s nx_94 hm
  obtain ⟨empty_81, n_82, o1_0_83, o2_0_84, o5_85⟩ := s
  try dsimp only at hm
  try dsimp only
  refine Wp.seqW fun K41 hK41 hW41 => ?_
  refine qS ?_
  refine cM hm (fun hc43 hm => ?_) (fun hc43 hm => ?_)
  ·refine Wp.skip ?_
   refine hK41 _ _ ?_
   refine Wp.seqW fun K44 hK44 hW44 => ?_
   refine Wp.block ?_
   obtain ⟨r_95, hr_95, hm⟩ := call_elim hm
   refine Wp.seqR fun K45 hK45 => ?_
   simp only [go_sem, simprocAttr]
   try refine ⟨sd, ?_⟩
   refine Rg.callO (av := ?av46) [1, 2] (ok_R_ParseDelta_1_i1 1 o1_0_83 o2_0_84 _ hr_95) si si si sg sg ?cont46
   rintro _ _ ⟨rfl, rfl⟩ hv46
   simp only [go_sem, simprocAttr]
   first | apply hK45 | refine ⟨sd, hK45 _ _ ?_⟩
   refine Wp.block ?_
   refine qS ?_
   refine cM hm (fun hc48 hm => ?_) (fun hc48 hm => ?_)
   ·obtain ⟨r_96, hr_96, hm⟩ := call_elim hm
    obtain ⟨r_97, hr_97, hm⟩ := call_elim hm
    obtain ⟨c_98, hm⟩ := chk_elim hm
    refine Wp.regD (plan := pl [(0, none), (1, none), (2, none), (4, none), (3, some [0, 1, 4]), (5, some [0, 1]), (6, none), (7, some [0, 1]), (8, some []), (9, none), (10, some [])]) (by kernel_rfl) rfl (by kernel_rfl) fun K49 hK49 => ?_
    simp only [go_sem, simprocAttr]
    try refine ⟨by first | exact sd | ((repeat' apply And.intro) <;> first | assumption | omega | (simp only [List.length_append, List.length_map, List.length_cons, List.length_nil, List.length_set, List.length_replicate] at c_98 ⊢; omega)), ?_⟩
    refine Dr.of_br (Br.callE (av := ?av50) (o := ?o50) [3, 1, 2] (ok_R_ParseDelta_2_i1 r_95.2.1 r_95.2.2 _ hr_96) si si si si si sg sg sg sg ?cont50)
    simp only [go_sem, simprocAttr]
    try refine ⟨by first | exact sd | ((repeat' apply And.intro) <;> first | assumption | omega | (simp only [List.length_append, List.length_map, List.length_cons, List.length_nil, List.length_set, List.length_replicate] at c_98 ⊢; omega)), ?_⟩
    refine Dr.of_br (Br.callE (av := ?av51) (o := ?o51) [3, 1, 2] (ok_R_ParseDelta_2_i1 r_96.2.1 r_96.2.2 _ hr_97) si si si si si sg sg sg sg ?cont51)
    simp only [go_sem, simprocAttr]
    first | apply hK49 | refine ⟨by first | exact sd | ((repeat' apply And.intro) <;> first | assumption | omega | (simp only [List.length_append, List.length_map, List.length_cons, List.length_nil, List.length_set, List.length_replicate] at c_98 ⊢; omega)), hK49 _ _ ?_⟩
    refine hK44 _ _ ?_
    refine qR ?_
    simp only [thenQ, blockQ, ↓reduceIte]
    refine ⟨(empty_81, IntKind.i64.wrap (n_82 - 1), r_97.2.1, r_97.2.2, o5_85 ++ [(api_Piece.mk r_96.1 r_97.1 [])]), hm, ?_⟩
    exact fse2
   ·refine qS ?_
    refine cM hm (fun hc54 hm => ?_) (fun hc54 hm => ?_)
    ·obtain ⟨r_99, hr_99, hm⟩ := call_elim hm
     obtain ⟨r_100, hr_100, hm⟩ := call_elim hm
     refine Wp.seqDW (plan := (.rd 0 (.rd 1 (.fk 2 [0] (.fk 3 [] (.rd 4 (.ef 5 [0, 1, 4] (.ef 6 [] .nil))) 5 [0, 1] (.ef 3 [] (.rd 4 (.ef 6 [] .nil)))) 5 [0, 1] (.ef 2 [0] (.ef 3 [] (.rd 4 (.ef 6 [] .nil)))))))) (by kernel_rfl) rfl (by kernel_rfl) fun K55 hK55 hW55 => ?_
     suffices hcont55 : K55 [(0, .p (.s s_1)), (2, .ptr 0 0), (4, .ptr 1 0), (5, .ptr 2 0), (6, .ptr 3 0), (7, .fn 81 [.ptr 3 0, .ptr 2 0]), (8, .fn 82 [.ptr 3 0]), (9, .ptr 4 0), (10, .p (.b empty_81)), (11, .p (.i .i64 n_82)), (12, .ptr 6 0), (40, .p (.i .i64 n_82)), (41, .p (.b (decide (0 < n_82)))), (42, .p (.b (decide (0 < n_82)))), (45, .p (.b ((decide (0 < n_82)) && (!o2_0_84)))), (48, .fn 80 [.ptr 1 0, .ptr 2 0]), (49, .p (.s r_95.1)), (50, .p (.b (decide (r_95.1 = ([0] : Str))))), (51, .p (.b (decide (r_95.1 = ([0] : Str))))), (62, .p (.b (decide (r_95.1 = ([1] : Str))))), (63, .p (.b (decide (r_95.1 = ([1] : Str))))), (64, .fn 80 [.ptr 1 0, .ptr 2 0]), (65, .fn 81 [.ptr 3 0, .ptr 2 0]), (66, .p (.i .i64 r_99.1)), (67, .p (.s r_100.1)), (68, .agg [.p (.i .i64 0), .p (.i .i64 0), .p (.s r_100.1)])] [.cells 41 [.p (.i .i64 0), .p (.i .i64 0), .p (.s []), .p (.s []), .nils], .cells 9 [.p (.s r_100.2.1)], .cells 4 [.p (.b r_100.2.2)], .cells 104 [.fn 80 [.ptr 1 0, .ptr 2 0]], .cells 41 [.p (.i .i64 r_3.1), .p (.i .i64 r_4.1), .p (.s r_5.1), .p (.s r_6.1), .buf 5], .buf 53 3 (List.map enc_api_Piece o5_85), .cells 53 [.p (.i .i64 0), .p (.i .i64 0), .p (.s r_100.1)]] by
      simp only [go_sem, simprocAttr]
      try refine ⟨sd, ?_⟩
      refine Dr.fk ?_ ?_
      ·
       refine id (Br.callE (av := ?av56) (o := ?o56) [3, 1, 2] (ok_R_ParseDelta_2_i1 r_95.2.1 r_95.2.2 _ hr_99) si si si si si sg sg sg sg ?cont56)
       simp only [go_sem, simprocAttr]
       try refine ⟨sd, ?_⟩
       refine Dr.fk ?_ ?_
       ·
        refine id (Br.callE (av := ?av57) (o := ?o57) [1, 2] (ok_R_ParseDelta_1_i1 r_99.1 r_99.2.1 r_99.2.2 _ hr_100) si si si si si sg sg sg sg ?cont57)
        simp only [go_sem, simprocAttr]
        first | refine hW55 _ _ _ _ ?_ hcont55 | refine ⟨sd, hW55 _ _ _ _ ?_ hcont55⟩
        exact fse2
       ·
        refine Br.run (o := ?o58) si si ?cont58
        simp only [go_sem, simprocAttr]
        try refine ⟨sd, ?_⟩
        refine Dr.of_br (Br.callE (av := ?av59) (o := ?o59) [1, 2] (ok_R_ParseDelta_1_i1 r_99.1 r_99.2.1 r_99.2.2 _ hr_100) si si si si si sg sg sg sg ?cont59)
        simp only [go_sem, simprocAttr]
        first | refine hW55 _ _ _ _ ?_ hcont55 | refine ⟨sd, hW55 _ _ _ _ ?_ hcont55⟩
        exact fse2
      ·
       refine Br.run (o := ?o60) si si ?cont60
       simp only [go_sem, simprocAttr]
       try refine ⟨sd, ?_⟩
       refine Dr.of_br (Br.callE (av := ?av61) (o := ?o61) [3, 1, 2] (ok_R_ParseDelta_2_i1 r_95.2.1 r_95.2.2 _ hr_99) si si si si si sg sg sg sg ?cont61)
       simp only [go_sem, simprocAttr]
       try refine ⟨sd, ?_⟩
       refine Dr.of_br (Br.callE (av := ?av62) (o := ?o62) [1, 2] (ok_R_ParseDelta_1_i1 r_99.1 r_99.2.1 r_99.2.2 _ hr_100) si si si si si sg sg sg sg ?cont62)
       simp only [go_sem, simprocAttr]
       first | refine hW55 _ _ _ _ ?_ hcont55 | refine ⟨sd, hW55 _ _ _ _ ?_ hcont55⟩
       exact fse2
     refine hK55 _ _ ?_
     refine qS ?_
     obtain ⟨c_101, hm⟩ := chk_elim hm
     refine Wp.region fun K64 hK64 => ?_
     simp only [go_sem, simprocAttr]
     first | apply hK64 | refine ⟨by first | exact sd | ((repeat' apply And.intro) <;> first | assumption | omega | (simp only [List.length_append, List.length_map, List.length_cons, List.length_nil, List.length_set, List.length_replicate] at c_101 ⊢; omega)), hK64 _ _ ?_⟩
     refine hK44 _ _ ?_
     refine qR ?_
     simp only [thenQ, blockQ, ↓reduceIte]
     refine ⟨((empty_81 || (decide (r_100.1 = []))), IntKind.i64.wrap (n_82 - 1), r_100.2.1, r_100.2.2, o5_85 ++ [(api_Piece.mk 0 0 r_100.1)]), hm, ?_⟩
     exact fse2
    ·refine qR ?_
     refine hK44 _ _ ?_
     refine qR ?_
     simp only [thenQ, blockQ, ↓reduceIte]
     refine ⟨(empty_81, IntKind.i64.wrap (n_82 - 1), r_95.2.1, true, o5_85), hm, ?_⟩
     exact fse2
  ·refine Wp.exit ?_
   simp only [thenQ, blockQ, ↓reduceIte]
   have hm := hk_93 _ hm
   try dsimp only at hm
   refine hW19 _ _ _ _ ?_ (hcut19 (empty_81, o1_0_83, o2_0_84, o5_85) hm)
   exact fse2
theorem ok_slices_Equal_api_Piece_api_Piece (s1_1 : List api_Piece) (s2_2 : List api_Piece) (z : Bool) (hm : slices_Equal_api_Piece_api_Piece s1_1 s2_2 = some z) : Does Tryd.prog 84 [.p (.l (List.map enc_api_Piece s1_1)), .p (.l (List.map enc_api_Piece s2_2))] [] (fun r X => r = .p (.b z) ∧ X = []) := by
 unfold slices_Equal_api_Piece_api_Piece at hm
 refine Does.of_wp 0 26 [.tmp 4] Tryd.func84 rfl (by decide) rfl rfl (Nat.le_of_ble_eq_true rfl) fun B => ?_
 refine qS ?_
 refine Wp.seqW fun K2 hK2 hW2 => ?_
 refine qS ?_
 refine cM hm (fun hc4 hm => ?_) (fun hc4 hm => ?_)
 ·refine qS ?_
  refine Wp.ret ?_
  refine retQ_ret ?_
  cases hm
  exact fse2
 ·refine Wp.skip ?_
  refine hK2 _ _ ?_
  refine Wp.seqW fun K6 hK6 hW6 => ?_
  obtain ⟨k_12, hk_12, hm⟩ := jp_elim hm
  have hcut6 : ∀ s, k_12 s = some z → K6 [] [] := by
   intro s hs
   have hm := hk_12 _ hs
   clear hs
   try dsimp only at hm
   try dsimp only
   refine hK6 _ _ ?_
   refine qS ?_
   refine Wp.ret ?_
   refine retQ_ret ?_
   cases hm
   exact fse2
  clear hK6 hk_12
  refine qS ?_
  refine Wp.block ?_
  obtain ⟨k_16, hk_16, hm⟩ := forL_cont hm
  refine Wp.fact 0 fun hl_19 => ?_
  replace hl_19 : s1_1.length ≤ 274877906944 := by
   simp only [go_sem, simprocAttr, List.length_map] at hl_19
   omega
  refine Wp.forL (fun i_18 s => [(0, .p (.l (List.map enc_api_Piece s1_1))), (1, .p (.l (List.map enc_api_Piece s2_2))), (12, .p (.i .i64 (s1_1.length : Int))), (13, .p (.i .i64 (i_18 : Int)))]) (fun i_18 s => []) ?_ hm ?_
  ·
   exact fse2
  clear hm
  intro i_18 s hii_18 hm
  try dsimp only at hm
  try dsimp only
  refine qS ?_
  refine Wp.seqW fun K10 hK10 hW10 => ?_
  refine Wp.cond rfl ⟨⟩ (fun hc10 => ?_) (fun hc10 => ?_)
  rotate_left
  ·refine Wp.exit ?_
   have hm := hk_16 _ (forL_end hm (ge_nat (by first | exact hc10 | simpa using hc10)))
   try dsimp only at hm
   refine hW6 _ _ _ _ ?_ (hcut6 () hm)
   exact fse2
  have hlt10 := lt_nat (by first | exact hc10 | simpa using hc10)
  have hw10 := wrap_succ hlt10 hl_19
  obtain ⟨p_20, nx_17, hxp_20, hyp_20, hnx_17, hm⟩ := forL_step hm hlt10
  replace hxp_20 := hxp_20 enc_api_Piece
  refine Wp.skip ?_
  simp only [thenQ]
  refine hK10 _ _ ?_
  refine Wp.seqW fun K11 hK11 hW11 => ?_
  refine Wp.block ?_
  refine Wp.seqR fun K12 hK12 => ?_
  simp only [go_sem, simprocAttr, hw10, hxp_20]
  first | apply hK12 | refine ⟨sd, hK12 _ _ ?_⟩
  obtain ⟨p_21, hbp_21, hxp_21, hyp_21, hm⟩ := idx_elim hm
  replace hxp_21 : ∀ d, (List.map enc_api_Piece s2_2).getD i_18 d = enc_api_Piece p_21 := hxp_21 enc_api_Piece
  refine Wp.seqD (plan := pl [(0, none), (1, none), (2, none), (3, none), (4, none), (5, none), (6, none), (7, none), (8, none)]) (by kernel_rfl) rfl (by kernel_rfl) fun K13 hK13 => ?_
  simp only [go_sem, simprocAttr, hw10, hxp_20, hxp_21]
  first | apply hK13 | refine ⟨sd, hK13 _ _ ?_⟩
  refine cM hm (fun hc14 hm => ?_) (fun hc14 hm => ?_)
  ·refine Wp.seqR fun K15 hK15 => ?_
   simp only [go_sem, simprocAttr, hw10, hxp_20, hxp_21]
   first | apply hK15 | refine ⟨sd, hK15 _ _ ?_⟩
   refine Wp.ret ?_
   refine retQ_ret ?_
   cases hm
   simp only [go_sem, simprocAttr, hw10, hxp_20, hxp_21]
   try exact se2
  ·refine Wp.skip ?_
   refine hK11 _ _ ?_
   refine Wp.region fun K16 hK16 => ?_
   simp only [go_sem, simprocAttr, hw10, hxp_20, hxp_21]
   first | apply hK16 | refine ⟨sd, hK16 _ _ ?_⟩
   simp only [thenQ, blockQ, ↓reduceIte]
   refine ⟨(), hlt10, hnx_17 _ hm, ?_⟩
   simp only [go_sem, simprocAttr, hw10, hxp_20, hxp_21]
   try exact se2
theorem ok_Law_sameDelta (a_1 : api_Delta) (b_2 : api_Delta) (z : Bool) (hm : Law_sameDelta a_1 b_2 = some z) : Does Tryd.prog 26 [.agg [.p (.i .i64 a_1.Old), .p (.i .i64 a_1.New), .p (.s a_1.OldSum), .p (.s a_1.NewSum), .p (.l (List.map enc_api_Piece a_1.Pieces))], .agg [.p (.i .i64 b_2.Old), .p (.i .i64 b_2.New), .p (.s b_2.OldSum), .p (.s b_2.NewSum), .p (.l (List.map enc_api_Piece b_2.Pieces))]] [] (fun r X => r = .p (.b z) ∧ X = []) := by
 unfold Law_sameDelta at hm
 refine Does.of_wp 0 38 [.tmp 4] Tryd.func26 rfl (by decide) rfl rfl (Nat.le_of_ble_eq_true rfl) fun B => ?_
 refine qS ?_
 obtain ⟨v_3, hv_4, hm⟩ := letv_elim hm
 obtain ⟨r_5, hr_5, hm⟩ := callG_elim hm
 refine Wp.seqR fun K2 hK2 => ?_
 simp only [go_sem, simprocAttr, hv_4]
 try refine ⟨sd, ?_⟩
 refine Rg.callX (av := ?av3) (g := (v_3 && (decide (a_1.NewSum = b_2.NewSum)))) (fun hg => ok_slices_Equal_api_Piece_api_Piece a_1.Pieces b_2.Pieces _ (hr_5 hg)) (by simp only [go_sem, simprocAttr, hv_4]; exact Is.mk) (by simp only [go_sem, simprocAttr, hv_4]; exact Is.mk) (by simp only [go_sem, simprocAttr, hv_4]; exact Is.mk) (by simp only [go_sem, simprocAttr, hv_4]) (by simp only [go_sem, simprocAttr, hv_4]; exact Is.mk) ?cont3
 intro hv3
 simp only [go_sem, simprocAttr, hv_4]
 first | apply hK2 | refine ⟨sd, hK2 _ _ ?_⟩
 refine Wp.ret ?_
 refine retQ_ret ?_
 cases hm
 simp only [go_sem, simprocAttr, hv_4]
 try exact se2
theorem ok_Law_DeltasParse (a_1 : Str) (b_2 : Str) (at_3 : Int) (cut_4 : Int) (by_5 : Int) (summed_6 : Bool) (z : Bool) (hm : Law_DeltasParse a_1 b_2 at_3 cut_4 by_5 summed_6 = some z) : Does Tryd.prog 5 [.p (.s a_1), .p (.s b_2), .p (.i .i64 at_3), .p (.i .i64 cut_4), .p (.i .u8 by_5), .p (.b summed_6)] [] (fun r X => r = .p (.b z) ∧ X = []) := by
 unfold Law_DeltasParse at hm
 refine Does.of_wp 0 98 [.tmp 12] Tryd.func5 rfl (by decide) rfl rfl (Nat.le_of_ble_eq_true rfl) fun B => ?_
 refine qS ?_
 refine Wp.seqW fun K2 hK2 hW2 => ?_
 obtain ⟨r_7, hr_7, hm⟩ := call_elim hm
 refine Wp.seqR fun K3 hK3 => ?_
 simp only [go_sem, simprocAttr]
 try refine ⟨sd, ?_⟩
 refine Rg.callX (av := ?av4) (g := true) (fun hg => ok_Law_landed  _ hr_7) si si si sg si ?cont4
 intro hv4
 simp only [go_sem, simprocAttr]
 first | apply hK3 | refine ⟨sd, hK3 _ _ ?_⟩
 refine cM hm (fun hc5 hm => ?_) (fun hc5 hm => ?_)
 ·refine qS ?_
  refine Wp.ret ?_
  refine retQ_ret ?_
  cases hm
  exact fse1
 ·refine Wp.skip ?_
  refine hK2 _ _ ?_
  obtain ⟨r_8, hr_8, hm⟩ := call_elim hm
  obtain ⟨r_9, hr_9, hm⟩ := call_elim hm
  obtain ⟨r_10, hr_10, hm⟩ := call_elim hm
  refine Wp.seqR fun K7 hK7 => ?_
  simp only [go_sem, simprocAttr]
  try refine ⟨sd, ?_⟩
  refine Rg.callX (av := ?av8) (g := true) (fun hg => ok_Law_short a_1 _ hr_8) si si si sg si ?cont8
  intro hv8
  simp only [go_sem, simprocAttr]
  try refine ⟨sd, ?_⟩
  refine Rg.callX (av := ?av9) (g := true) (fun hg => ok_Law_short b_2 _ hr_9) si si si sg si ?cont9
  intro hv9
  simp only [go_sem, simprocAttr]
  try refine ⟨sd, ?_⟩
  refine Rg.callF (av := ?av10) (ok_R_Delta r_8 r_9 _ hr_10) si si sg ?cont10
  intro hv10
  simp only [go_sem, simprocAttr]
  first | apply hK7 | refine ⟨sd, hK7 _ _ ?_⟩
  refine Wp.seqW fun K11 hK11 hW11 => ?_
  refine qS ?_
  refine cM hm (fun hc13 hm => ?_) (fun hc13 hm => ?_)
  ·refine qS ?_
   refine Wp.ret ?_
   refine retQ_ret ?_
   cases hm
   exact fse2
  ·refine Wp.skip ?_
   refine hK11 _ _ ?_
   obtain ⟨r_11, hr_11, hm⟩ := call_elim hm
   refine Wp.seqR fun K15 hK15 => ?_
   simp only [go_sem, simprocAttr]
   try refine ⟨sd, ?_⟩
   refine Rg.callX (av := ?av16) (g := true) (fun hg => ok_R_PrintDelta r_10.1 _ hr_11) si si si sg si ?cont16
   intro hv16
   simp only [go_sem, simprocAttr]
   first | apply hK15 | refine ⟨sd, hK15 _ _ ?_⟩
   obtain ⟨c_12, hm⟩ := chk_elim hm
   refine Wp.seqR fun K17 hK17 => ?_
   simp only [go_sem, simprocAttr]
   first | apply hK17 | refine ⟨by first | exact sd | ((repeat' apply And.intro) <;> first | assumption | omega | (simp only [List.length_append, List.length_map, List.length_cons, List.length_nil, List.length_set, List.length_replicate] at c_12 ⊢; omega)), hK17 _ _ ?_⟩
   obtain ⟨c_13, hm⟩ := chk_elim hm
   obtain ⟨v_14, hv_15, hm⟩ := letv_elim hm
   obtain ⟨v_16, hv_17, hm⟩ := letv_elim hm
   obtain ⟨c_18, hm⟩ := chk_elim hm
   obtain ⟨v_19, hv_20, hm⟩ := letv_elim hm
   obtain ⟨c_21, hm⟩ := chk_elim hm
   obtain ⟨c_22, hm⟩ := chk_elim hm
   obtain ⟨c_23, hm⟩ := chk_elim hm
   obtain ⟨c_24, hm⟩ := chk_elim hm
   obtain ⟨v_25, hv_26, hm⟩ := letv_elim hm
   have hv_26m := congrArg (List.map ecI_u8) hv_26
   try simp only [List.map_append, List.map_cons, List.map_nil, List.map_set, List.map_replicate, ecI_u8] at hv_26m
   have hr_27 := fun h => getD_encB (l := bytesOf r_11) (e := ecI_u8) (d := 0) (i := (v_19.toNat : Nat)) h []
   refine Wp.seqR fun K18 hK18 => ?_
   simp only [go_sem, simprocAttr, hv_15, hv_17, hv_20, hv_26, hv_26m, hr_27 (by simp only [bytesOf_length]; omega)]
   first | apply hK18 | refine ⟨by first | exact sd | ((repeat' apply And.intro) <;> first | assumption | omega | (simp only [List.length_append, List.length_map, List.length_cons, List.length_nil, List.length_set, List.length_replicate] at c_13 c_18 c_21 c_22 c_23 c_24 ⊢; omega)), hK18 _ _ ?_⟩
   obtain ⟨v_28, hv_29, hm⟩ := letv_elim hm
   obtain ⟨v_30, hv_31, hm⟩ := letv_elim hm
   obtain ⟨c_32, hm⟩ := chk_elim hm
   refine Wp.seqR fun K19 hK19 => ?_
   simp only [go_sem, simprocAttr, hv_15, hv_17, hv_20, hv_26, hv_26m, hv_29, hv_31]
   first | apply hK19 | refine ⟨by first | exact sd | ((repeat' apply And.intro) <;> first | assumption | omega | (simp only [List.length_append, List.length_map, List.length_cons, List.length_nil, List.length_set, List.length_replicate] at c_32 ⊢; omega)), hK19 _ _ ?_⟩
   obtain ⟨c_33, hm⟩ := chk_elim hm
   obtain ⟨v_34, hv_35, hm⟩ := letv_elim hm
   obtain ⟨c_36, hm⟩ := chk_elim hm
   refine Wp.seqD (plan := pl [(0, none), (1, none), (2, none), (3, none), (4, none), (5, none), (6, none), (7, none), (8, none), (9, none)]) (by kernel_rfl) rfl (by kernel_rfl) fun K20 hK20 => ?_
   simp only [go_sem, simprocAttr, hv_15, hv_17, hv_20, hv_26, hv_26m, hv_29, hv_31, hv_35]
   first | apply hK20 | refine ⟨by first | exact sd | ((repeat' apply And.intro) <;> first | assumption | omega | (simp only [List.length_append, List.length_map, List.length_cons, List.length_nil, List.length_set, List.length_replicate] at c_33 c_36 ⊢; omega)), hK20 _ _ ?_⟩
   refine Wp.seqW fun K21 hK21 hW21 => ?_
   obtain ⟨k_39, hk_39, hm⟩ := jp_elim hm
   have hcut21 : ∀ s, k_39 s = some z → K21 [(17, .p (.s s))] [] := by
    intro s_38 hs
    have hm := hk_39 _ hs
    clear hs
    try dsimp only at hm
    try dsimp only
    refine hK21 _ _ ?_
    obtain ⟨r_40, hr_40, hm⟩ := call_elim hm
    refine Wp.seqR fun K22 hK22 => ?_
    simp only [go_sem, simprocAttr, hv_15, hv_17, hv_20, hv_26, hv_26m, hv_29, hv_31, hv_35]
    try refine ⟨sd, ?_⟩
    refine Rg.callF (av := ?av23) (ok_delta_Parse s_38 _ hr_40) (by simp only [go_sem, simprocAttr, hv_15, hv_17, hv_20, hv_26, hv_26m, hv_29, hv_31, hv_35]; exact Is.mk) (by simp only [go_sem, simprocAttr, hv_15, hv_17, hv_20, hv_26, hv_26m, hv_29, hv_31, hv_35]; exact Is.mk) (by simp only [go_sem, simprocAttr, hv_15, hv_17, hv_20, hv_26, hv_26m, hv_29, hv_31, hv_35]) ?cont23
    intro hv23
    simp only [go_sem, simprocAttr, hv_15, hv_17, hv_20, hv_26, hv_26m, hv_29, hv_31, hv_35]
    first | apply hK22 | refine ⟨sd, hK22 _ _ ?_⟩
    obtain ⟨r_41, hr_41, hm⟩ := call_elim hm
    refine Wp.seqR fun K24 hK24 => ?_
    simp only [go_sem, simprocAttr, hv_15, hv_17, hv_20, hv_26, hv_26m, hv_29, hv_31, hv_35]
    try refine ⟨sd, ?_⟩
    refine Rg.callF (av := ?av25) (ok_R_ParseDelta s_38 _ hr_41) (by simp only [go_sem, simprocAttr, hv_15, hv_17, hv_20, hv_26, hv_26m, hv_29, hv_31, hv_35]; exact Is.mk) (by simp only [go_sem, simprocAttr, hv_15, hv_17, hv_20, hv_26, hv_26m, hv_29, hv_31, hv_35]; exact Is.mk) (by simp only [go_sem, simprocAttr, hv_15, hv_17, hv_20, hv_26, hv_26m, hv_29, hv_31, hv_35]) ?cont25
    intro hv25
    simp only [go_sem, simprocAttr, hv_15, hv_17, hv_20, hv_26, hv_26m, hv_29, hv_31, hv_35]
    first | apply hK24 | refine ⟨sd, hK24 _ _ ?_⟩
    obtain ⟨r_42, hr_42, hm⟩ := callG_elim hm
    refine Wp.seqR fun K26 hK26 => ?_
    simp only [go_sem, simprocAttr, hv_15, hv_17, hv_20, hv_26, hv_26m, hv_29, hv_31, hv_35]
    try refine ⟨sd, ?_⟩
    refine Rg.callX (av := ?av27) (g := decide (r_40.2 = r_41.2)) (fun hg => ok_Law_sameDelta r_40.1 r_41.1 _ (hr_42 hg)) (by simp only [go_sem, simprocAttr, hv_15, hv_17, hv_20, hv_26, hv_26m, hv_29, hv_31, hv_35]; exact Is.mk) (by simp only [go_sem, simprocAttr, hv_15, hv_17, hv_20, hv_26, hv_26m, hv_29, hv_31, hv_35]; exact Is.mk) (by simp only [go_sem, simprocAttr, hv_15, hv_17, hv_20, hv_26, hv_26m, hv_29, hv_31, hv_35]; exact Is.mk) (by simp only [go_sem, simprocAttr, hv_15, hv_17, hv_20, hv_26, hv_26m, hv_29, hv_31, hv_35]) (by simp only [go_sem, simprocAttr, hv_15, hv_17, hv_20, hv_26, hv_26m, hv_29, hv_31, hv_35]; exact Is.mk) ?cont27
    intro hv27
    simp only [go_sem, simprocAttr, hv_15, hv_17, hv_20, hv_26, hv_26m, hv_29, hv_31, hv_35]
    first | apply hK26 | refine ⟨sd, hK26 _ _ ?_⟩
    refine Wp.ret ?_
    refine retQ_ret ?_
    cases hm
    simp only [go_sem, simprocAttr, hv_15, hv_17, hv_20, hv_26, hv_26m, hv_29, hv_31, hv_35]
    try exact se2
   clear hK21 hk_39
   refine Wp.seqR fun K28 hK28 => ?_
   simp only [go_sem, simprocAttr, hv_15, hv_17, hv_20, hv_26, hv_26m, hv_29, hv_31, hv_35]
   first | apply hK28 | refine ⟨sd, hK28 _ _ ?_⟩
   refine cM hm (fun hc29 hm => ?_) (fun hc29 hm => ?_)
   ·obtain ⟨r_43, hr_43, hm⟩ := call_elim hm
    refine Wp.region fun K30 hK30 => ?_
    simp only [go_sem, simprocAttr, hv_15, hv_17, hv_20, hv_26, hv_26m, hv_29, hv_31, hv_35]
    try refine ⟨sd, ?_⟩
    refine Rg.callX (av := ?av31) (g := true) (fun hg => ok_R_Summed (Go.Vc.strOf (List.take v_30.toNat v_25)) _ hr_43) (by simp only [go_sem, simprocAttr, hv_15, hv_17, hv_20, hv_26, hv_26m, hv_29, hv_31, hv_35]; exact Is.mk) (by simp only [go_sem, simprocAttr, hv_15, hv_17, hv_20, hv_26, hv_26m, hv_29, hv_31, hv_35]; exact Is.mk) (by simp only [go_sem, simprocAttr, hv_15, hv_17, hv_20, hv_26, hv_26m, hv_29, hv_31, hv_35]; exact Is.mk) (by simp only [go_sem, simprocAttr, hv_15, hv_17, hv_20, hv_26, hv_26m, hv_29, hv_31, hv_35]) (by simp only [go_sem, simprocAttr, hv_15, hv_17, hv_20, hv_26, hv_26m, hv_29, hv_31, hv_35]; exact Is.mk) ?cont31
    intro hv31
    simp only [go_sem, simprocAttr, hv_15, hv_17, hv_20, hv_26, hv_26m, hv_29, hv_31, hv_35]
    first | apply hK30 | refine ⟨sd, hK30 _ _ ?_⟩
    refine hW21 _ _ _ _ ?_ (hcut21 r_43 hm)
    simp only [go_sem, simprocAttr, hv_15, hv_17, hv_20, hv_26, hv_26m, hv_29, hv_31, hv_35]
    try exact se2
   ·refine Wp.skip ?_
    refine hW21 _ _ _ _ ?_ (hcut21 ((Go.Vc.strOf (List.take v_30.toNat v_25)) ++ v_34) hm)
    simp only [go_sem, simprocAttr, hv_15, hv_17, hv_20, hv_26, hv_26m, hv_29, hv_31, hv_35]
    try exact se2
end Go.Proofs.YthofobeoaimclaaDoor
