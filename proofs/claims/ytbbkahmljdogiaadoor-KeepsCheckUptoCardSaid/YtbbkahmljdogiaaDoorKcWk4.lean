/- That the code does what the models say (part 4). -/
import Derived.Test.YtbbkahmljdogiaaDoorKcWk0
import Derived.Test.YtbbkahmljdogiaaDoorKcWk1
import Derived.Test.YtbbkahmljdogiaaDoorKcWk2
import Derived.Test.YtbbkahmljdogiaaDoorKcWk3
set_option linter.unusedSimpArgs false
set_option linter.unusedVariables false
open Go.Proofs Go.Shelf
namespace Go.Proofs.YtbbkahmljdogiaaDoor
open Go.Vc Go.Md
set_option maxRecDepth 100000
set_option maxHeartbeats 4000000
theorem ok_R_KeepError (k_1 : api_Keep) (z : Int) (hm : R_KeepError k_1 = some z) : Does Tryd.prog 7 [.agg [.p (.l (List.map enc_api_Held k_1.Held))]] [] (fun r X => r = .p (.i .i64 z) ∧ X = []) := by
 unfold R_KeepError at hm
 refine Does.of_wp 0 153 [.tmp 2] Tryd.func7 rfl (by decide) rfl rfl (Nat.le_of_ble_eq_true rfl) fun B => ?_
 refine qS ?_
 refine Wp.seqW fun K2 hK2 hW2 => ?_
 refine qS ?_
 refine cM hm (fun hc4 hm => ?_) (fun hc4 hm => ?_)
 ·refine qS ?_
  refine Wp.ret ?_
  refine retQ_ret ?_
  cases hm
  exact fse2
 ·refine Wp.skip ?_
  refine hK2 _ _ ?_
  refine Wp.seqW fun K6 hK6 hW6 => ?_
  obtain ⟨k_49, hk_49, hm⟩ := jp_elim hm
  have hcut6 : ∀ s, k_49 s = some z → K6 [(1, .ptr 0 0)] [.cells 32 [.p (.l (List.map enc_api_Held k_1.Held))]] := by
   intro s hs
   have hm := hk_49 _ hs
   clear hs
   try dsimp only at hm
   try dsimp only
   refine hK6 _ _ ?_
   refine qS ?_
   refine Wp.seqW fun K8 hK8 hW8 => ?_
   obtain ⟨k_75, hk_75, hm⟩ := jp_elim hm
   have hcut8 : ∀ s, k_75 s = some z → K8 [] [] := by
    intro s hs
    have hm := hk_75 _ hs
    clear hs
    try dsimp only at hm
    try dsimp only
    refine hK8 _ _ ?_
    refine qS ?_
    refine Wp.ret ?_
    refine retQ_ret ?_
    cases hm
    exact fse3
   clear hK8 hk_75
   refine qS ?_
   refine Wp.block ?_
   obtain ⟨k_91, hk_91, hm⟩ := forL_cont hm
   refine Wp.fact 113 fun hl_94 => ?_
   replace hl_94 : k_1.Held.length ≤ 274877906944 := by
    simp only [go_sem, simprocAttr, List.length_map] at hl_94
    omega
   refine Wp.forL (fun i_93 s => [(8, .mp 1), (113, .p (.l (List.map enc_api_Held k_1.Held))), (114, .p (.i .i64 (k_1.Held.length : Int))), (115, .p (.i .i64 (i_93 : Int)))]) (fun i_93 s => [.cells 32 [.p (.l (List.map enc_api_Held k_1.Held))], .mp true (encM kdk_outref1_place enc_api_Held s)]) ?_ hm ?_
   ·
    exact fse3
   clear hm
   intro i_93 m1_84 hii_93 hm
   try dsimp only at hm
   try dsimp only
   refine qS ?_
   refine Wp.seqW fun K12 hK12 hW12 => ?_
   refine Wp.cond rfl ⟨⟩ (fun hc12 => ?_) (fun hc12 => ?_)
   rotate_left
   ·refine Wp.exit ?_
    have hm := hk_91 _ (forL_end hm (ge_nat (by first | exact hc12 | simpa using hc12)))
    try dsimp only at hm
    refine hW8 _ _ _ _ ?_ (hcut8 () hm)
    exact fse3
   have hlt12 := lt_nat (by first | exact hc12 | simpa using hc12)
   have hw12 := wrap_succ hlt12 hl_94
   obtain ⟨h_95, nx_92, hxh_95, hyh_95, hnx_92, hm⟩ := forL_step hm hlt12
   replace hxh_95 := hxh_95 enc_api_Held
   refine Wp.skip ?_
   simp only [thenQ]
   refine hK12 _ _ ?_
   refine Wp.seqW fun K13 hK13 hW13 => ?_
   refine Wp.block ?_
   refine Wp.seqR fun K14 hK14 => ?_
   simp only [go_sem, simprocAttr, hw12, hxh_95]
   first | apply hK14 | refine ⟨sd, hK14 _ _ ?_⟩
   obtain ⟨r_96, hr_96, hm⟩ := call_elim hm
   refine Wp.seqD (plan := pl [(0, none), (1, none), (2, none), (3, none), (4, none), (5, none), (6, some [0, 1, 2, 3, 4, 5]), (7, some [])]) (by kernel_rfl) rfl (by kernel_rfl) fun K15 hK15 => ?_
   simp only [go_sem, simprocAttr, hw12, hxh_95]
   try refine ⟨sd, ?_⟩
   refine Dr.callF (av := ?av16) (g := true) (o := ?o16) (fun hg => ok_R_thingOf h_95.Kind _ hr_96) (by simp only [go_sem, simprocAttr, hw12, hxh_95]; exact Is.mk) (by simp only [go_sem, simprocAttr, hw12, hxh_95]; exact Is.mk) (by simp only [go_sem, simprocAttr, hw12, hxh_95]; exact Is.mk) (by simp only [go_sem, simprocAttr, hw12, hxh_95]; exact Is.mk) (by simp only [go_sem, simprocAttr, hw12, hxh_95]) (by simp only [go_sem, simprocAttr, hw12, hxh_95]; exact Is.mk) ?cont16
   simp only [go_sem, simprocAttr, hw12, hxh_95]
   first | apply hK15 | refine ⟨sd, hK15 _ _ ?_⟩
   refine Wp.seqW fun K17 hK17 hW17 => ?_
   obtain ⟨q_97, hq_98, hm⟩ := letv_elim hm
   have hq_98d := mlookD_enc (e := enc_api_Held) keq_outref1_place m1_84 (outref1_place.mk r_96 h_95.Path) (api_Held.mk [] 0 [] [] [])
   have hq_98s := mlook_some (e := enc_api_Held) keq_outref1_place m1_84 (outref1_place.mk r_96 h_95.Path)
   simp only [kdk_outref1_place, enc_outref1_place, hq_98, enc_api_Held, List.map_nil] at hq_98d hq_98s
   refine Wp.seqR fun K18 hK18 => ?_
   simp only [go_sem, simprocAttr, hw12, hxh_95, hq_98d, hq_98s]
   first | apply hK18 | refine ⟨sd, hK18 _ _ ?_⟩
   refine Wp.seqR fun K19 hK19 => ?_
   simp only [go_sem, simprocAttr, hw12, hxh_95]
   first | apply hK19 | refine ⟨sd, hK19 _ _ ?_⟩
   refine cM hm (fun hc20 hm => ?_) (fun hc20 hm => ?_)
   ·refine Wp.seqR fun K21 hK21 => ?_
    simp only [go_sem, simprocAttr, hw12, hxh_95]
    first | apply hK21 | refine ⟨sd, hK21 _ _ ?_⟩
    refine Wp.ret ?_
    refine retQ_ret ?_
    cases hm
    simp only [go_sem, simprocAttr, hw12, hxh_95]
    try exact se3
   ·refine Wp.skip ?_
    refine hK17 _ _ ?_
    obtain ⟨c_100, hm⟩ := chk_elim hm
    have hp_99 := mset_enc (e := enc_api_Held) keq_outref1_place m1_84 (outref1_place.mk r_96 h_95.Path) h_95
    simp only [kdk_outref1_place, enc_outref1_place, enc_api_Held] at hp_99
    refine Wp.region fun K22 hK22 => ?_
    simp only [go_sem, simprocAttr, hw12, hxh_95, hp_99]
    first | apply hK22 | refine ⟨by first | exact sd | ((repeat' apply And.intro) <;> first | assumption | omega | (simp only [List.length_append, List.length_map, List.length_cons, List.length_nil, List.length_set, List.length_replicate] at c_100 ⊢; omega)), hK22 _ _ ?_⟩
    refine hK13 _ _ ?_
    refine Wp.region fun K23 hK23 => ?_
    simp only [go_sem, simprocAttr, hw12, hxh_95]
    first | apply hK23 | refine ⟨sd, hK23 _ _ ?_⟩
    simp only [thenQ, blockQ, ↓reduceIte]
    refine ⟨aset m1_84 (outref1_place.mk r_96 h_95.Path) h_95, hlt12, hnx_92 _ hm, ?_⟩
    simp only [go_sem, simprocAttr, hw12, hxh_95]
    try exact se3
  clear hK6 hk_49
  refine qS ?_
  refine Wp.block ?_
  obtain ⟨k_123, hk_123, hm⟩ := forL_cont hm
  refine Wp.fact 19 fun hl_126 => ?_
  replace hl_126 : k_1.Held.length ≤ 274877906944 := by
   simp only [go_sem, simprocAttr, List.length_map] at hl_126
   omega
  refine Wp.forL (fun i_125 s => [(1, .ptr 0 0), (19, .p (.l (List.map enc_api_Held k_1.Held))), (20, .p (.i .i64 (k_1.Held.length : Int))), (21, .p (.i .i64 (i_125 : Int)))]) (fun i_125 s => [.cells 32 [.p (.l (List.map enc_api_Held k_1.Held))]]) ?_ hm ?_
  ·
   exact fse3
  clear hm
  intro i_125 s hii_125 hm
  try dsimp only at hm
  try dsimp only
  refine qS ?_
  refine Wp.seqW fun K26 hK26 hW26 => ?_
  refine Wp.cond rfl ⟨⟩ (fun hc26 => ?_) (fun hc26 => ?_)
  rotate_left
  ·refine Wp.exit ?_
   have hm := hk_123 _ (forL_end hm (ge_nat (by first | exact hc26 | simpa using hc26)))
   try dsimp only at hm
   refine hW6 _ _ _ _ ?_ (hcut6 () hm)
   exact fse3
  have hlt26 := lt_nat (by first | exact hc26 | simpa using hc26)
  have hw26 := wrap_succ hlt26 hl_126
  obtain ⟨h_127, nx_124, hxh_127, hyh_127, hnx_124, hm⟩ := forL_step hm hlt26
  replace hxh_127 := hxh_127 enc_api_Held
  refine Wp.skip ?_
  simp only [thenQ]
  refine hK26 _ _ ?_
  refine Wp.seqW fun K27 hK27 hW27 => ?_
  refine Wp.block ?_
  refine Wp.seqR fun K28 hK28 => ?_
  simp only [go_sem, simprocAttr, hw26, hxh_127]
  first | apply hK28 | refine ⟨sd, hK28 _ _ ?_⟩
  obtain ⟨r_128, hr_128, hm⟩ := call_elim hm
  obtain ⟨c_129, hm⟩ := chk_elim hm
  obtain ⟨r_130, hr_130, hm⟩ := callG_elim hm
  obtain ⟨c_131, hm⟩ := chk_elim hm
  obtain ⟨r_132, hr_132, hm⟩ := callG_elim hm
  refine Wp.seqD (plan := pl [(0, none), (1, none), (2, none), (3, none), (4, none), (5, none), (6, none), (7, none), (8, none), (9, none), (10, none), (11, none), (12, none), (13, none), (14, none), (15, none), (16, none), (17, none), (18, none), (19, none), (20, none), (21, none), (22, none), (23, none), (24, none), (25, none), (26, none), (27, none), (28, none), (29, none), (30, none), (31, none), (32, none), (33, none), (34, none), (35, none), (36, none), (37, none)]) (by kernel_rfl) rfl (by kernel_rfl) fun K29 hK29 => ?_
  simp only [go_sem, simprocAttr, hw26, hxh_127]
  try refine ⟨by first | exact sd | ((repeat' apply And.intro) <;> first | assumption | omega | (simp only [List.length_append, List.length_map, List.length_cons, List.length_nil, List.length_set, List.length_replicate] at c_129 c_131 ⊢; omega)), ?_⟩
  refine Dr.callF (av := ?av30) (g := true) (o := ?o30) (fun hg => ok_R_IsSum h_127.Sum _ hr_128) (by simp only [go_sem, simprocAttr, hw26, hxh_127]; exact Is.mk) (by simp only [go_sem, simprocAttr, hw26, hxh_127]; exact Is.mk) (by simp only [go_sem, simprocAttr, hw26, hxh_127]; exact Is.mk) (by simp only [go_sem, simprocAttr, hw26, hxh_127]; exact Is.mk) (by simp only [go_sem, simprocAttr, hw26, hxh_127]) (by simp only [go_sem, simprocAttr, hw26, hxh_127]; exact Is.mk) ?cont30
  simp only [go_sem, simprocAttr, hw26, hxh_127]
  try refine ⟨by first | exact sd | ((repeat' apply And.intro) <;> first | assumption | omega | (simp only [List.length_append, List.length_map, List.length_cons, List.length_nil, List.length_set, List.length_replicate] at c_129 c_131 ⊢; omega)), ?_⟩
  refine Dr.callF (av := ?av31) (g := ((!((!r_128) || ((!decide (h_127.Base = [])) && (!decide (h_127.Kind = 3))))) && (decide (h_127.Kind = 3)))) (o := ?o31) (fun hg => ok_R_SumOf (([114] : Str) ++ h_127.Base) _ (hr_130 hg)) (by simp only [go_sem, simprocAttr, hw26, hxh_127]; exact Is.mk) (by simp only [go_sem, simprocAttr, hw26, hxh_127]; exact Is.mk) (by simp only [go_sem, simprocAttr, hw26, hxh_127]; exact Is.mk) (by simp only [go_sem, simprocAttr, hw26, hxh_127]; exact Is.mk) (by simp only [go_sem, simprocAttr, hw26, hxh_127]) (by simp only [go_sem, simprocAttr, hw26, hxh_127]; exact Is.mk) ?cont31
  simp only [go_sem, simprocAttr, hw26, hxh_127]
  try refine ⟨by first | exact sd | ((repeat' apply And.intro) <;> first | assumption | omega | (simp only [List.length_append, List.length_map, List.length_cons, List.length_nil, List.length_set, List.length_replicate] at c_129 c_131 ⊢; omega)), ?_⟩
  refine Dr.callF (av := ?av32) (g := ((!((!r_128) || ((!decide (h_127.Base = [])) && (!decide (h_127.Kind = 3))))) && ((decide (h_127.Kind = 3)) && (!decide (h_127.Sum = r_130))))) (o := ?o32) (fun hg => ok_R_SumOf (([45] : Str) ++ h_127.Base) _ (hr_132 hg)) (by simp only [go_sem, simprocAttr, hw26, hxh_127]; exact Is.mk) (by simp only [go_sem, simprocAttr, hw26, hxh_127]; exact Is.mk) (by simp only [go_sem, simprocAttr, hw26, hxh_127]; exact Is.mk) (by simp only [go_sem, simprocAttr, hw26, hxh_127]; exact Is.mk) (by simp only [go_sem, simprocAttr, hw26, hxh_127]) (by simp only [go_sem, simprocAttr, hw26, hxh_127]; exact Is.mk) ?cont32
  simp only [go_sem, simprocAttr, hw26, hxh_127]
  first | apply hK29 | refine ⟨by first | exact sd | ((repeat' apply And.intro) <;> first | assumption | omega | (simp only [List.length_append, List.length_map, List.length_cons, List.length_nil, List.length_set, List.length_replicate] at c_129 c_131 ⊢; omega)), hK29 _ _ ?_⟩
  obtain ⟨r_133, hr_133, hm⟩ := call_elim hm
  refine Wp.seqR fun K33 hK33 => ?_
  simp only [go_sem, simprocAttr, hw26, hxh_127]
  try refine ⟨sd, ?_⟩
  refine Rg.callX (av := ?av34) (g := true) (fun hg => ok_R_IsPath h_127.Path _ hr_133) (by simp only [go_sem, simprocAttr, hw26, hxh_127]; exact Is.mk) (by simp only [go_sem, simprocAttr, hw26, hxh_127]; exact Is.mk) (by simp only [go_sem, simprocAttr, hw26, hxh_127]; exact Is.mk) (by simp only [go_sem, simprocAttr, hw26, hxh_127]) (by simp only [go_sem, simprocAttr, hw26, hxh_127]; exact Is.mk) ?cont34
  intro hv34
  simp only [go_sem, simprocAttr, hw26, hxh_127]
  first | apply hK33 | refine ⟨sd, hK33 _ _ ?_⟩
  refine Wp.seqW fun K35 hK35 hW35 => ?_
  obtain ⟨k_136, hk_136, hm⟩ := jp_elim hm
  have hcut35 : ∀ s, k_136 s = some z → K35 [(1, .ptr 0 0), (3, .p (.i .i64 (i_125 : Int))), (4, .ptr 1 0), (5, .p (.b (((!r_128) || ((!decide (h_127.Base = [])) && (!decide (h_127.Kind = 3)))) || (((decide (h_127.Kind = 3)) && (!decide (h_127.Sum = r_130))) && (!decide (h_127.Sum = r_132)))))), (6, .p (.b s)), (19, .p (.l (List.map enc_api_Held k_1.Held))), (20, .p (.i .i64 (k_1.Held.length : Int))), (21, .p (.i .i64 (i_125 : Int)))] [.cells 32 [.p (.l (List.map enc_api_Held k_1.Held))], .cells 44 [.p (.s h_127.Owner), .p (.i .i64 h_127.Kind), .p (.s h_127.Path), .p (.s h_127.Sum), .p (.s h_127.Base)]] := by
   intro named_135 hs
   have hm := hk_136 _ hs
   clear hs
   try dsimp only at hm
   try dsimp only
   refine hK35 _ _ ?_
   obtain ⟨r_137, hr_137, hm⟩ := call_elim hm
   obtain ⟨r_138, hr_138, hm⟩ := call_elim hm
   obtain ⟨r_139, hr_139, hm⟩ := call_elim hm
   obtain ⟨r_140, hr_140, hm⟩ := call_elim hm
   obtain ⟨r_141, hr_141, hm⟩ := call_elim hm
   obtain ⟨c_142, hm⟩ := chk_elim hm
   obtain ⟨r_143, hr_143, hm⟩ := callG_elim hm
   obtain ⟨r_144, hr_144, hm⟩ := call_elim hm
   obtain ⟨r_145, hr_145, hm⟩ := call_elim hm
   have hr_146 := getD_enc (l := k_1.Held) (e := enc_api_Held) (d := (api_Held.mk [] 0 [] [] [])) (i := (IntKind.i64.wrap ((i_125 : Int) - 1)).toNat)
   simp only [enc_api_Held, List.map_nil] at hr_146
   refine Wp.seqD (plan := pl [(0, none), (1, none), (2, none), (3, none), (4, none), (5, none), (6, none), (7, none), (8, none), (9, none), (10, none), (11, none), (12, none), (13, none), (14, none), (15, none), (16, none), (17, none), (18, none), (19, none), (20, none), (21, none), (22, none), (23, none), (24, none), (25, none), (26, none), (27, none), (28, none), (29, none), (30, none), (31, none), (32, none), (33, some []), (34, none), (35, none)]) (by kernel_rfl) rfl (by kernel_rfl) fun K36 hK36 => ?_
   simp only [go_sem, simprocAttr, hw26, hxh_127, hr_146]
   try refine ⟨by first | exact sd | ((repeat' apply And.intro) <;> first | assumption | omega | (simp only [List.length_append, List.length_map, List.length_cons, List.length_nil, List.length_set, List.length_replicate] at c_142 ⊢; omega)), ?_⟩
   refine Dr.callF (av := ?av37) (g := true) (o := ?o37) (fun hg => ok_R_IsName h_127.Owner _ hr_137) (by simp only [go_sem, simprocAttr, hw26, hxh_127, hr_146]; exact Is.mk) (by simp only [go_sem, simprocAttr, hw26, hxh_127, hr_146]; exact Is.mk) (by simp only [go_sem, simprocAttr, hw26, hxh_127, hr_146]; exact Is.mk) (by simp only [go_sem, simprocAttr, hw26, hxh_127, hr_146]; exact Is.mk) (by simp only [go_sem, simprocAttr, hw26, hxh_127, hr_146]) (by simp only [go_sem, simprocAttr, hw26, hxh_127, hr_146]; exact Is.mk) ?cont37
   simp only [go_sem, simprocAttr, hw26, hxh_127, hr_146]
   try refine ⟨by first | exact sd | ((repeat' apply And.intro) <;> first | assumption | omega | (simp only [List.length_append, List.length_map, List.length_cons, List.length_nil, List.length_set, List.length_replicate] at c_142 ⊢; omega)), ?_⟩
   refine Dr.callF (av := ?av38) (g := true) (o := ?o38) (fun hg => ok_R_when (!r_137) 5 _ hr_138) (by simp only [go_sem, simprocAttr, hw26, hxh_127, hr_146]; exact Is.mk) (by simp only [go_sem, simprocAttr, hw26, hxh_127, hr_146]; exact Is.mk) (by simp only [go_sem, simprocAttr, hw26, hxh_127, hr_146]; exact Is.mk) (by simp only [go_sem, simprocAttr, hw26, hxh_127, hr_146]; exact Is.mk) (by simp only [go_sem, simprocAttr, hw26, hxh_127, hr_146]) (by simp only [go_sem, simprocAttr, hw26, hxh_127, hr_146]; exact Is.mk) ?cont38
   simp only [go_sem, simprocAttr, hw26, hxh_127, hr_146]
   try refine ⟨by first | exact sd | ((repeat' apply And.intro) <;> first | assumption | omega | (simp only [List.length_append, List.length_map, List.length_cons, List.length_nil, List.length_set, List.length_replicate] at c_142 ⊢; omega)), ?_⟩
   refine Dr.callF (av := ?av39) (g := true) (o := ?o39) (fun hg => ok_R_when ((decide (h_127.Kind < 1)) || (decide (6 < h_127.Kind))) 1 _ hr_139) (by simp only [go_sem, simprocAttr, hw26, hxh_127, hr_146]; exact Is.mk) (by simp only [go_sem, simprocAttr, hw26, hxh_127, hr_146]; exact Is.mk) (by simp only [go_sem, simprocAttr, hw26, hxh_127, hr_146]; exact Is.mk) (by simp only [go_sem, simprocAttr, hw26, hxh_127, hr_146]; exact Is.mk) (by simp only [go_sem, simprocAttr, hw26, hxh_127, hr_146]) (by simp only [go_sem, simprocAttr, hw26, hxh_127, hr_146]; exact Is.mk) ?cont39
   simp only [go_sem, simprocAttr, hw26, hxh_127, hr_146]
   try refine ⟨by first | exact sd | ((repeat' apply And.intro) <;> first | assumption | omega | (simp only [List.length_append, List.length_map, List.length_cons, List.length_nil, List.length_set, List.length_replicate] at c_142 ⊢; omega)), ?_⟩
   refine Dr.callF (av := ?av40) (g := true) (o := ?o40) (fun hg => ok_R_when (!named_135) 5 _ hr_140) (by simp only [go_sem, simprocAttr, hw26, hxh_127, hr_146]; exact Is.mk) (by simp only [go_sem, simprocAttr, hw26, hxh_127, hr_146]; exact Is.mk) (by simp only [go_sem, simprocAttr, hw26, hxh_127, hr_146]; exact Is.mk) (by simp only [go_sem, simprocAttr, hw26, hxh_127, hr_146]; exact Is.mk) (by simp only [go_sem, simprocAttr, hw26, hxh_127, hr_146]) (by simp only [go_sem, simprocAttr, hw26, hxh_127, hr_146]; exact Is.mk) ?cont40
   simp only [go_sem, simprocAttr, hw26, hxh_127, hr_146]
   try refine ⟨by first | exact sd | ((repeat' apply And.intro) <;> first | assumption | omega | (simp only [List.length_append, List.length_map, List.length_cons, List.length_nil, List.length_set, List.length_replicate] at c_142 ⊢; omega)), ?_⟩
   refine Dr.callF (av := ?av41) (g := true) (o := ?o41) (fun hg => ok_R_when (((!r_128) || ((!decide (h_127.Base = [])) && (!decide (h_127.Kind = 3)))) || (((decide (h_127.Kind = 3)) && (!decide (h_127.Sum = r_130))) && (!decide (h_127.Sum = r_132)))) 2 _ hr_141) (by simp only [go_sem, simprocAttr, hw26, hxh_127, hr_146]; exact Is.mk) (by simp only [go_sem, simprocAttr, hw26, hxh_127, hr_146]; exact Is.mk) (by simp only [go_sem, simprocAttr, hw26, hxh_127, hr_146]; exact Is.mk) (by simp only [go_sem, simprocAttr, hw26, hxh_127, hr_146]; exact Is.mk) (by simp only [go_sem, simprocAttr, hw26, hxh_127, hr_146]) (by simp only [go_sem, simprocAttr, hw26, hxh_127, hr_146]; exact Is.mk) ?cont41
   simp only [go_sem, simprocAttr, hw26, hxh_127, hr_146]
   try refine ⟨by first | exact sd | ((repeat' apply And.intro) <;> first | assumption | omega | (simp only [List.length_append, List.length_map, List.length_cons, List.length_nil, List.length_set, List.length_replicate] at c_142 ⊢; omega)), ?_⟩
   refine Dr.callF (av := ?av42) (g := decide (0 < (i_125 : Int))) (o := ?o42) (fun hg => ok_R_heldOrder (api_Held.mk ((k_1.Held.getD ((IntKind.i64.wrap ((i_125 : Int) - 1)).toNat) (api_Held.mk [] 0 [] [] [])).Owner) ((k_1.Held.getD ((IntKind.i64.wrap ((i_125 : Int) - 1)).toNat) (api_Held.mk [] 0 [] [] [])).Kind) ((k_1.Held.getD ((IntKind.i64.wrap ((i_125 : Int) - 1)).toNat) (api_Held.mk [] 0 [] [] [])).Path) ((k_1.Held.getD ((IntKind.i64.wrap ((i_125 : Int) - 1)).toNat) (api_Held.mk [] 0 [] [] [])).Sum) ((k_1.Held.getD ((IntKind.i64.wrap ((i_125 : Int) - 1)).toNat) (api_Held.mk [] 0 [] [] [])).Base)) h_127 _ (hr_143 hg)) (by simp only [go_sem, simprocAttr, hw26, hxh_127, hr_146]; exact Is.mk) (by simp only [go_sem, simprocAttr, hw26, hxh_127, hr_146]; exact Is.mk) (by simp only [go_sem, simprocAttr, hw26, hxh_127, hr_146]; exact Is.mk) (by simp only [go_sem, simprocAttr, hw26, hxh_127, hr_146]; exact Is.mk) (by simp only [go_sem, simprocAttr, hw26, hxh_127, hr_146]) (by simp only [go_sem, simprocAttr, hw26, hxh_127, hr_146]; exact Is.mk) ?cont42
   simp only [go_sem, simprocAttr, hw26, hxh_127, hr_146]
   try refine ⟨by first | exact sd | ((repeat' apply And.intro) <;> first | assumption | omega | (simp only [List.length_append, List.length_map, List.length_cons, List.length_nil, List.length_set, List.length_replicate] at c_142 ⊢; omega)), ?_⟩
   refine Dr.callF (av := ?av43) (g := true) (o := ?o43) (fun hg => ok_R_when ((decide (0 < (i_125 : Int))) && (decide (0 ≤ r_143))) 7 _ hr_144) (by simp only [go_sem, simprocAttr, hw26, hxh_127, hr_146]; exact Is.mk) (by simp only [go_sem, simprocAttr, hw26, hxh_127, hr_146]; exact Is.mk) (by simp only [go_sem, simprocAttr, hw26, hxh_127, hr_146]; exact Is.mk) (by simp only [go_sem, simprocAttr, hw26, hxh_127, hr_146]; exact Is.mk) (by simp only [go_sem, simprocAttr, hw26, hxh_127, hr_146]) (by simp only [go_sem, simprocAttr, hw26, hxh_127, hr_146]; exact Is.mk) ?cont43
   simp only [go_sem, simprocAttr, hw26, hxh_127, hr_146]
   try refine ⟨by first | exact sd | ((repeat' apply And.intro) <;> first | assumption | omega | (simp only [List.length_append, List.length_map, List.length_cons, List.length_nil, List.length_set, List.length_replicate] at c_142 ⊢; omega)), ?_⟩
   refine Dr.callF (av := ?av44) (g := true) (o := ?o44) (fun hg => ok_R_first [r_138, r_139, r_140, r_141, r_144] _ hr_145) (by simp only [go_sem, simprocAttr, hw26, hxh_127, hr_146]; exact Is.mk) (by simp only [go_sem, simprocAttr, hw26, hxh_127, hr_146]; exact Is.mk) (by simp only [go_sem, simprocAttr, hw26, hxh_127, hr_146]; exact Is.mk) (by simp only [go_sem, simprocAttr, hw26, hxh_127, hr_146]; exact Is.mk) (by simp only [go_sem, simprocAttr, hw26, hxh_127, hr_146]) (by simp only [go_sem, simprocAttr, hw26, hxh_127, hr_146]; exact Is.mk) ?cont44
   simp only [go_sem, simprocAttr, hw26, hxh_127, hr_146]
   first | apply hK36 | refine ⟨by first | exact sd | ((repeat' apply And.intro) <;> first | assumption | omega | (simp only [List.length_append, List.length_map, List.length_cons, List.length_nil, List.length_set, List.length_replicate] at c_142 ⊢; omega)), hK36 _ _ ?_⟩
   refine Wp.seqR fun K45 hK45 => ?_
   simp only [go_sem, simprocAttr, hw26, hxh_127]
   first | apply hK45 | refine ⟨sd, hK45 _ _ ?_⟩
   refine cM hm (fun hc46 hm => ?_) (fun hc46 hm => ?_)
   ·refine Wp.seqR fun K47 hK47 => ?_
    simp only [go_sem, simprocAttr, hw26, hxh_127]
    first | apply hK47 | refine ⟨sd, hK47 _ _ ?_⟩
    refine Wp.ret ?_
    refine retQ_ret ?_
    cases hm
    simp only [go_sem, simprocAttr, hw26, hxh_127]
    try exact se3
   ·refine Wp.skip ?_
    refine hK27 _ _ ?_
    refine Wp.region fun K48 hK48 => ?_
    simp only [go_sem, simprocAttr, hw26, hxh_127]
    first | apply hK48 | refine ⟨sd, hK48 _ _ ?_⟩
    simp only [thenQ, blockQ, ↓reduceIte]
    refine ⟨(), hlt26, hnx_124 _ hm, ?_⟩
    simp only [go_sem, simprocAttr, hw26, hxh_127]
    try exact se3
  clear hK35 hk_136
  refine Wp.seqR fun K49 hK49 => ?_
  simp only [go_sem, simprocAttr, hw26, hxh_127]
  first | apply hK49 | refine ⟨sd, hK49 _ _ ?_⟩
  refine cM hm (fun hc50 hm => ?_) (fun hc50 hm => ?_)
  ·obtain ⟨r_147, hr_147, hm⟩ := call_elim hm
   refine Wp.region fun K51 hK51 => ?_
   simp only [go_sem, simprocAttr, hw26, hxh_127]
   try refine ⟨sd, ?_⟩
   refine Rg.callX (av := ?av52) (g := true) (fun hg => ok_R_IsName h_127.Path _ hr_147) (by simp only [go_sem, simprocAttr, hw26, hxh_127]; exact Is.mk) (by simp only [go_sem, simprocAttr, hw26, hxh_127]; exact Is.mk) (by simp only [go_sem, simprocAttr, hw26, hxh_127]; exact Is.mk) (by simp only [go_sem, simprocAttr, hw26, hxh_127]) (by simp only [go_sem, simprocAttr, hw26, hxh_127]; exact Is.mk) ?cont52
   intro hv52
   simp only [go_sem, simprocAttr, hw26, hxh_127]
   first | apply hK51 | refine ⟨sd, hK51 _ _ ?_⟩
   refine hW35 _ _ _ _ ?_ (hcut35 r_147 hm)
   simp only [go_sem, simprocAttr, hw26, hxh_127]
   try exact se3
  ·refine Wp.skip ?_
   refine hW35 _ _ _ _ ?_ (hcut35 r_133 hm)
   simp only [go_sem, simprocAttr, hw26, hxh_127]
   try exact se3
theorem ok_keep_isKind (kind_1 : Int) (z : Bool) (hm : keep_isKind kind_1 = some z) : Does Tryd.prog 25 [.p (.i .i64 kind_1)] [] (fun r X => r = .p (.b z) ∧ X = []) := by
 unfold keep_isKind at hm
 refine Does.of_wp 0 9 [.tmp 2] Tryd.func25 rfl (by decide) rfl rfl (Nat.le_of_ble_eq_true rfl) fun B => ?_
 refine qS ?_
 refine qS ?_
 refine Wp.ret ?_
 refine retQ_ret ?_
 cases hm
 exact fse3
theorem ok_keep_isSum (s_1 : Str) (z : Bool) (hm : keep_isSum s_1 = some z) : Does Tryd.prog 49 [.p (.s s_1)] [] (fun r X => r = .p (.b z) ∧ X = []) := by
 unfold keep_isSum at hm
 refine Does.of_wp 0 36 [.tmp 2] Tryd.func49 rfl (by decide) rfl rfl (Nat.le_of_ble_eq_true rfl) fun B => ?_
 refine qS ?_
 refine Wp.seqW fun K2 hK2 hW2 => ?_
 obtain ⟨k_9, hk_9, hm⟩ := jp_elim hm
 have hcut2 : ∀ s, k_9 s = some z → K2 [(0, .p (.s s_1))] [] := by
  intro s hs
  have hm := hk_9 _ hs
  clear hs
  try dsimp only at hm
  try dsimp only
  refine hK2 _ _ ?_
  refine qS ?_
  refine Wp.ret ?_
  refine retQ_ret ?_
  cases hm
  exact fse3
 clear hK2 hk_9
 refine qS ?_
 refine Wp.block ?_
 obtain ⟨k_12, hk_12, hm⟩ := forL_cont hm
 refine Wp.fact 0 fun hl_15 => ?_
 replace hl_15 : s_1.length ≤ 274877906944 := by
  simp only [go_sem, simprocAttr, List.length_map] at hl_15
  omega
 refine Wp.forL (fun i_14 s => [(0, .p (.s s_1)), (3, .p (.i .i64 (i_14 : Int)))]) (fun i_14 s => []) ?_ hm ?_
 ·
  exact fse3
 clear hm
 intro i_14 s hii_14 hm
 try dsimp only at hm
 try dsimp only
 refine Wp.seqW fun K5 hK5 hW5 => ?_
 refine qS ?_
 refine Wp.cond rfl ⟨⟩ (fun hc5 => ?_) (fun hc5 => ?_)
 rotate_left
 ·refine Wp.exit ?_
  have hm := hk_12 _ (forL_end hm (ge_nat (by first | exact hc5 | simpa using hc5)))
  try dsimp only at hm
  refine hW2 _ _ _ _ ?_ (hcut2 () hm)
  exact fse3
 have hlt5 := lt_nat (by first | exact hc5 | simpa using hc5)
 have hw5 := wrap_succ hlt5 hl_15
 obtain ⟨c_16, nx_13, hxc_16, hyc_16, hnx_13, hm⟩ := forL_step hm hlt5
 clear hxc_16
 refine Wp.skip ?_
 simp only [thenQ]
 refine hK5 _ _ ?_
 refine Wp.seqW fun K7 hK7 hW7 => ?_
 refine Wp.block ?_
 refine Wp.seqR fun K8 hK8 => ?_
 simp only [go_sem, simprocAttr, hw5, hyc_16]
 first | apply hK8 | refine ⟨sd, hK8 _ _ ?_⟩
 refine cM hm (fun hc9 hm => ?_) (fun hc9 hm => ?_)
 ·refine Wp.seqR fun K10 hK10 => ?_
  simp only [go_sem, simprocAttr, hw5, hyc_16]
  first | apply hK10 | refine ⟨sd, hK10 _ _ ?_⟩
  refine Wp.ret ?_
  refine retQ_ret ?_
  cases hm
  simp only [go_sem, simprocAttr, hw5, hyc_16]
  try exact se3
 ·refine Wp.skip ?_
  refine hK7 _ _ ?_
  refine Wp.region fun K11 hK11 => ?_
  simp only [go_sem, simprocAttr, hw5, hyc_16]
  first | apply hK11 | refine ⟨sd, hK11 _ _ ?_⟩
  simp only [thenQ, blockQ, ↓reduceIte]
  refine ⟨(), hlt5, hnx_13 _ hm, ?_⟩
  simp only [go_sem, simprocAttr, hw5, hyc_16]
  try exact se3
theorem ok_disk_SumOf (text_1 : Str) (z : Str) (hm : disk_SumOf text_1 = some z) : Does Tryd.prog 50 [.p (.s text_1)] [] (fun r X => r = .p (.s z) ∧ X = []) := by
 unfold disk_SumOf at hm
 refine Does.of_wp 0 39 [.tmp 2] Tryd.func50 rfl (by decide) rfl rfl (Nat.le_of_ble_eq_true rfl) fun B => ?_
 refine qS ?_
 refine qS ?_
 refine Wp.seqW fun K3 hK3 hW3 => ?_
 obtain ⟨k_11, hk_11, hm⟩ := jp_elim hm
 have hcut3 : ∀ s, k_11 s = some z → K3 [(3, .p (.i .u64 s))] [] := by
  intro n_10 hs
  have hm := hk_11 _ hs
  clear hs
  try dsimp only at hm
  try dsimp only
  refine hK3 _ _ ?_
  refine qS ?_
  refine Wp.seqW fun K5 hK5 hW5 => ?_
  obtain ⟨k_27, hk_27, hm⟩ := jp_elim hm
  have hcut5 : ∀ s, k_27 s = some z → K5 [(5, .buf 0)] [.buf 5 1 (List.map ecI_u8 s)] := by
   intro o0_26 hs
   have hm := hk_27 _ hs
   clear hs
   try dsimp only at hm
   try dsimp only
   refine hK5 _ _ ?_
   refine qS ?_
   refine Wp.ret ?_
   refine retQ_ret ?_
   cases hm
   exact fse3
  clear hK5 hk_27
  refine qS ?_
  refine Wp.block ?_
  obtain ⟨k_37, hk_37, hm⟩ := loopN_cont hm
  refine Wp.loopN (fun s => [(3, .p (.i .u64 n_10)), (5, .buf 0), (22, .p (.i .i64 ((List.replicate 16 0).length : Int))), (23, .p (.i .i64 s.1))]) (fun s => [.buf 5 1 (List.map ecI_u8 s.2)]) ?_ hm ?_
  ·
   exact fse3
  clear hm
  intro s nx_38 hm
  obtain ⟨t23_32, o0_33⟩ := s
  try dsimp only at hm
  try dsimp only
  refine qS ?_
  refine Wp.seqW fun K9 hK9 hW9 => ?_
  refine cM hm (fun hc10 hm => ?_) (fun hc10 hm => ?_)
  ·refine Wp.skip ?_
   refine hK9 _ _ ?_
   refine Wp.seqW fun K11 hK11 hW11 => ?_
   refine Wp.block ?_
   refine qS ?_
   obtain ⟨c_39, hm⟩ := chk_elim hm
   obtain ⟨c_40, hbc_40, hxc_40, hm⟩ := idxS_elim hm
   replace hxc_40 : ((([48, 49, 50, 51, 52, 53, 54, 55, 56, 57, 97, 98, 99, 100, 101, 102] : Str).getD ((bitsI .and .u64 (Int.fdiv n_10 (2 ^ (shI .u64 (IntKind.i64.wrap (60 - (IntKind.i64.wrap (4 * t23_32))))))) 15).toNat) 0).toNat : Int) = c_40 := hxc_40
   obtain ⟨c_41, hm⟩ := chk_elim hm
   refine Wp.region fun K13 hK13 => ?_
   simp only [go_sem, simprocAttr, hxc_40]
   first | apply hK13 | refine ⟨by first | exact sd | ((repeat' apply And.intro) <;> first | assumption | omega | (simp only [List.length_append, List.length_map, List.length_cons, List.length_nil, List.length_set, List.length_replicate] at c_39 c_41 ⊢; omega)), hK13 _ _ ?_⟩
   refine hK11 _ _ ?_
   refine Wp.region fun K14 hK14 => ?_
   simp only [go_sem, simprocAttr, hxc_40]
   first | apply hK14 | refine ⟨sd, hK14 _ _ ?_⟩
   simp only [thenQ, blockQ, ↓reduceIte]
   refine ⟨(IntKind.i64.wrap (t23_32 + 1), List.set o0_33 t23_32.toNat c_40), hm, ?_⟩
   simp only [go_sem, simprocAttr, hxc_40]
   try exact se3
  ·refine Wp.exit ?_
   simp only [thenQ, blockQ, ↓reduceIte]
   have hm := hk_37 _ hm
   try dsimp only at hm
   refine hW5 _ _ _ _ ?_ (hcut5 o0_33 hm)
   exact fse3
 clear hK3 hk_11
 refine qS ?_
 refine Wp.block ?_
 obtain ⟨k_45, hk_45, hm⟩ := forL_cont hm
 refine Wp.fact 0 fun hl_48 => ?_
 replace hl_48 : text_1.length ≤ 274877906944 := by
  simp only [go_sem, simprocAttr, List.length_map] at hl_48
  omega
 refine Wp.forL (fun i_47 s => [(0, .p (.s text_1)), (3, .p (.i .u64 s)), (4, .p (.i .i64 (i_47 : Int)))]) (fun i_47 s => []) ?_ hm ?_
 ·
  exact fse3
 clear hm
 intro i_47 n_42 hii_47 hm
 try dsimp only at hm
 try dsimp only
 refine Wp.seqW fun K16 hK16 hW16 => ?_
 refine qS ?_
 refine Wp.cond rfl ⟨⟩ (fun hc16 => ?_) (fun hc16 => ?_)
 rotate_left
 ·refine Wp.exit ?_
  have hm := hk_45 _ (forL_end hm (ge_nat (by first | exact hc16 | simpa using hc16)))
  try dsimp only at hm
  refine hW3 _ _ _ _ ?_ (hcut3 n_42 hm)
  exact fse3
 have hlt16 := lt_nat (by first | exact hc16 | simpa using hc16)
 have hw16 := wrap_succ hlt16 hl_48
 obtain ⟨c_49, nx_46, hxc_49, hyc_49, hnx_46, hm⟩ := forL_step hm hlt16
 clear hxc_49
 refine Wp.skip ?_
 simp only [thenQ]
 refine hK16 _ _ ?_
 refine Wp.seqW fun K18 hK18 hW18 => ?_
 refine Wp.block ?_
 refine Wp.region fun K19 hK19 => ?_
 simp only [go_sem, simprocAttr, hw16, hyc_49]
 first | apply hK19 | refine ⟨sd, hK19 _ _ ?_⟩
 refine hK18 _ _ ?_
 refine Wp.region fun K20 hK20 => ?_
 simp only [go_sem, simprocAttr, hw16, hyc_49]
 first | apply hK20 | refine ⟨sd, hK20 _ _ ?_⟩
 simp only [thenQ, blockQ, ↓reduceIte]
 refine ⟨IntKind.u64.wrap ((bitsI .xor .u64 n_42 (IntKind.u64.wrap (c_49.toNat : Int))) * 1099511628211), hlt16, hnx_46 _ hm, ?_⟩
 simp only [go_sem, simprocAttr, hw16, hyc_49]
 try exact se3
theorem ok_keep_heldFault (h_1 : api_Held) (z : Int) (hm : keep_heldFault h_1 = some z) : Does Tryd.prog 30 [.agg [.p (.s h_1.Owner), .p (.i .i64 h_1.Kind), .p (.s h_1.Path), .p (.s h_1.Sum), .p (.s h_1.Base)]] [] (fun r X => r = .p (.i .i64 z) ∧ X = []) := by
 unfold keep_heldFault at hm
 refine Does.of_wp 0 71 [.tmp 2] Tryd.func30 rfl (by decide) rfl rfl (Nat.le_of_ble_eq_true rfl) fun B => ?_
 refine qS ?_
 refine Wp.seqW fun K2 hK2 hW2 => ?_
 refine Wp.block ?_
 obtain ⟨r_2, hr_2, hm⟩ := call_elim hm
 refine Wp.seqR fun K3 hK3 => ?_
 simp only [go_sem, simprocAttr]
 try refine ⟨sd, ?_⟩
 refine Rg.callX (av := ?av4) (g := true) (fun hg => ok_ver_IsName h_1.Owner _ hr_2) si si si sg si ?cont4
 intro hv4
 simp only [go_sem, simprocAttr]
 first | apply hK3 | refine ⟨sd, hK3 _ _ ?_⟩
 refine cM hm (fun hc5 hm => ?_) (fun hc5 hm => ?_)
 ·refine qS ?_
  refine Wp.ret ?_
  refine retQ_ret ?_
  cases hm
  exact fse3
 ·obtain ⟨r_3, hr_3, hm⟩ := call_elim hm
  refine Wp.seqR fun K7 hK7 => ?_
  simp only [go_sem, simprocAttr]
  try refine ⟨sd, ?_⟩
  refine Rg.callX (av := ?av8) (g := true) (fun hg => ok_keep_isKind h_1.Kind _ hr_3) si si si sg si ?cont8
  intro hv8
  simp only [go_sem, simprocAttr]
  first | apply hK7 | refine ⟨sd, hK7 _ _ ?_⟩
  refine cM hm (fun hc9 hm => ?_) (fun hc9 hm => ?_)
  ·refine qS ?_
   refine Wp.ret ?_
   refine retQ_ret ?_
   cases hm
   exact fse3
  ·obtain ⟨r_4, hr_4, hm⟩ := callG_elim hm
   obtain ⟨r_5, hr_5, hm⟩ := callG_elim hm
   refine Wp.seqR fun K11 hK11 => ?_
   simp only [go_sem, simprocAttr]
   try refine ⟨sd, ?_⟩
   refine Rg.callX (av := ?av12) (g := decide (h_1.Kind = 6)) (fun hg => ok_ver_IsName h_1.Path _ (hr_4 hg)) si si si sg si ?cont12
   intro hv12
   simp only [go_sem, simprocAttr]
   try refine ⟨sd, ?_⟩
   refine Rg.callX (av := ?av13) (g := ((!((decide (h_1.Kind = 6)) && (!r_4))) && (!decide (h_1.Kind = 6)))) (fun hg => ok_ver_IsPath h_1.Path _ (hr_5 hg)) si si si sg si ?cont13
   intro hv13
   simp only [go_sem, simprocAttr]
   first | apply hK11 | refine ⟨sd, hK11 _ _ ?_⟩
   refine cM hm (fun hc14 hm => ?_) (fun hc14 hm => ?_)
   ·refine qS ?_
    refine Wp.ret ?_
    refine retQ_ret ?_
    cases hm
    exact fse3
   ·obtain ⟨r_6, hr_6, hm⟩ := call_elim hm
    refine Wp.seqR fun K16 hK16 => ?_
    simp only [go_sem, simprocAttr]
    try refine ⟨sd, ?_⟩
    refine Rg.callX (av := ?av17) (g := true) (fun hg => ok_keep_isSum h_1.Sum _ hr_6) si si si sg si ?cont17
    intro hv17
    simp only [go_sem, simprocAttr]
    first | apply hK16 | refine ⟨sd, hK16 _ _ ?_⟩
    refine cM hm (fun hc18 hm => ?_) (fun hc18 hm => ?_)
    ·refine qS ?_
     refine Wp.ret ?_
     refine retQ_ret ?_
     cases hm
     exact fse3
    ·obtain ⟨c_7, hm⟩ := chk_elim hm
     obtain ⟨r_8, hr_8, hm⟩ := callG_elim hm
     obtain ⟨c_9, hm⟩ := chk_elim hm
     obtain ⟨r_10, hr_10, hm⟩ := callG_elim hm
     refine Wp.seqD (plan := pl [(0, none), (1, none), (2, none), (3, none), (4, none), (5, none), (6, none), (7, none), (8, none), (9, none), (10, none), (11, none), (12, none), (13, none), (14, none), (15, none), (16, none), (17, none), (18, none), (19, none), (20, none), (21, none)]) (by kernel_rfl) rfl (by kernel_rfl) fun K20 hK20 => ?_
     simp only [go_sem, simprocAttr]
     try refine ⟨by first | exact sd | ((repeat' apply And.intro) <;> first | assumption | omega | (simp only [List.length_append, List.length_map, List.length_cons, List.length_nil, List.length_set, List.length_replicate] at c_7 c_9 ⊢; omega)), ?_⟩
     refine Dr.callF (av := ?av21) (g := decide (h_1.Kind = 3)) (o := ?o21) (fun hg => ok_disk_SumOf (([114] : Str) ++ h_1.Base) _ (hr_8 hg)) si si si si sg si ?cont21
     simp only [go_sem, simprocAttr]
     try refine ⟨by first | exact sd | ((repeat' apply And.intro) <;> first | assumption | omega | (simp only [List.length_append, List.length_map, List.length_cons, List.length_nil, List.length_set, List.length_replicate] at c_7 c_9 ⊢; omega)), ?_⟩
     refine Dr.callF (av := ?av22) (g := ((decide (h_1.Kind = 3)) && (!decide (h_1.Sum = r_8)))) (o := ?o22) (fun hg => ok_disk_SumOf (([45] : Str) ++ h_1.Base) _ (hr_10 hg)) si si si si sg si ?cont22
     simp only [go_sem, simprocAttr]
     first | apply hK20 | refine ⟨by first | exact sd | ((repeat' apply And.intro) <;> first | assumption | omega | (simp only [List.length_append, List.length_map, List.length_cons, List.length_nil, List.length_set, List.length_replicate] at c_7 c_9 ⊢; omega)), hK20 _ _ ?_⟩
     refine cM hm (fun hc23 hm => ?_) (fun hc23 hm => ?_)
     ·refine qS ?_
      refine Wp.ret ?_
      refine retQ_ret ?_
      cases hm
      exact fse3
     ·refine Wp.skip ?_
      refine hK2 _ _ ?_
      refine qS ?_
      refine Wp.ret ?_
      refine retQ_ret ?_
      cases hm
      exact fse3
theorem ok_keep_thingOf (kind_1 : Int) (z : Int) (hm : keep_thingOf kind_1 = some z) : Does Tryd.prog 28 [.p (.i .i64 kind_1)] [] (fun r X => r = .p (.i .i64 z) ∧ X = []) := by
 unfold keep_thingOf at hm
 refine Does.of_wp 0 8 [.tmp 2] Tryd.func28 rfl (by decide) rfl rfl (Nat.le_of_ble_eq_true rfl) fun B => ?_
 refine qS ?_
 refine Wp.seqW fun K2 hK2 hW2 => ?_
 refine qS ?_
 refine Wp.block ?_
 refine qS ?_
 refine cM hm (fun hc5 hm => ?_) (fun hc5 hm => ?_)
 ·refine qS ?_
  refine Wp.ret ?_
  refine retQ_ret ?_
  cases hm
  exact fse4
 ·refine qS ?_
  refine cM hm (fun hc8 hm => ?_) (fun hc8 hm => ?_)
  ·refine qS ?_
   refine Wp.ret ?_
   refine retQ_ret ?_
   cases hm
   exact fse4
  ·refine Wp.skip ?_
   refine hK2 _ _ ?_
   refine qS ?_
   refine Wp.ret ?_
   refine retQ_ret ?_
   cases hm
   exact fse4
theorem ok_keep_heldPlace (h_1 : api_Held) (z : keep_place) (hm : keep_heldPlace h_1 = some z) : Does Tryd.prog 27 [.agg [.p (.s h_1.Owner), .p (.i .i64 h_1.Kind), .p (.s h_1.Path), .p (.s h_1.Sum), .p (.s h_1.Base)]] [] (fun r X => r = .agg [.p (.i .i64 z.thing), .p (.s z.path)] ∧ X = []) := by
 unfold keep_heldPlace at hm
 refine Does.of_wp 0 9 [.cell 2 62] Tryd.func27 rfl (by decide) rfl rfl (Nat.le_of_ble_eq_true rfl) fun B => ?_
 refine qS ?_
 obtain ⟨r_2, hr_2, hm⟩ := call_elim hm
 refine Wp.seqD (plan := pl [(0, none), (1, none), (2, none), (3, none), (4, none), (5, none), (6, some [])]) (by kernel_rfl) rfl (by kernel_rfl) fun K2 hK2 => ?_
 simp only [go_sem, simprocAttr]
 try refine ⟨sd, ?_⟩
 refine Dr.callF (av := ?av3) (g := true) (o := ?o3) (fun hg => ok_keep_thingOf h_1.Kind _ hr_2) si si si si sg si ?cont3
 simp only [go_sem, simprocAttr]
 first | apply hK2 | refine ⟨sd, hK2 _ _ ?_⟩
 refine Wp.ret ?_
 refine retQ_ret ?_
 cases hm
 exact fse4
theorem ok_keep_compareHeld (a_1 : api_Held) (b_2 : api_Held) (z : Int) (hm : keep_compareHeld a_1 b_2 = some z) : Does Tryd.prog 31 [.agg [.p (.s a_1.Owner), .p (.i .i64 a_1.Kind), .p (.s a_1.Path), .p (.s a_1.Sum), .p (.s a_1.Base)], .agg [.p (.s b_2.Owner), .p (.i .i64 b_2.Kind), .p (.s b_2.Path), .p (.s b_2.Sum), .p (.s b_2.Base)]] [] (fun r X => r = .p (.i .i64 z) ∧ X = []) := by
 unfold keep_compareHeld at hm
 refine Does.of_wp 0 35 [.tmp 4] Tryd.func31 rfl (by decide) rfl rfl (Nat.le_of_ble_eq_true rfl) fun B => ?_
 refine qS ?_
 refine Wp.seqW fun K2 hK2 hW2 => ?_
 obtain ⟨r_3, hr_3, hm⟩ := call_elim hm
 refine Wp.seqR fun K3 hK3 => ?_
 simp only [go_sem, simprocAttr]
 try refine ⟨sd, ?_⟩
 refine Rg.callX (av := ?av4) (g := true) (fun hg => ok_strings_Compare a_1.Owner b_2.Owner _ hr_3) si si si sg si ?cont4
 intro hv4
 simp only [go_sem, simprocAttr]
 first | apply hK3 | refine ⟨sd, hK3 _ _ ?_⟩
 refine qS ?_
 refine cM hm (fun hc6 hm => ?_) (fun hc6 hm => ?_)
 ·refine qS ?_
  refine Wp.ret ?_
  refine retQ_ret ?_
  cases hm
  exact fse3
 ·refine Wp.skip ?_
  refine hK2 _ _ ?_
  obtain ⟨r_4, hr_4, hm⟩ := call_elim hm
  obtain ⟨r_5, hr_5, hm⟩ := call_elim hm
  refine Wp.seqDS (plan := (.rd 0 (.rd 1 (.rd 2 (.rd 3 (.fk 4 [0, 1, 2, 3] (.ef 5 [0, 1, 2, 3] (.ef 6 [] (.ef 7 [] .nil))) 5 [0, 1, 2, 3] (.ef 4 [0, 1, 2, 3] (.ef 6 [] (.ef 7 [] .nil))))))))) (by kernel_rfl) rfl (by kernel_rfl) fun K8 hK8 hW8 => ?_
  suffices hcont8 : K8 [(0, .agg [.p (.s a_1.Owner), .p (.i .i64 a_1.Kind), .p (.s a_1.Path), .p (.s a_1.Sum), .p (.s a_1.Base)]), (1, .agg [.p (.s b_2.Owner), .p (.i .i64 b_2.Kind), .p (.s b_2.Path), .p (.s b_2.Sum), .p (.s b_2.Base)]), (2, .ptr 0 0), (3, .ptr 1 0), (4, .p (.i .i64 0)), (5, .p (.i .i64 r_3)), (6, .ptr 2 0), (7, .ptr 3 0), (8, .ptr 0 0), (9, .p (.s a_1.Owner)), (10, .ptr 1 0), (11, .p (.s b_2.Owner)), (12, .p (.i .i64 r_3)), (13, .p (.i .i64 r_3)), (14, .p (.b (!decide (r_3 = 0)))), (16, .agg [.p (.s a_1.Owner), .p (.i .i64 a_1.Kind), .p (.s a_1.Path), .p (.s a_1.Sum), .p (.s a_1.Base)]), (17, .agg [.p (.i .i64 r_4.thing), .p (.s r_4.path)]), (18, .agg [.p (.s b_2.Owner), .p (.i .i64 b_2.Kind), .p (.s b_2.Path), .p (.s b_2.Sum), .p (.s b_2.Base)]), (19, .agg [.p (.i .i64 r_5.thing), .p (.s r_5.path)])] [.cells 44 [.p (.s a_1.Owner), .p (.i .i64 a_1.Kind), .p (.s a_1.Path), .p (.s a_1.Sum), .p (.s a_1.Base)], .cells 44 [.p (.s b_2.Owner), .p (.i .i64 b_2.Kind), .p (.s b_2.Path), .p (.s b_2.Sum), .p (.s b_2.Base)], .cells 62 [.p (.i .i64 r_4.thing), .p (.s r_4.path)], .cells 62 [.p (.i .i64 r_5.thing), .p (.s r_5.path)]] by
   simp only [go_sem, simprocAttr]
   try refine ⟨sd, ?_⟩
   refine Dr.callF (av := ?av9) (g := true) (o := ?o9) (fun hg => ok_keep_heldPlace a_1 _ hr_4) si si si si sg si ?cont9
   simp only [go_sem, simprocAttr]
   try refine ⟨sd, ?_⟩
   refine Dr.callF (av := ?av10) (g := true) (o := ?o10) (fun hg => ok_keep_heldPlace b_2 _ hr_5) si si si si sg si ?cont10
   simp only [go_sem, simprocAttr]
   try refine ⟨sd, ?_⟩
   refine Dr.fk ?_ ?_
   ·
    refine Br.run (o := ?o11) si si ?cont11
    simp only [go_sem, simprocAttr]
    first | refine hW8.weak _ _ _ _ ?_ hcont8 | refine ⟨sd, hW8.weak _ _ _ _ ?_ hcont8⟩
    exact fse4
   ·
    refine Br.run (o := ?o12) si si ?cont12
    simp only [go_sem, simprocAttr]
    first | refine hW8.swap 2 3 _ _ (by decide) (by decide) (by exact Nat.le_of_ble_eq_true rfl) (by exact Nat.le_of_ble_eq_true rfl) ?_ | refine ⟨sd, hW8.swap 2 3 _ _ (by decide) (by decide) (by exact Nat.le_of_ble_eq_true rfl) (by exact Nat.le_of_ble_eq_true rfl) ?_⟩
    simp only [go_sem, simprocAttr]
    refine hW8.weak _ _ _ _ ?_ hcont8
    exact fse4
  refine hK8 _ _ ?_
  refine Wp.seqW fun K13 hK13 hW13 => ?_
  refine qS ?_
  refine cM hm (fun hc15 hm => ?_) (fun hc15 hm => ?_)
  ·refine qS ?_
   refine Wp.ret ?_
   refine retQ_ret ?_
   cases hm
   exact fse4
  ·refine Wp.skip ?_
   refine hK13 _ _ ?_
   obtain ⟨r_6, hr_6, hm⟩ := call_elim hm
   refine Wp.seqR fun K17 hK17 => ?_
   simp only [go_sem, simprocAttr]
   try refine ⟨sd, ?_⟩
   refine Rg.callX (av := ?av18) (g := true) (fun hg => ok_strings_Compare r_4.path r_5.path _ hr_6) si si si sg si ?cont18
   intro hv18
   simp only [go_sem, simprocAttr]
   first | apply hK17 | refine ⟨sd, hK17 _ _ ?_⟩
   refine Wp.ret ?_
   refine retQ_ret ?_
   cases hm
   exact fse4
theorem ok_keep_share (a_1 : api_Held) (b_2 : api_Held) (z : Bool) (hm : keep_share a_1 b_2 = some z) : Does Tryd.prog 32 [.agg [.p (.s a_1.Owner), .p (.i .i64 a_1.Kind), .p (.s a_1.Path), .p (.s a_1.Sum), .p (.s a_1.Base)], .agg [.p (.s b_2.Owner), .p (.i .i64 b_2.Kind), .p (.s b_2.Path), .p (.s b_2.Sum), .p (.s b_2.Base)]] [] (fun r X => r = .p (.b z) ∧ X = []) := by
 unfold keep_share at hm
 refine Does.of_wp 0 20 [.tmp 4] Tryd.func32 rfl (by decide) rfl rfl (Nat.le_of_ble_eq_true rfl) fun B => ?_
 refine qS ?_
 refine qS ?_
 refine Wp.ret ?_
 refine retQ_ret ?_
 cases hm
 exact fse4
end Go.Proofs.YtbbkahmljdogiaaDoor
