/- That the code does what the models say (part 5). -/
import Derived.Test.YtbbkahmljdogiaaDoorKcWk0
import Derived.Test.YtbbkahmljdogiaaDoorKcWk1
import Derived.Test.YtbbkahmljdogiaaDoorKcWk2
import Derived.Test.YtbbkahmljdogiaaDoorKcWk4
set_option linter.unusedSimpArgs false
set_option linter.unusedVariables false
open Go.Proofs Go.Shelf
namespace Go.Proofs.YtbbkahmljdogiaaDoor
open Go.Vc Go.Md
set_option maxRecDepth 100000
set_option maxHeartbeats 4000000
theorem ok_keep_Check (k_1 : api_Keep) (z : Int) (hm : keep_Check k_1 = some z) : Does Tryd.prog 10 [.agg [.p (.l (List.map enc_api_Held k_1.Held))]] [] (fun r X => r = .p (.i .i64 z) ∧ X = []) := by
 unfold keep_Check at hm
 refine Does.of_wp 0 69 [.tmp 2] Tryd.func10 rfl (by decide) rfl rfl (Nat.le_of_ble_eq_true rfl) fun B => ?_
 refine qS ?_
 refine Wp.seqW fun K2 hK2 hW2 => ?_
 refine qS ?_
 refine cM hm (fun hc4 hm => ?_) (fun hc4 hm => ?_)
 ·refine qS ?_
  refine Wp.ret ?_
  refine retQ_ret ?_
  cases hm
  exact fse3
 ·refine Wp.skip ?_
  refine hK2 _ _ ?_
  refine Wp.seqW fun K6 hK6 hW6 => ?_
  obtain ⟨k_17, hk_17, hm⟩ := jp_elim hm
  have hcut6 : ∀ s, k_17 s = some z → K6 [(1, .ptr 0 0)] [.cells 32 [.p (.l (List.map enc_api_Held k_1.Held))]] := by
   intro s hs
   have hm := hk_17 _ hs
   clear hs
   try dsimp only at hm
   try dsimp only
   refine hK6 _ _ ?_
   refine qS ?_
   refine Wp.seqW fun K8 hK8 hW8 => ?_
   obtain ⟨k_49, hk_49, hm⟩ := jp_elim hm
   have hcut8 : ∀ s, k_49 s = some z → K8 [] [] := by
    intro s hs
    have hm := hk_49 _ hs
    clear hs
    try dsimp only at hm
    try dsimp only
    refine hK8 _ _ ?_
    refine qS ?_
    refine Wp.ret ?_
    refine retQ_ret ?_
    cases hm
    exact fse4
   clear hK8 hk_49
   refine qS ?_
   refine Wp.block ?_
   obtain ⟨k_69, hk_69, hm⟩ := forL_cont hm
   refine Wp.fact 44 fun hl_72 => ?_
   replace hl_72 : k_1.Held.length ≤ 274877906944 := by
    simp only [go_sem, simprocAttr, List.length_map] at hl_72
    omega
   refine Wp.forL (fun i_71 s => [(6, .mp 1), (44, .p (.l (List.map enc_api_Held k_1.Held))), (45, .p (.i .i64 (k_1.Held.length : Int))), (46, .p (.i .i64 (i_71 : Int)))]) (fun i_71 s => [.cells 32 [.p (.l (List.map enc_api_Held k_1.Held))], .mp true (encM kdk_keep_place enc_api_Held s)]) ?_ hm ?_
   ·
    exact fse4
   clear hm
   intro i_71 m1_60 hii_71 hm
   try dsimp only at hm
   try dsimp only
   refine qS ?_
   refine Wp.seqW fun K12 hK12 hW12 => ?_
   refine Wp.cond rfl ⟨⟩ (fun hc12 => ?_) (fun hc12 => ?_)
   rotate_left
   ·refine Wp.exit ?_
    have hm := hk_69 _ (forL_end hm (ge_nat (by first | exact hc12 | simpa using hc12)))
    try dsimp only at hm
    refine hW8 _ _ _ _ ?_ (hcut8 () hm)
    exact fse4
   have hlt12 := lt_nat (by first | exact hc12 | simpa using hc12)
   have hw12 := wrap_succ hlt12 hl_72
   obtain ⟨h_73, nx_70, hxh_73, hyh_73, hnx_70, hm⟩ := forL_step hm hlt12
   replace hxh_73 := hxh_73 enc_api_Held
   refine Wp.skip ?_
   simp only [thenQ]
   refine hK12 _ _ ?_
   refine Wp.seqW fun K13 hK13 hW13 => ?_
   refine Wp.block ?_
   refine Wp.seqR fun K14 hK14 => ?_
   simp only [go_sem, simprocAttr, hw12, hxh_73]
   first | apply hK14 | refine ⟨sd, hK14 _ _ ?_⟩
   refine Wp.seqW fun K15 hK15 hW15 => ?_
   obtain ⟨r_74, hr_74, hm⟩ := call_elim hm
   obtain ⟨q_75, hq_76, hm⟩ := letv_elim hm
   have hq_76d := mlookD_enc (e := enc_api_Held) keq_keep_place m1_60 r_74 (api_Held.mk [] 0 [] [] [])
   have hq_76s := mlook_some (e := enc_api_Held) keq_keep_place m1_60 r_74
   simp only [kdk_keep_place, enc_keep_place, hq_76, enc_api_Held, List.map_nil] at hq_76d hq_76s
   refine Wp.seqR fun K16 hK16 => ?_
   simp only [go_sem, simprocAttr, hw12, hxh_73, hq_76d, hq_76s]
   try refine ⟨sd, ?_⟩
   refine Rg.callX (av := ?av17) (g := true) (fun hg => ok_keep_heldPlace h_73 _ hr_74) (by simp only [go_sem, simprocAttr, hw12, hxh_73, hq_76d, hq_76s]; exact Is.mk) (by simp only [go_sem, simprocAttr, hw12, hxh_73, hq_76d, hq_76s]; exact Is.mk) (by simp only [go_sem, simprocAttr, hw12, hxh_73, hq_76d, hq_76s]; exact Is.mk) (by simp only [go_sem, simprocAttr, hw12, hxh_73, hq_76d, hq_76s]) (by simp only [go_sem, simprocAttr, hw12, hxh_73, hq_76d, hq_76s]; exact Is.mk) ?cont17
   intro hv17
   simp only [go_sem, simprocAttr, hw12, hxh_73, hq_76d, hq_76s]
   first | apply hK16 | refine ⟨sd, hK16 _ _ ?_⟩
   obtain ⟨r_77, hr_77, hm⟩ := callG_elim hm
   refine Wp.seqR fun K18 hK18 => ?_
   simp only [go_sem, simprocAttr, hw12, hxh_73]
   try refine ⟨sd, ?_⟩
   refine Rg.callX (av := ?av19) (g := q_75.isSome) (fun hg => ok_keep_share (q_75.getD (api_Held.mk [] 0 [] [] [])) h_73 _ (hr_77 hg)) (by simp only [go_sem, simprocAttr, hw12, hxh_73]; exact Is.mk) (by simp only [go_sem, simprocAttr, hw12, hxh_73]; exact Is.mk) (by simp only [go_sem, simprocAttr, hw12, hxh_73]; exact Is.mk) (by simp only [go_sem, simprocAttr, hw12, hxh_73]) (by simp only [go_sem, simprocAttr, hw12, hxh_73]; exact Is.mk) ?cont19
   intro hv19
   simp only [go_sem, simprocAttr, hw12, hxh_73]
   first | apply hK18 | refine ⟨sd, hK18 _ _ ?_⟩
   refine cM hm (fun hc20 hm => ?_) (fun hc20 hm => ?_)
   ·refine Wp.seqR fun K21 hK21 => ?_
    simp only [go_sem, simprocAttr, hw12, hxh_73]
    first | apply hK21 | refine ⟨sd, hK21 _ _ ?_⟩
    refine Wp.ret ?_
    refine retQ_ret ?_
    cases hm
    simp only [go_sem, simprocAttr, hw12, hxh_73]
    try exact se4
   ·refine Wp.skip ?_
    refine hK15 _ _ ?_
    obtain ⟨r_78, hr_78, hm⟩ := call_elim hm
    obtain ⟨c_80, hm⟩ := chk_elim hm
    have hp_79 := mset_enc (e := enc_api_Held) keq_keep_place m1_60 r_78 h_73
    simp only [kdk_keep_place, enc_keep_place, enc_api_Held] at hp_79
    refine Wp.regD (plan := pl [(0, none), (1, none), (2, none), (3, none), (4, some [])]) (by kernel_rfl) rfl (by kernel_rfl) fun K22 hK22 => ?_
    simp only [go_sem, simprocAttr, hw12, hxh_73, hp_79]
    try refine ⟨by first | exact sd | ((repeat' apply And.intro) <;> first | assumption | omega | (simp only [List.length_append, List.length_map, List.length_cons, List.length_nil, List.length_set, List.length_replicate] at c_80 ⊢; omega)), ?_⟩
    refine Dr.callF (av := ?av23) (g := true) (o := ?o23) (fun hg => ok_keep_heldPlace h_73 _ hr_78) (by simp only [go_sem, simprocAttr, hw12, hxh_73, hp_79]; exact Is.mk) (by simp only [go_sem, simprocAttr, hw12, hxh_73, hp_79]; exact Is.mk) (by simp only [go_sem, simprocAttr, hw12, hxh_73, hp_79]; exact Is.mk) (by simp only [go_sem, simprocAttr, hw12, hxh_73, hp_79]; exact Is.mk) (by simp only [go_sem, simprocAttr, hw12, hxh_73, hp_79]) (by simp only [go_sem, simprocAttr, hw12, hxh_73, hp_79]; exact Is.mk) ?cont23
    simp only [go_sem, simprocAttr, hw12, hxh_73, hp_79]
    first | apply hK22 | refine ⟨by first | exact sd | ((repeat' apply And.intro) <;> first | assumption | omega | (simp only [List.length_append, List.length_map, List.length_cons, List.length_nil, List.length_set, List.length_replicate] at c_80 ⊢; omega)), hK22 _ _ ?_⟩
    refine hK13 _ _ ?_
    refine Wp.region fun K24 hK24 => ?_
    simp only [go_sem, simprocAttr, hw12, hxh_73]
    first | apply hK24 | refine ⟨sd, hK24 _ _ ?_⟩
    simp only [thenQ, blockQ, ↓reduceIte]
    refine ⟨aset m1_60 r_78 h_73, hlt12, hnx_70 _ hm, ?_⟩
    simp only [go_sem, simprocAttr, hw12, hxh_73]
    try exact se4
  clear hK6 hk_17
  refine qS ?_
  refine Wp.block ?_
  obtain ⟨k_87, hk_87, hm⟩ := forL_cont hm
  refine Wp.fact 16 fun hl_90 => ?_
  replace hl_90 : k_1.Held.length ≤ 274877906944 := by
   simp only [go_sem, simprocAttr, List.length_map] at hl_90
   omega
  refine Wp.forL (fun i_89 s => [(1, .ptr 0 0), (16, .p (.l (List.map enc_api_Held k_1.Held))), (17, .p (.i .i64 (k_1.Held.length : Int))), (18, .p (.i .i64 (i_89 : Int)))]) (fun i_89 s => [.cells 32 [.p (.l (List.map enc_api_Held k_1.Held))]]) ?_ hm ?_
  ·
   exact fse4
  clear hm
  intro i_89 s hii_89 hm
  try dsimp only at hm
  try dsimp only
  refine qS ?_
  refine Wp.seqW fun K27 hK27 hW27 => ?_
  refine Wp.cond rfl ⟨⟩ (fun hc27 => ?_) (fun hc27 => ?_)
  rotate_left
  ·refine Wp.exit ?_
   have hm := hk_87 _ (forL_end hm (ge_nat (by first | exact hc27 | simpa using hc27)))
   try dsimp only at hm
   refine hW6 _ _ _ _ ?_ (hcut6 () hm)
   exact fse4
  have hlt27 := lt_nat (by first | exact hc27 | simpa using hc27)
  have hw27 := wrap_succ hlt27 hl_90
  obtain ⟨h_91, nx_88, hxh_91, hyh_91, hnx_88, hm⟩ := forL_step hm hlt27
  replace hxh_91 := hxh_91 enc_api_Held
  refine Wp.skip ?_
  simp only [thenQ]
  refine hK27 _ _ ?_
  refine Wp.seqW fun K28 hK28 hW28 => ?_
  refine Wp.block ?_
  refine Wp.seqR fun K29 hK29 => ?_
  simp only [go_sem, simprocAttr, hw27, hxh_91]
  first | apply hK29 | refine ⟨sd, hK29 _ _ ?_⟩
  refine Wp.seqW fun K30 hK30 hW30 => ?_
  obtain ⟨r_92, hr_92, hm⟩ := call_elim hm
  refine Wp.seqR fun K31 hK31 => ?_
  simp only [go_sem, simprocAttr, hw27, hxh_91]
  try refine ⟨sd, ?_⟩
  refine Rg.callX (av := ?av32) (g := true) (fun hg => ok_keep_heldFault h_91 _ hr_92) (by simp only [go_sem, simprocAttr, hw27, hxh_91]; exact Is.mk) (by simp only [go_sem, simprocAttr, hw27, hxh_91]; exact Is.mk) (by simp only [go_sem, simprocAttr, hw27, hxh_91]; exact Is.mk) (by simp only [go_sem, simprocAttr, hw27, hxh_91]) (by simp only [go_sem, simprocAttr, hw27, hxh_91]; exact Is.mk) ?cont32
  intro hv32
  simp only [go_sem, simprocAttr, hw27, hxh_91]
  first | apply hK31 | refine ⟨sd, hK31 _ _ ?_⟩
  refine Wp.seqR fun K33 hK33 => ?_
  simp only [go_sem, simprocAttr, hw27, hxh_91]
  first | apply hK33 | refine ⟨sd, hK33 _ _ ?_⟩
  refine cM hm (fun hc34 hm => ?_) (fun hc34 hm => ?_)
  ·refine Wp.seqR fun K35 hK35 => ?_
   simp only [go_sem, simprocAttr, hw27, hxh_91]
   first | apply hK35 | refine ⟨sd, hK35 _ _ ?_⟩
   refine Wp.ret ?_
   refine retQ_ret ?_
   cases hm
   simp only [go_sem, simprocAttr, hw27, hxh_91]
   try exact se4
  ·refine Wp.skip ?_
   refine hK30 _ _ ?_
   obtain ⟨c_93, hm⟩ := chk_elim hm
   obtain ⟨r_94, hr_94, hm⟩ := callG_elim hm
   have hr_95 := getD_enc (l := k_1.Held) (e := enc_api_Held) (d := (api_Held.mk [] 0 [] [] [])) (i := (IntKind.i64.wrap ((i_89 : Int) - 1)).toNat)
   simp only [enc_api_Held, List.map_nil] at hr_95
   refine Wp.seqD (plan := pl [(0, none), (1, none), (2, none), (3, none), (4, none), (5, none), (6, none), (7, none), (8, none), (9, none), (10, none), (11, none), (12, none)]) (by kernel_rfl) rfl (by kernel_rfl) fun K36 hK36 => ?_
   simp only [go_sem, simprocAttr, hw27, hxh_91, hr_95]
   try refine ⟨by first | exact sd | ((repeat' apply And.intro) <;> first | assumption | omega | (simp only [List.length_append, List.length_map, List.length_cons, List.length_nil, List.length_set, List.length_replicate] at c_93 ⊢; omega)), ?_⟩
   refine Dr.callF (av := ?av37) (g := decide (0 < (i_89 : Int))) (o := ?o37) (fun hg => ok_keep_compareHeld (api_Held.mk ((k_1.Held.getD ((IntKind.i64.wrap ((i_89 : Int) - 1)).toNat) (api_Held.mk [] 0 [] [] [])).Owner) ((k_1.Held.getD ((IntKind.i64.wrap ((i_89 : Int) - 1)).toNat) (api_Held.mk [] 0 [] [] [])).Kind) ((k_1.Held.getD ((IntKind.i64.wrap ((i_89 : Int) - 1)).toNat) (api_Held.mk [] 0 [] [] [])).Path) ((k_1.Held.getD ((IntKind.i64.wrap ((i_89 : Int) - 1)).toNat) (api_Held.mk [] 0 [] [] [])).Sum) ((k_1.Held.getD ((IntKind.i64.wrap ((i_89 : Int) - 1)).toNat) (api_Held.mk [] 0 [] [] [])).Base)) h_91 _ (hr_94 hg)) (by simp only [go_sem, simprocAttr, hw27, hxh_91, hr_95]; exact Is.mk) (by simp only [go_sem, simprocAttr, hw27, hxh_91, hr_95]; exact Is.mk) (by simp only [go_sem, simprocAttr, hw27, hxh_91, hr_95]; exact Is.mk) (by simp only [go_sem, simprocAttr, hw27, hxh_91, hr_95]; exact Is.mk) (by simp only [go_sem, simprocAttr, hw27, hxh_91, hr_95]) (by simp only [go_sem, simprocAttr, hw27, hxh_91, hr_95]; exact Is.mk) ?cont37
   simp only [go_sem, simprocAttr, hw27, hxh_91, hr_95]
   first | apply hK36 | refine ⟨by first | exact sd | ((repeat' apply And.intro) <;> first | assumption | omega | (simp only [List.length_append, List.length_map, List.length_cons, List.length_nil, List.length_set, List.length_replicate] at c_93 ⊢; omega)), hK36 _ _ ?_⟩
   refine cM hm (fun hc38 hm => ?_) (fun hc38 hm => ?_)
   ·refine Wp.seqR fun K39 hK39 => ?_
    simp only [go_sem, simprocAttr, hw27, hxh_91]
    first | apply hK39 | refine ⟨sd, hK39 _ _ ?_⟩
    refine Wp.ret ?_
    refine retQ_ret ?_
    cases hm
    simp only [go_sem, simprocAttr, hw27, hxh_91]
    try exact se4
   ·refine Wp.skip ?_
    refine hK28 _ _ ?_
    refine Wp.region fun K40 hK40 => ?_
    simp only [go_sem, simprocAttr, hw27, hxh_91]
    first | apply hK40 | refine ⟨sd, hK40 _ _ ?_⟩
    simp only [thenQ, blockQ, ↓reduceIte]
    refine ⟨(), hlt27, hnx_88 _ hm, ?_⟩
    simp only [go_sem, simprocAttr, hw27, hxh_91]
    try exact se4
theorem ok_keep_Owners (k_1 : api_Keep) (kind_2 : Int) (path_3 : Str) (z : List Str × Int) (hm : keep_Owners k_1 kind_2 path_3 = some z) : Does Tryd.prog 8 [.agg [.p (.l (List.map enc_api_Held k_1.Held))], .p (.i .i64 kind_2), .p (.s path_3)] [] (fun r X => r = .tup [.p (.l (List.map ecS z.1)), .p (.i .i64 z.2)] ∧ X = []) := by
 unfold keep_Owners at hm
 refine Does.of_wp 0 57 [.tmp 6, .tmp 7] Tryd.func8 rfl (by decide) rfl rfl (Nat.le_of_ble_eq_true rfl) fun B => ?_
 refine qS ?_
 refine Wp.seqW fun K2 hK2 hW2 => ?_
 obtain ⟨r_4, hr_4, hm⟩ := call_elim hm
 refine Wp.seqR fun K3 hK3 => ?_
 simp only [go_sem, simprocAttr]
 try refine ⟨sd, ?_⟩
 refine Rg.callX (av := ?av4) (g := true) (fun hg => ok_keep_Check k_1 _ hr_4) si si si sg si ?cont4
 intro hv4
 simp only [go_sem, simprocAttr]
 first | apply hK3 | refine ⟨sd, hK3 _ _ ?_⟩
 refine qS ?_
 refine cM hm (fun hc6 hm => ?_) (fun hc6 hm => ?_)
 ·refine qS ?_
  refine Wp.ret ?_
  simp only [thenQ, blockQ]
  refine retQ_retE ?_
  cases hm
  exact fse4
 ·refine Wp.skip ?_
  refine hK2 _ _ ?_
  refine Wp.seqW fun K8 hK8 hW8 => ?_
  obtain ⟨r_5, hr_5, hm⟩ := call_elim hm
  refine Wp.seqR fun K9 hK9 => ?_
  simp only [go_sem, simprocAttr]
  try refine ⟨sd, ?_⟩
  refine Rg.callX (av := ?av10) (g := true) (fun hg => ok_keep_isKind kind_2 _ hr_5) si si si sg si ?cont10
  intro hv10
  simp only [go_sem, simprocAttr]
  first | apply hK9 | refine ⟨sd, hK9 _ _ ?_⟩
  refine cM hm (fun hc11 hm => ?_) (fun hc11 hm => ?_)
  ·refine qS ?_
   refine Wp.ret ?_
   simp only [thenQ, blockQ]
   refine retQ_retE ?_
   cases hm
   exact fse4
  ·refine Wp.skip ?_
   refine hK8 _ _ ?_
   refine Wp.seqW fun K13 hK13 hW13 => ?_
   obtain ⟨r_6, hr_6, hm⟩ := callG_elim hm
   obtain ⟨r_7, hr_7, hm⟩ := callG_elim hm
   refine Wp.seqR fun K14 hK14 => ?_
   simp only [go_sem, simprocAttr]
   try refine ⟨sd, ?_⟩
   refine Rg.callX (av := ?av15) (g := decide (kind_2 = 6)) (fun hg => ok_ver_IsName path_3 _ (hr_6 hg)) si si si sg si ?cont15
   intro hv15
   simp only [go_sem, simprocAttr]
   try refine ⟨sd, ?_⟩
   refine Rg.callX (av := ?av16) (g := ((!((decide (kind_2 = 6)) && (!r_6))) && (!decide (kind_2 = 6)))) (fun hg => ok_ver_IsPath path_3 _ (hr_7 hg)) si si si sg si ?cont16
   intro hv16
   simp only [go_sem, simprocAttr]
   first | apply hK14 | refine ⟨sd, hK14 _ _ ?_⟩
   refine cM hm (fun hc17 hm => ?_) (fun hc17 hm => ?_)
   ·refine qS ?_
    refine Wp.ret ?_
    simp only [thenQ, blockQ]
    refine retQ_retE ?_
    cases hm
    exact fse4
   ·refine Wp.skip ?_
    refine hK13 _ _ ?_
    refine qS ?_
    refine Wp.seqW fun K20 hK20 hW20 => ?_
    obtain ⟨k_28, hk_28, hm⟩ := jp_elim hm
    have hcut20 : ∀ s, k_28 s = some z → K20 [(9, .buf 1)] [.cells 32 [.top], .buf 9 1 (List.map ecS s)] := by
     intro o1_27 hs
     have hm := hk_28 _ hs
     clear hs
     try dsimp only at hm
     try dsimp only
     refine hK20 _ _ ?_
     refine qS ?_
     refine Wp.ret ?_
     refine retQ_ret ?_
     cases hm
     exact fse4
    clear hK20 hk_28
    refine qS ?_
    refine Wp.block ?_
    refine Wp.adopt 9 9 1 rfl ?_
    simp only [go_sem, simprocAttr]
    obtain ⟨k_40, hk_40, hm⟩ := forL_cont hm
    refine Wp.fact 37 fun hl_43 => ?_
    replace hl_43 : k_1.Held.length ≤ 274877906944 := by
     simp only [go_sem, simprocAttr, List.length_map] at hl_43
     omega
    refine Wp.forL (fun i_42 s => [(1, .p (.i .i64 kind_2)), (2, .p (.s path_3)), (9, .buf 1), (37, .p (.l (List.map enc_api_Held k_1.Held))), (38, .p (.i .i64 (k_1.Held.length : Int))), (39, .p (.i .i64 (i_42 : Int)))]) (fun i_42 s => [.cells 32 [.p (.l (List.map enc_api_Held k_1.Held))], .buf 9 1 (List.map ecS s)]) ?_ hm ?_
    ·
     exact fse4
    clear hm
    intro i_42 o1_35 hii_42 hm
    try dsimp only at hm
    try dsimp only
    refine qS ?_
    refine Wp.seqW fun K24 hK24 hW24 => ?_
    refine Wp.cond rfl ⟨⟩ (fun hc24 => ?_) (fun hc24 => ?_)
    rotate_left
    ·refine Wp.exit ?_
     have hm := hk_40 _ (forL_end hm (ge_nat (by first | exact hc24 | simpa using hc24)))
     try dsimp only at hm
     refine hW20 _ _ _ _ ?_ (hcut20 o1_35 hm)
     exact fse4
    have hlt24 := lt_nat (by first | exact hc24 | simpa using hc24)
    have hw24 := wrap_succ hlt24 hl_43
    obtain ⟨h_44, nx_41, hxh_44, hyh_44, hnx_41, hm⟩ := forL_step hm hlt24
    replace hxh_44 := hxh_44 enc_api_Held
    refine Wp.skip ?_
    simp only [thenQ]
    refine hK24 _ _ ?_
    refine Wp.seqW fun K25 hK25 hW25 => ?_
    refine Wp.block ?_
    refine Wp.seqR fun K26 hK26 => ?_
    simp only [go_sem, simprocAttr, hw24, hxh_44]
    first | apply hK26 | refine ⟨sd, hK26 _ _ ?_⟩
    obtain ⟨r_45, hr_45, hm⟩ := call_elim hm
    obtain ⟨r_46, hr_46, hm⟩ := call_elim hm
    refine Wp.seqR fun K27 hK27 => ?_
    simp only [go_sem, simprocAttr, hw24, hxh_44]
    try refine ⟨sd, ?_⟩
    refine Rg.callX (av := ?av28) (g := true) (fun hg => ok_keep_heldPlace h_44 _ hr_45) (by simp only [go_sem, simprocAttr, hw24, hxh_44]; exact Is.mk) (by simp only [go_sem, simprocAttr, hw24, hxh_44]; exact Is.mk) (by simp only [go_sem, simprocAttr, hw24, hxh_44]; exact Is.mk) (by simp only [go_sem, simprocAttr, hw24, hxh_44]) (by simp only [go_sem, simprocAttr, hw24, hxh_44]; exact Is.mk) ?cont28
    intro hv28
    simp only [go_sem, simprocAttr, hw24, hxh_44]
    try refine ⟨sd, ?_⟩
    refine Rg.callX (av := ?av29) (g := true) (fun hg => ok_keep_thingOf kind_2 _ hr_46) (by simp only [go_sem, simprocAttr, hw24, hxh_44]; exact Is.mk) (by simp only [go_sem, simprocAttr, hw24, hxh_44]; exact Is.mk) (by simp only [go_sem, simprocAttr, hw24, hxh_44]; exact Is.mk) (by simp only [go_sem, simprocAttr, hw24, hxh_44]) (by simp only [go_sem, simprocAttr, hw24, hxh_44]; exact Is.mk) ?cont29
    intro hv29
    simp only [go_sem, simprocAttr, hw24, hxh_44]
    first | apply hK27 | refine ⟨sd, hK27 _ _ ?_⟩
    refine cM hm (fun hc30 hm => ?_) (fun hc30 hm => ?_)
    ·obtain ⟨c_47, hm⟩ := chk_elim hm
     refine Wp.region fun K31 hK31 => ?_
     simp only [go_sem, simprocAttr, hw24, hxh_44]
     first | apply hK31 | refine ⟨by first | exact sd | ((repeat' apply And.intro) <;> first | assumption | omega | (simp only [List.length_append, List.length_map, List.length_cons, List.length_nil, List.length_set, List.length_replicate] at c_47 ⊢; omega)), hK31 _ _ ?_⟩
     refine hK25 _ _ ?_
     refine Wp.region fun K32 hK32 => ?_
     simp only [go_sem, simprocAttr, hw24, hxh_44]
     first | apply hK32 | refine ⟨sd, hK32 _ _ ?_⟩
     simp only [thenQ, blockQ, ↓reduceIte]
     refine ⟨o1_35 ++ [h_44.Owner], hlt24, hnx_41 _ hm, ?_⟩
     simp only [go_sem, simprocAttr, hw24, hxh_44]
     try exact se4
    ·refine Wp.skip ?_
     refine hK25 _ _ ?_
     refine Wp.region fun K33 hK33 => ?_
     simp only [go_sem, simprocAttr, hw24, hxh_44]
     first | apply hK33 | refine ⟨sd, hK33 _ _ ?_⟩
     simp only [thenQ, blockQ, ↓reduceIte]
     refine ⟨o1_35, hlt24, hnx_41 _ hm, ?_⟩
     simp only [go_sem, simprocAttr, hw24, hxh_44]
     try exact se4
theorem ok_keep_things (k_1 : api_Keep) (owner_2 : Str) (z : List api_Held) (hm : keep_things k_1 owner_2 = some z) : Does Tryd.prog 29 [.agg [.p (.l (List.map enc_api_Held k_1.Held))], .p (.s owner_2)] [] (fun r X => r = .p (.l (List.map enc_api_Held z)) ∧ X = []) := by
 unfold keep_things at hm
 refine Does.of_wp 0 25 [.tmp 4] Tryd.func29 rfl (by decide) rfl rfl (Nat.le_of_ble_eq_true rfl) fun B => ?_
 refine qS ?_
 refine qS ?_
 refine Wp.seqW fun K3 hK3 hW3 => ?_
 obtain ⟨k_17, hk_17, hm⟩ := jp_elim hm
 have hcut3 : ∀ s, k_17 s = some z → K3 [(5, .buf 1)] [.cells 32 [.top], .buf 44 5 (List.map enc_api_Held s)] := by
  intro o1_16 hs
  have hm := hk_17 _ hs
  clear hs
  try dsimp only at hm
  try dsimp only
  refine hK3 _ _ ?_
  refine qS ?_
  refine Wp.ret ?_
  refine retQ_ret ?_
  cases hm
  exact fse4
 clear hK3 hk_17
 refine qS ?_
 refine Wp.block ?_
 refine Wp.adopt 5 44 5 rfl ?_
 simp only [go_sem, simprocAttr]
 obtain ⟨k_25, hk_25, hm⟩ := forL_cont hm
 refine Wp.fact 9 fun hl_28 => ?_
 replace hl_28 : k_1.Held.length ≤ 274877906944 := by
  simp only [go_sem, simprocAttr, List.length_map] at hl_28
  omega
 refine Wp.forL (fun i_27 s => [(1, .p (.s owner_2)), (5, .buf 1), (9, .p (.l (List.map enc_api_Held k_1.Held))), (10, .p (.i .i64 (k_1.Held.length : Int))), (11, .p (.i .i64 (i_27 : Int)))]) (fun i_27 s => [.cells 32 [.p (.l (List.map enc_api_Held k_1.Held))], .buf 44 5 (List.map enc_api_Held s)]) ?_ hm ?_
 ·
  exact fse4
 clear hm
 intro i_27 o1_22 hii_27 hm
 try dsimp only at hm
 try dsimp only
 refine qS ?_
 refine Wp.seqW fun K7 hK7 hW7 => ?_
 refine Wp.cond rfl ⟨⟩ (fun hc7 => ?_) (fun hc7 => ?_)
 rotate_left
 ·refine Wp.exit ?_
  have hm := hk_25 _ (forL_end hm (ge_nat (by first | exact hc7 | simpa using hc7)))
  try dsimp only at hm
  refine hW3 _ _ _ _ ?_ (hcut3 o1_22 hm)
  exact fse4
 have hlt7 := lt_nat (by first | exact hc7 | simpa using hc7)
 have hw7 := wrap_succ hlt7 hl_28
 obtain ⟨h_29, nx_26, hxh_29, hyh_29, hnx_26, hm⟩ := forL_step hm hlt7
 replace hxh_29 := hxh_29 enc_api_Held
 refine Wp.skip ?_
 simp only [thenQ]
 refine hK7 _ _ ?_
 refine Wp.seqW fun K8 hK8 hW8 => ?_
 refine Wp.block ?_
 refine Wp.seqR fun K9 hK9 => ?_
 simp only [go_sem, simprocAttr, hw7, hxh_29]
 first | apply hK9 | refine ⟨sd, hK9 _ _ ?_⟩
 refine Wp.seqR fun K10 hK10 => ?_
 simp only [go_sem, simprocAttr, hw7, hxh_29]
 first | apply hK10 | refine ⟨sd, hK10 _ _ ?_⟩
 refine cM hm (fun hc11 hm => ?_) (fun hc11 hm => ?_)
 ·obtain ⟨c_30, hm⟩ := chk_elim hm
  refine Wp.region fun K12 hK12 => ?_
  simp only [go_sem, simprocAttr, hw7, hxh_29]
  first | apply hK12 | refine ⟨by first | exact sd | ((repeat' apply And.intro) <;> first | assumption | omega | (simp only [List.length_append, List.length_map, List.length_cons, List.length_nil, List.length_set, List.length_replicate] at c_30 ⊢; omega)), hK12 _ _ ?_⟩
  refine hK8 _ _ ?_
  refine Wp.region fun K13 hK13 => ?_
  simp only [go_sem, simprocAttr, hw7, hxh_29]
  first | apply hK13 | refine ⟨sd, hK13 _ _ ?_⟩
  simp only [thenQ, blockQ, ↓reduceIte]
  refine ⟨o1_22 ++ [h_29], hlt7, hnx_26 _ hm, ?_⟩
  simp only [go_sem, simprocAttr, hw7, hxh_29]
  try exact se4
 ·refine Wp.skip ?_
  refine hK8 _ _ ?_
  refine Wp.region fun K14 hK14 => ?_
  simp only [go_sem, simprocAttr, hw7, hxh_29]
  first | apply hK14 | refine ⟨sd, hK14 _ _ ?_⟩
  simp only [thenQ, blockQ, ↓reduceIte]
  refine ⟨o1_22, hlt7, hnx_26 _ hm, ?_⟩
  simp only [go_sem, simprocAttr, hw7, hxh_29]
  try exact se4
theorem ok_keep_Things (k_1 : api_Keep) (owner_2 : Str) (z : List api_Held × Int) (hm : keep_Things k_1 owner_2 = some z) : Does Tryd.prog 9 [.agg [.p (.l (List.map enc_api_Held k_1.Held))], .p (.s owner_2)] [] (fun r X => r = .tup [.p (.l (List.map enc_api_Held z.1)), .p (.i .i64 z.2)] ∧ X = []) := by
 unfold keep_Things at hm
 refine Does.of_wp 0 18 [.tmp 4, .tmp 5] Tryd.func9 rfl (by decide) rfl rfl (Nat.le_of_ble_eq_true rfl) fun B => ?_
 refine qS ?_
 refine Wp.seqW fun K2 hK2 hW2 => ?_
 obtain ⟨r_3, hr_3, hm⟩ := call_elim hm
 refine Wp.seqR fun K3 hK3 => ?_
 simp only [go_sem, simprocAttr]
 try refine ⟨sd, ?_⟩
 refine Rg.callX (av := ?av4) (g := true) (fun hg => ok_keep_Check k_1 _ hr_3) si si si sg si ?cont4
 intro hv4
 simp only [go_sem, simprocAttr]
 first | apply hK3 | refine ⟨sd, hK3 _ _ ?_⟩
 refine qS ?_
 refine cM hm (fun hc6 hm => ?_) (fun hc6 hm => ?_)
 ·refine qS ?_
  refine Wp.ret ?_
  simp only [thenQ, blockQ]
  refine retQ_retE ?_
  cases hm
  exact fse4
 ·refine Wp.skip ?_
  refine hK2 _ _ ?_
  refine Wp.seqW fun K8 hK8 hW8 => ?_
  obtain ⟨r_4, hr_4, hm⟩ := call_elim hm
  refine Wp.seqR fun K9 hK9 => ?_
  simp only [go_sem, simprocAttr]
  try refine ⟨sd, ?_⟩
  refine Rg.callX (av := ?av10) (g := true) (fun hg => ok_ver_IsName owner_2 _ hr_4) si si si sg si ?cont10
  intro hv10
  simp only [go_sem, simprocAttr]
  first | apply hK9 | refine ⟨sd, hK9 _ _ ?_⟩
  refine cM hm (fun hc11 hm => ?_) (fun hc11 hm => ?_)
  ·refine qS ?_
   refine Wp.ret ?_
   simp only [thenQ, blockQ]
   refine retQ_retE ?_
   cases hm
   exact fse4
  ·refine Wp.skip ?_
   refine hK8 _ _ ?_
   obtain ⟨r_5, hr_5, hm⟩ := call_elim hm
   refine Wp.seqR fun K13 hK13 => ?_
   simp only [go_sem, simprocAttr]
   try refine ⟨sd, ?_⟩
   refine Rg.callF (av := ?av14) (ok_keep_things k_1 owner_2 _ hr_5) si si sg ?cont14
   intro hv14
   simp only [go_sem, simprocAttr]
   first | apply hK13 | refine ⟨sd, hK13 _ _ ?_⟩
   refine Wp.ret ?_
   refine retQ_ret ?_
   cases hm
   exact fse4
theorem ok_slices_Equal_string_string (s1_1 : List Str) (s2_2 : List Str) (z : Bool) (hm : slices_Equal_string_string s1_1 s2_2 = some z) : Does Tryd.prog 13 [.p (.l (List.map ecS s1_1)), .p (.l (List.map ecS s2_2))] [] (fun r X => r = .p (.b z) ∧ X = []) := by
 unfold slices_Equal_string_string at hm
 refine Does.of_wp 0 26 [.tmp 4] Tryd.func13 rfl (by decide) rfl rfl (Nat.le_of_ble_eq_true rfl) fun B => ?_
 refine qS ?_
 refine Wp.seqW fun K2 hK2 hW2 => ?_
 refine qS ?_
 refine cM hm (fun hc4 hm => ?_) (fun hc4 hm => ?_)
 ·refine qS ?_
  refine Wp.ret ?_
  refine retQ_ret ?_
  cases hm
  exact fse4
 ·refine Wp.skip ?_
  refine hK2 _ _ ?_
  refine Wp.seqW fun K6 hK6 hW6 => ?_
  obtain ⟨k_12, hk_12, hm⟩ := jp_elim hm
  have hcut6 : ∀ s, k_12 s = some z → K6 [] [] := by
   intro s hs
   have hm := hk_12 _ hs
   clear hs
   try dsimp only at hm
   try dsimp only
   refine hK6 _ _ ?_
   refine qS ?_
   refine Wp.ret ?_
   refine retQ_ret ?_
   cases hm
   exact fse4
  clear hK6 hk_12
  refine qS ?_
  refine Wp.block ?_
  obtain ⟨k_16, hk_16, hm⟩ := forL_cont hm
  refine Wp.fact 0 fun hl_19 => ?_
  replace hl_19 : s1_1.length ≤ 274877906944 := by
   simp only [go_sem, simprocAttr, List.length_map] at hl_19
   omega
  refine Wp.forL (fun i_18 s => [(0, .p (.l (List.map ecS s1_1))), (1, .p (.l (List.map ecS s2_2))), (12, .p (.i .i64 (s1_1.length : Int))), (13, .p (.i .i64 (i_18 : Int)))]) (fun i_18 s => []) ?_ hm ?_
  ·
   exact fse4
  clear hm
  intro i_18 s hii_18 hm
  try dsimp only at hm
  try dsimp only
  refine qS ?_
  refine Wp.seqW fun K10 hK10 hW10 => ?_
  refine Wp.cond rfl ⟨⟩ (fun hc10 => ?_) (fun hc10 => ?_)
  rotate_left
  ·refine Wp.exit ?_
   have hm := hk_16 _ (forL_end hm (ge_nat (by first | exact hc10 | simpa using hc10)))
   try dsimp only at hm
   refine hW6 _ _ _ _ ?_ (hcut6 () hm)
   exact fse4
  have hlt10 := lt_nat (by first | exact hc10 | simpa using hc10)
  have hw10 := wrap_succ hlt10 hl_19
  obtain ⟨s_20, nx_17, hxs_20, hys_20, hnx_17, hm⟩ := forL_step hm hlt10
  replace hxs_20 := hxs_20 ecS
  refine Wp.skip ?_
  simp only [thenQ]
  refine hK10 _ _ ?_
  refine Wp.seqW fun K11 hK11 hW11 => ?_
  refine Wp.block ?_
  refine Wp.seqR fun K12 hK12 => ?_
  simp only [go_sem, simprocAttr, hw10, hxs_20]
  first | apply hK12 | refine ⟨sd, hK12 _ _ ?_⟩
  obtain ⟨s_21, hbs_21, hxs_21, hys_21, hm⟩ := idx_elim hm
  replace hxs_21 : ∀ d, (List.map ecS s2_2).getD i_18 d = ecS s_21 := hxs_21 ecS
  refine Wp.seqD (plan := pl [(0, none), (1, none), (2, none), (3, none), (4, none), (5, none), (6, none), (7, none), (8, none)]) (by kernel_rfl) rfl (by kernel_rfl) fun K13 hK13 => ?_
  simp only [go_sem, simprocAttr, hw10, hxs_20, hxs_21]
  first | apply hK13 | refine ⟨sd, hK13 _ _ ?_⟩
  refine cM hm (fun hc14 hm => ?_) (fun hc14 hm => ?_)
  ·refine Wp.seqR fun K15 hK15 => ?_
   simp only [go_sem, simprocAttr, hw10, hxs_20, hxs_21]
   first | apply hK15 | refine ⟨sd, hK15 _ _ ?_⟩
   refine Wp.ret ?_
   refine retQ_ret ?_
   cases hm
   simp only [go_sem, simprocAttr, hw10, hxs_20, hxs_21]
   try exact se4
  ·refine Wp.skip ?_
   refine hK11 _ _ ?_
   refine Wp.region fun K16 hK16 => ?_
   simp only [go_sem, simprocAttr, hw10, hxs_20, hxs_21]
   first | apply hK16 | refine ⟨sd, hK16 _ _ ?_⟩
   simp only [thenQ, blockQ, ↓reduceIte]
   refine ⟨(), hlt10, hnx_17 _ hm, ?_⟩
   simp only [go_sem, simprocAttr, hw10, hxs_20, hxs_21]
   try exact se4
theorem ok_slices_Equal_api_Held_api_Held (s1_1 : List api_Held) (s2_2 : List api_Held) (z : Bool) (hm : slices_Equal_api_Held_api_Held s1_1 s2_2 = some z) : Does Tryd.prog 14 [.p (.l (List.map enc_api_Held s1_1)), .p (.l (List.map enc_api_Held s2_2))] [] (fun r X => r = .p (.b z) ∧ X = []) := by
 unfold slices_Equal_api_Held_api_Held at hm
 refine Does.of_wp 0 26 [.tmp 4] Tryd.func14 rfl (by decide) rfl rfl (Nat.le_of_ble_eq_true rfl) fun B => ?_
 refine qS ?_
 refine Wp.seqW fun K2 hK2 hW2 => ?_
 refine qS ?_
 refine cM hm (fun hc4 hm => ?_) (fun hc4 hm => ?_)
 ·refine qS ?_
  refine Wp.ret ?_
  refine retQ_ret ?_
  cases hm
  exact fse4
 ·refine Wp.skip ?_
  refine hK2 _ _ ?_
  refine Wp.seqW fun K6 hK6 hW6 => ?_
  obtain ⟨k_12, hk_12, hm⟩ := jp_elim hm
  have hcut6 : ∀ s, k_12 s = some z → K6 [] [] := by
   intro s hs
   have hm := hk_12 _ hs
   clear hs
   try dsimp only at hm
   try dsimp only
   refine hK6 _ _ ?_
   refine qS ?_
   refine Wp.ret ?_
   refine retQ_ret ?_
   cases hm
   exact fse4
  clear hK6 hk_12
  refine qS ?_
  refine Wp.block ?_
  obtain ⟨k_16, hk_16, hm⟩ := forL_cont hm
  refine Wp.fact 0 fun hl_19 => ?_
  replace hl_19 : s1_1.length ≤ 274877906944 := by
   simp only [go_sem, simprocAttr, List.length_map] at hl_19
   omega
  refine Wp.forL (fun i_18 s => [(0, .p (.l (List.map enc_api_Held s1_1))), (1, .p (.l (List.map enc_api_Held s2_2))), (12, .p (.i .i64 (s1_1.length : Int))), (13, .p (.i .i64 (i_18 : Int)))]) (fun i_18 s => []) ?_ hm ?_
  ·
   exact fse4
  clear hm
  intro i_18 s hii_18 hm
  try dsimp only at hm
  try dsimp only
  refine qS ?_
  refine Wp.seqW fun K10 hK10 hW10 => ?_
  refine Wp.cond rfl ⟨⟩ (fun hc10 => ?_) (fun hc10 => ?_)
  rotate_left
  ·refine Wp.exit ?_
   have hm := hk_16 _ (forL_end hm (ge_nat (by first | exact hc10 | simpa using hc10)))
   try dsimp only at hm
   refine hW6 _ _ _ _ ?_ (hcut6 () hm)
   exact fse4
  have hlt10 := lt_nat (by first | exact hc10 | simpa using hc10)
  have hw10 := wrap_succ hlt10 hl_19
  obtain ⟨h_20, nx_17, hxh_20, hyh_20, hnx_17, hm⟩ := forL_step hm hlt10
  replace hxh_20 := hxh_20 enc_api_Held
  refine Wp.skip ?_
  simp only [thenQ]
  refine hK10 _ _ ?_
  refine Wp.seqW fun K11 hK11 hW11 => ?_
  refine Wp.block ?_
  refine Wp.seqR fun K12 hK12 => ?_
  simp only [go_sem, simprocAttr, hw10, hxh_20]
  first | apply hK12 | refine ⟨sd, hK12 _ _ ?_⟩
  obtain ⟨h_21, hbh_21, hxh_21, hyh_21, hm⟩ := idx_elim hm
  replace hxh_21 : ∀ d, (List.map enc_api_Held s2_2).getD i_18 d = enc_api_Held h_21 := hxh_21 enc_api_Held
  refine Wp.seqD (plan := pl [(0, none), (1, none), (2, none), (3, none), (4, none), (5, none), (6, none), (7, none), (8, none)]) (by kernel_rfl) rfl (by kernel_rfl) fun K13 hK13 => ?_
  simp only [go_sem, simprocAttr, hw10, hxh_20, hxh_21]
  first | apply hK13 | refine ⟨sd, hK13 _ _ ?_⟩
  refine cM hm (fun hc14 hm => ?_) (fun hc14 hm => ?_)
  ·refine Wp.seqR fun K15 hK15 => ?_
   simp only [go_sem, simprocAttr, hw10, hxh_20, hxh_21]
   first | apply hK15 | refine ⟨sd, hK15 _ _ ?_⟩
   refine Wp.ret ?_
   refine retQ_ret ?_
   cases hm
   simp only [go_sem, simprocAttr, hw10, hxh_20, hxh_21]
   try exact se4
  ·refine Wp.skip ?_
   refine hK11 _ _ ?_
   refine Wp.region fun K16 hK16 => ?_
   simp only [go_sem, simprocAttr, hw10, hxh_20, hxh_21]
   first | apply hK16 | refine ⟨sd, hK16 _ _ ?_⟩
   simp only [thenQ, blockQ, ↓reduceIte]
   refine ⟨(), hlt10, hnx_17 _ hm, ?_⟩
   simp only [go_sem, simprocAttr, hw10, hxh_20, hxh_21]
   try exact se4
theorem ok_Law_KeepsCheck (x_1 : api_Item) (k_2 : api_Keep) (kind_3 : Int) (path_4 : Str) (owner_5 : Str) (z : Bool) (hm : Law_KeepsCheck x_1 k_2 kind_3 path_4 owner_5 = some z) : Does Tryd.prog 3 [.agg [.p (.i .i64 x_1.Kind), .p (.s x_1.File.Path), .p (.s x_1.File.Data), .p (.b x_1.File.Runs), .p (.s x_1.Setting.Key), .p (.s x_1.Setting.Value), .p (.s x_1.Service.Name), .p (.s x_1.Service.Path), .p (.b x_1.Service.Auto), .p (.b x_1.Service.On)], .agg [.p (.l (List.map enc_api_Held k_2.Held))], .p (.i .i64 kind_3), .p (.s path_4), .p (.s owner_5)] [] (fun r X => r = .p (.b z) ∧ X = []) := by
 unfold Law_KeepsCheck at hm
 refine Does.of_wp 0 169 [.tmp 10] Tryd.func3 rfl (by decide) rfl rfl (Nat.le_of_ble_eq_true rfl) fun B => ?_
 refine qS ?_
 refine Wp.seqW fun K2 hK2 hW2 => ?_
 obtain ⟨r_6, hr_6, hm⟩ := call_elim hm
 refine Wp.seqR fun K3 hK3 => ?_
 simp only [go_sem, simprocAttr]
 try refine ⟨sd, ?_⟩
 refine Rg.callX (av := ?av4) (g := true) (fun hg => ok_Law_landed  _ hr_6) si si si sg si ?cont4
 intro hv4
 simp only [go_sem, simprocAttr]
 first | apply hK3 | refine ⟨sd, hK3 _ _ ?_⟩
 refine cM hm (fun hc5 hm => ?_) (fun hc5 hm => ?_)
 ·refine qS ?_
  refine Wp.ret ?_
  refine retQ_ret ?_
  cases hm
  exact fse1
 ·refine Wp.skip ?_
  refine hK2 _ _ ?_
  refine Wp.seqW fun K7 hK7 hW7 => ?_
  obtain ⟨r_7, hr_7, hm⟩ := call_elim hm
  obtain ⟨r_8, hr_8, hm⟩ := call_elim hm
  refine Wp.seqD (plan := pl [(0, none), (1, none), (2, none), (3, none), (4, none)]) (by kernel_rfl) rfl (by kernel_rfl) fun K8 hK8 => ?_
  simp only [go_sem, simprocAttr]
  try refine ⟨sd, ?_⟩
  refine Dr.callF (av := ?av9) (g := true) (o := ?o9) (fun hg => ok_keep_CheckItem x_1 _ hr_7) si si si si sg si ?cont9
  simp only [go_sem, simprocAttr]
  try refine ⟨sd, ?_⟩
  refine Dr.callF (av := ?av10) (g := true) (o := ?o10) (fun hg => ok_R_ItemError x_1 _ hr_8) si si si si sg si ?cont10
  simp only [go_sem, simprocAttr]
  first | apply hK8 | refine ⟨sd, hK8 _ _ ?_⟩
  refine cM hm (fun hc11 hm => ?_) (fun hc11 hm => ?_)
  ·refine qS ?_
   refine Wp.ret ?_
   refine retQ_ret ?_
   cases hm
   exact fse2
  ·refine Wp.skip ?_
   refine hK7 _ _ ?_
   obtain ⟨r_9, hr_9, hm⟩ := call_elim hm
   refine Wp.seqR fun K13 hK13 => ?_
   simp only [go_sem, simprocAttr]
   try refine ⟨sd, ?_⟩
   refine Rg.callX (av := ?av14) (g := true) (fun hg => ok_R_KeepError k_2 _ hr_9) si si si sg si ?cont14
   intro hv14
   simp only [go_sem, simprocAttr]
   first | apply hK13 | refine ⟨sd, hK13 _ _ ?_⟩
   obtain ⟨r_10, hr_10, hm⟩ := call_elim hm
   refine Wp.seqR fun K15 hK15 => ?_
   simp only [go_sem, simprocAttr]
   try refine ⟨sd, ?_⟩
   refine Rg.callF (av := ?av16) (ok_keep_Owners k_2 kind_3 path_4 _ hr_10) si si sg ?cont16
   intro hv16
   simp only [go_sem, simprocAttr]
   first | apply hK15 | refine ⟨sd, hK15 _ _ ?_⟩
   obtain ⟨r_11, hr_11, hm⟩ := call_elim hm
   refine Wp.seqR fun K17 hK17 => ?_
   simp only [go_sem, simprocAttr]
   try refine ⟨sd, ?_⟩
   refine Rg.callF (av := ?av18) (ok_keep_Things k_2 owner_5 _ hr_11) si si sg ?cont18
   intro hv18
   simp only [go_sem, simprocAttr]
   first | apply hK17 | refine ⟨sd, hK17 _ _ ?_⟩
   refine Wp.seqW fun K19 hK19 hW19 => ?_
   obtain ⟨r_12, hr_12, hm⟩ := call_elim hm
   refine Wp.seqR fun K20 hK20 => ?_
   simp only [go_sem, simprocAttr]
   try refine ⟨sd, ?_⟩
   refine Rg.callX (av := ?av21) (g := true) (fun hg => ok_keep_Check k_2 _ hr_12) si si si sg si ?cont21
   intro hv21
   simp only [go_sem, simprocAttr]
   first | apply hK20 | refine ⟨sd, hK20 _ _ ?_⟩
   refine cM hm (fun hc22 hm => ?_) (fun hc22 hm => ?_)
   ·refine qS ?_
    refine Wp.ret ?_
    refine retQ_ret ?_
    cases hm
    exact fse4
   ·refine Wp.skip ?_
    refine hK19 _ _ ?_
    refine Wp.seqW fun K24 hK24 hW24 => ?_
    refine qS ?_
    refine cM hm (fun hc26 hm => ?_) (fun hc26 hm => ?_)
    ·obtain ⟨v_13, hv_14, hm⟩ := letv_elim hm
     refine Wp.seqR fun K27 hK27 => ?_
     simp only [go_sem, simprocAttr, hv_14]
     first | apply hK27 | refine ⟨sd, hK27 _ _ ?_⟩
     refine Wp.ret ?_
     refine retQ_ret ?_
     cases hm
     simp only [go_sem, simprocAttr, hv_14]
     try exact se4
    ·refine Wp.skip ?_
     refine hK24 _ _ ?_
     refine qS ?_
     refine Wp.seqW fun K29 hK29 hW29 => ?_
     obtain ⟨k_58, hk_58, hm⟩ := jp_elim hm
     have hcut29 : ∀ s, k_58 s = some z → K29 [(4, .p (.s owner_5)), (6, .ptr 1 0), (14, .p (.l (List.map enc_api_Held r_11.1))), (15, .p (.i .i64 r_11.2))] [.cells 29 [.top, .top, .top, .top, .top, .top, .top, .top, .top, .top], .cells 32 [.p (.l (List.map enc_api_Held k_2.Held))]] := by
      intro s hs
      have hm := hk_58 _ hs
      clear hs
      try dsimp only at hm
      try dsimp only
      refine hK29 _ _ ?_
      refine Wp.seqW fun K30 hK30 hW30 => ?_
      obtain ⟨r_59, hr_59, hm⟩ := call_elim hm
      refine Wp.seqR fun K31 hK31 => ?_
      simp only [go_sem, simprocAttr]
      try refine ⟨sd, ?_⟩
      refine Rg.callX (av := ?av32) (g := true) (fun hg => ok_R_IsName owner_5 _ hr_59) si si si sg si ?cont32
      intro hv32
      simp only [go_sem, simprocAttr]
      first | apply hK31 | refine ⟨sd, hK31 _ _ ?_⟩
      refine cM hm (fun hc33 hm => ?_) (fun hc33 hm => ?_)
      ·refine qS ?_
       refine Wp.ret ?_
       refine retQ_ret ?_
       cases hm
       exact fse4
      ·refine Wp.skip ?_
       refine hK30 _ _ ?_
       refine qS ?_
       refine Wp.seqW fun K36 hK36 hW36 => ?_
       obtain ⟨k_74, hk_74, hm⟩ := jp_elim hm
       have hcut36 : ∀ s, k_74 s = some z → K36 [(14, .p (.l (List.map enc_api_Held r_11.1))), (15, .p (.i .i64 r_11.2)), (20, .buf 2)] [.cells 29 [.top, .top, .top, .top, .top, .top, .top, .top, .top, .top], .cells 32 [.top], .buf 44 5 (List.map enc_api_Held s)] := by
        intro o2_73 hs
        have hm := hk_74 _ hs
        clear hs
        try dsimp only at hm
        try dsimp only
        refine hK36 _ _ ?_
        obtain ⟨r_75, hr_75, hm⟩ := callG_elim hm
        refine Wp.seqR fun K37 hK37 => ?_
        simp only [go_sem, simprocAttr]
        try refine ⟨sd, ?_⟩
        refine Rg.callX (av := ?av38) (g := decide (r_11.2 = 0)) (fun hg => ok_slices_Equal_api_Held_api_Held r_11.1 o2_73 _ (hr_75 hg)) si si (by simp only [go_sem, simprocAttr, List.map_append, List.map_cons, List.map_nil]; exact Is.mk) sg si ?cont38
        intro hv38
        simp only [go_sem, simprocAttr]
        first | apply hK37 | refine ⟨sd, hK37 _ _ ?_⟩
        refine Wp.ret ?_
        refine retQ_ret ?_
        cases hm
        exact fse4
       clear hK36 hk_74
       refine qS ?_
       refine Wp.block ?_
       refine Wp.adopt 20 44 5 rfl ?_
       simp only [go_sem, simprocAttr]
       obtain ⟨k_83, hk_83, hm⟩ := forL_cont hm
       refine Wp.fact 147 fun hl_86 => ?_
       replace hl_86 : k_2.Held.length ≤ 274877906944 := by
        simp only [go_sem, simprocAttr, List.length_map] at hl_86
        omega
       refine Wp.forL (fun i_85 s => [(4, .p (.s owner_5)), (14, .p (.l (List.map enc_api_Held r_11.1))), (15, .p (.i .i64 r_11.2)), (20, .buf 2), (147, .p (.l (List.map enc_api_Held k_2.Held))), (148, .p (.i .i64 (k_2.Held.length : Int))), (149, .p (.i .i64 (i_85 : Int)))]) (fun i_85 s => [.cells 29 [.top, .top, .top, .top, .top, .top, .top, .top, .top, .top], .cells 32 [.p (.l (List.map enc_api_Held k_2.Held))], .buf 44 5 (List.map enc_api_Held s)]) ?_ hm ?_
       ·
        exact fse4
       clear hm
       intro i_85 o2_80 hii_85 hm
       try dsimp only at hm
       try dsimp only
       refine qS ?_
       refine Wp.seqW fun K41 hK41 hW41 => ?_
       refine Wp.cond rfl ⟨⟩ (fun hc41 => ?_) (fun hc41 => ?_)
       rotate_left
       ·refine Wp.exit ?_
        have hm := hk_83 _ (forL_end hm (ge_nat (by first | exact hc41 | simpa using hc41)))
        try dsimp only at hm
        refine hW36 _ _ _ _ ?_ (hcut36 o2_80 hm)
        exact fse4
       have hlt41 := lt_nat (by first | exact hc41 | simpa using hc41)
       have hw41 := wrap_succ hlt41 hl_86
       obtain ⟨h_87, nx_84, hxh_87, hyh_87, hnx_84, hm⟩ := forL_step hm hlt41
       replace hxh_87 := hxh_87 enc_api_Held
       refine Wp.skip ?_
       simp only [thenQ]
       refine hK41 _ _ ?_
       refine Wp.seqW fun K42 hK42 hW42 => ?_
       refine Wp.block ?_
       refine Wp.seqR fun K43 hK43 => ?_
       simp only [go_sem, simprocAttr, hw41, hxh_87]
       first | apply hK43 | refine ⟨sd, hK43 _ _ ?_⟩
       refine Wp.seqR fun K44 hK44 => ?_
       simp only [go_sem, simprocAttr, hw41, hxh_87]
       first | apply hK44 | refine ⟨sd, hK44 _ _ ?_⟩
       refine cM hm (fun hc45 hm => ?_) (fun hc45 hm => ?_)
       ·obtain ⟨c_88, hm⟩ := chk_elim hm
        refine Wp.region fun K46 hK46 => ?_
        simp only [go_sem, simprocAttr, hw41, hxh_87]
        first | apply hK46 | refine ⟨by first | exact sd | ((repeat' apply And.intro) <;> first | assumption | omega | (simp only [List.length_append, List.length_map, List.length_cons, List.length_nil, List.length_set, List.length_replicate] at c_88 ⊢; omega)), hK46 _ _ ?_⟩
        refine hK42 _ _ ?_
        refine Wp.region fun K47 hK47 => ?_
        simp only [go_sem, simprocAttr, hw41, hxh_87]
        first | apply hK47 | refine ⟨sd, hK47 _ _ ?_⟩
        simp only [thenQ, blockQ, ↓reduceIte]
        refine ⟨o2_80 ++ [h_87], hlt41, hnx_84 _ hm, ?_⟩
        simp only [go_sem, simprocAttr, hw41, hxh_87]
        try exact se4
       ·refine Wp.skip ?_
        refine hK42 _ _ ?_
        refine Wp.region fun K48 hK48 => ?_
        simp only [go_sem, simprocAttr, hw41, hxh_87]
        first | apply hK48 | refine ⟨sd, hK48 _ _ ?_⟩
        simp only [thenQ, blockQ, ↓reduceIte]
        refine ⟨o2_80, hlt41, hnx_84 _ hm, ?_⟩
        simp only [go_sem, simprocAttr, hw41, hxh_87]
        try exact se4
     clear hK29 hk_58
     refine Wp.block ?_
     refine qS ?_
     refine cM hm (fun hc50 hm => ?_) (fun hc50 hm => ?_)
     ·refine qS ?_
      refine cM hm (fun hc52 hm => ?_) (fun hc52 hm => ?_)
      ·refine qS ?_
       refine Wp.ret ?_
       refine retQ_ret ?_
       cases hm
       exact fse4
      ·refine Wp.skip ?_
       refine hW29 _ _ _ _ ?_ (hcut29 () hm)
       exact fse4
     ·obtain ⟨r_89, hr_89, hm⟩ := callG_elim hm
      obtain ⟨r_90, hr_90, hm⟩ := callG_elim hm
      refine Wp.seqR fun K54 hK54 => ?_
      simp only [go_sem, simprocAttr]
      try refine ⟨sd, ?_⟩
      refine Rg.callX (av := ?av55) (g := decide (kind_3 = 6)) (fun hg => ok_R_IsName path_4 _ (hr_89 hg)) si si si sg si ?cont55
      intro hv55
      simp only [go_sem, simprocAttr]
      try refine ⟨sd, ?_⟩
      refine Rg.callX (av := ?av56) (g := ((!((decide (kind_3 = 6)) && (!r_89))) && (!(decide (kind_3 = 6))))) (fun hg => ok_R_IsPath path_4 _ (hr_90 hg)) si si si sg si ?cont56
      intro hv56
      simp only [go_sem, simprocAttr]
      first | apply hK54 | refine ⟨sd, hK54 _ _ ?_⟩
      refine cM hm (fun hc57 hm => ?_) (fun hc57 hm => ?_)
      ·refine qS ?_
       refine cM hm (fun hc59 hm => ?_) (fun hc59 hm => ?_)
       ·refine qS ?_
        refine Wp.ret ?_
        refine retQ_ret ?_
        cases hm
        exact fse4
       ·refine Wp.skip ?_
        refine hW29 _ _ _ _ ?_ (hcut29 () hm)
        exact fse4
      ·refine qS ?_
       refine Wp.seqW fun K62 hK62 hW62 => ?_
       obtain ⟨k_111, hk_111, hm⟩ := jp_elim hm
       have hcut62 : ∀ s, k_111 s = some z → K62 [(4, .p (.s owner_5)), (6, .ptr 1 0), (12, .p (.l (List.map ecS r_10.1))), (13, .p (.i .i64 r_10.2)), (14, .p (.l (List.map enc_api_Held r_11.1))), (15, .p (.i .i64 r_11.2)), (17, .buf 2)] [.cells 29 [.top, .top, .top, .top, .top, .top, .top, .top, .top, .top], .cells 32 [.p (.l (List.map enc_api_Held k_2.Held))], .buf 9 1 (List.map ecS s)] := by
        intro o2_110 hs
        have hm := hk_111 _ hs
        clear hs
        try dsimp only at hm
        try dsimp only
        refine hK62 _ _ ?_
        obtain ⟨r_112, hr_112, hm⟩ := callG_elim hm
        refine Wp.seqR fun K63 hK63 => ?_
        simp only [go_sem, simprocAttr]
        try refine ⟨sd, ?_⟩
        refine Rg.callX (av := ?av64) (g := !(!decide (r_10.2 = 0))) (fun hg => ok_slices_Equal_string_string r_10.1 o2_110 _ (hr_112 hg)) si si (by simp only [go_sem, simprocAttr, List.map_append, List.map_cons, List.map_nil]; exact Is.mk) sg si ?cont64
        intro hv64
        simp only [go_sem, simprocAttr]
        first | apply hK63 | refine ⟨sd, hK63 _ _ ?_⟩
        refine cM hm (fun hc65 hm => ?_) (fun hc65 hm => ?_)
        ·refine qS ?_
         refine Wp.ret ?_
         refine retQ_ret ?_
         cases hm
         exact fse4
        ·refine Wp.skip ?_
         refine hW29 _ _ _ _ ?_ (hcut29 () hm)
         exact fse4
       clear hK62 hk_111
       refine qS ?_
       refine Wp.block ?_
       refine Wp.adopt 17 9 1 rfl ?_
       simp only [go_sem, simprocAttr]
       obtain ⟨k_124, hk_124, hm⟩ := forL_cont hm
       refine Wp.fact 70 fun hl_127 => ?_
       replace hl_127 : k_2.Held.length ≤ 274877906944 := by
        simp only [go_sem, simprocAttr, List.length_map] at hl_127
        omega
       refine Wp.forL (fun i_126 s => [(2, .p (.i .i64 kind_3)), (3, .p (.s path_4)), (4, .p (.s owner_5)), (6, .ptr 1 0), (12, .p (.l (List.map ecS r_10.1))), (13, .p (.i .i64 r_10.2)), (14, .p (.l (List.map enc_api_Held r_11.1))), (15, .p (.i .i64 r_11.2)), (16, .p (.b (decide (kind_3 = 6)))), (17, .buf 2), (70, .p (.l (List.map enc_api_Held k_2.Held))), (71, .p (.i .i64 (k_2.Held.length : Int))), (72, .p (.i .i64 (i_126 : Int)))]) (fun i_126 s => [.cells 29 [.p (.i .i64 x_1.Kind), .p (.s x_1.File.Path), .p (.s x_1.File.Data), .p (.b x_1.File.Runs), .p (.s x_1.Setting.Key), .p (.s x_1.Setting.Value), .p (.s x_1.Service.Name), .p (.s x_1.Service.Path), .p (.b x_1.Service.Auto), .p (.b x_1.Service.On)], .cells 32 [.p (.l (List.map enc_api_Held k_2.Held))], .buf 9 1 (List.map ecS s)]) ?_ hm ?_
       ·
        exact fse4
       clear hm
       intro i_126 o2_119 hii_126 hm
       try dsimp only at hm
       try dsimp only
       refine qS ?_
       refine Wp.seqW fun K69 hK69 hW69 => ?_
       refine Wp.cond rfl ⟨⟩ (fun hc69 => ?_) (fun hc69 => ?_)
       rotate_left
       ·refine Wp.exit ?_
        have hm := hk_124 _ (forL_end hm (ge_nat (by first | exact hc69 | simpa using hc69)))
        try dsimp only at hm
        refine hW62 _ _ _ _ ?_ (hcut62 o2_119 hm)
        exact fse4
       have hlt69 := lt_nat (by first | exact hc69 | simpa using hc69)
       have hw69 := wrap_succ hlt69 hl_127
       obtain ⟨h_128, nx_125, hxh_128, hyh_128, hnx_125, hm⟩ := forL_step hm hlt69
       replace hxh_128 := hxh_128 enc_api_Held
       refine Wp.skip ?_
       simp only [thenQ]
       refine hK69 _ _ ?_
       refine Wp.seqW fun K70 hK70 hW70 => ?_
       refine Wp.block ?_
       refine Wp.seqR fun K71 hK71 => ?_
       simp only [go_sem, simprocAttr, hw69, hxh_128]
       first | apply hK71 | refine ⟨sd, hK71 _ _ ?_⟩
       obtain ⟨v_129, hv_130, hm⟩ := letv_elim hm
       refine Wp.seqR fun K72 hK72 => ?_
       simp only [go_sem, simprocAttr, hw69, hxh_128, hv_130]
       first | apply hK72 | refine ⟨sd, hK72 _ _ ?_⟩
       refine cM hm (fun hc73 hm => ?_) (fun hc73 hm => ?_)
       ·obtain ⟨c_131, hm⟩ := chk_elim hm
        refine Wp.region fun K74 hK74 => ?_
        simp only [go_sem, simprocAttr, hw69, hxh_128, hv_130]
        first | apply hK74 | refine ⟨by first | exact sd | ((repeat' apply And.intro) <;> first | assumption | omega | (simp only [List.length_append, List.length_map, List.length_cons, List.length_nil, List.length_set, List.length_replicate] at c_131 ⊢; omega)), hK74 _ _ ?_⟩
        refine hK70 _ _ ?_
        refine Wp.region fun K75 hK75 => ?_
        simp only [go_sem, simprocAttr, hw69, hxh_128, hv_130]
        first | apply hK75 | refine ⟨sd, hK75 _ _ ?_⟩
        simp only [thenQ, blockQ, ↓reduceIte]
        refine ⟨o2_119 ++ [h_128.Owner], hlt69, hnx_125 _ hm, ?_⟩
        simp only [go_sem, simprocAttr, hw69, hxh_128, hv_130]
        try exact se4
       ·refine Wp.skip ?_
        refine hK70 _ _ ?_
        refine Wp.region fun K76 hK76 => ?_
        simp only [go_sem, simprocAttr, hw69, hxh_128, hv_130]
        first | apply hK76 | refine ⟨sd, hK76 _ _ ?_⟩
        simp only [thenQ, blockQ, ↓reduceIte]
        refine ⟨o2_119, hlt69, hnx_125 _ hm, ?_⟩
        simp only [go_sem, simprocAttr, hw69, hxh_128, hv_130]
        try exact se4
end Go.Proofs.YtbbkahmljdogiaaDoor
