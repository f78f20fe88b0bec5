/- That the code does what the models say (part 6). -/
import Derived.Test.YthmjpfooffbhhaaGreatDoorLjWk0
import Derived.Test.YthmjpfooffbhhaaGreatDoorLjWk1
import Derived.Test.YthmjpfooffbhhaaGreatDoorLjWk3
import Derived.Test.YthmjpfooffbhhaaGreatDoorLjWk4
import Derived.Test.YthmjpfooffbhhaaGreatDoorLjWk5
set_option linter.unusedSimpArgs false
set_option linter.unusedVariables false
open Go.Proofs Go.Shelf
namespace Go.Proofs.YthmjpfooffbhhaaGreatDoor
open Go.Vc Go.Md
set_option maxRecDepth 100000
set_option maxHeartbeats 4000000
theorem ok_ver_IsValue_1 (c_1 : Int) (z : Bool) (hm : ver_IsValue_1 c_1 = some z) : Does Tryz.prog 100 [.p (.i .u8 c_1)] [] (fun r X => r = .p (.b z) ∧ X = []) := by
 unfold ver_IsValue_1 at hm
 refine Does.of_wp 0 9 [.tmp 2] Tryz.func100 rfl (by decide) rfl rfl (Nat.le_of_ble_eq_true rfl) fun B => ?_
 refine qS ?_
 refine qS ?_
 refine Wp.ret ?_
 refine retQ_ret ?_
 cases hm
 exact fse3
theorem ok_ver_each_i4 (s_1 : Str) (most_2 : Int) (z : Bool) (hm : ver_each_i4 s_1 most_2 = some z) : Does Tryz.prog 44 [.p (.s s_1), .p (.i .i64 most_2), .fn 100 []] [] (fun r X => r = .p (.b z) ∧ X = []) := by
 unfold ver_each_i4 at hm
 refine Does.of_wp 0 28 [.tmp 6] Tryz.func44 rfl (by decide) rfl rfl (Nat.le_of_ble_eq_true rfl) fun B => ?_
 refine qS ?_
 refine Wp.seqW fun K2 hK2 hW2 => ?_
 obtain ⟨k_12, hk_12, hm⟩ := jp_elim hm
 have hcut2 : ∀ s, k_12 s = some z → K2 [(0, .p (.s s_1)), (1, .p (.i .i64 most_2))] [] := by
  intro s hs
  have hm := hk_12 _ hs
  clear hs
  try dsimp only at hm
  try dsimp only
  refine hK2 _ _ ?_
  refine qS ?_
  refine Wp.ret ?_
  refine retQ_ret ?_
  cases hm
  exact fse3
 clear hK2 hk_12
 refine qS ?_
 refine Wp.block ?_
 obtain ⟨k_16, hk_16, hm⟩ := forL_cont hm
 refine Wp.fact 0 fun hl_19 => ?_
 replace hl_19 : s_1.length ≤ 274877906944 := by
  simp only [go_sem, simprocAttr, List.length_map] at hl_19
  omega
 refine Wp.forL (fun i_18 s => [(0, .p (.s s_1)), (1, .p (.i .i64 most_2)), (2, .fn 100 []), (7, .p (.i .i64 (i_18 : Int)))]) (fun i_18 s => []) ?_ hm ?_
 ·
  exact fse3
 clear hm
 intro i_18 s hii_18 hm
 try dsimp only at hm
 try dsimp only
 refine Wp.seqW fun K5 hK5 hW5 => ?_
 refine qS ?_
 refine Wp.cond rfl ⟨⟩ (fun hc5 => ?_) (fun hc5 => ?_)
 rotate_left
 ·refine Wp.exit ?_
  have hm := hk_16 _ (forL_end hm (ge_nat (by first | exact hc5 | simpa using hc5)))
  try dsimp only at hm
  refine hW2 _ _ _ _ ?_ (hcut2 () hm)
  exact fse3
 have hlt5 := lt_nat (by first | exact hc5 | simpa using hc5)
 have hw5 := wrap_succ hlt5 hl_19
 obtain ⟨c_20, nx_17, hxc_20, hyc_20, hnx_17, hm⟩ := forL_step hm hlt5
 clear hxc_20
 refine Wp.skip ?_
 simp only [thenQ]
 refine hK5 _ _ ?_
 refine Wp.seqW fun K7 hK7 hW7 => ?_
 refine Wp.block ?_
 obtain ⟨r_21, hr_21, hm⟩ := call_elim hm
 refine Wp.seqR fun K8 hK8 => ?_
 simp only [go_sem, simprocAttr, hw5, hyc_20]
 try refine ⟨sd, ?_⟩
 refine Rg.callX (av := ?av9) (g := true) (fun hg => ok_ver_IsValue_1 (c_20.toNat : Int) _ hr_21) (by simp only [go_sem, simprocAttr, hw5, hyc_20]; exact Is.mk) (by simp only [go_sem, simprocAttr, hw5, hyc_20]; exact Is.mk) (by simp only [go_sem, simprocAttr, hw5, hyc_20]; exact Is.mk) (by simp only [go_sem, simprocAttr, hw5, hyc_20]) (by simp only [go_sem, simprocAttr, hw5, hyc_20]; exact Is.mk) ?cont9
 intro hv9
 simp only [go_sem, simprocAttr, hw5, hyc_20]
 first | apply hK8 | refine ⟨sd, hK8 _ _ ?_⟩
 refine cM hm (fun hc10 hm => ?_) (fun hc10 hm => ?_)
 ·refine Wp.seqR fun K11 hK11 => ?_
  simp only [go_sem, simprocAttr, hw5, hyc_20]
  first | apply hK11 | refine ⟨sd, hK11 _ _ ?_⟩
  refine Wp.ret ?_
  refine retQ_ret ?_
  cases hm
  simp only [go_sem, simprocAttr, hw5, hyc_20]
  try exact se3
 ·refine Wp.skip ?_
  refine hK7 _ _ ?_
  refine Wp.region fun K12 hK12 => ?_
  simp only [go_sem, simprocAttr, hw5, hyc_20]
  first | apply hK12 | refine ⟨sd, hK12 _ _ ?_⟩
  simp only [thenQ, blockQ, ↓reduceIte]
  refine ⟨(), hlt5, hnx_17 _ hm, ?_⟩
  simp only [go_sem, simprocAttr, hw5, hyc_20]
  try exact se3
theorem ok_ver_IsValue (s_1 : Str) (z : Bool) (hm : ver_IsValue s_1 = some z) : Does Tryz.prog 83 [.p (.s s_1)] [] (fun r X => r = .p (.b z) ∧ X = []) := by
 unfold ver_IsValue at hm
 refine Does.of_wp 0 9 [.tmp 2] Tryz.func83 rfl (by decide) rfl rfl (Nat.le_of_ble_eq_true rfl) fun B => ?_
 refine qS ?_
 obtain ⟨r_2, hr_2, hm⟩ := callG_elim hm
 refine Wp.seqR fun K2 hK2 => ?_
 simp only [go_sem, simprocAttr]
 try refine ⟨sd, ?_⟩
 refine Rg.callX (av := ?av3) (g := !(decide (s_1 = []))) (fun hg => ok_ver_each_i4 s_1 1000 _ (hr_2 hg)) si si si sg si ?cont3
 intro hv3
 simp only [go_sem, simprocAttr]
 first | apply hK2 | refine ⟨sd, hK2 _ _ ?_⟩
 refine Wp.ret ?_
 refine retQ_ret ?_
 cases hm
 exact fse3
theorem ok_log_CheckRecord (r_1 : api_Record) (z : Int) (hm : log_CheckRecord r_1 = some z) : Does Tryz.prog 55 [.agg [.p (.i .i64 r_1.Time), .p (.i .i64 r_1.Kind), .p (.s r_1.Pack), .p (.i .i64 r_1.From.Major), .p (.i .i64 r_1.From.Minor), .p (.i .i64 r_1.From.Patch), .p (.s r_1.From.Early), .p (.i .i64 r_1.To.Major), .p (.i .i64 r_1.To.Minor), .p (.i .i64 r_1.To.Patch), .p (.s r_1.To.Early), .p (.i .i64 r_1.Result), .p (.s r_1.Note)]] [] (fun r X => r = .p (.i .i64 z) ∧ X = []) := by
 unfold log_CheckRecord at hm
 refine Does.of_wp 0 94 [.tmp 2] Tryz.func55 rfl (by decide) rfl rfl (Nat.le_of_ble_eq_true rfl) fun B => ?_
 refine qS ?_
 refine Wp.seqW fun K2 hK2 hW2 => ?_
 refine Wp.block ?_
 obtain ⟨r_2, hr_2, hm⟩ := call_elim hm
 refine Wp.seqR fun K3 hK3 => ?_
 simp only [go_sem, simprocAttr]
 try refine ⟨sd, ?_⟩
 refine Rg.callX (av := ?av4) (g := true) (fun hg => ok_log_outside r_1.Time 0 1099511627776 _ hr_2) si si si sg si ?cont4
 intro hv4
 simp only [go_sem, simprocAttr]
 first | apply hK3 | refine ⟨sd, hK3 _ _ ?_⟩
 refine cM hm (fun hc5 hm => ?_) (fun hc5 hm => ?_)
 ·refine qS ?_
  refine Wp.ret ?_
  refine retQ_ret ?_
  cases hm
  exact fse3
 ·obtain ⟨r_3, hr_3, hm⟩ := call_elim hm
  refine Wp.seqR fun K7 hK7 => ?_
  simp only [go_sem, simprocAttr]
  try refine ⟨sd, ?_⟩
  refine Rg.callX (av := ?av8) (g := true) (fun hg => ok_log_outside r_1.Kind 1 6 _ hr_3) si si si sg si ?cont8
  intro hv8
  simp only [go_sem, simprocAttr]
  first | apply hK7 | refine ⟨sd, hK7 _ _ ?_⟩
  refine cM hm (fun hc9 hm => ?_) (fun hc9 hm => ?_)
  ·refine qS ?_
   refine Wp.ret ?_
   refine retQ_ret ?_
   cases hm
   exact fse3
  ·obtain ⟨r_4, hr_4, hm⟩ := call_elim hm
   refine Wp.seqR fun K11 hK11 => ?_
   simp only [go_sem, simprocAttr]
   try refine ⟨sd, ?_⟩
   refine Rg.callX (av := ?av12) (g := true) (fun hg => ok_ver_IsName r_1.Pack _ hr_4) si si si sg si ?cont12
   intro hv12
   simp only [go_sem, simprocAttr]
   first | apply hK11 | refine ⟨sd, hK11 _ _ ?_⟩
   refine cM hm (fun hc13 hm => ?_) (fun hc13 hm => ?_)
   ·refine qS ?_
    refine Wp.ret ?_
    refine retQ_ret ?_
    cases hm
    exact fse3
   ·refine Wp.skip ?_
    refine hK2 _ _ ?_
    refine Wp.seqW fun K15 hK15 hW15 => ?_
    obtain ⟨k_19, hk_19, hm⟩ := jp_elim hm
    have hcut15 : ∀ s, k_19 s = some z → K15 [(1, .ptr 0 0)] [.cells 32 [.p (.i .i64 r_1.Time), .p (.i .i64 r_1.Kind), .p (.s r_1.Pack), .p (.i .i64 r_1.From.Major), .p (.i .i64 r_1.From.Minor), .p (.i .i64 r_1.From.Patch), .p (.s r_1.From.Early), .p (.i .i64 r_1.To.Major), .p (.i .i64 r_1.To.Minor), .p (.i .i64 r_1.To.Patch), .p (.s r_1.To.Early), .p (.i .i64 r_1.Result), .p (.s r_1.Note)]] := by
     intro s hs
     have hm := hk_19 _ hs
     clear hs
     try dsimp only at hm
     try dsimp only
     refine hK15 _ _ ?_
     obtain ⟨r_20, hr_20, hm⟩ := call_elim hm
     refine Wp.seqR fun K16 hK16 => ?_
     simp only [go_sem, simprocAttr]
     try refine ⟨sd, ?_⟩
     refine Rg.callX (av := ?av17) (g := true) (fun hg => ok_log_uses r_1.Kind _ hr_20) si si si sg si ?cont17
     intro hv17
     simp only [go_sem, simprocAttr]
     first | apply hK16 | refine ⟨sd, hK16 _ _ ?_⟩
     refine qS ?_
     refine Wp.seqW fun K19 hK19 hW19 => ?_
     refine qS ?_
     refine cM hm (fun hc21 hm => ?_) (fun hc21 hm => ?_)
     ·refine qS ?_
      refine Wp.ret ?_
      refine retQ_ret ?_
      cases hm
      exact fse3
     ·refine Wp.skip ?_
      refine hK19 _ _ ?_
      obtain ⟨r_21, hr_21, hm⟩ := call_elim hm
      refine Wp.seqR fun K23 hK23 => ?_
      simp only [go_sem, simprocAttr]
      try refine ⟨sd, ?_⟩
      refine Rg.callX (av := ?av24) (g := true) (fun hg => ok_ver_Order r_1.From r_1.To _ hr_21) si si si sg si ?cont24
      intro hv24
      simp only [go_sem, simprocAttr]
      first | apply hK23 | refine ⟨sd, hK23 _ _ ?_⟩
      refine Wp.seqW fun K25 hK25 hW25 => ?_
      refine Wp.block ?_
      refine qS ?_
      refine cM hm (fun hc27 hm => ?_) (fun hc27 hm => ?_)
      ·refine qS ?_
       refine Wp.ret ?_
       refine retQ_ret ?_
       cases hm
       exact fse3
      ·obtain ⟨r_22, hr_22, hm⟩ := call_elim hm
       refine Wp.seqR fun K29 hK29 => ?_
       simp only [go_sem, simprocAttr]
       try refine ⟨sd, ?_⟩
       refine Rg.callX (av := ?av30) (g := true) (fun hg => ok_log_outside r_1.Result 0 18 _ hr_22) si si si sg si ?cont30
       intro hv30
       simp only [go_sem, simprocAttr]
       first | apply hK29 | refine ⟨sd, hK29 _ _ ?_⟩
       refine cM hm (fun hc31 hm => ?_) (fun hc31 hm => ?_)
       ·refine qS ?_
        refine Wp.ret ?_
        refine retQ_ret ?_
        cases hm
        exact fse3
       ·obtain ⟨r_23, hr_23, hm⟩ := call_elim hm
        refine Wp.seqR fun K33 hK33 => ?_
        simp only [go_sem, simprocAttr]
        try refine ⟨sd, ?_⟩
        refine Rg.callX (av := ?av34) (g := true) (fun hg => ok_ver_IsValue r_1.Note _ hr_23) si si si sg si ?cont34
        intro hv34
        simp only [go_sem, simprocAttr]
        first | apply hK33 | refine ⟨sd, hK33 _ _ ?_⟩
        refine cM hm (fun hc35 hm => ?_) (fun hc35 hm => ?_)
        ·refine qS ?_
         refine Wp.ret ?_
         refine retQ_ret ?_
         cases hm
         exact fse3
        ·refine Wp.skip ?_
         refine hK25 _ _ ?_
         refine qS ?_
         refine Wp.ret ?_
         refine retQ_ret ?_
         cases hm
         exact fse3
    clear hK15 hk_19
    refine qS ?_
    refine Wp.block ?_
    refine Wp.loopK 9 ?_
    simp only [WpL]
    refine qS ?_
    refine Wp.seqW fun K40 hK40 hW40 => ?_
    refine Wp.cond rfl ⟨⟩ (fun hc41 => ?_) (fun hc41 => ?_)
    rotate_left
    ·cases hc41
    refine Wp.skip ?_
    refine hK40 _ _ ?_
    refine Wp.seqW fun K42 hK42 hW42 => ?_
    refine Wp.block ?_
    refine qS ?_
    obtain ⟨r_36, hr_36, hm⟩ := call_elim hm
    refine Wp.seqR fun K44 hK44 => ?_
    simp only [go_sem, simprocAttr]
    try refine ⟨sd, ?_⟩
    refine Rg.callX (av := ?av45) (g := true) (fun hg => ok_ver_Check r_1.From _ hr_36) si si si sg si ?cont45
    intro hv45
    simp only [go_sem, simprocAttr]
    first | apply hK44 | refine ⟨sd, hK44 _ _ ?_⟩
    refine qS ?_
    refine cM hm (fun hc47 hm => ?_) (fun hc47 hm => ?_)
    ·refine qS ?_
     refine Wp.ret ?_
     refine retQ_ret ?_
     cases hm
     exact fse3
    ·refine Wp.skip ?_
     refine hK42 _ _ ?_
     refine qR ?_
     simp only [thenQ, blockQ, ↓reduceIte]
     try simp only [WpL]
     refine qS ?_
     refine Wp.seqW fun K51 hK51 hW51 => ?_
     refine Wp.cond rfl ⟨⟩ (fun hc52 => ?_) (fun hc52 => ?_)
     rotate_left
     ·cases hc52
     refine Wp.skip ?_
     refine hK51 _ _ ?_
     refine Wp.seqW fun K53 hK53 hW53 => ?_
     refine Wp.block ?_
     refine qS ?_
     obtain ⟨r_37, hr_37, hm⟩ := call_elim hm
     refine Wp.seqR fun K55 hK55 => ?_
     simp only [go_sem, simprocAttr]
     try refine ⟨sd, ?_⟩
     refine Rg.callX (av := ?av56) (g := true) (fun hg => ok_ver_Check r_1.To _ hr_37) si si si sg si ?cont56
     intro hv56
     simp only [go_sem, simprocAttr]
     first | apply hK55 | refine ⟨sd, hK55 _ _ ?_⟩
     refine qS ?_
     refine cM hm (fun hc58 hm => ?_) (fun hc58 hm => ?_)
     ·refine qS ?_
      refine Wp.ret ?_
      refine retQ_ret ?_
      cases hm
      exact fse3
     ·refine Wp.skip ?_
      refine hK53 _ _ ?_
      refine qR ?_
      simp only [thenQ, blockQ, ↓reduceIte]
      try simp only [WpL]
      refine qS ?_
      refine Wp.seqW fun K62 hK62 hW62 => ?_
      refine Wp.cond rfl ⟨⟩ (fun hc63 => ?_) (fun hc63 => ?_)
      ·cases hc63
      refine Wp.exit ?_
      refine hW15 _ _ _ _ ?_ (hcut15 () hm)
      exact fse3
theorem ok_log_table_fault_i1 (r_1 : api_Record) (o0_1_2 : Int) (m1_3 : List (Str × log_had)) (z : Int) (hm : log_table_fault_i1 r_1 o0_1_2 m1_3 = some z) : Does Tryz.prog 56 [.ptr 0 0, .agg [.p (.i .i64 r_1.Time), .p (.i .i64 r_1.Kind), .p (.s r_1.Pack), .p (.i .i64 r_1.From.Major), .p (.i .i64 r_1.From.Minor), .p (.i .i64 r_1.From.Patch), .p (.s r_1.From.Early), .p (.i .i64 r_1.To.Major), .p (.i .i64 r_1.To.Minor), .p (.i .i64 r_1.To.Patch), .p (.s r_1.To.Early), .p (.i .i64 r_1.Result), .p (.s r_1.Note)]] [.cells 81 [.mp 1, .p (.i .i64 o0_1_2)], .mp true (encM Dt.s enc_log_had m1_3)] (fun r X => r = .p (.i .i64 z) ∧ X = [.cells 81 [.mp 1, .p (.i .i64 o0_1_2)], .mp true (encM Dt.s enc_log_had m1_3)]) := by
 unfold log_table_fault_i1 at hm
 refine Does.of_wp 2 55 [.tmp 4] Tryz.func56 rfl (by decide) rfl rfl (Nat.le_of_ble_eq_true rfl) fun B => ?_
 refine qS ?_
 refine Wp.seqW fun K2 hK2 hW2 => ?_
 refine Wp.seqD (plan := pl [(0, none), (1, none), (2, none), (3, none), (4, none), (5, none), (6, none)]) (by kernel_rfl) rfl (by kernel_rfl) fun K3 hK3 => ?_
 simp only [go_sem, simprocAttr]
 first | apply hK3 | refine ⟨sd, hK3 _ _ ?_⟩
 refine cM hm (fun hc4 hm => ?_) (fun hc4 hm => ?_)
 ·refine qS ?_
  refine Wp.ret ?_
  refine retQ_ret ?_
  cases hm
  exact fse3
 ·refine Wp.skip ?_
  refine hK2 _ _ ?_
  obtain ⟨q_12, hq_13, hm⟩ := letv_elim hm
  have hq_13d := mlookD_enc (e := enc_log_had) keq_s m1_3 r_1.Pack (log_had.mk (api_Version.mk 0 0 0 []) 0)
  have hq_13s := mlook_some (e := enc_log_had) keq_s m1_3 r_1.Pack
  simp only [hq_13, enc_log_had, List.map_nil] at hq_13d hq_13s
  refine Wp.seqD (plan := pl [(0, none), (1, none), (2, none), (3, none), (4, none), (5, none), (6, none), (7, none), (8, none), (9, none), (10, some [0, 1, 2, 3, 4, 5, 6, 7, 8, 9]), (11, some [9]), (12, none)]) (by kernel_rfl) rfl (by kernel_rfl) fun K6 hK6 => ?_
  simp only [go_sem, simprocAttr, hq_13d, hq_13s]
  first | apply hK6 | refine ⟨sd, hK6 _ _ ?_⟩
  refine qS ?_
  refine Wp.seqW fun K8 hK8 hW8 => ?_
  obtain ⟨k_17, hk_17, hm⟩ := jp_elim hm
  have hcut8 : ∀ s, k_17 s = some z → K8 [(7, .p (.b s))] [.cells 81 [.mp 1, .p (.i .i64 o0_1_2)], .mp true (encM Dt.s enc_log_had m1_3)] := by
   intro bad_16 hs
   have hm := hk_17 _ hs
   clear hs
   try dsimp only at hm
   try dsimp only
   refine hK8 _ _ ?_
   refine Wp.seqW fun K9 hK9 hW9 => ?_
   refine qS ?_
   refine cM hm (fun hc11 hm => ?_) (fun hc11 hm => ?_)
   ·refine qS ?_
    refine Wp.ret ?_
    refine retQ_ret ?_
    cases hm
    exact fse3
   ·refine Wp.skip ?_
    refine hK9 _ _ ?_
    refine qS ?_
    refine Wp.ret ?_
    refine retQ_ret ?_
    cases hm
    exact fse3
  clear hK8 hk_17
  refine qS ?_
  refine Wp.block ?_
  refine qS ?_
  refine cM hm (fun hc16 hm => ?_) (fun hc16 hm => ?_)
  ·refine qR ?_
   refine hW8 _ _ _ _ ?_ (hcut8 q_12.isSome hm)
   exact fse3
  ·refine Wp.seqW fun K18 hK18 hW18 => ?_
   obtain ⟨k_19, hk_19, hm⟩ := jp_elim hm
   have hcut18 : ∀ s, k_19 s = some z → K18 [(3, .ptr 2 0), (5, .ptr 3 0), (6, .p (.b q_12.isSome)), (7, .p (.b false)), (26, .p (.i .i64 r_1.Kind)), (30, .p (.b s))] [.cells 81 [.mp 1, .p (.i .i64 o0_1_2)], .mp true (encM Dt.s enc_log_had m1_3), .cells 32 [.p (.i .i64 r_1.Time), .p (.i .i64 r_1.Kind), .p (.s r_1.Pack), .p (.i .i64 r_1.From.Major), .p (.i .i64 r_1.From.Minor), .p (.i .i64 r_1.From.Patch), .p (.s r_1.From.Early), .p (.i .i64 r_1.To.Major), .p (.i .i64 r_1.To.Minor), .p (.i .i64 r_1.To.Patch), .p (.s r_1.To.Early), .p (.i .i64 r_1.Result), .p (.s r_1.Note)], .cells 77 [.p (.i .i64 (((q_12.getD (log_had.mk (api_Version.mk 0 0 0 []) 0)).v).Major)), .p (.i .i64 (((q_12.getD (log_had.mk (api_Version.mk 0 0 0 []) 0)).v).Minor)), .p (.i .i64 (((q_12.getD (log_had.mk (api_Version.mk 0 0 0 []) 0)).v).Patch)), .p (.s (((q_12.getD (log_had.mk (api_Version.mk 0 0 0 []) 0)).v).Early)), .p (.i .i64 ((q_12.getD (log_had.mk (api_Version.mk 0 0 0 []) 0)).since))]] := by
    intro t30_18 hs
    have hm := hk_19 _ hs
    clear hs
    try dsimp only at hm
    try dsimp only
    refine hK18 _ _ ?_
    refine cM hm (fun hc19 hm => ?_) (fun hc19 hm => ?_)
    ·refine qR ?_
     refine hW8 _ _ _ _ ?_ (hcut8 ((!q_12.isSome) || (!((decide ((((q_12.getD (log_had.mk (api_Version.mk 0 0 0 []) 0)).v).Major) = r_1.From.Major)) && ((decide ((((q_12.getD (log_had.mk (api_Version.mk 0 0 0 []) 0)).v).Minor) = r_1.From.Minor)) && ((decide ((((q_12.getD (log_had.mk (api_Version.mk 0 0 0 []) 0)).v).Patch) = r_1.From.Patch)) && (decide ((((q_12.getD (log_had.mk (api_Version.mk 0 0 0 []) 0)).v).Early) = r_1.From.Early))))))) hm)
     exact fse3
    ·refine qS ?_
     refine cM hm (fun hc22 hm => ?_) (fun hc22 hm => ?_)
     ·refine qR ?_
      refine hW8 _ _ _ _ ?_ (hcut8 ((!q_12.isSome) || (!((decide ((((q_12.getD (log_had.mk (api_Version.mk 0 0 0 []) 0)).v).Major) = r_1.To.Major)) && ((decide ((((q_12.getD (log_had.mk (api_Version.mk 0 0 0 []) 0)).v).Minor) = r_1.To.Minor)) && ((decide ((((q_12.getD (log_had.mk (api_Version.mk 0 0 0 []) 0)).v).Patch) = r_1.To.Patch)) && (decide ((((q_12.getD (log_had.mk (api_Version.mk 0 0 0 []) 0)).v).Early) = r_1.To.Early))))))) hm)
      exact fse3
     ·refine Wp.skip ?_
      refine hW8 _ _ _ _ ?_ (hcut8 false hm)
      exact fse3
   clear hK18 hk_19
   refine qS ?_
   refine cM hm (fun hc25 hm => ?_) (fun hc25 hm => ?_)
   ·refine Wp.skip ?_
    refine hW18 _ _ _ _ ?_ (hcut18 (decide (r_1.Kind = 2)) hm)
    exact fse3
   ·refine qS ?_
    refine cM hm (fun hc27 hm => ?_) (fun hc27 hm => ?_)
    ·refine Wp.skip ?_
     refine hW18 _ _ _ _ ?_ (hcut18 (decide (r_1.Kind = 3)) hm)
     exact fse3
    ·refine qR ?_
     refine hW18 _ _ _ _ ?_ (hcut18 (decide (r_1.Kind = 4)) hm)
     exact fse3
theorem ok_log_table_add_i1 (r_1 : api_Record) (o0_1_2 : Int) (m1_3 : List (Str × log_had)) (z : Int × (List (Str × log_had))) (hm : log_table_add_i1 r_1 o0_1_2 m1_3 = some z) : Does Tryz.prog 57 [.ptr 0 0, .agg [.p (.i .i64 r_1.Time), .p (.i .i64 r_1.Kind), .p (.s r_1.Pack), .p (.i .i64 r_1.From.Major), .p (.i .i64 r_1.From.Minor), .p (.i .i64 r_1.From.Patch), .p (.s r_1.From.Early), .p (.i .i64 r_1.To.Major), .p (.i .i64 r_1.To.Minor), .p (.i .i64 r_1.To.Patch), .p (.s r_1.To.Early), .p (.i .i64 r_1.Result), .p (.s r_1.Note)]] [.cells 81 [.mp 1, .p (.i .i64 o0_1_2)], .mp true (encM Dt.s enc_log_had m1_3)] (fun r X => r = .tup [] ∧ X = [.cells 81 [.mp 1, .p (.i .i64 z.1)], .mp true (encM Dt.s enc_log_had z.2)]) := by
 unfold log_table_add_i1 at hm
 refine Does.of_wp 2 37 [] Tryz.func57 rfl (by decide) rfl rfl (Nat.le_of_ble_eq_true rfl) fun B => ?_
 refine qS ?_
 refine qS ?_
 refine Wp.seqW fun K3 hK3 hW3 => ?_
 refine qS ?_
 refine cM hm (fun hc5 hm => ?_) (fun hc5 hm => ?_)
 ·refine Wp.ret ?_
  refine retQ_ret ?_
  cases hm
  exact fse3
 ·refine Wp.skip ?_
  refine hK3 _ _ ?_
  refine qS ?_
  refine Wp.block ?_
  refine Wp.seqW fun K7 hK7 hW7 => ?_
  obtain ⟨k_10, hk_10, hm⟩ := jp_elim hm
  have hcut7 : ∀ s, k_10 s = some z → K7 [(0, .ptr 0 0), (3, .ptr 2 0), (13, .p (.i .i64 r_1.Kind)), (14, .p (.b s))] [.cells 81 [.mp 1, .p (.i .i64 r_1.Time)], .mp true (encM Dt.s enc_log_had m1_3), .cells 32 [.p (.i .i64 r_1.Time), .p (.i .i64 r_1.Kind), .p (.s r_1.Pack), .p (.i .i64 r_1.From.Major), .p (.i .i64 r_1.From.Minor), .p (.i .i64 r_1.From.Patch), .p (.s r_1.From.Early), .p (.i .i64 r_1.To.Major), .p (.i .i64 r_1.To.Minor), .p (.i .i64 r_1.To.Patch), .p (.s r_1.To.Early), .p (.i .i64 r_1.Result), .p (.s r_1.Note)]] := by
   intro t14_9 hs
   have hm := hk_10 _ hs
   clear hs
   try dsimp only at hm
   try dsimp only
   refine hK7 _ _ ?_
   refine cM hm (fun hc8 hm => ?_) (fun hc8 hm => ?_)
   ·obtain ⟨c_12, hm⟩ := chk_elim hm
    have hp_11 := mset_enc (e := enc_log_had) keq_s m1_3 r_1.Pack (log_had.mk r_1.To r_1.Time)
    simp only [enc_log_had] at hp_11
    refine Wp.regD (plan := pl [(0, none), (1, none), (2, none), (3, none), (4, none), (5, none), (6, none), (7, none), (8, none), (9, none), (10, none), (11, some [])]) (by kernel_rfl) rfl (by kernel_rfl) fun K9 hK9 => ?_
    simp only [go_sem, simprocAttr, hp_11]
    first | apply hK9 | refine ⟨by first | exact sd | ((repeat' apply And.intro) <;> first | assumption | omega | (simp only [List.length_append, List.length_map, List.length_cons, List.length_nil, List.length_set, List.length_replicate] at c_12 ⊢; omega)), hK9 _ _ ?_⟩
    simp only [thenQ, blockQ, ↓reduceIte]
    refine retQ_normal ?_
    cases hm
    exact fse3
   ·refine qS ?_
    refine cM hm (fun hc11 hm => ?_) (fun hc11 hm => ?_)
    ·have hp_13 := mdel_enc (e := enc_log_had) keq_s m1_3 r_1.Pack
     refine Wp.regD (plan := pl [(0, none), (1, none), (2, none), (3, none), (4, none), (5, none), (6, some [])]) (by kernel_rfl) rfl (by kernel_rfl) fun K12 hK12 => ?_
     simp only [go_sem, simprocAttr, hp_13]
     first | apply hK12 | refine ⟨sd, hK12 _ _ ?_⟩
     simp only [thenQ, blockQ, ↓reduceIte]
     refine retQ_normal ?_
     cases hm
     exact fse3
    ·refine Wp.skip ?_
     simp only [thenQ, blockQ, ↓reduceIte]
     refine retQ_normal ?_
     cases hm
     exact fse3
  clear hK7 hk_10
  refine qS ?_
  refine cM hm (fun hc14 hm => ?_) (fun hc14 hm => ?_)
  ·refine Wp.skip ?_
   refine hW7 _ _ _ _ ?_ (hcut7 (decide (r_1.Kind = 1)) hm)
   exact fse3
  ·refine qS ?_
   refine cM hm (fun hc16 hm => ?_) (fun hc16 hm => ?_)
   ·refine Wp.skip ?_
    refine hW7 _ _ _ _ ?_ (hcut7 (decide (r_1.Kind = 2)) hm)
    exact fse3
   ·refine qR ?_
    refine hW7 _ _ _ _ ?_ (hcut7 (decide (r_1.Kind = 3)) hm)
    exact fse3
theorem ok_log_check (l_1 : List api_Record) (z : Int) (hm : log_check l_1 = some z) : Does Tryz.prog 24 [.p (.l (List.map enc_api_Record l_1))] [] (fun r X => r = .p (.i .i64 z) ∧ X = []) := by
 unfold log_check at hm
 refine Does.of_wp 0 33 [.tmp 2] Tryz.func24 rfl (by decide) rfl rfl (Nat.le_of_ble_eq_true rfl) fun B => ?_
 refine qS ?_
 refine Wp.seqW fun K2 hK2 hW2 => ?_
 refine qS ?_
 refine cM hm (fun hc4 hm => ?_) (fun hc4 hm => ?_)
 ·refine qS ?_
  refine Wp.ret ?_
  refine retQ_ret ?_
  cases hm
  exact fse2
 ·refine Wp.skip ?_
  refine hK2 _ _ ?_
  obtain ⟨r_2, hr_2, hm⟩ := call_elim hm
  refine Wp.seqR fun K6 hK6 => ?_
  simp only [go_sem, simprocAttr]
  try refine ⟨sd, ?_⟩
  refine Rg.callO (av := ?av7) [] (ok_log_newTable  _ hr_2) si si si sg sg ?cont7
  rintro _ _ ⟨rfl, rfl⟩ hv7
  simp only [go_sem, simprocAttr]
  first | apply hK6 | refine ⟨sd, hK6 _ _ ?_⟩
  refine Wp.seqW fun K8 hK8 hW8 => ?_
  obtain ⟨k_23, hk_23, hm⟩ := jp_elim hm
  have hcut8 : ∀ s, k_23 s = some z → K8 [] [] := by
   intro s hs
   have hm := hk_23 _ hs
   clear hs
   try dsimp only at hm
   try dsimp only
   refine hK8 _ _ ?_
   refine qS ?_
   refine Wp.ret ?_
   refine retQ_ret ?_
   cases hm
   exact fse3
  clear hK8 hk_23
  refine qS ?_
  refine Wp.block ?_
  obtain ⟨k_36, hk_36, hm⟩ := forL_cont hm
  refine Wp.fact 12 fun hl_39 => ?_
  replace hl_39 : l_1.length ≤ 274877906944 := by
   simp only [go_sem, simprocAttr, List.length_map] at hl_39
   omega
  refine Wp.forL (fun i_38 s => [(3, .ptr 1 0), (12, .p (.l (List.map enc_api_Record l_1))), (13, .p (.i .i64 (l_1.length : Int))), (14, .p (.i .i64 (i_38 : Int)))]) (fun i_38 s => [.mp true (encM Dt.s enc_log_had s.1), .cells 81 [.mp 0, .p (.i .i64 s.2)]]) ?_ hm ?_
  ·
   exact fse3
  clear hm
  intro i_38 s hii_38 hm
  obtain ⟨m0_30, o1_1_31⟩ := s
  try dsimp only at hm
  try dsimp only
  refine qS ?_
  refine Wp.seqW fun K12 hK12 hW12 => ?_
  refine Wp.cond rfl ⟨⟩ (fun hc12 => ?_) (fun hc12 => ?_)
  rotate_left
  ·refine Wp.exit ?_
   have hm := hk_36 _ (forL_end hm (ge_nat (by first | exact hc12 | simpa using hc12)))
   try dsimp only at hm
   refine hW8 _ _ _ _ ?_ (hcut8 () hm)
   exact fse3
  have hlt12 := lt_nat (by first | exact hc12 | simpa using hc12)
  have hw12 := wrap_succ hlt12 hl_39
  obtain ⟨r_40, nx_37, hxr_40, hyr_40, hnx_37, hm⟩ := forL_step hm hlt12
  replace hxr_40 := hxr_40 enc_api_Record
  refine Wp.skip ?_
  simp only [thenQ]
  refine hK12 _ _ ?_
  refine Wp.seqW fun K13 hK13 hW13 => ?_
  refine Wp.block ?_
  refine Wp.seqR fun K14 hK14 => ?_
  simp only [go_sem, simprocAttr, hw12, hxr_40]
  first | apply hK14 | refine ⟨sd, hK14 _ _ ?_⟩
  refine Wp.seqW fun K15 hK15 hW15 => ?_
  obtain ⟨r_41, hr_41, hm⟩ := call_elim hm
  refine Wp.seqR fun K16 hK16 => ?_
  simp only [go_sem, simprocAttr, hw12, hxr_40]
  try refine ⟨sd, ?_⟩
  refine Rg.callX (av := ?av17) (g := true) (fun hg => ok_log_CheckRecord r_40 _ hr_41) (by simp only [go_sem, simprocAttr, hw12, hxr_40]; exact Is.mk) (by simp only [go_sem, simprocAttr, hw12, hxr_40]; exact Is.mk) (by simp only [go_sem, simprocAttr, hw12, hxr_40]; exact Is.mk) (by simp only [go_sem, simprocAttr, hw12, hxr_40]) (by simp only [go_sem, simprocAttr, hw12, hxr_40]; exact Is.mk) ?cont17
  intro hv17
  simp only [go_sem, simprocAttr, hw12, hxr_40]
  first | apply hK16 | refine ⟨sd, hK16 _ _ ?_⟩
  refine Wp.seqR fun K18 hK18 => ?_
  simp only [go_sem, simprocAttr, hw12, hxr_40]
  first | apply hK18 | refine ⟨sd, hK18 _ _ ?_⟩
  refine cM hm (fun hc19 hm => ?_) (fun hc19 hm => ?_)
  ·refine Wp.seqR fun K20 hK20 => ?_
   simp only [go_sem, simprocAttr, hw12, hxr_40]
   first | apply hK20 | refine ⟨sd, hK20 _ _ ?_⟩
   refine Wp.ret ?_
   refine retQ_ret ?_
   cases hm
   simp only [go_sem, simprocAttr, hw12, hxr_40]
   try exact se3
  ·refine Wp.skip ?_
   refine hK15 _ _ ?_
   refine Wp.seqW fun K21 hK21 hW21 => ?_
   obtain ⟨r_42, hr_42, hm⟩ := call_elim hm
   refine Wp.seqR fun K22 hK22 => ?_
   simp only [go_sem, simprocAttr, hw12, hxr_40]
   try refine ⟨sd, ?_⟩
   refine Rg.callR (av := ?av23) (g := true) [1, 0] (fun hg => ok_log_table_fault_i1 r_40 o1_1_31 m0_30 _ hr_42) (by simp only [go_sem, simprocAttr, hw12, hxr_40]; exact Is.mk) (by simp only [go_sem, simprocAttr, hw12, hxr_40]; exact Is.mk) (by simp only [go_sem, simprocAttr, hw12, hxr_40]; exact Is.mk) (by simp only [go_sem, simprocAttr, hw12, hxr_40]; exact Is.mk) (by simp only [go_sem, simprocAttr, hw12, hxr_40]) (by simp only [go_sem, simprocAttr, hw12, hxr_40]) (by simp only [go_sem, simprocAttr, hw12, hxr_40]) ?cont23
   simp only [go_sem, simprocAttr, hw12, hxr_40]
   first | apply hK22 | refine ⟨sd, hK22 _ _ ?_⟩
   refine Wp.seqR fun K24 hK24 => ?_
   simp only [go_sem, simprocAttr, hw12, hxr_40]
   first | apply hK24 | refine ⟨sd, hK24 _ _ ?_⟩
   refine cM hm (fun hc25 hm => ?_) (fun hc25 hm => ?_)
   ·refine Wp.seqR fun K26 hK26 => ?_
    simp only [go_sem, simprocAttr, hw12, hxr_40]
    first | apply hK26 | refine ⟨sd, hK26 _ _ ?_⟩
    refine Wp.ret ?_
    refine retQ_ret ?_
    cases hm
    simp only [go_sem, simprocAttr, hw12, hxr_40]
    try exact se3
   ·refine Wp.skip ?_
    refine hK21 _ _ ?_
    obtain ⟨r_43, hr_43, hm⟩ := call_elim hm
    refine Wp.region fun K27 hK27 => ?_
    simp only [go_sem, simprocAttr, hw12, hxr_40]
    try refine ⟨sd, ?_⟩
    refine Rg.callO (av := ?av28) [1, 0] (ok_log_table_add_i1 r_40 o1_1_31 m0_30 _ hr_43) (by simp only [go_sem, simprocAttr, hw12, hxr_40]; exact Is.mk) (by simp only [go_sem, simprocAttr, hw12, hxr_40]; exact Is.mk) (by simp only [go_sem, simprocAttr, hw12, hxr_40]; exact Is.mk) (by simp only [go_sem, simprocAttr, hw12, hxr_40]) (by simp only [go_sem, simprocAttr, hw12, hxr_40]) ?cont28
    rintro _ _ ⟨rfl, rfl⟩ hv28
    simp only [go_sem, simprocAttr, hw12, hxr_40]
    first | apply hK27 | refine ⟨sd, hK27 _ _ ?_⟩
    refine hK13 _ _ ?_
    refine Wp.region fun K29 hK29 => ?_
    simp only [go_sem, simprocAttr, hw12, hxr_40]
    first | apply hK29 | refine ⟨sd, hK29 _ _ ?_⟩
    simp only [thenQ, blockQ, ↓reduceIte]
    refine ⟨(r_43.2, r_43.1), hlt12, hnx_37 _ hm, ?_⟩
    simp only [go_sem, simprocAttr, hw12, hxr_40]
    try exact se3
theorem ok_log_Join (a_1 : List api_Record) (b_2 : List api_Record) (z : List api_Record × Int) (hm : log_Join a_1 b_2 = some z) : Does Tryz.prog 8 [.p (.l (List.map enc_api_Record a_1)), .p (.l (List.map enc_api_Record b_2))] [] (fun r X => r = .tup [.p (.l (List.map enc_api_Record z.1)), .p (.i .i64 z.2)] ∧ X = []) := by
 unfold log_Join at hm
 refine Does.of_wp 0 103 [.tmp 4, .tmp 5] Tryz.func8 rfl (by decide) rfl rfl (Nat.le_of_ble_eq_true rfl) fun B => ?_
 refine qS ?_
 refine Wp.seqW fun K2 hK2 hW2 => ?_
 obtain ⟨k_17, hk_17, hm⟩ := jp_elim hm
 have hcut2 : ∀ s, k_17 s = some z → K2 [(0, .p (.l (List.map enc_api_Record a_1))), (1, .p (.l (List.map enc_api_Record b_2)))] [] := by
  intro s hs
  have hm := hk_17 _ hs
  clear hs
  try dsimp only at hm
  try dsimp only
  refine hK2 _ _ ?_
  refine qS ?_
  refine Wp.seqW fun K4 hK4 hW4 => ?_
  obtain ⟨k_30, hk_30, hm⟩ := jp_elim hm
  have hcut4 : ∀ s, k_30 s = some z → K4 [(0, .p (.l (List.map enc_api_Record a_1))), (1, .p (.l (List.map enc_api_Record b_2))), (9, .p (.i .i64 s))] [] := by
   intro n_29 hs
   have hm := hk_30 _ hs
   clear hs
   try dsimp only at hm
   try dsimp only
   refine hK4 _ _ ?_
   obtain ⟨c_31, hm⟩ := chk_elim hm
   obtain ⟨r_32, hr_32, hm⟩ := call_elim hm
   refine Wp.seqR fun K5 hK5 => ?_
   simp only [go_sem, simprocAttr]
   try refine ⟨by first | exact sd | ((repeat' apply And.intro) <;> first | assumption | omega | (simp only [List.length_append, List.length_map, List.length_cons, List.length_nil, List.length_set, List.length_replicate] at c_31 ⊢; omega)), ?_⟩
   refine Rg.callO (av := ?av6) [] (ok_slices_Clone_api_Record_api_Record_new (List.take n_29.toNat a_1) _ hr_32) si si si sg sg ?cont6
   rintro _ _ ⟨rfl, rfl⟩ hv6
   simp only [go_sem, simprocAttr]
   first | apply hK5 | refine ⟨by first | exact sd | ((repeat' apply And.intro) <;> first | assumption | omega | (simp only [List.length_append, List.length_map, List.length_cons, List.length_nil, List.length_set, List.length_replicate] at c_31 ⊢; omega)), hK5 _ _ ?_⟩
   obtain ⟨c_33, hm⟩ := chk_elim hm
   obtain ⟨c_34, hm⟩ := chk_elim hm
   refine Wp.seqD (plan := pl [(0, none), (1, none), (2, none), (3, none), (4, none), (5, none), (6, none), (7, none)]) (by kernel_rfl) rfl (by kernel_rfl) fun K7 hK7 => ?_
   simp only [go_sem, simprocAttr]
   first | apply hK7 | refine ⟨by first | exact sd | ((repeat' apply And.intro) <;> first | assumption | omega | (simp only [List.length_append, List.length_map, List.length_cons, List.length_nil, List.length_set, List.length_replicate] at c_33 c_34 ⊢; omega)), hK7 _ _ ?_⟩
   refine Wp.seqW fun K8 hK8 hW8 => ?_
   obtain ⟨k_73, hk_73, hm⟩ := jp_elim hm
   have hcut8 : ∀ s, k_73 s = some z → K8 [(10, .buf 0)] [.buf 32 13 (List.map enc_api_Record s)] := by
    intro o0_72 hs
    have hm := hk_73 _ hs
    clear hs
    try dsimp only at hm
    try dsimp only
    refine hK8 _ _ ?_
    refine Wp.seqW fun K9 hK9 hW9 => ?_
    obtain ⟨r_74, hr_74, hm⟩ := call_elim hm
    refine Wp.seqR fun K10 hK10 => ?_
    simp only [go_sem, simprocAttr]
    try refine ⟨sd, ?_⟩
    refine Rg.callX (av := ?av11) (g := true) (fun hg => ok_log_check o0_72 _ hr_74) si si (by simp only [go_sem, simprocAttr, List.map_append, List.map_cons, List.map_nil]; exact Is.mk) sg si ?cont11
    intro hv11
    simp only [go_sem, simprocAttr]
    first | apply hK10 | refine ⟨sd, hK10 _ _ ?_⟩
    refine qS ?_
    refine cM hm (fun hc13 hm => ?_) (fun hc13 hm => ?_)
    ·refine qS ?_
     refine Wp.ret ?_
     simp only [thenQ, blockQ]
     refine retQ_retE ?_
     cases hm
     exact fse3
    ·refine Wp.skip ?_
     refine hK9 _ _ ?_
     refine qS ?_
     refine Wp.ret ?_
     refine retQ_ret ?_
     cases hm
     exact fse3
   clear hK8 hk_73
   refine Wp.block ?_
   obtain ⟨k_100, hk_100, hm⟩ := loopN_cont hm
   refine Wp.loopN (fun s => [(0, .p (.l (List.map enc_api_Record s.1))), (1, .p (.l (List.map enc_api_Record s.2.1))), (10, .buf 0)]) (fun s => [.buf 32 13 (List.map enc_api_Record s.2.2)]) ?_ hm ?_
   ·
    exact fse3
   clear hm
   intro s nx_101 hm
   obtain ⟨a_87, b_88, o0_89⟩ := s
   try dsimp only at hm
   try dsimp only
   refine Wp.seqW fun K16 hK16 hW16 => ?_
   refine qS ?_
   refine cM hm (fun hc18 hm => ?_) (fun hc18 hm => ?_)
   ·refine Wp.skip ?_
    refine hK16 _ _ ?_
    refine Wp.block ?_
    obtain ⟨c_102, hm⟩ := chk_elim hm
    obtain ⟨c_103, hm⟩ := chk_elim hm
    have hr_104 := getD_enc (l := a_87) (e := enc_api_Record) (d := (api_Record.mk 0 0 [] (api_Version.mk 0 0 0 []) (api_Version.mk 0 0 0 []) 0 [])) (i := 0)
    simp only [enc_api_Record, List.map_nil] at hr_104
    have hr_105 := getD_enc (l := b_88) (e := enc_api_Record) (d := (api_Record.mk 0 0 [] (api_Version.mk 0 0 0 []) (api_Version.mk 0 0 0 []) 0 [])) (i := 0)
    simp only [enc_api_Record, List.map_nil] at hr_105
    refine Wp.seqD (plan := pl [(0, none), (1, none), (2, none), (3, none), (4, none), (5, none), (6, none), (7, none), (8, none), (9, none), (10, none), (11, none), (12, none), (13, none), (14, none), (15, none), (16, none), (17, none), (18, none)]) (by kernel_rfl) rfl (by kernel_rfl) fun K19 hK19 => ?_
    simp only [go_sem, simprocAttr, hr_104, hr_105]
    first | apply hK19 | refine ⟨by first | exact sd | ((repeat' apply And.intro) <;> first | assumption | omega | (simp only [List.length_append, List.length_map, List.length_cons, List.length_nil, List.length_set, List.length_replicate] at c_102 c_103 ⊢; omega)), hK19 _ _ ?_⟩
    refine cM hm (fun hc20 hm => ?_) (fun hc20 hm => ?_)
    ·obtain ⟨r_106, hbr_106, hxr_106, hyr_106, hm⟩ := idx_elim hm
     replace hxr_106 : ∀ d, (List.map enc_api_Record a_87).getD 0 d = enc_api_Record r_106 := hxr_106 enc_api_Record
     obtain ⟨c_107, hm⟩ := chk_elim hm
     obtain ⟨c_108, hm⟩ := chk_elim hm
     refine Wp.regD (plan := pl [(0, none), (1, none), (2, none), (3, none), (6, none), (7, none), (4, some [0, 6, 7]), (5, some [6, 7]), (8, none), (9, none)]) (by kernel_rfl) rfl (by kernel_rfl) fun K21 hK21 => ?_
     simp only [go_sem, simprocAttr, hxr_106]
     first | apply hK21 | refine ⟨by first | exact sd | ((repeat' apply And.intro) <;> first | assumption | omega | (simp only [List.length_append, List.length_map, List.length_cons, List.length_nil, List.length_set, List.length_replicate] at c_107 c_108 ⊢; omega)), hK21 _ _ ?_⟩
     simp only [thenQ, blockQ, ↓reduceIte]
     refine ⟨(List.drop 1 a_87, b_88, o0_89 ++ [r_106]), hm, ?_⟩
     simp only [go_sem, simprocAttr, hxr_106]
     try exact se3
    ·obtain ⟨r_109, hbr_109, hxr_109, hyr_109, hm⟩ := idx_elim hm
     replace hxr_109 : ∀ d, (List.map enc_api_Record b_88).getD 0 d = enc_api_Record r_109 := hxr_109 enc_api_Record
     obtain ⟨c_110, hm⟩ := chk_elim hm
     obtain ⟨c_111, hm⟩ := chk_elim hm
     refine Wp.regD (plan := pl [(0, none), (1, none), (2, none), (3, none), (6, none), (7, none), (4, some [0, 6, 7]), (5, some [6, 7]), (8, none), (9, none)]) (by kernel_rfl) rfl (by kernel_rfl) fun K22 hK22 => ?_
     simp only [go_sem, simprocAttr, hxr_109]
     first | apply hK22 | refine ⟨by first | exact sd | ((repeat' apply And.intro) <;> first | assumption | omega | (simp only [List.length_append, List.length_map, List.length_cons, List.length_nil, List.length_set, List.length_replicate] at c_110 c_111 ⊢; omega)), hK22 _ _ ?_⟩
     simp only [thenQ, blockQ, ↓reduceIte]
     refine ⟨(a_87, List.drop 1 b_88, o0_89 ++ [r_109]), hm, ?_⟩
     simp only [go_sem, simprocAttr, hxr_109]
     try exact se3
   ·refine Wp.exit ?_
    simp only [thenQ, blockQ, ↓reduceIte]
    have hm := hk_100 _ hm
    try dsimp only at hm
    refine hW8 _ _ _ _ ?_ (hcut8 o0_89 hm)
    exact fse3
  clear hK4 hk_30
  refine Wp.block ?_
  obtain ⟨k_117, hk_117, hm⟩ := loopN_cont hm
  refine Wp.loopN (fun s => [(0, .p (.l (List.map enc_api_Record a_1))), (1, .p (.l (List.map enc_api_Record b_2))), (9, .p (.i .i64 s))]) (fun s => []) ?_ hm ?_
  ·
   exact fse3
  clear hm
  intro n_112 nx_118 hm
  try dsimp only at hm
  try dsimp only
  refine Wp.seqW fun K23 hK23 hW23 => ?_
  obtain ⟨c_119, hm⟩ := chk_elim hm
  obtain ⟨c_120, hm⟩ := chk_elim hm
  have hr_121 := getD_enc (l := a_1) (e := enc_api_Record) (d := (api_Record.mk 0 0 [] (api_Version.mk 0 0 0 []) (api_Version.mk 0 0 0 []) 0 [])) (i := n_112.toNat)
  simp only [enc_api_Record, List.map_nil] at hr_121
  have hr_122 := getD_enc (l := b_2) (e := enc_api_Record) (d := (api_Record.mk 0 0 [] (api_Version.mk 0 0 0 []) (api_Version.mk 0 0 0 []) 0 [])) (i := n_112.toNat)
  simp only [enc_api_Record, List.map_nil] at hr_122
  refine Wp.seqD (plan := pl [(0, none), (1, none), (2, none), (3, none), (4, none), (5, none), (6, none), (7, none), (8, none), (9, none), (10, none), (11, none), (12, none), (13, none), (14, none), (15, none), (16, none), (17, none)]) (by kernel_rfl) rfl (by kernel_rfl) fun K24 hK24 => ?_
  simp only [go_sem, simprocAttr, hr_121, hr_122]
  first | apply hK24 | refine ⟨by first | exact sd | ((repeat' apply And.intro) <;> first | assumption | omega | (simp only [List.length_append, List.length_map, List.length_cons, List.length_nil, List.length_set, List.length_replicate] at c_119 c_120 ⊢; omega)), hK24 _ _ ?_⟩
  refine cM hm (fun hc25 hm => ?_) (fun hc25 hm => ?_)
  ·refine Wp.skip ?_
   refine hK23 _ _ ?_
   refine Wp.block ?_
   refine qR ?_
   simp only [thenQ, blockQ, ↓reduceIte]
   refine ⟨IntKind.i64.wrap (n_112 + 1), hm, ?_⟩
   exact fse3
  ·refine Wp.exit ?_
   simp only [thenQ, blockQ, ↓reduceIte]
   have hm := hk_117 _ hm
   try dsimp only at hm
   refine hW4 _ _ _ _ ?_ (hcut4 n_112 hm)
   exact fse3
 clear hK2 hk_17
 refine qS ?_
 refine Wp.block ?_
 refine Wp.loopK 9 ?_
 simp only [WpL]
 refine qS ?_
 refine Wp.seqW fun K29 hK29 hW29 => ?_
 refine Wp.cond rfl ⟨⟩ (fun hc30 => ?_) (fun hc30 => ?_)
 rotate_left
 ·cases hc30
 refine Wp.skip ?_
 refine hK29 _ _ ?_
 refine Wp.seqW fun K31 hK31 hW31 => ?_
 refine Wp.block ?_
 refine qS ?_
 obtain ⟨r_135, hr_135, hm⟩ := call_elim hm
 refine Wp.seqR fun K33 hK33 => ?_
 simp only [go_sem, simprocAttr]
 try refine ⟨sd, ?_⟩
 refine Rg.callX (av := ?av34) (g := true) (fun hg => ok_log_check a_1 _ hr_135) si si si sg si ?cont34
 intro hv34
 simp only [go_sem, simprocAttr]
 first | apply hK33 | refine ⟨sd, hK33 _ _ ?_⟩
 refine qS ?_
 refine cM hm (fun hc36 hm => ?_) (fun hc36 hm => ?_)
 ·refine qS ?_
  refine Wp.ret ?_
  simp only [thenQ, blockQ]
  refine retQ_retE ?_
  cases hm
  exact fse3
 ·refine Wp.skip ?_
  refine hK31 _ _ ?_
  refine qR ?_
  simp only [thenQ, blockQ, ↓reduceIte]
  try simp only [WpL]
  refine qS ?_
  refine Wp.seqW fun K40 hK40 hW40 => ?_
  refine Wp.cond rfl ⟨⟩ (fun hc41 => ?_) (fun hc41 => ?_)
  rotate_left
  ·cases hc41
  refine Wp.skip ?_
  refine hK40 _ _ ?_
  refine Wp.seqW fun K42 hK42 hW42 => ?_
  refine Wp.block ?_
  refine qS ?_
  obtain ⟨r_136, hr_136, hm⟩ := call_elim hm
  refine Wp.seqR fun K44 hK44 => ?_
  simp only [go_sem, simprocAttr]
  try refine ⟨sd, ?_⟩
  refine Rg.callX (av := ?av45) (g := true) (fun hg => ok_log_check b_2 _ hr_136) si si si sg si ?cont45
  intro hv45
  simp only [go_sem, simprocAttr]
  first | apply hK44 | refine ⟨sd, hK44 _ _ ?_⟩
  refine qS ?_
  refine cM hm (fun hc47 hm => ?_) (fun hc47 hm => ?_)
  ·refine qS ?_
   refine Wp.ret ?_
   simp only [thenQ, blockQ]
   refine retQ_retE ?_
   cases hm
   exact fse3
  ·refine Wp.skip ?_
   refine hK42 _ _ ?_
   refine qR ?_
   simp only [thenQ, blockQ, ↓reduceIte]
   try simp only [WpL]
   refine qS ?_
   refine Wp.seqW fun K51 hK51 hW51 => ?_
   refine Wp.cond rfl ⟨⟩ (fun hc52 => ?_) (fun hc52 => ?_)
   ·cases hc52
   refine Wp.exit ?_
   refine hW2 _ _ _ _ ?_ (hcut2 () hm)
   exact fse3
theorem ok_R_Joined2 (a_1 : List api_Record) (b_2 : List api_Record) (z : List api_Record × Int) (hm : R_Joined2 a_1 b_2 = some z) : Does Tryz.prog 9 [.p (.l (List.map enc_api_Record a_1)), .p (.l (List.map enc_api_Record b_2))] [] (fun r X => r = .tup [.p (.l (List.map enc_api_Record z.1)), .p (.i .i64 z.2)] ∧ X = []) := by
 unfold R_Joined2 at hm
 refine Does.of_wp 0 101 [.tmp 4, .tmp 5] Tryz.func9 rfl (by decide) rfl rfl (Nat.le_of_ble_eq_true rfl) fun B => ?_
 refine qS ?_
 refine Wp.seqW fun K2 hK2 hW2 => ?_
 obtain ⟨r_3, hr_3, hm⟩ := call_elim hm
 obtain ⟨r_4, hr_4, hm⟩ := call_elim hm
 obtain ⟨r_5, hr_5, hm⟩ := call_elim hm
 refine Wp.seqR fun K3 hK3 => ?_
 simp only [go_sem, simprocAttr]
 try refine ⟨sd, ?_⟩
 refine Rg.callX (av := ?av4) (g := true) (fun hg => ok_R_RecordsError a_1 _ hr_3) si si si sg si ?cont4
 intro hv4
 simp only [go_sem, simprocAttr]
 try refine ⟨sd, ?_⟩
 refine Rg.callX (av := ?av5) (g := true) (fun hg => ok_R_RecordsError b_2 _ hr_4) si si si sg si ?cont5
 intro hv5
 simp only [go_sem, simprocAttr]
 try refine ⟨sd, ?_⟩
 refine Rg.callX (av := ?av6) (g := true) (fun hg => ok_R_first [r_3, r_4] _ hr_5) si si si sg si ?cont6
 intro hv6
 simp only [go_sem, simprocAttr]
 first | apply hK3 | refine ⟨sd, hK3 _ _ ?_⟩
 refine qS ?_
 refine cM hm (fun hc8 hm => ?_) (fun hc8 hm => ?_)
 ·refine qS ?_
  refine Wp.ret ?_
  simp only [thenQ, blockQ]
  refine retQ_retE ?_
  cases hm
  exact fse3
 ·refine Wp.skip ?_
  refine hK2 _ _ ?_
  refine qS ?_
  refine Wp.seqW fun K11 hK11 hW11 => ?_
  obtain ⟨k_18, hk_18, hm⟩ := jp_elim hm
  have hcut11 : ∀ s, k_18 s = some z → K11 [(0, .p (.l (List.map enc_api_Record a_1))), (1, .p (.l (List.map enc_api_Record b_2))), (7, .p (.i .i64 s))] [] := by
   intro n_17 hs
   have hm := hk_18 _ hs
   clear hs
   try dsimp only at hm
   try dsimp only
   refine hK11 _ _ ?_
   obtain ⟨c_19, hm⟩ := chk_elim hm
   obtain ⟨r_20, hr_20, hm⟩ := call_elim hm
   refine Wp.seqR fun K12 hK12 => ?_
   simp only [go_sem, simprocAttr]
   try refine ⟨by first | exact sd | ((repeat' apply And.intro) <;> first | assumption | omega | (simp only [List.length_append, List.length_map, List.length_cons, List.length_nil, List.length_set, List.length_replicate] at c_19 ⊢; omega)), ?_⟩
   refine Rg.callO (av := ?av13) [] (ok_slices_Clone_api_Record_api_Record_new (List.take n_17.toNat a_1) _ hr_20) si si si sg sg ?cont13
   rintro _ _ ⟨rfl, rfl⟩ hv13
   simp only [go_sem, simprocAttr]
   first | apply hK12 | refine ⟨by first | exact sd | ((repeat' apply And.intro) <;> first | assumption | omega | (simp only [List.length_append, List.length_map, List.length_cons, List.length_nil, List.length_set, List.length_replicate] at c_19 ⊢; omega)), hK12 _ _ ?_⟩
   obtain ⟨c_21, hm⟩ := chk_elim hm
   obtain ⟨c_22, hm⟩ := chk_elim hm
   refine Wp.seqD (plan := pl [(0, none), (1, none), (2, none), (3, none), (4, none), (5, none), (6, none), (7, none)]) (by kernel_rfl) rfl (by kernel_rfl) fun K14 hK14 => ?_
   simp only [go_sem, simprocAttr]
   first | apply hK14 | refine ⟨by first | exact sd | ((repeat' apply And.intro) <;> first | assumption | omega | (simp only [List.length_append, List.length_map, List.length_cons, List.length_nil, List.length_set, List.length_replicate] at c_21 c_22 ⊢; omega)), hK14 _ _ ?_⟩
   refine Wp.seqW fun K15 hK15 hW15 => ?_
   obtain ⟨k_61, hk_61, hm⟩ := jp_elim hm
   have hcut15 : ∀ s, k_61 s = some z → K15 [(8, .buf 0)] [.buf 32 13 (List.map enc_api_Record s)] := by
    intro o0_60 hs
    have hm := hk_61 _ hs
    clear hs
    try dsimp only at hm
    try dsimp only
    refine hK15 _ _ ?_
    refine Wp.seqW fun K16 hK16 hW16 => ?_
    obtain ⟨r_62, hr_62, hm⟩ := call_elim hm
    refine Wp.seqR fun K17 hK17 => ?_
    simp only [go_sem, simprocAttr]
    try refine ⟨sd, ?_⟩
    refine Rg.callX (av := ?av18) (g := true) (fun hg => ok_R_RecordsError o0_60 _ hr_62) si si (by simp only [go_sem, simprocAttr, List.map_append, List.map_cons, List.map_nil]; exact Is.mk) sg si ?cont18
    intro hv18
    simp only [go_sem, simprocAttr]
    first | apply hK17 | refine ⟨sd, hK17 _ _ ?_⟩
    refine qS ?_
    refine cM hm (fun hc20 hm => ?_) (fun hc20 hm => ?_)
    ·refine qS ?_
     refine Wp.ret ?_
     simp only [thenQ, blockQ]
     refine retQ_retE ?_
     cases hm
     exact fse3
    ·refine Wp.skip ?_
     refine hK16 _ _ ?_
     refine qS ?_
     refine Wp.ret ?_
     refine retQ_ret ?_
     cases hm
     exact fse3
   clear hK15 hk_61
   refine Wp.block ?_
   obtain ⟨k_88, hk_88, hm⟩ := loopN_cont hm
   refine Wp.loopN (fun s => [(8, .buf 0), (9, .p (.l (List.map enc_api_Record s.1))), (10, .p (.l (List.map enc_api_Record s.2.1)))]) (fun s => [.buf 32 13 (List.map enc_api_Record s.2.2)]) ?_ hm ?_
   ·
    exact fse3
   clear hm
   intro s nx_89 hm
   obtain ⟨x_75, y_76, o0_77⟩ := s
   try dsimp only at hm
   try dsimp only
   refine Wp.seqW fun K23 hK23 hW23 => ?_
   refine qS ?_
   refine cM hm (fun hc25 hm => ?_) (fun hc25 hm => ?_)
   ·refine Wp.skip ?_
    refine hK23 _ _ ?_
    refine Wp.block ?_
    obtain ⟨c_90, hm⟩ := chk_elim hm
    obtain ⟨c_91, hm⟩ := chk_elim hm
    have hr_92 := getD_enc (l := x_75) (e := enc_api_Record) (d := (api_Record.mk 0 0 [] (api_Version.mk 0 0 0 []) (api_Version.mk 0 0 0 []) 0 [])) (i := 0)
    simp only [enc_api_Record, List.map_nil] at hr_92
    have hr_93 := getD_enc (l := y_76) (e := enc_api_Record) (d := (api_Record.mk 0 0 [] (api_Version.mk 0 0 0 []) (api_Version.mk 0 0 0 []) 0 [])) (i := 0)
    simp only [enc_api_Record, List.map_nil] at hr_93
    refine Wp.seqD (plan := pl [(0, none), (1, none), (2, none), (3, none), (4, none), (5, none), (6, none), (7, none), (8, none), (9, none), (10, none), (11, none), (12, none), (13, none), (14, none), (15, none), (16, none), (17, none), (18, none)]) (by kernel_rfl) rfl (by kernel_rfl) fun K26 hK26 => ?_
    simp only [go_sem, simprocAttr, hr_92, hr_93]
    first | apply hK26 | refine ⟨by first | exact sd | ((repeat' apply And.intro) <;> first | assumption | omega | (simp only [List.length_append, List.length_map, List.length_cons, List.length_nil, List.length_set, List.length_replicate] at c_90 c_91 ⊢; omega)), hK26 _ _ ?_⟩
    refine cM hm (fun hc27 hm => ?_) (fun hc27 hm => ?_)
    ·obtain ⟨r_94, hbr_94, hxr_94, hyr_94, hm⟩ := idx_elim hm
     replace hxr_94 : ∀ d, (List.map enc_api_Record x_75).getD 0 d = enc_api_Record r_94 := hxr_94 enc_api_Record
     obtain ⟨c_95, hm⟩ := chk_elim hm
     obtain ⟨c_96, hm⟩ := chk_elim hm
     refine Wp.regD (plan := pl [(0, none), (1, none), (2, none), (3, none), (6, none), (7, none), (4, some [0, 6, 7]), (5, some [6, 7]), (8, none), (9, none)]) (by kernel_rfl) rfl (by kernel_rfl) fun K28 hK28 => ?_
     simp only [go_sem, simprocAttr, hxr_94]
     first | apply hK28 | refine ⟨by first | exact sd | ((repeat' apply And.intro) <;> first | assumption | omega | (simp only [List.length_append, List.length_map, List.length_cons, List.length_nil, List.length_set, List.length_replicate] at c_95 c_96 ⊢; omega)), hK28 _ _ ?_⟩
     simp only [thenQ, blockQ, ↓reduceIte]
     refine ⟨(List.drop 1 x_75, y_76, o0_77 ++ [r_94]), hm, ?_⟩
     simp only [go_sem, simprocAttr, hxr_94]
     try exact se3
    ·obtain ⟨r_97, hbr_97, hxr_97, hyr_97, hm⟩ := idx_elim hm
     replace hxr_97 : ∀ d, (List.map enc_api_Record y_76).getD 0 d = enc_api_Record r_97 := hxr_97 enc_api_Record
     obtain ⟨c_98, hm⟩ := chk_elim hm
     obtain ⟨c_99, hm⟩ := chk_elim hm
     refine Wp.regD (plan := pl [(0, none), (1, none), (2, none), (3, none), (6, none), (7, none), (4, some [0, 6, 7]), (5, some [6, 7]), (8, none), (9, none)]) (by kernel_rfl) rfl (by kernel_rfl) fun K29 hK29 => ?_
     simp only [go_sem, simprocAttr, hxr_97]
     first | apply hK29 | refine ⟨by first | exact sd | ((repeat' apply And.intro) <;> first | assumption | omega | (simp only [List.length_append, List.length_map, List.length_cons, List.length_nil, List.length_set, List.length_replicate] at c_98 c_99 ⊢; omega)), hK29 _ _ ?_⟩
     simp only [thenQ, blockQ, ↓reduceIte]
     refine ⟨(x_75, List.drop 1 y_76, o0_77 ++ [r_97]), hm, ?_⟩
     simp only [go_sem, simprocAttr, hxr_97]
     try exact se3
   ·refine Wp.exit ?_
    simp only [thenQ, blockQ, ↓reduceIte]
    have hm := hk_88 _ hm
    try dsimp only at hm
    refine hW15 _ _ _ _ ?_ (hcut15 o0_77 hm)
    exact fse3
  clear hK11 hk_18
  refine Wp.block ?_
  obtain ⟨k_105, hk_105, hm⟩ := loopN_cont hm
  refine Wp.loopN (fun s => [(0, .p (.l (List.map enc_api_Record a_1))), (1, .p (.l (List.map enc_api_Record b_2))), (7, .p (.i .i64 s))]) (fun s => []) ?_ hm ?_
  ·
   exact fse3
  clear hm
  intro n_100 nx_106 hm
  try dsimp only at hm
  try dsimp only
  refine Wp.seqW fun K30 hK30 hW30 => ?_
  obtain ⟨c_107, hm⟩ := chk_elim hm
  obtain ⟨c_108, hm⟩ := chk_elim hm
  have hr_109 := getD_enc (l := a_1) (e := enc_api_Record) (d := (api_Record.mk 0 0 [] (api_Version.mk 0 0 0 []) (api_Version.mk 0 0 0 []) 0 [])) (i := n_100.toNat)
  simp only [enc_api_Record, List.map_nil] at hr_109
  have hr_110 := getD_enc (l := b_2) (e := enc_api_Record) (d := (api_Record.mk 0 0 [] (api_Version.mk 0 0 0 []) (api_Version.mk 0 0 0 []) 0 [])) (i := n_100.toNat)
  simp only [enc_api_Record, List.map_nil] at hr_110
  refine Wp.seqD (plan := pl [(0, none), (1, none), (2, none), (3, none), (4, none), (5, none), (6, none), (7, none), (8, none), (9, none), (10, none), (11, none), (12, none), (13, none), (14, none), (15, none), (16, none), (17, none), (18, none), (19, none), (20, none)]) (by kernel_rfl) rfl (by kernel_rfl) fun K31 hK31 => ?_
  simp only [go_sem, simprocAttr, hr_109, hr_110]
  first | apply hK31 | refine ⟨by first | exact sd | ((repeat' apply And.intro) <;> first | assumption | omega | (simp only [List.length_append, List.length_map, List.length_cons, List.length_nil, List.length_set, List.length_replicate] at c_107 c_108 ⊢; omega)), hK31 _ _ ?_⟩
  refine cM hm (fun hc32 hm => ?_) (fun hc32 hm => ?_)
  ·refine Wp.skip ?_
   refine hK30 _ _ ?_
   refine Wp.block ?_
   refine qR ?_
   simp only [thenQ, blockQ, ↓reduceIte]
   refine ⟨IntKind.i64.wrap (n_100 + 1), hm, ?_⟩
   exact fse3
  ·refine Wp.exit ?_
   simp only [thenQ, blockQ, ↓reduceIte]
   have hm := hk_105 _ hm
   try dsimp only at hm
   refine hW11 _ _ _ _ ?_ (hcut11 n_100 hm)
   exact fse3
theorem ok_slices_Equal_api_Record_api_Record (s1_1 : List api_Record) (s2_2 : List api_Record) (z : Bool) (hm : slices_Equal_api_Record_api_Record s1_1 s2_2 = some z) : Does Tryz.prog 10 [.p (.l (List.map enc_api_Record s1_1)), .p (.l (List.map enc_api_Record s2_2))] [] (fun r X => r = .p (.b z) ∧ X = []) := by
 unfold slices_Equal_api_Record_api_Record at hm
 refine Does.of_wp 0 26 [.tmp 4] Tryz.func10 rfl (by decide) rfl rfl (Nat.le_of_ble_eq_true rfl) fun B => ?_
 refine qS ?_
 refine Wp.seqW fun K2 hK2 hW2 => ?_
 refine qS ?_
 refine cM hm (fun hc4 hm => ?_) (fun hc4 hm => ?_)
 ·refine qS ?_
  refine Wp.ret ?_
  refine retQ_ret ?_
  cases hm
  exact fse3
 ·refine Wp.skip ?_
  refine hK2 _ _ ?_
  refine Wp.seqW fun K6 hK6 hW6 => ?_
  obtain ⟨k_12, hk_12, hm⟩ := jp_elim hm
  have hcut6 : ∀ s, k_12 s = some z → K6 [] [] := by
   intro s hs
   have hm := hk_12 _ hs
   clear hs
   try dsimp only at hm
   try dsimp only
   refine hK6 _ _ ?_
   refine qS ?_
   refine Wp.ret ?_
   refine retQ_ret ?_
   cases hm
   exact fse3
  clear hK6 hk_12
  refine qS ?_
  refine Wp.block ?_
  obtain ⟨k_16, hk_16, hm⟩ := forL_cont hm
  refine Wp.fact 0 fun hl_19 => ?_
  replace hl_19 : s1_1.length ≤ 274877906944 := by
   simp only [go_sem, simprocAttr, List.length_map] at hl_19
   omega
  refine Wp.forL (fun i_18 s => [(0, .p (.l (List.map enc_api_Record s1_1))), (1, .p (.l (List.map enc_api_Record s2_2))), (12, .p (.i .i64 (s1_1.length : Int))), (13, .p (.i .i64 (i_18 : Int)))]) (fun i_18 s => []) ?_ hm ?_
  ·
   exact fse3
  clear hm
  intro i_18 s hii_18 hm
  try dsimp only at hm
  try dsimp only
  refine qS ?_
  refine Wp.seqW fun K10 hK10 hW10 => ?_
  refine Wp.cond rfl ⟨⟩ (fun hc10 => ?_) (fun hc10 => ?_)
  rotate_left
  ·refine Wp.exit ?_
   have hm := hk_16 _ (forL_end hm (ge_nat (by first | exact hc10 | simpa using hc10)))
   try dsimp only at hm
   refine hW6 _ _ _ _ ?_ (hcut6 () hm)
   exact fse3
  have hlt10 := lt_nat (by first | exact hc10 | simpa using hc10)
  have hw10 := wrap_succ hlt10 hl_19
  obtain ⟨r_20, nx_17, hxr_20, hyr_20, hnx_17, hm⟩ := forL_step hm hlt10
  replace hxr_20 := hxr_20 enc_api_Record
  refine Wp.skip ?_
  simp only [thenQ]
  refine hK10 _ _ ?_
  refine Wp.seqW fun K11 hK11 hW11 => ?_
  refine Wp.block ?_
  refine Wp.seqR fun K12 hK12 => ?_
  simp only [go_sem, simprocAttr, hw10, hxr_20]
  first | apply hK12 | refine ⟨sd, hK12 _ _ ?_⟩
  obtain ⟨r_21, hbr_21, hxr_21, hyr_21, hm⟩ := idx_elim hm
  replace hxr_21 : ∀ d, (List.map enc_api_Record s2_2).getD i_18 d = enc_api_Record r_21 := hxr_21 enc_api_Record
  refine Wp.seqD (plan := pl [(0, none), (1, none), (2, none), (3, none), (4, none), (5, none), (6, none), (7, none), (8, none)]) (by kernel_rfl) rfl (by kernel_rfl) fun K13 hK13 => ?_
  simp only [go_sem, simprocAttr, hw10, hxr_20, hxr_21]
  first | apply hK13 | refine ⟨sd, hK13 _ _ ?_⟩
  refine cM hm (fun hc14 hm => ?_) (fun hc14 hm => ?_)
  ·refine Wp.seqR fun K15 hK15 => ?_
   simp only [go_sem, simprocAttr, hw10, hxr_20, hxr_21]
   first | apply hK15 | refine ⟨sd, hK15 _ _ ?_⟩
   refine Wp.ret ?_
   refine retQ_ret ?_
   cases hm
   simp only [go_sem, simprocAttr, hw10, hxr_20, hxr_21]
   try exact se3
  ·refine Wp.skip ?_
   refine hK11 _ _ ?_
   refine Wp.region fun K16 hK16 => ?_
   simp only [go_sem, simprocAttr, hw10, hxr_20, hxr_21]
   first | apply hK16 | refine ⟨sd, hK16 _ _ ?_⟩
   simp only [thenQ, blockQ, ↓reduceIte]
   refine ⟨(), hlt10, hnx_17 _ hm, ?_⟩
   simp only [go_sem, simprocAttr, hw10, hxr_20, hxr_21]
   try exact se3
end Go.Proofs.YthmjpfooffbhhaaGreatDoor
