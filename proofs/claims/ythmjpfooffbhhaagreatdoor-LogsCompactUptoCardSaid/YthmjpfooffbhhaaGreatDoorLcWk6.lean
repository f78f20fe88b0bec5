/- That the code does what the models say (part 6). -/
import Derived.Test.YthmjpfooffbhhaaGreatDoorLcWk0
import Derived.Test.YthmjpfooffbhhaaGreatDoorLcWk1
import Derived.Test.YthmjpfooffbhhaaGreatDoorLcWk3
import Derived.Test.YthmjpfooffbhhaaGreatDoorLcWk5
set_option linter.unusedSimpArgs false
set_option linter.unusedVariables false
open Go.Proofs Go.Shelf
namespace Go.Proofs.YthmjpfooffbhhaaGreatDoor
open Go.Vc Go.Md
set_option maxRecDepth 100000
set_option maxHeartbeats 4000000
theorem ok_ver_Order (a_1 : api_Version) (b_2 : api_Version) (z : Int) (hm : ver_Order a_1 b_2 = some z) : Does Tryz.prog 82 [.agg [.p (.i .i64 a_1.Major), .p (.i .i64 a_1.Minor), .p (.i .i64 a_1.Patch), .p (.s a_1.Early)], .agg [.p (.i .i64 b_2.Major), .p (.i .i64 b_2.Minor), .p (.i .i64 b_2.Patch), .p (.s b_2.Early)]] [] (fun r X => r = .p (.i .i64 z) ∧ X = []) := by
 unfold ver_Order at hm
 refine Does.of_wp 0 27 [.tmp 4] Tryz.func82 rfl (by decide) rfl rfl (Nat.le_of_ble_eq_true rfl) fun B => ?_
 refine qS ?_
 obtain ⟨r_3, hr_3, hm⟩ := call_elim hm
 obtain ⟨r_4, hr_4, hm⟩ := call_elim hm
 obtain ⟨r_5, hr_5, hm⟩ := call_elim hm
 obtain ⟨r_6, hr_6, hm⟩ := call_elim hm
 obtain ⟨r_7, hr_7, hm⟩ := call_elim hm
 refine Wp.seqD (plan := pl [(0, none), (1, none), (2, none), (3, none), (4, none), (5, none), (6, none), (7, none), (8, none), (9, none), (10, none), (11, none), (12, none), (13, none), (14, none), (15, none), (16, none), (17, none), (18, none), (19, none), (20, some []), (21, none), (22, none)]) (by kernel_rfl) rfl (by kernel_rfl) fun K2 hK2 => ?_
 simp only [go_sem, simprocAttr]
 try refine ⟨sd, ?_⟩
 refine Dr.callF (av := ?av3) (g := true) (o := ?o3) (fun hg => ok_cmp_Compare_int a_1.Major b_2.Major _ hr_3) si si si si sg si ?cont3
 simp only [go_sem, simprocAttr]
 try refine ⟨sd, ?_⟩
 refine Dr.callF (av := ?av4) (g := true) (o := ?o4) (fun hg => ok_cmp_Compare_int a_1.Minor b_2.Minor _ hr_4) si si si si sg si ?cont4
 simp only [go_sem, simprocAttr]
 try refine ⟨sd, ?_⟩
 refine Dr.callF (av := ?av5) (g := true) (o := ?o5) (fun hg => ok_cmp_Compare_int a_1.Patch b_2.Patch _ hr_5) si si si si sg si ?cont5
 simp only [go_sem, simprocAttr]
 try refine ⟨sd, ?_⟩
 refine Dr.callF (av := ?av6) (g := true) (o := ?o6) (fun hg => ok_ver_compareEarly a_1.Early b_2.Early _ hr_6) si si si si sg si ?cont6
 simp only [go_sem, simprocAttr]
 try refine ⟨sd, ?_⟩
 refine Dr.callF (av := ?av7) (g := true) (o := ?o7) (fun hg => ok_cmp_Or_int [r_3, r_4, r_5, r_6] _ hr_7) si si si si sg si ?cont7
 simp only [go_sem, simprocAttr]
 first | apply hK2 | refine ⟨sd, hK2 _ _ ?_⟩
 refine Wp.ret ?_
 refine retQ_ret ?_
 cases hm
 exact fse3
theorem ok_ver_IsValue_1 (c_1 : Int) (z : Bool) (hm : ver_IsValue_1 c_1 = some z) : Does Tryz.prog 100 [.p (.i .u8 c_1)] [] (fun r X => r = .p (.b z) ∧ X = []) := by
 unfold ver_IsValue_1 at hm
 refine Does.of_wp 0 9 [.tmp 2] Tryz.func100 rfl (by decide) rfl rfl (Nat.le_of_ble_eq_true rfl) fun B => ?_
 refine qS ?_
 refine qS ?_
 refine Wp.ret ?_
 refine retQ_ret ?_
 cases hm
 exact fse3
theorem ok_ver_each_i4 (s_1 : Str) (most_2 : Int) (z : Bool) (hm : ver_each_i4 s_1 most_2 = some z) : Does Tryz.prog 44 [.p (.s s_1), .p (.i .i64 most_2), .fn 100 []] [] (fun r X => r = .p (.b z) ∧ X = []) := by
 unfold ver_each_i4 at hm
 refine Does.of_wp 0 28 [.tmp 6] Tryz.func44 rfl (by decide) rfl rfl (Nat.le_of_ble_eq_true rfl) fun B => ?_
 refine qS ?_
 refine Wp.seqW fun K2 hK2 hW2 => ?_
 obtain ⟨k_12, hk_12, hm⟩ := jp_elim hm
 have hcut2 : ∀ s, k_12 s = some z → K2 [(0, .p (.s s_1)), (1, .p (.i .i64 most_2))] [] := by
  intro s hs
  have hm := hk_12 _ hs
  clear hs
  try dsimp only at hm
  try dsimp only
  refine hK2 _ _ ?_
  refine qS ?_
  refine Wp.ret ?_
  refine retQ_ret ?_
  cases hm
  exact fse3
 clear hK2 hk_12
 refine qS ?_
 refine Wp.block ?_
 obtain ⟨k_16, hk_16, hm⟩ := forL_cont hm
 refine Wp.fact 0 fun hl_19 => ?_
 replace hl_19 : s_1.length ≤ 274877906944 := by
  simp only [go_sem, simprocAttr, List.length_map] at hl_19
  omega
 refine Wp.forL (fun i_18 s => [(0, .p (.s s_1)), (1, .p (.i .i64 most_2)), (2, .fn 100 []), (7, .p (.i .i64 (i_18 : Int)))]) (fun i_18 s => []) ?_ hm ?_
 ·
  exact fse3
 clear hm
 intro i_18 s hii_18 hm
 try dsimp only at hm
 try dsimp only
 refine Wp.seqW fun K5 hK5 hW5 => ?_
 refine qS ?_
 refine Wp.cond rfl ⟨⟩ (fun hc5 => ?_) (fun hc5 => ?_)
 rotate_left
 ·refine Wp.exit ?_
  have hm := hk_16 _ (forL_end hm (ge_nat (by first | exact hc5 | simpa using hc5)))
  try dsimp only at hm
  refine hW2 _ _ _ _ ?_ (hcut2 () hm)
  exact fse3
 have hlt5 := lt_nat (by first | exact hc5 | simpa using hc5)
 have hw5 := wrap_succ hlt5 hl_19
 obtain ⟨c_20, nx_17, hxc_20, hyc_20, hnx_17, hm⟩ := forL_step hm hlt5
 clear hxc_20
 refine Wp.skip ?_
 simp only [thenQ]
 refine hK5 _ _ ?_
 refine Wp.seqW fun K7 hK7 hW7 => ?_
 refine Wp.block ?_
 obtain ⟨r_21, hr_21, hm⟩ := call_elim hm
 refine Wp.seqR fun K8 hK8 => ?_
 simp only [go_sem, simprocAttr, hw5, hyc_20]
 try refine ⟨sd, ?_⟩
 refine Rg.callX (av := ?av9) (g := true) (fun hg => ok_ver_IsValue_1 (c_20.toNat : Int) _ hr_21) (by simp only [go_sem, simprocAttr, hw5, hyc_20]; exact Is.mk) (by simp only [go_sem, simprocAttr, hw5, hyc_20]; exact Is.mk) (by simp only [go_sem, simprocAttr, hw5, hyc_20]; exact Is.mk) (by simp only [go_sem, simprocAttr, hw5, hyc_20]) (by simp only [go_sem, simprocAttr, hw5, hyc_20]; exact Is.mk) ?cont9
 intro hv9
 simp only [go_sem, simprocAttr, hw5, hyc_20]
 first | apply hK8 | refine ⟨sd, hK8 _ _ ?_⟩
 refine cM hm (fun hc10 hm => ?_) (fun hc10 hm => ?_)
 ·refine Wp.seqR fun K11 hK11 => ?_
  simp only [go_sem, simprocAttr, hw5, hyc_20]
  first | apply hK11 | refine ⟨sd, hK11 _ _ ?_⟩
  refine Wp.ret ?_
  refine retQ_ret ?_
  cases hm
  simp only [go_sem, simprocAttr, hw5, hyc_20]
  try exact se3
 ·refine Wp.skip ?_
  refine hK7 _ _ ?_
  refine Wp.region fun K12 hK12 => ?_
  simp only [go_sem, simprocAttr, hw5, hyc_20]
  first | apply hK12 | refine ⟨sd, hK12 _ _ ?_⟩
  simp only [thenQ, blockQ, ↓reduceIte]
  refine ⟨(), hlt5, hnx_17 _ hm, ?_⟩
  simp only [go_sem, simprocAttr, hw5, hyc_20]
  try exact se3
theorem ok_ver_IsValue (s_1 : Str) (z : Bool) (hm : ver_IsValue s_1 = some z) : Does Tryz.prog 83 [.p (.s s_1)] [] (fun r X => r = .p (.b z) ∧ X = []) := by
 unfold ver_IsValue at hm
 refine Does.of_wp 0 9 [.tmp 2] Tryz.func83 rfl (by decide) rfl rfl (Nat.le_of_ble_eq_true rfl) fun B => ?_
 refine qS ?_
 obtain ⟨r_2, hr_2, hm⟩ := callG_elim hm
 refine Wp.seqR fun K2 hK2 => ?_
 simp only [go_sem, simprocAttr]
 try refine ⟨sd, ?_⟩
 refine Rg.callX (av := ?av3) (g := !(decide (s_1 = []))) (fun hg => ok_ver_each_i4 s_1 1000 _ (hr_2 hg)) si si si sg si ?cont3
 intro hv3
 simp only [go_sem, simprocAttr]
 first | apply hK2 | refine ⟨sd, hK2 _ _ ?_⟩
 refine Wp.ret ?_
 refine retQ_ret ?_
 cases hm
 exact fse3
theorem ok_log_CheckRecord (r_1 : api_Record) (z : Int) (hm : log_CheckRecord r_1 = some z) : Does Tryz.prog 55 [.agg [.p (.i .i64 r_1.Time), .p (.i .i64 r_1.Kind), .p (.s r_1.Pack), .p (.i .i64 r_1.From.Major), .p (.i .i64 r_1.From.Minor), .p (.i .i64 r_1.From.Patch), .p (.s r_1.From.Early), .p (.i .i64 r_1.To.Major), .p (.i .i64 r_1.To.Minor), .p (.i .i64 r_1.To.Patch), .p (.s r_1.To.Early), .p (.i .i64 r_1.Result), .p (.s r_1.Note)]] [] (fun r X => r = .p (.i .i64 z) ∧ X = []) := by
 unfold log_CheckRecord at hm
 refine Does.of_wp 0 94 [.tmp 2] Tryz.func55 rfl (by decide) rfl rfl (Nat.le_of_ble_eq_true rfl) fun B => ?_
 refine qS ?_
 refine Wp.seqW fun K2 hK2 hW2 => ?_
 refine Wp.block ?_
 obtain ⟨r_2, hr_2, hm⟩ := call_elim hm
 refine Wp.seqR fun K3 hK3 => ?_
 simp only [go_sem, simprocAttr]
 try refine ⟨sd, ?_⟩
 refine Rg.callX (av := ?av4) (g := true) (fun hg => ok_log_outside r_1.Time 0 1099511627776 _ hr_2) si si si sg si ?cont4
 intro hv4
 simp only [go_sem, simprocAttr]
 first | apply hK3 | refine ⟨sd, hK3 _ _ ?_⟩
 refine cM hm (fun hc5 hm => ?_) (fun hc5 hm => ?_)
 ·refine qS ?_
  refine Wp.ret ?_
  refine retQ_ret ?_
  cases hm
  exact fse3
 ·obtain ⟨r_3, hr_3, hm⟩ := call_elim hm
  refine Wp.seqR fun K7 hK7 => ?_
  simp only [go_sem, simprocAttr]
  try refine ⟨sd, ?_⟩
  refine Rg.callX (av := ?av8) (g := true) (fun hg => ok_log_outside r_1.Kind 1 6 _ hr_3) si si si sg si ?cont8
  intro hv8
  simp only [go_sem, simprocAttr]
  first | apply hK7 | refine ⟨sd, hK7 _ _ ?_⟩
  refine cM hm (fun hc9 hm => ?_) (fun hc9 hm => ?_)
  ·refine qS ?_
   refine Wp.ret ?_
   refine retQ_ret ?_
   cases hm
   exact fse3
  ·obtain ⟨r_4, hr_4, hm⟩ := call_elim hm
   refine Wp.seqR fun K11 hK11 => ?_
   simp only [go_sem, simprocAttr]
   try refine ⟨sd, ?_⟩
   refine Rg.callX (av := ?av12) (g := true) (fun hg => ok_ver_IsName r_1.Pack _ hr_4) si si si sg si ?cont12
   intro hv12
   simp only [go_sem, simprocAttr]
   first | apply hK11 | refine ⟨sd, hK11 _ _ ?_⟩
   refine cM hm (fun hc13 hm => ?_) (fun hc13 hm => ?_)
   ·refine qS ?_
    refine Wp.ret ?_
    refine retQ_ret ?_
    cases hm
    exact fse3
   ·refine Wp.skip ?_
    refine hK2 _ _ ?_
    refine Wp.seqW fun K15 hK15 hW15 => ?_
    obtain ⟨k_19, hk_19, hm⟩ := jp_elim hm
    have hcut15 : ∀ s, k_19 s = some z → K15 [(1, .ptr 0 0)] [.cells 32 [.p (.i .i64 r_1.Time), .p (.i .i64 r_1.Kind), .p (.s r_1.Pack), .p (.i .i64 r_1.From.Major), .p (.i .i64 r_1.From.Minor), .p (.i .i64 r_1.From.Patch), .p (.s r_1.From.Early), .p (.i .i64 r_1.To.Major), .p (.i .i64 r_1.To.Minor), .p (.i .i64 r_1.To.Patch), .p (.s r_1.To.Early), .p (.i .i64 r_1.Result), .p (.s r_1.Note)]] := by
     intro s hs
     have hm := hk_19 _ hs
     clear hs
     try dsimp only at hm
     try dsimp only
     refine hK15 _ _ ?_
     obtain ⟨r_20, hr_20, hm⟩ := call_elim hm
     refine Wp.seqR fun K16 hK16 => ?_
     simp only [go_sem, simprocAttr]
     try refine ⟨sd, ?_⟩
     refine Rg.callX (av := ?av17) (g := true) (fun hg => ok_log_uses r_1.Kind _ hr_20) si si si sg si ?cont17
     intro hv17
     simp only [go_sem, simprocAttr]
     first | apply hK16 | refine ⟨sd, hK16 _ _ ?_⟩
     refine qS ?_
     refine Wp.seqW fun K19 hK19 hW19 => ?_
     refine qS ?_
     refine cM hm (fun hc21 hm => ?_) (fun hc21 hm => ?_)
     ·refine qS ?_
      refine Wp.ret ?_
      refine retQ_ret ?_
      cases hm
      exact fse3
     ·refine Wp.skip ?_
      refine hK19 _ _ ?_
      obtain ⟨r_21, hr_21, hm⟩ := call_elim hm
      refine Wp.seqR fun K23 hK23 => ?_
      simp only [go_sem, simprocAttr]
      try refine ⟨sd, ?_⟩
      refine Rg.callX (av := ?av24) (g := true) (fun hg => ok_ver_Order r_1.From r_1.To _ hr_21) si si si sg si ?cont24
      intro hv24
      simp only [go_sem, simprocAttr]
      first | apply hK23 | refine ⟨sd, hK23 _ _ ?_⟩
      refine Wp.seqW fun K25 hK25 hW25 => ?_
      refine Wp.block ?_
      refine qS ?_
      refine cM hm (fun hc27 hm => ?_) (fun hc27 hm => ?_)
      ·refine qS ?_
       refine Wp.ret ?_
       refine retQ_ret ?_
       cases hm
       exact fse3
      ·obtain ⟨r_22, hr_22, hm⟩ := call_elim hm
       refine Wp.seqR fun K29 hK29 => ?_
       simp only [go_sem, simprocAttr]
       try refine ⟨sd, ?_⟩
       refine Rg.callX (av := ?av30) (g := true) (fun hg => ok_log_outside r_1.Result 0 18 _ hr_22) si si si sg si ?cont30
       intro hv30
       simp only [go_sem, simprocAttr]
       first | apply hK29 | refine ⟨sd, hK29 _ _ ?_⟩
       refine cM hm (fun hc31 hm => ?_) (fun hc31 hm => ?_)
       ·refine qS ?_
        refine Wp.ret ?_
        refine retQ_ret ?_
        cases hm
        exact fse3
       ·obtain ⟨r_23, hr_23, hm⟩ := call_elim hm
        refine Wp.seqR fun K33 hK33 => ?_
        simp only [go_sem, simprocAttr]
        try refine ⟨sd, ?_⟩
        refine Rg.callX (av := ?av34) (g := true) (fun hg => ok_ver_IsValue r_1.Note _ hr_23) si si si sg si ?cont34
        intro hv34
        simp only [go_sem, simprocAttr]
        first | apply hK33 | refine ⟨sd, hK33 _ _ ?_⟩
        refine cM hm (fun hc35 hm => ?_) (fun hc35 hm => ?_)
        ·refine qS ?_
         refine Wp.ret ?_
         refine retQ_ret ?_
         cases hm
         exact fse3
        ·refine Wp.skip ?_
         refine hK25 _ _ ?_
         refine qS ?_
         refine Wp.ret ?_
         refine retQ_ret ?_
         cases hm
         exact fse3
    clear hK15 hk_19
    refine qS ?_
    refine Wp.block ?_
    refine Wp.loopK 9 ?_
    simp only [WpL]
    refine qS ?_
    refine Wp.seqW fun K40 hK40 hW40 => ?_
    refine Wp.cond rfl ⟨⟩ (fun hc41 => ?_) (fun hc41 => ?_)
    rotate_left
    ·cases hc41
    refine Wp.skip ?_
    refine hK40 _ _ ?_
    refine Wp.seqW fun K42 hK42 hW42 => ?_
    refine Wp.block ?_
    refine qS ?_
    obtain ⟨r_36, hr_36, hm⟩ := call_elim hm
    refine Wp.seqR fun K44 hK44 => ?_
    simp only [go_sem, simprocAttr]
    try refine ⟨sd, ?_⟩
    refine Rg.callX (av := ?av45) (g := true) (fun hg => ok_ver_Check r_1.From _ hr_36) si si si sg si ?cont45
    intro hv45
    simp only [go_sem, simprocAttr]
    first | apply hK44 | refine ⟨sd, hK44 _ _ ?_⟩
    refine qS ?_
    refine cM hm (fun hc47 hm => ?_) (fun hc47 hm => ?_)
    ·refine qS ?_
     refine Wp.ret ?_
     refine retQ_ret ?_
     cases hm
     exact fse3
    ·refine Wp.skip ?_
     refine hK42 _ _ ?_
     refine qR ?_
     simp only [thenQ, blockQ, ↓reduceIte]
     try simp only [WpL]
     refine qS ?_
     refine Wp.seqW fun K51 hK51 hW51 => ?_
     refine Wp.cond rfl ⟨⟩ (fun hc52 => ?_) (fun hc52 => ?_)
     rotate_left
     ·cases hc52
     refine Wp.skip ?_
     refine hK51 _ _ ?_
     refine Wp.seqW fun K53 hK53 hW53 => ?_
     refine Wp.block ?_
     refine qS ?_
     obtain ⟨r_37, hr_37, hm⟩ := call_elim hm
     refine Wp.seqR fun K55 hK55 => ?_
     simp only [go_sem, simprocAttr]
     try refine ⟨sd, ?_⟩
     refine Rg.callX (av := ?av56) (g := true) (fun hg => ok_ver_Check r_1.To _ hr_37) si si si sg si ?cont56
     intro hv56
     simp only [go_sem, simprocAttr]
     first | apply hK55 | refine ⟨sd, hK55 _ _ ?_⟩
     refine qS ?_
     refine cM hm (fun hc58 hm => ?_) (fun hc58 hm => ?_)
     ·refine qS ?_
      refine Wp.ret ?_
      refine retQ_ret ?_
      cases hm
      exact fse3
     ·refine Wp.skip ?_
      refine hK53 _ _ ?_
      refine qR ?_
      simp only [thenQ, blockQ, ↓reduceIte]
      try simp only [WpL]
      refine qS ?_
      refine Wp.seqW fun K62 hK62 hW62 => ?_
      refine Wp.cond rfl ⟨⟩ (fun hc63 => ?_) (fun hc63 => ?_)
      ·cases hc63
      refine Wp.exit ?_
      refine hW15 _ _ _ _ ?_ (hcut15 () hm)
      exact fse3
theorem ok_log_table_fault_i1 (r_1 : api_Record) (o0_1_2 : Int) (m1_3 : List (Str × log_had)) (z : Int) (hm : log_table_fault_i1 r_1 o0_1_2 m1_3 = some z) : Does Tryz.prog 56 [.ptr 0 0, .agg [.p (.i .i64 r_1.Time), .p (.i .i64 r_1.Kind), .p (.s r_1.Pack), .p (.i .i64 r_1.From.Major), .p (.i .i64 r_1.From.Minor), .p (.i .i64 r_1.From.Patch), .p (.s r_1.From.Early), .p (.i .i64 r_1.To.Major), .p (.i .i64 r_1.To.Minor), .p (.i .i64 r_1.To.Patch), .p (.s r_1.To.Early), .p (.i .i64 r_1.Result), .p (.s r_1.Note)]] [.cells 81 [.mp 1, .p (.i .i64 o0_1_2)], .mp true (encM Dt.s enc_log_had m1_3)] (fun r X => r = .p (.i .i64 z) ∧ X = [.cells 81 [.mp 1, .p (.i .i64 o0_1_2)], .mp true (encM Dt.s enc_log_had m1_3)]) := by
 unfold log_table_fault_i1 at hm
 refine Does.of_wp 2 55 [.tmp 4] Tryz.func56 rfl (by decide) rfl rfl (Nat.le_of_ble_eq_true rfl) fun B => ?_
 refine qS ?_
 refine Wp.seqW fun K2 hK2 hW2 => ?_
 refine Wp.seqD (plan := pl [(0, none), (1, none), (2, none), (3, none), (4, none), (5, none), (6, none)]) (by kernel_rfl) rfl (by kernel_rfl) fun K3 hK3 => ?_
 simp only [go_sem, simprocAttr]
 first | apply hK3 | refine ⟨sd, hK3 _ _ ?_⟩
 refine cM hm (fun hc4 hm => ?_) (fun hc4 hm => ?_)
 ·refine qS ?_
  refine Wp.ret ?_
  refine retQ_ret ?_
  cases hm
  exact fse3
 ·refine Wp.skip ?_
  refine hK2 _ _ ?_
  obtain ⟨q_12, hq_13, hm⟩ := letv_elim hm
  have hq_13d := mlookD_enc (e := enc_log_had) keq_s m1_3 r_1.Pack (log_had.mk (api_Version.mk 0 0 0 []) 0)
  have hq_13s := mlook_some (e := enc_log_had) keq_s m1_3 r_1.Pack
  simp only [hq_13, enc_log_had, List.map_nil] at hq_13d hq_13s
  refine Wp.seqD (plan := pl [(0, none), (1, none), (2, none), (3, none), (4, none), (5, none), (6, none), (7, none), (8, none), (9, none), (10, some [0, 1, 2, 3, 4, 5, 6, 7, 8, 9]), (11, some [9]), (12, none)]) (by kernel_rfl) rfl (by kernel_rfl) fun K6 hK6 => ?_
  simp only [go_sem, simprocAttr, hq_13d, hq_13s]
  first | apply hK6 | refine ⟨sd, hK6 _ _ ?_⟩
  refine qS ?_
  refine Wp.seqW fun K8 hK8 hW8 => ?_
  obtain ⟨k_17, hk_17, hm⟩ := jp_elim hm
  have hcut8 : ∀ s, k_17 s = some z → K8 [(7, .p (.b s))] [.cells 81 [.mp 1, .p (.i .i64 o0_1_2)], .mp true (encM Dt.s enc_log_had m1_3)] := by
   intro bad_16 hs
   have hm := hk_17 _ hs
   clear hs
   try dsimp only at hm
   try dsimp only
   refine hK8 _ _ ?_
   refine Wp.seqW fun K9 hK9 hW9 => ?_
   refine qS ?_
   refine cM hm (fun hc11 hm => ?_) (fun hc11 hm => ?_)
   ·refine qS ?_
    refine Wp.ret ?_
    refine retQ_ret ?_
    cases hm
    exact fse3
   ·refine Wp.skip ?_
    refine hK9 _ _ ?_
    refine qS ?_
    refine Wp.ret ?_
    refine retQ_ret ?_
    cases hm
    exact fse3
  clear hK8 hk_17
  refine qS ?_
  refine Wp.block ?_
  refine qS ?_
  refine cM hm (fun hc16 hm => ?_) (fun hc16 hm => ?_)
  ·refine qR ?_
   refine hW8 _ _ _ _ ?_ (hcut8 q_12.isSome hm)
   exact fse3
  ·refine Wp.seqW fun K18 hK18 hW18 => ?_
   obtain ⟨k_19, hk_19, hm⟩ := jp_elim hm
   have hcut18 : ∀ s, k_19 s = some z → K18 [(3, .ptr 2 0), (5, .ptr 3 0), (6, .p (.b q_12.isSome)), (7, .p (.b false)), (26, .p (.i .i64 r_1.Kind)), (30, .p (.b s))] [.cells 81 [.mp 1, .p (.i .i64 o0_1_2)], .mp true (encM Dt.s enc_log_had m1_3), .cells 32 [.p (.i .i64 r_1.Time), .p (.i .i64 r_1.Kind), .p (.s r_1.Pack), .p (.i .i64 r_1.From.Major), .p (.i .i64 r_1.From.Minor), .p (.i .i64 r_1.From.Patch), .p (.s r_1.From.Early), .p (.i .i64 r_1.To.Major), .p (.i .i64 r_1.To.Minor), .p (.i .i64 r_1.To.Patch), .p (.s r_1.To.Early), .p (.i .i64 r_1.Result), .p (.s r_1.Note)], .cells 77 [.p (.i .i64 (((q_12.getD (log_had.mk (api_Version.mk 0 0 0 []) 0)).v).Major)), .p (.i .i64 (((q_12.getD (log_had.mk (api_Version.mk 0 0 0 []) 0)).v).Minor)), .p (.i .i64 (((q_12.getD (log_had.mk (api_Version.mk 0 0 0 []) 0)).v).Patch)), .p (.s (((q_12.getD (log_had.mk (api_Version.mk 0 0 0 []) 0)).v).Early)), .p (.i .i64 ((q_12.getD (log_had.mk (api_Version.mk 0 0 0 []) 0)).since))]] := by
    intro t30_18 hs
    have hm := hk_19 _ hs
    clear hs
    try dsimp only at hm
    try dsimp only
    refine hK18 _ _ ?_
    refine cM hm (fun hc19 hm => ?_) (fun hc19 hm => ?_)
    ·refine qR ?_
     refine hW8 _ _ _ _ ?_ (hcut8 ((!q_12.isSome) || (!((decide ((((q_12.getD (log_had.mk (api_Version.mk 0 0 0 []) 0)).v).Major) = r_1.From.Major)) && ((decide ((((q_12.getD (log_had.mk (api_Version.mk 0 0 0 []) 0)).v).Minor) = r_1.From.Minor)) && ((decide ((((q_12.getD (log_had.mk (api_Version.mk 0 0 0 []) 0)).v).Patch) = r_1.From.Patch)) && (decide ((((q_12.getD (log_had.mk (api_Version.mk 0 0 0 []) 0)).v).Early) = r_1.From.Early))))))) hm)
     exact fse3
    ·refine qS ?_
     refine cM hm (fun hc22 hm => ?_) (fun hc22 hm => ?_)
     ·refine qR ?_
      refine hW8 _ _ _ _ ?_ (hcut8 ((!q_12.isSome) || (!((decide ((((q_12.getD (log_had.mk (api_Version.mk 0 0 0 []) 0)).v).Major) = r_1.To.Major)) && ((decide ((((q_12.getD (log_had.mk (api_Version.mk 0 0 0 []) 0)).v).Minor) = r_1.To.Minor)) && ((decide ((((q_12.getD (log_had.mk (api_Version.mk 0 0 0 []) 0)).v).Patch) = r_1.To.Patch)) && (decide ((((q_12.getD (log_had.mk (api_Version.mk 0 0 0 []) 0)).v).Early) = r_1.To.Early))))))) hm)
      exact fse3
     ·refine Wp.skip ?_
      refine hW8 _ _ _ _ ?_ (hcut8 false hm)
      exact fse3
   clear hK18 hk_19
   refine qS ?_
   refine cM hm (fun hc25 hm => ?_) (fun hc25 hm => ?_)
   ·refine Wp.skip ?_
    refine hW18 _ _ _ _ ?_ (hcut18 (decide (r_1.Kind = 2)) hm)
    exact fse3
   ·refine qS ?_
    refine cM hm (fun hc27 hm => ?_) (fun hc27 hm => ?_)
    ·refine Wp.skip ?_
     refine hW18 _ _ _ _ ?_ (hcut18 (decide (r_1.Kind = 3)) hm)
     exact fse3
    ·refine qR ?_
     refine hW18 _ _ _ _ ?_ (hcut18 (decide (r_1.Kind = 4)) hm)
     exact fse3
theorem ok_log_table_add_i1 (r_1 : api_Record) (o0_1_2 : Int) (m1_3 : List (Str × log_had)) (z : Int × (List (Str × log_had))) (hm : log_table_add_i1 r_1 o0_1_2 m1_3 = some z) : Does Tryz.prog 57 [.ptr 0 0, .agg [.p (.i .i64 r_1.Time), .p (.i .i64 r_1.Kind), .p (.s r_1.Pack), .p (.i .i64 r_1.From.Major), .p (.i .i64 r_1.From.Minor), .p (.i .i64 r_1.From.Patch), .p (.s r_1.From.Early), .p (.i .i64 r_1.To.Major), .p (.i .i64 r_1.To.Minor), .p (.i .i64 r_1.To.Patch), .p (.s r_1.To.Early), .p (.i .i64 r_1.Result), .p (.s r_1.Note)]] [.cells 81 [.mp 1, .p (.i .i64 o0_1_2)], .mp true (encM Dt.s enc_log_had m1_3)] (fun r X => r = .tup [] ∧ X = [.cells 81 [.mp 1, .p (.i .i64 z.1)], .mp true (encM Dt.s enc_log_had z.2)]) := by
 unfold log_table_add_i1 at hm
 refine Does.of_wp 2 37 [] Tryz.func57 rfl (by decide) rfl rfl (Nat.le_of_ble_eq_true rfl) fun B => ?_
 refine qS ?_
 refine qS ?_
 refine Wp.seqW fun K3 hK3 hW3 => ?_
 refine qS ?_
 refine cM hm (fun hc5 hm => ?_) (fun hc5 hm => ?_)
 ·refine Wp.ret ?_
  refine retQ_ret ?_
  cases hm
  exact fse3
 ·refine Wp.skip ?_
  refine hK3 _ _ ?_
  refine qS ?_
  refine Wp.block ?_
  refine Wp.seqW fun K7 hK7 hW7 => ?_
  obtain ⟨k_10, hk_10, hm⟩ := jp_elim hm
  have hcut7 : ∀ s, k_10 s = some z → K7 [(0, .ptr 0 0), (3, .ptr 2 0), (13, .p (.i .i64 r_1.Kind)), (14, .p (.b s))] [.cells 81 [.mp 1, .p (.i .i64 r_1.Time)], .mp true (encM Dt.s enc_log_had m1_3), .cells 32 [.p (.i .i64 r_1.Time), .p (.i .i64 r_1.Kind), .p (.s r_1.Pack), .p (.i .i64 r_1.From.Major), .p (.i .i64 r_1.From.Minor), .p (.i .i64 r_1.From.Patch), .p (.s r_1.From.Early), .p (.i .i64 r_1.To.Major), .p (.i .i64 r_1.To.Minor), .p (.i .i64 r_1.To.Patch), .p (.s r_1.To.Early), .p (.i .i64 r_1.Result), .p (.s r_1.Note)]] := by
   intro t14_9 hs
   have hm := hk_10 _ hs
   clear hs
   try dsimp only at hm
   try dsimp only
   refine hK7 _ _ ?_
   refine cM hm (fun hc8 hm => ?_) (fun hc8 hm => ?_)
   ·obtain ⟨c_12, hm⟩ := chk_elim hm
    have hp_11 := mset_enc (e := enc_log_had) keq_s m1_3 r_1.Pack (log_had.mk r_1.To r_1.Time)
    simp only [enc_log_had] at hp_11
    refine Wp.regD (plan := pl [(0, none), (1, none), (2, none), (3, none), (4, none), (5, none), (6, none), (7, none), (8, none), (9, none), (10, none), (11, some [])]) (by kernel_rfl) rfl (by kernel_rfl) fun K9 hK9 => ?_
    simp only [go_sem, simprocAttr, hp_11]
    first | apply hK9 | refine ⟨by first | exact sd | ((repeat' apply And.intro) <;> first | assumption | omega | (simp only [List.length_append, List.length_map, List.length_cons, List.length_nil, List.length_set, List.length_replicate] at c_12 ⊢; omega)), hK9 _ _ ?_⟩
    simp only [thenQ, blockQ, ↓reduceIte]
    refine retQ_normal ?_
    cases hm
    exact fse3
   ·refine qS ?_
    refine cM hm (fun hc11 hm => ?_) (fun hc11 hm => ?_)
    ·have hp_13 := mdel_enc (e := enc_log_had) keq_s m1_3 r_1.Pack
     refine Wp.regD (plan := pl [(0, none), (1, none), (2, none), (3, none), (4, none), (5, none), (6, some [])]) (by kernel_rfl) rfl (by kernel_rfl) fun K12 hK12 => ?_
     simp only [go_sem, simprocAttr, hp_13]
     first | apply hK12 | refine ⟨sd, hK12 _ _ ?_⟩
     simp only [thenQ, blockQ, ↓reduceIte]
     refine retQ_normal ?_
     cases hm
     exact fse3
    ·refine Wp.skip ?_
     simp only [thenQ, blockQ, ↓reduceIte]
     refine retQ_normal ?_
     cases hm
     exact fse3
  clear hK7 hk_10
  refine qS ?_
  refine cM hm (fun hc14 hm => ?_) (fun hc14 hm => ?_)
  ·refine Wp.skip ?_
   refine hW7 _ _ _ _ ?_ (hcut7 (decide (r_1.Kind = 1)) hm)
   exact fse3
  ·refine qS ?_
   refine cM hm (fun hc16 hm => ?_) (fun hc16 hm => ?_)
   ·refine Wp.skip ?_
    refine hW7 _ _ _ _ ?_ (hcut7 (decide (r_1.Kind = 2)) hm)
    exact fse3
   ·refine qR ?_
    refine hW7 _ _ _ _ ?_ (hcut7 (decide (r_1.Kind = 3)) hm)
    exact fse3
theorem ok_log_check (l_1 : List api_Record) (z : Int) (hm : log_check l_1 = some z) : Does Tryz.prog 24 [.p (.l (List.map enc_api_Record l_1))] [] (fun r X => r = .p (.i .i64 z) ∧ X = []) := by
 unfold log_check at hm
 refine Does.of_wp 0 33 [.tmp 2] Tryz.func24 rfl (by decide) rfl rfl (Nat.le_of_ble_eq_true rfl) fun B => ?_
 refine qS ?_
 refine Wp.seqW fun K2 hK2 hW2 => ?_
 refine qS ?_
 refine cM hm (fun hc4 hm => ?_) (fun hc4 hm => ?_)
 ·refine qS ?_
  refine Wp.ret ?_
  refine retQ_ret ?_
  cases hm
  exact fse2
 ·refine Wp.skip ?_
  refine hK2 _ _ ?_
  obtain ⟨r_2, hr_2, hm⟩ := call_elim hm
  refine Wp.seqR fun K6 hK6 => ?_
  simp only [go_sem, simprocAttr]
  try refine ⟨sd, ?_⟩
  refine Rg.callO (av := ?av7) [] (ok_log_newTable  _ hr_2) si si si sg sg ?cont7
  rintro _ _ ⟨rfl, rfl⟩ hv7
  simp only [go_sem, simprocAttr]
  first | apply hK6 | refine ⟨sd, hK6 _ _ ?_⟩
  refine Wp.seqW fun K8 hK8 hW8 => ?_
  obtain ⟨k_23, hk_23, hm⟩ := jp_elim hm
  have hcut8 : ∀ s, k_23 s = some z → K8 [] [] := by
   intro s hs
   have hm := hk_23 _ hs
   clear hs
   try dsimp only at hm
   try dsimp only
   refine hK8 _ _ ?_
   refine qS ?_
   refine Wp.ret ?_
   refine retQ_ret ?_
   cases hm
   exact fse3
  clear hK8 hk_23
  refine qS ?_
  refine Wp.block ?_
  obtain ⟨k_36, hk_36, hm⟩ := forL_cont hm
  refine Wp.fact 12 fun hl_39 => ?_
  replace hl_39 : l_1.length ≤ 274877906944 := by
   simp only [go_sem, simprocAttr, List.length_map] at hl_39
   omega
  refine Wp.forL (fun i_38 s => [(3, .ptr 1 0), (12, .p (.l (List.map enc_api_Record l_1))), (13, .p (.i .i64 (l_1.length : Int))), (14, .p (.i .i64 (i_38 : Int)))]) (fun i_38 s => [.mp true (encM Dt.s enc_log_had s.1), .cells 81 [.mp 0, .p (.i .i64 s.2)]]) ?_ hm ?_
  ·
   exact fse3
  clear hm
  intro i_38 s hii_38 hm
  obtain ⟨m0_30, o1_1_31⟩ := s
  try dsimp only at hm
  try dsimp only
  refine qS ?_
  refine Wp.seqW fun K12 hK12 hW12 => ?_
  refine Wp.cond rfl ⟨⟩ (fun hc12 => ?_) (fun hc12 => ?_)
  rotate_left
  ·refine Wp.exit ?_
   have hm := hk_36 _ (forL_end hm (ge_nat (by first | exact hc12 | simpa using hc12)))
   try dsimp only at hm
   refine hW8 _ _ _ _ ?_ (hcut8 () hm)
   exact fse3
  have hlt12 := lt_nat (by first | exact hc12 | simpa using hc12)
  have hw12 := wrap_succ hlt12 hl_39
  obtain ⟨r_40, nx_37, hxr_40, hyr_40, hnx_37, hm⟩ := forL_step hm hlt12
  replace hxr_40 := hxr_40 enc_api_Record
  refine Wp.skip ?_
  simp only [thenQ]
  refine hK12 _ _ ?_
  refine Wp.seqW fun K13 hK13 hW13 => ?_
  refine Wp.block ?_
  refine Wp.seqR fun K14 hK14 => ?_
  simp only [go_sem, simprocAttr, hw12, hxr_40]
  first | apply hK14 | refine ⟨sd, hK14 _ _ ?_⟩
  refine Wp.seqW fun K15 hK15 hW15 => ?_
  obtain ⟨r_41, hr_41, hm⟩ := call_elim hm
  refine Wp.seqR fun K16 hK16 => ?_
  simp only [go_sem, simprocAttr, hw12, hxr_40]
  try refine ⟨sd, ?_⟩
  refine Rg.callX (av := ?av17) (g := true) (fun hg => ok_log_CheckRecord r_40 _ hr_41) (by simp only [go_sem, simprocAttr, hw12, hxr_40]; exact Is.mk) (by simp only [go_sem, simprocAttr, hw12, hxr_40]; exact Is.mk) (by simp only [go_sem, simprocAttr, hw12, hxr_40]; exact Is.mk) (by simp only [go_sem, simprocAttr, hw12, hxr_40]) (by simp only [go_sem, simprocAttr, hw12, hxr_40]; exact Is.mk) ?cont17
  intro hv17
  simp only [go_sem, simprocAttr, hw12, hxr_40]
  first | apply hK16 | refine ⟨sd, hK16 _ _ ?_⟩
  refine Wp.seqR fun K18 hK18 => ?_
  simp only [go_sem, simprocAttr, hw12, hxr_40]
  first | apply hK18 | refine ⟨sd, hK18 _ _ ?_⟩
  refine cM hm (fun hc19 hm => ?_) (fun hc19 hm => ?_)
  ·refine Wp.seqR fun K20 hK20 => ?_
   simp only [go_sem, simprocAttr, hw12, hxr_40]
   first | apply hK20 | refine ⟨sd, hK20 _ _ ?_⟩
   refine Wp.ret ?_
   refine retQ_ret ?_
   cases hm
   simp only [go_sem, simprocAttr, hw12, hxr_40]
   try exact se3
  ·refine Wp.skip ?_
   refine hK15 _ _ ?_
   refine Wp.seqW fun K21 hK21 hW21 => ?_
   obtain ⟨r_42, hr_42, hm⟩ := call_elim hm
   refine Wp.seqR fun K22 hK22 => ?_
   simp only [go_sem, simprocAttr, hw12, hxr_40]
   try refine ⟨sd, ?_⟩
   refine Rg.callR (av := ?av23) (g := true) [1, 0] (fun hg => ok_log_table_fault_i1 r_40 o1_1_31 m0_30 _ hr_42) (by simp only [go_sem, simprocAttr, hw12, hxr_40]; exact Is.mk) (by simp only [go_sem, simprocAttr, hw12, hxr_40]; exact Is.mk) (by simp only [go_sem, simprocAttr, hw12, hxr_40]; exact Is.mk) (by simp only [go_sem, simprocAttr, hw12, hxr_40]; exact Is.mk) (by simp only [go_sem, simprocAttr, hw12, hxr_40]) (by simp only [go_sem, simprocAttr, hw12, hxr_40]) (by simp only [go_sem, simprocAttr, hw12, hxr_40]) ?cont23
   simp only [go_sem, simprocAttr, hw12, hxr_40]
   first | apply hK22 | refine ⟨sd, hK22 _ _ ?_⟩
   refine Wp.seqR fun K24 hK24 => ?_
   simp only [go_sem, simprocAttr, hw12, hxr_40]
   first | apply hK24 | refine ⟨sd, hK24 _ _ ?_⟩
   refine cM hm (fun hc25 hm => ?_) (fun hc25 hm => ?_)
   ·refine Wp.seqR fun K26 hK26 => ?_
    simp only [go_sem, simprocAttr, hw12, hxr_40]
    first | apply hK26 | refine ⟨sd, hK26 _ _ ?_⟩
    refine Wp.ret ?_
    refine retQ_ret ?_
    cases hm
    simp only [go_sem, simprocAttr, hw12, hxr_40]
    try exact se3
   ·refine Wp.skip ?_
    refine hK21 _ _ ?_
    obtain ⟨r_43, hr_43, hm⟩ := call_elim hm
    refine Wp.region fun K27 hK27 => ?_
    simp only [go_sem, simprocAttr, hw12, hxr_40]
    try refine ⟨sd, ?_⟩
    refine Rg.callO (av := ?av28) [1, 0] (ok_log_table_add_i1 r_40 o1_1_31 m0_30 _ hr_43) (by simp only [go_sem, simprocAttr, hw12, hxr_40]; exact Is.mk) (by simp only [go_sem, simprocAttr, hw12, hxr_40]; exact Is.mk) (by simp only [go_sem, simprocAttr, hw12, hxr_40]; exact Is.mk) (by simp only [go_sem, simprocAttr, hw12, hxr_40]) (by simp only [go_sem, simprocAttr, hw12, hxr_40]) ?cont28
    rintro _ _ ⟨rfl, rfl⟩ hv28
    simp only [go_sem, simprocAttr, hw12, hxr_40]
    first | apply hK27 | refine ⟨sd, hK27 _ _ ?_⟩
    refine hK13 _ _ ?_
    refine Wp.region fun K29 hK29 => ?_
    simp only [go_sem, simprocAttr, hw12, hxr_40]
    first | apply hK29 | refine ⟨sd, hK29 _ _ ?_⟩
    simp only [thenQ, blockQ, ↓reduceIte]
    refine ⟨(r_43.2, r_43.1), hlt12, hnx_37 _ hm, ?_⟩
    simp only [go_sem, simprocAttr, hw12, hxr_40]
    try exact se3
theorem ok_slices_Equal_api_Record_api_Record (s1_1 : List api_Record) (s2_2 : List api_Record) (z : Bool) (hm : slices_Equal_api_Record_api_Record s1_1 s2_2 = some z) : Does Tryz.prog 10 [.p (.l (List.map enc_api_Record s1_1)), .p (.l (List.map enc_api_Record s2_2))] [] (fun r X => r = .p (.b z) ∧ X = []) := by
 unfold slices_Equal_api_Record_api_Record at hm
 refine Does.of_wp 0 26 [.tmp 4] Tryz.func10 rfl (by decide) rfl rfl (Nat.le_of_ble_eq_true rfl) fun B => ?_
 refine qS ?_
 refine Wp.seqW fun K2 hK2 hW2 => ?_
 refine qS ?_
 refine cM hm (fun hc4 hm => ?_) (fun hc4 hm => ?_)
 ·refine qS ?_
  refine Wp.ret ?_
  refine retQ_ret ?_
  cases hm
  exact fse3
 ·refine Wp.skip ?_
  refine hK2 _ _ ?_
  refine Wp.seqW fun K6 hK6 hW6 => ?_
  obtain ⟨k_12, hk_12, hm⟩ := jp_elim hm
  have hcut6 : ∀ s, k_12 s = some z → K6 [] [] := by
   intro s hs
   have hm := hk_12 _ hs
   clear hs
   try dsimp only at hm
   try dsimp only
   refine hK6 _ _ ?_
   refine qS ?_
   refine Wp.ret ?_
   refine retQ_ret ?_
   cases hm
   exact fse3
  clear hK6 hk_12
  refine qS ?_
  refine Wp.block ?_
  obtain ⟨k_16, hk_16, hm⟩ := forL_cont hm
  refine Wp.fact 0 fun hl_19 => ?_
  replace hl_19 : s1_1.length ≤ 274877906944 := by
   simp only [go_sem, simprocAttr, List.length_map] at hl_19
   omega
  refine Wp.forL (fun i_18 s => [(0, .p (.l (List.map enc_api_Record s1_1))), (1, .p (.l (List.map enc_api_Record s2_2))), (12, .p (.i .i64 (s1_1.length : Int))), (13, .p (.i .i64 (i_18 : Int)))]) (fun i_18 s => []) ?_ hm ?_
  ·
   exact fse3
  clear hm
  intro i_18 s hii_18 hm
  try dsimp only at hm
  try dsimp only
  refine qS ?_
  refine Wp.seqW fun K10 hK10 hW10 => ?_
  refine Wp.cond rfl ⟨⟩ (fun hc10 => ?_) (fun hc10 => ?_)
  rotate_left
  ·refine Wp.exit ?_
   have hm := hk_16 _ (forL_end hm (ge_nat (by first | exact hc10 | simpa using hc10)))
   try dsimp only at hm
   refine hW6 _ _ _ _ ?_ (hcut6 () hm)
   exact fse3
  have hlt10 := lt_nat (by first | exact hc10 | simpa using hc10)
  have hw10 := wrap_succ hlt10 hl_19
  obtain ⟨r_20, nx_17, hxr_20, hyr_20, hnx_17, hm⟩ := forL_step hm hlt10
  replace hxr_20 := hxr_20 enc_api_Record
  refine Wp.skip ?_
  simp only [thenQ]
  refine hK10 _ _ ?_
  refine Wp.seqW fun K11 hK11 hW11 => ?_
  refine Wp.block ?_
  refine Wp.seqR fun K12 hK12 => ?_
  simp only [go_sem, simprocAttr, hw10, hxr_20]
  first | apply hK12 | refine ⟨sd, hK12 _ _ ?_⟩
  obtain ⟨r_21, hbr_21, hxr_21, hyr_21, hm⟩ := idx_elim hm
  replace hxr_21 : ∀ d, (List.map enc_api_Record s2_2).getD i_18 d = enc_api_Record r_21 := hxr_21 enc_api_Record
  refine Wp.seqD (plan := pl [(0, none), (1, none), (2, none), (3, none), (4, none), (5, none), (6, none), (7, none), (8, none)]) (by kernel_rfl) rfl (by kernel_rfl) fun K13 hK13 => ?_
  simp only [go_sem, simprocAttr, hw10, hxr_20, hxr_21]
  first | apply hK13 | refine ⟨sd, hK13 _ _ ?_⟩
  refine cM hm (fun hc14 hm => ?_) (fun hc14 hm => ?_)
  ·refine Wp.seqR fun K15 hK15 => ?_
   simp only [go_sem, simprocAttr, hw10, hxr_20, hxr_21]
   first | apply hK15 | refine ⟨sd, hK15 _ _ ?_⟩
   refine Wp.ret ?_
   refine retQ_ret ?_
   cases hm
   simp only [go_sem, simprocAttr, hw10, hxr_20, hxr_21]
   try exact se3
  ·refine Wp.skip ?_
   refine hK11 _ _ ?_
   refine Wp.region fun K16 hK16 => ?_
   simp only [go_sem, simprocAttr, hw10, hxr_20, hxr_21]
   first | apply hK16 | refine ⟨sd, hK16 _ _ ?_⟩
   simp only [thenQ, blockQ, ↓reduceIte]
   refine ⟨(), hlt10, hnx_17 _ hm, ?_⟩
   simp only [go_sem, simprocAttr, hw10, hxr_20, hxr_21]
   try exact se3
theorem ok_log_behind (l_1 : List api_Record) (z : (List (Str × log_had)) × Int) (hm : log_behind l_1 = some z) : Does Tryz.prog 30 [.p (.l (List.map enc_api_Record l_1))] [] (fun r X => r = .ptr 1 0 ∧ X = [.mp true (encM Dt.s enc_log_had z.1), .cells 81 [.mp 0, .p (.i .i64 z.2)]]) := by
 unfold log_behind at hm
 refine Does.of_wp 2 18 [.tmp 2] Tryz.func30 rfl (by decide) rfl rfl (Nat.le_of_ble_eq_true rfl) fun B => ?_
 refine qS ?_
 obtain ⟨r_34, hr_34, hm⟩ := call_elim hm
 refine Wp.seqR fun K2 hK2 => ?_
 simp only [go_sem, simprocAttr]
 try refine ⟨sd, ?_⟩
 refine Rg.callO (av := ?av3) [] (ok_log_newTable  _ hr_34) si si si sg sg ?cont3
 rintro _ _ ⟨rfl, rfl⟩ hv3
 simp only [go_sem, simprocAttr]
 first | apply hK2 | refine ⟨sd, hK2 _ _ ?_⟩
 refine Wp.seqW fun K4 hK4 hW4 => ?_
 obtain ⟨k_51, hk_51, hm⟩ := jp_elim hm
 have hcut4 : ∀ s, k_51 s = some z → K4 [(3, .ptr 1 0)] [.mp true (encM Dt.s enc_log_had s.1), .cells 81 [.mp 0, .p (.i .i64 s.2)]] := by
  intro s hs
  have hm := hk_51 _ hs
  clear hs
  obtain ⟨m0_49, o1_1_50⟩ := s
  try dsimp only at hm
  try dsimp only
  refine hK4 _ _ ?_
  refine qS ?_
  refine Wp.ret ?_
  refine retQ_ret ?_
  cases hm
  exact fse3
 clear hK4 hk_51
 refine qS ?_
 refine Wp.block ?_
 obtain ⟨k_60, hk_60, hm⟩ := forL_cont hm
 refine Wp.fact 7 fun hl_63 => ?_
 replace hl_63 : l_1.length ≤ 274877906944 := by
  simp only [go_sem, simprocAttr, List.length_map] at hl_63
  omega
 refine Wp.forL (fun i_62 s => [(3, .ptr 1 0), (7, .p (.l (List.map enc_api_Record l_1))), (8, .p (.i .i64 (l_1.length : Int))), (9, .p (.i .i64 (i_62 : Int)))]) (fun i_62 s => [.mp true (encM Dt.s enc_log_had s.1), .cells 81 [.mp 0, .p (.i .i64 s.2)]]) ?_ hm ?_
 ·
  exact fse3
 clear hm
 intro i_62 s hii_62 hm
 obtain ⟨m0_56, o1_1_57⟩ := s
 try dsimp only at hm
 try dsimp only
 refine qS ?_
 refine Wp.seqW fun K8 hK8 hW8 => ?_
 refine Wp.cond rfl ⟨⟩ (fun hc8 => ?_) (fun hc8 => ?_)
 rotate_left
 ·refine Wp.exit ?_
  have hm := hk_60 _ (forL_end hm (ge_nat (by first | exact hc8 | simpa using hc8)))
  try dsimp only at hm
  refine hW4 _ _ _ _ ?_ (hcut4 (m0_56, o1_1_57) hm)
  exact fse3
 have hlt8 := lt_nat (by first | exact hc8 | simpa using hc8)
 have hw8 := wrap_succ hlt8 hl_63
 obtain ⟨r_64, nx_61, hxr_64, hyr_64, hnx_61, hm⟩ := forL_step hm hlt8
 replace hxr_64 := hxr_64 enc_api_Record
 refine Wp.skip ?_
 simp only [thenQ]
 refine hK8 _ _ ?_
 refine Wp.seqW fun K9 hK9 hW9 => ?_
 refine Wp.block ?_
 refine Wp.seqR fun K10 hK10 => ?_
 simp only [go_sem, simprocAttr, hw8, hxr_64]
 first | apply hK10 | refine ⟨sd, hK10 _ _ ?_⟩
 obtain ⟨r_65, hr_65, hm⟩ := call_elim hm
 refine Wp.region fun K11 hK11 => ?_
 simp only [go_sem, simprocAttr, hw8, hxr_64]
 try refine ⟨sd, ?_⟩
 refine Rg.callO (av := ?av12) [1, 0] (ok_log_table_add_i1 r_64 o1_1_57 m0_56 _ hr_65) (by simp only [go_sem, simprocAttr, hw8, hxr_64]; exact Is.mk) (by simp only [go_sem, simprocAttr, hw8, hxr_64]; exact Is.mk) (by simp only [go_sem, simprocAttr, hw8, hxr_64]; exact Is.mk) (by simp only [go_sem, simprocAttr, hw8, hxr_64]) (by simp only [go_sem, simprocAttr, hw8, hxr_64]) ?cont12
 rintro _ _ ⟨rfl, rfl⟩ hv12
 simp only [go_sem, simprocAttr, hw8, hxr_64]
 first | apply hK11 | refine ⟨sd, hK11 _ _ ?_⟩
 refine hK9 _ _ ?_
 refine Wp.region fun K13 hK13 => ?_
 simp only [go_sem, simprocAttr, hw8, hxr_64]
 first | apply hK13 | refine ⟨sd, hK13 _ _ ?_⟩
 simp only [thenQ, blockQ, ↓reduceIte]
 refine ⟨(r_65.2, r_65.1), hlt8, hnx_61 _ hm, ?_⟩
 simp only [go_sem, simprocAttr, hw8, hxr_64]
 try exact se3
theorem ok_maps_Keys_map_string_log_had_string_log_had_i1 (m0_1 : List (Str × log_had)) (z : Unit) (hm : maps_Keys_map_string_log_had_string_log_had_i1 m0_1 = some z) : Does Tryz.prog 59 [.mp 0] [.mp true (encM Dt.s enc_log_had m0_1)] (fun r X => r = .fn 84 [.ptr 1 0] ∧ X = [.mp true (encM Dt.s enc_log_had m0_1), .cells 79 [.mp 0]]) := by
 unfold maps_Keys_map_string_log_had_string_log_had_i1 at hm
 refine Does.of_wp 2 4 [.tmp 2] Tryz.func59 rfl (by decide) rfl rfl (Nat.le_of_ble_eq_true rfl) fun B => ?_
 refine qS ?_
 refine qS ?_
 refine Wp.ret ?_
 refine retQ_ret ?_
 cases hm
 exact fse3
theorem ok_slices_Sorted_keys_84 (m1 : List (Str × log_had)) (z : List Str) (hm : slices_Sorted_keys_84 m1 = some z) : Does Tryz.prog 35 [.fn 84 [.ptr 0 0]] [.cells 79 [.mp 1], .mp true (encM Dt.s enc_log_had m1)] (fun r X => r = .p (.l (List.map ecS z)) ∧ X = [.cells 79 [.mp 1], .mp true (encM Dt.s enc_log_had m1)]) := by
 cases hm
 exact Does.sortedKeys Tryz.sortedL Tryz.keys84L ⟨_, Tryz.func35, by kernel_rfl, by kernel_rfl⟩ (fun m => ⟨fun blk off cap ss W hH hblk hsz => callsIn_wide.2 (AnyM.slices_Sort_string Tryz.sortL blk off cap ss W hH hblk hsz), fun p cap W => callsIn_wide.2 (AnyM.slices_Sort_string_none Tryz.sortL p cap W)⟩) (enters_of Tryz.func60 (by kernel_rfl) rfl) (enters_of Tryz.func84 (by kernel_rfl) rfl) rfl 79 true enc_log_had m1
theorem ok_log_table_list_i1 (o0_1_1 : Int) (m1_2 : List (Str × log_had)) (z : List api_Had) (hm : log_table_list_i1 o0_1_1 m1_2 = some z) : Does Tryz.prog 31 [.ptr 0 0] [.cells 81 [.mp 1, .p (.i .i64 o0_1_1)], .mp true (encM Dt.s enc_log_had m1_2)] (fun r X => r = .p (.l (List.map enc_api_Had z)) ∧ X = [.cells 81 [.mp 1, .p (.i .i64 o0_1_1)], .mp true (encM Dt.s enc_log_had m1_2)]) := by
 unfold log_table_list_i1 at hm
 refine Does.of_wp 2 38 [.tmp 2] Tryz.func31 rfl (by decide) rfl rfl (Nat.le_of_ble_eq_true rfl) fun B => ?_
 refine qS ?_
 refine qS ?_
 refine Wp.seqW fun K3 hK3 hW3 => ?_
 obtain ⟨k_69, hk_69, hm⟩ := jp_elim hm
 have hcut3 : ∀ s, k_69 s = some z → K3 [(3, .buf 3)] [.cells 81 [.mp 1, .p (.i .i64 o0_1_1)], .mp true (encM Dt.s enc_log_had m1_2), .cells 79 [.top], .buf 42 6 (List.map enc_api_Had s)] := by
  intro o3_68 hs
  have hm := hk_69 _ hs
  clear hs
  try dsimp only at hm
  try dsimp only
  refine hK3 _ _ ?_
  refine qS ?_
  refine Wp.ret ?_
  refine retQ_ret ?_
  cases hm
  exact fse3
 clear hK3 hk_69
 obtain ⟨r_70, hr_70, hm⟩ := call_elim hm
 obtain ⟨r_71, hr_71, hm⟩ := call_elim hm
 refine Wp.seqR fun K5 hK5 => ?_
 simp only [go_sem, simprocAttr]
 try refine ⟨sd, ?_⟩
 refine Rg.callO (av := ?av6) [1] (ok_maps_Keys_map_string_log_had_string_log_had_i1 m1_2 _ hr_70) si si si sg sg ?cont6
 rintro _ _ ⟨rfl, rfl⟩ hv6
 simp only [go_sem, simprocAttr]
 try refine ⟨sd, ?_⟩
 refine Rg.callR (av := ?av7) (g := true) [2, 1] (fun hg => ok_slices_Sorted_keys_84 m1_2 _ hr_71) si si si si sg sg sg ?cont7
 simp only [go_sem, simprocAttr]
 first | apply hK5 | refine ⟨sd, hK5 _ _ ?_⟩
 refine Wp.block ?_
 refine Wp.adopt 3 42 6 rfl ?_
 simp only [go_sem, simprocAttr]
 obtain ⟨k_83, hk_83, hm⟩ := forL_cont hm
 refine Wp.fact 11 fun hl_86 => ?_
 replace hl_86 : r_71.length ≤ 274877906944 := by
  simp only [go_sem, simprocAttr, List.length_map] at hl_86
  omega
 refine Wp.forL (fun i_85 s => [(0, .ptr 0 0), (3, .buf 3), (11, .p (.l (List.map ecS r_71))), (12, .p (.i .i64 (r_71.length : Int))), (13, .p (.i .i64 (i_85 : Int)))]) (fun i_85 s => [.cells 81 [.mp 1, .p (.i .i64 o0_1_1)], .mp true (encM Dt.s enc_log_had m1_2), .cells 79 [.mp 1], .buf 42 6 (List.map enc_api_Had s)]) ?_ hm ?_
 ·
  exact fse3
 clear hm
 intro i_85 o3_78 hii_85 hm
 try dsimp only at hm
 try dsimp only
 refine qS ?_
 refine Wp.seqW fun K9 hK9 hW9 => ?_
 refine Wp.cond rfl ⟨⟩ (fun hc9 => ?_) (fun hc9 => ?_)
 rotate_left
 ·refine Wp.exit ?_
  have hm := hk_83 _ (forL_end hm (ge_nat (by first | exact hc9 | simpa using hc9)))
  try dsimp only at hm
  refine hW3 _ _ _ _ ?_ (hcut3 o3_78 hm)
  exact fse3
 have hlt9 := lt_nat (by first | exact hc9 | simpa using hc9)
 have hw9 := wrap_succ hlt9 hl_86
 obtain ⟨s_87, nx_84, hxs_87, hys_87, hnx_84, hm⟩ := forL_step hm hlt9
 replace hxs_87 := hxs_87 ecS
 refine Wp.skip ?_
 simp only [thenQ]
 refine hK9 _ _ ?_
 refine Wp.seqW fun K10 hK10 hW10 => ?_
 refine Wp.block ?_
 refine Wp.seqR fun K11 hK11 => ?_
 simp only [go_sem, simprocAttr, hw9, hxs_87]
 first | apply hK11 | refine ⟨sd, hK11 _ _ ?_⟩
 obtain ⟨q_88, hq_89, hm⟩ := letv_elim hm
 have hq_89d := mlookD_enc (e := enc_log_had) keq_s m1_2 s_87 (log_had.mk (api_Version.mk 0 0 0 []) 0)
 have hq_89s := mlook_some (e := enc_log_had) keq_s m1_2 s_87
 simp only [hq_89, enc_log_had, List.map_nil] at hq_89d hq_89s
 obtain ⟨c_90, hm⟩ := chk_elim hm
 refine Wp.regD (plan := pl [(0, none), (1, none), (2, none), (3, none), (4, none), (5, none), (6, none), (7, none), (8, none), (9, none), (10, none), (11, none), (12, none), (13, none), (14, none), (15, none), (16, none), (17, some [0]), (18, some []), (19, none)]) (by kernel_rfl) rfl (by kernel_rfl) fun K12 hK12 => ?_
 simp only [go_sem, simprocAttr, hw9, hxs_87, hq_89d, hq_89s]
 first | apply hK12 | refine ⟨by first | exact sd | ((repeat' apply And.intro) <;> first | assumption | omega | (simp only [List.length_append, List.length_map, List.length_cons, List.length_nil, List.length_set, List.length_replicate] at c_90 ⊢; omega)), hK12 _ _ ?_⟩
 refine hK10 _ _ ?_
 refine Wp.region fun K13 hK13 => ?_
 simp only [go_sem, simprocAttr, hw9, hxs_87]
 first | apply hK13 | refine ⟨sd, hK13 _ _ ?_⟩
 simp only [thenQ, blockQ, ↓reduceIte]
 refine ⟨o3_78 ++ [(api_Had.mk s_87 ((q_88.getD (log_had.mk (api_Version.mk 0 0 0 []) 0)).v) ((q_88.getD (log_had.mk (api_Version.mk 0 0 0 []) 0)).since))], hlt9, hnx_84 _ hm, ?_⟩
 simp only [go_sem, simprocAttr, hw9, hxs_87]
 try exact se3
theorem ok_log_Installed (l_1 : List api_Record) (z : List api_Had × Int) (hm : log_Installed l_1 = some z) : Does Tryz.prog 14 [.p (.l (List.map enc_api_Record l_1))] [] (fun r X => r = .tup [.p (.l (List.map enc_api_Had z.1)), .p (.i .i64 z.2)] ∧ X = []) := by
 unfold log_Installed at hm
 refine Does.of_wp 0 13 [.tmp 2, .tmp 3] Tryz.func14 rfl (by decide) rfl rfl (Nat.le_of_ble_eq_true rfl) fun B => ?_
 refine qS ?_
 refine Wp.seqW fun K2 hK2 hW2 => ?_
 obtain ⟨r_2, hr_2, hm⟩ := call_elim hm
 refine Wp.seqR fun K3 hK3 => ?_
 simp only [go_sem, simprocAttr]
 try refine ⟨sd, ?_⟩
 refine Rg.callX (av := ?av4) (g := true) (fun hg => ok_log_check l_1 _ hr_2) si si si sg si ?cont4
 intro hv4
 simp only [go_sem, simprocAttr]
 first | apply hK3 | refine ⟨sd, hK3 _ _ ?_⟩
 refine qS ?_
 refine cM hm (fun hc6 hm => ?_) (fun hc6 hm => ?_)
 ·refine qS ?_
  refine Wp.ret ?_
  simp only [thenQ, blockQ]
  refine retQ_retE ?_
  cases hm
  exact fse3
 ·refine Wp.skip ?_
  refine hK2 _ _ ?_
  obtain ⟨r_3, hr_3, hm⟩ := call_elim hm
  obtain ⟨r_4, hr_4, hm⟩ := call_elim hm
  refine Wp.seqR fun K8 hK8 => ?_
  simp only [go_sem, simprocAttr]
  try refine ⟨sd, ?_⟩
  refine Rg.callO (av := ?av9) [] (ok_log_behind l_1 _ hr_3) si si si sg sg ?cont9
  rintro _ _ ⟨rfl, rfl⟩ hv9
  simp only [go_sem, simprocAttr]
  try refine ⟨sd, ?_⟩
  refine Rg.callR (av := ?av10) (g := true) [1, 0] (fun hg => ok_log_table_list_i1 r_3.2 r_3.1 _ hr_4) si si si si sg sg sg ?cont10
  simp only [go_sem, simprocAttr]
  first | apply hK8 | refine ⟨sd, hK8 _ _ ?_⟩
  refine Wp.ret ?_
  refine retQ_ret ?_
  cases hm
  exact fse3
theorem ok_log_Compact_1 (a_1 : api_Record) (b_2 : api_Record) (z : Int) (hm : log_Compact_1 a_1 b_2 = some z) : Does Tryz.prog 27 [.agg [.p (.i .i64 a_1.Time), .p (.i .i64 a_1.Kind), .p (.s a_1.Pack), .p (.i .i64 a_1.From.Major), .p (.i .i64 a_1.From.Minor), .p (.i .i64 a_1.From.Patch), .p (.s a_1.From.Early), .p (.i .i64 a_1.To.Major), .p (.i .i64 a_1.To.Minor), .p (.i .i64 a_1.To.Patch), .p (.s a_1.To.Early), .p (.i .i64 a_1.Result), .p (.s a_1.Note)], .agg [.p (.i .i64 b_2.Time), .p (.i .i64 b_2.Kind), .p (.s b_2.Pack), .p (.i .i64 b_2.From.Major), .p (.i .i64 b_2.From.Minor), .p (.i .i64 b_2.From.Patch), .p (.s b_2.From.Early), .p (.i .i64 b_2.To.Major), .p (.i .i64 b_2.To.Minor), .p (.i .i64 b_2.To.Patch), .p (.s b_2.To.Early), .p (.i .i64 b_2.Result), .p (.s b_2.Note)]] [] (fun r X => r = .p (.i .i64 z) ∧ X = []) := by
 unfold log_Compact_1 at hm
 refine Does.of_wp 0 10 [.tmp 4] Tryz.func27 rfl (by decide) rfl rfl (Nat.le_of_ble_eq_true rfl) fun B => ?_
 refine qS ?_
 obtain ⟨r_3, hr_3, hm⟩ := call_elim hm
 refine Wp.seqR fun K2 hK2 => ?_
 simp only [go_sem, simprocAttr]
 try refine ⟨sd, ?_⟩
 refine Rg.callX (av := ?av3) (g := true) (fun hg => ok_cmp_Compare_int a_1.Time b_2.Time _ hr_3) si si si sg si ?cont3
 intro hv3
 simp only [go_sem, simprocAttr]
 first | apply hK2 | refine ⟨sd, hK2 _ _ ?_⟩
 refine Wp.ret ?_
 refine retQ_ret ?_
 cases hm
 exact fse3
end Go.Proofs.YthmjpfooffbhhaaGreatDoor
