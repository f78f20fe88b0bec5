/- That the code does what the models say (part 6). -/
import Derived.Test.YthmjpfooffbhhaaGreatDoorLrWk0
import Derived.Test.YthmjpfooffbhhaaGreatDoorLrWk1
import Derived.Test.YthmjpfooffbhhaaGreatDoorLrWk3
import Derived.Test.YthmjpfooffbhhaaGreatDoorLrWk4
import Derived.Test.YthmjpfooffbhhaaGreatDoorLrWk5
set_option linter.unusedSimpArgs false
set_option linter.unusedVariables false
open Go.Proofs Go.Shelf
namespace Go.Proofs.YthmjpfooffbhhaaGreatDoor
open Go.Vc Go.Md
set_option maxRecDepth 100000
set_option maxHeartbeats 4000000
theorem ok_ver_Order (a_1 : api_Version) (b_2 : api_Version) (z : Int) (hm : ver_Order a_1 b_2 = some z) : Does Tryz.prog 82 [.agg [.p (.i .i64 a_1.Major), .p (.i .i64 a_1.Minor), .p (.i .i64 a_1.Patch), .p (.s a_1.Early)], .agg [.p (.i .i64 b_2.Major), .p (.i .i64 b_2.Minor), .p (.i .i64 b_2.Patch), .p (.s b_2.Early)]] [] (fun r X => r = .p (.i .i64 z) ∧ X = []) := by
 unfold ver_Order at hm
 refine Does.of_wp 0 27 [.tmp 4] Tryz.func82 rfl (by decide) rfl rfl (Nat.le_of_ble_eq_true rfl) fun B => ?_
 refine qS ?_
 obtain ⟨r_3, hr_3, hm⟩ := call_elim hm
 obtain ⟨r_4, hr_4, hm⟩ := call_elim hm
 obtain ⟨r_5, hr_5, hm⟩ := call_elim hm
 obtain ⟨r_6, hr_6, hm⟩ := call_elim hm
 obtain ⟨r_7, hr_7, hm⟩ := call_elim hm
 refine Wp.seqD (plan := pl [(0, none), (1, none), (2, none), (3, none), (4, none), (5, none), (6, none), (7, none), (8, none), (9, none), (10, none), (11, none), (12, none), (13, none), (14, none), (15, none), (16, none), (17, none), (18, none), (19, none), (20, some []), (21, none), (22, none)]) (by kernel_rfl) rfl (by kernel_rfl) fun K2 hK2 => ?_
 simp only [go_sem, simprocAttr]
 try refine ⟨sd, ?_⟩
 refine Dr.callF (av := ?av3) (g := true) (o := ?o3) (fun hg => ok_cmp_Compare_int a_1.Major b_2.Major _ hr_3) si si si si sg si ?cont3
 simp only [go_sem, simprocAttr]
 try refine ⟨sd, ?_⟩
 refine Dr.callF (av := ?av4) (g := true) (o := ?o4) (fun hg => ok_cmp_Compare_int a_1.Minor b_2.Minor _ hr_4) si si si si sg si ?cont4
 simp only [go_sem, simprocAttr]
 try refine ⟨sd, ?_⟩
 refine Dr.callF (av := ?av5) (g := true) (o := ?o5) (fun hg => ok_cmp_Compare_int a_1.Patch b_2.Patch _ hr_5) si si si si sg si ?cont5
 simp only [go_sem, simprocAttr]
 try refine ⟨sd, ?_⟩
 refine Dr.callF (av := ?av6) (g := true) (o := ?o6) (fun hg => ok_ver_compareEarly a_1.Early b_2.Early _ hr_6) si si si si sg si ?cont6
 simp only [go_sem, simprocAttr]
 try refine ⟨sd, ?_⟩
 refine Dr.callF (av := ?av7) (g := true) (o := ?o7) (fun hg => ok_cmp_Or_int [r_3, r_4, r_5, r_6] _ hr_7) si si si si sg si ?cont7
 simp only [go_sem, simprocAttr]
 first | apply hK2 | refine ⟨sd, hK2 _ _ ?_⟩
 refine Wp.ret ?_
 refine retQ_ret ?_
 cases hm
 exact fse3
theorem ok_ver_IsValue_1 (c_1 : Int) (z : Bool) (hm : ver_IsValue_1 c_1 = some z) : Does Tryz.prog 100 [.p (.i .u8 c_1)] [] (fun r X => r = .p (.b z) ∧ X = []) := by
 unfold ver_IsValue_1 at hm
 refine Does.of_wp 0 9 [.tmp 2] Tryz.func100 rfl (by decide) rfl rfl (Nat.le_of_ble_eq_true rfl) fun B => ?_
 refine qS ?_
 refine qS ?_
 refine Wp.ret ?_
 refine retQ_ret ?_
 cases hm
 exact fse3
theorem ok_ver_each_i4 (s_1 : Str) (most_2 : Int) (z : Bool) (hm : ver_each_i4 s_1 most_2 = some z) : Does Tryz.prog 44 [.p (.s s_1), .p (.i .i64 most_2), .fn 100 []] [] (fun r X => r = .p (.b z) ∧ X = []) := by
 unfold ver_each_i4 at hm
 refine Does.of_wp 0 28 [.tmp 6] Tryz.func44 rfl (by decide) rfl rfl (Nat.le_of_ble_eq_true rfl) fun B => ?_
 refine qS ?_
 refine Wp.seqW fun K2 hK2 hW2 => ?_
 obtain ⟨k_12, hk_12, hm⟩ := jp_elim hm
 have hcut2 : ∀ s, k_12 s = some z → K2 [(0, .p (.s s_1)), (1, .p (.i .i64 most_2))] [] := by
  intro s hs
  have hm := hk_12 _ hs
  clear hs
  try dsimp only at hm
  try dsimp only
  refine hK2 _ _ ?_
  refine qS ?_
  refine Wp.ret ?_
  refine retQ_ret ?_
  cases hm
  exact fse3
 clear hK2 hk_12
 refine qS ?_
 refine Wp.block ?_
 obtain ⟨k_16, hk_16, hm⟩ := forL_cont hm
 refine Wp.fact 0 fun hl_19 => ?_
 replace hl_19 : s_1.length ≤ 274877906944 := by
  simp only [go_sem, simprocAttr, List.length_map] at hl_19
  omega
 refine Wp.forL (fun i_18 s => [(0, .p (.s s_1)), (1, .p (.i .i64 most_2)), (2, .fn 100 []), (7, .p (.i .i64 (i_18 : Int)))]) (fun i_18 s => []) ?_ hm ?_
 ·
  exact fse3
 clear hm
 intro i_18 s hii_18 hm
 try dsimp only at hm
 try dsimp only
 refine Wp.seqW fun K5 hK5 hW5 => ?_
 refine qS ?_
 refine Wp.cond rfl ⟨⟩ (fun hc5 => ?_) (fun hc5 => ?_)
 rotate_left
 ·refine Wp.exit ?_
  have hm := hk_16 _ (forL_end hm (ge_nat (by first | exact hc5 | simpa using hc5)))
  try dsimp only at hm
  refine hW2 _ _ _ _ ?_ (hcut2 () hm)
  exact fse3
 have hlt5 := lt_nat (by first | exact hc5 | simpa using hc5)
 have hw5 := wrap_succ hlt5 hl_19
 obtain ⟨c_20, nx_17, hxc_20, hyc_20, hnx_17, hm⟩ := forL_step hm hlt5
 clear hxc_20
 refine Wp.skip ?_
 simp only [thenQ]
 refine hK5 _ _ ?_
 refine Wp.seqW fun K7 hK7 hW7 => ?_
 refine Wp.block ?_
 obtain ⟨r_21, hr_21, hm⟩ := call_elim hm
 refine Wp.seqR fun K8 hK8 => ?_
 simp only [go_sem, simprocAttr, hw5, hyc_20]
 try refine ⟨sd, ?_⟩
 refine Rg.callX (av := ?av9) (g := true) (fun hg => ok_ver_IsValue_1 (c_20.toNat : Int) _ hr_21) (by simp only [go_sem, simprocAttr, hw5, hyc_20]; exact Is.mk) (by simp only [go_sem, simprocAttr, hw5, hyc_20]; exact Is.mk) (by simp only [go_sem, simprocAttr, hw5, hyc_20]; exact Is.mk) (by simp only [go_sem, simprocAttr, hw5, hyc_20]) (by simp only [go_sem, simprocAttr, hw5, hyc_20]; exact Is.mk) ?cont9
 intro hv9
 simp only [go_sem, simprocAttr, hw5, hyc_20]
 first | apply hK8 | refine ⟨sd, hK8 _ _ ?_⟩
 refine cM hm (fun hc10 hm => ?_) (fun hc10 hm => ?_)
 ·refine Wp.seqR fun K11 hK11 => ?_
  simp only [go_sem, simprocAttr, hw5, hyc_20]
  first | apply hK11 | refine ⟨sd, hK11 _ _ ?_⟩
  refine Wp.ret ?_
  refine retQ_ret ?_
  cases hm
  simp only [go_sem, simprocAttr, hw5, hyc_20]
  try exact se3
 ·refine Wp.skip ?_
  refine hK7 _ _ ?_
  refine Wp.region fun K12 hK12 => ?_
  simp only [go_sem, simprocAttr, hw5, hyc_20]
  first | apply hK12 | refine ⟨sd, hK12 _ _ ?_⟩
  simp only [thenQ, blockQ, ↓reduceIte]
  refine ⟨(), hlt5, hnx_17 _ hm, ?_⟩
  simp only [go_sem, simprocAttr, hw5, hyc_20]
  try exact se3
theorem ok_ver_IsValue (s_1 : Str) (z : Bool) (hm : ver_IsValue s_1 = some z) : Does Tryz.prog 83 [.p (.s s_1)] [] (fun r X => r = .p (.b z) ∧ X = []) := by
 unfold ver_IsValue at hm
 refine Does.of_wp 0 9 [.tmp 2] Tryz.func83 rfl (by decide) rfl rfl (Nat.le_of_ble_eq_true rfl) fun B => ?_
 refine qS ?_
 obtain ⟨r_2, hr_2, hm⟩ := callG_elim hm
 refine Wp.seqR fun K2 hK2 => ?_
 simp only [go_sem, simprocAttr]
 try refine ⟨sd, ?_⟩
 refine Rg.callX (av := ?av3) (g := !(decide (s_1 = []))) (fun hg => ok_ver_each_i4 s_1 1000 _ (hr_2 hg)) si si si sg si ?cont3
 intro hv3
 simp only [go_sem, simprocAttr]
 first | apply hK2 | refine ⟨sd, hK2 _ _ ?_⟩
 refine Wp.ret ?_
 refine retQ_ret ?_
 cases hm
 exact fse3
theorem ok_log_CheckRecord (r_1 : api_Record) (z : Int) (hm : log_CheckRecord r_1 = some z) : Does Tryz.prog 55 [.agg [.p (.i .i64 r_1.Time), .p (.i .i64 r_1.Kind), .p (.s r_1.Pack), .p (.i .i64 r_1.From.Major), .p (.i .i64 r_1.From.Minor), .p (.i .i64 r_1.From.Patch), .p (.s r_1.From.Early), .p (.i .i64 r_1.To.Major), .p (.i .i64 r_1.To.Minor), .p (.i .i64 r_1.To.Patch), .p (.s r_1.To.Early), .p (.i .i64 r_1.Result), .p (.s r_1.Note)]] [] (fun r X => r = .p (.i .i64 z) ∧ X = []) := by
 unfold log_CheckRecord at hm
 refine Does.of_wp 0 94 [.tmp 2] Tryz.func55 rfl (by decide) rfl rfl (Nat.le_of_ble_eq_true rfl) fun B => ?_
 refine qS ?_
 refine Wp.seqW fun K2 hK2 hW2 => ?_
 refine Wp.block ?_
 obtain ⟨r_2, hr_2, hm⟩ := call_elim hm
 refine Wp.seqR fun K3 hK3 => ?_
 simp only [go_sem, simprocAttr]
 try refine ⟨sd, ?_⟩
 refine Rg.callX (av := ?av4) (g := true) (fun hg => ok_log_outside r_1.Time 0 1099511627776 _ hr_2) si si si sg si ?cont4
 intro hv4
 simp only [go_sem, simprocAttr]
 first | apply hK3 | refine ⟨sd, hK3 _ _ ?_⟩
 refine cM hm (fun hc5 hm => ?_) (fun hc5 hm => ?_)
 ·refine qS ?_
  refine Wp.ret ?_
  refine retQ_ret ?_
  cases hm
  exact fse3
 ·obtain ⟨r_3, hr_3, hm⟩ := call_elim hm
  refine Wp.seqR fun K7 hK7 => ?_
  simp only [go_sem, simprocAttr]
  try refine ⟨sd, ?_⟩
  refine Rg.callX (av := ?av8) (g := true) (fun hg => ok_log_outside r_1.Kind 1 6 _ hr_3) si si si sg si ?cont8
  intro hv8
  simp only [go_sem, simprocAttr]
  first | apply hK7 | refine ⟨sd, hK7 _ _ ?_⟩
  refine cM hm (fun hc9 hm => ?_) (fun hc9 hm => ?_)
  ·refine qS ?_
   refine Wp.ret ?_
   refine retQ_ret ?_
   cases hm
   exact fse3
  ·obtain ⟨r_4, hr_4, hm⟩ := call_elim hm
   refine Wp.seqR fun K11 hK11 => ?_
   simp only [go_sem, simprocAttr]
   try refine ⟨sd, ?_⟩
   refine Rg.callX (av := ?av12) (g := true) (fun hg => ok_ver_IsName r_1.Pack _ hr_4) si si si sg si ?cont12
   intro hv12
   simp only [go_sem, simprocAttr]
   first | apply hK11 | refine ⟨sd, hK11 _ _ ?_⟩
   refine cM hm (fun hc13 hm => ?_) (fun hc13 hm => ?_)
   ·refine qS ?_
    refine Wp.ret ?_
    refine retQ_ret ?_
    cases hm
    exact fse3
   ·refine Wp.skip ?_
    refine hK2 _ _ ?_
    refine Wp.seqW fun K15 hK15 hW15 => ?_
    obtain ⟨k_19, hk_19, hm⟩ := jp_elim hm
    have hcut15 : ∀ s, k_19 s = some z → K15 [(1, .ptr 0 0)] [.cells 32 [.p (.i .i64 r_1.Time), .p (.i .i64 r_1.Kind), .p (.s r_1.Pack), .p (.i .i64 r_1.From.Major), .p (.i .i64 r_1.From.Minor), .p (.i .i64 r_1.From.Patch), .p (.s r_1.From.Early), .p (.i .i64 r_1.To.Major), .p (.i .i64 r_1.To.Minor), .p (.i .i64 r_1.To.Patch), .p (.s r_1.To.Early), .p (.i .i64 r_1.Result), .p (.s r_1.Note)]] := by
     intro s hs
     have hm := hk_19 _ hs
     clear hs
     try dsimp only at hm
     try dsimp only
     refine hK15 _ _ ?_
     obtain ⟨r_20, hr_20, hm⟩ := call_elim hm
     refine Wp.seqR fun K16 hK16 => ?_
     simp only [go_sem, simprocAttr]
     try refine ⟨sd, ?_⟩
     refine Rg.callX (av := ?av17) (g := true) (fun hg => ok_log_uses r_1.Kind _ hr_20) si si si sg si ?cont17
     intro hv17
     simp only [go_sem, simprocAttr]
     first | apply hK16 | refine ⟨sd, hK16 _ _ ?_⟩
     refine qS ?_
     refine Wp.seqW fun K19 hK19 hW19 => ?_
     refine qS ?_
     refine cM hm (fun hc21 hm => ?_) (fun hc21 hm => ?_)
     ·refine qS ?_
      refine Wp.ret ?_
      refine retQ_ret ?_
      cases hm
      exact fse3
     ·refine Wp.skip ?_
      refine hK19 _ _ ?_
      obtain ⟨r_21, hr_21, hm⟩ := call_elim hm
      refine Wp.seqR fun K23 hK23 => ?_
      simp only [go_sem, simprocAttr]
      try refine ⟨sd, ?_⟩
      refine Rg.callX (av := ?av24) (g := true) (fun hg => ok_ver_Order r_1.From r_1.To _ hr_21) si si si sg si ?cont24
      intro hv24
      simp only [go_sem, simprocAttr]
      first | apply hK23 | refine ⟨sd, hK23 _ _ ?_⟩
      refine Wp.seqW fun K25 hK25 hW25 => ?_
      refine Wp.block ?_
      refine qS ?_
      refine cM hm (fun hc27 hm => ?_) (fun hc27 hm => ?_)
      ·refine qS ?_
       refine Wp.ret ?_
       refine retQ_ret ?_
       cases hm
       exact fse3
      ·obtain ⟨r_22, hr_22, hm⟩ := call_elim hm
       refine Wp.seqR fun K29 hK29 => ?_
       simp only [go_sem, simprocAttr]
       try refine ⟨sd, ?_⟩
       refine Rg.callX (av := ?av30) (g := true) (fun hg => ok_log_outside r_1.Result 0 18 _ hr_22) si si si sg si ?cont30
       intro hv30
       simp only [go_sem, simprocAttr]
       first | apply hK29 | refine ⟨sd, hK29 _ _ ?_⟩
       refine cM hm (fun hc31 hm => ?_) (fun hc31 hm => ?_)
       ·refine qS ?_
        refine Wp.ret ?_
        refine retQ_ret ?_
        cases hm
        exact fse3
       ·obtain ⟨r_23, hr_23, hm⟩ := call_elim hm
        refine Wp.seqR fun K33 hK33 => ?_
        simp only [go_sem, simprocAttr]
        try refine ⟨sd, ?_⟩
        refine Rg.callX (av := ?av34) (g := true) (fun hg => ok_ver_IsValue r_1.Note _ hr_23) si si si sg si ?cont34
        intro hv34
        simp only [go_sem, simprocAttr]
        first | apply hK33 | refine ⟨sd, hK33 _ _ ?_⟩
        refine cM hm (fun hc35 hm => ?_) (fun hc35 hm => ?_)
        ·refine qS ?_
         refine Wp.ret ?_
         refine retQ_ret ?_
         cases hm
         exact fse3
        ·refine Wp.skip ?_
         refine hK25 _ _ ?_
         refine qS ?_
         refine Wp.ret ?_
         refine retQ_ret ?_
         cases hm
         exact fse3
    clear hK15 hk_19
    refine qS ?_
    refine Wp.block ?_
    refine Wp.loopK 9 ?_
    simp only [WpL]
    refine qS ?_
    refine Wp.seqW fun K40 hK40 hW40 => ?_
    refine Wp.cond rfl ⟨⟩ (fun hc41 => ?_) (fun hc41 => ?_)
    rotate_left
    ·cases hc41
    refine Wp.skip ?_
    refine hK40 _ _ ?_
    refine Wp.seqW fun K42 hK42 hW42 => ?_
    refine Wp.block ?_
    refine qS ?_
    obtain ⟨r_36, hr_36, hm⟩ := call_elim hm
    refine Wp.seqR fun K44 hK44 => ?_
    simp only [go_sem, simprocAttr]
    try refine ⟨sd, ?_⟩
    refine Rg.callX (av := ?av45) (g := true) (fun hg => ok_ver_Check r_1.From _ hr_36) si si si sg si ?cont45
    intro hv45
    simp only [go_sem, simprocAttr]
    first | apply hK44 | refine ⟨sd, hK44 _ _ ?_⟩
    refine qS ?_
    refine cM hm (fun hc47 hm => ?_) (fun hc47 hm => ?_)
    ·refine qS ?_
     refine Wp.ret ?_
     refine retQ_ret ?_
     cases hm
     exact fse3
    ·refine Wp.skip ?_
     refine hK42 _ _ ?_
     refine qR ?_
     simp only [thenQ, blockQ, ↓reduceIte]
     try simp only [WpL]
     refine qS ?_
     refine Wp.seqW fun K51 hK51 hW51 => ?_
     refine Wp.cond rfl ⟨⟩ (fun hc52 => ?_) (fun hc52 => ?_)
     rotate_left
     ·cases hc52
     refine Wp.skip ?_
     refine hK51 _ _ ?_
     refine Wp.seqW fun K53 hK53 hW53 => ?_
     refine Wp.block ?_
     refine qS ?_
     obtain ⟨r_37, hr_37, hm⟩ := call_elim hm
     refine Wp.seqR fun K55 hK55 => ?_
     simp only [go_sem, simprocAttr]
     try refine ⟨sd, ?_⟩
     refine Rg.callX (av := ?av56) (g := true) (fun hg => ok_ver_Check r_1.To _ hr_37) si si si sg si ?cont56
     intro hv56
     simp only [go_sem, simprocAttr]
     first | apply hK55 | refine ⟨sd, hK55 _ _ ?_⟩
     refine qS ?_
     refine cM hm (fun hc58 hm => ?_) (fun hc58 hm => ?_)
     ·refine qS ?_
      refine Wp.ret ?_
      refine retQ_ret ?_
      cases hm
      exact fse3
     ·refine Wp.skip ?_
      refine hK53 _ _ ?_
      refine qR ?_
      simp only [thenQ, blockQ, ↓reduceIte]
      try simp only [WpL]
      refine qS ?_
      refine Wp.seqW fun K62 hK62 hW62 => ?_
      refine Wp.cond rfl ⟨⟩ (fun hc63 => ?_) (fun hc63 => ?_)
      ·cases hc63
      refine Wp.exit ?_
      refine hW15 _ _ _ _ ?_ (hcut15 () hm)
      exact fse3
theorem ok_log_table_fault_i1 (r_1 : api_Record) (o0_1_2 : Int) (m1_3 : List (Str × log_had)) (z : Int) (hm : log_table_fault_i1 r_1 o0_1_2 m1_3 = some z) : Does Tryz.prog 56 [.ptr 0 0, .agg [.p (.i .i64 r_1.Time), .p (.i .i64 r_1.Kind), .p (.s r_1.Pack), .p (.i .i64 r_1.From.Major), .p (.i .i64 r_1.From.Minor), .p (.i .i64 r_1.From.Patch), .p (.s r_1.From.Early), .p (.i .i64 r_1.To.Major), .p (.i .i64 r_1.To.Minor), .p (.i .i64 r_1.To.Patch), .p (.s r_1.To.Early), .p (.i .i64 r_1.Result), .p (.s r_1.Note)]] [.cells 81 [.mp 1, .p (.i .i64 o0_1_2)], .mp true (encM Dt.s enc_log_had m1_3)] (fun r X => r = .p (.i .i64 z) ∧ X = [.cells 81 [.mp 1, .p (.i .i64 o0_1_2)], .mp true (encM Dt.s enc_log_had m1_3)]) := by
 unfold log_table_fault_i1 at hm
 refine Does.of_wp 2 55 [.tmp 4] Tryz.func56 rfl (by decide) rfl rfl (Nat.le_of_ble_eq_true rfl) fun B => ?_
 refine qS ?_
 refine Wp.seqW fun K2 hK2 hW2 => ?_
 refine Wp.seqD (plan := pl [(0, none), (1, none), (2, none), (3, none), (4, none), (5, none), (6, none)]) (by kernel_rfl) rfl (by kernel_rfl) fun K3 hK3 => ?_
 simp only [go_sem, simprocAttr]
 first | apply hK3 | refine ⟨sd, hK3 _ _ ?_⟩
 refine cM hm (fun hc4 hm => ?_) (fun hc4 hm => ?_)
 ·refine qS ?_
  refine Wp.ret ?_
  refine retQ_ret ?_
  cases hm
  exact fse3
 ·refine Wp.skip ?_
  refine hK2 _ _ ?_
  obtain ⟨q_12, hq_13, hm⟩ := letv_elim hm
  have hq_13d := mlookD_enc (e := enc_log_had) keq_s m1_3 r_1.Pack (log_had.mk (api_Version.mk 0 0 0 []) 0)
  have hq_13s := mlook_some (e := enc_log_had) keq_s m1_3 r_1.Pack
  simp only [hq_13, enc_log_had, List.map_nil] at hq_13d hq_13s
  refine Wp.seqD (plan := pl [(0, none), (1, none), (2, none), (3, none), (4, none), (5, none), (6, none), (7, none), (8, none), (9, none), (10, some [0, 1, 2, 3, 4, 5, 6, 7, 8, 9]), (11, some [9]), (12, none)]) (by kernel_rfl) rfl (by kernel_rfl) fun K6 hK6 => ?_
  simp only [go_sem, simprocAttr, hq_13d, hq_13s]
  first | apply hK6 | refine ⟨sd, hK6 _ _ ?_⟩
  refine qS ?_
  refine Wp.seqW fun K8 hK8 hW8 => ?_
  obtain ⟨k_17, hk_17, hm⟩ := jp_elim hm
  have hcut8 : ∀ s, k_17 s = some z → K8 [(7, .p (.b s))] [.cells 81 [.mp 1, .p (.i .i64 o0_1_2)], .mp true (encM Dt.s enc_log_had m1_3)] := by
   intro bad_16 hs
   have hm := hk_17 _ hs
   clear hs
   try dsimp only at hm
   try dsimp only
   refine hK8 _ _ ?_
   refine Wp.seqW fun K9 hK9 hW9 => ?_
   refine qS ?_
   refine cM hm (fun hc11 hm => ?_) (fun hc11 hm => ?_)
   ·refine qS ?_
    refine Wp.ret ?_
    refine retQ_ret ?_
    cases hm
    exact fse3
   ·refine Wp.skip ?_
    refine hK9 _ _ ?_
    refine qS ?_
    refine Wp.ret ?_
    refine retQ_ret ?_
    cases hm
    exact fse3
  clear hK8 hk_17
  refine qS ?_
  refine Wp.block ?_
  refine qS ?_
  refine cM hm (fun hc16 hm => ?_) (fun hc16 hm => ?_)
  ·refine qR ?_
   refine hW8 _ _ _ _ ?_ (hcut8 q_12.isSome hm)
   exact fse3
  ·refine Wp.seqW fun K18 hK18 hW18 => ?_
   obtain ⟨k_19, hk_19, hm⟩ := jp_elim hm
   have hcut18 : ∀ s, k_19 s = some z → K18 [(3, .ptr 2 0), (5, .ptr 3 0), (6, .p (.b q_12.isSome)), (7, .p (.b false)), (26, .p (.i .i64 r_1.Kind)), (30, .p (.b s))] [.cells 81 [.mp 1, .p (.i .i64 o0_1_2)], .mp true (encM Dt.s enc_log_had m1_3), .cells 32 [.p (.i .i64 r_1.Time), .p (.i .i64 r_1.Kind), .p (.s r_1.Pack), .p (.i .i64 r_1.From.Major), .p (.i .i64 r_1.From.Minor), .p (.i .i64 r_1.From.Patch), .p (.s r_1.From.Early), .p (.i .i64 r_1.To.Major), .p (.i .i64 r_1.To.Minor), .p (.i .i64 r_1.To.Patch), .p (.s r_1.To.Early), .p (.i .i64 r_1.Result), .p (.s r_1.Note)], .cells 77 [.p (.i .i64 (((q_12.getD (log_had.mk (api_Version.mk 0 0 0 []) 0)).v).Major)), .p (.i .i64 (((q_12.getD (log_had.mk (api_Version.mk 0 0 0 []) 0)).v).Minor)), .p (.i .i64 (((q_12.getD (log_had.mk (api_Version.mk 0 0 0 []) 0)).v).Patch)), .p (.s (((q_12.getD (log_had.mk (api_Version.mk 0 0 0 []) 0)).v).Early)), .p (.i .i64 ((q_12.getD (log_had.mk (api_Version.mk 0 0 0 []) 0)).since))]] := by
    intro t30_18 hs
    have hm := hk_19 _ hs
    clear hs
    try dsimp only at hm
    try dsimp only
    refine hK18 _ _ ?_
    refine cM hm (fun hc19 hm => ?_) (fun hc19 hm => ?_)
    ·refine qR ?_
     refine hW8 _ _ _ _ ?_ (hcut8 ((!q_12.isSome) || (!((decide ((((q_12.getD (log_had.mk (api_Version.mk 0 0 0 []) 0)).v).Major) = r_1.From.Major)) && ((decide ((((q_12.getD (log_had.mk (api_Version.mk 0 0 0 []) 0)).v).Minor) = r_1.From.Minor)) && ((decide ((((q_12.getD (log_had.mk (api_Version.mk 0 0 0 []) 0)).v).Patch) = r_1.From.Patch)) && (decide ((((q_12.getD (log_had.mk (api_Version.mk 0 0 0 []) 0)).v).Early) = r_1.From.Early))))))) hm)
     exact fse3
    ·refine qS ?_
     refine cM hm (fun hc22 hm => ?_) (fun hc22 hm => ?_)
     ·refine qR ?_
      refine hW8 _ _ _ _ ?_ (hcut8 ((!q_12.isSome) || (!((decide ((((q_12.getD (log_had.mk (api_Version.mk 0 0 0 []) 0)).v).Major) = r_1.To.Major)) && ((decide ((((q_12.getD (log_had.mk (api_Version.mk 0 0 0 []) 0)).v).Minor) = r_1.To.Minor)) && ((decide ((((q_12.getD (log_had.mk (api_Version.mk 0 0 0 []) 0)).v).Patch) = r_1.To.Patch)) && (decide ((((q_12.getD (log_had.mk (api_Version.mk 0 0 0 []) 0)).v).Early) = r_1.To.Early))))))) hm)
      exact fse3
     ·refine Wp.skip ?_
      refine hW8 _ _ _ _ ?_ (hcut8 false hm)
      exact fse3
   clear hK18 hk_19
   refine qS ?_
   refine cM hm (fun hc25 hm => ?_) (fun hc25 hm => ?_)
   ·refine Wp.skip ?_
    refine hW18 _ _ _ _ ?_ (hcut18 (decide (r_1.Kind = 2)) hm)
    exact fse3
   ·refine qS ?_
    refine cM hm (fun hc27 hm => ?_) (fun hc27 hm => ?_)
    ·refine Wp.skip ?_
     refine hW18 _ _ _ _ ?_ (hcut18 (decide (r_1.Kind = 3)) hm)
     exact fse3
    ·refine qR ?_
     refine hW18 _ _ _ _ ?_ (hcut18 (decide (r_1.Kind = 4)) hm)
     exact fse3
theorem ok_log_table_add_i1 (r_1 : api_Record) (o0_1_2 : Int) (m1_3 : List (Str × log_had)) (z : Int × (List (Str × log_had))) (hm : log_table_add_i1 r_1 o0_1_2 m1_3 = some z) : Does Tryz.prog 57 [.ptr 0 0, .agg [.p (.i .i64 r_1.Time), .p (.i .i64 r_1.Kind), .p (.s r_1.Pack), .p (.i .i64 r_1.From.Major), .p (.i .i64 r_1.From.Minor), .p (.i .i64 r_1.From.Patch), .p (.s r_1.From.Early), .p (.i .i64 r_1.To.Major), .p (.i .i64 r_1.To.Minor), .p (.i .i64 r_1.To.Patch), .p (.s r_1.To.Early), .p (.i .i64 r_1.Result), .p (.s r_1.Note)]] [.cells 81 [.mp 1, .p (.i .i64 o0_1_2)], .mp true (encM Dt.s enc_log_had m1_3)] (fun r X => r = .tup [] ∧ X = [.cells 81 [.mp 1, .p (.i .i64 z.1)], .mp true (encM Dt.s enc_log_had z.2)]) := by
 unfold log_table_add_i1 at hm
 refine Does.of_wp 2 37 [] Tryz.func57 rfl (by decide) rfl rfl (Nat.le_of_ble_eq_true rfl) fun B => ?_
 refine qS ?_
 refine qS ?_
 refine Wp.seqW fun K3 hK3 hW3 => ?_
 refine qS ?_
 refine cM hm (fun hc5 hm => ?_) (fun hc5 hm => ?_)
 ·refine Wp.ret ?_
  refine retQ_ret ?_
  cases hm
  exact fse3
 ·refine Wp.skip ?_
  refine hK3 _ _ ?_
  refine qS ?_
  refine Wp.block ?_
  refine Wp.seqW fun K7 hK7 hW7 => ?_
  obtain ⟨k_10, hk_10, hm⟩ := jp_elim hm
  have hcut7 : ∀ s, k_10 s = some z → K7 [(0, .ptr 0 0), (3, .ptr 2 0), (13, .p (.i .i64 r_1.Kind)), (14, .p (.b s))] [.cells 81 [.mp 1, .p (.i .i64 r_1.Time)], .mp true (encM Dt.s enc_log_had m1_3), .cells 32 [.p (.i .i64 r_1.Time), .p (.i .i64 r_1.Kind), .p (.s r_1.Pack), .p (.i .i64 r_1.From.Major), .p (.i .i64 r_1.From.Minor), .p (.i .i64 r_1.From.Patch), .p (.s r_1.From.Early), .p (.i .i64 r_1.To.Major), .p (.i .i64 r_1.To.Minor), .p (.i .i64 r_1.To.Patch), .p (.s r_1.To.Early), .p (.i .i64 r_1.Result), .p (.s r_1.Note)]] := by
   intro t14_9 hs
   have hm := hk_10 _ hs
   clear hs
   try dsimp only at hm
   try dsimp only
   refine hK7 _ _ ?_
   refine cM hm (fun hc8 hm => ?_) (fun hc8 hm => ?_)
   ·obtain ⟨c_12, hm⟩ := chk_elim hm
    have hp_11 := mset_enc (e := enc_log_had) keq_s m1_3 r_1.Pack (log_had.mk r_1.To r_1.Time)
    simp only [enc_log_had] at hp_11
    refine Wp.regD (plan := pl [(0, none), (1, none), (2, none), (3, none), (4, none), (5, none), (6, none), (7, none), (8, none), (9, none), (10, none), (11, some [])]) (by kernel_rfl) rfl (by kernel_rfl) fun K9 hK9 => ?_
    simp only [go_sem, simprocAttr, hp_11]
    first | apply hK9 | refine ⟨by first | exact sd | ((repeat' apply And.intro) <;> first | assumption | omega | (simp only [List.length_append, List.length_map, List.length_cons, List.length_nil, List.length_set, List.length_replicate] at c_12 ⊢; omega)), hK9 _ _ ?_⟩
    simp only [thenQ, blockQ, ↓reduceIte]
    refine retQ_normal ?_
    cases hm
    exact fse3
   ·refine qS ?_
    refine cM hm (fun hc11 hm => ?_) (fun hc11 hm => ?_)
    ·have hp_13 := mdel_enc (e := enc_log_had) keq_s m1_3 r_1.Pack
     refine Wp.regD (plan := pl [(0, none), (1, none), (2, none), (3, none), (4, none), (5, none), (6, some [])]) (by kernel_rfl) rfl (by kernel_rfl) fun K12 hK12 => ?_
     simp only [go_sem, simprocAttr, hp_13]
     first | apply hK12 | refine ⟨sd, hK12 _ _ ?_⟩
     simp only [thenQ, blockQ, ↓reduceIte]
     refine retQ_normal ?_
     cases hm
     exact fse3
    ·refine Wp.skip ?_
     simp only [thenQ, blockQ, ↓reduceIte]
     refine retQ_normal ?_
     cases hm
     exact fse3
  clear hK7 hk_10
  refine qS ?_
  refine cM hm (fun hc14 hm => ?_) (fun hc14 hm => ?_)
  ·refine Wp.skip ?_
   refine hW7 _ _ _ _ ?_ (hcut7 (decide (r_1.Kind = 1)) hm)
   exact fse3
  ·refine qS ?_
   refine cM hm (fun hc16 hm => ?_) (fun hc16 hm => ?_)
   ·refine Wp.skip ?_
    refine hW7 _ _ _ _ ?_ (hcut7 (decide (r_1.Kind = 2)) hm)
    exact fse3
   ·refine qR ?_
    refine hW7 _ _ _ _ ?_ (hcut7 (decide (r_1.Kind = 3)) hm)
    exact fse3
theorem ok_log_check (l_1 : List api_Record) (z : Int) (hm : log_check l_1 = some z) : Does Tryz.prog 24 [.p (.l (List.map enc_api_Record l_1))] [] (fun r X => r = .p (.i .i64 z) ∧ X = []) := by
 unfold log_check at hm
 refine Does.of_wp 0 33 [.tmp 2] Tryz.func24 rfl (by decide) rfl rfl (Nat.le_of_ble_eq_true rfl) fun B => ?_
 refine qS ?_
 refine Wp.seqW fun K2 hK2 hW2 => ?_
 refine qS ?_
 refine cM hm (fun hc4 hm => ?_) (fun hc4 hm => ?_)
 ·refine qS ?_
  refine Wp.ret ?_
  refine retQ_ret ?_
  cases hm
  exact fse2
 ·refine Wp.skip ?_
  refine hK2 _ _ ?_
  obtain ⟨r_2, hr_2, hm⟩ := call_elim hm
  refine Wp.seqR fun K6 hK6 => ?_
  simp only [go_sem, simprocAttr]
  try refine ⟨sd, ?_⟩
  refine Rg.callO (av := ?av7) [] (ok_log_newTable  _ hr_2) si si si sg sg ?cont7
  rintro _ _ ⟨rfl, rfl⟩ hv7
  simp only [go_sem, simprocAttr]
  first | apply hK6 | refine ⟨sd, hK6 _ _ ?_⟩
  refine Wp.seqW fun K8 hK8 hW8 => ?_
  obtain ⟨k_23, hk_23, hm⟩ := jp_elim hm
  have hcut8 : ∀ s, k_23 s = some z → K8 [] [] := by
   intro s hs
   have hm := hk_23 _ hs
   clear hs
   try dsimp only at hm
   try dsimp only
   refine hK8 _ _ ?_
   refine qS ?_
   refine Wp.ret ?_
   refine retQ_ret ?_
   cases hm
   exact fse3
  clear hK8 hk_23
  refine qS ?_
  refine Wp.block ?_
  obtain ⟨k_36, hk_36, hm⟩ := forL_cont hm
  refine Wp.fact 12 fun hl_39 => ?_
  replace hl_39 : l_1.length ≤ 274877906944 := by
   simp only [go_sem, simprocAttr, List.length_map] at hl_39
   omega
  refine Wp.forL (fun i_38 s => [(3, .ptr 1 0), (12, .p (.l (List.map enc_api_Record l_1))), (13, .p (.i .i64 (l_1.length : Int))), (14, .p (.i .i64 (i_38 : Int)))]) (fun i_38 s => [.mp true (encM Dt.s enc_log_had s.1), .cells 81 [.mp 0, .p (.i .i64 s.2)]]) ?_ hm ?_
  ·
   exact fse3
  clear hm
  intro i_38 s hii_38 hm
  obtain ⟨m0_30, o1_1_31⟩ := s
  try dsimp only at hm
  try dsimp only
  refine qS ?_
  refine Wp.seqW fun K12 hK12 hW12 => ?_
  refine Wp.cond rfl ⟨⟩ (fun hc12 => ?_) (fun hc12 => ?_)
  rotate_left
  ·refine Wp.exit ?_
   have hm := hk_36 _ (forL_end hm (ge_nat (by first | exact hc12 | simpa using hc12)))
   try dsimp only at hm
   refine hW8 _ _ _ _ ?_ (hcut8 () hm)
   exact fse3
  have hlt12 := lt_nat (by first | exact hc12 | simpa using hc12)
  have hw12 := wrap_succ hlt12 hl_39
  obtain ⟨r_40, nx_37, hxr_40, hyr_40, hnx_37, hm⟩ := forL_step hm hlt12
  replace hxr_40 := hxr_40 enc_api_Record
  refine Wp.skip ?_
  simp only [thenQ]
  refine hK12 _ _ ?_
  refine Wp.seqW fun K13 hK13 hW13 => ?_
  refine Wp.block ?_
  refine Wp.seqR fun K14 hK14 => ?_
  simp only [go_sem, simprocAttr, hw12, hxr_40]
  first | apply hK14 | refine ⟨sd, hK14 _ _ ?_⟩
  refine Wp.seqW fun K15 hK15 hW15 => ?_
  obtain ⟨r_41, hr_41, hm⟩ := call_elim hm
  refine Wp.seqR fun K16 hK16 => ?_
  simp only [go_sem, simprocAttr, hw12, hxr_40]
  try refine ⟨sd, ?_⟩
  refine Rg.callX (av := ?av17) (g := true) (fun hg => ok_log_CheckRecord r_40 _ hr_41) (by simp only [go_sem, simprocAttr, hw12, hxr_40]; exact Is.mk) (by simp only [go_sem, simprocAttr, hw12, hxr_40]; exact Is.mk) (by simp only [go_sem, simprocAttr, hw12, hxr_40]; exact Is.mk) (by simp only [go_sem, simprocAttr, hw12, hxr_40]) (by simp only [go_sem, simprocAttr, hw12, hxr_40]; exact Is.mk) ?cont17
  intro hv17
  simp only [go_sem, simprocAttr, hw12, hxr_40]
  first | apply hK16 | refine ⟨sd, hK16 _ _ ?_⟩
  refine Wp.seqR fun K18 hK18 => ?_
  simp only [go_sem, simprocAttr, hw12, hxr_40]
  first | apply hK18 | refine ⟨sd, hK18 _ _ ?_⟩
  refine cM hm (fun hc19 hm => ?_) (fun hc19 hm => ?_)
  ·refine Wp.seqR fun K20 hK20 => ?_
   simp only [go_sem, simprocAttr, hw12, hxr_40]
   first | apply hK20 | refine ⟨sd, hK20 _ _ ?_⟩
   refine Wp.ret ?_
   refine retQ_ret ?_
   cases hm
   simp only [go_sem, simprocAttr, hw12, hxr_40]
   try exact se3
  ·refine Wp.skip ?_
   refine hK15 _ _ ?_
   refine Wp.seqW fun K21 hK21 hW21 => ?_
   obtain ⟨r_42, hr_42, hm⟩ := call_elim hm
   refine Wp.seqR fun K22 hK22 => ?_
   simp only [go_sem, simprocAttr, hw12, hxr_40]
   try refine ⟨sd, ?_⟩
   refine Rg.callR (av := ?av23) (g := true) [1, 0] (fun hg => ok_log_table_fault_i1 r_40 o1_1_31 m0_30 _ hr_42) (by simp only [go_sem, simprocAttr, hw12, hxr_40]; exact Is.mk) (by simp only [go_sem, simprocAttr, hw12, hxr_40]; exact Is.mk) (by simp only [go_sem, simprocAttr, hw12, hxr_40]; exact Is.mk) (by simp only [go_sem, simprocAttr, hw12, hxr_40]; exact Is.mk) (by simp only [go_sem, simprocAttr, hw12, hxr_40]) (by simp only [go_sem, simprocAttr, hw12, hxr_40]) (by simp only [go_sem, simprocAttr, hw12, hxr_40]) ?cont23
   simp only [go_sem, simprocAttr, hw12, hxr_40]
   first | apply hK22 | refine ⟨sd, hK22 _ _ ?_⟩
   refine Wp.seqR fun K24 hK24 => ?_
   simp only [go_sem, simprocAttr, hw12, hxr_40]
   first | apply hK24 | refine ⟨sd, hK24 _ _ ?_⟩
   refine cM hm (fun hc25 hm => ?_) (fun hc25 hm => ?_)
   ·refine Wp.seqR fun K26 hK26 => ?_
    simp only [go_sem, simprocAttr, hw12, hxr_40]
    first | apply hK26 | refine ⟨sd, hK26 _ _ ?_⟩
    refine Wp.ret ?_
    refine retQ_ret ?_
    cases hm
    simp only [go_sem, simprocAttr, hw12, hxr_40]
    try exact se3
   ·refine Wp.skip ?_
    refine hK21 _ _ ?_
    obtain ⟨r_43, hr_43, hm⟩ := call_elim hm
    refine Wp.region fun K27 hK27 => ?_
    simp only [go_sem, simprocAttr, hw12, hxr_40]
    try refine ⟨sd, ?_⟩
    refine Rg.callO (av := ?av28) [1, 0] (ok_log_table_add_i1 r_40 o1_1_31 m0_30 _ hr_43) (by simp only [go_sem, simprocAttr, hw12, hxr_40]; exact Is.mk) (by simp only [go_sem, simprocAttr, hw12, hxr_40]; exact Is.mk) (by simp only [go_sem, simprocAttr, hw12, hxr_40]; exact Is.mk) (by simp only [go_sem, simprocAttr, hw12, hxr_40]) (by simp only [go_sem, simprocAttr, hw12, hxr_40]) ?cont28
    rintro _ _ ⟨rfl, rfl⟩ hv28
    simp only [go_sem, simprocAttr, hw12, hxr_40]
    first | apply hK27 | refine ⟨sd, hK27 _ _ ?_⟩
    refine hK13 _ _ ?_
    refine Wp.region fun K29 hK29 => ?_
    simp only [go_sem, simprocAttr, hw12, hxr_40]
    first | apply hK29 | refine ⟨sd, hK29 _ _ ?_⟩
    simp only [thenQ, blockQ, ↓reduceIte]
    refine ⟨(r_43.2, r_43.1), hlt12, hnx_37 _ hm, ?_⟩
    simp only [go_sem, simprocAttr, hw12, hxr_40]
    try exact se3
theorem ok_log_behind (l_1 : List api_Record) (z : (List (Str × log_had)) × Int) (hm : log_behind l_1 = some z) : Does Tryz.prog 30 [.p (.l (List.map enc_api_Record l_1))] [] (fun r X => r = .ptr 1 0 ∧ X = [.mp true (encM Dt.s enc_log_had z.1), .cells 81 [.mp 0, .p (.i .i64 z.2)]]) := by
 unfold log_behind at hm
 refine Does.of_wp 2 18 [.tmp 2] Tryz.func30 rfl (by decide) rfl rfl (Nat.le_of_ble_eq_true rfl) fun B => ?_
 refine qS ?_
 obtain ⟨r_34, hr_34, hm⟩ := call_elim hm
 refine Wp.seqR fun K2 hK2 => ?_
 simp only [go_sem, simprocAttr]
 try refine ⟨sd, ?_⟩
 refine Rg.callO (av := ?av3) [] (ok_log_newTable  _ hr_34) si si si sg sg ?cont3
 rintro _ _ ⟨rfl, rfl⟩ hv3
 simp only [go_sem, simprocAttr]
 first | apply hK2 | refine ⟨sd, hK2 _ _ ?_⟩
 refine Wp.seqW fun K4 hK4 hW4 => ?_
 obtain ⟨k_51, hk_51, hm⟩ := jp_elim hm
 have hcut4 : ∀ s, k_51 s = some z → K4 [(3, .ptr 1 0)] [.mp true (encM Dt.s enc_log_had s.1), .cells 81 [.mp 0, .p (.i .i64 s.2)]] := by
  intro s hs
  have hm := hk_51 _ hs
  clear hs
  obtain ⟨m0_49, o1_1_50⟩ := s
  try dsimp only at hm
  try dsimp only
  refine hK4 _ _ ?_
  refine qS ?_
  refine Wp.ret ?_
  refine retQ_ret ?_
  cases hm
  exact fse3
 clear hK4 hk_51
 refine qS ?_
 refine Wp.block ?_
 obtain ⟨k_60, hk_60, hm⟩ := forL_cont hm
 refine Wp.fact 7 fun hl_63 => ?_
 replace hl_63 : l_1.length ≤ 274877906944 := by
  simp only [go_sem, simprocAttr, List.length_map] at hl_63
  omega
 refine Wp.forL (fun i_62 s => [(3, .ptr 1 0), (7, .p (.l (List.map enc_api_Record l_1))), (8, .p (.i .i64 (l_1.length : Int))), (9, .p (.i .i64 (i_62 : Int)))]) (fun i_62 s => [.mp true (encM Dt.s enc_log_had s.1), .cells 81 [.mp 0, .p (.i .i64 s.2)]]) ?_ hm ?_
 ·
  exact fse3
 clear hm
 intro i_62 s hii_62 hm
 obtain ⟨m0_56, o1_1_57⟩ := s
 try dsimp only at hm
 try dsimp only
 refine qS ?_
 refine Wp.seqW fun K8 hK8 hW8 => ?_
 refine Wp.cond rfl ⟨⟩ (fun hc8 => ?_) (fun hc8 => ?_)
 rotate_left
 ·refine Wp.exit ?_
  have hm := hk_60 _ (forL_end hm (ge_nat (by first | exact hc8 | simpa using hc8)))
  try dsimp only at hm
  refine hW4 _ _ _ _ ?_ (hcut4 (m0_56, o1_1_57) hm)
  exact fse3
 have hlt8 := lt_nat (by first | exact hc8 | simpa using hc8)
 have hw8 := wrap_succ hlt8 hl_63
 obtain ⟨r_64, nx_61, hxr_64, hyr_64, hnx_61, hm⟩ := forL_step hm hlt8
 replace hxr_64 := hxr_64 enc_api_Record
 refine Wp.skip ?_
 simp only [thenQ]
 refine hK8 _ _ ?_
 refine Wp.seqW fun K9 hK9 hW9 => ?_
 refine Wp.block ?_
 refine Wp.seqR fun K10 hK10 => ?_
 simp only [go_sem, simprocAttr, hw8, hxr_64]
 first | apply hK10 | refine ⟨sd, hK10 _ _ ?_⟩
 obtain ⟨r_65, hr_65, hm⟩ := call_elim hm
 refine Wp.region fun K11 hK11 => ?_
 simp only [go_sem, simprocAttr, hw8, hxr_64]
 try refine ⟨sd, ?_⟩
 refine Rg.callO (av := ?av12) [1, 0] (ok_log_table_add_i1 r_64 o1_1_57 m0_56 _ hr_65) (by simp only [go_sem, simprocAttr, hw8, hxr_64]; exact Is.mk) (by simp only [go_sem, simprocAttr, hw8, hxr_64]; exact Is.mk) (by simp only [go_sem, simprocAttr, hw8, hxr_64]; exact Is.mk) (by simp only [go_sem, simprocAttr, hw8, hxr_64]) (by simp only [go_sem, simprocAttr, hw8, hxr_64]) ?cont12
 rintro _ _ ⟨rfl, rfl⟩ hv12
 simp only [go_sem, simprocAttr, hw8, hxr_64]
 first | apply hK11 | refine ⟨sd, hK11 _ _ ?_⟩
 refine hK9 _ _ ?_
 refine Wp.region fun K13 hK13 => ?_
 simp only [go_sem, simprocAttr, hw8, hxr_64]
 first | apply hK13 | refine ⟨sd, hK13 _ _ ?_⟩
 simp only [thenQ, blockQ, ↓reduceIte]
 refine ⟨(r_65.2, r_65.1), hlt8, hnx_61 _ hm, ?_⟩
 simp only [go_sem, simprocAttr, hw8, hxr_64]
 try exact se3
theorem ok_slices_Sort_str (o0 z : List Str) (hm : slices_Sort_str o0 = some z) : Does Tryz.prog 60 [.buf 0] [.fx 9 1 (List.map ecS o0)] (fun r X => r = .tup [] ∧ X = [.fx 9 1 (List.map ecS z)]) := by
 cases hm
 exact Does.sortS Tryz.sortL ⟨_, Tryz.func60, by kernel_rfl, by kernel_rfl⟩ 9 o0
theorem ok_R_keys_api_Had_i1 (m0_1 : List (Str × api_Had)) (z : List Str) (hm : R_keys_api_Had_i1 m0_1 = some z) : Does Tryz.prog 32 [.mp 0] [.mp true (encM Dt.s enc_api_Had m0_1)] (fun r X => r = .p (.l (List.map ecS z)) ∧ X = [.mp true (encM Dt.s enc_api_Had m0_1)]) := by
 unfold R_keys_api_Had_i1 at hm
 refine Does.of_wp 1 18 [.tmp 2] Tryz.func32 rfl (by decide) rfl rfl (Nat.le_of_ble_eq_true rfl) fun B => ?_
 refine qS ?_
 refine qS ?_
 refine Wp.seqW fun K3 hK3 hW3 => ?_
 obtain ⟨k_75, hk_75, hm⟩ := jp_elim hm
 have hcut3 : ∀ s, k_75 s = some z → K3 [(3, .buf 2)] [.mp true (encM Dt.s enc_api_Had m0_1), .gone, .buf 9 1 (List.map ecS s)] := by
  intro o2_74 hs
  have hm := hk_75 _ hs
  clear hs
  try dsimp only at hm
  try dsimp only
  refine hK3 _ _ ?_
  refine Wp.toFix 2 (by simp only [go_sem, simprocAttr]; exact Is.mk) (by simp only [go_sem, simprocAttr]) ?_
  simp only [go_sem, simprocAttr]
  obtain ⟨r_76, hr_76, hm⟩ := call_elim hm
  refine Wp.seqR fun K4 hK4 => ?_
  simp only [go_sem, simprocAttr]
  try refine ⟨sd, ?_⟩
  refine Rg.callO (av := ?av5) [2] (ok_slices_Sort_str o2_74 _ hr_76) si si si sg sg ?cont5
  rintro _ _ ⟨rfl, rfl⟩ hv5
  simp only [go_sem, simprocAttr]
  first | apply hK4 | refine ⟨sd, hK4 _ _ ?_⟩
  refine Wp.toBuf 2 (by simp only [go_sem, simprocAttr]; exact Is.mk) (by simp only [go_sem, simprocAttr]) ?_
  simp only [go_sem, simprocAttr]
  refine qS ?_
  refine Wp.ret ?_
  refine retQ_ret ?_
  cases hm
  exact fse3
 clear hK3 hk_75
 refine Wp.seqR fun K7 hK7 => ?_
 simp only [go_sem, simprocAttr]
 try refine ⟨sd, ?_⟩
 refine Rg.range (i := 0) (ag := ?ag8) (es := ?es8) (kt := ?kt8) (et := ?et8) Is.mk Is.mk sg sg si si si ?cont8
 intro bs_77 cl_78 hb_79 hn_80 hl_81
 replace hb_79 := encM_bs hb_79
 simp only [go_sem, simprocAttr]
 first | apply hK7 | refine ⟨sd, hK7 _ _ ?_⟩
 refine Wp.block ?_
 refine Wp.adopt 3 9 1 rfl ?_
 simp only [go_sem, simprocAttr]
 obtain ⟨k_90, hk_90, hm⟩ := forM_cont hm
 refine Wp.forM (bs := bs_77) (fun sn_92 s => [(3, .buf 2), (6, .ptr 1 0)]) (fun sn_92 s => [.mpb true (encM Dt.s enc_api_Had m0_1) bs_77 cl_78, .it 0 cl_78 sn_92, .buf 9 1 (List.map ecS s)]) hb_79 ?_ hm ?_
 ·
  exact fse3
 clear hm
 intro sn_92 o2_85 hm
 try dsimp only at hm
 try dsimp only
 refine Wp.seqR fun K9 hK9 => ?_
 simp only [go_sem, simprocAttr]
 try refine ⟨by exact sd, ?_⟩
 refine Rg.next (q := 1) (i := 0) (cl := cl_78) (bs := bs_77) (seen := sn_92) (ag := ?ag9) (es := ?es9) Is.mk Is.mk sg sg si si si sg ?hb9 hn_80 hl_81 ?he9 ?hs9
 case hb9 => rw [encM_len]; exact hb_79
 case he9 =>
  intro hend
  simp only [go_sem, simprocAttr]
  first | apply hK9 | refine ⟨by exact sd, hK9 _ _ ?_⟩
  refine Wp.seqW fun K10 hK10 hW10 => ?_
  refine Wp.cond rfl ⟨⟩ (fun h => ?_) (fun h => ?_)
  ·cases h
  refine Wp.endM 0 1 (by simp only [go_sem, simprocAttr]; exact Is.mk) (by simp only [go_sem, simprocAttr]; exact Is.mk) (by simp only [go_sem, simprocAttr]) ?_
  simp only [go_sem, simprocAttr]
  refine Wp.exit ?_
  have hm := hk_90 _ (forM_end hm ((left_length (m := bs_77) hb_79 rfl).trans hend))
  try dsimp only at hm
  refine hW3 _ _ _ _ ?_ (hcut3 o2_85 hm)
  exact fse3
 case hs9 =>
  intro j_93 p_94 st_95 hok_96
  simp only [go_sem, simprocAttr]
  first | apply hK9 | refine ⟨by exact sd, hK9 _ _ ?_⟩
  refine Wp.seqW fun K10 hK10 hW10 => ?_
  refine Wp.cond rfl ⟨⟩ (fun h => ?_) (fun h => ?_)
  rotate_left
  ·cases h
  refine Wp.skip ?_
  simp only [thenQ]
  refine hK10 _ _ ?_
  obtain ⟨e_97, nx_91, hx_98, hnx_91, hm⟩ := forM_step hm (hok_96.er _ hb_79).1
  replace hx_98 := (hok_96.er _ hb_79).2.2.symm.trans hx_98
  refine Wp.block ?_
  refine Wp.seqR fun K11 hK11 => ?_
  simp only [go_sem, simprocAttr]
  try refine ⟨sd, ?_⟩
  refine Rg.entry (q := 1) (i := 0) (cl := cl_78) (bs := bs_77) (seen := sn_92) (ag := ?ag12) (es := ?es12) (d := ?d12) (row := ?row12) Is.mk Is.mk sg sg si si si hn_80 hok_96.hp ?he12 ?cont12
  case he12 => exact encM_get hx_98
  simp only [go_sem, simprocAttr]
  first | apply hK11 | refine ⟨sd, hK11 _ _ ?_⟩
  obtain ⟨c_99, hm⟩ := chk_elim hm
  refine Wp.region fun K13 hK13 => ?_
  simp only [go_sem, simprocAttr]
  first | apply hK13 | refine ⟨by first | exact sd | ((repeat' apply And.intro) <;> first | assumption | omega | (simp only [List.length_append, List.length_map, List.length_cons, List.length_nil, List.length_set, List.length_replicate] at c_99 ⊢; omega)), hK13 _ _ ?_⟩
  simp only [thenQ, blockQ, ↓reduceIte]
  refine ⟨_, o2_85 ++ [e_97.1], (forM_next hok_96 hb_79 (hnx_91 _ hm)).1, (forM_next hok_96 hb_79 (hnx_91 _ hm)).2, ?_⟩
  exact fse3
theorem ok_R_Installed (l_1 : List api_Record) (z : List api_Had) (hm : R_Installed l_1 = some z) : Does Tryz.prog 16 [.p (.l (List.map enc_api_Record l_1))] [] (fun r X => r = .p (.l (List.map enc_api_Had z)) ∧ X = []) := by
 unfold R_Installed at hm
 refine Does.of_wp 0 35 [.tmp 2] Tryz.func16 rfl (by decide) rfl rfl (Nat.le_of_ble_eq_true rfl) fun B => ?_
 refine qS ?_
 refine qS ?_
 refine Wp.seqW fun K3 hK3 hW3 => ?_
 obtain ⟨k_16, hk_16, hm⟩ := jp_elim hm
 have hcut3 : ∀ s, k_16 s = some z → K3 [(3, .mp 0)] [.mp true (encM Dt.s enc_api_Had s)] := by
  intro m0_15 hs
  have hm := hk_16 _ hs
  clear hs
  try dsimp only at hm
  try dsimp only
  refine hK3 _ _ ?_
  refine qS ?_
  refine Wp.seqW fun K5 hK5 hW5 => ?_
  obtain ⟨k_38, hk_38, hm⟩ := jp_elim hm
  have hcut5 : ∀ s, k_38 s = some z → K5 [(6, .buf 1)] [.mp true (encM Dt.s enc_api_Had m0_15), .buf 42 6 (List.map enc_api_Had s)] := by
   intro o1_37 hs
   have hm := hk_38 _ hs
   clear hs
   try dsimp only at hm
   try dsimp only
   refine hK5 _ _ ?_
   refine qS ?_
   refine Wp.ret ?_
   refine retQ_ret ?_
   cases hm
   exact fse3
  clear hK5 hk_38
  obtain ⟨r_39, hr_39, hm⟩ := call_elim hm
  refine Wp.seqR fun K7 hK7 => ?_
  simp only [go_sem, simprocAttr]
  try refine ⟨sd, ?_⟩
  refine Rg.callR (av := ?av8) (g := true) [0] (fun hg => ok_R_keys_api_Had_i1 m0_15 _ hr_39) si si si si sg sg sg ?cont8
  simp only [go_sem, simprocAttr]
  first | apply hK7 | refine ⟨sd, hK7 _ _ ?_⟩
  refine Wp.block ?_
  refine Wp.adopt 6 42 6 rfl ?_
  simp only [go_sem, simprocAttr]
  obtain ⟨k_51, hk_51, hm⟩ := forL_cont hm
  refine Wp.fact 21 fun hl_54 => ?_
  replace hl_54 : r_39.length ≤ 274877906944 := by
   simp only [go_sem, simprocAttr, List.length_map] at hl_54
   omega
  refine Wp.forL (fun i_53 s => [(3, .mp 0), (6, .buf 1), (21, .p (.l (List.map ecS r_39))), (22, .p (.i .i64 (r_39.length : Int))), (23, .p (.i .i64 (i_53 : Int)))]) (fun i_53 s => [.mp true (encM Dt.s enc_api_Had m0_15), .buf 42 6 (List.map enc_api_Had s)]) ?_ hm ?_
  ·
   exact fse3
  clear hm
  intro i_53 o1_46 hii_53 hm
  try dsimp only at hm
  try dsimp only
  refine qS ?_
  refine Wp.seqW fun K10 hK10 hW10 => ?_
  refine Wp.cond rfl ⟨⟩ (fun hc10 => ?_) (fun hc10 => ?_)
  rotate_left
  ·refine Wp.exit ?_
   have hm := hk_51 _ (forL_end hm (ge_nat (by first | exact hc10 | simpa using hc10)))
   try dsimp only at hm
   refine hW5 _ _ _ _ ?_ (hcut5 o1_46 hm)
   exact fse3
  have hlt10 := lt_nat (by first | exact hc10 | simpa using hc10)
  have hw10 := wrap_succ hlt10 hl_54
  obtain ⟨s_55, nx_52, hxs_55, hys_55, hnx_52, hm⟩ := forL_step hm hlt10
  replace hxs_55 := hxs_55 ecS
  refine Wp.skip ?_
  simp only [thenQ]
  refine hK10 _ _ ?_
  refine Wp.seqW fun K11 hK11 hW11 => ?_
  refine Wp.block ?_
  refine Wp.seqR fun K12 hK12 => ?_
  simp only [go_sem, simprocAttr, hw10, hxs_55]
  first | apply hK12 | refine ⟨sd, hK12 _ _ ?_⟩
  obtain ⟨q_56, hq_57, hm⟩ := letv_elim hm
  have hq_57d := mlookD_enc (e := enc_api_Had) keq_s m0_15 s_55 (api_Had.mk [] (api_Version.mk 0 0 0 []) 0)
  have hq_57s := mlook_some (e := enc_api_Had) keq_s m0_15 s_55
  simp only [hq_57, enc_api_Had, List.map_nil] at hq_57d hq_57s
  obtain ⟨c_58, hm⟩ := chk_elim hm
  refine Wp.region fun K13 hK13 => ?_
  simp only [go_sem, simprocAttr, hw10, hxs_55, hq_57d, hq_57s]
  first | apply hK13 | refine ⟨by first | exact sd | ((repeat' apply And.intro) <;> first | assumption | omega | (simp only [List.length_append, List.length_map, List.length_cons, List.length_nil, List.length_set, List.length_replicate] at c_58 ⊢; omega)), hK13 _ _ ?_⟩
  refine hK11 _ _ ?_
  refine Wp.region fun K14 hK14 => ?_
  simp only [go_sem, simprocAttr, hw10, hxs_55]
  first | apply hK14 | refine ⟨sd, hK14 _ _ ?_⟩
  simp only [thenQ, blockQ, ↓reduceIte]
  refine ⟨o1_46 ++ [(q_56.getD (api_Had.mk [] (api_Version.mk 0 0 0 []) 0))], hlt10, hnx_52 _ hm, ?_⟩
  simp only [go_sem, simprocAttr, hw10, hxs_55]
  try exact se3
 clear hK3 hk_16
 refine qS ?_
 refine Wp.block ?_
 obtain ⟨k_66, hk_66, hm⟩ := forL_cont hm
 refine Wp.fact 10 fun hl_69 => ?_
 replace hl_69 : l_1.length ≤ 274877906944 := by
  simp only [go_sem, simprocAttr, List.length_map] at hl_69
  omega
 refine Wp.forL (fun i_68 s => [(3, .mp 0), (10, .p (.l (List.map enc_api_Record l_1))), (11, .p (.i .i64 (l_1.length : Int))), (12, .p (.i .i64 (i_68 : Int)))]) (fun i_68 s => [.mp true (encM Dt.s enc_api_Had s)]) ?_ hm ?_
 ·
  exact fse3
 clear hm
 intro i_68 m0_63 hii_68 hm
 try dsimp only at hm
 try dsimp only
 refine qS ?_
 refine Wp.seqW fun K17 hK17 hW17 => ?_
 refine Wp.cond rfl ⟨⟩ (fun hc17 => ?_) (fun hc17 => ?_)
 rotate_left
 ·refine Wp.exit ?_
  have hm := hk_66 _ (forL_end hm (ge_nat (by first | exact hc17 | simpa using hc17)))
  try dsimp only at hm
  refine hW3 _ _ _ _ ?_ (hcut3 m0_63 hm)
  exact fse3
 have hlt17 := lt_nat (by first | exact hc17 | simpa using hc17)
 have hw17 := wrap_succ hlt17 hl_69
 obtain ⟨r_70, nx_67, hxr_70, hyr_70, hnx_67, hm⟩ := forL_step hm hlt17
 replace hxr_70 := hxr_70 enc_api_Record
 refine Wp.skip ?_
 simp only [thenQ]
 refine hK17 _ _ ?_
 refine Wp.seqW fun K18 hK18 hW18 => ?_
 refine Wp.block ?_
 refine Wp.seqR fun K19 hK19 => ?_
 simp only [go_sem, simprocAttr, hw17, hxr_70]
 first | apply hK19 | refine ⟨sd, hK19 _ _ ?_⟩
 obtain ⟨r_71, hr_71, hm⟩ := call_elim hm
 refine Wp.region fun K20 hK20 => ?_
 simp only [go_sem, simprocAttr, hw17, hxr_70]
 try refine ⟨sd, ?_⟩
 refine Rg.callO (av := ?av21) [0] (ok_R_could_i1 r_70 m0_63 _ hr_71) (by simp only [go_sem, simprocAttr, hw17, hxr_70]; exact Is.mk) (by simp only [go_sem, simprocAttr, hw17, hxr_70]; exact Is.mk) (by simp only [go_sem, simprocAttr, hw17, hxr_70]; exact Is.mk) (by simp only [go_sem, simprocAttr, hw17, hxr_70]) (by simp only [go_sem, simprocAttr, hw17, hxr_70]) ?cont21
 rintro _ _ ⟨rfl, rfl⟩ hv21
 simp only [go_sem, simprocAttr, hw17, hxr_70]
 first | apply hK20 | refine ⟨sd, hK20 _ _ ?_⟩
 refine hK18 _ _ ?_
 refine Wp.region fun K22 hK22 => ?_
 simp only [go_sem, simprocAttr, hw17, hxr_70]
 first | apply hK22 | refine ⟨sd, hK22 _ _ ?_⟩
 simp only [thenQ, blockQ, ↓reduceIte]
 refine ⟨r_71.2, hlt17, hnx_67 _ hm, ?_⟩
 simp only [go_sem, simprocAttr, hw17, hxr_70]
 try exact se3
theorem ok_log_timed (l_1 : List api_Record) (times_2 : List Int) (z : Int) (hm : log_timed l_1 times_2 = some z) : Does Tryz.prog 61 [.p (.l (List.map enc_api_Record l_1)), .p (.l (List.map ecI_i64 times_2))] [] (fun r X => r = .p (.i .i64 z) ∧ X = []) := by
 unfold log_timed at hm
 refine Does.of_wp 0 22 [.tmp 4] Tryz.func61 rfl (by decide) rfl rfl (Nat.le_of_ble_eq_true rfl) fun B => ?_
 refine qS ?_
 refine Wp.seqW fun K2 hK2 hW2 => ?_
 obtain ⟨r_3, hr_3, hm⟩ := call_elim hm
 refine Wp.seqR fun K3 hK3 => ?_
 simp only [go_sem, simprocAttr]
 try refine ⟨sd, ?_⟩
 refine Rg.callX (av := ?av4) (g := true) (fun hg => ok_log_check l_1 _ hr_3) si si si sg si ?cont4
 intro hv4
 simp only [go_sem, simprocAttr]
 first | apply hK3 | refine ⟨sd, hK3 _ _ ?_⟩
 refine qS ?_
 refine cM hm (fun hc6 hm => ?_) (fun hc6 hm => ?_)
 ·refine qS ?_
  refine Wp.ret ?_
  refine retQ_ret ?_
  cases hm
  exact fse3
 ·refine Wp.skip ?_
  refine hK2 _ _ ?_
  refine Wp.seqW fun K8 hK8 hW8 => ?_
  obtain ⟨k_13, hk_13, hm⟩ := jp_elim hm
  have hcut8 : ∀ s, k_13 s = some z → K8 [] [] := by
   intro s hs
   have hm := hk_13 _ hs
   clear hs
   try dsimp only at hm
   try dsimp only
   refine hK8 _ _ ?_
   refine qS ?_
   refine Wp.ret ?_
   refine retQ_ret ?_
   cases hm
   exact fse3
  clear hK8 hk_13
  refine qS ?_
  refine Wp.block ?_
  obtain ⟨k_17, hk_17, hm⟩ := forL_cont hm
  refine Wp.fact 13 fun hl_20 => ?_
  replace hl_20 : times_2.length ≤ 274877906944 := by
   simp only [go_sem, simprocAttr, List.length_map] at hl_20
   omega
  refine Wp.forL (fun i_19 s => [(13, .p (.l (List.map ecI_i64 times_2))), (14, .p (.i .i64 (times_2.length : Int))), (15, .p (.i .i64 (i_19 : Int)))]) (fun i_19 s => []) ?_ hm ?_
  ·
   exact fse3
  clear hm
  intro i_19 s hii_19 hm
  try dsimp only at hm
  try dsimp only
  refine qS ?_
  refine Wp.seqW fun K12 hK12 hW12 => ?_
  refine Wp.cond rfl ⟨⟩ (fun hc12 => ?_) (fun hc12 => ?_)
  rotate_left
  ·refine Wp.exit ?_
   have hm := hk_17 _ (forL_end hm (ge_nat (by first | exact hc12 | simpa using hc12)))
   try dsimp only at hm
   refine hW8 _ _ _ _ ?_ (hcut8 () hm)
   exact fse3
  have hlt12 := lt_nat (by first | exact hc12 | simpa using hc12)
  have hw12 := wrap_succ hlt12 hl_20
  obtain ⟨n_21, nx_18, hxn_21, hyn_21, hnx_18, hm⟩ := forL_step hm hlt12
  replace hxn_21 := hxn_21 ecI_i64
  refine Wp.skip ?_
  simp only [thenQ]
  refine hK12 _ _ ?_
  refine Wp.seqW fun K13 hK13 hW13 => ?_
  refine Wp.block ?_
  refine Wp.seqR fun K14 hK14 => ?_
  simp only [go_sem, simprocAttr, hw12, hxn_21]
  first | apply hK14 | refine ⟨sd, hK14 _ _ ?_⟩
  obtain ⟨r_22, hr_22, hm⟩ := call_elim hm
  refine Wp.seqR fun K15 hK15 => ?_
  simp only [go_sem, simprocAttr, hw12, hxn_21]
  try refine ⟨sd, ?_⟩
  refine Rg.callX (av := ?av16) (g := true) (fun hg => ok_log_outside n_21 0 1099511627776 _ hr_22) (by simp only [go_sem, simprocAttr, hw12, hxn_21]; exact Is.mk) (by simp only [go_sem, simprocAttr, hw12, hxn_21]; exact Is.mk) (by simp only [go_sem, simprocAttr, hw12, hxn_21]; exact Is.mk) (by simp only [go_sem, simprocAttr, hw12, hxn_21]) (by simp only [go_sem, simprocAttr, hw12, hxn_21]; exact Is.mk) ?cont16
  intro hv16
  simp only [go_sem, simprocAttr, hw12, hxn_21]
  first | apply hK15 | refine ⟨sd, hK15 _ _ ?_⟩
  refine cM hm (fun hc17 hm => ?_) (fun hc17 hm => ?_)
  ·refine Wp.seqR fun K18 hK18 => ?_
   simp only [go_sem, simprocAttr, hw12, hxn_21]
   first | apply hK18 | refine ⟨sd, hK18 _ _ ?_⟩
   refine Wp.ret ?_
   refine retQ_ret ?_
   cases hm
   simp only [go_sem, simprocAttr, hw12, hxn_21]
   try exact se3
  ·refine Wp.skip ?_
   refine hK13 _ _ ?_
   refine Wp.region fun K19 hK19 => ?_
   simp only [go_sem, simprocAttr, hw12, hxn_21]
   first | apply hK19 | refine ⟨sd, hK19 _ _ ?_⟩
   simp only [thenQ, blockQ, ↓reduceIte]
   refine ⟨(), hlt12, hnx_18 _ hm, ?_⟩
   simp only [go_sem, simprocAttr, hw12, hxn_21]
   try exact se3
theorem ok_log_until_1 (r_1 : api_Record) (t_2 : Int) (z : Int) (hm : log_until_1 r_1 t_2 = some z) : Does Tryz.prog 63 [.agg [.p (.i .i64 r_1.Time), .p (.i .i64 r_1.Kind), .p (.s r_1.Pack), .p (.i .i64 r_1.From.Major), .p (.i .i64 r_1.From.Minor), .p (.i .i64 r_1.From.Patch), .p (.s r_1.From.Early), .p (.i .i64 r_1.To.Major), .p (.i .i64 r_1.To.Minor), .p (.i .i64 r_1.To.Patch), .p (.s r_1.To.Early), .p (.i .i64 r_1.Result), .p (.s r_1.Note)], .p (.i .i64 t_2)] [] (fun r X => r = .p (.i .i64 z) ∧ X = []) := by
 unfold log_until_1 at hm
 refine Does.of_wp 0 9 [.tmp 4] Tryz.func63 rfl (by decide) rfl rfl (Nat.le_of_ble_eq_true rfl) fun B => ?_
 refine qS ?_
 refine Wp.seqW fun K2 hK2 hW2 => ?_
 refine qS ?_
 refine cM hm (fun hc4 hm => ?_) (fun hc4 hm => ?_)
 ·refine qS ?_
  refine Wp.ret ?_
  refine retQ_ret ?_
  cases hm
  exact fse3
 ·refine Wp.skip ?_
  refine hK2 _ _ ?_
  refine qS ?_
  refine Wp.ret ?_
  refine retQ_ret ?_
  cases hm
  exact fse3
end Go.Proofs.YthmjpfooffbhhaaGreatDoor
