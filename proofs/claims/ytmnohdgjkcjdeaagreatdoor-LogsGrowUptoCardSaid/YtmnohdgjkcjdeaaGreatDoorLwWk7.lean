/- That the code does what the models say (part 7). -/
import Derived.Test.YtmnohdgjkcjdeaaGreatDoorLwWk0
import Derived.Test.YtmnohdgjkcjdeaaGreatDoorLwWk1
import Derived.Test.YtmnohdgjkcjdeaaGreatDoorLwWk3
import Derived.Test.YtmnohdgjkcjdeaaGreatDoorLwWk6
set_option linter.unusedSimpArgs false
set_option linter.unusedVariables false
open Go.Proofs Go.Shelf
namespace Go.Proofs.YtmnohdgjkcjdeaaGreatDoor
open Go.Vc Go.Md
set_option maxRecDepth 100000
set_option maxHeartbeats 4000000
theorem ok_ver_Parse (text_1 : Str) (z : api_Version × Int) (hm : ver_Parse text_1 = some z) : Does Tryz.prog 120 [.p (.s text_1)] [] (fun r X => r = .tup [.agg [.p (.i .i64 z.1.Major), .p (.i .i64 z.1.Minor), .p (.i .i64 z.1.Patch), .p (.s z.1.Early)], .p (.i .i64 z.2)] ∧ X = []) := by
 unfold ver_Parse at hm
 refine Does.of_wp 0 68 [.cell 2 27, .tmp 3] Tryz.func120 rfl (by decide) rfl rfl (Nat.le_of_ble_eq_true rfl) fun B => ?_
 refine qS ?_
 obtain ⟨r_2, hr_2, hm⟩ := call_elim hm
 refine Wp.seqR fun K2 hK2 => ?_
 simp only [go_sem, simprocAttr]
 try refine ⟨sd, ?_⟩
 refine Rg.callX (av := ?av3) (g := true) (fun hg => ok_strings_Cut text_1 ([45] : Str) _ hr_2) si si si sg si ?cont3
 intro hv3
 simp only [go_sem, simprocAttr]
 first | apply hK2 | refine ⟨sd, hK2 _ _ ?_⟩
 obtain ⟨r_3, hr_3, hm⟩ := call_elim hm
 refine Wp.seqR fun K4 hK4 => ?_
 simp only [go_sem, simprocAttr]
 try refine ⟨sd, ?_⟩
 refine Rg.callF (av := ?av5) (ok_strings_Split r_2.1 ([46] : Str) _ hr_3) si si sg ?cont5
 intro hv5
 simp only [go_sem, simprocAttr]
 first | apply hK4 | refine ⟨sd, hK4 _ _ ?_⟩
 refine Wp.seqW fun K6 hK6 hW6 => ?_
 refine qS ?_
 refine cM hm (fun hc8 hm => ?_) (fun hc8 hm => ?_)
 ·refine qS ?_
  refine Wp.ret ?_
  refine retQ_ret ?_
  cases hm
  exact fse3
 ·refine Wp.skip ?_
  refine hK6 _ _ ?_
  refine qS ?_
  refine Wp.seqW fun K11 hK11 hW11 => ?_
  obtain ⟨k_14, hk_14, hm⟩ := jp_elim hm
  have hcut11 : ∀ s, k_14 s = some z → K11 [(2, .ptr 0 0), (5, .p (.s r_2.2.1)), (8, .ptr 1 0)] [.cells 27 [.p (.i .i64 0), .p (.i .i64 0), .p (.i .i64 0), .p (.s [])], .cells 147 [.p (.i .i64 s.1), .p (.i .i64 s.2.1), .p (.i .i64 s.2.2)]] := by
   intro s hs
   have hm := hk_14 _ hs
   clear hs
   obtain ⟨o1_0_11, o1_1_12, o1_2_13⟩ := s
   try dsimp only at hm
   try dsimp only
   refine hK11 _ _ ?_
   refine qS ?_
   refine Wp.seqW fun K13 hK13 hW13 => ?_
   obtain ⟨r_15, hr_15, hm⟩ := call_elim hm
   refine Wp.seqR fun K14 hK14 => ?_
   simp only [go_sem, simprocAttr]
   try refine ⟨sd, ?_⟩
   refine Rg.callX (av := ?av15) (g := true) (fun hg => ok_ver_Check (api_Version.mk o1_0_11 o1_1_12 o1_2_13 r_2.2.1) _ hr_15) si si si sg si ?cont15
   intro hv15
   simp only [go_sem, simprocAttr]
   first | apply hK14 | refine ⟨sd, hK14 _ _ ?_⟩
   refine qS ?_
   refine cM hm (fun hc17 hm => ?_) (fun hc17 hm => ?_)
   ·refine qS ?_
    refine Wp.ret ?_
    refine retQ_ret ?_
    cases hm
    exact fse3
   ·refine Wp.skip ?_
    refine hK13 _ _ ?_
    refine qS ?_
    refine Wp.ret ?_
    refine retQ_ret ?_
    cases hm
    exact fse3
  clear hK11 hk_14
  refine qS ?_
  refine Wp.block ?_
  obtain ⟨c_16, hm⟩ := chk_elim hm
  simp only [c_16]
  refine Wp.loopK 9 ?_
  simp only [WpL]
  refine qS ?_
  refine Wp.seqW fun K22 hK22 hW22 => ?_
  refine Wp.cond rfl ⟨⟩ (fun hc23 => ?_) (fun hc23 => ?_)
  rotate_left
  ·cases hc23
  refine Wp.skip ?_
  refine hK22 _ _ ?_
  refine Wp.seqW fun K24 hK24 hW24 => ?_
  refine Wp.block ?_
  obtain ⟨s_17, hbs_17, hxs_17, hys_17, hm⟩ := idx_elim hm
  replace hxs_17 : ∀ d, (List.map ecS r_3).getD 0 d = ecS s_17 := hxs_17 ecS
  refine Wp.seqR fun K25 hK25 => ?_
  simp only [go_sem, simprocAttr, hxs_17]
  first | apply hK25 | refine ⟨sd, hK25 _ _ ?_⟩
  obtain ⟨r_18, hr_18, hm⟩ := call_elim hm
  refine Wp.seqR fun K26 hK26 => ?_
  simp only [go_sem, simprocAttr, hxs_17]
  try refine ⟨sd, ?_⟩
  refine Rg.callX (av := ?av27) (g := true) (fun hg => ok_ver_number s_17 _ hr_18) (by simp only [go_sem, simprocAttr, hxs_17]; exact Is.mk) (by simp only [go_sem, simprocAttr, hxs_17]; exact Is.mk) (by simp only [go_sem, simprocAttr, hxs_17]; exact Is.mk) (by simp only [go_sem, simprocAttr, hxs_17]) (by simp only [go_sem, simprocAttr, hxs_17]; exact Is.mk) ?cont27
  intro hv27
  simp only [go_sem, simprocAttr, hxs_17]
  first | apply hK26 | refine ⟨sd, hK26 _ _ ?_⟩
  refine Wp.seqW fun K28 hK28 hW28 => ?_
  refine Wp.seqR fun K29 hK29 => ?_
  simp only [go_sem, simprocAttr, hxs_17]
  first | apply hK29 | refine ⟨sd, hK29 _ _ ?_⟩
  refine cM hm (fun hc30 hm => ?_) (fun hc30 hm => ?_)
  ·refine Wp.seqR fun K31 hK31 => ?_
   simp only [go_sem, simprocAttr, hxs_17]
   first | apply hK31 | refine ⟨sd, hK31 _ _ ?_⟩
   refine Wp.ret ?_
   refine retQ_ret ?_
   cases hm
   simp only [go_sem, simprocAttr, hxs_17]
   try exact se3
  ·refine Wp.skip ?_
   refine hK28 _ _ ?_
   refine Wp.region fun K32 hK32 => ?_
   simp only [go_sem, simprocAttr, hxs_17]
   first | apply hK32 | refine ⟨sd, hK32 _ _ ?_⟩
   refine hK24 _ _ ?_
   refine Wp.region fun K33 hK33 => ?_
   simp only [go_sem, simprocAttr, hxs_17]
   first | apply hK33 | refine ⟨sd, hK33 _ _ ?_⟩
   simp only [thenQ, blockQ, ↓reduceIte]
   try simp only [WpL]
   refine Wp.seqR fun K34 hK34 => ?_
   simp only [go_sem, simprocAttr, hxs_17]
   first | apply hK34 | refine ⟨sd, hK34 _ _ ?_⟩
   refine Wp.seqW fun K35 hK35 hW35 => ?_
   refine Wp.cond rfl ⟨⟩ (fun hc36 => ?_) (fun hc36 => ?_)
   rotate_left
   ·cases hc36
   refine Wp.skip ?_
   refine hK35 _ _ ?_
   refine Wp.seqW fun K37 hK37 hW37 => ?_
   refine Wp.block ?_
   obtain ⟨s_19, hbs_19, hxs_19, hys_19, hm⟩ := idx_elim hm
   replace hxs_19 : ∀ d, (List.map ecS r_3).getD 1 d = ecS s_19 := hxs_19 ecS
   refine Wp.seqR fun K38 hK38 => ?_
   simp only [go_sem, simprocAttr, hxs_17, hxs_19]
   first | apply hK38 | refine ⟨sd, hK38 _ _ ?_⟩
   obtain ⟨r_20, hr_20, hm⟩ := call_elim hm
   refine Wp.seqR fun K39 hK39 => ?_
   simp only [go_sem, simprocAttr, hxs_17, hxs_19]
   try refine ⟨sd, ?_⟩
   refine Rg.callX (av := ?av40) (g := true) (fun hg => ok_ver_number s_19 _ hr_20) (by simp only [go_sem, simprocAttr, hxs_17, hxs_19]; exact Is.mk) (by simp only [go_sem, simprocAttr, hxs_17, hxs_19]; exact Is.mk) (by simp only [go_sem, simprocAttr, hxs_17, hxs_19]; exact Is.mk) (by simp only [go_sem, simprocAttr, hxs_17, hxs_19]) (by simp only [go_sem, simprocAttr, hxs_17, hxs_19]; exact Is.mk) ?cont40
   intro hv40
   simp only [go_sem, simprocAttr, hxs_17, hxs_19]
   first | apply hK39 | refine ⟨sd, hK39 _ _ ?_⟩
   refine Wp.seqW fun K41 hK41 hW41 => ?_
   refine Wp.seqR fun K42 hK42 => ?_
   simp only [go_sem, simprocAttr, hxs_17, hxs_19]
   first | apply hK42 | refine ⟨sd, hK42 _ _ ?_⟩
   refine cM hm (fun hc43 hm => ?_) (fun hc43 hm => ?_)
   ·refine Wp.seqR fun K44 hK44 => ?_
    simp only [go_sem, simprocAttr, hxs_17, hxs_19]
    first | apply hK44 | refine ⟨sd, hK44 _ _ ?_⟩
    refine Wp.ret ?_
    refine retQ_ret ?_
    cases hm
    simp only [go_sem, simprocAttr, hxs_17, hxs_19]
    try exact se3
   ·refine Wp.skip ?_
    refine hK41 _ _ ?_
    refine Wp.region fun K45 hK45 => ?_
    simp only [go_sem, simprocAttr, hxs_17, hxs_19]
    first | apply hK45 | refine ⟨sd, hK45 _ _ ?_⟩
    refine hK37 _ _ ?_
    refine Wp.region fun K46 hK46 => ?_
    simp only [go_sem, simprocAttr, hxs_17, hxs_19]
    first | apply hK46 | refine ⟨sd, hK46 _ _ ?_⟩
    simp only [thenQ, blockQ, ↓reduceIte]
    try simp only [WpL]
    refine Wp.seqR fun K47 hK47 => ?_
    simp only [go_sem, simprocAttr, hxs_17, hxs_19]
    first | apply hK47 | refine ⟨sd, hK47 _ _ ?_⟩
    refine Wp.seqW fun K48 hK48 hW48 => ?_
    refine Wp.cond rfl ⟨⟩ (fun hc49 => ?_) (fun hc49 => ?_)
    rotate_left
    ·cases hc49
    refine Wp.skip ?_
    refine hK48 _ _ ?_
    refine Wp.seqW fun K50 hK50 hW50 => ?_
    refine Wp.block ?_
    obtain ⟨s_21, hbs_21, hxs_21, hys_21, hm⟩ := idx_elim hm
    replace hxs_21 : ∀ d, (List.map ecS r_3).getD 2 d = ecS s_21 := hxs_21 ecS
    refine Wp.seqR fun K51 hK51 => ?_
    simp only [go_sem, simprocAttr, hxs_17, hxs_19, hxs_21]
    first | apply hK51 | refine ⟨sd, hK51 _ _ ?_⟩
    obtain ⟨r_22, hr_22, hm⟩ := call_elim hm
    refine Wp.seqR fun K52 hK52 => ?_
    simp only [go_sem, simprocAttr, hxs_17, hxs_19, hxs_21]
    try refine ⟨sd, ?_⟩
    refine Rg.callX (av := ?av53) (g := true) (fun hg => ok_ver_number s_21 _ hr_22) (by simp only [go_sem, simprocAttr, hxs_17, hxs_19, hxs_21]; exact Is.mk) (by simp only [go_sem, simprocAttr, hxs_17, hxs_19, hxs_21]; exact Is.mk) (by simp only [go_sem, simprocAttr, hxs_17, hxs_19, hxs_21]; exact Is.mk) (by simp only [go_sem, simprocAttr, hxs_17, hxs_19, hxs_21]) (by simp only [go_sem, simprocAttr, hxs_17, hxs_19, hxs_21]; exact Is.mk) ?cont53
    intro hv53
    simp only [go_sem, simprocAttr, hxs_17, hxs_19, hxs_21]
    first | apply hK52 | refine ⟨sd, hK52 _ _ ?_⟩
    refine Wp.seqW fun K54 hK54 hW54 => ?_
    refine Wp.seqR fun K55 hK55 => ?_
    simp only [go_sem, simprocAttr, hxs_17, hxs_19, hxs_21]
    first | apply hK55 | refine ⟨sd, hK55 _ _ ?_⟩
    refine cM hm (fun hc56 hm => ?_) (fun hc56 hm => ?_)
    ·refine Wp.seqR fun K57 hK57 => ?_
     simp only [go_sem, simprocAttr, hxs_17, hxs_19, hxs_21]
     first | apply hK57 | refine ⟨sd, hK57 _ _ ?_⟩
     refine Wp.ret ?_
     refine retQ_ret ?_
     cases hm
     simp only [go_sem, simprocAttr, hxs_17, hxs_19, hxs_21]
     try exact se3
    ·refine Wp.skip ?_
     refine hK54 _ _ ?_
     refine Wp.region fun K58 hK58 => ?_
     simp only [go_sem, simprocAttr, hxs_17, hxs_19, hxs_21]
     first | apply hK58 | refine ⟨sd, hK58 _ _ ?_⟩
     refine hK50 _ _ ?_
     refine Wp.region fun K59 hK59 => ?_
     simp only [go_sem, simprocAttr, hxs_17, hxs_19, hxs_21]
     first | apply hK59 | refine ⟨sd, hK59 _ _ ?_⟩
     simp only [thenQ, blockQ, ↓reduceIte]
     try simp only [WpL]
     refine Wp.seqR fun K60 hK60 => ?_
     simp only [go_sem, simprocAttr, hxs_17, hxs_19, hxs_21]
     first | apply hK60 | refine ⟨sd, hK60 _ _ ?_⟩
     refine Wp.seqW fun K61 hK61 hW61 => ?_
     refine Wp.cond rfl ⟨⟩ (fun hc62 => ?_) (fun hc62 => ?_)
     ·cases hc62
     refine Wp.exit ?_
     refine hW11 _ _ _ _ ?_ (hcut11 (r_18.1, r_20.1, r_22.1) hm)
     simp only [go_sem, simprocAttr, hxs_17, hxs_19, hxs_21]
     try exact se3
theorem ok_log_versionOf (s_1 : Str) (z : api_Version × Bool) (hm : log_versionOf s_1 = some z) : Does Tryz.prog 89 [.p (.s s_1)] [] (fun r X => r = .tup [.agg [.p (.i .i64 z.1.Major), .p (.i .i64 z.1.Minor), .p (.i .i64 z.1.Patch), .p (.s z.1.Early)], .p (.b z.2)] ∧ X = []) := by
 unfold log_versionOf at hm
 refine Does.of_wp 0 22 [.cell 2 27, .tmp 3] Tryz.func89 rfl (by decide) rfl rfl (Nat.le_of_ble_eq_true rfl) fun B => ?_
 refine qS ?_
 refine Wp.seqW fun K2 hK2 hW2 => ?_
 refine qS ?_
 refine cM hm (fun hc4 hm => ?_) (fun hc4 hm => ?_)
 ·refine qS ?_
  refine Wp.ret ?_
  refine retQ_ret ?_
  cases hm
  exact fse3
 ·refine Wp.skip ?_
  refine hK2 _ _ ?_
  obtain ⟨r_2, hr_2, hm⟩ := call_elim hm
  refine Wp.seqR fun K6 hK6 => ?_
  simp only [go_sem, simprocAttr]
  try refine ⟨sd, ?_⟩
  refine Rg.callX (av := ?av7) (g := true) (fun hg => ok_ver_Parse s_1 _ hr_2) si si si sg si ?cont7
  intro hv7
  simp only [go_sem, simprocAttr]
  first | apply hK6 | refine ⟨sd, hK6 _ _ ?_⟩
  refine Wp.seqD (plan := pl [(0, none), (1, none), (2, none), (3, none), (4, none), (5, none), (6, none), (7, none), (8, some [4, 5, 6, 7]), (9, none)]) (by kernel_rfl) rfl (by kernel_rfl) fun K8 hK8 => ?_
  simp only [go_sem, simprocAttr]
  first | apply hK8 | refine ⟨sd, hK8 _ _ ?_⟩
  refine Wp.ret ?_
  refine retQ_ret ?_
  cases hm
  exact fse3
theorem ok_disk_escape (s_1 : Str) (z : Int × Int) (hm : disk_escape s_1 = some z) : Does Tryz.prog 121 [.p (.s s_1)] [] (fun r X => r = .tup [.p (.i .u8 z.1), .p (.i .i64 z.2)] ∧ X = []) := by
 unfold disk_escape at hm
 refine Does.of_wp 0 61 [.tmp 2, .tmp 3] Tryz.func121 rfl (by decide) rfl rfl (Nat.le_of_ble_eq_true rfl) fun B => ?_
 refine qS ?_
 refine Wp.seqW fun K2 hK2 hW2 => ?_
 refine Wp.block ?_
 refine qS ?_
 refine cM hm (fun hc4 hm => ?_) (fun hc4 hm => ?_)
 ·refine qS ?_
  refine Wp.ret ?_
  refine retQ_ret ?_
  cases hm
  exact fse3
 ·obtain ⟨c_2, hbc_2, hxc_2, hm⟩ := idxS_elim hm
  replace hxc_2 : ((s_1.getD 0 0).toNat : Int) = c_2 := hxc_2
  refine Wp.seqR fun K6 hK6 => ?_
  simp only [go_sem, simprocAttr, hxc_2]
  first | apply hK6 | refine ⟨sd, hK6 _ _ ?_⟩
  refine cM hm (fun hc7 hm => ?_) (fun hc7 hm => ?_)
  ·refine Wp.seqR fun K8 hK8 => ?_
   simp only [go_sem, simprocAttr, hxc_2]
   first | apply hK8 | refine ⟨sd, hK8 _ _ ?_⟩
   refine Wp.ret ?_
   refine retQ_ret ?_
   cases hm
   simp only [go_sem, simprocAttr, hxc_2]
   try exact se3
  ·refine Wp.seqR fun K9 hK9 => ?_
   simp only [go_sem, simprocAttr, hxc_2]
   first | apply hK9 | refine ⟨sd, hK9 _ _ ?_⟩
   refine cM hm (fun hc10 hm => ?_) (fun hc10 hm => ?_)
   ·refine Wp.seqR fun K11 hK11 => ?_
    simp only [go_sem, simprocAttr, hxc_2]
    first | apply hK11 | refine ⟨sd, hK11 _ _ ?_⟩
    refine Wp.ret ?_
    refine retQ_ret ?_
    cases hm
    simp only [go_sem, simprocAttr, hxc_2]
    try exact se3
   ·refine Wp.seqR fun K12 hK12 => ?_
    simp only [go_sem, simprocAttr, hxc_2]
    first | apply hK12 | refine ⟨sd, hK12 _ _ ?_⟩
    refine cM hm (fun hc13 hm => ?_) (fun hc13 hm => ?_)
    ·refine Wp.seqR fun K14 hK14 => ?_
     simp only [go_sem, simprocAttr, hxc_2]
     first | apply hK14 | refine ⟨sd, hK14 _ _ ?_⟩
     refine Wp.ret ?_
     refine retQ_ret ?_
     cases hm
     simp only [go_sem, simprocAttr, hxc_2]
     try exact se3
    ·refine Wp.skip ?_
     refine hK2 _ _ ?_
     obtain ⟨c_3, hbc_3, hxc_3, hm⟩ := idxS_elim hm
     replace hxc_3 : ((s_1.getD 1 0).toNat : Int) = c_3 := hxc_3
     obtain ⟨r_4, hr_4, hm⟩ := call_elim hm
     obtain ⟨c_5, hbc_5, hxc_5, hm⟩ := idxS_elim hm
     replace hxc_5 : ((s_1.getD 2 0).toNat : Int) = c_5 := hxc_5
     obtain ⟨r_6, hr_6, hm⟩ := call_elim hm
     refine Wp.seqD (plan := pl [(0, none), (1, none), (2, none), (3, none), (4, none), (5, none), (6, none), (7, none)]) (by kernel_rfl) rfl (by kernel_rfl) fun K15 hK15 => ?_
     simp only [go_sem, simprocAttr, hxc_2, hxc_3, hxc_5]
     try refine ⟨sd, ?_⟩
     refine Dr.callF (av := ?av16) (g := true) (o := ?o16) (fun hg => ok_strings_IndexByte ([48, 49, 50, 51, 52, 53, 54, 55, 56, 57, 97, 98, 99, 100, 101, 102] : Str) c_3 _ hr_4) (by simp only [go_sem, simprocAttr, hxc_2, hxc_3, hxc_5]; exact Is.mk) (by simp only [go_sem, simprocAttr, hxc_2, hxc_3, hxc_5]; exact Is.mk) (by simp only [go_sem, simprocAttr, hxc_2, hxc_3, hxc_5]; exact Is.mk) (by simp only [go_sem, simprocAttr, hxc_2, hxc_3, hxc_5]; exact Is.mk) (by simp only [go_sem, simprocAttr, hxc_2, hxc_3, hxc_5]) (by simp only [go_sem, simprocAttr, hxc_2, hxc_3, hxc_5]; exact Is.mk) ?cont16
     simp only [go_sem, simprocAttr, hxc_2, hxc_3, hxc_5]
     try refine ⟨sd, ?_⟩
     refine Dr.callF (av := ?av17) (g := true) (o := ?o17) (fun hg => ok_strings_IndexByte ([48, 49, 50, 51, 52, 53, 54, 55, 56, 57, 97, 98, 99, 100, 101, 102] : Str) c_5 _ hr_6) (by simp only [go_sem, simprocAttr, hxc_2, hxc_3, hxc_5]; exact Is.mk) (by simp only [go_sem, simprocAttr, hxc_2, hxc_3, hxc_5]; exact Is.mk) (by simp only [go_sem, simprocAttr, hxc_2, hxc_3, hxc_5]; exact Is.mk) (by simp only [go_sem, simprocAttr, hxc_2, hxc_3, hxc_5]; exact Is.mk) (by simp only [go_sem, simprocAttr, hxc_2, hxc_3, hxc_5]) (by simp only [go_sem, simprocAttr, hxc_2, hxc_3, hxc_5]; exact Is.mk) ?cont17
     simp only [go_sem, simprocAttr, hxc_2, hxc_3, hxc_5]
     first | apply hK15 | refine ⟨sd, hK15 _ _ ?_⟩
     refine Wp.seqW fun K18 hK18 hW18 => ?_
     refine Wp.seqR fun K19 hK19 => ?_
     simp only [go_sem, simprocAttr, hxc_2, hxc_3, hxc_5]
     first | apply hK19 | refine ⟨sd, hK19 _ _ ?_⟩
     refine cM hm (fun hc20 hm => ?_) (fun hc20 hm => ?_)
     ·refine Wp.seqR fun K21 hK21 => ?_
      simp only [go_sem, simprocAttr, hxc_2, hxc_3, hxc_5]
      first | apply hK21 | refine ⟨sd, hK21 _ _ ?_⟩
      refine Wp.ret ?_
      refine retQ_ret ?_
      cases hm
      simp only [go_sem, simprocAttr, hxc_2, hxc_3, hxc_5]
      try exact se3
     ·refine Wp.skip ?_
      refine hK18 _ _ ?_
      refine Wp.seqR fun K22 hK22 => ?_
      simp only [go_sem, simprocAttr, hxc_2, hxc_3, hxc_5]
      first | apply hK22 | refine ⟨sd, hK22 _ _ ?_⟩
      refine Wp.seqW fun K23 hK23 hW23 => ?_
      refine Wp.seqR fun K24 hK24 => ?_
      simp only [go_sem, simprocAttr, hxc_2, hxc_3, hxc_5]
      first | apply hK24 | refine ⟨sd, hK24 _ _ ?_⟩
      refine cM hm (fun hc25 hm => ?_) (fun hc25 hm => ?_)
      ·refine Wp.seqR fun K26 hK26 => ?_
       simp only [go_sem, simprocAttr, hxc_2, hxc_3, hxc_5]
       first | apply hK26 | refine ⟨sd, hK26 _ _ ?_⟩
       refine Wp.ret ?_
       refine retQ_ret ?_
       cases hm
       simp only [go_sem, simprocAttr, hxc_2, hxc_3, hxc_5]
       try exact se3
      ·refine Wp.skip ?_
       refine hK23 _ _ ?_
       refine Wp.seqR fun K27 hK27 => ?_
       simp only [go_sem, simprocAttr, hxc_2, hxc_3, hxc_5]
       first | apply hK27 | refine ⟨sd, hK27 _ _ ?_⟩
       refine Wp.ret ?_
       refine retQ_ret ?_
       cases hm
       simp only [go_sem, simprocAttr, hxc_2, hxc_3, hxc_5]
       try exact se3
theorem ok_disk_Unquote (s_1 : Str) (z : Str × Int) (hm : disk_Unquote s_1 = some z) : Does Tryz.prog 90 [.p (.s s_1)] [] (fun r X => r = .tup [.p (.s z.1), .p (.i .i64 z.2)] ∧ X = []) := by
 unfold disk_Unquote at hm
 refine Does.of_wp 0 74 [.tmp 2, .tmp 3] Tryz.func90 rfl (by decide) rfl rfl (Nat.le_of_ble_eq_true rfl) fun B => ?_
 refine qS ?_
 refine Wp.seqW fun K2 hK2 hW2 => ?_
 obtain ⟨c_2, hm⟩ := chk_elim hm
 obtain ⟨c_3, hm⟩ := chk_elim hm
 refine Wp.seqR fun K3 hK3 => ?_
 simp only [go_sem, simprocAttr]
 first | apply hK3 | refine ⟨by first | exact sd | ((repeat' apply And.intro) <;> first | assumption | omega | (simp only [List.length_append, List.length_map, List.length_cons, List.length_nil, List.length_set, List.length_replicate] at c_2 c_3 ⊢; omega)), hK3 _ _ ?_⟩
 refine cM hm (fun hc4 hm => ?_) (fun hc4 hm => ?_)
 ·refine qS ?_
  refine Wp.ret ?_
  refine retQ_ret ?_
  cases hm
  exact fse3
 ·refine Wp.skip ?_
  refine hK2 _ _ ?_
  obtain ⟨c_4, hm⟩ := chk_elim hm
  refine Wp.seqR fun K6 hK6 => ?_
  simp only [go_sem, simprocAttr]
  first | apply hK6 | refine ⟨by first | exact sd | ((repeat' apply And.intro) <;> first | assumption | omega | (simp only [List.length_append, List.length_map, List.length_cons, List.length_nil, List.length_set, List.length_replicate] at c_4 ⊢; omega)), hK6 _ _ ?_⟩
  obtain ⟨c_5, hm⟩ := chk_elim hm
  refine Wp.seqR fun K7 hK7 => ?_
  simp only [go_sem, simprocAttr]
  first | apply hK7 | refine ⟨by first | exact sd | ((repeat' apply And.intro) <;> first | assumption | omega | (simp only [List.length_append, List.length_map, List.length_cons, List.length_nil, List.length_set, List.length_replicate] at c_5 ⊢; omega)), hK7 _ _ ?_⟩
  refine Wp.seqW fun K8 hK8 hW8 => ?_
  obtain ⟨k_27, hk_27, hm⟩ := jp_elim hm
  have hcut8 : ∀ s, k_27 s = some z → K8 [(4, .buf 0)] [.buf 5 1 (List.map ecI_u8 s)] := by
   intro o0_26 hs
   have hm := hk_27 _ hs
   clear hs
   try dsimp only at hm
   try dsimp only
   refine hK8 _ _ ?_
   refine qS ?_
   refine Wp.ret ?_
   refine retQ_ret ?_
   cases hm
   exact fse3
  clear hK8 hk_27
  refine qS ?_
  refine Wp.block ?_
  obtain ⟨k_41, hk_41, hm⟩ := loopN_cont hm
  refine Wp.loopN (fun s => [(0, .p (.s (List.take ((IntKind.i64.wrap ((s_1.length : Int) - 1)).toNat - 1) (List.drop 1 s_1)))), (4, .buf 0), (5, .p (.i .i64 s.1))]) (fun s => [.buf 5 1 (List.map ecI_u8 s.2)]) ?_ hm ?_
  ·
   exact fse3
  clear hm
  intro s nx_42 hm
  obtain ⟨i_34, o0_35⟩ := s
  try dsimp only at hm
  try dsimp only
  refine Wp.seqW fun K11 hK11 hW11 => ?_
  refine qS ?_
  refine cM hm (fun hc13 hm => ?_) (fun hc13 hm => ?_)
  ·refine Wp.skip ?_
   refine hK11 _ _ ?_
   refine Wp.seqW fun K14 hK14 hW14 => ?_
   refine Wp.block ?_
   obtain ⟨c_43, hbc_43, hxc_43, hm⟩ := idxS_elim hm
   replace hxc_43 : (((List.take ((IntKind.i64.wrap ((s_1.length : Int) - 1)).toNat - 1) (List.drop 1 s_1)).getD i_34.toNat 0).toNat : Int) = c_43 := hxc_43
   refine Wp.seqR fun K15 hK15 => ?_
   simp only [go_sem, simprocAttr, hxc_43]
   first | apply hK15 | refine ⟨sd, hK15 _ _ ?_⟩
   refine Wp.seqW fun K16 hK16 hW16 => ?_
   refine Wp.seqR fun K17 hK17 => ?_
   simp only [go_sem, simprocAttr, hxc_43]
   first | apply hK17 | refine ⟨sd, hK17 _ _ ?_⟩
   refine cM hm (fun hc18 hm => ?_) (fun hc18 hm => ?_)
   ·refine Wp.seqR fun K19 hK19 => ?_
    simp only [go_sem, simprocAttr, hxc_43]
    first | apply hK19 | refine ⟨sd, hK19 _ _ ?_⟩
    refine Wp.ret ?_
    refine retQ_ret ?_
    cases hm
    simp only [go_sem, simprocAttr, hxc_43]
    try exact se3
   ·refine Wp.skip ?_
    refine hK16 _ _ ?_
    refine Wp.seqW fun K20 hK20 hW20 => ?_
    refine Wp.seqR fun K21 hK21 => ?_
    simp only [go_sem, simprocAttr, hxc_43]
    first | apply hK21 | refine ⟨sd, hK21 _ _ ?_⟩
    refine cM hm (fun hc22 hm => ?_) (fun hc22 hm => ?_)
    ·obtain ⟨c_44, hm⟩ := chk_elim hm
     obtain ⟨r_45, hr_45, hm⟩ := call_elim hm
     refine Wp.seqR fun K23 hK23 => ?_
     simp only [go_sem, simprocAttr, hxc_43]
     try refine ⟨by first | exact sd | ((repeat' apply And.intro) <;> first | assumption | omega | (simp only [List.length_append, List.length_map, List.length_cons, List.length_nil, List.length_set, List.length_replicate] at c_44 ⊢; omega)), ?_⟩
     refine Rg.callX (av := ?av24) (g := true) (fun hg => ok_disk_escape (List.drop ((IntKind.i64.wrap (i_34 + 1)).toNat) (List.take ((IntKind.i64.wrap ((s_1.length : Int) - 1)).toNat - 1) (List.drop 1 s_1))) _ hr_45) (by simp only [go_sem, simprocAttr, hxc_43]; exact Is.mk) (by simp only [go_sem, simprocAttr, hxc_43]; exact Is.mk) (by simp only [go_sem, simprocAttr, hxc_43]; exact Is.mk) (by simp only [go_sem, simprocAttr, hxc_43]) (by simp only [go_sem, simprocAttr, hxc_43]; exact Is.mk) ?cont24
     intro hv24
     simp only [go_sem, simprocAttr, hxc_43]
     first | apply hK23 | refine ⟨by first | exact sd | ((repeat' apply And.intro) <;> first | assumption | omega | (simp only [List.length_append, List.length_map, List.length_cons, List.length_nil, List.length_set, List.length_replicate] at c_44 ⊢; omega)), hK23 _ _ ?_⟩
     refine Wp.seqW fun K25 hK25 hW25 => ?_
     refine Wp.seqR fun K26 hK26 => ?_
     simp only [go_sem, simprocAttr, hxc_43]
     first | apply hK26 | refine ⟨sd, hK26 _ _ ?_⟩
     refine cM hm (fun hc27 hm => ?_) (fun hc27 hm => ?_)
     ·refine Wp.seqR fun K28 hK28 => ?_
      simp only [go_sem, simprocAttr, hxc_43]
      first | apply hK28 | refine ⟨sd, hK28 _ _ ?_⟩
      refine Wp.ret ?_
      refine retQ_ret ?_
      cases hm
      simp only [go_sem, simprocAttr, hxc_43]
      try exact se3
     ·refine Wp.skip ?_
      refine hK25 _ _ ?_
      refine Wp.region fun K29 hK29 => ?_
      simp only [go_sem, simprocAttr, hxc_43]
      first | apply hK29 | refine ⟨sd, hK29 _ _ ?_⟩
      refine hK20 _ _ ?_
      obtain ⟨c_46, hm⟩ := chk_elim hm
      refine Wp.region fun K30 hK30 => ?_
      simp only [go_sem, simprocAttr, hxc_43]
      first | apply hK30 | refine ⟨by first | exact sd | ((repeat' apply And.intro) <;> first | assumption | omega | (simp only [List.length_append, List.length_map, List.length_cons, List.length_nil, List.length_set, List.length_replicate] at c_46 ⊢; omega)), hK30 _ _ ?_⟩
      refine hK14 _ _ ?_
      refine Wp.region fun K31 hK31 => ?_
      simp only [go_sem, simprocAttr, hxc_43]
      first | apply hK31 | refine ⟨sd, hK31 _ _ ?_⟩
      simp only [thenQ, blockQ, ↓reduceIte]
      refine ⟨(IntKind.i64.wrap ((IntKind.i64.wrap (i_34 + r_45.2)) + 1), o0_35 ++ [r_45.1]), hm, ?_⟩
      simp only [go_sem, simprocAttr, hxc_43]
      try exact se3
    ·refine Wp.skip ?_
     refine hK20 _ _ ?_
     obtain ⟨c_47, hm⟩ := chk_elim hm
     refine Wp.region fun K32 hK32 => ?_
     simp only [go_sem, simprocAttr, hxc_43]
     first | apply hK32 | refine ⟨by first | exact sd | ((repeat' apply And.intro) <;> first | assumption | omega | (simp only [List.length_append, List.length_map, List.length_cons, List.length_nil, List.length_set, List.length_replicate] at c_47 ⊢; omega)), hK32 _ _ ?_⟩
     refine hK14 _ _ ?_
     refine Wp.region fun K33 hK33 => ?_
     simp only [go_sem, simprocAttr, hxc_43]
     first | apply hK33 | refine ⟨sd, hK33 _ _ ?_⟩
     simp only [thenQ, blockQ, ↓reduceIte]
     refine ⟨(IntKind.i64.wrap (i_34 + 1), o0_35 ++ [c_43]), hm, ?_⟩
     simp only [go_sem, simprocAttr, hxc_43]
     try exact se3
  ·refine Wp.exit ?_
   simp only [thenQ, blockQ, ↓reduceIte]
   have hm := hk_41 _ hm
   try dsimp only at hm
   refine hW8 _ _ _ _ ?_ (hcut8 o0_35 hm)
   exact fse3
theorem ok_log_ParseRecord (line_1 : Str) (z : api_Record × Int) (hm : log_ParseRecord line_1 = some z) : Does Tryz.prog 47 [.p (.s line_1)] [] (fun r X => r = .tup [.agg [.p (.i .i64 z.1.Time), .p (.i .i64 z.1.Kind), .p (.s z.1.Pack), .p (.i .i64 z.1.From.Major), .p (.i .i64 z.1.From.Minor), .p (.i .i64 z.1.From.Patch), .p (.s z.1.From.Early), .p (.i .i64 z.1.To.Major), .p (.i .i64 z.1.To.Minor), .p (.i .i64 z.1.To.Patch), .p (.s z.1.To.Early), .p (.i .i64 z.1.Result), .p (.s z.1.Note)], .p (.i .i64 z.2)] ∧ X = []) := by
 unfold log_ParseRecord at hm
 refine Does.of_wp 0 130 [.cell 2 30, .tmp 3] Tryz.func47 rfl (by decide) rfl rfl (Nat.le_of_ble_eq_true rfl) fun B => ?_
 refine qS ?_
 obtain ⟨r_2, hr_2, hm⟩ := call_elim hm
 refine Wp.seqR fun K2 hK2 => ?_
 simp only [go_sem, simprocAttr]
 try refine ⟨sd, ?_⟩
 refine Rg.callF (av := ?av3) (ok_strings_SplitN line_1 ([32] : Str) 7 _ hr_2) si si sg ?cont3
 intro hv3
 simp only [go_sem, simprocAttr]
 first | apply hK2 | refine ⟨sd, hK2 _ _ ?_⟩
 refine Wp.seqW fun K4 hK4 hW4 => ?_
 obtain ⟨c_3, hm⟩ := chk_elim hm
 have hr_4 := getD_enc (l := r_2) (e := ecS) (d := []) (i := 2)
 simp only [ecS, List.map_nil] at hr_4
 refine Wp.seqR fun K5 hK5 => ?_
 simp only [go_sem, simprocAttr, hr_4]
 first | apply hK5 | refine ⟨by first | exact sd | ((repeat' apply And.intro) <;> first | assumption | omega | (simp only [List.length_append, List.length_map, List.length_cons, List.length_nil, List.length_set, List.length_replicate] at c_3 ⊢; omega)), hK5 _ _ ?_⟩
 refine cM hm (fun hc6 hm => ?_) (fun hc6 hm => ?_)
 ·refine qS ?_
  refine Wp.ret ?_
  refine retQ_ret ?_
  cases hm
  exact fse3
 ·refine Wp.skip ?_
  refine hK4 _ _ ?_
  obtain ⟨s_5, hbs_5, hxs_5, hys_5, hm⟩ := idx_elim hm
  replace hxs_5 : ∀ d, (List.map ecS r_2).getD 2 d = ecS s_5 := hxs_5 ecS
  refine Wp.seqR fun K8 hK8 => ?_
  simp only [go_sem, simprocAttr, hxs_5]
  first | apply hK8 | refine ⟨sd, hK8 _ _ ?_⟩
  refine Wp.seqW fun K9 hK9 hW9 => ?_
  obtain ⟨k_24, hk_24, hm⟩ := jp_elim hm
  have hcut9 : ∀ s, k_24 s = some z → K9 [(2, .ptr 0 0), (4, .p (.l (List.map ecS r_2))), (5, .ptr 1 0)] [.cells 30 [.p (.i .i64 0), .p (.i .i64 0), .p (.s []), .p (.i .i64 0), .p (.i .i64 0), .p (.i .i64 0), .p (.s []), .p (.i .i64 0), .p (.i .i64 0), .p (.i .i64 0), .p (.s []), .p (.i .i64 0), .p (.s [])], .cells 30 [.p (.i .i64 0), .p (.i .i64 s), .p (.s s_5), .p (.i .i64 0), .p (.i .i64 0), .p (.i .i64 0), .p (.s []), .p (.i .i64 0), .p (.i .i64 0), .p (.i .i64 0), .p (.s []), .p (.i .i64 0), .p (.s [])]] := by
   intro o1_1_23 hs
   have hm := hk_24 _ hs
   clear hs
   try dsimp only at hm
   try dsimp only
   refine hK9 _ _ ?_
   obtain ⟨s_25, hbs_25, hxs_25, hys_25, hm⟩ := idx_elim hm
   replace hxs_25 : ∀ d, (List.map ecS r_2).getD 0 d = ecS s_25 := hxs_25 ecS
   obtain ⟨r_26, hr_26, hm⟩ := call_elim hm
   refine Wp.seqR fun K10 hK10 => ?_
   simp only [go_sem, simprocAttr, hxs_5, hxs_25]
   try refine ⟨sd, ?_⟩
   refine Rg.callX (av := ?av11) (g := true) (fun hg => ok_log_number s_25 _ hr_26) (by simp only [go_sem, simprocAttr, hxs_5, hxs_25]; exact Is.mk) (by simp only [go_sem, simprocAttr, hxs_5, hxs_25]; exact Is.mk) (by simp only [go_sem, simprocAttr, hxs_5, hxs_25]; exact Is.mk) (by simp only [go_sem, simprocAttr, hxs_5, hxs_25]) (by simp only [go_sem, simprocAttr, hxs_5, hxs_25]; exact Is.mk) ?cont11
   intro hv11
   simp only [go_sem, simprocAttr, hxs_5, hxs_25]
   first | apply hK10 | refine ⟨sd, hK10 _ _ ?_⟩
   obtain ⟨s_27, hbs_27, hxs_27, hys_27, hm⟩ := idx_elim hm
   replace hxs_27 : ∀ d, (List.map ecS r_2).getD 3 d = ecS s_27 := hxs_27 ecS
   obtain ⟨r_28, hr_28, hm⟩ := call_elim hm
   refine Wp.seqR fun K12 hK12 => ?_
   simp only [go_sem, simprocAttr, hxs_5, hxs_25, hxs_27]
   try refine ⟨sd, ?_⟩
   refine Rg.callX (av := ?av13) (g := true) (fun hg => ok_log_versionOf s_27 _ hr_28) (by simp only [go_sem, simprocAttr, hxs_5, hxs_25, hxs_27]; exact Is.mk) (by simp only [go_sem, simprocAttr, hxs_5, hxs_25, hxs_27]; exact Is.mk) (by simp only [go_sem, simprocAttr, hxs_5, hxs_25, hxs_27]; exact Is.mk) (by simp only [go_sem, simprocAttr, hxs_5, hxs_25, hxs_27]) (by simp only [go_sem, simprocAttr, hxs_5, hxs_25, hxs_27]; exact Is.mk) ?cont13
   intro hv13
   simp only [go_sem, simprocAttr, hxs_5, hxs_25, hxs_27]
   first | apply hK12 | refine ⟨sd, hK12 _ _ ?_⟩
   obtain ⟨s_29, hbs_29, hxs_29, hys_29, hm⟩ := idx_elim hm
   replace hxs_29 : ∀ d, (List.map ecS r_2).getD 4 d = ecS s_29 := hxs_29 ecS
   obtain ⟨r_30, hr_30, hm⟩ := call_elim hm
   refine Wp.seqR fun K14 hK14 => ?_
   simp only [go_sem, simprocAttr, hxs_5, hxs_25, hxs_27, hxs_29]
   try refine ⟨sd, ?_⟩
   refine Rg.callX (av := ?av15) (g := true) (fun hg => ok_log_versionOf s_29 _ hr_30) (by simp only [go_sem, simprocAttr, hxs_5, hxs_25, hxs_27, hxs_29]; exact Is.mk) (by simp only [go_sem, simprocAttr, hxs_5, hxs_25, hxs_27, hxs_29]; exact Is.mk) (by simp only [go_sem, simprocAttr, hxs_5, hxs_25, hxs_27, hxs_29]; exact Is.mk) (by simp only [go_sem, simprocAttr, hxs_5, hxs_25, hxs_27, hxs_29]) (by simp only [go_sem, simprocAttr, hxs_5, hxs_25, hxs_27, hxs_29]; exact Is.mk) ?cont15
   intro hv15
   simp only [go_sem, simprocAttr, hxs_5, hxs_25, hxs_27, hxs_29]
   first | apply hK14 | refine ⟨sd, hK14 _ _ ?_⟩
   obtain ⟨s_31, hbs_31, hxs_31, hys_31, hm⟩ := idx_elim hm
   replace hxs_31 : ∀ d, (List.map ecS r_2).getD 5 d = ecS s_31 := hxs_31 ecS
   obtain ⟨r_32, hr_32, hm⟩ := call_elim hm
   refine Wp.seqR fun K16 hK16 => ?_
   simp only [go_sem, simprocAttr, hxs_5, hxs_25, hxs_27, hxs_29, hxs_31]
   try refine ⟨sd, ?_⟩
   refine Rg.callX (av := ?av17) (g := true) (fun hg => ok_log_number s_31 _ hr_32) (by simp only [go_sem, simprocAttr, hxs_5, hxs_25, hxs_27, hxs_29, hxs_31]; exact Is.mk) (by simp only [go_sem, simprocAttr, hxs_5, hxs_25, hxs_27, hxs_29, hxs_31]; exact Is.mk) (by simp only [go_sem, simprocAttr, hxs_5, hxs_25, hxs_27, hxs_29, hxs_31]; exact Is.mk) (by simp only [go_sem, simprocAttr, hxs_5, hxs_25, hxs_27, hxs_29, hxs_31]) (by simp only [go_sem, simprocAttr, hxs_5, hxs_25, hxs_27, hxs_29, hxs_31]; exact Is.mk) ?cont17
   intro hv17
   simp only [go_sem, simprocAttr, hxs_5, hxs_25, hxs_27, hxs_29, hxs_31]
   first | apply hK16 | refine ⟨sd, hK16 _ _ ?_⟩
   obtain ⟨s_33, hbs_33, hxs_33, hys_33, hm⟩ := idx_elim hm
   replace hxs_33 : ∀ d, (List.map ecS r_2).getD 6 d = ecS s_33 := hxs_33 ecS
   obtain ⟨r_34, hr_34, hm⟩ := call_elim hm
   refine Wp.seqR fun K18 hK18 => ?_
   simp only [go_sem, simprocAttr, hxs_5, hxs_25, hxs_27, hxs_29, hxs_31, hxs_33]
   try refine ⟨sd, ?_⟩
   refine Rg.callX (av := ?av19) (g := true) (fun hg => ok_disk_Unquote s_33 _ hr_34) (by simp only [go_sem, simprocAttr, hxs_5, hxs_25, hxs_27, hxs_29, hxs_31, hxs_33]; exact Is.mk) (by simp only [go_sem, simprocAttr, hxs_5, hxs_25, hxs_27, hxs_29, hxs_31, hxs_33]; exact Is.mk) (by simp only [go_sem, simprocAttr, hxs_5, hxs_25, hxs_27, hxs_29, hxs_31, hxs_33]; exact Is.mk) (by simp only [go_sem, simprocAttr, hxs_5, hxs_25, hxs_27, hxs_29, hxs_31, hxs_33]) (by simp only [go_sem, simprocAttr, hxs_5, hxs_25, hxs_27, hxs_29, hxs_31, hxs_33]; exact Is.mk) ?cont19
   intro hv19
   simp only [go_sem, simprocAttr, hxs_5, hxs_25, hxs_27, hxs_29, hxs_31, hxs_33]
   first | apply hK18 | refine ⟨sd, hK18 _ _ ?_⟩
   refine Wp.seqW fun K20 hK20 hW20 => ?_
   refine Wp.seqR fun K21 hK21 => ?_
   simp only [go_sem, simprocAttr, hxs_5, hxs_25, hxs_27, hxs_29, hxs_31, hxs_33]
   first | apply hK21 | refine ⟨sd, hK21 _ _ ?_⟩
   refine cM hm (fun hc22 hm => ?_) (fun hc22 hm => ?_)
   ·refine Wp.seqR fun K23 hK23 => ?_
    simp only [go_sem, simprocAttr, hxs_5, hxs_25, hxs_27, hxs_29, hxs_31, hxs_33]
    first | apply hK23 | refine ⟨sd, hK23 _ _ ?_⟩
    refine Wp.ret ?_
    refine retQ_ret ?_
    cases hm
    simp only [go_sem, simprocAttr, hxs_5, hxs_25, hxs_27, hxs_29, hxs_31, hxs_33]
    try exact se3
   ·refine Wp.skip ?_
    refine hK20 _ _ ?_
    refine Wp.seqD (plan := pl [(0, none), (1, none), (2, none), (3, none), (4, none), (5, none), (6, some [1, 2, 3, 4]), (7, none), (8, some [2, 3, 4]), (9, none), (10, some [3, 4]), (11, none), (12, some [4]), (13, none), (14, some [])]) (by kernel_rfl) rfl (by kernel_rfl) fun K24 hK24 => ?_
    simp only [go_sem, simprocAttr, hxs_5, hxs_25, hxs_27, hxs_29, hxs_31, hxs_33]
    first | apply hK24 | refine ⟨sd, hK24 _ _ ?_⟩
    refine Wp.seqW fun K25 hK25 hW25 => ?_
    obtain ⟨r_35, hr_35, hm⟩ := call_elim hm
    refine Wp.seqR fun K26 hK26 => ?_
    simp only [go_sem, simprocAttr, hxs_5, hxs_25, hxs_27, hxs_29, hxs_31, hxs_33]
    try refine ⟨sd, ?_⟩
    refine Rg.callX (av := ?av27) (g := true) (fun hg => ok_log_CheckRecord (api_Record.mk r_26.1 o1_1_23 s_5 r_28.1 r_30.1 r_32.1 r_34.1) _ hr_35) (by simp only [go_sem, simprocAttr, hxs_5, hxs_25, hxs_27, hxs_29, hxs_31, hxs_33]; exact Is.mk) (by simp only [go_sem, simprocAttr, hxs_5, hxs_25, hxs_27, hxs_29, hxs_31, hxs_33]; exact Is.mk) (by simp only [go_sem, simprocAttr, hxs_5, hxs_25, hxs_27, hxs_29, hxs_31, hxs_33]; exact Is.mk) (by simp only [go_sem, simprocAttr, hxs_5, hxs_25, hxs_27, hxs_29, hxs_31, hxs_33]) (by simp only [go_sem, simprocAttr, hxs_5, hxs_25, hxs_27, hxs_29, hxs_31, hxs_33]; exact Is.mk) ?cont27
    intro hv27
    simp only [go_sem, simprocAttr, hxs_5, hxs_25, hxs_27, hxs_29, hxs_31, hxs_33]
    first | apply hK26 | refine ⟨sd, hK26 _ _ ?_⟩
    refine Wp.seqR fun K28 hK28 => ?_
    simp only [go_sem, simprocAttr, hxs_5, hxs_25, hxs_27, hxs_29, hxs_31, hxs_33]
    first | apply hK28 | refine ⟨sd, hK28 _ _ ?_⟩
    refine cM hm (fun hc29 hm => ?_) (fun hc29 hm => ?_)
    ·refine Wp.seqR fun K30 hK30 => ?_
     simp only [go_sem, simprocAttr, hxs_5, hxs_25, hxs_27, hxs_29, hxs_31, hxs_33]
     first | apply hK30 | refine ⟨sd, hK30 _ _ ?_⟩
     refine Wp.ret ?_
     refine retQ_ret ?_
     cases hm
     simp only [go_sem, simprocAttr, hxs_5, hxs_25, hxs_27, hxs_29, hxs_31, hxs_33]
     try exact se3
    ·refine Wp.skip ?_
     refine hK25 _ _ ?_
     refine Wp.seqR fun K31 hK31 => ?_
     simp only [go_sem, simprocAttr, hxs_5, hxs_25, hxs_27, hxs_29, hxs_31, hxs_33]
     first | apply hK31 | refine ⟨sd, hK31 _ _ ?_⟩
     refine Wp.ret ?_
     refine retQ_ret ?_
     cases hm
     simp only [go_sem, simprocAttr, hxs_5, hxs_25, hxs_27, hxs_29, hxs_31, hxs_33]
     try exact se3
  clear hK9 hk_24
  obtain ⟨r_36, hr_36, hm⟩ := call_elim hm
  refine Wp.seqR fun K32 hK32 => ?_
  simp only [go_sem, simprocAttr, hxs_5]
  try refine ⟨sd, ?_⟩
  refine Rg.callF (av := ?av33) (ok_log_kindWords  _ hr_36) (by simp only [go_sem, simprocAttr, hxs_5]; exact Is.mk) (by simp only [go_sem, simprocAttr, hxs_5]; exact Is.mk) (by simp only [go_sem, simprocAttr, hxs_5]) ?cont33
  intro hv33
  simp only [go_sem, simprocAttr, hxs_5]
  first | apply hK32 | refine ⟨sd, hK32 _ _ ?_⟩
  refine Wp.block ?_
  obtain ⟨k_46, hk_46, hm⟩ := forL_cont hm
  refine Wp.fact 35 fun hl_49 => ?_
  replace hl_49 : r_36.length ≤ 274877906944 := by
   simp only [go_sem, simprocAttr, List.length_map] at hl_49
   omega
  refine Wp.forL (fun i_48 s => [(2, .ptr 0 0), (4, .p (.l (List.map ecS r_2))), (5, .ptr 1 0), (35, .p (.l (List.map ecS r_36))), (36, .p (.i .i64 (r_36.length : Int))), (37, .p (.i .i64 (i_48 : Int)))]) (fun i_48 s => [.cells 30 [.p (.i .i64 0), .p (.i .i64 0), .p (.s []), .p (.i .i64 0), .p (.i .i64 0), .p (.i .i64 0), .p (.s []), .p (.i .i64 0), .p (.i .i64 0), .p (.i .i64 0), .p (.s []), .p (.i .i64 0), .p (.s [])], .cells 30 [.p (.i .i64 0), .p (.i .i64 s), .p (.s s_5), .p (.i .i64 0), .p (.i .i64 0), .p (.i .i64 0), .p (.s []), .p (.i .i64 0), .p (.i .i64 0), .p (.i .i64 0), .p (.s []), .p (.i .i64 0), .p (.s [])]]) ?_ hm ?_
  ·
   simp only [go_sem, simprocAttr, hxs_5]
   try exact se3
  clear hm
  intro i_48 o1_1_42 hii_48 hm
  try dsimp only at hm
  try dsimp only
  refine Wp.seqR fun K34 hK34 => ?_
  simp only [go_sem, simprocAttr, hxs_5]
  first | apply hK34 | refine ⟨sd, hK34 _ _ ?_⟩
  refine Wp.seqW fun K35 hK35 hW35 => ?_
  refine Wp.cond rfl ⟨⟩ (fun hc35 => ?_) (fun hc35 => ?_)
  rotate_left
  ·refine Wp.exit ?_
   have hm := hk_46 _ (forL_end hm (ge_nat (by first | exact hc35 | simpa using hc35)))
   try dsimp only at hm
   refine hW9 _ _ _ _ ?_ (hcut9 o1_1_42 hm)
   simp only [go_sem, simprocAttr, hxs_5]
   try exact se3
  have hlt35 := lt_nat (by first | exact hc35 | simpa using hc35)
  have hw35 := wrap_succ hlt35 hl_49
  obtain ⟨s_50, nx_47, hxs_50, hys_50, hnx_47, hm⟩ := forL_step hm hlt35
  replace hxs_50 := hxs_50 ecS
  refine Wp.skip ?_
  simp only [thenQ]
  refine hK35 _ _ ?_
  refine Wp.seqW fun K36 hK36 hW36 => ?_
  refine Wp.block ?_
  refine Wp.seqR fun K37 hK37 => ?_
  simp only [go_sem, simprocAttr, hxs_5, hw35, hxs_50]
  first | apply hK37 | refine ⟨sd, hK37 _ _ ?_⟩
  obtain ⟨c_51, hm⟩ := chk_elim hm
  have hr_52 := getD_enc (l := r_2) (e := ecS) (d := []) (i := 1)
  simp only [ecS, List.map_nil] at hr_52
  refine Wp.seqR fun K38 hK38 => ?_
  simp only [go_sem, simprocAttr, hxs_5, hw35, hxs_50, hr_52]
  first | apply hK38 | refine ⟨by first | exact sd | ((repeat' apply And.intro) <;> first | assumption | omega | (simp only [List.length_append, List.length_map, List.length_cons, List.length_nil, List.length_set, List.length_replicate] at c_51 ⊢; omega)), hK38 _ _ ?_⟩
  refine cM hm (fun hc39 hm => ?_) (fun hc39 hm => ?_)
  ·refine Wp.region fun K40 hK40 => ?_
   simp only [go_sem, simprocAttr, hxs_5, hw35, hxs_50]
   first | apply hK40 | refine ⟨sd, hK40 _ _ ?_⟩
   refine hK36 _ _ ?_
   refine Wp.region fun K41 hK41 => ?_
   simp only [go_sem, simprocAttr, hxs_5, hw35, hxs_50]
   first | apply hK41 | refine ⟨sd, hK41 _ _ ?_⟩
   simp only [thenQ, blockQ, ↓reduceIte]
   refine ⟨(i_48 : Int), hlt35, hnx_47 _ hm, ?_⟩
   simp only [go_sem, simprocAttr, hxs_5, hw35, hxs_50]
   try exact se3
  ·refine Wp.skip ?_
   refine hK36 _ _ ?_
   refine Wp.region fun K42 hK42 => ?_
   simp only [go_sem, simprocAttr, hxs_5, hw35, hxs_50]
   first | apply hK42 | refine ⟨sd, hK42 _ _ ?_⟩
   simp only [thenQ, blockQ, ↓reduceIte]
   refine ⟨o1_1_42, hlt35, hnx_47 _ hm, ?_⟩
   simp only [go_sem, simprocAttr, hxs_5, hw35, hxs_50]
   try exact se3
end Go.Proofs.YtmnohdgjkcjdeaaGreatDoor
