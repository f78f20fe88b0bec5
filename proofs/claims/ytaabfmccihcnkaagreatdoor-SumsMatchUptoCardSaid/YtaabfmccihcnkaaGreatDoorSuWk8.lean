/- That the code does what the models say (part 8). -/
import Derived.Test.YtaabfmccihcnkaaGreatDoorSuWk0
import Derived.Test.YtaabfmccihcnkaaGreatDoorSuWk1
import Derived.Test.YtaabfmccihcnkaaGreatDoorSuWk7
set_option linter.unusedSimpArgs false
set_option linter.unusedVariables false
open Go.Proofs Go.Shelf
namespace Go.Proofs.YtaabfmccihcnkaaGreatDoor
open Go.Vc Go.Md
set_option maxRecDepth 100000
set_option maxHeartbeats 4000000
theorem ok_disk_Quote (s_1 : Str) (z : Str) (hm : disk_Quote s_1 = some z) : Does Tryz.prog 241 [.p (.s s_1)] [] (fun r X => r = .p (.s z) ∧ X = []) := by
 unfold disk_Quote at hm
 refine Does.of_wp 0 63 [.tmp 2] Tryz.func241 rfl (by decide) rfl rfl (Nat.le_of_ble_eq_true rfl) fun B => ?_
 refine qS ?_
 obtain ⟨c_2, hm⟩ := chk_elim hm
 refine Wp.seqR fun K2 hK2 => ?_
 simp only [go_sem, simprocAttr]
 first | apply hK2 | refine ⟨by first | exact sd | ((repeat' apply And.intro) <;> first | assumption | omega | (simp only [List.length_append, List.length_map, List.length_cons, List.length_nil, List.length_set, List.length_replicate] at c_2 ⊢; omega)), hK2 _ _ ?_⟩
 obtain ⟨c_3, hm⟩ := chk_elim hm
 refine Wp.seqR fun K3 hK3 => ?_
 simp only [go_sem, simprocAttr]
 first | apply hK3 | refine ⟨by first | exact sd | ((repeat' apply And.intro) <;> first | assumption | omega | (simp only [List.length_append, List.length_map, List.length_cons, List.length_nil, List.length_set, List.length_replicate] at c_3 ⊢; omega)), hK3 _ _ ?_⟩
 refine Wp.seqW fun K4 hK4 hW4 => ?_
 obtain ⟨k_33, hk_33, hm⟩ := jp_elim hm
 have hcut4 : ∀ s, k_33 s = some z → K4 [(3, .buf 0)] [.buf 5 1 (List.map ecI_u8 s)] := by
  intro o0_32 hs
  have hm := hk_33 _ hs
  clear hs
  try dsimp only at hm
  try dsimp only
  refine hK4 _ _ ?_
  obtain ⟨c_34, hm⟩ := chk_elim hm
  refine Wp.seqR fun K5 hK5 => ?_
  simp only [go_sem, simprocAttr]
  first | apply hK5 | refine ⟨by first | exact sd | ((repeat' apply And.intro) <;> first | assumption | omega | (simp only [List.length_append, List.length_map, List.length_cons, List.length_nil, List.length_set, List.length_replicate] at c_34 ⊢; omega)), hK5 _ _ ?_⟩
  refine Wp.ret ?_
  refine retQ_ret ?_
  cases hm
  exact fse2
 clear hK4 hk_33
 refine qS ?_
 refine Wp.block ?_
 obtain ⟨k_52, hk_52, hm⟩ := forL_cont hm
 refine Wp.fact 0 fun hl_55 => ?_
 replace hl_55 : s_1.length ≤ 274877906944 := by
  simp only [go_sem, simprocAttr, List.length_map] at hl_55
  omega
 refine Wp.forL (fun i_54 s => [(0, .p (.s s_1)), (3, .buf 0), (4, .p (.i .i64 (i_54 : Int)))]) (fun i_54 s => [.buf 5 1 (List.map ecI_u8 s)]) ?_ hm ?_
 ·
  exact fse2
 clear hm
 intro i_54 o0_44 hii_54 hm
 try dsimp only at hm
 try dsimp only
 refine Wp.seqW fun K7 hK7 hW7 => ?_
 refine qS ?_
 refine Wp.cond rfl ⟨⟩ (fun hc7 => ?_) (fun hc7 => ?_)
 rotate_left
 ·refine Wp.exit ?_
  have hm := hk_52 _ (forL_end hm (ge_nat (by first | exact hc7 | simpa using hc7)))
  try dsimp only at hm
  refine hW4 _ _ _ _ ?_ (hcut4 o0_44 hm)
  exact fse2
 have hlt7 := lt_nat (by first | exact hc7 | simpa using hc7)
 have hw7 := wrap_succ hlt7 hl_55
 obtain ⟨c_56, nx_53, hxc_56, hyc_56, hnx_53, hm⟩ := forL_step hm hlt7
 clear hxc_56
 refine Wp.skip ?_
 simp only [thenQ]
 refine hK7 _ _ ?_
 refine Wp.seqW fun K9 hK9 hW9 => ?_
 refine Wp.block ?_
 refine Wp.seqR fun K10 hK10 => ?_
 simp only [go_sem, simprocAttr, hw7, hyc_56]
 first | apply hK10 | refine ⟨sd, hK10 _ _ ?_⟩
 refine Wp.block ?_
 refine Wp.seqR fun K11 hK11 => ?_
 simp only [go_sem, simprocAttr, hw7, hyc_56]
 first | apply hK11 | refine ⟨sd, hK11 _ _ ?_⟩
 refine cM hm (fun hc12 hm => ?_) (fun hc12 hm => ?_)
 ·obtain ⟨c_57, hm⟩ := chk_elim hm
  refine Wp.region fun K13 hK13 => ?_
  simp only [go_sem, simprocAttr, hw7, hyc_56]
  first | apply hK13 | refine ⟨by first | exact sd | ((repeat' apply And.intro) <;> first | assumption | omega | (simp only [List.length_append, List.length_map, List.length_cons, List.length_nil, List.length_set, List.length_replicate] at c_57 ⊢; omega)), hK13 _ _ ?_⟩
  refine hK9 _ _ ?_
  refine Wp.region fun K14 hK14 => ?_
  simp only [go_sem, simprocAttr, hw7, hyc_56]
  first | apply hK14 | refine ⟨sd, hK14 _ _ ?_⟩
  simp only [thenQ, blockQ, ↓reduceIte]
  refine ⟨o0_44 ++ [92, (c_56.toNat : Int)], hlt7, hnx_53 _ hm, ?_⟩
  simp only [go_sem, simprocAttr, hw7, hyc_56]
  try exact se2
 ·refine Wp.seqR fun K15 hK15 => ?_
  simp only [go_sem, simprocAttr, hw7, hyc_56]
  first | apply hK15 | refine ⟨sd, hK15 _ _ ?_⟩
  refine cM hm (fun hc16 hm => ?_) (fun hc16 hm => ?_)
  ·obtain ⟨c_58, hm⟩ := chk_elim hm
   refine Wp.region fun K17 hK17 => ?_
   simp only [go_sem, simprocAttr, hw7, hyc_56]
   first | apply hK17 | refine ⟨by first | exact sd | ((repeat' apply And.intro) <;> first | assumption | omega | (simp only [List.length_append, List.length_map, List.length_cons, List.length_nil, List.length_set, List.length_replicate] at c_58 ⊢; omega)), hK17 _ _ ?_⟩
   refine hK9 _ _ ?_
   refine Wp.region fun K18 hK18 => ?_
   simp only [go_sem, simprocAttr, hw7, hyc_56]
   first | apply hK18 | refine ⟨sd, hK18 _ _ ?_⟩
   simp only [thenQ, blockQ, ↓reduceIte]
   refine ⟨o0_44 ++ [92, 110], hlt7, hnx_53 _ hm, ?_⟩
   simp only [go_sem, simprocAttr, hw7, hyc_56]
   try exact se2
  ·refine Wp.seqR fun K19 hK19 => ?_
   simp only [go_sem, simprocAttr, hw7, hyc_56]
   first | apply hK19 | refine ⟨sd, hK19 _ _ ?_⟩
   refine cM hm (fun hc20 hm => ?_) (fun hc20 hm => ?_)
   ·obtain ⟨c_59, hbc_59, hxc_59, hm⟩ := idxS_elim hm
    replace hxc_59 : ((([48, 49, 50, 51, 52, 53, 54, 55, 56, 57, 97, 98, 99, 100, 101, 102] : Str).getD ((Int.fdiv (c_56.toNat : Int) (2 ^ (shI .u8 4))).toNat) 0).toNat : Int) = c_59 := hxc_59
    obtain ⟨c_60, hbc_60, hxc_60, hm⟩ := idxS_elim hm
    replace hxc_60 : ((([48, 49, 50, 51, 52, 53, 54, 55, 56, 57, 97, 98, 99, 100, 101, 102] : Str).getD ((bitsI .and .u8 (c_56.toNat : Int) 15).toNat) 0).toNat : Int) = c_60 := hxc_60
    obtain ⟨c_61, hm⟩ := chk_elim hm
    refine Wp.regD (plan := pl [(0, none), (1, none), (2, none), (3, none), (4, none), (5, none), (6, none), (7, some [0]), (8, some []), (9, none)]) (by kernel_rfl) rfl (by kernel_rfl) fun K21 hK21 => ?_
    simp only [go_sem, simprocAttr, hw7, hyc_56, hxc_59, hxc_60]
    first | apply hK21 | refine ⟨by first | exact sd | ((repeat' apply And.intro) <;> first | assumption | omega | (simp only [List.length_append, List.length_map, List.length_cons, List.length_nil, List.length_set, List.length_replicate] at c_61 ⊢; omega)), hK21 _ _ ?_⟩
    refine hK9 _ _ ?_
    refine Wp.region fun K22 hK22 => ?_
    simp only [go_sem, simprocAttr, hw7, hyc_56, hxc_59, hxc_60]
    first | apply hK22 | refine ⟨sd, hK22 _ _ ?_⟩
    simp only [thenQ, blockQ, ↓reduceIte]
    refine ⟨o0_44 ++ [92, 120, c_59, c_60], hlt7, hnx_53 _ hm, ?_⟩
    simp only [go_sem, simprocAttr, hw7, hyc_56, hxc_59, hxc_60]
    try exact se2
   ·obtain ⟨c_62, hm⟩ := chk_elim hm
    refine Wp.region fun K23 hK23 => ?_
    simp only [go_sem, simprocAttr, hw7, hyc_56]
    first | apply hK23 | refine ⟨by first | exact sd | ((repeat' apply And.intro) <;> first | assumption | omega | (simp only [List.length_append, List.length_map, List.length_cons, List.length_nil, List.length_set, List.length_replicate] at c_62 ⊢; omega)), hK23 _ _ ?_⟩
    refine hK9 _ _ ?_
    refine Wp.region fun K24 hK24 => ?_
    simp only [go_sem, simprocAttr, hw7, hyc_56]
    first | apply hK24 | refine ⟨sd, hK24 _ _ ?_⟩
    simp only [thenQ, blockQ, ↓reduceIte]
    refine ⟨o0_44 ++ [(c_56.toNat : Int)], hlt7, hnx_53 _ hm, ?_⟩
    simp only [go_sem, simprocAttr, hw7, hyc_56]
    try exact se2
theorem ok_disk_settingLine (word_1 : Str) (s_2 : api_Setting) (z : Str) (hm : disk_settingLine word_1 s_2 = some z) : Does Tryz.prog 273 [.p (.s word_1), .agg [.p (.s s_2.Key), .p (.s s_2.Value)]] [] (fun r X => r = .p (.s z) ∧ X = []) := by
 unfold disk_settingLine at hm
 refine Does.of_wp 0 16 [.tmp 4] Tryz.func273 rfl (by decide) rfl rfl (Nat.le_of_ble_eq_true rfl) fun B => ?_
 refine qS ?_
 obtain ⟨c_3, hm⟩ := chk_elim hm
 obtain ⟨c_4, hm⟩ := chk_elim hm
 obtain ⟨c_5, hm⟩ := chk_elim hm
 obtain ⟨r_6, hr_6, hm⟩ := call_elim hm
 obtain ⟨c_7, hm⟩ := chk_elim hm
 obtain ⟨c_8, hm⟩ := chk_elim hm
 refine Wp.seqD (plan := pl [(0, none), (1, none), (2, none), (3, none), (4, none), (5, none), (6, none), (7, none), (8, none), (9, none), (10, none), (11, none)]) (by kernel_rfl) rfl (by kernel_rfl) fun K2 hK2 => ?_
 simp only [go_sem, simprocAttr]
 try refine ⟨by first | exact sd | ((repeat' apply And.intro) <;> first | assumption | omega | (simp only [List.length_append, List.length_map, List.length_cons, List.length_nil, List.length_set, List.length_replicate] at c_3 c_4 c_5 c_7 c_8 ⊢; omega)), ?_⟩
 refine Dr.callF (av := ?av3) (g := true) (o := ?o3) (fun hg => ok_disk_Quote s_2.Value _ hr_6) si si si si sg si ?cont3
 simp only [go_sem, simprocAttr]
 first | apply hK2 | refine ⟨by first | exact sd | ((repeat' apply And.intro) <;> first | assumption | omega | (simp only [List.length_append, List.length_map, List.length_cons, List.length_nil, List.length_set, List.length_replicate] at c_3 c_4 c_5 c_7 c_8 ⊢; omega)), hK2 _ _ ?_⟩
 refine Wp.ret ?_
 refine retQ_ret ?_
 cases hm
 exact fse2
theorem ok_disk_fileLine (word_1 : Str) (runs_2 : Str) (f_3 : api_File) (z : Str) (hm : disk_fileLine word_1 runs_2 f_3 = some z) : Does Tryz.prog 272 [.p (.s word_1), .p (.s runs_2), .agg [.p (.s f_3.Path), .p (.s f_3.Data), .p (.b f_3.Runs)]] [] (fun r X => r = .p (.s z) ∧ X = []) := by
 unfold disk_fileLine at hm
 refine Does.of_wp 0 21 [.tmp 6] Tryz.func272 rfl (by decide) rfl rfl (Nat.le_of_ble_eq_true rfl) fun B => ?_
 refine qS ?_
 refine Wp.seqW fun K2 hK2 hW2 => ?_
 obtain ⟨k_5, hk_5, hm⟩ := jp_elim hm
 have hcut2 : ∀ s, k_5 s = some z → K2 [(0, .p (.s s)), (5, .ptr 0 0)] [.cells 38 [.p (.s f_3.Path), .p (.s f_3.Data), .p (.b f_3.Runs)]] := by
  intro word_4 hs
  have hm := hk_5 _ hs
  clear hs
  try dsimp only at hm
  try dsimp only
  refine hK2 _ _ ?_
  obtain ⟨c_6, hm⟩ := chk_elim hm
  obtain ⟨c_7, hm⟩ := chk_elim hm
  obtain ⟨c_8, hm⟩ := chk_elim hm
  obtain ⟨r_9, hr_9, hm⟩ := call_elim hm
  obtain ⟨c_10, hm⟩ := chk_elim hm
  obtain ⟨c_11, hm⟩ := chk_elim hm
  refine Wp.seqD (plan := pl [(0, none), (1, none), (2, none), (3, none), (4, none), (5, none), (6, none), (7, none), (8, none), (9, none), (10, none), (11, none)]) (by kernel_rfl) rfl (by kernel_rfl) fun K3 hK3 => ?_
  simp only [go_sem, simprocAttr]
  try refine ⟨by first | exact sd | ((repeat' apply And.intro) <;> first | assumption | omega | (simp only [List.length_append, List.length_map, List.length_cons, List.length_nil, List.length_set, List.length_replicate] at c_6 c_7 c_8 c_10 c_11 ⊢; omega)), ?_⟩
  refine Dr.callF (av := ?av4) (g := true) (o := ?o4) (fun hg => ok_disk_Quote f_3.Data _ hr_9) si si si si sg si ?cont4
  simp only [go_sem, simprocAttr]
  first | apply hK3 | refine ⟨by first | exact sd | ((repeat' apply And.intro) <;> first | assumption | omega | (simp only [List.length_append, List.length_map, List.length_cons, List.length_nil, List.length_set, List.length_replicate] at c_6 c_7 c_8 c_10 c_11 ⊢; omega)), hK3 _ _ ?_⟩
  refine Wp.ret ?_
  refine retQ_ret ?_
  cases hm
  exact fse2
 clear hK2 hk_5
 refine qS ?_
 refine cM hm (fun hc6 hm => ?_) (fun hc6 hm => ?_)
 ·refine qR ?_
  refine hW2 _ _ _ _ ?_ (hcut2 runs_2 hm)
  exact fse2
 ·refine Wp.skip ?_
  refine hW2 _ _ _ _ ?_ (hcut2 word_1 hm)
  exact fse2
theorem ok_disk_bit (b_1 : Bool) (z : Str) (hm : disk_bit b_1 = some z) : Does Tryz.prog 340 [.p (.b b_1)] [] (fun r X => r = .p (.s z) ∧ X = []) := by
 unfold disk_bit at hm
 refine Does.of_wp 0 4 [.tmp 2] Tryz.func340 rfl (by decide) rfl rfl (Nat.le_of_ble_eq_true rfl) fun B => ?_
 refine qS ?_
 refine Wp.seqW fun K2 hK2 hW2 => ?_
 refine qS ?_
 refine cM hm (fun hc4 hm => ?_) (fun hc4 hm => ?_)
 ·refine qS ?_
  refine Wp.ret ?_
  refine retQ_ret ?_
  cases hm
  exact fse2
 ·refine Wp.skip ?_
  refine hK2 _ _ ?_
  refine qS ?_
  refine Wp.ret ?_
  refine retQ_ret ?_
  cases hm
  exact fse2
theorem ok_disk_serviceLine (s_1 : api_Service) (z : Str) (hm : disk_serviceLine s_1 = some z) : Does Tryz.prog 274 [.agg [.p (.s s_1.Name), .p (.s s_1.Path), .p (.b s_1.Auto), .p (.b s_1.On)]] [] (fun r X => r = .p (.s z) ∧ X = []) := by
 unfold disk_serviceLine at hm
 refine Does.of_wp 0 21 [.tmp 2] Tryz.func274 rfl (by decide) rfl rfl (Nat.le_of_ble_eq_true rfl) fun B => ?_
 refine qS ?_
 obtain ⟨c_2, hm⟩ := chk_elim hm
 obtain ⟨c_3, hm⟩ := chk_elim hm
 obtain ⟨c_4, hm⟩ := chk_elim hm
 obtain ⟨c_5, hm⟩ := chk_elim hm
 obtain ⟨r_6, hr_6, hm⟩ := call_elim hm
 obtain ⟨c_7, hm⟩ := chk_elim hm
 obtain ⟨c_8, hm⟩ := chk_elim hm
 obtain ⟨r_9, hr_9, hm⟩ := call_elim hm
 obtain ⟨c_10, hm⟩ := chk_elim hm
 obtain ⟨c_11, hm⟩ := chk_elim hm
 refine Wp.seqD (plan := pl [(0, none), (1, none), (2, none), (3, none), (4, none), (5, none), (6, none), (7, none), (8, none), (9, none), (10, none), (11, none), (12, none), (13, none), (14, none), (15, none), (16, none), (17, none), (18, none)]) (by kernel_rfl) rfl (by kernel_rfl) fun K2 hK2 => ?_
 simp only [go_sem, simprocAttr]
 try refine ⟨by first | exact sd | ((repeat' apply And.intro) <;> first | assumption | omega | (simp only [List.length_append, List.length_map, List.length_cons, List.length_nil, List.length_set, List.length_replicate] at c_2 c_3 c_4 c_5 c_7 c_8 c_10 c_11 ⊢; omega)), ?_⟩
 refine Dr.callF (av := ?av3) (g := true) (o := ?o3) (fun hg => ok_disk_bit s_1.Auto _ hr_6) si si si si sg si ?cont3
 simp only [go_sem, simprocAttr]
 try refine ⟨by first | exact sd | ((repeat' apply And.intro) <;> first | assumption | omega | (simp only [List.length_append, List.length_map, List.length_cons, List.length_nil, List.length_set, List.length_replicate] at c_2 c_3 c_4 c_5 c_7 c_8 c_10 c_11 ⊢; omega)), ?_⟩
 refine Dr.callF (av := ?av4) (g := true) (o := ?o4) (fun hg => ok_disk_bit s_1.On _ hr_9) si si si si sg si ?cont4
 simp only [go_sem, simprocAttr]
 first | apply hK2 | refine ⟨by first | exact sd | ((repeat' apply And.intro) <;> first | assumption | omega | (simp only [List.length_append, List.length_map, List.length_cons, List.length_nil, List.length_set, List.length_replicate] at c_2 c_3 c_4 c_5 c_7 c_8 c_10 c_11 ⊢; omega)), hK2 _ _ ?_⟩
 refine Wp.ret ?_
 refine retQ_ret ?_
 cases hm
 exact fse2
theorem ok_disk_machineText (m_1 : api_Machine) (z : Str) (hm : disk_machineText m_1 = some z) : Does Tryz.prog 233 [.agg [.p (.l (List.map enc_api_Setting m_1.Facts)), .p (.l (List.map enc_api_File m_1.Files)), .p (.l (List.map enc_api_Setting m_1.Settings)), .p (.l (List.map enc_api_Service m_1.Services))]] [] (fun r X => r = .p (.s z) ∧ X = []) := by
 unfold disk_machineText at hm
 refine Does.of_wp 0 57 [.tmp 2] Tryz.func233 rfl (by decide) rfl rfl (Nat.le_of_ble_eq_true rfl) fun B => ?_
 refine qS ?_
 refine qS ?_
 refine Wp.adoptB 1 5 rfl ?_
 simp only [go_sem, simprocAttr]
 refine Wp.seqW fun K3 hK3 hW3 => ?_
 obtain ⟨k_19, hk_19, hm⟩ := jp_elim hm
 have hcut3 : ∀ s, k_19 s = some z → K3 [(1, .ptr 0 0), (3, .ptr 1 0)] [.cells 26 [.p (.l (List.map enc_api_Setting m_1.Facts)), .p (.l (List.map enc_api_File m_1.Files)), .p (.l (List.map enc_api_Setting m_1.Settings)), .p (.l (List.map enc_api_Service m_1.Services))], .cells 170 [.np 1, .buf 2], .sb 5 s] := by
  intro o2_18 hs
  have hm := hk_19 _ hs
  clear hs
  try dsimp only at hm
  try dsimp only
  refine hK3 _ _ ?_
  refine Wp.seqW fun K4 hK4 hW4 => ?_
  obtain ⟨k_37, hk_37, hm⟩ := jp_elim hm
  have hcut4 : ∀ s, k_37 s = some z → K4 [(1, .ptr 0 0), (3, .ptr 1 0)] [.cells 26 [.p (.l (List.map enc_api_Setting m_1.Facts)), .p (.l (List.map enc_api_File m_1.Files)), .p (.l (List.map enc_api_Setting m_1.Settings)), .p (.l (List.map enc_api_Service m_1.Services))], .cells 170 [.np 1, .buf 2], .sb 5 s] := by
   intro o2_36 hs
   have hm := hk_37 _ hs
   clear hs
   try dsimp only at hm
   try dsimp only
   refine hK4 _ _ ?_
   refine Wp.seqW fun K5 hK5 hW5 => ?_
   obtain ⟨k_55, hk_55, hm⟩ := jp_elim hm
   have hcut5 : ∀ s, k_55 s = some z → K5 [(1, .ptr 0 0), (3, .ptr 1 0)] [.cells 26 [.p (.l (List.map enc_api_Setting m_1.Facts)), .p (.l (List.map enc_api_File m_1.Files)), .p (.l (List.map enc_api_Setting m_1.Settings)), .p (.l (List.map enc_api_Service m_1.Services))], .cells 170 [.np 1, .buf 2], .sb 5 s] := by
    intro o2_54 hs
    have hm := hk_55 _ hs
    clear hs
    try dsimp only at hm
    try dsimp only
    refine hK5 _ _ ?_
    refine Wp.seqW fun K6 hK6 hW6 => ?_
    obtain ⟨k_73, hk_73, hm⟩ := jp_elim hm
    have hcut6 : ∀ s, k_73 s = some z → K6 [(3, .ptr 1 0)] [.cells 26 [.top, .top, .top, .top], .cells 170 [.np 1, .buf 2], .sb 5 s] := by
     intro o2_72 hs
     have hm := hk_73 _ hs
     clear hs
     try dsimp only at hm
     try dsimp only
     refine hK6 _ _ ?_
     obtain ⟨r_74, hr_74, hm⟩ := call_elim hm
     refine Wp.seqR fun K7 hK7 => ?_
     simp only [go_sem, simprocAttr]
     try refine ⟨sd, ?_⟩
     refine Rg.callO (av := ?av8) [1, 2] (ok_strings_Builder_String_i1 o2_72 _ hr_74) si si si sg sg ?cont8
     rintro _ _ ⟨rfl, rfl⟩ hv8
     simp only [go_sem, simprocAttr]
     first | apply hK7 | refine ⟨sd, hK7 _ _ ?_⟩
     refine Wp.ret ?_
     refine retQ_ret ?_
     cases hm
     exact fse2
    clear hK6 hk_73
    refine qS ?_
    refine Wp.block ?_
    obtain ⟨k_84, hk_84, hm⟩ := forL_cont hm
    refine Wp.fact 46 fun hl_87 => ?_
    replace hl_87 : m_1.Services.length ≤ 274877906944 := by
     simp only [go_sem, simprocAttr, List.length_map] at hl_87
     omega
    refine Wp.forL (fun i_86 s => [(3, .ptr 1 0), (46, .p (.l (List.map enc_api_Service m_1.Services))), (47, .p (.i .i64 (m_1.Services.length : Int))), (48, .p (.i .i64 (i_86 : Int)))]) (fun i_86 s => [.cells 26 [.p (.l (List.map enc_api_Setting m_1.Facts)), .p (.l (List.map enc_api_File m_1.Files)), .p (.l (List.map enc_api_Setting m_1.Settings)), .p (.l (List.map enc_api_Service m_1.Services))], .cells 170 [.np 1, .buf 2], .sb 5 s]) ?_ hm ?_
    ·
     exact fse2
    clear hm
    intro i_86 o2_80 hii_86 hm
    try dsimp only at hm
    try dsimp only
    refine qS ?_
    refine Wp.seqW fun K11 hK11 hW11 => ?_
    refine Wp.cond rfl ⟨⟩ (fun hc11 => ?_) (fun hc11 => ?_)
    rotate_left
    ·refine Wp.exit ?_
     have hm := hk_84 _ (forL_end hm (ge_nat (by first | exact hc11 | simpa using hc11)))
     try dsimp only at hm
     refine hW6 _ _ _ _ ?_ (hcut6 o2_80 hm)
     exact fse2
    have hlt11 := lt_nat (by first | exact hc11 | simpa using hc11)
    have hw11 := wrap_succ hlt11 hl_87
    obtain ⟨s_88, nx_85, hxs_88, hys_88, hnx_85, hm⟩ := forL_step hm hlt11
    replace hxs_88 := hxs_88 enc_api_Service
    refine Wp.skip ?_
    simp only [thenQ]
    refine hK11 _ _ ?_
    refine Wp.seqW fun K12 hK12 hW12 => ?_
    refine Wp.block ?_
    refine Wp.seqR fun K13 hK13 => ?_
    simp only [go_sem, simprocAttr, hw11, hxs_88]
    first | apply hK13 | refine ⟨sd, hK13 _ _ ?_⟩
    obtain ⟨r_89, hr_89, hm⟩ := call_elim hm
    obtain ⟨r_90, hr_90, hm⟩ := call_elim hm
    refine Wp.region fun K14 hK14 => ?_
    simp only [go_sem, simprocAttr, hw11, hxs_88]
    try refine ⟨sd, ?_⟩
    refine Rg.callX (av := ?av15) (g := true) (fun hg => ok_disk_serviceLine s_88 _ hr_89) (by simp only [go_sem, simprocAttr, hw11, hxs_88]; exact Is.mk) (by simp only [go_sem, simprocAttr, hw11, hxs_88]; exact Is.mk) (by simp only [go_sem, simprocAttr, hw11, hxs_88]; exact Is.mk) (by simp only [go_sem, simprocAttr, hw11, hxs_88]) (by simp only [go_sem, simprocAttr, hw11, hxs_88]; exact Is.mk) ?cont15
    intro hv15
    simp only [go_sem, simprocAttr, hw11, hxs_88]
    try refine ⟨sd, ?_⟩
    refine Rg.callO (av := ?av16) [1, 2] (ok_strings_Builder_WriteString_i1 r_89 o2_80 _ hr_90) (by simp only [go_sem, simprocAttr, hw11, hxs_88]; exact Is.mk) (by simp only [go_sem, simprocAttr, hw11, hxs_88]; exact Is.mk) (by simp only [go_sem, simprocAttr, hw11, hxs_88]; exact Is.mk) (by simp only [go_sem, simprocAttr, hw11, hxs_88]) (by simp only [go_sem, simprocAttr, hw11, hxs_88]) ?cont16
    rintro _ _ ⟨rfl, rfl⟩ hv16
    simp only [go_sem, simprocAttr, hw11, hxs_88]
    first | apply hK14 | refine ⟨sd, hK14 _ _ ?_⟩
    refine hK12 _ _ ?_
    refine Wp.region fun K17 hK17 => ?_
    simp only [go_sem, simprocAttr, hw11, hxs_88]
    first | apply hK17 | refine ⟨sd, hK17 _ _ ?_⟩
    simp only [thenQ, blockQ, ↓reduceIte]
    refine ⟨r_90.2, hlt11, hnx_85 _ hm, ?_⟩
    simp only [go_sem, simprocAttr, hw11, hxs_88]
    try exact se2
   clear hK5 hk_55
   refine qS ?_
   refine Wp.block ?_
   obtain ⟨k_100, hk_100, hm⟩ := forL_cont hm
   refine Wp.fact 35 fun hl_103 => ?_
   replace hl_103 : m_1.Settings.length ≤ 274877906944 := by
    simp only [go_sem, simprocAttr, List.length_map] at hl_103
    omega
   refine Wp.forL (fun i_102 s => [(1, .ptr 0 0), (3, .ptr 1 0), (35, .p (.l (List.map enc_api_Setting m_1.Settings))), (36, .p (.i .i64 (m_1.Settings.length : Int))), (37, .p (.i .i64 (i_102 : Int)))]) (fun i_102 s => [.cells 26 [.p (.l (List.map enc_api_Setting m_1.Facts)), .p (.l (List.map enc_api_File m_1.Files)), .p (.l (List.map enc_api_Setting m_1.Settings)), .p (.l (List.map enc_api_Service m_1.Services))], .cells 170 [.np 1, .buf 2], .sb 5 s]) ?_ hm ?_
   ·
    exact fse2
   clear hm
   intro i_102 o2_96 hii_102 hm
   try dsimp only at hm
   try dsimp only
   refine qS ?_
   refine Wp.seqW fun K20 hK20 hW20 => ?_
   refine Wp.cond rfl ⟨⟩ (fun hc20 => ?_) (fun hc20 => ?_)
   rotate_left
   ·refine Wp.exit ?_
    have hm := hk_100 _ (forL_end hm (ge_nat (by first | exact hc20 | simpa using hc20)))
    try dsimp only at hm
    refine hW5 _ _ _ _ ?_ (hcut5 o2_96 hm)
    exact fse2
   have hlt20 := lt_nat (by first | exact hc20 | simpa using hc20)
   have hw20 := wrap_succ hlt20 hl_103
   obtain ⟨s_104, nx_101, hxs_104, hys_104, hnx_101, hm⟩ := forL_step hm hlt20
   replace hxs_104 := hxs_104 enc_api_Setting
   refine Wp.skip ?_
   simp only [thenQ]
   refine hK20 _ _ ?_
   refine Wp.seqW fun K21 hK21 hW21 => ?_
   refine Wp.block ?_
   refine Wp.seqR fun K22 hK22 => ?_
   simp only [go_sem, simprocAttr, hw20, hxs_104]
   first | apply hK22 | refine ⟨sd, hK22 _ _ ?_⟩
   obtain ⟨r_105, hr_105, hm⟩ := call_elim hm
   obtain ⟨r_106, hr_106, hm⟩ := call_elim hm
   refine Wp.region fun K23 hK23 => ?_
   simp only [go_sem, simprocAttr, hw20, hxs_104]
   try refine ⟨sd, ?_⟩
   refine Rg.callX (av := ?av24) (g := true) (fun hg => ok_disk_settingLine ([115, 101, 116] : Str) s_104 _ hr_105) (by simp only [go_sem, simprocAttr, hw20, hxs_104]; exact Is.mk) (by simp only [go_sem, simprocAttr, hw20, hxs_104]; exact Is.mk) (by simp only [go_sem, simprocAttr, hw20, hxs_104]; exact Is.mk) (by simp only [go_sem, simprocAttr, hw20, hxs_104]) (by simp only [go_sem, simprocAttr, hw20, hxs_104]; exact Is.mk) ?cont24
   intro hv24
   simp only [go_sem, simprocAttr, hw20, hxs_104]
   try refine ⟨sd, ?_⟩
   refine Rg.callO (av := ?av25) [1, 2] (ok_strings_Builder_WriteString_i1 r_105 o2_96 _ hr_106) (by simp only [go_sem, simprocAttr, hw20, hxs_104]; exact Is.mk) (by simp only [go_sem, simprocAttr, hw20, hxs_104]; exact Is.mk) (by simp only [go_sem, simprocAttr, hw20, hxs_104]; exact Is.mk) (by simp only [go_sem, simprocAttr, hw20, hxs_104]) (by simp only [go_sem, simprocAttr, hw20, hxs_104]) ?cont25
   rintro _ _ ⟨rfl, rfl⟩ hv25
   simp only [go_sem, simprocAttr, hw20, hxs_104]
   first | apply hK23 | refine ⟨sd, hK23 _ _ ?_⟩
   refine hK21 _ _ ?_
   refine Wp.region fun K26 hK26 => ?_
   simp only [go_sem, simprocAttr, hw20, hxs_104]
   first | apply hK26 | refine ⟨sd, hK26 _ _ ?_⟩
   simp only [thenQ, blockQ, ↓reduceIte]
   refine ⟨r_106.2, hlt20, hnx_101 _ hm, ?_⟩
   simp only [go_sem, simprocAttr, hw20, hxs_104]
   try exact se2
  clear hK4 hk_37
  refine qS ?_
  refine Wp.block ?_
  obtain ⟨k_116, hk_116, hm⟩ := forL_cont hm
  refine Wp.fact 24 fun hl_119 => ?_
  replace hl_119 : m_1.Files.length ≤ 274877906944 := by
   simp only [go_sem, simprocAttr, List.length_map] at hl_119
   omega
  refine Wp.forL (fun i_118 s => [(1, .ptr 0 0), (3, .ptr 1 0), (24, .p (.l (List.map enc_api_File m_1.Files))), (25, .p (.i .i64 (m_1.Files.length : Int))), (26, .p (.i .i64 (i_118 : Int)))]) (fun i_118 s => [.cells 26 [.p (.l (List.map enc_api_Setting m_1.Facts)), .p (.l (List.map enc_api_File m_1.Files)), .p (.l (List.map enc_api_Setting m_1.Settings)), .p (.l (List.map enc_api_Service m_1.Services))], .cells 170 [.np 1, .buf 2], .sb 5 s]) ?_ hm ?_
  ·
   exact fse2
  clear hm
  intro i_118 o2_112 hii_118 hm
  try dsimp only at hm
  try dsimp only
  refine qS ?_
  refine Wp.seqW fun K29 hK29 hW29 => ?_
  refine Wp.cond rfl ⟨⟩ (fun hc29 => ?_) (fun hc29 => ?_)
  rotate_left
  ·refine Wp.exit ?_
   have hm := hk_116 _ (forL_end hm (ge_nat (by first | exact hc29 | simpa using hc29)))
   try dsimp only at hm
   refine hW4 _ _ _ _ ?_ (hcut4 o2_112 hm)
   exact fse2
  have hlt29 := lt_nat (by first | exact hc29 | simpa using hc29)
  have hw29 := wrap_succ hlt29 hl_119
  obtain ⟨f_120, nx_117, hxf_120, hyf_120, hnx_117, hm⟩ := forL_step hm hlt29
  replace hxf_120 := hxf_120 enc_api_File
  refine Wp.skip ?_
  simp only [thenQ]
  refine hK29 _ _ ?_
  refine Wp.seqW fun K30 hK30 hW30 => ?_
  refine Wp.block ?_
  refine Wp.seqR fun K31 hK31 => ?_
  simp only [go_sem, simprocAttr, hw29, hxf_120]
  first | apply hK31 | refine ⟨sd, hK31 _ _ ?_⟩
  obtain ⟨r_121, hr_121, hm⟩ := call_elim hm
  obtain ⟨r_122, hr_122, hm⟩ := call_elim hm
  refine Wp.region fun K32 hK32 => ?_
  simp only [go_sem, simprocAttr, hw29, hxf_120]
  try refine ⟨sd, ?_⟩
  refine Rg.callX (av := ?av33) (g := true) (fun hg => ok_disk_fileLine ([102, 105, 108, 101] : Str) ([114, 117, 110] : Str) f_120 _ hr_121) (by simp only [go_sem, simprocAttr, hw29, hxf_120]; exact Is.mk) (by simp only [go_sem, simprocAttr, hw29, hxf_120]; exact Is.mk) (by simp only [go_sem, simprocAttr, hw29, hxf_120]; exact Is.mk) (by simp only [go_sem, simprocAttr, hw29, hxf_120]) (by simp only [go_sem, simprocAttr, hw29, hxf_120]; exact Is.mk) ?cont33
  intro hv33
  simp only [go_sem, simprocAttr, hw29, hxf_120]
  try refine ⟨sd, ?_⟩
  refine Rg.callO (av := ?av34) [1, 2] (ok_strings_Builder_WriteString_i1 r_121 o2_112 _ hr_122) (by simp only [go_sem, simprocAttr, hw29, hxf_120]; exact Is.mk) (by simp only [go_sem, simprocAttr, hw29, hxf_120]; exact Is.mk) (by simp only [go_sem, simprocAttr, hw29, hxf_120]; exact Is.mk) (by simp only [go_sem, simprocAttr, hw29, hxf_120]) (by simp only [go_sem, simprocAttr, hw29, hxf_120]) ?cont34
  rintro _ _ ⟨rfl, rfl⟩ hv34
  simp only [go_sem, simprocAttr, hw29, hxf_120]
  first | apply hK32 | refine ⟨sd, hK32 _ _ ?_⟩
  refine hK30 _ _ ?_
  refine Wp.region fun K35 hK35 => ?_
  simp only [go_sem, simprocAttr, hw29, hxf_120]
  first | apply hK35 | refine ⟨sd, hK35 _ _ ?_⟩
  simp only [thenQ, blockQ, ↓reduceIte]
  refine ⟨r_122.2, hlt29, hnx_117 _ hm, ?_⟩
  simp only [go_sem, simprocAttr, hw29, hxf_120]
  try exact se2
 clear hK3 hk_19
 refine qS ?_
 refine Wp.block ?_
 obtain ⟨k_132, hk_132, hm⟩ := forL_cont hm
 refine Wp.fact 13 fun hl_135 => ?_
 replace hl_135 : m_1.Facts.length ≤ 274877906944 := by
  simp only [go_sem, simprocAttr, List.length_map] at hl_135
  omega
 refine Wp.forL (fun i_134 s => [(1, .ptr 0 0), (3, .ptr 1 0), (13, .p (.l (List.map enc_api_Setting m_1.Facts))), (14, .p (.i .i64 (m_1.Facts.length : Int))), (15, .p (.i .i64 (i_134 : Int)))]) (fun i_134 s => [.cells 26 [.p (.l (List.map enc_api_Setting m_1.Facts)), .p (.l (List.map enc_api_File m_1.Files)), .p (.l (List.map enc_api_Setting m_1.Settings)), .p (.l (List.map enc_api_Service m_1.Services))], .cells 170 [.np 1, .buf 2], .sb 5 s]) ?_ hm ?_
 ·
  exact fse2
 clear hm
 intro i_134 o2_128 hii_134 hm
 try dsimp only at hm
 try dsimp only
 refine qS ?_
 refine Wp.seqW fun K38 hK38 hW38 => ?_
 refine Wp.cond rfl ⟨⟩ (fun hc38 => ?_) (fun hc38 => ?_)
 rotate_left
 ·refine Wp.exit ?_
  have hm := hk_132 _ (forL_end hm (ge_nat (by first | exact hc38 | simpa using hc38)))
  try dsimp only at hm
  refine hW3 _ _ _ _ ?_ (hcut3 o2_128 hm)
  exact fse2
 have hlt38 := lt_nat (by first | exact hc38 | simpa using hc38)
 have hw38 := wrap_succ hlt38 hl_135
 obtain ⟨s_136, nx_133, hxs_136, hys_136, hnx_133, hm⟩ := forL_step hm hlt38
 replace hxs_136 := hxs_136 enc_api_Setting
 refine Wp.skip ?_
 simp only [thenQ]
 refine hK38 _ _ ?_
 refine Wp.seqW fun K39 hK39 hW39 => ?_
 refine Wp.block ?_
 refine Wp.seqR fun K40 hK40 => ?_
 simp only [go_sem, simprocAttr, hw38, hxs_136]
 first | apply hK40 | refine ⟨sd, hK40 _ _ ?_⟩
 obtain ⟨r_137, hr_137, hm⟩ := call_elim hm
 obtain ⟨r_138, hr_138, hm⟩ := call_elim hm
 refine Wp.region fun K41 hK41 => ?_
 simp only [go_sem, simprocAttr, hw38, hxs_136]
 try refine ⟨sd, ?_⟩
 refine Rg.callX (av := ?av42) (g := true) (fun hg => ok_disk_settingLine ([102, 97, 99, 116] : Str) s_136 _ hr_137) (by simp only [go_sem, simprocAttr, hw38, hxs_136]; exact Is.mk) (by simp only [go_sem, simprocAttr, hw38, hxs_136]; exact Is.mk) (by simp only [go_sem, simprocAttr, hw38, hxs_136]; exact Is.mk) (by simp only [go_sem, simprocAttr, hw38, hxs_136]) (by simp only [go_sem, simprocAttr, hw38, hxs_136]; exact Is.mk) ?cont42
 intro hv42
 simp only [go_sem, simprocAttr, hw38, hxs_136]
 try refine ⟨sd, ?_⟩
 refine Rg.callO (av := ?av43) [1, 2] (ok_strings_Builder_WriteString_i1 r_137 o2_128 _ hr_138) (by simp only [go_sem, simprocAttr, hw38, hxs_136]; exact Is.mk) (by simp only [go_sem, simprocAttr, hw38, hxs_136]; exact Is.mk) (by simp only [go_sem, simprocAttr, hw38, hxs_136]; exact Is.mk) (by simp only [go_sem, simprocAttr, hw38, hxs_136]) (by simp only [go_sem, simprocAttr, hw38, hxs_136]) ?cont43
 rintro _ _ ⟨rfl, rfl⟩ hv43
 simp only [go_sem, simprocAttr, hw38, hxs_136]
 first | apply hK41 | refine ⟨sd, hK41 _ _ ?_⟩
 refine hK39 _ _ ?_
 refine Wp.region fun K44 hK44 => ?_
 simp only [go_sem, simprocAttr, hw38, hxs_136]
 first | apply hK44 | refine ⟨sd, hK44 _ _ ?_⟩
 simp only [thenQ, blockQ, ↓reduceIte]
 refine ⟨r_138.2, hlt38, hnx_133 _ hm, ?_⟩
 simp only [go_sem, simprocAttr, hw38, hxs_136]
 try exact se2
theorem ok_disk_sized (s_1 : Str) (z : Str × Int) (hm : disk_sized s_1 = some z) : Does Tryz.prog 232 [.p (.s s_1)] [] (fun r X => r = .tup [.p (.s z.1), .p (.i .i64 z.2)] ∧ X = []) := by
 unfold disk_sized at hm
 refine Does.of_wp 0 8 [.tmp 2, .tmp 3] Tryz.func232 rfl (by decide) rfl rfl (Nat.le_of_ble_eq_true rfl) fun B => ?_
 refine qS ?_
 refine Wp.seqW fun K2 hK2 hW2 => ?_
 refine qS ?_
 refine cM hm (fun hc4 hm => ?_) (fun hc4 hm => ?_)
 ·refine qS ?_
  refine Wp.ret ?_
  refine retQ_ret ?_
  cases hm
  exact fse2
 ·refine Wp.skip ?_
  refine hK2 _ _ ?_
  refine qS ?_
  refine Wp.ret ?_
  refine retQ_ret ?_
  cases hm
  exact fse2
theorem ok_disk_Print (m_1 : api_Machine) (z : Str × Int) (hm : disk_Print m_1 = some z) : Does Tryz.prog 114 [.agg [.p (.l (List.map enc_api_Setting m_1.Facts)), .p (.l (List.map enc_api_File m_1.Files)), .p (.l (List.map enc_api_Setting m_1.Settings)), .p (.l (List.map enc_api_Service m_1.Services))]] [] (fun r X => r = .tup [.p (.s z.1), .p (.i .i64 z.2)] ∧ X = []) := by
 unfold disk_Print at hm
 refine Does.of_wp 0 15 [.tmp 2, .tmp 3] Tryz.func114 rfl (by decide) rfl rfl (Nat.le_of_ble_eq_true rfl) fun B => ?_
 refine qS ?_
 refine Wp.seqW fun K2 hK2 hW2 => ?_
 obtain ⟨r_2, hr_2, hm⟩ := call_elim hm
 refine Wp.seqR fun K3 hK3 => ?_
 simp only [go_sem, simprocAttr]
 try refine ⟨sd, ?_⟩
 refine Rg.callX (av := ?av4) (g := true) (fun hg => ok_disk_Check m_1 _ hr_2) si si si sg si ?cont4
 intro hv4
 simp only [go_sem, simprocAttr]
 first | apply hK3 | refine ⟨sd, hK3 _ _ ?_⟩
 refine qS ?_
 refine cM hm (fun hc6 hm => ?_) (fun hc6 hm => ?_)
 ·refine qS ?_
  refine Wp.ret ?_
  refine retQ_ret ?_
  cases hm
  exact fse2
 ·refine Wp.skip ?_
  refine hK2 _ _ ?_
  obtain ⟨r_3, hr_3, hm⟩ := call_elim hm
  obtain ⟨r_4, hr_4, hm⟩ := call_elim hm
  refine Wp.seqR fun K8 hK8 => ?_
  simp only [go_sem, simprocAttr]
  try refine ⟨sd, ?_⟩
  refine Rg.callX (av := ?av9) (g := true) (fun hg => ok_disk_machineText m_1 _ hr_3) si si si sg si ?cont9
  intro hv9
  simp only [go_sem, simprocAttr]
  try refine ⟨sd, ?_⟩
  refine Rg.callX (av := ?av10) (g := true) (fun hg => ok_disk_sized r_3 _ hr_4) si si si sg si ?cont10
  intro hv10
  simp only [go_sem, simprocAttr]
  first | apply hK8 | refine ⟨sd, hK8 _ _ ?_⟩
  refine Wp.ret ?_
  refine retQ_ret ?_
  cases hm
  exact fse2
theorem ok_disk_Sum (m_1 : api_Machine) (z : Str × Int) (hm : disk_Sum m_1 = some z) : Does Tryz.prog 35 [.agg [.p (.l (List.map enc_api_Setting m_1.Facts)), .p (.l (List.map enc_api_File m_1.Files)), .p (.l (List.map enc_api_Setting m_1.Settings)), .p (.l (List.map enc_api_Service m_1.Services))]] [] (fun r X => r = .tup [.p (.s z.1), .p (.i .i64 z.2)] ∧ X = []) := by
 unfold disk_Sum at hm
 refine Does.of_wp 0 16 [.tmp 2, .tmp 3] Tryz.func35 rfl (by decide) rfl rfl (Nat.le_of_ble_eq_true rfl) fun B => ?_
 refine qS ?_
 obtain ⟨r_2, hr_2, hm⟩ := call_elim hm
 refine Wp.seqR fun K2 hK2 => ?_
 simp only [go_sem, simprocAttr]
 try refine ⟨sd, ?_⟩
 refine Rg.callX (av := ?av3) (g := true) (fun hg => ok_disk_Print m_1 _ hr_2) si si si sg si ?cont3
 intro hv3
 simp only [go_sem, simprocAttr]
 first | apply hK2 | refine ⟨sd, hK2 _ _ ?_⟩
 refine Wp.seqW fun K4 hK4 hW4 => ?_
 refine qS ?_
 refine cM hm (fun hc6 hm => ?_) (fun hc6 hm => ?_)
 ·refine qS ?_
  refine Wp.ret ?_
  refine retQ_ret ?_
  cases hm
  exact fse2
 ·refine Wp.skip ?_
  refine hK4 _ _ ?_
  obtain ⟨r_3, hr_3, hm⟩ := call_elim hm
  refine Wp.seqR fun K8 hK8 => ?_
  simp only [go_sem, simprocAttr]
  try refine ⟨sd, ?_⟩
  refine Rg.callX (av := ?av9) (g := true) (fun hg => ok_disk_SumOf r_2.1 _ hr_3) si si si sg si ?cont9
  intro hv9
  simp only [go_sem, simprocAttr]
  first | apply hK8 | refine ⟨sd, hK8 _ _ ?_⟩
  refine Wp.ret ?_
  refine retQ_ret ?_
  cases hm
  exact fse2
theorem ok_disk_Size (m_1 : api_Machine) (z : Int × Int) (hm : disk_Size m_1 = some z) : Does Tryz.prog 36 [.agg [.p (.l (List.map enc_api_Setting m_1.Facts)), .p (.l (List.map enc_api_File m_1.Files)), .p (.l (List.map enc_api_Setting m_1.Settings)), .p (.l (List.map enc_api_Service m_1.Services))]] [] (fun r X => r = .tup [.p (.i .i64 z.1), .p (.i .i64 z.2)] ∧ X = []) := by
 unfold disk_Size at hm
 refine Does.of_wp 0 27 [.tmp 2, .tmp 3] Tryz.func36 rfl (by decide) rfl rfl (Nat.le_of_ble_eq_true rfl) fun B => ?_
 refine qS ?_
 refine Wp.seqW fun K2 hK2 hW2 => ?_
 obtain ⟨r_2, hr_2, hm⟩ := call_elim hm
 refine Wp.seqR fun K3 hK3 => ?_
 simp only [go_sem, simprocAttr]
 try refine ⟨sd, ?_⟩
 refine Rg.callX (av := ?av4) (g := true) (fun hg => ok_disk_Check m_1 _ hr_2) si si si sg si ?cont4
 intro hv4
 simp only [go_sem, simprocAttr]
 first | apply hK3 | refine ⟨sd, hK3 _ _ ?_⟩
 refine qS ?_
 refine cM hm (fun hc6 hm => ?_) (fun hc6 hm => ?_)
 ·refine qS ?_
  refine Wp.ret ?_
  refine retQ_ret ?_
  cases hm
  exact fse2
 ·refine Wp.skip ?_
  refine hK2 _ _ ?_
  refine qS ?_
  refine Wp.seqW fun K9 hK9 hW9 => ?_
  obtain ⟨k_12, hk_12, hm⟩ := jp_elim hm
  have hcut9 : ∀ s, k_12 s = some z → K9 [(5, .p (.i .i64 s))] [] := by
   intro n_11 hs
   have hm := hk_12 _ hs
   clear hs
   try dsimp only at hm
   try dsimp only
   refine hK9 _ _ ?_
   refine qS ?_
   refine Wp.ret ?_
   refine retQ_ret ?_
   cases hm
   exact fse2
  clear hK9 hk_12
  refine qS ?_
  refine Wp.block ?_
  obtain ⟨k_16, hk_16, hm⟩ := forL_cont hm
  refine Wp.fact 14 fun hl_19 => ?_
  replace hl_19 : m_1.Files.length ≤ 274877906944 := by
   simp only [go_sem, simprocAttr, List.length_map] at hl_19
   omega
  refine Wp.forL (fun i_18 s => [(5, .p (.i .i64 s)), (14, .p (.l (List.map enc_api_File m_1.Files))), (15, .p (.i .i64 (m_1.Files.length : Int))), (16, .p (.i .i64 (i_18 : Int)))]) (fun i_18 s => [.cells 26 [.p (.l (List.map enc_api_Setting m_1.Facts)), .p (.l (List.map enc_api_File m_1.Files)), .p (.l (List.map enc_api_Setting m_1.Settings)), .p (.l (List.map enc_api_Service m_1.Services))]]) ?_ hm ?_
  ·
   exact fse2
  clear hm
  intro i_18 n_13 hii_18 hm
  try dsimp only at hm
  try dsimp only
  refine qS ?_
  refine Wp.seqW fun K13 hK13 hW13 => ?_
  refine Wp.cond rfl ⟨⟩ (fun hc13 => ?_) (fun hc13 => ?_)
  rotate_left
  ·refine Wp.exit ?_
   have hm := hk_16 _ (forL_end hm (ge_nat (by first | exact hc13 | simpa using hc13)))
   try dsimp only at hm
   refine hW9 _ _ _ _ ?_ (hcut9 n_13 hm)
   exact fse2
  have hlt13 := lt_nat (by first | exact hc13 | simpa using hc13)
  have hw13 := wrap_succ hlt13 hl_19
  obtain ⟨f_20, nx_17, hxf_20, hyf_20, hnx_17, hm⟩ := forL_step hm hlt13
  replace hxf_20 := hxf_20 enc_api_File
  refine Wp.skip ?_
  simp only [thenQ]
  refine hK13 _ _ ?_
  refine Wp.seqW fun K14 hK14 hW14 => ?_
  refine Wp.block ?_
  refine Wp.seqR fun K15 hK15 => ?_
  simp only [go_sem, simprocAttr, hw13, hxf_20]
  first | apply hK15 | refine ⟨sd, hK15 _ _ ?_⟩
  refine Wp.region fun K16 hK16 => ?_
  simp only [go_sem, simprocAttr, hw13, hxf_20]
  first | apply hK16 | refine ⟨sd, hK16 _ _ ?_⟩
  refine hK14 _ _ ?_
  refine Wp.region fun K17 hK17 => ?_
  simp only [go_sem, simprocAttr, hw13, hxf_20]
  first | apply hK17 | refine ⟨sd, hK17 _ _ ?_⟩
  simp only [thenQ, blockQ, ↓reduceIte]
  refine ⟨IntKind.i64.wrap (n_13 + (f_20.Data.length : Int)), hlt13, hnx_17 _ hm, ?_⟩
  simp only [go_sem, simprocAttr, hw13, hxf_20]
  try exact se2
theorem ok_slices_Clone_api_Setting_api_Setting_new_i2 (s_1 : List api_Setting) (z : List api_Setting) (hm : slices_Clone_api_Setting_api_Setting_new_i2 s_1 = some z) : Does Tryz.prog 211 [.p (.l (List.map enc_api_Setting s_1))] [] (fun r X => r = .buf 0 ∧ X = [.buf 40 2 (List.map enc_api_Setting z)]) := by
 unfold slices_Clone_api_Setting_api_Setting_new_i2 at hm
 refine Does.of_wp 1 8 [.tmp 2] Tryz.func211 rfl (by decide) rfl rfl (Nat.le_of_ble_eq_true rfl) fun B => ?_
 refine qS ?_
 refine Wp.seqW fun K2 hK2 hW2 => ?_
 refine Wp.seqR fun K3 hK3 => ?_
 simp only [go_sem, simprocAttr]
 try refine ⟨sd, ?_⟩
 refine Rg.isnil (rows := ?rows4) (e := ?e4) (esz := ?esz4) (eb := ?eb4) (ez := ?ez4) Is.mk Is.mk sg sg si si ?cont4
 intro b_5 hb_6
 replace hm := anyOf_elim hm b_5 (fun h => List.map_eq_nil_iff.1 (hb_6 h))
 try dsimp only at hm
 simp only [go_sem, simprocAttr]
 first | apply hK3 | refine ⟨sd, hK3 _ _ ?_⟩
 refine cM hm (fun hc5 hm => ?_) (fun hc5 hm => ?_)
 ·refine qS ?_
  refine Wp.adopt 2 40 2 rfl ?_
  simp only [go_sem, simprocAttr]
  refine Wp.ret ?_
  refine retQ_ret ?_
  cases hm
  exact fse2
 ·refine Wp.skip ?_
  refine hK2 _ _ ?_
  obtain ⟨c_7, hm⟩ := chk_elim hm
  refine Wp.seqR fun K7 hK7 => ?_
  simp only [go_sem, simprocAttr]
  first | apply hK7 | refine ⟨by first | exact sd | ((repeat' apply And.intro) <;> first | assumption | omega | (simp only [List.length_append, List.length_map, List.length_cons, List.length_nil, List.length_set, List.length_replicate] at c_7 ⊢; omega)), hK7 _ _ ?_⟩
  refine Wp.ret ?_
  refine retQ_ret ?_
  cases hm
  exact fse2
theorem ok_slices_Clone_api_File_api_File_new (s_1 : List api_File) (z : List api_File) (hm : slices_Clone_api_File_api_File_new s_1 = some z) : Does Tryz.prog 293 [.p (.l (List.map enc_api_File s_1))] [] (fun r X => r = .buf 0 ∧ X = [.buf 38 3 (List.map enc_api_File z)]) := by
 unfold slices_Clone_api_File_api_File_new at hm
 refine Does.of_wp 1 8 [.tmp 2] Tryz.func293 rfl (by decide) rfl rfl (Nat.le_of_ble_eq_true rfl) fun B => ?_
 refine qS ?_
 refine Wp.seqW fun K2 hK2 hW2 => ?_
 refine Wp.seqR fun K3 hK3 => ?_
 simp only [go_sem, simprocAttr]
 try refine ⟨sd, ?_⟩
 refine Rg.isnil (rows := ?rows4) (e := ?e4) (esz := ?esz4) (eb := ?eb4) (ez := ?ez4) Is.mk Is.mk sg sg si si ?cont4
 intro b_5 hb_6
 replace hm := anyOf_elim hm b_5 (fun h => List.map_eq_nil_iff.1 (hb_6 h))
 try dsimp only at hm
 simp only [go_sem, simprocAttr]
 first | apply hK3 | refine ⟨sd, hK3 _ _ ?_⟩
 refine cM hm (fun hc5 hm => ?_) (fun hc5 hm => ?_)
 ·refine qS ?_
  refine Wp.adopt 2 38 3 rfl ?_
  simp only [go_sem, simprocAttr]
  refine Wp.ret ?_
  refine retQ_ret ?_
  cases hm
  exact fse2
 ·refine Wp.skip ?_
  refine hK2 _ _ ?_
  obtain ⟨c_7, hm⟩ := chk_elim hm
  refine Wp.seqR fun K7 hK7 => ?_
  simp only [go_sem, simprocAttr]
  first | apply hK7 | refine ⟨by first | exact sd | ((repeat' apply And.intro) <;> first | assumption | omega | (simp only [List.length_append, List.length_map, List.length_cons, List.length_nil, List.length_set, List.length_replicate] at c_7 ⊢; omega)), hK7 _ _ ?_⟩
  refine Wp.ret ?_
  refine retQ_ret ?_
  cases hm
  exact fse2
theorem ok_slices_Clone_api_Service_api_Service_new (s_1 : List api_Service) (z : List api_Service) (hm : slices_Clone_api_Service_api_Service_new s_1 = some z) : Does Tryz.prog 119 [.p (.l (List.map enc_api_Service s_1))] [] (fun r X => r = .buf 0 ∧ X = [.buf 42 4 (List.map enc_api_Service z)]) := by
 unfold slices_Clone_api_Service_api_Service_new at hm
 refine Does.of_wp 1 8 [.tmp 2] Tryz.func119 rfl (by decide) rfl rfl (Nat.le_of_ble_eq_true rfl) fun B => ?_
 refine qS ?_
 refine Wp.seqW fun K2 hK2 hW2 => ?_
 refine Wp.seqR fun K3 hK3 => ?_
 simp only [go_sem, simprocAttr]
 try refine ⟨sd, ?_⟩
 refine Rg.isnil (rows := ?rows4) (e := ?e4) (esz := ?esz4) (eb := ?eb4) (ez := ?ez4) Is.mk Is.mk sg sg si si ?cont4
 intro b_5 hb_6
 replace hm := anyOf_elim hm b_5 (fun h => List.map_eq_nil_iff.1 (hb_6 h))
 try dsimp only at hm
 simp only [go_sem, simprocAttr]
 first | apply hK3 | refine ⟨sd, hK3 _ _ ?_⟩
 refine cM hm (fun hc5 hm => ?_) (fun hc5 hm => ?_)
 ·refine qS ?_
  refine Wp.adopt 2 42 4 rfl ?_
  simp only [go_sem, simprocAttr]
  refine Wp.ret ?_
  refine retQ_ret ?_
  cases hm
  exact fse2
 ·refine Wp.skip ?_
  refine hK2 _ _ ?_
  obtain ⟨c_7, hm⟩ := chk_elim hm
  refine Wp.seqR fun K7 hK7 => ?_
  simp only [go_sem, simprocAttr]
  first | apply hK7 | refine ⟨by first | exact sd | ((repeat' apply And.intro) <;> first | assumption | omega | (simp only [List.length_append, List.length_map, List.length_cons, List.length_nil, List.length_set, List.length_replicate] at c_7 ⊢; omega)), hK7 _ _ ?_⟩
  refine Wp.ret ?_
  refine retQ_ret ?_
  cases hm
  exact fse2
theorem ok_disk_Clone_new (m_1 : api_Machine) (z : List api_Setting × List api_File × List api_Setting × List api_Service × List api_Setting × List api_File × List api_Setting × List api_Service) (hm : disk_Clone_new m_1 = some z) : Does Tryz.prog 223 [.agg [.p (.l (List.map enc_api_Setting m_1.Facts)), .p (.l (List.map enc_api_File m_1.Files)), .p (.l (List.map enc_api_Setting m_1.Settings)), .p (.l (List.map enc_api_Service m_1.Services))]] [] (fun r X => r = .agg [.buf 2, .buf 3, .buf 4, .buf 5] ∧ X = [.cells 26 [.p (.l (List.map enc_api_Setting z.1)), .p (.l (List.map enc_api_File z.2.1)), .p (.l (List.map enc_api_Setting z.2.2.1)), .p (.l (List.map enc_api_Service z.2.2.2.1))], .cells 26 [.buf 2, .buf 3, .buf 4, .buf 5], .buf 40 2 (List.map enc_api_Setting z.2.2.2.2.1), .buf 38 3 (List.map enc_api_File z.2.2.2.2.2.1), .buf 40 2 (List.map enc_api_Setting z.2.2.2.2.2.2.1), .buf 42 4 (List.map enc_api_Service z.2.2.2.2.2.2.2)]) := by
 unfold disk_Clone_new at hm
 refine Does.of_wp 6 16 [.cell 2 26] Tryz.func223 rfl (by decide) rfl rfl (Nat.le_of_ble_eq_true rfl) fun B => ?_
 refine qS ?_
 obtain ⟨r_16, hr_16, hm⟩ := call_elim hm
 obtain ⟨r_17, hr_17, hm⟩ := call_elim hm
 obtain ⟨r_18, hr_18, hm⟩ := call_elim hm
 obtain ⟨r_19, hr_19, hm⟩ := call_elim hm
 refine Wp.seqD (plan := pl [(0, none), (1, none), (3, none), (4, none), (6, none), (7, none), (9, none), (10, none), (2, some [3, 4, 6, 7, 9, 10]), (5, some [6, 7, 9, 10]), (8, some [9, 10]), (11, some []), (12, none), (13, some [])]) (by kernel_rfl) rfl (by kernel_rfl) fun K2 hK2 => ?_
 simp only [go_sem, simprocAttr]
 try refine ⟨sd, ?_⟩
 refine Dr.of_br (Br.callE (av := ?av3) (o := ?o3) [] (ok_slices_Clone_api_Setting_api_Setting_new_i2 m_1.Facts _ hr_16) si si si si si sg sg sg sg ?cont3)
 simp only [go_sem, simprocAttr]
 try refine ⟨sd, ?_⟩
 refine Dr.of_br (Br.callE (av := ?av4) (o := ?o4) [] (ok_slices_Clone_api_File_api_File_new m_1.Files _ hr_17) si si si si si sg sg sg sg ?cont4)
 simp only [go_sem, simprocAttr]
 try refine ⟨sd, ?_⟩
 refine Dr.of_br (Br.callE (av := ?av5) (o := ?o5) [] (ok_slices_Clone_api_Setting_api_Setting_new_i2 m_1.Settings _ hr_18) si si si si si sg sg sg sg ?cont5)
 simp only [go_sem, simprocAttr]
 try refine ⟨sd, ?_⟩
 refine Dr.of_br (Br.callE (av := ?av6) (o := ?o6) [] (ok_slices_Clone_api_Service_api_Service_new m_1.Services _ hr_19) si si si si si sg sg sg sg ?cont6)
 simp only [go_sem, simprocAttr]
 first | apply hK2 | refine ⟨sd, hK2 _ _ ?_⟩
 refine Wp.ret ?_
 refine retQ_ret ?_
 cases hm
 exact fse2
theorem ok_disk_boot (m_1 : api_Machine) (z : api_Machine) (hm : disk_boot m_1 = some z) : Does Tryz.prog 107 [.agg [.p (.l (List.map enc_api_Setting m_1.Facts)), .p (.l (List.map enc_api_File m_1.Files)), .p (.l (List.map enc_api_Setting m_1.Settings)), .p (.l (List.map enc_api_Service m_1.Services))]] [] (fun r X => r = .agg [.p (.l (List.map enc_api_Setting z.Facts)), .p (.l (List.map enc_api_File z.Files)), .p (.l (List.map enc_api_Setting z.Settings)), .p (.l (List.map enc_api_Service z.Services))] ∧ X = []) := by
 unfold disk_boot at hm
 refine Does.of_wp 0 25 [.cell 2 26] Tryz.func107 rfl (by decide) rfl rfl (Nat.le_of_ble_eq_true rfl) fun B => ?_
 refine qS ?_
 obtain ⟨r_2, hr_2, hm⟩ := call_elim hm
 refine Wp.seqR fun K2 hK2 => ?_
 simp only [go_sem, simprocAttr]
 try refine ⟨sd, ?_⟩
 refine Rg.callO (av := ?av3) [] (ok_disk_Clone_new m_1 _ hr_2) si si si sg sg ?cont3
 rintro _ _ ⟨rfl, rfl⟩ hv3
 simp only [go_sem, simprocAttr]
 first | apply hK2 | refine ⟨sd, hK2 _ _ ?_⟩
 refine Wp.seqW fun K4 hK4 hW4 => ?_
 obtain ⟨k_18, hk_18, hm⟩ := jp_elim hm
 have hcut4 : ∀ s, k_18 s = some z → K4 [(1, .ptr 0 0), (2, .ptr 1 0)] [.cells 26 [.buf 4, .buf 5, .buf 6, .buf 7], .cells 26 [.nils, .nils, .nils, .nils], .cells 26 [.top, .top, .top, .top], .cells 26 [.top, .top, .top, .top], .buf 40 2 (List.map enc_api_Setting r_2.2.2.2.2.1), .buf 38 3 (List.map enc_api_File r_2.2.2.2.2.2.1), .buf 40 2 (List.map enc_api_Setting r_2.2.2.2.2.2.2.1), .buf 42 4 (List.map enc_api_Service s)] := by
  intro o7_17 hs
  have hm := hk_18 _ hs
  clear hs
  try dsimp only at hm
  try dsimp only
  refine hK4 _ _ ?_
  refine qS ?_
  refine Wp.ret ?_
  refine retQ_ret ?_
  cases hm
  exact fse2
 clear hK4 hk_18
 refine qS ?_
 refine Wp.block ?_
 obtain ⟨k_28, hk_28, hm⟩ := loopN_cont hm
 refine Wp.loopN (fun s => [(1, .ptr 0 0), (2, .ptr 1 0), (8, .p (.i .i64 (r_2.2.2.2.2.2.2.2.length : Int))), (9, .p (.i .i64 s.1))]) (fun s => [.cells 26 [.buf 4, .buf 5, .buf 6, .buf 7], .cells 26 [.nils, .nils, .nils, .nils], .cells 26 [.p (.l (List.map enc_api_Setting r_2.1)), .p (.l (List.map enc_api_File r_2.2.1)), .p (.l (List.map enc_api_Setting r_2.2.2.1)), .p (.l (List.map enc_api_Service r_2.2.2.2.1))], .cells 26 [.buf 4, .buf 5, .buf 6, .buf 7], .buf 40 2 (List.map enc_api_Setting r_2.2.2.2.2.1), .buf 38 3 (List.map enc_api_File r_2.2.2.2.2.2.1), .buf 40 2 (List.map enc_api_Setting r_2.2.2.2.2.2.2.1), .buf 42 4 (List.map enc_api_Service s.2)]) ?_ hm ?_
 ·
  exact fse2
 clear hm
 intro s nx_29 hm
 obtain ⟨t9_23, o7_24⟩ := s
 try dsimp only at hm
 try dsimp only
 refine qS ?_
 refine Wp.seqW fun K8 hK8 hW8 => ?_
 refine cM hm (fun hc9 hm => ?_) (fun hc9 hm => ?_)
 ·refine Wp.skip ?_
  refine hK8 _ _ ?_
  refine Wp.seqW fun K10 hK10 hW10 => ?_
  refine Wp.block ?_
  refine qS ?_
  obtain ⟨c_30, hm⟩ := chk_elim hm
  obtain ⟨c_31, hm⟩ := chk_elim hm
  have hr_32 := fun h => getD_encB (l := o7_24) (e := enc_api_Service) (d := (api_Service.mk [] [] false false)) (i := t9_23.toNat) h []
  refine Wp.regD (plan := pl [(0, none), (1, none), (2, none), (3, none), (4, none), (5, none), (6, none), (7, none), (8, none), (9, none), (10, none), (11, some [])]) (by kernel_rfl) rfl (by kernel_rfl) fun K12 hK12 => ?_
  simp only [go_sem, simprocAttr, hr_32 (by omega)]
  first | apply hK12 | refine ⟨by first | exact sd | ((repeat' apply And.intro) <;> first | assumption | omega | (simp only [List.length_append, List.length_map, List.length_cons, List.length_nil, List.length_set, List.length_replicate] at c_30 c_31 ⊢; omega)), hK12 _ _ ?_⟩
  refine hK10 _ _ ?_
  refine qR ?_
  simp only [thenQ, blockQ, ↓reduceIte]
  refine ⟨(IntKind.i64.wrap (t9_23 + 1), List.set o7_24 t9_23.toNat (api_Service.mk ((o7_24.getD t9_23.toNat (api_Service.mk [] [] false false)).Name) ((o7_24.getD t9_23.toNat (api_Service.mk [] [] false false)).Path) ((o7_24.getD t9_23.toNat (api_Service.mk [] [] false false)).Auto) ((o7_24.getD t9_23.toNat (api_Service.mk [] [] false false)).Auto))), hm, ?_⟩
  exact fse2
 ·refine Wp.exit ?_
  simp only [thenQ, blockQ, ↓reduceIte]
  have hm := hk_28 _ hm
  try dsimp only at hm
  refine hW4 _ _ _ _ ?_ (hcut4 o7_24 hm)
  exact fse2
theorem ok_disk_Boot (m_1 : api_Machine) (z : api_Machine × Int) (hm : disk_Boot m_1 = some z) : Does Tryz.prog 37 [.agg [.p (.l (List.map enc_api_Setting m_1.Facts)), .p (.l (List.map enc_api_File m_1.Files)), .p (.l (List.map enc_api_Setting m_1.Settings)), .p (.l (List.map enc_api_Service m_1.Services))]] [] (fun r X => r = .tup [.agg [.p (.l (List.map enc_api_Setting z.1.Facts)), .p (.l (List.map enc_api_File z.1.Files)), .p (.l (List.map enc_api_Setting z.1.Settings)), .p (.l (List.map enc_api_Service z.1.Services))], .p (.i .i64 z.2)] ∧ X = []) := by
 unfold disk_Boot at hm
 refine Does.of_wp 0 13 [.cell 2 26, .tmp 3] Tryz.func37 rfl (by decide) rfl rfl (Nat.le_of_ble_eq_true rfl) fun B => ?_
 refine qS ?_
 refine Wp.seqW fun K2 hK2 hW2 => ?_
 obtain ⟨r_2, hr_2, hm⟩ := call_elim hm
 refine Wp.seqR fun K3 hK3 => ?_
 simp only [go_sem, simprocAttr]
 try refine ⟨sd, ?_⟩
 refine Rg.callX (av := ?av4) (g := true) (fun hg => ok_disk_Check m_1 _ hr_2) si si si sg si ?cont4
 intro hv4
 simp only [go_sem, simprocAttr]
 first | apply hK3 | refine ⟨sd, hK3 _ _ ?_⟩
 refine qS ?_
 refine cM hm (fun hc6 hm => ?_) (fun hc6 hm => ?_)
 ·refine qS ?_
  refine Wp.ret ?_
  simp only [thenQ, blockQ]
  refine retQ_retE ?_
  cases hm
  exact fse2
 ·refine Wp.skip ?_
  refine hK2 _ _ ?_
  obtain ⟨r_3, hr_3, hm⟩ := call_elim hm
  refine Wp.seqR fun K8 hK8 => ?_
  simp only [go_sem, simprocAttr]
  try refine ⟨sd, ?_⟩
  refine Rg.callF (av := ?av9) (ok_disk_boot m_1 _ hr_3) si si sg ?cont9
  intro hv9
  simp only [go_sem, simprocAttr]
  first | apply hK8 | refine ⟨sd, hK8 _ _ ?_⟩
  refine Wp.ret ?_
  refine retQ_ret ?_
  cases hm
  exact fse2
end Go.Proofs.YtaabfmccihcnkaaGreatDoor
