/- That the code does what the models say (part 6). -/
import Derived.Test.YtbfemlilfeahkaaGreatDoorTmWk0
import Derived.Test.YtbfemlilfeahkaaGreatDoorTmWk1
set_option linter.unusedSimpArgs false
set_option linter.unusedVariables false
open Go.Proofs Go.Shelf
namespace Go.Proofs.YtbfemlilfeahkaaGreatDoor
open Go.Vc Go.Md
set_option maxRecDepth 100000
set_option maxHeartbeats 4000000
theorem ok_disk_Quote (s_1 : Str) (z : Str) (hm : disk_Quote s_1 = some z) : Does Tryz.prog 28 [.p (.s s_1)] [] (fun r X => r = .p (.s z) ∧ X = []) := by
 unfold disk_Quote at hm
 refine Does.of_wp 0 63 [.tmp 2] Tryz.func28 rfl (by decide) rfl rfl (Nat.le_of_ble_eq_true rfl) fun B => ?_
 refine qS ?_
 obtain ⟨c_2, hm⟩ := chk_elim hm
 refine Wp.seqR fun K2 hK2 => ?_
 simp only [go_sem, simprocAttr]
 first | apply hK2 | refine ⟨by first | exact sd | ((repeat' apply And.intro) <;> first | assumption | omega | (simp only [List.length_append, List.length_map, List.length_cons, List.length_nil, List.length_set, List.length_replicate] at c_2 ⊢; omega)), hK2 _ _ ?_⟩
 obtain ⟨c_3, hm⟩ := chk_elim hm
 refine Wp.seqR fun K3 hK3 => ?_
 simp only [go_sem, simprocAttr]
 first | apply hK3 | refine ⟨by first | exact sd | ((repeat' apply And.intro) <;> first | assumption | omega | (simp only [List.length_append, List.length_map, List.length_cons, List.length_nil, List.length_set, List.length_replicate] at c_3 ⊢; omega)), hK3 _ _ ?_⟩
 refine Wp.seqW fun K4 hK4 hW4 => ?_
 obtain ⟨k_33, hk_33, hm⟩ := jp_elim hm
 have hcut4 : ∀ s, k_33 s = some z → K4 [(3, .buf 0)] [.buf 5 1 (List.map ecI_u8 s)] := by
  intro o0_32 hs
  have hm := hk_33 _ hs
  clear hs
  try dsimp only at hm
  try dsimp only
  refine hK4 _ _ ?_
  obtain ⟨c_34, hm⟩ := chk_elim hm
  refine Wp.seqR fun K5 hK5 => ?_
  simp only [go_sem, simprocAttr]
  first | apply hK5 | refine ⟨by first | exact sd | ((repeat' apply And.intro) <;> first | assumption | omega | (simp only [List.length_append, List.length_map, List.length_cons, List.length_nil, List.length_set, List.length_replicate] at c_34 ⊢; omega)), hK5 _ _ ?_⟩
  refine Wp.ret ?_
  refine retQ_ret ?_
  cases hm
  exact fse2
 clear hK4 hk_33
 refine qS ?_
 refine Wp.block ?_
 obtain ⟨k_52, hk_52, hm⟩ := forL_cont hm
 refine Wp.fact 0 fun hl_55 => ?_
 replace hl_55 : s_1.length ≤ 274877906944 := by
  simp only [go_sem, simprocAttr, List.length_map] at hl_55
  omega
 refine Wp.forL (fun i_54 s => [(0, .p (.s s_1)), (3, .buf 0), (4, .p (.i .i64 (i_54 : Int)))]) (fun i_54 s => [.buf 5 1 (List.map ecI_u8 s)]) ?_ hm ?_
 ·
  exact fse2
 clear hm
 intro i_54 o0_44 hii_54 hm
 try dsimp only at hm
 try dsimp only
 refine Wp.seqW fun K7 hK7 hW7 => ?_
 refine qS ?_
 refine Wp.cond rfl ⟨⟩ (fun hc7 => ?_) (fun hc7 => ?_)
 rotate_left
 ·refine Wp.exit ?_
  have hm := hk_52 _ (forL_end hm (ge_nat (by first | exact hc7 | simpa using hc7)))
  try dsimp only at hm
  refine hW4 _ _ _ _ ?_ (hcut4 o0_44 hm)
  exact fse2
 have hlt7 := lt_nat (by first | exact hc7 | simpa using hc7)
 have hw7 := wrap_succ hlt7 hl_55
 obtain ⟨c_56, nx_53, hxc_56, hyc_56, hnx_53, hm⟩ := forL_step hm hlt7
 clear hxc_56
 refine Wp.skip ?_
 simp only [thenQ]
 refine hK7 _ _ ?_
 refine Wp.seqW fun K9 hK9 hW9 => ?_
 refine Wp.block ?_
 refine Wp.seqR fun K10 hK10 => ?_
 simp only [go_sem, simprocAttr, hw7, hyc_56]
 first | apply hK10 | refine ⟨sd, hK10 _ _ ?_⟩
 refine Wp.block ?_
 refine Wp.seqR fun K11 hK11 => ?_
 simp only [go_sem, simprocAttr, hw7, hyc_56]
 first | apply hK11 | refine ⟨sd, hK11 _ _ ?_⟩
 refine cM hm (fun hc12 hm => ?_) (fun hc12 hm => ?_)
 ·obtain ⟨c_57, hm⟩ := chk_elim hm
  refine Wp.region fun K13 hK13 => ?_
  simp only [go_sem, simprocAttr, hw7, hyc_56]
  first | apply hK13 | refine ⟨by first | exact sd | ((repeat' apply And.intro) <;> first | assumption | omega | (simp only [List.length_append, List.length_map, List.length_cons, List.length_nil, List.length_set, List.length_replicate] at c_57 ⊢; omega)), hK13 _ _ ?_⟩
  refine hK9 _ _ ?_
  refine Wp.region fun K14 hK14 => ?_
  simp only [go_sem, simprocAttr, hw7, hyc_56]
  first | apply hK14 | refine ⟨sd, hK14 _ _ ?_⟩
  simp only [thenQ, blockQ, ↓reduceIte]
  refine ⟨o0_44 ++ [92, (c_56.toNat : Int)], hlt7, hnx_53 _ hm, ?_⟩
  simp only [go_sem, simprocAttr, hw7, hyc_56]
  try exact se2
 ·refine Wp.seqR fun K15 hK15 => ?_
  simp only [go_sem, simprocAttr, hw7, hyc_56]
  first | apply hK15 | refine ⟨sd, hK15 _ _ ?_⟩
  refine cM hm (fun hc16 hm => ?_) (fun hc16 hm => ?_)
  ·obtain ⟨c_58, hm⟩ := chk_elim hm
   refine Wp.region fun K17 hK17 => ?_
   simp only [go_sem, simprocAttr, hw7, hyc_56]
   first | apply hK17 | refine ⟨by first | exact sd | ((repeat' apply And.intro) <;> first | assumption | omega | (simp only [List.length_append, List.length_map, List.length_cons, List.length_nil, List.length_set, List.length_replicate] at c_58 ⊢; omega)), hK17 _ _ ?_⟩
   refine hK9 _ _ ?_
   refine Wp.region fun K18 hK18 => ?_
   simp only [go_sem, simprocAttr, hw7, hyc_56]
   first | apply hK18 | refine ⟨sd, hK18 _ _ ?_⟩
   simp only [thenQ, blockQ, ↓reduceIte]
   refine ⟨o0_44 ++ [92, 110], hlt7, hnx_53 _ hm, ?_⟩
   simp only [go_sem, simprocAttr, hw7, hyc_56]
   try exact se2
  ·refine Wp.seqR fun K19 hK19 => ?_
   simp only [go_sem, simprocAttr, hw7, hyc_56]
   first | apply hK19 | refine ⟨sd, hK19 _ _ ?_⟩
   refine cM hm (fun hc20 hm => ?_) (fun hc20 hm => ?_)
   ·obtain ⟨c_59, hbc_59, hxc_59, hm⟩ := idxS_elim hm
    replace hxc_59 : ((([48, 49, 50, 51, 52, 53, 54, 55, 56, 57, 97, 98, 99, 100, 101, 102] : Str).getD ((Int.fdiv (c_56.toNat : Int) (2 ^ (shI .u8 4))).toNat) 0).toNat : Int) = c_59 := hxc_59
    obtain ⟨c_60, hbc_60, hxc_60, hm⟩ := idxS_elim hm
    replace hxc_60 : ((([48, 49, 50, 51, 52, 53, 54, 55, 56, 57, 97, 98, 99, 100, 101, 102] : Str).getD ((bitsI .and .u8 (c_56.toNat : Int) 15).toNat) 0).toNat : Int) = c_60 := hxc_60
    obtain ⟨c_61, hm⟩ := chk_elim hm
    refine Wp.regD (plan := [(0, none), (1, none), (2, none), (3, none), (4, none), (5, none), (6, none), (7, some [0]), (8, some []), (9, none)]) (by kernel_rfl) rfl (by kernel_rfl) fun K21 hK21 => ?_
    simp only [go_sem, simprocAttr, hw7, hyc_56, hxc_59, hxc_60]
    first | apply hK21 | refine ⟨by first | exact sd | ((repeat' apply And.intro) <;> first | assumption | omega | (simp only [List.length_append, List.length_map, List.length_cons, List.length_nil, List.length_set, List.length_replicate] at c_61 ⊢; omega)), hK21 _ _ ?_⟩
    refine hK9 _ _ ?_
    refine Wp.region fun K22 hK22 => ?_
    simp only [go_sem, simprocAttr, hw7, hyc_56, hxc_59, hxc_60]
    first | apply hK22 | refine ⟨sd, hK22 _ _ ?_⟩
    simp only [thenQ, blockQ, ↓reduceIte]
    refine ⟨o0_44 ++ [92, 120, c_59, c_60], hlt7, hnx_53 _ hm, ?_⟩
    simp only [go_sem, simprocAttr, hw7, hyc_56, hxc_59, hxc_60]
    try exact se2
   ·obtain ⟨c_62, hm⟩ := chk_elim hm
    refine Wp.region fun K23 hK23 => ?_
    simp only [go_sem, simprocAttr, hw7, hyc_56]
    first | apply hK23 | refine ⟨by first | exact sd | ((repeat' apply And.intro) <;> first | assumption | omega | (simp only [List.length_append, List.length_map, List.length_cons, List.length_nil, List.length_set, List.length_replicate] at c_62 ⊢; omega)), hK23 _ _ ?_⟩
    refine hK9 _ _ ?_
    refine Wp.region fun K24 hK24 => ?_
    simp only [go_sem, simprocAttr, hw7, hyc_56]
    first | apply hK24 | refine ⟨sd, hK24 _ _ ?_⟩
    simp only [thenQ, blockQ, ↓reduceIte]
    refine ⟨o0_44 ++ [(c_56.toNat : Int)], hlt7, hnx_53 _ hm, ?_⟩
    simp only [go_sem, simprocAttr, hw7, hyc_56]
    try exact se2
theorem ok_strings_IndexByte (s_1 : Str) (c_2 : Int) (z : Int) (hm : strings_IndexByte s_1 c_2 = some z) : Does Tryz.prog 142 [.p (.s s_1), .p (.i .u8 c_2)] [] (fun r X => r = .p (.i .i64 z) ∧ X = []) := by
 unfold strings_IndexByte at hm
 refine Does.of_wp 0 8 [.tmp 4] Tryz.func142 rfl (by decide) rfl rfl (Nat.le_of_ble_eq_true rfl) fun B => ?_
 refine qS ?_
 obtain ⟨r_3, hr_3, hm⟩ := call_elim hm
 refine Wp.seqR fun K2 hK2 => ?_
 simp only [go_sem, simprocAttr]
 try refine ⟨sd, ?_⟩
 refine Rg.callX (av := ?av3) (g := true) (fun hg => ok_internal_stringslite_IndexByte s_1 c_2 _ hr_3) si si si sg si ?cont3
 intro hv3
 simp only [go_sem, simprocAttr]
 first | apply hK2 | refine ⟨sd, hK2 _ _ ?_⟩
 refine Wp.ret ?_
 refine retQ_ret ?_
 cases hm
 exact fse2
theorem ok_disk_escape (s_1 : Str) (z : Int × Int) (hm : disk_escape s_1 = some z) : Does Tryz.prog 88 [.p (.s s_1)] [] (fun r X => r = .tup [.p (.i .u8 z.1), .p (.i .i64 z.2)] ∧ X = []) := by
 unfold disk_escape at hm
 refine Does.of_wp 0 61 [.tmp 2, .tmp 3] Tryz.func88 rfl (by decide) rfl rfl (Nat.le_of_ble_eq_true rfl) fun B => ?_
 refine qS ?_
 refine Wp.seqW fun K2 hK2 hW2 => ?_
 refine Wp.block ?_
 refine qS ?_
 refine cM hm (fun hc4 hm => ?_) (fun hc4 hm => ?_)
 ·refine qS ?_
  refine Wp.ret ?_
  refine retQ_ret ?_
  cases hm
  exact fse2
 ·obtain ⟨c_2, hbc_2, hxc_2, hm⟩ := idxS_elim hm
  replace hxc_2 : ((s_1.getD 0 0).toNat : Int) = c_2 := hxc_2
  refine Wp.seqR fun K6 hK6 => ?_
  simp only [go_sem, simprocAttr, hxc_2]
  first | apply hK6 | refine ⟨sd, hK6 _ _ ?_⟩
  refine cM hm (fun hc7 hm => ?_) (fun hc7 hm => ?_)
  ·refine Wp.seqR fun K8 hK8 => ?_
   simp only [go_sem, simprocAttr, hxc_2]
   first | apply hK8 | refine ⟨sd, hK8 _ _ ?_⟩
   refine Wp.ret ?_
   refine retQ_ret ?_
   cases hm
   simp only [go_sem, simprocAttr, hxc_2]
   try exact se2
  ·refine Wp.seqR fun K9 hK9 => ?_
   simp only [go_sem, simprocAttr, hxc_2]
   first | apply hK9 | refine ⟨sd, hK9 _ _ ?_⟩
   refine cM hm (fun hc10 hm => ?_) (fun hc10 hm => ?_)
   ·refine Wp.seqR fun K11 hK11 => ?_
    simp only [go_sem, simprocAttr, hxc_2]
    first | apply hK11 | refine ⟨sd, hK11 _ _ ?_⟩
    refine Wp.ret ?_
    refine retQ_ret ?_
    cases hm
    simp only [go_sem, simprocAttr, hxc_2]
    try exact se2
   ·refine Wp.seqR fun K12 hK12 => ?_
    simp only [go_sem, simprocAttr, hxc_2]
    first | apply hK12 | refine ⟨sd, hK12 _ _ ?_⟩
    refine cM hm (fun hc13 hm => ?_) (fun hc13 hm => ?_)
    ·refine Wp.seqR fun K14 hK14 => ?_
     simp only [go_sem, simprocAttr, hxc_2]
     first | apply hK14 | refine ⟨sd, hK14 _ _ ?_⟩
     refine Wp.ret ?_
     refine retQ_ret ?_
     cases hm
     simp only [go_sem, simprocAttr, hxc_2]
     try exact se2
    ·refine Wp.skip ?_
     refine hK2 _ _ ?_
     obtain ⟨c_3, hbc_3, hxc_3, hm⟩ := idxS_elim hm
     replace hxc_3 : ((s_1.getD 1 0).toNat : Int) = c_3 := hxc_3
     obtain ⟨r_4, hr_4, hm⟩ := call_elim hm
     obtain ⟨c_5, hbc_5, hxc_5, hm⟩ := idxS_elim hm
     replace hxc_5 : ((s_1.getD 2 0).toNat : Int) = c_5 := hxc_5
     obtain ⟨r_6, hr_6, hm⟩ := call_elim hm
     refine Wp.seqD (plan := [(0, none), (1, none), (2, none), (3, none), (4, none), (5, none), (6, none), (7, none)]) (by kernel_rfl) rfl (by kernel_rfl) fun K15 hK15 => ?_
     simp only [go_sem, simprocAttr, hxc_2, hxc_3, hxc_5]
     try refine ⟨sd, ?_⟩
     refine Dr.callF (av := ?av16) (g := true) (o := ?o16) (fun hg => ok_strings_IndexByte ([48, 49, 50, 51, 52, 53, 54, 55, 56, 57, 97, 98, 99, 100, 101, 102] : Str) c_3 _ hr_4) (by simp only [go_sem, simprocAttr, hxc_2, hxc_3, hxc_5]; exact Is.mk) (by simp only [go_sem, simprocAttr, hxc_2, hxc_3, hxc_5]; exact Is.mk) (by simp only [go_sem, simprocAttr, hxc_2, hxc_3, hxc_5]; exact Is.mk) (by simp only [go_sem, simprocAttr, hxc_2, hxc_3, hxc_5]; exact Is.mk) (by simp only [go_sem, simprocAttr, hxc_2, hxc_3, hxc_5]) (by simp only [go_sem, simprocAttr, hxc_2, hxc_3, hxc_5]; exact Is.mk) ?cont16
     simp only [go_sem, simprocAttr, hxc_2, hxc_3, hxc_5]
     try refine ⟨sd, ?_⟩
     refine Dr.callF (av := ?av17) (g := true) (o := ?o17) (fun hg => ok_strings_IndexByte ([48, 49, 50, 51, 52, 53, 54, 55, 56, 57, 97, 98, 99, 100, 101, 102] : Str) c_5 _ hr_6) (by simp only [go_sem, simprocAttr, hxc_2, hxc_3, hxc_5]; exact Is.mk) (by simp only [go_sem, simprocAttr, hxc_2, hxc_3, hxc_5]; exact Is.mk) (by simp only [go_sem, simprocAttr, hxc_2, hxc_3, hxc_5]; exact Is.mk) (by simp only [go_sem, simprocAttr, hxc_2, hxc_3, hxc_5]; exact Is.mk) (by simp only [go_sem, simprocAttr, hxc_2, hxc_3, hxc_5]) (by simp only [go_sem, simprocAttr, hxc_2, hxc_3, hxc_5]; exact Is.mk) ?cont17
     simp only [go_sem, simprocAttr, hxc_2, hxc_3, hxc_5]
     first | apply hK15 | refine ⟨sd, hK15 _ _ ?_⟩
     refine Wp.seqW fun K18 hK18 hW18 => ?_
     refine Wp.seqR fun K19 hK19 => ?_
     simp only [go_sem, simprocAttr, hxc_2, hxc_3, hxc_5]
     first | apply hK19 | refine ⟨sd, hK19 _ _ ?_⟩
     refine cM hm (fun hc20 hm => ?_) (fun hc20 hm => ?_)
     ·refine Wp.seqR fun K21 hK21 => ?_
      simp only [go_sem, simprocAttr, hxc_2, hxc_3, hxc_5]
      first | apply hK21 | refine ⟨sd, hK21 _ _ ?_⟩
      refine Wp.ret ?_
      refine retQ_ret ?_
      cases hm
      simp only [go_sem, simprocAttr, hxc_2, hxc_3, hxc_5]
      try exact se2
     ·refine Wp.skip ?_
      refine hK18 _ _ ?_
      refine Wp.seqR fun K22 hK22 => ?_
      simp only [go_sem, simprocAttr, hxc_2, hxc_3, hxc_5]
      first | apply hK22 | refine ⟨sd, hK22 _ _ ?_⟩
      refine Wp.seqW fun K23 hK23 hW23 => ?_
      refine Wp.seqR fun K24 hK24 => ?_
      simp only [go_sem, simprocAttr, hxc_2, hxc_3, hxc_5]
      first | apply hK24 | refine ⟨sd, hK24 _ _ ?_⟩
      refine cM hm (fun hc25 hm => ?_) (fun hc25 hm => ?_)
      ·refine Wp.seqR fun K26 hK26 => ?_
       simp only [go_sem, simprocAttr, hxc_2, hxc_3, hxc_5]
       first | apply hK26 | refine ⟨sd, hK26 _ _ ?_⟩
       refine Wp.ret ?_
       refine retQ_ret ?_
       cases hm
       simp only [go_sem, simprocAttr, hxc_2, hxc_3, hxc_5]
       try exact se2
      ·refine Wp.skip ?_
       refine hK23 _ _ ?_
       refine Wp.seqR fun K27 hK27 => ?_
       simp only [go_sem, simprocAttr, hxc_2, hxc_3, hxc_5]
       first | apply hK27 | refine ⟨sd, hK27 _ _ ?_⟩
       refine Wp.ret ?_
       refine retQ_ret ?_
       cases hm
       simp only [go_sem, simprocAttr, hxc_2, hxc_3, hxc_5]
       try exact se2
theorem ok_disk_Unquote (s_1 : Str) (z : Str × Int) (hm : disk_Unquote s_1 = some z) : Does Tryz.prog 29 [.p (.s s_1)] [] (fun r X => r = .tup [.p (.s z.1), .p (.i .i64 z.2)] ∧ X = []) := by
 unfold disk_Unquote at hm
 refine Does.of_wp 0 74 [.tmp 2, .tmp 3] Tryz.func29 rfl (by decide) rfl rfl (Nat.le_of_ble_eq_true rfl) fun B => ?_
 refine qS ?_
 refine Wp.seqW fun K2 hK2 hW2 => ?_
 obtain ⟨c_2, hm⟩ := chk_elim hm
 obtain ⟨c_3, hm⟩ := chk_elim hm
 refine Wp.seqR fun K3 hK3 => ?_
 simp only [go_sem, simprocAttr]
 first | apply hK3 | refine ⟨by first | exact sd | ((repeat' apply And.intro) <;> first | assumption | omega | (simp only [List.length_append, List.length_map, List.length_cons, List.length_nil, List.length_set, List.length_replicate] at c_2 c_3 ⊢; omega)), hK3 _ _ ?_⟩
 refine cM hm (fun hc4 hm => ?_) (fun hc4 hm => ?_)
 ·refine qS ?_
  refine Wp.ret ?_
  refine retQ_ret ?_
  cases hm
  exact fse2
 ·refine Wp.skip ?_
  refine hK2 _ _ ?_
  obtain ⟨c_4, hm⟩ := chk_elim hm
  refine Wp.seqR fun K6 hK6 => ?_
  simp only [go_sem, simprocAttr]
  first | apply hK6 | refine ⟨by first | exact sd | ((repeat' apply And.intro) <;> first | assumption | omega | (simp only [List.length_append, List.length_map, List.length_cons, List.length_nil, List.length_set, List.length_replicate] at c_4 ⊢; omega)), hK6 _ _ ?_⟩
  obtain ⟨c_5, hm⟩ := chk_elim hm
  refine Wp.seqR fun K7 hK7 => ?_
  simp only [go_sem, simprocAttr]
  first | apply hK7 | refine ⟨by first | exact sd | ((repeat' apply And.intro) <;> first | assumption | omega | (simp only [List.length_append, List.length_map, List.length_cons, List.length_nil, List.length_set, List.length_replicate] at c_5 ⊢; omega)), hK7 _ _ ?_⟩
  refine Wp.seqW fun K8 hK8 hW8 => ?_
  obtain ⟨k_27, hk_27, hm⟩ := jp_elim hm
  have hcut8 : ∀ s, k_27 s = some z → K8 [(4, .buf 0)] [.buf 5 1 (List.map ecI_u8 s)] := by
   intro o0_26 hs
   have hm := hk_27 _ hs
   clear hs
   try dsimp only at hm
   try dsimp only
   refine hK8 _ _ ?_
   refine qS ?_
   refine Wp.ret ?_
   refine retQ_ret ?_
   cases hm
   exact fse2
  clear hK8 hk_27
  refine qS ?_
  refine Wp.block ?_
  obtain ⟨k_41, hk_41, hm⟩ := loopN_cont hm
  refine Wp.loopN (fun s => [(0, .p (.s (List.take ((IntKind.i64.wrap ((s_1.length : Int) - 1)).toNat - 1) (List.drop 1 s_1)))), (4, .buf 0), (5, .p (.i .i64 s.1))]) (fun s => [.buf 5 1 (List.map ecI_u8 s.2)]) ?_ hm ?_
  ·
   exact fse2
  clear hm
  intro s nx_42 hm
  obtain ⟨i_34, o0_35⟩ := s
  try dsimp only at hm
  try dsimp only
  refine Wp.seqW fun K11 hK11 hW11 => ?_
  refine qS ?_
  refine cM hm (fun hc13 hm => ?_) (fun hc13 hm => ?_)
  ·refine Wp.skip ?_
   refine hK11 _ _ ?_
   refine Wp.seqW fun K14 hK14 hW14 => ?_
   refine Wp.block ?_
   obtain ⟨c_43, hbc_43, hxc_43, hm⟩ := idxS_elim hm
   replace hxc_43 : (((List.take ((IntKind.i64.wrap ((s_1.length : Int) - 1)).toNat - 1) (List.drop 1 s_1)).getD i_34.toNat 0).toNat : Int) = c_43 := hxc_43
   refine Wp.seqR fun K15 hK15 => ?_
   simp only [go_sem, simprocAttr, hxc_43]
   first | apply hK15 | refine ⟨sd, hK15 _ _ ?_⟩
   refine Wp.seqW fun K16 hK16 hW16 => ?_
   refine Wp.seqR fun K17 hK17 => ?_
   simp only [go_sem, simprocAttr, hxc_43]
   first | apply hK17 | refine ⟨sd, hK17 _ _ ?_⟩
   refine cM hm (fun hc18 hm => ?_) (fun hc18 hm => ?_)
   ·refine Wp.seqR fun K19 hK19 => ?_
    simp only [go_sem, simprocAttr, hxc_43]
    first | apply hK19 | refine ⟨sd, hK19 _ _ ?_⟩
    refine Wp.ret ?_
    refine retQ_ret ?_
    cases hm
    simp only [go_sem, simprocAttr, hxc_43]
    try exact se2
   ·refine Wp.skip ?_
    refine hK16 _ _ ?_
    refine Wp.seqW fun K20 hK20 hW20 => ?_
    refine Wp.seqR fun K21 hK21 => ?_
    simp only [go_sem, simprocAttr, hxc_43]
    first | apply hK21 | refine ⟨sd, hK21 _ _ ?_⟩
    refine cM hm (fun hc22 hm => ?_) (fun hc22 hm => ?_)
    ·obtain ⟨c_44, hm⟩ := chk_elim hm
     obtain ⟨r_45, hr_45, hm⟩ := call_elim hm
     refine Wp.seqR fun K23 hK23 => ?_
     simp only [go_sem, simprocAttr, hxc_43]
     try refine ⟨by first | exact sd | ((repeat' apply And.intro) <;> first | assumption | omega | (simp only [List.length_append, List.length_map, List.length_cons, List.length_nil, List.length_set, List.length_replicate] at c_44 ⊢; omega)), ?_⟩
     refine Rg.callX (av := ?av24) (g := true) (fun hg => ok_disk_escape (List.drop ((IntKind.i64.wrap (i_34 + 1)).toNat) (List.take ((IntKind.i64.wrap ((s_1.length : Int) - 1)).toNat - 1) (List.drop 1 s_1))) _ hr_45) (by simp only [go_sem, simprocAttr, hxc_43]; exact Is.mk) (by simp only [go_sem, simprocAttr, hxc_43]; exact Is.mk) (by simp only [go_sem, simprocAttr, hxc_43]; exact Is.mk) (by simp only [go_sem, simprocAttr, hxc_43]) (by simp only [go_sem, simprocAttr, hxc_43]; exact Is.mk) ?cont24
     intro hv24
     simp only [go_sem, simprocAttr, hxc_43]
     first | apply hK23 | refine ⟨by first | exact sd | ((repeat' apply And.intro) <;> first | assumption | omega | (simp only [List.length_append, List.length_map, List.length_cons, List.length_nil, List.length_set, List.length_replicate] at c_44 ⊢; omega)), hK23 _ _ ?_⟩
     refine Wp.seqW fun K25 hK25 hW25 => ?_
     refine Wp.seqR fun K26 hK26 => ?_
     simp only [go_sem, simprocAttr, hxc_43]
     first | apply hK26 | refine ⟨sd, hK26 _ _ ?_⟩
     refine cM hm (fun hc27 hm => ?_) (fun hc27 hm => ?_)
     ·refine Wp.seqR fun K28 hK28 => ?_
      simp only [go_sem, simprocAttr, hxc_43]
      first | apply hK28 | refine ⟨sd, hK28 _ _ ?_⟩
      refine Wp.ret ?_
      refine retQ_ret ?_
      cases hm
      simp only [go_sem, simprocAttr, hxc_43]
      try exact se2
     ·refine Wp.skip ?_
      refine hK25 _ _ ?_
      refine Wp.region fun K29 hK29 => ?_
      simp only [go_sem, simprocAttr, hxc_43]
      first | apply hK29 | refine ⟨sd, hK29 _ _ ?_⟩
      refine hK20 _ _ ?_
      obtain ⟨c_46, hm⟩ := chk_elim hm
      refine Wp.region fun K30 hK30 => ?_
      simp only [go_sem, simprocAttr, hxc_43]
      first | apply hK30 | refine ⟨by first | exact sd | ((repeat' apply And.intro) <;> first | assumption | omega | (simp only [List.length_append, List.length_map, List.length_cons, List.length_nil, List.length_set, List.length_replicate] at c_46 ⊢; omega)), hK30 _ _ ?_⟩
      refine hK14 _ _ ?_
      refine Wp.region fun K31 hK31 => ?_
      simp only [go_sem, simprocAttr, hxc_43]
      first | apply hK31 | refine ⟨sd, hK31 _ _ ?_⟩
      simp only [thenQ, blockQ, ↓reduceIte]
      refine ⟨(IntKind.i64.wrap ((IntKind.i64.wrap (i_34 + r_45.2)) + 1), o0_35 ++ [r_45.1]), hm, ?_⟩
      simp only [go_sem, simprocAttr, hxc_43]
      try exact se2
    ·refine Wp.skip ?_
     refine hK20 _ _ ?_
     obtain ⟨c_47, hm⟩ := chk_elim hm
     refine Wp.region fun K32 hK32 => ?_
     simp only [go_sem, simprocAttr, hxc_43]
     first | apply hK32 | refine ⟨by first | exact sd | ((repeat' apply And.intro) <;> first | assumption | omega | (simp only [List.length_append, List.length_map, List.length_cons, List.length_nil, List.length_set, List.length_replicate] at c_47 ⊢; omega)), hK32 _ _ ?_⟩
     refine hK14 _ _ ?_
     refine Wp.region fun K33 hK33 => ?_
     simp only [go_sem, simprocAttr, hxc_43]
     first | apply hK33 | refine ⟨sd, hK33 _ _ ?_⟩
     simp only [thenQ, blockQ, ↓reduceIte]
     refine ⟨(IntKind.i64.wrap (i_34 + 1), o0_35 ++ [c_43]), hm, ?_⟩
     simp only [go_sem, simprocAttr, hxc_43]
     try exact se2
  ·refine Wp.exit ?_
   simp only [thenQ, blockQ, ↓reduceIte]
   have hm := hk_41 _ hm
   try dsimp only at hm
   refine hW8 _ _ _ _ ?_ (hcut8 o0_35 hm)
   exact fse2
theorem ok_R_Quote (s_1 : Str) (z : Str) (hm : R_Quote s_1 = some z) : Does Tryz.prog 30 [.p (.s s_1)] [] (fun r X => r = .p (.s z) ∧ X = []) := by
 unfold R_Quote at hm
 refine Does.of_wp 0 67 [.tmp 2] Tryz.func30 rfl (by decide) rfl rfl (Nat.le_of_ble_eq_true rfl) fun B => ?_
 refine qS ?_
 refine qS ?_
 refine Wp.seqW fun K3 hK3 hW3 => ?_
 obtain ⟨k_33, hk_33, hm⟩ := jp_elim hm
 have hcut3 : ∀ s, k_33 s = some z → K3 [(3, .p (.s s))] [] := by
  intro out_32 hs
  have hm := hk_33 _ hs
  clear hs
  try dsimp only at hm
  try dsimp only
  refine hK3 _ _ ?_
  obtain ⟨c_34, hm⟩ := chk_elim hm
  refine Wp.seqR fun K4 hK4 => ?_
  simp only [go_sem, simprocAttr]
  first | apply hK4 | refine ⟨by first | exact sd | ((repeat' apply And.intro) <;> first | assumption | omega | (simp only [List.length_append, List.length_map, List.length_cons, List.length_nil, List.length_set, List.length_replicate] at c_34 ⊢; omega)), hK4 _ _ ?_⟩
  refine Wp.ret ?_
  refine retQ_ret ?_
  cases hm
  exact fse2
 clear hK3 hk_33
 refine qS ?_
 refine Wp.block ?_
 obtain ⟨k_49, hk_49, hm⟩ := forL_cont hm
 refine Wp.fact 0 fun hl_52 => ?_
 replace hl_52 : s_1.length ≤ 274877906944 := by
  simp only [go_sem, simprocAttr, List.length_map] at hl_52
  omega
 refine Wp.forL (fun i_51 s => [(0, .p (.s s_1)), (3, .p (.s s)), (7, .p (.i .i64 (s_1.length : Int))), (8, .p (.i .i64 (i_51 : Int)))]) (fun i_51 s => []) ?_ hm ?_
 ·
  exact fse2
 clear hm
 intro i_51 out_35 hii_51 hm
 try dsimp only at hm
 try dsimp only
 refine qS ?_
 refine Wp.seqW fun K7 hK7 hW7 => ?_
 refine Wp.cond rfl ⟨⟩ (fun hc7 => ?_) (fun hc7 => ?_)
 rotate_left
 ·refine Wp.exit ?_
  have hm := hk_49 _ (forL_end hm (ge_nat (by first | exact hc7 | simpa using hc7)))
  try dsimp only at hm
  refine hW3 _ _ _ _ ?_ (hcut3 out_35 hm)
  exact fse2
 have hlt7 := lt_nat (by first | exact hc7 | simpa using hc7)
 have hw7 := wrap_succ hlt7 hl_52
 obtain ⟨c_53, nx_50, hxc_53, hyc_53, hnx_50, hm⟩ := forL_step hm hlt7
 clear hxc_53
 refine Wp.skip ?_
 simp only [thenQ]
 refine hK7 _ _ ?_
 refine Wp.seqW fun K8 hK8 hW8 => ?_
 refine Wp.block ?_
 refine Wp.seqR fun K9 hK9 => ?_
 simp only [go_sem, simprocAttr, hw7, hyc_53]
 first | apply hK9 | refine ⟨sd, hK9 _ _ ?_⟩
 refine Wp.seqR fun K10 hK10 => ?_
 simp only [go_sem, simprocAttr, hw7, hyc_53]
 first | apply hK10 | refine ⟨sd, hK10 _ _ ?_⟩
 refine Wp.block ?_
 refine Wp.seqR fun K11 hK11 => ?_
 simp only [go_sem, simprocAttr, hw7, hyc_53]
 first | apply hK11 | refine ⟨sd, hK11 _ _ ?_⟩
 refine cM hm (fun hc12 hm => ?_) (fun hc12 hm => ?_)
 ·obtain ⟨c_54, hm⟩ := chk_elim hm
  obtain ⟨c_55, hm⟩ := chk_elim hm
  obtain ⟨c_56, hm⟩ := chk_elim hm
  refine Wp.region fun K13 hK13 => ?_
  simp only [go_sem, simprocAttr, hw7, hyc_53]
  first | apply hK13 | refine ⟨by first | exact sd | ((repeat' apply And.intro) <;> first | assumption | omega | (simp only [List.length_append, List.length_map, List.length_cons, List.length_nil, List.length_set, List.length_replicate] at c_54 c_55 c_56 ⊢; omega)), hK13 _ _ ?_⟩
  refine hK8 _ _ ?_
  refine Wp.region fun K14 hK14 => ?_
  simp only [go_sem, simprocAttr, hw7, hyc_53]
  first | apply hK14 | refine ⟨sd, hK14 _ _ ?_⟩
  simp only [thenQ, blockQ, ↓reduceIte]
  refine ⟨out_35 ++ (([92] : Str) ++ (List.take ((IntKind.i64.wrap ((i_51 : Int) + 1)).toNat - i_51) (List.drop i_51 s_1))), hlt7, hnx_50 _ hm, ?_⟩
  simp only [go_sem, simprocAttr, hw7, hyc_53]
  try exact se2
 ·refine Wp.seqR fun K15 hK15 => ?_
  simp only [go_sem, simprocAttr, hw7, hyc_53]
  first | apply hK15 | refine ⟨sd, hK15 _ _ ?_⟩
  refine cM hm (fun hc16 hm => ?_) (fun hc16 hm => ?_)
  ·obtain ⟨c_57, hm⟩ := chk_elim hm
   refine Wp.region fun K17 hK17 => ?_
   simp only [go_sem, simprocAttr, hw7, hyc_53]
   first | apply hK17 | refine ⟨by first | exact sd | ((repeat' apply And.intro) <;> first | assumption | omega | (simp only [List.length_append, List.length_map, List.length_cons, List.length_nil, List.length_set, List.length_replicate] at c_57 ⊢; omega)), hK17 _ _ ?_⟩
   refine hK8 _ _ ?_
   refine Wp.region fun K18 hK18 => ?_
   simp only [go_sem, simprocAttr, hw7, hyc_53]
   first | apply hK18 | refine ⟨sd, hK18 _ _ ?_⟩
   simp only [thenQ, blockQ, ↓reduceIte]
   refine ⟨out_35 ++ ([92, 110] : Str), hlt7, hnx_50 _ hm, ?_⟩
   simp only [go_sem, simprocAttr, hw7, hyc_53]
   try exact se2
  ·refine Wp.seqR fun K19 hK19 => ?_
   simp only [go_sem, simprocAttr, hw7, hyc_53]
   first | apply hK19 | refine ⟨sd, hK19 _ _ ?_⟩
   refine cM hm (fun hc20 hm => ?_) (fun hc20 hm => ?_)
   ·obtain ⟨c_58, hm⟩ := chk_elim hm
    obtain ⟨c_59, hm⟩ := chk_elim hm
    obtain ⟨c_60, hm⟩ := chk_elim hm
    obtain ⟨c_61, hm⟩ := chk_elim hm
    obtain ⟨c_62, hm⟩ := chk_elim hm
    refine Wp.regD (plan := [(0, none), (1, none), (2, none), (3, none), (4, none), (5, none), (6, none), (7, none), (8, none), (9, none), (10, none), (11, none), (12, none), (13, none), (14, none), (15, none), (16, none)]) (by kernel_rfl) rfl (by kernel_rfl) fun K21 hK21 => ?_
    simp only [go_sem, simprocAttr, hw7, hyc_53]
    first | apply hK21 | refine ⟨by first | exact sd | ((repeat' apply And.intro) <;> first | assumption | omega | (simp only [List.length_append, List.length_map, List.length_cons, List.length_nil, List.length_set, List.length_replicate] at c_58 c_59 c_60 c_61 c_62 ⊢; omega)), hK21 _ _ ?_⟩
    refine hK8 _ _ ?_
    refine Wp.region fun K22 hK22 => ?_
    simp only [go_sem, simprocAttr, hw7, hyc_53]
    first | apply hK22 | refine ⟨sd, hK22 _ _ ?_⟩
    simp only [thenQ, blockQ, ↓reduceIte]
    refine ⟨out_35 ++ ((([92, 120] : Str) ++ (List.take ((IntKind.u8.wrap ((Int.fdiv (c_53.toNat : Int) (2 ^ (shI .u8 4))) + 1)).toNat - (Int.fdiv (c_53.toNat : Int) (2 ^ (shI .u8 4))).toNat) (List.drop ((Int.fdiv (c_53.toNat : Int) (2 ^ (shI .u8 4))).toNat) ([48, 49, 50, 51, 52, 53, 54, 55, 56, 57, 97, 98, 99, 100, 101, 102] : Str)))) ++ (List.take ((IntKind.u8.wrap ((bitsI .and .u8 (c_53.toNat : Int) 15) + 1)).toNat - (bitsI .and .u8 (c_53.toNat : Int) 15).toNat) (List.drop ((bitsI .and .u8 (c_53.toNat : Int) 15).toNat) ([48, 49, 50, 51, 52, 53, 54, 55, 56, 57, 97, 98, 99, 100, 101, 102] : Str)))), hlt7, hnx_50 _ hm, ?_⟩
    simp only [go_sem, simprocAttr, hw7, hyc_53]
    try exact se2
   ·obtain ⟨c_63, hm⟩ := chk_elim hm
    obtain ⟨c_64, hm⟩ := chk_elim hm
    refine Wp.region fun K23 hK23 => ?_
    simp only [go_sem, simprocAttr, hw7, hyc_53]
    first | apply hK23 | refine ⟨by first | exact sd | ((repeat' apply And.intro) <;> first | assumption | omega | (simp only [List.length_append, List.length_map, List.length_cons, List.length_nil, List.length_set, List.length_replicate] at c_63 c_64 ⊢; omega)), hK23 _ _ ?_⟩
    refine hK8 _ _ ?_
    refine Wp.region fun K24 hK24 => ?_
    simp only [go_sem, simprocAttr, hw7, hyc_53]
    first | apply hK24 | refine ⟨sd, hK24 _ _ ?_⟩
    simp only [thenQ, blockQ, ↓reduceIte]
    refine ⟨out_35 ++ (List.take ((IntKind.i64.wrap ((i_51 : Int) + 1)).toNat - i_51) (List.drop i_51 s_1)), hlt7, hnx_50 _ hm, ?_⟩
    simp only [go_sem, simprocAttr, hw7, hyc_53]
    try exact se2
theorem ok_R_Unquote (s_1 : Str) (z : Str × Int) (hm : R_Unquote s_1 = some z) : Does Tryz.prog 31 [.p (.s s_1)] [] (fun r X => r = .tup [.p (.s z.1), .p (.i .i64 z.2)] ∧ X = []) := by
 unfold R_Unquote at hm
 refine Does.of_wp 0 107 [.tmp 2, .tmp 3] Tryz.func31 rfl (by decide) rfl rfl (Nat.le_of_ble_eq_true rfl) fun B => ?_
 refine qS ?_
 refine Wp.seqW fun K2 hK2 hW2 => ?_
 obtain ⟨c_2, hm⟩ := chk_elim hm
 obtain ⟨c_3, hm⟩ := chk_elim hm
 refine Wp.seqR fun K3 hK3 => ?_
 simp only [go_sem, simprocAttr]
 first | apply hK3 | refine ⟨by first | exact sd | ((repeat' apply And.intro) <;> first | assumption | omega | (simp only [List.length_append, List.length_map, List.length_cons, List.length_nil, List.length_set, List.length_replicate] at c_2 c_3 ⊢; omega)), hK3 _ _ ?_⟩
 refine cM hm (fun hc4 hm => ?_) (fun hc4 hm => ?_)
 ·refine qS ?_
  refine Wp.ret ?_
  refine retQ_ret ?_
  cases hm
  exact fse2
 ·refine Wp.skip ?_
  refine hK2 _ _ ?_
  refine qS ?_
  refine Wp.seqW fun K7 hK7 hW7 => ?_
  obtain ⟨k_65, hk_65, hm⟩ := jp_elim hm
  have hcut7 : ∀ s, k_65 s = some z → K7 [(0, .p (.s s_1)), (4, .buf 0)] [.buf 5 1 (List.map ecI_u8 s)] := by
   intro o0_64 hs
   have hm := hk_65 _ hs
   clear hs
   try dsimp only at hm
   try dsimp only
   refine hK7 _ _ ?_
   refine Wp.seqW fun K8 hK8 hW8 => ?_
   obtain ⟨r_66, hr_66, hm⟩ := call_elim hm
   refine Wp.seqR fun K9 hK9 => ?_
   simp only [go_sem, simprocAttr]
   try refine ⟨sd, ?_⟩
   refine Rg.callX (av := ?av10) (g := true) (fun hg => ok_R_Quote (Go.Vc.strOf o0_64) _ hr_66) si si si sg si ?cont10
   intro hv10
   simp only [go_sem, simprocAttr]
   first | apply hK9 | refine ⟨sd, hK9 _ _ ?_⟩
   refine cM hm (fun hc11 hm => ?_) (fun hc11 hm => ?_)
   ·refine qS ?_
    refine Wp.ret ?_
    refine retQ_ret ?_
    cases hm
    exact fse2
   ·refine Wp.skip ?_
    refine hK8 _ _ ?_
    refine qS ?_
    refine Wp.ret ?_
    refine retQ_ret ?_
    cases hm
    exact fse2
  clear hK7 hk_65
  obtain ⟨c_67, hm⟩ := chk_elim hm
  refine Wp.seqR fun K14 hK14 => ?_
  simp only [go_sem, simprocAttr]
  first | apply hK14 | refine ⟨by first | exact sd | ((repeat' apply And.intro) <;> first | assumption | omega | (simp only [List.length_append, List.length_map, List.length_cons, List.length_nil, List.length_set, List.length_replicate] at c_67 ⊢; omega)), hK14 _ _ ?_⟩
  refine Wp.block ?_
  refine Wp.adoptF 4 5 1 rfl ?_
  simp only [go_sem, simprocAttr]
  obtain ⟨k_107, hk_107, hm⟩ := loopN_cont hm
  refine Wp.loopN (fun s => [(0, .p (.s s_1)), (4, .buf 0), (5, .p (.s s.1))]) (fun s => [.buf 5 1 (List.map ecI_u8 s.2)]) ?_ hm ?_
  ·
   exact fse2
  clear hm
  intro s nx_108 hm
  obtain ⟨b_87, o0_88⟩ := s
  try dsimp only at hm
  try dsimp only
  refine Wp.seqW fun K15 hK15 hW15 => ?_
  refine qS ?_
  refine cM hm (fun hc17 hm => ?_) (fun hc17 hm => ?_)
  ·refine Wp.skip ?_
   refine hK15 _ _ ?_
   refine Wp.block ?_
   refine Wp.seqW fun K18 hK18 hW18 => ?_
   obtain ⟨c_109, hbc_109, hxc_109, hm⟩ := idxS_elim hm
   replace hxc_109 : ((b_87.getD 0 0).toNat : Int) = c_109 := hxc_109
   refine Wp.seqR fun K19 hK19 => ?_
   simp only [go_sem, simprocAttr, hxc_109]
   first | apply hK19 | refine ⟨sd, hK19 _ _ ?_⟩
   refine cM hm (fun hc20 hm => ?_) (fun hc20 hm => ?_)
   ·obtain ⟨c_110, hm⟩ := chk_elim hm
    refine Wp.seqR fun K21 hK21 => ?_
    simp only [go_sem, simprocAttr, hxc_109]
    first | apply hK21 | refine ⟨by first | exact sd | ((repeat' apply And.intro) <;> first | assumption | omega | (simp only [List.length_append, List.length_map, List.length_cons, List.length_nil, List.length_set, List.length_replicate] at c_110 ⊢; omega)), hK21 _ _ ?_⟩
    obtain ⟨c_111, hm⟩ := chk_elim hm
    refine Wp.seqR fun K22 hK22 => ?_
    simp only [go_sem, simprocAttr, hxc_109]
    first | apply hK22 | refine ⟨by first | exact sd | ((repeat' apply And.intro) <;> first | assumption | omega | (simp only [List.length_append, List.length_map, List.length_cons, List.length_nil, List.length_set, List.length_replicate] at c_111 ⊢; omega)), hK22 _ _ ?_⟩
    refine Wp.exit ?_
    simp only [thenQ, blockQ, ↓reduceIte]
    refine ⟨(List.drop 1 b_87, o0_88 ++ [c_109]), hm, ?_⟩
    simp only [go_sem, simprocAttr, hxc_109]
    try exact se2
   ·refine Wp.skip ?_
    refine hK18 _ _ ?_
    refine Wp.block ?_
    obtain ⟨c_112, hm⟩ := chk_elim hm
    obtain ⟨c_113, hm⟩ := chk_elim hm
    refine Wp.seqR fun K23 hK23 => ?_
    simp only [go_sem, simprocAttr, hxc_109]
    first | apply hK23 | refine ⟨by first | exact sd | ((repeat' apply And.intro) <;> first | assumption | omega | (simp only [List.length_append, List.length_map, List.length_cons, List.length_nil, List.length_set, List.length_replicate] at c_112 c_113 ⊢; omega)), hK23 _ _ ?_⟩
    refine cM hm (fun hc24 hm => ?_) (fun hc24 hm => ?_)
    ·obtain ⟨c_114, hbc_114, hxc_114, hm⟩ := idxS_elim hm
     replace hxc_114 : ((b_87.getD 1 0).toNat : Int) = c_114 := hxc_114
     obtain ⟨c_115, hm⟩ := chk_elim hm
     refine Wp.seqR fun K25 hK25 => ?_
     simp only [go_sem, simprocAttr, hxc_109, hxc_114]
     first | apply hK25 | refine ⟨by first | exact sd | ((repeat' apply And.intro) <;> first | assumption | omega | (simp only [List.length_append, List.length_map, List.length_cons, List.length_nil, List.length_set, List.length_replicate] at c_115 ⊢; omega)), hK25 _ _ ?_⟩
     obtain ⟨c_116, hm⟩ := chk_elim hm
     refine Wp.region fun K26 hK26 => ?_
     simp only [go_sem, simprocAttr, hxc_109, hxc_114]
     first | apply hK26 | refine ⟨by first | exact sd | ((repeat' apply And.intro) <;> first | assumption | omega | (simp only [List.length_append, List.length_map, List.length_cons, List.length_nil, List.length_set, List.length_replicate] at c_116 ⊢; omega)), hK26 _ _ ?_⟩
     simp only [thenQ, blockQ, ↓reduceIte]
     refine ⟨(List.drop 2 b_87, o0_88 ++ [c_114]), hm, ?_⟩
     simp only [go_sem, simprocAttr, hxc_109, hxc_114]
     try exact se2
    ·obtain ⟨c_117, hm⟩ := chk_elim hm
     refine Wp.seqR fun K27 hK27 => ?_
     simp only [go_sem, simprocAttr, hxc_109]
     first | apply hK27 | refine ⟨by first | exact sd | ((repeat' apply And.intro) <;> first | assumption | omega | (simp only [List.length_append, List.length_map, List.length_cons, List.length_nil, List.length_set, List.length_replicate] at c_117 ⊢; omega)), hK27 _ _ ?_⟩
     refine cM hm (fun hc28 hm => ?_) (fun hc28 hm => ?_)
     ·obtain ⟨c_118, hm⟩ := chk_elim hm
      refine Wp.seqR fun K29 hK29 => ?_
      simp only [go_sem, simprocAttr, hxc_109]
      first | apply hK29 | refine ⟨by first | exact sd | ((repeat' apply And.intro) <;> first | assumption | omega | (simp only [List.length_append, List.length_map, List.length_cons, List.length_nil, List.length_set, List.length_replicate] at c_118 ⊢; omega)), hK29 _ _ ?_⟩
      obtain ⟨c_119, hm⟩ := chk_elim hm
      refine Wp.region fun K30 hK30 => ?_
      simp only [go_sem, simprocAttr, hxc_109]
      first | apply hK30 | refine ⟨by first | exact sd | ((repeat' apply And.intro) <;> first | assumption | omega | (simp only [List.length_append, List.length_map, List.length_cons, List.length_nil, List.length_set, List.length_replicate] at c_119 ⊢; omega)), hK30 _ _ ?_⟩
      simp only [thenQ, blockQ, ↓reduceIte]
      refine ⟨(List.drop 2 b_87, o0_88 ++ [10]), hm, ?_⟩
      simp only [go_sem, simprocAttr, hxc_109]
      try exact se2
     ·obtain ⟨c_120, hm⟩ := chk_elim hm
      refine Wp.seqR fun K31 hK31 => ?_
      simp only [go_sem, simprocAttr, hxc_109]
      first | apply hK31 | refine ⟨by first | exact sd | ((repeat' apply And.intro) <;> first | assumption | omega | (simp only [List.length_append, List.length_map, List.length_cons, List.length_nil, List.length_set, List.length_replicate] at c_120 ⊢; omega)), hK31 _ _ ?_⟩
      refine cM hm (fun hc32 hm => ?_) (fun hc32 hm => ?_)
      ·obtain ⟨c_121, hm⟩ := chk_elim hm
       obtain ⟨r_122, hr_122, hm⟩ := call_elim hm
       obtain ⟨c_123, hm⟩ := chk_elim hm
       obtain ⟨r_124, hr_124, hm⟩ := call_elim hm
       refine Wp.seqD (plan := [(0, none), (1, none), (2, none), (3, none), (4, none), (5, none), (6, none), (7, none), (8, none)]) (by kernel_rfl) rfl (by kernel_rfl) fun K33 hK33 => ?_
       simp only [go_sem, simprocAttr, hxc_109]
       try refine ⟨by first | exact sd | ((repeat' apply And.intro) <;> first | assumption | omega | (simp only [List.length_append, List.length_map, List.length_cons, List.length_nil, List.length_set, List.length_replicate] at c_121 c_123 ⊢; omega)), ?_⟩
       refine Dr.callF (av := ?av34) (g := true) (o := ?o34) (fun hg => ok_strings_Index ([48, 49, 50, 51, 52, 53, 54, 55, 56, 57, 97, 98, 99, 100, 101, 102] : Str) (List.take (3 - 2) (List.drop 2 b_87)) _ hr_122) (by simp only [go_sem, simprocAttr, hxc_109]; exact Is.mk) (by simp only [go_sem, simprocAttr, hxc_109]; exact Is.mk) (by simp only [go_sem, simprocAttr, hxc_109]; exact Is.mk) (by simp only [go_sem, simprocAttr, hxc_109]; exact Is.mk) (by simp only [go_sem, simprocAttr, hxc_109]) (by simp only [go_sem, simprocAttr, hxc_109]; exact Is.mk) ?cont34
       simp only [go_sem, simprocAttr, hxc_109]
       try refine ⟨by first | exact sd | ((repeat' apply And.intro) <;> first | assumption | omega | (simp only [List.length_append, List.length_map, List.length_cons, List.length_nil, List.length_set, List.length_replicate] at c_121 c_123 ⊢; omega)), ?_⟩
       refine Dr.callF (av := ?av35) (g := true) (o := ?o35) (fun hg => ok_strings_Index ([48, 49, 50, 51, 52, 53, 54, 55, 56, 57, 97, 98, 99, 100, 101, 102] : Str) (List.take (4 - 3) (List.drop 3 b_87)) _ hr_124) (by simp only [go_sem, simprocAttr, hxc_109]; exact Is.mk) (by simp only [go_sem, simprocAttr, hxc_109]; exact Is.mk) (by simp only [go_sem, simprocAttr, hxc_109]; exact Is.mk) (by simp only [go_sem, simprocAttr, hxc_109]; exact Is.mk) (by simp only [go_sem, simprocAttr, hxc_109]) (by simp only [go_sem, simprocAttr, hxc_109]; exact Is.mk) ?cont35
       simp only [go_sem, simprocAttr, hxc_109]
       first | apply hK33 | refine ⟨by first | exact sd | ((repeat' apply And.intro) <;> first | assumption | omega | (simp only [List.length_append, List.length_map, List.length_cons, List.length_nil, List.length_set, List.length_replicate] at c_121 c_123 ⊢; omega)), hK33 _ _ ?_⟩
       obtain ⟨c_125, hm⟩ := chk_elim hm
       refine Wp.seqR fun K36 hK36 => ?_
       simp only [go_sem, simprocAttr, hxc_109]
       first | apply hK36 | refine ⟨by first | exact sd | ((repeat' apply And.intro) <;> first | assumption | omega | (simp only [List.length_append, List.length_map, List.length_cons, List.length_nil, List.length_set, List.length_replicate] at c_125 ⊢; omega)), hK36 _ _ ?_⟩
       obtain ⟨c_126, hm⟩ := chk_elim hm
       refine Wp.region fun K37 hK37 => ?_
       simp only [go_sem, simprocAttr, hxc_109]
       first | apply hK37 | refine ⟨by first | exact sd | ((repeat' apply And.intro) <;> first | assumption | omega | (simp only [List.length_append, List.length_map, List.length_cons, List.length_nil, List.length_set, List.length_replicate] at c_126 ⊢; omega)), hK37 _ _ ?_⟩
       simp only [thenQ, blockQ, ↓reduceIte]
       refine ⟨(List.drop 4 b_87, o0_88 ++ [IntKind.u8.wrap (IntKind.i64.wrap ((IntKind.i64.wrap (r_122 * 16)) + r_124))]), hm, ?_⟩
       simp only [go_sem, simprocAttr, hxc_109]
       try exact se2
      ·refine Wp.seqR fun K38 hK38 => ?_
       simp only [go_sem, simprocAttr, hxc_109]
       first | apply hK38 | refine ⟨sd, hK38 _ _ ?_⟩
       refine Wp.ret ?_
       refine retQ_ret ?_
       cases hm
       simp only [go_sem, simprocAttr, hxc_109]
       try exact se2
  ·refine Wp.exit ?_
   simp only [thenQ, blockQ, ↓reduceIte]
   have hm := hk_107 _ hm
   try dsimp only at hm
   refine hW7 _ _ _ _ ?_ (hcut7 o0_88 hm)
   exact fse2
theorem ok_disk_settingLine (word_1 : Str) (s_2 : api_Setting) (z : Str) (hm : disk_settingLine word_1 s_2 = some z) : Does Tryz.prog 144 [.p (.s word_1), .agg [.p (.s s_2.Key), .p (.s s_2.Value)]] [] (fun r X => r = .p (.s z) ∧ X = []) := by
 unfold disk_settingLine at hm
 refine Does.of_wp 0 16 [.tmp 4] Tryz.func144 rfl (by decide) rfl rfl (Nat.le_of_ble_eq_true rfl) fun B => ?_
 refine qS ?_
 obtain ⟨c_3, hm⟩ := chk_elim hm
 obtain ⟨c_4, hm⟩ := chk_elim hm
 obtain ⟨c_5, hm⟩ := chk_elim hm
 obtain ⟨r_6, hr_6, hm⟩ := call_elim hm
 obtain ⟨c_7, hm⟩ := chk_elim hm
 obtain ⟨c_8, hm⟩ := chk_elim hm
 refine Wp.seqD (plan := [(0, none), (1, none), (2, none), (3, none), (4, none), (5, none), (6, none), (7, none), (8, none), (9, none), (10, none), (11, none)]) (by kernel_rfl) rfl (by kernel_rfl) fun K2 hK2 => ?_
 simp only [go_sem, simprocAttr]
 try refine ⟨by first | exact sd | ((repeat' apply And.intro) <;> first | assumption | omega | (simp only [List.length_append, List.length_map, List.length_cons, List.length_nil, List.length_set, List.length_replicate] at c_3 c_4 c_5 c_7 c_8 ⊢; omega)), ?_⟩
 refine Dr.callF (av := ?av3) (g := true) (o := ?o3) (fun hg => ok_disk_Quote s_2.Value _ hr_6) si si si si sg si ?cont3
 simp only [go_sem, simprocAttr]
 first | apply hK2 | refine ⟨by first | exact sd | ((repeat' apply And.intro) <;> first | assumption | omega | (simp only [List.length_append, List.length_map, List.length_cons, List.length_nil, List.length_set, List.length_replicate] at c_3 c_4 c_5 c_7 c_8 ⊢; omega)), hK2 _ _ ?_⟩
 refine Wp.ret ?_
 refine retQ_ret ?_
 cases hm
 exact fse2
theorem ok_strings_Builder_copyCheck_i1 (o1_1 : Str) (z : Unit) (hm : strings_Builder_copyCheck_i1 o1_1 = some z) : Does Tryz.prog 149 [.ptr 0 0] [.cells 122 [.nil, .buf 1], .sb 5 o1_1] (fun r X => r = .tup [] ∧ X = [.cells 122 [.ptr 0 0, .buf 1], .sb 5 o1_1]) := by
 unfold strings_Builder_copyCheck_i1 at hm
 refine Does.of_wp 2 20 [] Tryz.func149 rfl (by decide) rfl rfl (Nat.le_of_ble_eq_true rfl) fun B => ?_
 refine qS ?_
 refine Wp.cond rfl ⟨⟩ (fun hc2 => ?_) (fun hc2 => ?_)
 rotate_left
 ·cases hc2
 refine Wp.region fun K3 hK3 => ?_
 simp only [go_sem, simprocAttr]
 try refine ⟨sd, ?_⟩
 refine Rg.callI (v := ?av4) (g := true) nvi_188 si si sg ?cont4
 simp only [go_sem, simprocAttr]
 first | apply hK3 | refine ⟨sd, hK3 _ _ ?_⟩
 refine retQ_normal ?_
 cases hm
 exact fse2
theorem ok_strings_Builder_copyCheck_i2 (o1_1 : Str) (z : Unit) (hm : strings_Builder_copyCheck_i2 o1_1 = some z) : Does Tryz.prog 149 [.ptr 0 0] [.cells 122 [.ptr 0 0, .buf 1], .sb 5 o1_1] (fun r X => r = .tup [] ∧ X = [.cells 122 [.ptr 0 0, .buf 1], .sb 5 o1_1]) := by
 unfold strings_Builder_copyCheck_i2 at hm
 refine Does.of_wp 2 20 [] Tryz.func149 rfl (by decide) rfl rfl (Nat.le_of_ble_eq_true rfl) fun B => ?_
 refine qS ?_
 refine Wp.cond rfl ⟨⟩ (fun hc2 => ?_) (fun hc2 => ?_)
 ·cases hc2
 refine qS ?_
 refine Wp.cond rfl ⟨⟩ (fun hc4 => ?_) (fun hc4 => ?_)
 ·cases hc4
 refine Wp.skip ?_
 refine retQ_normal ?_
 cases hm
 exact fse2
theorem ok_strings_Builder_copyCheck_np (o0 : Str) (z : Unit) (hm : strings_Builder_copyCheck_np o0 = some z) : Does Tryz.prog 149 [.ptr 0 0] [.cells 122 [.np 0, .buf 1], .sb 5 o0] (fun r X => r = .tup [] ∧ X = [.cells 122 [.np 0, .buf 1], .sb 5 o0]) :=
 Does.np (ok_strings_Builder_copyCheck_i1 o0 () rfl) (ok_strings_Builder_copyCheck_i2 o0 () rfl)
theorem ok_strings_Builder_WriteString_i1 (s_1 : Str) (o1_2 : Str) (z : Int × Str) (hm : strings_Builder_WriteString_i1 s_1 o1_2 = some z) : Does Tryz.prog 95 [.ptr 0 0, .p (.s s_1)] [.cells 122 [.np 0, .buf 1], .sb 5 o1_2] (fun r X => r = .tup [.p (.i .i64 z.1), .raw .nilIface] ∧ X = [.cells 122 [.np 0, .buf 1], .sb 5 z.2]) := by
 unfold strings_Builder_WriteString_i1 at hm
 refine Does.of_wp 2 19 [.tmp 4, .tmp 5] Tryz.func95 rfl (by decide) rfl rfl (Nat.le_of_ble_eq_true rfl) fun B => ?_
 refine qS ?_
 obtain ⟨r_5, hr_5, hm⟩ := call_elim hm
 refine Wp.seqR fun K2 hK2 => ?_
 simp only [go_sem, simprocAttr]
 try refine ⟨sd, ?_⟩
 refine Rg.callO (av := ?av3) [0, 1] (ok_strings_Builder_copyCheck_np o1_2 _ hr_5) si si si sg sg ?cont3
 rintro _ _ ⟨rfl, rfl⟩ hv3
 simp only [go_sem, simprocAttr]
 first | apply hK2 | refine ⟨sd, hK2 _ _ ?_⟩
 obtain ⟨c_6, hm⟩ := chk_elim hm
 refine Wp.seqR fun K4 hK4 => ?_
 simp only [go_sem, simprocAttr]
 first | apply hK4 | refine ⟨by first | exact sd | ((repeat' apply And.intro) <;> first | assumption | omega | (simp only [List.length_append, List.length_map, List.length_cons, List.length_nil, List.length_set, List.length_replicate] at c_6 ⊢; omega)), hK4 _ _ ?_⟩
 refine qS ?_
 refine Wp.ret ?_
 refine retQ_ret ?_
 cases hm
 exact fse2
theorem ok_disk_fileLine (word_1 : Str) (runs_2 : Str) (f_3 : api_File) (z : Str) (hm : disk_fileLine word_1 runs_2 f_3 = some z) : Does Tryz.prog 145 [.p (.s word_1), .p (.s runs_2), .agg [.p (.s f_3.Path), .p (.s f_3.Data), .p (.b f_3.Runs)]] [] (fun r X => r = .p (.s z) ∧ X = []) := by
 unfold disk_fileLine at hm
 refine Does.of_wp 0 21 [.tmp 6] Tryz.func145 rfl (by decide) rfl rfl (Nat.le_of_ble_eq_true rfl) fun B => ?_
 refine qS ?_
 refine Wp.seqW fun K2 hK2 hW2 => ?_
 obtain ⟨k_5, hk_5, hm⟩ := jp_elim hm
 have hcut2 : ∀ s, k_5 s = some z → K2 [(0, .p (.s s)), (5, .ptr 0 0)] [.cells 37 [.p (.s f_3.Path), .p (.s f_3.Data), .p (.b f_3.Runs)]] := by
  intro word_4 hs
  have hm := hk_5 _ hs
  clear hs
  try dsimp only at hm
  try dsimp only
  refine hK2 _ _ ?_
  obtain ⟨c_6, hm⟩ := chk_elim hm
  obtain ⟨c_7, hm⟩ := chk_elim hm
  obtain ⟨c_8, hm⟩ := chk_elim hm
  obtain ⟨r_9, hr_9, hm⟩ := call_elim hm
  obtain ⟨c_10, hm⟩ := chk_elim hm
  obtain ⟨c_11, hm⟩ := chk_elim hm
  refine Wp.seqD (plan := [(0, none), (1, none), (2, none), (3, none), (4, none), (5, none), (6, none), (7, none), (8, none), (9, none), (10, none), (11, none)]) (by kernel_rfl) rfl (by kernel_rfl) fun K3 hK3 => ?_
  simp only [go_sem, simprocAttr]
  try refine ⟨by first | exact sd | ((repeat' apply And.intro) <;> first | assumption | omega | (simp only [List.length_append, List.length_map, List.length_cons, List.length_nil, List.length_set, List.length_replicate] at c_6 c_7 c_8 c_10 c_11 ⊢; omega)), ?_⟩
  refine Dr.callF (av := ?av4) (g := true) (o := ?o4) (fun hg => ok_disk_Quote f_3.Data _ hr_9) si si si si sg si ?cont4
  simp only [go_sem, simprocAttr]
  first | apply hK3 | refine ⟨by first | exact sd | ((repeat' apply And.intro) <;> first | assumption | omega | (simp only [List.length_append, List.length_map, List.length_cons, List.length_nil, List.length_set, List.length_replicate] at c_6 c_7 c_8 c_10 c_11 ⊢; omega)), hK3 _ _ ?_⟩
  refine Wp.ret ?_
  refine retQ_ret ?_
  cases hm
  exact fse2
 clear hK2 hk_5
 refine qS ?_
 refine cM hm (fun hc6 hm => ?_) (fun hc6 hm => ?_)
 ·refine qR ?_
  refine hW2 _ _ _ _ ?_ (hcut2 runs_2 hm)
  exact fse2
 ·refine Wp.skip ?_
  refine hW2 _ _ _ _ ?_ (hcut2 word_1 hm)
  exact fse2
theorem ok_disk_bit (b_1 : Bool) (z : Str) (hm : disk_bit b_1 = some z) : Does Tryz.prog 185 [.p (.b b_1)] [] (fun r X => r = .p (.s z) ∧ X = []) := by
 unfold disk_bit at hm
 refine Does.of_wp 0 4 [.tmp 2] Tryz.func185 rfl (by decide) rfl rfl (Nat.le_of_ble_eq_true rfl) fun B => ?_
 refine qS ?_
 refine Wp.seqW fun K2 hK2 hW2 => ?_
 refine qS ?_
 refine cM hm (fun hc4 hm => ?_) (fun hc4 hm => ?_)
 ·refine qS ?_
  refine Wp.ret ?_
  refine retQ_ret ?_
  cases hm
  exact fse2
 ·refine Wp.skip ?_
  refine hK2 _ _ ?_
  refine qS ?_
  refine Wp.ret ?_
  refine retQ_ret ?_
  cases hm
  exact fse2
theorem ok_disk_serviceLine (s_1 : api_Service) (z : Str) (hm : disk_serviceLine s_1 = some z) : Does Tryz.prog 146 [.agg [.p (.s s_1.Name), .p (.s s_1.Path), .p (.b s_1.Auto), .p (.b s_1.On)]] [] (fun r X => r = .p (.s z) ∧ X = []) := by
 unfold disk_serviceLine at hm
 refine Does.of_wp 0 21 [.tmp 2] Tryz.func146 rfl (by decide) rfl rfl (Nat.le_of_ble_eq_true rfl) fun B => ?_
 refine qS ?_
 obtain ⟨c_2, hm⟩ := chk_elim hm
 obtain ⟨c_3, hm⟩ := chk_elim hm
 obtain ⟨c_4, hm⟩ := chk_elim hm
 obtain ⟨c_5, hm⟩ := chk_elim hm
 obtain ⟨r_6, hr_6, hm⟩ := call_elim hm
 obtain ⟨c_7, hm⟩ := chk_elim hm
 obtain ⟨c_8, hm⟩ := chk_elim hm
 obtain ⟨r_9, hr_9, hm⟩ := call_elim hm
 obtain ⟨c_10, hm⟩ := chk_elim hm
 obtain ⟨c_11, hm⟩ := chk_elim hm
 refine Wp.seqD (plan := [(0, none), (1, none), (2, none), (3, none), (4, none), (5, none), (6, none), (7, none), (8, none), (9, none), (10, none), (11, none), (12, none), (13, none), (14, none), (15, none), (16, none), (17, none), (18, none)]) (by kernel_rfl) rfl (by kernel_rfl) fun K2 hK2 => ?_
 simp only [go_sem, simprocAttr]
 try refine ⟨by first | exact sd | ((repeat' apply And.intro) <;> first | assumption | omega | (simp only [List.length_append, List.length_map, List.length_cons, List.length_nil, List.length_set, List.length_replicate] at c_2 c_3 c_4 c_5 c_7 c_8 c_10 c_11 ⊢; omega)), ?_⟩
 refine Dr.callF (av := ?av3) (g := true) (o := ?o3) (fun hg => ok_disk_bit s_1.Auto _ hr_6) si si si si sg si ?cont3
 simp only [go_sem, simprocAttr]
 try refine ⟨by first | exact sd | ((repeat' apply And.intro) <;> first | assumption | omega | (simp only [List.length_append, List.length_map, List.length_cons, List.length_nil, List.length_set, List.length_replicate] at c_2 c_3 c_4 c_5 c_7 c_8 c_10 c_11 ⊢; omega)), ?_⟩
 refine Dr.callF (av := ?av4) (g := true) (o := ?o4) (fun hg => ok_disk_bit s_1.On _ hr_9) si si si si sg si ?cont4
 simp only [go_sem, simprocAttr]
 first | apply hK2 | refine ⟨by first | exact sd | ((repeat' apply And.intro) <;> first | assumption | omega | (simp only [List.length_append, List.length_map, List.length_cons, List.length_nil, List.length_set, List.length_replicate] at c_2 c_3 c_4 c_5 c_7 c_8 c_10 c_11 ⊢; omega)), hK2 _ _ ?_⟩
 refine Wp.ret ?_
 refine retQ_ret ?_
 cases hm
 exact fse2
theorem ok_strings_Builder_String_i1 (o1_1 : Str) (z : Str) (hm : strings_Builder_String_i1 o1_1 = some z) : Does Tryz.prog 97 [.ptr 0 0] [.cells 122 [.np 0, .buf 1], .sb 5 o1_1] (fun r X => r = .p (.s z) ∧ X = [.cells 122 [.np 0, .buf 1], .sb 5 o1_1]) := by
 unfold strings_Builder_String_i1 at hm
 refine Does.of_wp 2 14 [.tmp 2] Tryz.func97 rfl (by decide) rfl rfl (Nat.le_of_ble_eq_true rfl) fun B => ?_
 refine qS ?_
 refine Wp.seqD (plan := [(0, none), (1, none), (2, none), (3, none), (5, none), (6, none), (7, none), (8, none), (9, none), (4, some [5, 6, 7, 8, 9]), (10, some []), (11, none)]) (by kernel_rfl) rfl (by kernel_rfl) fun K2 hK2 => ?_
 simp only [go_sem, simprocAttr]
 first | apply hK2 | refine ⟨sd, hK2 _ _ ?_⟩
 refine Wp.ret ?_
 refine retQ_ret ?_
 cases hm
 exact fse2
end Go.Proofs.YtbfemlilfeahkaaGreatDoor
