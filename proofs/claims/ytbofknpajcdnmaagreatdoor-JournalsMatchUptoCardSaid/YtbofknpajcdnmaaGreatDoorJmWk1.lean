/- That the code does what the models say (part 1). -/
import Derived.Test.YtbofknpajcdnmaaGreatDoorJmWk0
set_option linter.unusedSimpArgs false
set_option linter.unusedVariables false
open Go.Proofs Go.Shelf
namespace Go.Proofs.YtbofknpajcdnmaaGreatDoor
open Go.Vc Go.Md
set_option maxRecDepth 100000
set_option maxHeartbeats 4000000
theorem ok_ver_isSmall (c_1:Int) (z:Bool) (hm:ver_isSmall c_1=some z):Does Tryz.prog 131 [.p (.i .u8 c_1)] [] (fun r X=>r=.p (.b z)∧X=[]):=by
 unfold ver_isSmall at hm
 refine Does.of_wp 0 9 [.tmp 2] Tryz.func131 rfl (by decide) rfl rfl (Nat.le_of_ble_eq_true rfl) fun B=>?_
 refine qS ?_
 refine qS ?_
 refine Wp.ret ?_
 refine retQ_ret ?_
 cases hm
 exact fse1
theorem ok_ver_isDigit (c_1:Int) (z:Bool) (hm:ver_isDigit c_1=some z):Does Tryz.prog 132 [.p (.i .u8 c_1)] [] (fun r X=>r=.p (.b z)∧X=[]):=by
 unfold ver_isDigit at hm
 refine Does.of_wp 0 9 [.tmp 2] Tryz.func132 rfl (by decide) rfl rfl (Nat.le_of_ble_eq_true rfl) fun B=>?_
 refine qS ?_
 refine qS ?_
 refine Wp.ret ?_
 refine retQ_ret ?_
 cases hm
 exact fse1
theorem ok_ver_IsName_1 (c_1:Int) (z:Bool) (hm:ver_IsName_1 c_1=some z):Does Tryz.prog 130 [.p (.i .u8 c_1)] [] (fun r X=>r=.p (.b z)∧X=[]):=by
 unfold ver_IsName_1 at hm
 refine Does.of_wp 0 17 [.tmp 2] Tryz.func130 rfl (by decide) rfl rfl (Nat.le_of_ble_eq_true rfl) fun B=>?_
 refine qS ?_
 obtain ⟨r_2,hr_2,hm⟩:=call_elim hm
 obtain ⟨r_3,hr_3,hm⟩:=callG_elim hm
 refine Wp.seqR fun K2 hK2=>?_
 simp only [go_sem,simprocAttr]
 try refine ⟨sd,?_⟩
 refine Rg.callX (av:=?av3) (g:=true) (fun hg=>ok_ver_isSmall c_1 _ hr_2) si si si sg si ?cont3
 intro hv3
 simp only [go_sem,simprocAttr]
 try refine ⟨sd,?_⟩
 refine Rg.callX (av:=?av4) (g:=!r_2) (fun hg=>ok_ver_isDigit c_1 _ (hr_3 hg)) si si si sg si ?cont4
 intro hv4
 simp only [go_sem,simprocAttr]
 first | apply hK2 | refine ⟨sd,hK2 _ _ ?_⟩
 refine Wp.ret ?_
 refine retQ_ret ?_
 cases hm
 exact fse1
theorem ok_ver_each_i1 (s_1:Str) (most_2:Int) (z:Bool) (hm:ver_each_i1 s_1 most_2=some z):Does Tryz.prog 129 [.p (.s s_1),.p (.i .i64 most_2),.fn 130 []] [] (fun r X=>r=.p (.b z)∧X=[]):=by
 unfold ver_each_i1 at hm
 refine Does.of_wp 0 28 [.tmp 6] Tryz.func129 rfl (by decide) rfl rfl (Nat.le_of_ble_eq_true rfl) fun B=>?_
 refine qS ?_
 refine Wp.seqW fun K2 hK2 hW2=>?_
 obtain ⟨k_12,hk_12,hm⟩:=jp_elim hm
 have hcut2:∀ s,k_12 s=some z→K2 [(0,.p (.s s_1)),(1,.p (.i .i64 most_2))] []:=by
  intro s hs
  have hm:=hk_12 _ hs
  clear hs
  try dsimp only at hm
  try dsimp only
  refine hK2 _ _ ?_
  refine qS ?_
  refine Wp.ret ?_
  refine retQ_ret ?_
  cases hm
  exact fse1
 clear hK2 hk_12
 refine qS ?_
 refine Wp.block ?_
 obtain ⟨k_16,hk_16,hm⟩:=forL_cont hm
 refine Wp.fact 0 fun hl_19=>?_
 replace hl_19:s_1.length≤274877906944:=by
  simp only [go_sem,simprocAttr,List.length_map] at hl_19
  omega
 refine Wp.forL (fun i_18 s=>[(0,.p (.s s_1)),(1,.p (.i .i64 most_2)),(2,.fn 130 []),(7,.p (.i .i64 (i_18:Int)))]) (fun i_18 s=>[]) ?_ hm ?_
 ·
  exact fse1
 clear hm
 intro i_18 s hii_18 hm
 try dsimp only at hm
 try dsimp only
 refine Wp.seqW fun K5 hK5 hW5=>?_
 refine qS ?_
 refine Wp.cond rfl ⟨⟩ (fun hc5=>?_) (fun hc5=>?_)
 rotate_left
 ·refine Wp.exit ?_
  have hm:=hk_16 _ (forL_end hm (ge_nat (by first | exact hc5 | simpa using hc5)))
  try dsimp only at hm
  refine hW2 _ _ _ _ ?_ (hcut2 () hm)
  exact fse1
 have hlt5:=lt_nat (by first | exact hc5 | simpa using hc5)
 have hw5:=wrap_succ hlt5 hl_19
 obtain ⟨c_20,nx_17,hxc_20,hyc_20,hnx_17,hm⟩:=forL_step hm hlt5
 clear hxc_20
 refine Wp.skip ?_
 simp only [thenQ]
 refine hK5 _ _ ?_
 refine Wp.seqW fun K7 hK7 hW7=>?_
 refine Wp.block ?_
 obtain ⟨r_21,hr_21,hm⟩:=call_elim hm
 refine Wp.seqR fun K8 hK8=>?_
 simp only [go_sem,simprocAttr,hw5,hyc_20]
 try refine ⟨sd,?_⟩
 refine Rg.callX (av:=?av9) (g:=true) (fun hg=>ok_ver_IsName_1 (c_20.toNat:Int) _ hr_21) (by simp only [go_sem,simprocAttr,hw5,hyc_20]; exact Is.mk) (by simp only [go_sem,simprocAttr,hw5,hyc_20]; exact Is.mk) (by simp only [go_sem,simprocAttr,hw5,hyc_20]; exact Is.mk) (by simp only [go_sem,simprocAttr,hw5,hyc_20]) (by simp only [go_sem,simprocAttr,hw5,hyc_20]; exact Is.mk) ?cont9
 intro hv9
 simp only [go_sem,simprocAttr,hw5,hyc_20]
 first | apply hK8 | refine ⟨sd,hK8 _ _ ?_⟩
 refine cM hm (fun hc10 hm=>?_) (fun hc10 hm=>?_)
 ·refine Wp.seqR fun K11 hK11=>?_
  simp only [go_sem,simprocAttr,hw5,hyc_20]
  first | apply hK11 | refine ⟨sd,hK11 _ _ ?_⟩
  refine Wp.ret ?_
  refine retQ_ret ?_
  cases hm
  simp only [go_sem,simprocAttr,hw5,hyc_20]
  try exact se1
 ·refine Wp.skip ?_
  refine hK7 _ _ ?_
  refine Wp.region fun K12 hK12=>?_
  simp only [go_sem,simprocAttr,hw5,hyc_20]
  first | apply hK12 | refine ⟨sd,hK12 _ _ ?_⟩
  simp only [thenQ,blockQ,↓reduceIte]
  refine ⟨(),hlt5,hnx_17 _ hm,?_⟩
  simp only [go_sem,simprocAttr,hw5,hyc_20]
  try exact se1
theorem ok_ver_IsName (s_1:Str) (z:Bool) (hm:ver_IsName s_1=some z):Does Tryz.prog 57 [.p (.s s_1)] [] (fun r X=>r=.p (.b z)∧X=[]):=by
 unfold ver_IsName at hm
 refine Does.of_wp 0 10 [.tmp 2] Tryz.func57 rfl (by decide) rfl rfl (Nat.le_of_ble_eq_true rfl) fun B=>?_
 refine qS ?_
 obtain ⟨r_2,hr_2,hm⟩:=call_elim hm
 obtain ⟨c_3,hm⟩:=chk_elim hm
 obtain ⟨r_4,hr_4,hm⟩:=callG_elim hm
 refine Wp.seqR fun K2 hK2=>?_
 simp only [go_sem,simprocAttr]
 try refine ⟨by first | exact sd | ((repeat' apply And.intro) <;> first | assumption | omega | (simp only [List.length_append,List.length_map,List.length_cons,List.length_nil,List.length_set,List.length_replicate] at c_3 ⊢; omega)),?_⟩
 refine Rg.callX (av:=?av3) (g:=true) (fun hg=>ok_ver_each_i1 s_1 40 _ hr_2) si si si sg si ?cont3
 intro hv3
 simp only [go_sem,simprocAttr]
 try refine ⟨by first | exact sd | ((repeat' apply And.intro) <;> first | assumption | omega | (simp only [List.length_append,List.length_map,List.length_cons,List.length_nil,List.length_set,List.length_replicate] at c_3 ⊢; omega)),?_⟩
 refine Rg.callX (av:=?av4) (g:=r_2) (fun hg=>ok_ver_isSmall ((s_1.getD 0 0).toNat:Int) _ (hr_4 hg)) si si si sg si ?cont4
 intro hv4
 simp only [go_sem,simprocAttr]
 first | apply hK2 | refine ⟨by first | exact sd | ((repeat' apply And.intro) <;> first | assumption | omega | (simp only [List.length_append,List.length_map,List.length_cons,List.length_nil,List.length_set,List.length_replicate] at c_3 ⊢; omega)),hK2 _ _ ?_⟩
 refine Wp.ret ?_
 refine retQ_ret ?_
 cases hm
 exact fse1
theorem ok_Law_landed  (z:Bool) (hm:Law_landed=some z):Does Tryz.prog 10 [] [] (fun r X=>r=.p (.b z)∧X=[]):=by
 unfold Law_landed at hm
 refine Does.of_wp 0 2 [.tmp 0] Tryz.func10 rfl (by decide) rfl rfl (Nat.le_of_ble_eq_true rfl) fun B=>?_
 refine qS ?_
 obtain ⟨r_1,hr_1,hm⟩:=call_elim hm
 refine Wp.seqR fun K2 hK2=>?_
 simp only [go_sem,simprocAttr]
 try refine ⟨sd,?_⟩
 refine Rg.callX (av:=?av3) (g:=true) (fun hg=>ok_ver_IsName ([97]:Str) _ hr_1) si si si sg si ?cont3
 intro hv3
 simp only [go_sem,simprocAttr]
 first | apply hK2 | refine ⟨sd,hK2 _ _ ?_⟩
 refine Wp.ret ?_
 refine retQ_ret ?_
 cases hm
 exact fse1
theorem ok_R_IsName (s_1:Str) (z:Bool) (hm:R_IsName s_1=some z):Does Tryz.prog 49 [.p (.s s_1)] [] (fun r X=>r=.p (.b z)∧X=[]):=by
 unfold R_IsName at hm
 refine Does.of_wp 0 54 [.tmp 2] Tryz.func49 rfl (by decide) rfl rfl (Nat.le_of_ble_eq_true rfl) fun B=>?_
 refine qS ?_
 refine Wp.seqW fun K2 hK2 hW2=>?_
 obtain ⟨k_9,hk_9,hm⟩:=jp_elim hm
 have hcut2:∀ s,k_9 s=some z→K2 [(0,.p (.s s_1))] []:=by
  intro s hs
  have hm:=hk_9 _ hs
  clear hs
  try dsimp only at hm
  try dsimp only
  refine hK2 _ _ ?_
  refine qS ?_
  refine Wp.ret ?_
  refine retQ_ret ?_
  cases hm
  exact fse1
 clear hK2 hk_9
 refine qS ?_
 refine Wp.block ?_
 obtain ⟨k_12,hk_12,hm⟩:=forL_cont hm
 refine Wp.fact 0 fun hl_15=>?_
 replace hl_15:s_1.length≤274877906944:=by
  simp only [go_sem,simprocAttr,List.length_map] at hl_15
  omega
 refine Wp.forL (fun i_14 s=>[(0,.p (.s s_1)),(7,.p (.i .i64 (s_1.length:Int))),(8,.p (.i .i64 (i_14:Int)))]) (fun i_14 s=>[]) ?_ hm ?_
 ·
  exact fse1
 clear hm
 intro i_14 s hii_14 hm
 try dsimp only at hm
 try dsimp only
 refine qS ?_
 refine Wp.seqW fun K6 hK6 hW6=>?_
 refine Wp.cond rfl ⟨⟩ (fun hc6=>?_) (fun hc6=>?_)
 rotate_left
 ·refine Wp.exit ?_
  have hm:=hk_12 _ (forL_end hm (ge_nat (by first | exact hc6 | simpa using hc6)))
  try dsimp only at hm
  refine hW2 _ _ _ _ ?_ (hcut2 () hm)
  exact fse1
 have hlt6:=lt_nat (by first | exact hc6 | simpa using hc6)
 have hw6:=wrap_succ hlt6 hl_15
 obtain ⟨c_16,nx_13,hxc_16,hyc_16,hnx_13,hm⟩:=forL_step hm hlt6
 clear hxc_16
 refine Wp.skip ?_
 simp only [thenQ]
 refine hK6 _ _ ?_
 refine Wp.seqW fun K7 hK7 hW7=>?_
 refine Wp.block ?_
 refine Wp.seqR fun K8 hK8=>?_
 simp only [go_sem,simprocAttr,hw6,hyc_16]
 first | apply hK8 | refine ⟨sd,hK8 _ _ ?_⟩
 refine Wp.seqR fun K9 hK9=>?_
 simp only [go_sem,simprocAttr,hw6,hyc_16]
 first | apply hK9 | refine ⟨sd,hK9 _ _ ?_⟩
 refine Wp.seqR fun K10 hK10=>?_
 simp only [go_sem,simprocAttr,hw6,hyc_16]
 first | apply hK10 | refine ⟨sd,hK10 _ _ ?_⟩
 refine Wp.seqR fun K11 hK11=>?_
 simp only [go_sem,simprocAttr,hw6,hyc_16]
 first | apply hK11 | refine ⟨sd,hK11 _ _ ?_⟩
 refine cM hm (fun hc12 hm=>?_) (fun hc12 hm=>?_)
 ·refine Wp.seqR fun K13 hK13=>?_
  simp only [go_sem,simprocAttr,hw6,hyc_16]
  first | apply hK13 | refine ⟨sd,hK13 _ _ ?_⟩
  refine Wp.ret ?_
  refine retQ_ret ?_
  cases hm
  simp only [go_sem,simprocAttr,hw6,hyc_16]
  try exact se1
 ·refine Wp.skip ?_
  refine hK7 _ _ ?_
  refine Wp.region fun K14 hK14=>?_
  simp only [go_sem,simprocAttr,hw6,hyc_16]
  first | apply hK14 | refine ⟨sd,hK14 _ _ ?_⟩
  simp only [thenQ,blockQ,↓reduceIte]
  refine ⟨(),hlt6,hnx_13 _ hm,?_⟩
  simp only [go_sem,simprocAttr,hw6,hyc_16]
  try exact se1
theorem ok_R_when (bad_1:Bool) (e_2:Int) (z:Int) (hm:R_when bad_1 e_2=some z):Does Tryz.prog 59 [.p (.b bad_1),.p (.i .i64 e_2)] [] (fun r X=>r=.p (.i .i64 z)∧X=[]):=by
 unfold R_when at hm
 refine Does.of_wp 0 7 [.tmp 4] Tryz.func59 rfl (by decide) rfl rfl (Nat.le_of_ble_eq_true rfl) fun B=>?_
 refine qS ?_
 refine Wp.seqW fun K2 hK2 hW2=>?_
 refine qS ?_
 refine cM hm (fun hc4 hm=>?_) (fun hc4 hm=>?_)
 ·refine qS ?_
  refine Wp.ret ?_
  refine retQ_ret ?_
  cases hm
  exact fse1
 ·refine Wp.skip ?_
  refine hK2 _ _ ?_
  refine qS ?_
  refine Wp.ret ?_
  refine retQ_ret ?_
  cases hm
  exact fse1
theorem ok_R_IsValue (s_1:Str) (z:Bool) (hm:R_IsValue s_1=some z):Does Tryz.prog 61 [.p (.s s_1)] [] (fun r X=>r=.p (.b z)∧X=[]):=by
 unfold R_IsValue at hm
 refine Does.of_wp 0 23 [.tmp 2] Tryz.func61 rfl (by decide) rfl rfl (Nat.le_of_ble_eq_true rfl) fun B=>?_
 refine qS ?_
 refine Wp.seqW fun K2 hK2 hW2=>?_
 obtain ⟨k_9,hk_9,hm⟩:=jp_elim hm
 have hcut2:∀ s,k_9 s=some z→K2 [(0,.p (.s s_1))] []:=by
  intro s hs
  have hm:=hk_9 _ hs
  clear hs
  try dsimp only at hm
  try dsimp only
  refine hK2 _ _ ?_
  refine qS ?_
  refine Wp.ret ?_
  refine retQ_ret ?_
  cases hm
  exact fse1
 clear hK2 hk_9
 refine qS ?_
 refine Wp.block ?_
 obtain ⟨k_12,hk_12,hm⟩:=forL_cont hm
 refine Wp.fact 0 fun hl_15=>?_
 replace hl_15:s_1.length≤274877906944:=by
  simp only [go_sem,simprocAttr,List.length_map] at hl_15
  omega
 refine Wp.forL (fun i_14 s=>[(0,.p (.s s_1)),(5,.p (.i .i64 (s_1.length:Int))),(6,.p (.i .i64 (i_14:Int)))]) (fun i_14 s=>[]) ?_ hm ?_
 ·
  exact fse1
 clear hm
 intro i_14 s hii_14 hm
 try dsimp only at hm
 try dsimp only
 refine qS ?_
 refine Wp.seqW fun K6 hK6 hW6=>?_
 refine Wp.cond rfl ⟨⟩ (fun hc6=>?_) (fun hc6=>?_)
 rotate_left
 ·refine Wp.exit ?_
  have hm:=hk_12 _ (forL_end hm (ge_nat (by first | exact hc6 | simpa using hc6)))
  try dsimp only at hm
  refine hW2 _ _ _ _ ?_ (hcut2 () hm)
  exact fse1
 have hlt6:=lt_nat (by first | exact hc6 | simpa using hc6)
 have hw6:=wrap_succ hlt6 hl_15
 obtain ⟨c_16,nx_13,hxc_16,hyc_16,hnx_13,hm⟩:=forL_step hm hlt6
 clear hxc_16
 refine Wp.skip ?_
 simp only [thenQ]
 refine hK6 _ _ ?_
 refine Wp.seqW fun K7 hK7 hW7=>?_
 refine Wp.block ?_
 refine Wp.seqR fun K8 hK8=>?_
 simp only [go_sem,simprocAttr,hw6,hyc_16]
 first | apply hK8 | refine ⟨sd,hK8 _ _ ?_⟩
 refine Wp.seqR fun K9 hK9=>?_
 simp only [go_sem,simprocAttr,hw6,hyc_16]
 first | apply hK9 | refine ⟨sd,hK9 _ _ ?_⟩
 refine cM hm (fun hc10 hm=>?_) (fun hc10 hm=>?_)
 ·refine Wp.seqR fun K11 hK11=>?_
  simp only [go_sem,simprocAttr,hw6,hyc_16]
  first | apply hK11 | refine ⟨sd,hK11 _ _ ?_⟩
  refine Wp.ret ?_
  refine retQ_ret ?_
  cases hm
  simp only [go_sem,simprocAttr,hw6,hyc_16]
  try exact se1
 ·refine Wp.skip ?_
  refine hK7 _ _ ?_
  refine Wp.region fun K12 hK12=>?_
  simp only [go_sem,simprocAttr,hw6,hyc_16]
  first | apply hK12 | refine ⟨sd,hK12 _ _ ?_⟩
  simp only [thenQ,blockQ,↓reduceIte]
  refine ⟨(),hlt6,hnx_13 _ hm,?_⟩
  simp only [go_sem,simprocAttr,hw6,hyc_16]
  try exact se1
theorem ok_R_first (l_1:List Int) (z:Int) (hm:R_first l_1=some z):Does Tryz.prog 60 [.p (.l (List.map ecI_i64 l_1))] [] (fun r X=>r=.p (.i .i64 z)∧X=[]):=by
 unfold R_first at hm
 refine Does.of_wp 0 15 [.tmp 2] Tryz.func60 rfl (by decide) rfl rfl (Nat.le_of_ble_eq_true rfl) fun B=>?_
 refine qS ?_
 refine Wp.seqW fun K2 hK2 hW2=>?_
 obtain ⟨k_9,hk_9,hm⟩:=jp_elim hm
 have hcut2:∀ s,k_9 s=some z→K2 [] []:=by
  intro s hs
  have hm:=hk_9 _ hs
  clear hs
  try dsimp only at hm
  try dsimp only
  refine hK2 _ _ ?_
  refine qS ?_
  refine Wp.ret ?_
  refine retQ_ret ?_
  cases hm
  exact fse1
 clear hK2 hk_9
 refine qS ?_
 refine Wp.block ?_
 obtain ⟨k_12,hk_12,hm⟩:=forL_cont hm
 refine Wp.fact 5 fun hl_15=>?_
 replace hl_15:l_1.length≤274877906944:=by
  simp only [go_sem,simprocAttr,List.length_map] at hl_15
  omega
 refine Wp.forL (fun i_14 s=>[(5,.p (.l (List.map ecI_i64 l_1))),(6,.p (.i .i64 (l_1.length:Int))),(7,.p (.i .i64 (i_14:Int)))]) (fun i_14 s=>[]) ?_ hm ?_
 ·
  exact fse1
 clear hm
 intro i_14 s hii_14 hm
 try dsimp only at hm
 try dsimp only
 refine qS ?_
 refine Wp.seqW fun K6 hK6 hW6=>?_
 refine Wp.cond rfl ⟨⟩ (fun hc6=>?_) (fun hc6=>?_)
 rotate_left
 ·refine Wp.exit ?_
  have hm:=hk_12 _ (forL_end hm (ge_nat (by first | exact hc6 | simpa using hc6)))
  try dsimp only at hm
  refine hW2 _ _ _ _ ?_ (hcut2 () hm)
  exact fse1
 have hlt6:=lt_nat (by first | exact hc6 | simpa using hc6)
 have hw6:=wrap_succ hlt6 hl_15
 obtain ⟨e_16,nx_13,hxe_16,hye_16,hnx_13,hm⟩:=forL_step hm hlt6
 replace hxe_16:=hxe_16 ecI_i64
 refine Wp.skip ?_
 simp only [thenQ]
 refine hK6 _ _ ?_
 refine Wp.seqW fun K7 hK7 hW7=>?_
 refine Wp.block ?_
 refine Wp.seqR fun K8 hK8=>?_
 simp only [go_sem,simprocAttr,hw6,hxe_16]
 first | apply hK8 | refine ⟨sd,hK8 _ _ ?_⟩
 refine Wp.seqR fun K9 hK9=>?_
 simp only [go_sem,simprocAttr,hw6,hxe_16]
 first | apply hK9 | refine ⟨sd,hK9 _ _ ?_⟩
 refine cM hm (fun hc10 hm=>?_) (fun hc10 hm=>?_)
 ·refine Wp.seqR fun K11 hK11=>?_
  simp only [go_sem,simprocAttr,hw6,hxe_16]
  first | apply hK11 | refine ⟨sd,hK11 _ _ ?_⟩
  refine Wp.ret ?_
  refine retQ_ret ?_
  cases hm
  simp only [go_sem,simprocAttr,hw6,hxe_16]
  try exact se1
 ·refine Wp.skip ?_
  refine hK7 _ _ ?_
  refine Wp.region fun K12 hK12=>?_
  simp only [go_sem,simprocAttr,hw6,hxe_16]
  first | apply hK12 | refine ⟨sd,hK12 _ _ ?_⟩
  simp only [thenQ,blockQ,↓reduceIte]
  refine ⟨(),hlt6,hnx_13 _ hm,?_⟩
  simp only [go_sem,simprocAttr,hw6,hxe_16]
  try exact se1
theorem ok_internal_stringslite_IndexByte (s_1:Str) (c_2:Int) (z:Int) (hm:internal_stringslite_IndexByte s_1 c_2=some z):Does Tryz.prog 300 [.p (.s s_1),.p (.i .u8 c_2)] [] (fun r X=>r=.p (.i .i64 z)∧X=[]):=by
 unfold internal_stringslite_IndexByte at hm
 refine Does.of_wp 0 8 [.tmp 4] Tryz.func300 rfl (by decide) rfl rfl (Nat.le_of_ble_eq_true rfl) fun B=>?_
 refine qS ?_
 have hb_3:=ixByte_bd s_1 c_2
 refine Wp.seqR fun K2 hK2=>?_
 simp only [go_sem,simprocAttr]
 try refine ⟨sd,?_⟩
 refine Rg.callN (av:=?av3) (g:=true) (fun hg=>nv_321 s_1 c_2) si si si sg si ?cont3
 intro hv3
 simp only [go_sem,simprocAttr]
 first | apply hK2 | refine ⟨sd,hK2 _ _ ?_⟩
 refine Wp.ret ?_
 refine retQ_ret ?_
 cases hm
 exact fse1
theorem ok_internal_stringslite_Index (s_1:Str) (substr_2:Str) (z:Int) (hm:internal_stringslite_Index s_1 substr_2=some z):Does Tryz.prog 268 [.p (.s s_1),.p (.s substr_2)] [] (fun r X=>r=.p (.i .i64 z)∧X=[]):=by
 unfold internal_stringslite_Index at hm
 refine Does.of_wp 0 143 [.tmp 4] Tryz.func268 rfl (by decide) rfl rfl (Nat.le_of_ble_eq_true rfl) fun B=>?_
 refine qS ?_
 refine qS ?_
 refine Wp.seqW fun K3 hK3 hW3=>?_
 refine Wp.block ?_
 refine qS ?_
 refine cM hm (fun hc5 hm=>?_) (fun hc5 hm=>?_)
 ·refine qS ?_
  refine Wp.ret ?_
  refine retQ_ret ?_
  cases hm
  exact fse1
 ·refine qS ?_
  refine cM hm (fun hc8 hm=>?_) (fun hc8 hm=>?_)
  ·obtain ⟨c_3,hbc_3,hxc_3,hm⟩:=idxS_elim hm
   replace hxc_3:((substr_2.getD 0 0).toNat:Int)=c_3:=hxc_3
   obtain ⟨r_4,hr_4,hm⟩:=call_elim hm
   refine Wp.seqR fun K9 hK9=>?_
   simp only [go_sem,simprocAttr,hxc_3]
   try refine ⟨sd,?_⟩
   refine Rg.callX (av:=?av10) (g:=true) (fun hg=>ok_internal_stringslite_IndexByte s_1 c_3 _ hr_4) (by simp only [go_sem,simprocAttr,hxc_3]; exact Is.mk) (by simp only [go_sem,simprocAttr,hxc_3]; exact Is.mk) (by simp only [go_sem,simprocAttr,hxc_3]; exact Is.mk) (by simp only [go_sem,simprocAttr,hxc_3]) (by simp only [go_sem,simprocAttr,hxc_3]; exact Is.mk) ?cont10
   intro hv10
   simp only [go_sem,simprocAttr,hxc_3]
   first | apply hK9 | refine ⟨sd,hK9 _ _ ?_⟩
   refine Wp.ret ?_
   refine retQ_ret ?_
   cases hm
   simp only [go_sem,simprocAttr,hxc_3]
   try exact se1
  ·refine qS ?_
   refine cM hm (fun hc12 hm=>?_) (fun hc12 hm=>?_)
   ·refine qS ?_
    refine Wp.ret ?_
    refine retQ_ret ?_
    cases hm
    exact fse1
   ·cases hm
theorem ok_strings_Index (s_1:Str) (substr_2:Str) (z:Int) (hm:strings_Index s_1 substr_2=some z):Does Tryz.prog 232 [.p (.s s_1),.p (.s substr_2)] [] (fun r X=>r=.p (.i .i64 z)∧X=[]):=by
 unfold strings_Index at hm
 refine Does.of_wp 0 8 [.tmp 4] Tryz.func232 rfl (by decide) rfl rfl (Nat.le_of_ble_eq_true rfl) fun B=>?_
 refine qS ?_
 obtain ⟨r_3,hr_3,hm⟩:=call_elim hm
 refine Wp.seqR fun K2 hK2=>?_
 simp only [go_sem,simprocAttr]
 try refine ⟨sd,?_⟩
 refine Rg.callX (av:=?av3) (g:=true) (fun hg=>ok_internal_stringslite_Index s_1 substr_2 _ hr_3) si si si sg si ?cont3
 intro hv3
 simp only [go_sem,simprocAttr]
 first | apply hK2 | refine ⟨sd,hK2 _ _ ?_⟩
 refine Wp.ret ?_
 refine retQ_ret ?_
 cases hm
 exact fse1
theorem ok_strings_Count (s_1:Str) (substr_2:Str) (z:Int) (hm:strings_Count s_1 substr_2=some z):Does Tryz.prog 231 [.p (.s s_1),.p (.s substr_2)] [] (fun r X=>r=.p (.i .i64 z)∧X=[]):=by
 unfold strings_Count at hm
 refine Does.of_wp 0 34 [.tmp 4] Tryz.func231 rfl (by decide) rfl rfl (Nat.le_of_ble_eq_true rfl) fun B=>?_
 refine qS ?_
 refine Wp.seqW fun K2 hK2 hW2=>?_
 refine qS ?_
 refine cM hm (fun hc4 hm=>?_) (fun hc4 hm=>?_)
 ·cases hm
 ·refine Wp.skip ?_
  refine hK2 _ _ ?_
  refine Wp.seqW fun K5 hK5 hW5=>?_
  refine qS ?_
  refine cM hm (fun hc7 hm=>?_) (fun hc7 hm=>?_)
  ·obtain ⟨c_3,hbc_3,hxc_3,hm⟩:=idxS_elim hm
   replace hxc_3:((substr_2.getD 0 0).toNat:Int)=c_3:=hxc_3
   have hb_4:=cntByte_bd s_1 c_3
   refine Wp.seqR fun K8 hK8=>?_
   simp only [go_sem,simprocAttr,hxc_3]
   try refine ⟨sd,?_⟩
   refine Rg.callN (av:=?av9) (g:=true) (fun hg=>nv_267 s_1 c_3) (by simp only [go_sem,simprocAttr,hxc_3]; exact Is.mk) (by simp only [go_sem,simprocAttr,hxc_3]; exact Is.mk) (by simp only [go_sem,simprocAttr,hxc_3]; exact Is.mk) (by simp only [go_sem,simprocAttr,hxc_3]) (by simp only [go_sem,simprocAttr,hxc_3]; exact Is.mk) ?cont9
   intro hv9
   simp only [go_sem,simprocAttr,hxc_3]
   first | apply hK8 | refine ⟨sd,hK8 _ _ ?_⟩
   refine Wp.ret ?_
   refine retQ_ret ?_
   cases hm
   simp only [go_sem,simprocAttr,hxc_3]
   try exact se1
  ·refine Wp.skip ?_
   refine hK5 _ _ ?_
   refine qS ?_
   refine Wp.block ?_
   obtain ⟨k_14,hk_14,hm⟩:=loopN_cont hm
   refine Wp.loopN (fun s=>[(0,.p (.s s.1)),(1,.p (.s substr_2)),(4,.p (.i .i64 0)),(5,.p (.i .i64 s.2))]) (fun s=>[]) ?_ hm ?_
   ·
    exact fse1
   clear hm
   intro s nx_15 hm
   obtain ⟨s_10,n_11⟩:=s
   try dsimp only at hm
   try dsimp only
   refine Wp.block ?_
   obtain ⟨r_16,hr_16,hm⟩:=call_elim hm
   refine Wp.seqR fun K11 hK11=>?_
   simp only [go_sem,simprocAttr]
   try refine ⟨sd,?_⟩
   refine Rg.callX (av:=?av12) (g:=true) (fun hg=>ok_strings_Index s_10 substr_2 _ hr_16) si si si sg si ?cont12
   intro hv12
   simp only [go_sem,simprocAttr]
   first | apply hK11 | refine ⟨sd,hK11 _ _ ?_⟩
   refine Wp.seqW fun K13 hK13 hW13=>?_
   refine qS ?_
   refine cM hm (fun hc15 hm=>?_) (fun hc15 hm=>?_)
   ·refine qS ?_
    refine Wp.ret ?_
    refine retQ_ret ?_
    cases hm
    exact fse1
   ·refine Wp.skip ?_
    refine hK13 _ _ ?_
    refine qS ?_
    obtain ⟨c_17,hm⟩:=chk_elim hm
    refine Wp.region fun K18 hK18=>?_
    simp only [go_sem,simprocAttr]
    first | apply hK18 | refine ⟨by first | exact sd | ((repeat' apply And.intro) <;> first | assumption | omega | (simp only [List.length_append,List.length_map,List.length_cons,List.length_nil,List.length_set,List.length_replicate] at c_17 ⊢; omega)),hK18 _ _ ?_⟩
    simp only [thenQ,blockQ,↓reduceIte]
    refine ⟨(List.drop ((IntKind.i64.wrap (r_16+(substr_2.length:Int))).toNat) s_10,IntKind.i64.wrap (n_11+1)),hm,?_⟩
    exact fse1
theorem ok_strings_genSplit (s_1:Str) (sep_2:Str) (sepSave_3:Int) (n_4:Int) (z:List Str) (hm:strings_genSplit s_1 sep_2 sepSave_3 n_4=some z):Does Tryz.prog 182 [.p (.s s_1),.p (.s sep_2),.p (.i .i64 sepSave_3),.p (.i .i64 n_4)] [] (fun r X=>r=.p (.l (List.map ecS z))∧X=[]):=by
 unfold strings_genSplit at hm
 refine Does.of_wp 0 66 [.tmp 8] Tryz.func182 rfl (by decide) rfl rfl (Nat.le_of_ble_eq_true rfl) fun B=>?_
 refine qS ?_
 refine Wp.seqW fun K2 hK2 hW2=>?_
 refine qS ?_
 refine cM hm (fun hc4 hm=>?_) (fun hc4 hm=>?_)
 ·refine qS ?_
  refine Wp.ret ?_
  simp only [thenQ,blockQ]
  refine retQ_retE ?_
  cases hm
  exact fse1
 ·refine Wp.skip ?_
  refine hK2 _ _ ?_
  refine Wp.seqW fun K6 hK6 hW6=>?_
  refine qS ?_
  refine cM hm (fun hc8 hm=>?_) (fun hc8 hm=>?_)
  ·cases hm
  ·refine Wp.skip ?_
   refine hK6 _ _ ?_
   refine Wp.seqW fun K9 hK9 hW9=>?_
   obtain ⟨k_7,hk_7,hm⟩:=jp_elim hm
   have hcut9:∀ s,k_7 s=some z→K9 [(0,.p (.s s_1)),(1,.p (.s sep_2)),(2,.p (.i .i64 sepSave_3)),(3,.p (.i .i64 s))] []:=by
    intro n_6 hs
    have hm:=hk_7 _ hs
    clear hs
    try dsimp only at hm
    try dsimp only
    refine hK9 _ _ ?_
    refine qS ?_
    obtain ⟨c_8,hm⟩:=chk_elim hm
    refine Wp.seqR fun K11 hK11=>?_
    simp only [go_sem,simprocAttr]
    first | apply hK11 | refine ⟨by first | exact sd | ((repeat' apply And.intro) <;> first | assumption | omega | (simp only [List.length_append,List.length_map,List.length_cons,List.length_nil,List.length_set,List.length_replicate] at c_8 ⊢; omega)),hK11 _ _ ?_⟩
    refine qS ?_
    refine qS ?_
    refine Wp.seqW fun K14 hK14 hW14=>?_
    obtain ⟨k_31,hk_31,hm⟩:=jp_elim hm
    have hcut14:∀ s,k_31 s=some z→K14 [(0,.p (.s s.1)),(9,.buf 0),(10,.p (.i .i64 s.2.1))] [.buf 9 1 (List.map ecS s.2.2)]:=by
     intro s hs
     have hm:=hk_31 _ hs
     clear hs
     obtain ⟨s_28,i_29,o0_30⟩:=s
     try dsimp only at hm
     try dsimp only
     refine hK14 _ _ ?_
     obtain ⟨c_32,hm⟩:=chk_elim hm
     refine Wp.seqR fun K15 hK15=>?_
     simp only [go_sem,simprocAttr]
     first | apply hK15 | refine ⟨by first | exact sd | ((repeat' apply And.intro) <;> first | assumption | omega | (simp only [List.length_append,List.length_map,List.length_cons,List.length_nil,List.length_set,List.length_replicate] at c_32 ⊢; omega)),hK15 _ _ ?_⟩
     refine Wp.freeze 0 (by simp only [go_sem,simprocAttr]; exact Is.mk) (by first | (simp only [go_sem,simprocAttr]; done) | (simp only [go_sem,simprocAttr]; omega)) ?_
     simp only [go_sem,simprocAttr]
     obtain ⟨c_33,hm⟩:=chk_elim hm
     refine Wp.seqR fun K16 hK16=>?_
     simp only [go_sem,simprocAttr]
     first | apply hK16 | refine ⟨by first | exact sd | ((repeat' apply And.intro) <;> first | assumption | omega | (simp only [List.length_append,List.length_map,List.length_cons,List.length_nil,List.length_set,List.length_replicate] at c_33 ⊢; omega)),hK16 _ _ ?_⟩
     refine Wp.ret ?_
     refine retQ_ret ?_
     cases hm
     exact fse1
    clear hK14 hk_31
    refine Wp.block ?_
    obtain ⟨k_47,hk_47,hm⟩:=loopN_cont hm
    refine Wp.loopN (fun s=>[(0,.p (.s s.1)),(1,.p (.s sep_2)),(2,.p (.i .i64 sepSave_3)),(3,.p (.i .i64 (IntKind.i64.wrap ((min n_6 (IntKind.i64.wrap ((s_1.length:Int)+1))) - 1)))),(9,.buf 0),(10,.p (.i .i64 s.2.1))]) (fun s=>[.buf 9 1 (List.map ecS s.2.2)]) ?_ hm ?_
    ·
     exact fse1
    clear hm
    intro s nx_48 hm
    obtain ⟨s_40,i_41,o0_42⟩:=s
    try dsimp only at hm
    try dsimp only
    refine Wp.seqW fun K17 hK17 hW17=>?_
    refine qS ?_
    refine cM hm (fun hc19 hm=>?_) (fun hc19 hm=>?_)
    ·refine Wp.skip ?_
     refine hK17 _ _ ?_
     refine Wp.block ?_
     obtain ⟨r_49,hr_49,hm⟩:=call_elim hm
     refine Wp.seqR fun K20 hK20=>?_
     simp only [go_sem,simprocAttr]
     try refine ⟨sd,?_⟩
     refine Rg.callX (av:=?av21) (g:=true) (fun hg=>ok_strings_Index s_40 sep_2 _ hr_49) si si si sg si ?cont21
     intro hv21
     simp only [go_sem,simprocAttr]
     first | apply hK20 | refine ⟨sd,hK20 _ _ ?_⟩
     refine Wp.seqW fun K22 hK22 hW22=>?_
     refine qS ?_
     refine cM hm (fun hc24 hm=>?_) (fun hc24 hm=>?_)
     ·refine Wp.exit ?_
      simp only [thenQ,blockQ,↓reduceIte]
      have hm:=hk_47 _ hm
      try dsimp only at hm
      refine hW14 _ _ _ _ ?_ (hcut14 (s_40,i_41,o0_42) hm)
      exact fse1
     ·refine Wp.skip ?_
      refine hK22 _ _ ?_
      obtain ⟨c_50,hm⟩:=chk_elim hm
      obtain ⟨c_51,hm⟩:=chk_elim hm
      refine Wp.seqR fun K25 hK25=>?_
      simp only [go_sem,simprocAttr]
      first | apply hK25 | refine ⟨by first | exact sd | ((repeat' apply And.intro) <;> first | assumption | omega | (simp only [List.length_append,List.length_map,List.length_cons,List.length_nil,List.length_set,List.length_replicate] at c_50 c_51 ⊢; omega)),hK25 _ _ ?_⟩
      obtain ⟨c_52,hm⟩:=chk_elim hm
      refine Wp.seqR fun K26 hK26=>?_
      simp only [go_sem,simprocAttr]
      first | apply hK26 | refine ⟨by first | exact sd | ((repeat' apply And.intro) <;> first | assumption | omega | (simp only [List.length_append,List.length_map,List.length_cons,List.length_nil,List.length_set,List.length_replicate] at c_52 ⊢; omega)),hK26 _ _ ?_⟩
      refine qR ?_
      simp only [thenQ,blockQ,↓reduceIte]
      refine ⟨(List.drop ((IntKind.i64.wrap (r_49+(sep_2.length:Int))).toNat) s_40,IntKind.i64.wrap (i_41+1),List.set o0_42 i_41.toNat (List.take ((IntKind.i64.wrap (r_49+sepSave_3)).toNat) s_40)),hm,?_⟩
      exact fse1
    ·refine Wp.exit ?_
     simp only [thenQ,blockQ,↓reduceIte]
     have hm:=hk_47 _ hm
     try dsimp only at hm
     refine hW14 _ _ _ _ ?_ (hcut14 (s_40,i_41,o0_42) hm)
     exact fse1
   clear hK9 hk_7
   refine qS ?_
   refine cM hm (fun hc29 hm=>?_) (fun hc29 hm=>?_)
   ·obtain ⟨r_53,hr_53,hm⟩:=call_elim hm
    refine Wp.region fun K30 hK30=>?_
    simp only [go_sem,simprocAttr]
    try refine ⟨sd,?_⟩
    refine Rg.callX (av:=?av31) (g:=true) (fun hg=>ok_strings_Count s_1 sep_2 _ hr_53) si si si sg si ?cont31
    intro hv31
    simp only [go_sem,simprocAttr]
    first | apply hK30 | refine ⟨sd,hK30 _ _ ?_⟩
    refine hW9 _ _ _ _ ?_ (hcut9 (IntKind.i64.wrap (r_53+1)) hm)
    exact fse1
   ·refine Wp.skip ?_
    refine hW9 _ _ _ _ ?_ (hcut9 n_4 hm)
    exact fse1
theorem ok_strings_Split (s_1:Str) (sep_2:Str) (z:List Str) (hm:strings_Split s_1 sep_2=some z):Does Tryz.prog 186 [.p (.s s_1),.p (.s sep_2)] [] (fun r X=>r=.p (.l (List.map ecS z))∧X=[]):=by
 unfold strings_Split at hm
 refine Does.of_wp 0 8 [.tmp 4] Tryz.func186 rfl (by decide) rfl rfl (Nat.le_of_ble_eq_true rfl) fun B=>?_
 refine qS ?_
 obtain ⟨r_3,hr_3,hm⟩:=call_elim hm
 refine Wp.seqR fun K2 hK2=>?_
 simp only [go_sem,simprocAttr]
 try refine ⟨sd,?_⟩
 refine Rg.callF (av:=?av3) (ok_strings_genSplit s_1 sep_2 0 (-1) _ hr_3) si si sg ?cont3
 intro hv3
 simp only [go_sem,simprocAttr]
 first | apply hK2 | refine ⟨sd,hK2 _ _ ?_⟩
 refine Wp.ret ?_
 refine retQ_ret ?_
 cases hm
 exact fse1
theorem ok_R_isPart (s_1:Str) (z:Bool) (hm:R_isPart s_1=some z):Does Tryz.prog 199 [.p (.s s_1)] [] (fun r X=>r=.p (.b z)∧X=[]):=by
 unfold R_isPart at hm
 refine Does.of_wp 0 63 [.tmp 2] Tryz.func199 rfl (by decide) rfl rfl (Nat.le_of_ble_eq_true rfl) fun B=>?_
 refine qS ?_
 refine Wp.seqW fun K2 hK2 hW2=>?_
 obtain ⟨k_9,hk_9,hm⟩:=jp_elim hm
 have hcut2:∀ s,k_9 s=some z→K2 [(0,.p (.s s_1))] []:=by
  intro s hs
  have hm:=hk_9 _ hs
  clear hs
  try dsimp only at hm
  try dsimp only
  refine hK2 _ _ ?_
  refine qS ?_
  refine Wp.ret ?_
  refine retQ_ret ?_
  cases hm
  exact fse1
 clear hK2 hk_9
 refine qS ?_
 refine Wp.block ?_
 obtain ⟨k_12,hk_12,hm⟩:=forL_cont hm
 refine Wp.fact 0 fun hl_15=>?_
 replace hl_15:s_1.length≤274877906944:=by
  simp only [go_sem,simprocAttr,List.length_map] at hl_15
  omega
 refine Wp.forL (fun i_14 s=>[(0,.p (.s s_1)),(6,.p (.i .i64 (s_1.length:Int))),(7,.p (.i .i64 (i_14:Int)))]) (fun i_14 s=>[]) ?_ hm ?_
 ·
  exact fse1
 clear hm
 intro i_14 s hii_14 hm
 try dsimp only at hm
 try dsimp only
 refine qS ?_
 refine Wp.seqW fun K6 hK6 hW6=>?_
 refine Wp.cond rfl ⟨⟩ (fun hc6=>?_) (fun hc6=>?_)
 rotate_left
 ·refine Wp.exit ?_
  have hm:=hk_12 _ (forL_end hm (ge_nat (by first | exact hc6 | simpa using hc6)))
  try dsimp only at hm
  refine hW2 _ _ _ _ ?_ (hcut2 () hm)
  exact fse1
 have hlt6:=lt_nat (by first | exact hc6 | simpa using hc6)
 have hw6:=wrap_succ hlt6 hl_15
 obtain ⟨c_16,nx_13,hxc_16,hyc_16,hnx_13,hm⟩:=forL_step hm hlt6
 clear hxc_16
 refine Wp.skip ?_
 simp only [thenQ]
 refine hK6 _ _ ?_
 refine Wp.seqW fun K7 hK7 hW7=>?_
 refine Wp.block ?_
 refine Wp.seqR fun K8 hK8=>?_
 simp only [go_sem,simprocAttr,hw6,hyc_16]
 first | apply hK8 | refine ⟨sd,hK8 _ _ ?_⟩
 refine Wp.seqR fun K9 hK9=>?_
 simp only [go_sem,simprocAttr,hw6,hyc_16]
 first | apply hK9 | refine ⟨sd,hK9 _ _ ?_⟩
 refine Wp.seqR fun K10 hK10=>?_
 simp only [go_sem,simprocAttr,hw6,hyc_16]
 first | apply hK10 | refine ⟨sd,hK10 _ _ ?_⟩
 refine cM hm (fun hc11 hm=>?_) (fun hc11 hm=>?_)
 ·refine Wp.seqR fun K12 hK12=>?_
  simp only [go_sem,simprocAttr,hw6,hyc_16]
  first | apply hK12 | refine ⟨sd,hK12 _ _ ?_⟩
  refine Wp.ret ?_
  refine retQ_ret ?_
  cases hm
  simp only [go_sem,simprocAttr,hw6,hyc_16]
  try exact se1
 ·refine Wp.skip ?_
  refine hK7 _ _ ?_
  refine Wp.region fun K13 hK13=>?_
  simp only [go_sem,simprocAttr,hw6,hyc_16]
  first | apply hK13 | refine ⟨sd,hK13 _ _ ?_⟩
  simp only [thenQ,blockQ,↓reduceIte]
  refine ⟨(),hlt6,hnx_13 _ hm,?_⟩
  simp only [go_sem,simprocAttr,hw6,hyc_16]
  try exact se1
theorem ok_R_IsPath (s_1:Str) (z:Bool) (hm:R_IsPath s_1=some z):Does Tryz.prog 133 [.p (.s s_1)] [] (fun r X=>r=.p (.b z)∧X=[]):=by
 unfold R_IsPath at hm
 refine Does.of_wp 0 19 [.tmp 2] Tryz.func133 rfl (by decide) rfl rfl (Nat.le_of_ble_eq_true rfl) fun B=>?_
 refine qS ?_
 refine Wp.seqW fun K2 hK2 hW2=>?_
 obtain ⟨k_12,hk_12,hm⟩:=jp_elim hm
 have hcut2:∀ s,k_12 s=some z→K2 [(0,.p (.s s_1))] []:=by
  intro s hs
  have hm:=hk_12 _ hs
  clear hs
  try dsimp only at hm
  try dsimp only
  refine hK2 _ _ ?_
  refine qS ?_
  refine Wp.ret ?_
  refine retQ_ret ?_
  cases hm
  exact fse1
 clear hK2 hk_12
 obtain ⟨r_13,hr_13,hm⟩:=call_elim hm
 refine Wp.seqR fun K4 hK4=>?_
 simp only [go_sem,simprocAttr]
 try refine ⟨sd,?_⟩
 refine Rg.callF (av:=?av5) (ok_strings_Split s_1 ([47]:Str) _ hr_13) si si sg ?cont5
 intro hv5
 simp only [go_sem,simprocAttr]
 first | apply hK4 | refine ⟨sd,hK4 _ _ ?_⟩
 refine Wp.block ?_
 obtain ⟨k_17,hk_17,hm⟩:=forL_cont hm
 refine Wp.fact 6 fun hl_20=>?_
 replace hl_20:r_13.length≤274877906944:=by
  simp only [go_sem,simprocAttr,List.length_map] at hl_20
  omega
 refine Wp.forL (fun i_19 s=>[(0,.p (.s s_1)),(6,.p (.l (List.map ecS r_13))),(7,.p (.i .i64 (r_13.length:Int))),(8,.p (.i .i64 (i_19:Int)))]) (fun i_19 s=>[]) ?_ hm ?_
 ·
  exact fse1
 clear hm
 intro i_19 s hii_19 hm
 try dsimp only at hm
 try dsimp only
 refine qS ?_
 refine Wp.seqW fun K7 hK7 hW7=>?_
 refine Wp.cond rfl ⟨⟩ (fun hc7=>?_) (fun hc7=>?_)
 rotate_left
 ·refine Wp.exit ?_
  have hm:=hk_17 _ (forL_end hm (ge_nat (by first | exact hc7 | simpa using hc7)))
  try dsimp only at hm
  refine hW2 _ _ _ _ ?_ (hcut2 () hm)
  exact fse1
 have hlt7:=lt_nat (by first | exact hc7 | simpa using hc7)
 have hw7:=wrap_succ hlt7 hl_20
 obtain ⟨s_21,nx_18,hxs_21,hys_21,hnx_18,hm⟩:=forL_step hm hlt7
 replace hxs_21:=hxs_21 ecS
 refine Wp.skip ?_
 simp only [thenQ]
 refine hK7 _ _ ?_
 refine Wp.seqW fun K8 hK8 hW8=>?_
 refine Wp.block ?_
 refine Wp.seqR fun K9 hK9=>?_
 simp only [go_sem,simprocAttr,hw7,hxs_21]
 first | apply hK9 | refine ⟨sd,hK9 _ _ ?_⟩
 obtain ⟨r_22,hr_22,hm⟩:=call_elim hm
 refine Wp.seqR fun K10 hK10=>?_
 simp only [go_sem,simprocAttr,hw7,hxs_21]
 try refine ⟨sd,?_⟩
 refine Rg.callX (av:=?av11) (g:=true) (fun hg=>ok_R_isPart s_21 _ hr_22) (by simp only [go_sem,simprocAttr,hw7,hxs_21]; exact Is.mk) (by simp only [go_sem,simprocAttr,hw7,hxs_21]; exact Is.mk) (by simp only [go_sem,simprocAttr,hw7,hxs_21]; exact Is.mk) (by simp only [go_sem,simprocAttr,hw7,hxs_21]) (by simp only [go_sem,simprocAttr,hw7,hxs_21]; exact Is.mk) ?cont11
 intro hv11
 simp only [go_sem,simprocAttr,hw7,hxs_21]
 first | apply hK10 | refine ⟨sd,hK10 _ _ ?_⟩
 refine cM hm (fun hc12 hm=>?_) (fun hc12 hm=>?_)
 ·refine Wp.seqR fun K13 hK13=>?_
  simp only [go_sem,simprocAttr,hw7,hxs_21]
  first | apply hK13 | refine ⟨sd,hK13 _ _ ?_⟩
  refine Wp.ret ?_
  refine retQ_ret ?_
  cases hm
  simp only [go_sem,simprocAttr,hw7,hxs_21]
  try exact se1
 ·refine Wp.skip ?_
  refine hK8 _ _ ?_
  refine Wp.region fun K14 hK14=>?_
  simp only [go_sem,simprocAttr,hw7,hxs_21]
  first | apply hK14 | refine ⟨sd,hK14 _ _ ?_⟩
  simp only [thenQ,blockQ,↓reduceIte]
  refine ⟨(),hlt7,hnx_18 _ hm,?_⟩
  simp only [go_sem,simprocAttr,hw7,hxs_21]
  try exact se1
theorem ok_R_fileError (f_1:api_File) (z:Int) (hm:R_fileError f_1=some z):Does Tryz.prog 62 [.agg [.p (.s f_1.Path),.p (.s f_1.Data),.p (.b f_1.Runs)]] [] (fun r X=>r=.p (.i .i64 z)∧X=[]):=by
 unfold R_fileError at hm
 refine Does.of_wp 0 15 [.tmp 2] Tryz.func62 rfl (by decide) rfl rfl (Nat.le_of_ble_eq_true rfl) fun B=>?_
 refine qS ?_
 obtain ⟨r_2,hr_2,hm⟩:=call_elim hm
 obtain ⟨r_3,hr_3,hm⟩:=call_elim hm
 obtain ⟨r_4,hr_4,hm⟩:=call_elim hm
 obtain ⟨r_5,hr_5,hm⟩:=call_elim hm
 refine Wp.seqD (plan:=pl [(0,none),(1,none),(2,none),(3,none),(4,none),(5,none),(6,none),(7,none),(8,none),(9,none),(10,some []),(11,none),(12,none)]) (by kernel_rfl) rfl (by kernel_rfl) fun K2 hK2=>?_
 simp only [go_sem,simprocAttr]
 try refine ⟨sd,?_⟩
 refine Dr.callF (av:=?av3) (g:=true) (o:=?o3) (fun hg=>ok_R_IsPath f_1.Path _ hr_2) si si si si sg si ?cont3
 simp only [go_sem,simprocAttr]
 try refine ⟨sd,?_⟩
 refine Dr.callF (av:=?av4) (g:=true) (o:=?o4) (fun hg=>ok_R_when (!r_2) 5 _ hr_3) si si si si sg si ?cont4
 simp only [go_sem,simprocAttr]
 try refine ⟨sd,?_⟩
 refine Dr.callF (av:=?av5) (g:=true) (o:=?o5) (fun hg=>ok_R_when (decide (65536 < (f_1.Data.length:Int))) 4 _ hr_4) si si si si sg si ?cont5
 simp only [go_sem,simprocAttr]
 try refine ⟨sd,?_⟩
 refine Dr.callF (av:=?av6) (g:=true) (o:=?o6) (fun hg=>ok_R_first [r_3,r_4] _ hr_5) si si si si sg si ?cont6
 simp only [go_sem,simprocAttr]
 first | apply hK2 | refine ⟨sd,hK2 _ _ ?_⟩
 refine Wp.ret ?_
 refine retQ_ret ?_
 cases hm
 exact fse1
theorem ok_R_settingError (s_1:api_Setting) (z:Int) (hm:R_settingError s_1=some z):Does Tryz.prog 63 [.agg [.p (.s s_1.Key),.p (.s s_1.Value)]] [] (fun r X=>r=.p (.i .i64 z)∧X=[]):=by
 unfold R_settingError at hm
 refine Does.of_wp 0 15 [.tmp 2] Tryz.func63 rfl (by decide) rfl rfl (Nat.le_of_ble_eq_true rfl) fun B=>?_
 refine qS ?_
 obtain ⟨r_2,hr_2,hm⟩:=call_elim hm
 obtain ⟨r_3,hr_3,hm⟩:=call_elim hm
 obtain ⟨r_4,hr_4,hm⟩:=call_elim hm
 obtain ⟨r_5,hr_5,hm⟩:=call_elim hm
 obtain ⟨r_6,hr_6,hm⟩:=call_elim hm
 refine Wp.seqD (plan:=pl [(0,none),(1,none),(2,none),(3,none),(4,none),(5,none),(6,none),(7,none),(8,none),(9,none),(10,some []),(11,none),(12,none)]) (by kernel_rfl) rfl (by kernel_rfl) fun K2 hK2=>?_
 simp only [go_sem,simprocAttr]
 try refine ⟨sd,?_⟩
 refine Dr.callF (av:=?av3) (g:=true) (o:=?o3) (fun hg=>ok_R_IsPath s_1.Key _ hr_2) si si si si sg si ?cont3
 simp only [go_sem,simprocAttr]
 try refine ⟨sd,?_⟩
 refine Dr.callF (av:=?av4) (g:=true) (o:=?o4) (fun hg=>ok_R_when (!r_2) 5 _ hr_3) si si si si sg si ?cont4
 simp only [go_sem,simprocAttr]
 try refine ⟨sd,?_⟩
 refine Dr.callF (av:=?av5) (g:=true) (o:=?o5) (fun hg=>ok_R_IsValue s_1.Value _ hr_4) si si si si sg si ?cont5
 simp only [go_sem,simprocAttr]
 try refine ⟨sd,?_⟩
 refine Dr.callF (av:=?av6) (g:=true) (o:=?o6) (fun hg=>ok_R_when (!r_4) 2 _ hr_5) si si si si sg si ?cont6
 simp only [go_sem,simprocAttr]
 try refine ⟨sd,?_⟩
 refine Dr.callF (av:=?av7) (g:=true) (o:=?o7) (fun hg=>ok_R_first [r_3,r_5] _ hr_6) si si si si sg si ?cont7
 simp only [go_sem,simprocAttr]
 first | apply hK2 | refine ⟨sd,hK2 _ _ ?_⟩
 refine Wp.ret ?_
 refine retQ_ret ?_
 cases hm
 exact fse1
theorem ok_R_serviceError (s_1:api_Service) (z:Int) (hm:R_serviceError s_1=some z):Does Tryz.prog 64 [.agg [.p (.s s_1.Name),.p (.s s_1.Path),.p (.b s_1.Auto),.p (.b s_1.On)]] [] (fun r X=>r=.p (.i .i64 z)∧X=[]):=by
 unfold R_serviceError at hm
 refine Does.of_wp 0 14 [.tmp 2] Tryz.func64 rfl (by decide) rfl rfl (Nat.le_of_ble_eq_true rfl) fun B=>?_
 refine qS ?_
 obtain ⟨r_2,hr_2,hm⟩:=call_elim hm
 obtain ⟨r_3,hr_3,hm⟩:=callG_elim hm
 obtain ⟨r_4,hr_4,hm⟩:=call_elim hm
 refine Wp.seqR fun K2 hK2=>?_
 simp only [go_sem,simprocAttr]
 try refine ⟨sd,?_⟩
 refine Rg.callX (av:=?av3) (g:=true) (fun hg=>ok_R_IsName s_1.Name _ hr_2) si si si sg si ?cont3
 intro hv3
 simp only [go_sem,simprocAttr]
 try refine ⟨sd,?_⟩
 refine Rg.callX (av:=?av4) (g:=!(!r_2)) (fun hg=>ok_R_IsPath s_1.Path _ (hr_3 hg)) si si si sg si ?cont4
 intro hv4
 simp only [go_sem,simprocAttr]
 try refine ⟨sd,?_⟩
 refine Rg.callX (av:=?av5) (g:=true) (fun hg=>ok_R_when ((!r_2) || (!r_3)) 5 _ hr_4) si si si sg si ?cont5
 intro hv5
 simp only [go_sem,simprocAttr]
 first | apply hK2 | refine ⟨sd,hK2 _ _ ?_⟩
 refine Wp.ret ?_
 refine retQ_ret ?_
 cases hm
 exact fse1
theorem ok_ver_IsValue_1 (c_1:Int) (z:Bool) (hm:ver_IsValue_1 c_1=some z):Does Tryz.prog 247 [.p (.i .u8 c_1)] [] (fun r X=>r=.p (.b z)∧X=[]):=by
 unfold ver_IsValue_1 at hm
 refine Does.of_wp 0 9 [.tmp 2] Tryz.func247 rfl (by decide) rfl rfl (Nat.le_of_ble_eq_true rfl) fun B=>?_
 refine qS ?_
 refine qS ?_
 refine Wp.ret ?_
 refine retQ_ret ?_
 cases hm
 exact fse1
theorem ok_ver_each_i2 (s_1:Str) (most_2:Int) (z:Bool) (hm:ver_each_i2 s_1 most_2=some z):Does Tryz.prog 129 [.p (.s s_1),.p (.i .i64 most_2),.fn 247 []] [] (fun r X=>r=.p (.b z)∧X=[]):=by
 unfold ver_each_i2 at hm
 refine Does.of_wp 0 28 [.tmp 6] Tryz.func129 rfl (by decide) rfl rfl (Nat.le_of_ble_eq_true rfl) fun B=>?_
 refine qS ?_
 refine Wp.seqW fun K2 hK2 hW2=>?_
 obtain ⟨k_12,hk_12,hm⟩:=jp_elim hm
 have hcut2:∀ s,k_12 s=some z→K2 [(0,.p (.s s_1)),(1,.p (.i .i64 most_2))] []:=by
  intro s hs
  have hm:=hk_12 _ hs
  clear hs
  try dsimp only at hm
  try dsimp only
  refine hK2 _ _ ?_
  refine qS ?_
  refine Wp.ret ?_
  refine retQ_ret ?_
  cases hm
  exact fse1
 clear hK2 hk_12
 refine qS ?_
 refine Wp.block ?_
 obtain ⟨k_16,hk_16,hm⟩:=forL_cont hm
 refine Wp.fact 0 fun hl_19=>?_
 replace hl_19:s_1.length≤274877906944:=by
  simp only [go_sem,simprocAttr,List.length_map] at hl_19
  omega
 refine Wp.forL (fun i_18 s=>[(0,.p (.s s_1)),(1,.p (.i .i64 most_2)),(2,.fn 247 []),(7,.p (.i .i64 (i_18:Int)))]) (fun i_18 s=>[]) ?_ hm ?_
 ·
  exact fse1
 clear hm
 intro i_18 s hii_18 hm
 try dsimp only at hm
 try dsimp only
 refine Wp.seqW fun K5 hK5 hW5=>?_
 refine qS ?_
 refine Wp.cond rfl ⟨⟩ (fun hc5=>?_) (fun hc5=>?_)
 rotate_left
 ·refine Wp.exit ?_
  have hm:=hk_16 _ (forL_end hm (ge_nat (by first | exact hc5 | simpa using hc5)))
  try dsimp only at hm
  refine hW2 _ _ _ _ ?_ (hcut2 () hm)
  exact fse1
 have hlt5:=lt_nat (by first | exact hc5 | simpa using hc5)
 have hw5:=wrap_succ hlt5 hl_19
 obtain ⟨c_20,nx_17,hxc_20,hyc_20,hnx_17,hm⟩:=forL_step hm hlt5
 clear hxc_20
 refine Wp.skip ?_
 simp only [thenQ]
 refine hK5 _ _ ?_
 refine Wp.seqW fun K7 hK7 hW7=>?_
 refine Wp.block ?_
 obtain ⟨r_21,hr_21,hm⟩:=call_elim hm
 refine Wp.seqR fun K8 hK8=>?_
 simp only [go_sem,simprocAttr,hw5,hyc_20]
 try refine ⟨sd,?_⟩
 refine Rg.callX (av:=?av9) (g:=true) (fun hg=>ok_ver_IsValue_1 (c_20.toNat:Int) _ hr_21) (by simp only [go_sem,simprocAttr,hw5,hyc_20]; exact Is.mk) (by simp only [go_sem,simprocAttr,hw5,hyc_20]; exact Is.mk) (by simp only [go_sem,simprocAttr,hw5,hyc_20]; exact Is.mk) (by simp only [go_sem,simprocAttr,hw5,hyc_20]) (by simp only [go_sem,simprocAttr,hw5,hyc_20]; exact Is.mk) ?cont9
 intro hv9
 simp only [go_sem,simprocAttr,hw5,hyc_20]
 first | apply hK8 | refine ⟨sd,hK8 _ _ ?_⟩
 refine cM hm (fun hc10 hm=>?_) (fun hc10 hm=>?_)
 ·refine Wp.seqR fun K11 hK11=>?_
  simp only [go_sem,simprocAttr,hw5,hyc_20]
  first | apply hK11 | refine ⟨sd,hK11 _ _ ?_⟩
  refine Wp.ret ?_
  refine retQ_ret ?_
  cases hm
  simp only [go_sem,simprocAttr,hw5,hyc_20]
  try exact se1
 ·refine Wp.skip ?_
  refine hK7 _ _ ?_
  refine Wp.region fun K12 hK12=>?_
  simp only [go_sem,simprocAttr,hw5,hyc_20]
  first | apply hK12 | refine ⟨sd,hK12 _ _ ?_⟩
  simp only [thenQ,blockQ,↓reduceIte]
  refine ⟨(),hlt5,hnx_17 _ hm,?_⟩
  simp only [go_sem,simprocAttr,hw5,hyc_20]
  try exact se1
theorem ok_ver_IsValue (s_1:Str) (z:Bool) (hm:ver_IsValue s_1=some z):Does Tryz.prog 200 [.p (.s s_1)] [] (fun r X=>r=.p (.b z)∧X=[]):=by
 unfold ver_IsValue at hm
 refine Does.of_wp 0 9 [.tmp 2] Tryz.func200 rfl (by decide) rfl rfl (Nat.le_of_ble_eq_true rfl) fun B=>?_
 refine qS ?_
 obtain ⟨r_2,hr_2,hm⟩:=callG_elim hm
 refine Wp.seqR fun K2 hK2=>?_
 simp only [go_sem,simprocAttr]
 try refine ⟨sd,?_⟩
 refine Rg.callX (av:=?av3) (g:=!(decide (s_1=[]))) (fun hg=>ok_ver_each_i2 s_1 1000 _ (hr_2 hg)) si si si sg si ?cont3
 intro hv3
 simp only [go_sem,simprocAttr]
 first | apply hK2 | refine ⟨sd,hK2 _ _ ?_⟩
 refine Wp.ret ?_
 refine retQ_ret ?_
 cases hm
 exact fse1
theorem ok_ver_isPart_1 (c_1:Int) (z:Bool) (hm:ver_isPart_1 c_1=some z):Does Tryz.prog 248 [.p (.i .u8 c_1)] [] (fun r X=>r=.p (.b z)∧X=[]):=by
 unfold ver_isPart_1 at hm
 refine Does.of_wp 0 29 [.tmp 2] Tryz.func248 rfl (by decide) rfl rfl (Nat.le_of_ble_eq_true rfl) fun B=>?_
 refine qS ?_
 obtain ⟨r_2,hr_2,hm⟩:=call_elim hm
 obtain ⟨r_3,hr_3,hm⟩:=callG_elim hm
 refine Wp.seqR fun K2 hK2=>?_
 simp only [go_sem,simprocAttr]
 try refine ⟨sd,?_⟩
 refine Rg.callX (av:=?av3) (g:=true) (fun hg=>ok_ver_isSmall c_1 _ hr_2) si si si sg si ?cont3
 intro hv3
 simp only [go_sem,simprocAttr]
 try refine ⟨sd,?_⟩
 refine Rg.callX (av:=?av4) (g:=!(r_2 || ((decide (65≤c_1)) && (decide (c_1≤90))))) (fun hg=>ok_ver_isDigit c_1 _ (hr_3 hg)) si si si sg si ?cont4
 intro hv4
 simp only [go_sem,simprocAttr]
 first | apply hK2 | refine ⟨sd,hK2 _ _ ?_⟩
 refine Wp.ret ?_
 refine retQ_ret ?_
 cases hm
 exact fse1
theorem ok_ver_each_i3 (s_1:Str) (most_2:Int) (z:Bool) (hm:ver_each_i3 s_1 most_2=some z):Does Tryz.prog 129 [.p (.s s_1),.p (.i .i64 most_2),.fn 248 []] [] (fun r X=>r=.p (.b z)∧X=[]):=by
 unfold ver_each_i3 at hm
 refine Does.of_wp 0 28 [.tmp 6] Tryz.func129 rfl (by decide) rfl rfl (Nat.le_of_ble_eq_true rfl) fun B=>?_
 refine qS ?_
 refine Wp.seqW fun K2 hK2 hW2=>?_
 obtain ⟨k_12,hk_12,hm⟩:=jp_elim hm
 have hcut2:∀ s,k_12 s=some z→K2 [(0,.p (.s s_1)),(1,.p (.i .i64 most_2))] []:=by
  intro s hs
  have hm:=hk_12 _ hs
  clear hs
  try dsimp only at hm
  try dsimp only
  refine hK2 _ _ ?_
  refine qS ?_
  refine Wp.ret ?_
  refine retQ_ret ?_
  cases hm
  exact fse1
 clear hK2 hk_12
 refine qS ?_
 refine Wp.block ?_
 obtain ⟨k_16,hk_16,hm⟩:=forL_cont hm
 refine Wp.fact 0 fun hl_19=>?_
 replace hl_19:s_1.length≤274877906944:=by
  simp only [go_sem,simprocAttr,List.length_map] at hl_19
  omega
 refine Wp.forL (fun i_18 s=>[(0,.p (.s s_1)),(1,.p (.i .i64 most_2)),(2,.fn 248 []),(7,.p (.i .i64 (i_18:Int)))]) (fun i_18 s=>[]) ?_ hm ?_
 ·
  exact fse1
 clear hm
 intro i_18 s hii_18 hm
 try dsimp only at hm
 try dsimp only
 refine Wp.seqW fun K5 hK5 hW5=>?_
 refine qS ?_
 refine Wp.cond rfl ⟨⟩ (fun hc5=>?_) (fun hc5=>?_)
 rotate_left
 ·refine Wp.exit ?_
  have hm:=hk_16 _ (forL_end hm (ge_nat (by first | exact hc5 | simpa using hc5)))
  try dsimp only at hm
  refine hW2 _ _ _ _ ?_ (hcut2 () hm)
  exact fse1
 have hlt5:=lt_nat (by first | exact hc5 | simpa using hc5)
 have hw5:=wrap_succ hlt5 hl_19
 obtain ⟨c_20,nx_17,hxc_20,hyc_20,hnx_17,hm⟩:=forL_step hm hlt5
 clear hxc_20
 refine Wp.skip ?_
 simp only [thenQ]
 refine hK5 _ _ ?_
 refine Wp.seqW fun K7 hK7 hW7=>?_
 refine Wp.block ?_
 obtain ⟨r_21,hr_21,hm⟩:=call_elim hm
 refine Wp.seqR fun K8 hK8=>?_
 simp only [go_sem,simprocAttr,hw5,hyc_20]
 try refine ⟨sd,?_⟩
 refine Rg.callX (av:=?av9) (g:=true) (fun hg=>ok_ver_isPart_1 (c_20.toNat:Int) _ hr_21) (by simp only [go_sem,simprocAttr,hw5,hyc_20]; exact Is.mk) (by simp only [go_sem,simprocAttr,hw5,hyc_20]; exact Is.mk) (by simp only [go_sem,simprocAttr,hw5,hyc_20]; exact Is.mk) (by simp only [go_sem,simprocAttr,hw5,hyc_20]) (by simp only [go_sem,simprocAttr,hw5,hyc_20]; exact Is.mk) ?cont9
 intro hv9
 simp only [go_sem,simprocAttr,hw5,hyc_20]
 first | apply hK8 | refine ⟨sd,hK8 _ _ ?_⟩
 refine cM hm (fun hc10 hm=>?_) (fun hc10 hm=>?_)
 ·refine Wp.seqR fun K11 hK11=>?_
  simp only [go_sem,simprocAttr,hw5,hyc_20]
  first | apply hK11 | refine ⟨sd,hK11 _ _ ?_⟩
  refine Wp.ret ?_
  refine retQ_ret ?_
  cases hm
  simp only [go_sem,simprocAttr,hw5,hyc_20]
  try exact se1
 ·refine Wp.skip ?_
  refine hK7 _ _ ?_
  refine Wp.region fun K12 hK12=>?_
  simp only [go_sem,simprocAttr,hw5,hyc_20]
  first | apply hK12 | refine ⟨sd,hK12 _ _ ?_⟩
  simp only [thenQ,blockQ,↓reduceIte]
  refine ⟨(),hlt5,hnx_17 _ hm,?_⟩
  simp only [go_sem,simprocAttr,hw5,hyc_20]
  try exact se1
theorem ok_ver_isPart (s_1:Str) (z:Bool) (hm:ver_isPart s_1=some z):Does Tryz.prog 201 [.p (.s s_1)] [] (fun r X=>r=.p (.b z)∧X=[]):=by
 unfold ver_isPart at hm
 refine Does.of_wp 0 15 [.tmp 2] Tryz.func201 rfl (by decide) rfl rfl (Nat.le_of_ble_eq_true rfl) fun B=>?_
 refine qS ?_
 refine qS ?_
 obtain ⟨r_2,hr_2,hm⟩:=call_elim hm
 refine Wp.seqR fun K3 hK3=>?_
 simp only [go_sem,simprocAttr]
 try refine ⟨sd,?_⟩
 refine Rg.callX (av:=?av4) (g:=true) (fun hg=>ok_ver_each_i3 s_1 40 _ hr_2) si si si sg si ?cont4
 intro hv4
 simp only [go_sem,simprocAttr]
 first | apply hK3 | refine ⟨sd,hK3 _ _ ?_⟩
 refine Wp.ret ?_
 refine retQ_ret ?_
 cases hm
 exact fse1
end Go.Proofs.YtbofknpajcdnmaaGreatDoor
