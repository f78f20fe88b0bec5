/- That the code does what the models say (part 3). -/
import Derived.Test.YtkekfenkeeiigaaDoorCtWk0
import Derived.Test.YtkekfenkeeiigaaDoorCtWk1
set_option linter.unusedSimpArgs false
set_option linter.unusedVariables false
namespace Go.Proofs.YtkekfenkeeiigaaDoor
open Go.Vc Go.Md
set_option maxRecDepth 100000
set_option maxHeartbeats 4000000
theorem ok_Law_ChangesAreTold_1_i1 (s_1:Str) (o0_0_2:Int) (o1_0_3:Int) (z:Str) (hm:Law_ChangesAreTold_1_i1 s_1 o0_0_2 o1_0_3=some z):Does Tryd.prog 20 [.p (.s s_1),.ptr 0 0,.ptr 1 0] [.cells 3 [.p (.i .i64 o0_0_2)],.cells 5 [.p (.i .u8 o1_0_3)]] (fun r X=>r=.p (.s z)∧X=[.cells 3 [.p (.i .i64 o0_0_2)],.cells 5 [.p (.i .u8 o1_0_3)]]):=by
 unfold Law_ChangesAreTold_1_i1 at hm
 refine Does.of_wp 2 26 [.tmp 4] Tryd.func20 rfl (by decide) rfl rfl (Nat.le_of_ble_eq_true rfl) fun B=>?_
 refine qS ?_
 refine qS ?_
 obtain ⟨c_13,hm⟩:=chk_elim hm
 obtain ⟨c_14,hm⟩:=chk_elim hm
 obtain ⟨v_15,hv_16,hm⟩:=letv_elim hm
 obtain ⟨c_17,hm⟩:=chk_elim hm
 obtain ⟨c_18,hm⟩:=chk_elim hm
 obtain ⟨v_19,hv_20,hm⟩:=letv_elim hm
 have hv_20m:=congrArg (List.map ecI_u8) hv_20
 try simp only [List.map_append,List.map_cons,List.map_nil,List.map_set,List.map_replicate,ecI_u8] at hv_20m
 have hr_21:=fun h=>getD_encB (l:=bytesOf s_1) (e:=ecI_u8) (d:=0) (i:=v_15.toNat) h []
 refine Wp.seqD (plan:=pl [(0,none),(1,none),(2,none),(3,none),(4,none),(5,none),(6,none),(7,none),(8,none),(9,none),(10,none),(11,none),(12,none),(13,none),(14,none),(15,none),(16,some [])]) (by kernel_rfl) rfl (by kernel_rfl) fun K3 hK3=>?_
 simp only [go_sem,simprocAttr,hv_16,hv_20,hv_20m,hr_21 (by simp only [bytesOf_length]; omega)]
 first | apply hK3 | refine ⟨by first | exact sd | ((repeat' apply And.intro) <;> first | assumption | omega | (simp only [List.length_append,List.length_map,List.length_cons,List.length_nil,List.length_set,List.length_replicate] at c_13 c_14 c_17 c_18 ⊢; omega)),hK3 _ _ ?_⟩
 refine Wp.seqR fun K4 hK4=>?_
 simp only [go_sem,simprocAttr,hv_16,hv_20,hv_20m]
 first | apply hK4 | refine ⟨sd,hK4 _ _ ?_⟩
 refine Wp.ret ?_
 refine retQ_ret ?_
 cases hm
 simp only [go_sem,simprocAttr,hv_16,hv_20,hv_20m]
 try exact se3
theorem ok_delta_outside (n_1:Int) (low_2:Int) (high_3:Int) (z:Bool) (hm:delta_outside n_1 low_2 high_3=some z):Does Tryd.prog 74 [.p (.i .i64 n_1),.p (.i .i64 low_2),.p (.i .i64 high_3)] [] (fun r X=>r=.p (.b z)∧X=[]):=by
 unfold delta_outside at hm
 refine Does.of_wp 0 15 [.tmp 6] Tryd.func74 rfl (by decide) rfl rfl (Nat.le_of_ble_eq_true rfl) fun B=>?_
 refine qS ?_
 refine qS ?_
 refine Wp.ret ?_
 refine retQ_ret ?_
 cases hm
 exact fse3
theorem ok_delta_isSum (s_1:Str) (z:Bool) (hm:delta_isSum s_1=some z):Does Tryd.prog 80 [.p (.s s_1)] [] (fun r X=>r=.p (.b z)∧X=[]):=by
 unfold delta_isSum at hm
 refine Does.of_wp 0 36 [.tmp 2] Tryd.func80 rfl (by decide) rfl rfl (Nat.le_of_ble_eq_true rfl) fun B=>?_
 refine qS ?_
 refine Wp.seqW fun K2 hK2 hW2=>?_
 obtain ⟨k_9,hk_9,hm⟩:=jp_elim hm
 have hcut2:∀ s,k_9 s=some z→K2 [(0,.p (.s s_1))] []:=by
  intro s hs
  have hm:=hk_9 _ hs
  clear hs
  try dsimp only at hm
  try dsimp only
  refine hK2 _ _ ?_
  refine qS ?_
  refine Wp.ret ?_
  refine retQ_ret ?_
  cases hm
  exact fse3
 clear hK2 hk_9
 refine qS ?_
 refine Wp.block ?_
 obtain ⟨k_12,hk_12,hm⟩:=forL_cont hm
 refine Wp.fact 0 fun hl_15=>?_
 replace hl_15:s_1.length≤274877906944:=by
  simp only [go_sem,simprocAttr,List.length_map] at hl_15
  omega
 refine Wp.forL (fun i_14 s=>[(0,.p (.s s_1)),(3,.p (.i .i64 (i_14:Int)))]) (fun i_14 s=>[]) ?_ hm ?_
 ·
  exact fse3
 clear hm
 intro i_14 s hii_14 hm
 try dsimp only at hm
 try dsimp only
 refine Wp.seqW fun K5 hK5 hW5=>?_
 refine qS ?_
 refine Wp.cond rfl ⟨⟩ (fun hc5=>?_) (fun hc5=>?_)
 rotate_left
 ·refine Wp.exit ?_
  have hm:=hk_12 _ (forL_end hm (ge_nat (by first | exact hc5 | simpa using hc5)))
  try dsimp only at hm
  refine hW2 _ _ _ _ ?_ (hcut2 () hm)
  exact fse3
 have hlt5:=lt_nat (by first | exact hc5 | simpa using hc5)
 have hw5:=wrap_succ hlt5 hl_15
 obtain ⟨c_16,nx_13,hxc_16,hyc_16,hnx_13,hm⟩:=forL_step hm hlt5
 clear hxc_16
 refine Wp.skip ?_
 simp only [thenQ]
 refine hK5 _ _ ?_
 refine Wp.seqW fun K7 hK7 hW7=>?_
 refine Wp.block ?_
 refine Wp.seqR fun K8 hK8=>?_
 simp only [go_sem,simprocAttr,hw5,hyc_16]
 first | apply hK8 | refine ⟨sd,hK8 _ _ ?_⟩
 refine cM hm (fun hc9 hm=>?_) (fun hc9 hm=>?_)
 ·refine Wp.seqR fun K10 hK10=>?_
  simp only [go_sem,simprocAttr,hw5,hyc_16]
  first | apply hK10 | refine ⟨sd,hK10 _ _ ?_⟩
  refine Wp.ret ?_
  refine retQ_ret ?_
  cases hm
  simp only [go_sem,simprocAttr,hw5,hyc_16]
  try exact se3
 ·refine Wp.skip ?_
  refine hK7 _ _ ?_
  refine Wp.region fun K11 hK11=>?_
  simp only [go_sem,simprocAttr,hw5,hyc_16]
  first | apply hK11 | refine ⟨sd,hK11 _ _ ?_⟩
  simp only [thenQ,blockQ,↓reduceIte]
  refine ⟨(),hlt5,hnx_13 _ hm,?_⟩
  simp only [go_sem,simprocAttr,hw5,hyc_16]
  try exact se3
theorem ok_delta_CheckSteps (l_1:List api_Piece) (old_2:Int) (z:Int × Int) (hm:delta_CheckSteps l_1 old_2=some z):Does Tryd.prog 81 [.p (.l (List.map enc_api_Piece l_1)),.p (.i .i64 old_2)] [] (fun r X=>r=.tup [.p (.i .i64 z.1),.p (.i .i64 z.2)]∧X=[]):=by
 unfold delta_CheckSteps at hm
 refine Does.of_wp 0 67 [.tmp 4,.tmp 5] Tryd.func81 rfl (by decide) rfl rfl (Nat.le_of_ble_eq_true rfl) fun B=>?_
 refine qS ?_
 refine Wp.seqW fun K2 hK2 hW2=>?_
 obtain ⟨r_3,hr_3,hm⟩:=call_elim hm
 refine Wp.seqR fun K3 hK3=>?_
 simp only [go_sem,simprocAttr]
 try refine ⟨sd,?_⟩
 refine Rg.callX (av:=?av4) (g:=true) (fun hg=>ok_delta_outside old_2 0 65536 _ hr_3) si si si sg si ?cont4
 intro hv4
 simp only [go_sem,simprocAttr]
 first | apply hK3 | refine ⟨sd,hK3 _ _ ?_⟩
 refine cM hm (fun hc5 hm=>?_) (fun hc5 hm=>?_)
 ·refine qS ?_
  refine Wp.ret ?_
  refine retQ_ret ?_
  cases hm
  exact fse3
 ·refine Wp.skip ?_
  refine hK2 _ _ ?_
  refine Wp.seqW fun K7 hK7 hW7=>?_
  refine qS ?_
  refine cM hm (fun hc9 hm=>?_) (fun hc9 hm=>?_)
  ·refine qS ?_
   refine Wp.ret ?_
   refine retQ_ret ?_
   cases hm
   exact fse3
  ·refine Wp.skip ?_
   refine hK7 _ _ ?_
   refine qS ?_
   refine Wp.seqW fun K12 hK12 hW12=>?_
   obtain ⟨k_13,hk_13,hm⟩:=jp_elim hm
   have hcut12:∀ s,k_13 s=some z→K12 [(6,.p (.i .i64 s))] []:=by
    intro size_12 hs
    have hm:=hk_13 _ hs
    clear hs
    try dsimp only at hm
    try dsimp only
    refine hK12 _ _ ?_
    refine Wp.seqW fun K13 hK13 hW13=>?_
    refine qS ?_
    refine cM hm (fun hc15 hm=>?_) (fun hc15 hm=>?_)
    ·refine qS ?_
     refine Wp.ret ?_
     refine retQ_ret ?_
     cases hm
     exact fse3
    ·refine Wp.skip ?_
     refine hK13 _ _ ?_
     refine qS ?_
     refine Wp.ret ?_
     refine retQ_ret ?_
     cases hm
     exact fse3
   clear hK12 hk_13
   refine qS ?_
   refine Wp.block ?_
   obtain ⟨k_17,hk_17,hm⟩:=forL_cont hm
   refine Wp.fact 14 fun hl_20=>?_
   replace hl_20:l_1.length≤274877906944:=by
    simp only [go_sem,simprocAttr,List.length_map] at hl_20
    omega
   refine Wp.forL (fun i_19 s=>[(1,.p (.i .i64 old_2)),(6,.p (.i .i64 s)),(14,.p (.l (List.map enc_api_Piece l_1))),(15,.p (.i .i64 (l_1.length:Int))),(16,.p (.i .i64 (i_19:Int)))]) (fun i_19 s=>[]) ?_ hm ?_
   ·
    exact fse3
   clear hm
   intro i_19 size_14 hii_19 hm
   try dsimp only at hm
   try dsimp only
   refine qS ?_
   refine Wp.seqW fun K20 hK20 hW20=>?_
   refine Wp.cond rfl ⟨⟩ (fun hc20=>?_) (fun hc20=>?_)
   rotate_left
   ·refine Wp.exit ?_
    have hm:=hk_17 _ (forL_end hm (ge_nat (by first | exact hc20 | simpa using hc20)))
    try dsimp only at hm
    refine hW12 _ _ _ _ ?_ (hcut12 size_14 hm)
    exact fse3
   have hlt20:=lt_nat (by first | exact hc20 | simpa using hc20)
   have hw20:=wrap_succ hlt20 hl_20
   obtain ⟨p_21,nx_18,hxp_21,hyp_21,hnx_18,hm⟩:=forL_step hm hlt20
   replace hxp_21:=hxp_21 enc_api_Piece
   refine Wp.skip ?_
   simp only [thenQ]
   refine hK20 _ _ ?_
   refine Wp.seqW fun K21 hK21 hW21=>?_
   refine Wp.block ?_
   refine Wp.seqR fun K22 hK22=>?_
   simp only [go_sem,simprocAttr,hw20,hxp_21]
   first | apply hK22 | refine ⟨sd,hK22 _ _ ?_⟩
   refine Wp.seqW fun K23 hK23 hW23=>?_
   refine Wp.seqR fun K24 hK24=>?_
   simp only [go_sem,simprocAttr,hw20,hxp_21]
   first | apply hK24 | refine ⟨sd,hK24 _ _ ?_⟩
   refine cM hm (fun hc25 hm=>?_) (fun hc25 hm=>?_)
   ·refine Wp.seqW fun K26 hK26 hW26=>?_
    refine Wp.seqR fun K27 hK27=>?_
    simp only [go_sem,simprocAttr,hw20,hxp_21]
    first | apply hK27 | refine ⟨sd,hK27 _ _ ?_⟩
    refine cM hm (fun hc28 hm=>?_) (fun hc28 hm=>?_)
    ·refine Wp.seqR fun K29 hK29=>?_
     simp only [go_sem,simprocAttr,hw20,hxp_21]
     first | apply hK29 | refine ⟨sd,hK29 _ _ ?_⟩
     refine Wp.ret ?_
     refine retQ_ret ?_
     cases hm
     simp only [go_sem,simprocAttr,hw20,hxp_21]
     try exact se3
    ·refine Wp.skip ?_
     refine hK26 _ _ ?_
     refine Wp.seqR fun K30 hK30=>?_
     simp only [go_sem,simprocAttr,hw20,hxp_21]
     first | apply hK30 | refine ⟨sd,hK30 _ _ ?_⟩
     refine Wp.exit ?_
     refine hK21 _ _ ?_
     refine Wp.region fun K31 hK31=>?_
     simp only [go_sem,simprocAttr,hw20,hxp_21]
     first | apply hK31 | refine ⟨sd,hK31 _ _ ?_⟩
     simp only [thenQ,blockQ,↓reduceIte]
     refine ⟨IntKind.i64.wrap (size_14+(p_21.Data.length:Int)),hlt20,hnx_18 _ hm,?_⟩
     simp only [go_sem,simprocAttr,hw20,hxp_21]
     try exact se3
   ·refine Wp.skip ?_
    refine hK23 _ _ ?_
    refine Wp.seqW fun K32 hK32 hW32=>?_
    refine Wp.seqR fun K33 hK33=>?_
    simp only [go_sem,simprocAttr,hw20,hxp_21]
    first | apply hK33 | refine ⟨sd,hK33 _ _ ?_⟩
    refine cM hm (fun hc34 hm=>?_) (fun hc34 hm=>?_)
    ·refine Wp.seqR fun K35 hK35=>?_
     simp only [go_sem,simprocAttr,hw20,hxp_21]
     first | apply hK35 | refine ⟨sd,hK35 _ _ ?_⟩
     refine Wp.ret ?_
     refine retQ_ret ?_
     cases hm
     simp only [go_sem,simprocAttr,hw20,hxp_21]
     try exact se3
    ·refine Wp.skip ?_
     refine hK32 _ _ ?_
     refine Wp.region fun K36 hK36=>?_
     simp only [go_sem,simprocAttr,hw20,hxp_21]
     first | apply hK36 | refine ⟨sd,hK36 _ _ ?_⟩
     refine hK21 _ _ ?_
     refine Wp.region fun K37 hK37=>?_
     simp only [go_sem,simprocAttr,hw20,hxp_21]
     first | apply hK37 | refine ⟨sd,hK37 _ _ ?_⟩
     simp only [thenQ,blockQ,↓reduceIte]
     refine ⟨IntKind.i64.wrap (size_14+p_21.Long),hlt20,hnx_18 _ hm,?_⟩
     simp only [go_sem,simprocAttr,hw20,hxp_21]
     try exact se3
theorem ok_delta_Check (d_1:api_Delta) (z:Int) (hm:delta_Check d_1=some z):Does Tryd.prog 33 [.agg [.p (.i .i64 d_1.Old),.p (.i .i64 d_1.New),.p (.s d_1.OldSum),.p (.s d_1.NewSum),.p (.l (List.map enc_api_Piece d_1.Pieces))]] [] (fun r X=>r=.p (.i .i64 z)∧X=[]):=by
 unfold delta_Check at hm
 refine Does.of_wp 0 40 [.tmp 2] Tryd.func33 rfl (by decide) rfl rfl (Nat.le_of_ble_eq_true rfl) fun B=>?_
 refine qS ?_
 refine Wp.seqW fun K2 hK2 hW2=>?_
 obtain ⟨r_2,hr_2,hm⟩:=call_elim hm
 obtain ⟨r_3,hr_3,hm⟩:=callG_elim hm
 refine Wp.seqR fun K3 hK3=>?_
 simp only [go_sem,simprocAttr]
 try refine ⟨sd,?_⟩
 refine Rg.callX (av:=?av4) (g:=true) (fun hg=>ok_delta_outside d_1.Old 0 65536 _ hr_2) si si si sg si ?cont4
 intro hv4
 simp only [go_sem,simprocAttr]
 try refine ⟨sd,?_⟩
 refine Rg.callX (av:=?av5) (g:=!r_2) (fun hg=>ok_delta_outside d_1.New 0 65536 _ (hr_3 hg)) si si si sg si ?cont5
 intro hv5
 simp only [go_sem,simprocAttr]
 first | apply hK3 | refine ⟨sd,hK3 _ _ ?_⟩
 refine cM hm (fun hc6 hm=>?_) (fun hc6 hm=>?_)
 ·refine qS ?_
  refine Wp.ret ?_
  refine retQ_ret ?_
  cases hm
  exact fse3
 ·refine Wp.skip ?_
  refine hK2 _ _ ?_
  refine Wp.seqW fun K8 hK8 hW8=>?_
  obtain ⟨r_4,hr_4,hm⟩:=call_elim hm
  obtain ⟨r_5,hr_5,hm⟩:=callG_elim hm
  refine Wp.seqR fun K9 hK9=>?_
  simp only [go_sem,simprocAttr]
  try refine ⟨sd,?_⟩
  refine Rg.callX (av:=?av10) (g:=true) (fun hg=>ok_delta_isSum d_1.OldSum _ hr_4) si si si sg si ?cont10
  intro hv10
  simp only [go_sem,simprocAttr]
  try refine ⟨sd,?_⟩
  refine Rg.callX (av:=?av11) (g:=!(!r_4)) (fun hg=>ok_delta_isSum d_1.NewSum _ (hr_5 hg)) si si si sg si ?cont11
  intro hv11
  simp only [go_sem,simprocAttr]
  first | apply hK9 | refine ⟨sd,hK9 _ _ ?_⟩
  refine cM hm (fun hc12 hm=>?_) (fun hc12 hm=>?_)
  ·refine qS ?_
   refine Wp.ret ?_
   refine retQ_ret ?_
   cases hm
   exact fse3
  ·refine Wp.skip ?_
   refine hK8 _ _ ?_
   obtain ⟨r_6,hr_6,hm⟩:=call_elim hm
   refine Wp.seqR fun K14 hK14=>?_
   simp only [go_sem,simprocAttr]
   try refine ⟨sd,?_⟩
   refine Rg.callX (av:=?av15) (g:=true) (fun hg=>ok_delta_CheckSteps d_1.Pieces d_1.Old _ hr_6) si si si sg si ?cont15
   intro hv15
   simp only [go_sem,simprocAttr]
   first | apply hK14 | refine ⟨sd,hK14 _ _ ?_⟩
   refine Wp.seqW fun K16 hK16 hW16=>?_
   refine qS ?_
   refine cM hm (fun hc18 hm=>?_) (fun hc18 hm=>?_)
   ·refine qS ?_
    refine Wp.ret ?_
    refine retQ_ret ?_
    cases hm
    exact fse3
   ·refine Wp.skip ?_
    refine hK16 _ _ ?_
    refine qS ?_
    refine Wp.ret ?_
    refine retQ_ret ?_
    cases hm
    exact fse3
theorem ok_strings_Builder_copyCheck_i1 (o1_1:Str) (z:Unit) (hm:strings_Builder_copyCheck_i1 o1_1=some z):Does Tryd.prog 99 [.ptr 0 0] [.cells 81 [.nil,.buf 1],.sb 5 o1_1] (fun r X=>r=.tup []∧X=[.cells 81 [.ptr 0 0,.buf 1],.sb 5 o1_1]):=by
 unfold strings_Builder_copyCheck_i1 at hm
 refine Does.of_wp 2 20 [] Tryd.func99 rfl (by decide) rfl rfl (Nat.le_of_ble_eq_true rfl) fun B=>?_
 refine qS ?_
 refine Wp.cond rfl ⟨⟩ (fun hc2=>?_) (fun hc2=>?_)
 rotate_left
 ·cases hc2
 refine Wp.region fun K3 hK3=>?_
 simp only [go_sem,simprocAttr]
 try refine ⟨sd,?_⟩
 refine Rg.callI (v:=?av4) (g:=true) nvi_115 si si sg ?cont4
 simp only [go_sem,simprocAttr]
 first | apply hK3 | refine ⟨sd,hK3 _ _ ?_⟩
 refine retQ_normal ?_
 cases hm
 exact fse3
theorem ok_strings_Builder_copyCheck_i2 (o1_1:Str) (z:Unit) (hm:strings_Builder_copyCheck_i2 o1_1=some z):Does Tryd.prog 99 [.ptr 0 0] [.cells 81 [.ptr 0 0,.buf 1],.sb 5 o1_1] (fun r X=>r=.tup []∧X=[.cells 81 [.ptr 0 0,.buf 1],.sb 5 o1_1]):=by
 unfold strings_Builder_copyCheck_i2 at hm
 refine Does.of_wp 2 20 [] Tryd.func99 rfl (by decide) rfl rfl (Nat.le_of_ble_eq_true rfl) fun B=>?_
 refine qS ?_
 refine Wp.cond rfl ⟨⟩ (fun hc2=>?_) (fun hc2=>?_)
 ·cases hc2
 refine qS ?_
 refine Wp.cond rfl ⟨⟩ (fun hc4=>?_) (fun hc4=>?_)
 ·cases hc4
 refine Wp.skip ?_
 refine retQ_normal ?_
 cases hm
 exact fse3
theorem ok_strings_Builder_copyCheck_np (o0:Str) (z:Unit) (hm:strings_Builder_copyCheck_np o0=some z):Does Tryd.prog 99 [.ptr 0 0] [.cells 81 [.np 0,.buf 1],.sb 5 o0] (fun r X=>r=.tup []∧X=[.cells 81 [.np 0,.buf 1],.sb 5 o0]) :=
 Does.np (ok_strings_Builder_copyCheck_i1 o0 () rfl) (ok_strings_Builder_copyCheck_i2 o0 () rfl)
theorem ok_strings_Builder_WriteString_i1 (s_1:Str) (o1_2:Str) (z:Int × Str) (hm:strings_Builder_WriteString_i1 s_1 o1_2=some z):Does Tryd.prog 50 [.ptr 0 0,.p (.s s_1)] [.cells 81 [.np 0,.buf 1],.sb 5 o1_2] (fun r X=>r=.tup [.p (.i .i64 z.1),.raw .nilIface]∧X=[.cells 81 [.np 0,.buf 1],.sb 5 z.2]):=by
 unfold strings_Builder_WriteString_i1 at hm
 refine Does.of_wp 2 19 [.tmp 4,.tmp 5] Tryd.func50 rfl (by decide) rfl rfl (Nat.le_of_ble_eq_true rfl) fun B=>?_
 refine qS ?_
 obtain ⟨r_5,hr_5,hm⟩:=call_elim hm
 refine Wp.seqR fun K2 hK2=>?_
 simp only [go_sem,simprocAttr]
 try refine ⟨sd,?_⟩
 refine Rg.callO (av:=?av3) [0,1] (ok_strings_Builder_copyCheck_np o1_2 _ hr_5) si si si sg sg ?cont3
 rintro _ _ ⟨rfl,rfl⟩ hv3
 simp only [go_sem,simprocAttr]
 first | apply hK2 | refine ⟨sd,hK2 _ _ ?_⟩
 obtain ⟨c_6,hm⟩:=chk_elim hm
 refine Wp.seqR fun K4 hK4=>?_
 simp only [go_sem,simprocAttr]
 first | apply hK4 | refine ⟨by first | exact sd | ((repeat' apply And.intro) <;> first | assumption | omega | (simp only [List.length_append,List.length_map,List.length_cons,List.length_nil,List.length_set,List.length_replicate] at c_6 ⊢; omega)),hK4 _ _ ?_⟩
 refine qS ?_
 refine Wp.ret ?_
 refine retQ_ret ?_
 cases hm
 exact fse3
theorem ok_strings_Builder_String_i1 (o1_1:Str) (z:Str) (hm:strings_Builder_String_i1 o1_1=some z):Does Tryd.prog 52 [.ptr 0 0] [.cells 81 [.np 0,.buf 1],.sb 5 o1_1] (fun r X=>r=.p (.s z)∧X=[.cells 81 [.np 0,.buf 1],.sb 5 o1_1]):=by
 unfold strings_Builder_String_i1 at hm
 refine Does.of_wp 2 14 [.tmp 2] Tryd.func52 rfl (by decide) rfl rfl (Nat.le_of_ble_eq_true rfl) fun B=>?_
 refine qS ?_
 refine Wp.seqD (plan:=pl [(0,none),(1,none),(2,none),(3,none),(5,none),(6,none),(7,none),(8,none),(9,none),(4,some [5,6,7,8,9]),(10,some []),(11,none)]) (by kernel_rfl) rfl (by kernel_rfl) fun K2 hK2=>?_
 simp only [go_sem,simprocAttr]
 first | apply hK2 | refine ⟨sd,hK2 _ _ ?_⟩
 refine Wp.ret ?_
 refine retQ_ret ?_
 cases hm
 exact fse3
theorem ok_delta_Apply (a_1:Str) (d_2:api_Delta) (z:Str × Int) (hm:delta_Apply a_1 d_2=some z):Does Tryd.prog 21 [.p (.s a_1),.agg [.p (.i .i64 d_2.Old),.p (.i .i64 d_2.New),.p (.s d_2.OldSum),.p (.s d_2.NewSum),.p (.l (List.map enc_api_Piece d_2.Pieces))]] [] (fun r X=>r=.tup [.p (.s z.1),.p (.i .i64 z.2)]∧X=[]):=by
 unfold delta_Apply at hm
 refine Does.of_wp 0 57 [.tmp 4,.tmp 5] Tryd.func21 rfl (by decide) rfl rfl (Nat.le_of_ble_eq_true rfl) fun B=>?_
 refine qS ?_
 refine Wp.seqW fun K2 hK2 hW2=>?_
 obtain ⟨r_3,hr_3,hm⟩:=call_elim hm
 refine Wp.seqR fun K3 hK3=>?_
 simp only [go_sem,simprocAttr]
 try refine ⟨sd,?_⟩
 refine Rg.callX (av:=?av4) (g:=true) (fun hg=>ok_delta_Check d_2 _ hr_3) si si si sg si ?cont4
 intro hv4
 simp only [go_sem,simprocAttr]
 first | apply hK3 | refine ⟨sd,hK3 _ _ ?_⟩
 refine qS ?_
 refine cM hm (fun hc6 hm=>?_) (fun hc6 hm=>?_)
 ·refine qS ?_
  refine Wp.ret ?_
  refine retQ_ret ?_
  cases hm
  exact fse3
 ·refine Wp.skip ?_
  refine hK2 _ _ ?_
  refine Wp.seqW fun K8 hK8 hW8=>?_
  obtain ⟨r_4,hr_4,hm⟩:=callG_elim hm
  refine Wp.seqD (plan:=pl [(0,none),(1,none),(2,none),(3,none),(4,none),(5,none),(6,none),(7,none),(8,none),(9,none),(10,none),(11,none)]) (by kernel_rfl) rfl (by kernel_rfl) fun K9 hK9=>?_
  simp only [go_sem,simprocAttr]
  try refine ⟨sd,?_⟩
  refine Dr.callF (av:=?av10) (g:=!(!decide ((a_1.length:Int)=d_2.Old))) (o:=?o10) (fun hg=>ok_disk_SumOf a_1 _ (hr_4 hg)) si si si si sg si ?cont10
  simp only [go_sem,simprocAttr]
  first | apply hK9 | refine ⟨sd,hK9 _ _ ?_⟩
  refine cM hm (fun hc11 hm=>?_) (fun hc11 hm=>?_)
  ·refine qS ?_
   refine Wp.ret ?_
   refine retQ_ret ?_
   cases hm
   exact fse3
  ·refine Wp.skip ?_
   refine hK8 _ _ ?_
   refine qS ?_
   refine Wp.adoptB 1 5 rfl ?_
   simp only [go_sem,simprocAttr]
   refine Wp.seqW fun K14 hK14 hW14=>?_
   obtain ⟨k_25,hk_25,hm⟩:=jp_elim hm
   have hcut14:∀ s,k_25 s=some z→K14 [(3,.ptr 0 0),(7,.ptr 1 0)] [.cells 41 [.p (.i .i64 d_2.Old),.p (.i .i64 d_2.New),.p (.s d_2.OldSum),.p (.s d_2.NewSum),.p (.l (List.map enc_api_Piece d_2.Pieces))],.cells 81 [.np 1,.buf 2],.sb 5 s]:=by
    intro o2_24 hs
    have hm:=hk_25 _ hs
    clear hs
    try dsimp only at hm
    try dsimp only
    refine hK14 _ _ ?_
    refine Wp.seqW fun K15 hK15 hW15=>?_
    obtain ⟨r_27,hr_27,hm⟩:=call_elim hm
    obtain ⟨r_28,hr_28,hm⟩:=call_elim hm
    refine Wp.seqD (plan:=pl [(2,none),(3,none),(0,some [2,3]),(1,none),(4,none)]) (by kernel_rfl) rfl (by kernel_rfl) fun K16 hK16=>?_
    simp only [go_sem,simprocAttr]
    try refine ⟨sd,?_⟩
    refine Dr.of_br (Br.callS (av:=?av17) (o:=?o17) 2 [1,2] (ok_strings_Builder_String_i1 o2_24 _ hr_27) si si si si si sg sg sg sg ?cont17)
    simp only [go_sem,simprocAttr]
    try refine ⟨sd,?_⟩
    refine Dr.callF (av:=?av18) (g:=true) (o:=?o18) (fun hg=>ok_disk_SumOf r_27 _ hr_28) si si si si sg si ?cont18
    simp only [go_sem,simprocAttr]
    first | apply hK16 | refine ⟨sd,hK16 _ _ ?_⟩
    refine cM hm (fun hc19 hm=>?_) (fun hc19 hm=>?_)
    ·refine qS ?_
     refine Wp.ret ?_
     refine retQ_ret ?_
     cases hm
     exact fse3
    ·refine Wp.skip ?_
     refine hK15 _ _ ?_
     obtain ⟨r_29,hr_29,hm⟩:=call_elim hm
     refine Wp.seqR fun K21 hK21=>?_
     simp only [go_sem,simprocAttr]
     try refine ⟨sd,?_⟩
     refine Rg.callO (av:=?av22) [1,2] (ok_strings_Builder_String_i1 o2_24 _ hr_29) si si si sg sg ?cont22
     rintro _ _ ⟨rfl,rfl⟩ hv22
     simp only [go_sem,simprocAttr]
     first | apply hK21 | refine ⟨sd,hK21 _ _ ?_⟩
     refine Wp.ret ?_
     refine retQ_ret ?_
     cases hm
     exact fse3
   clear hK14 hk_25
   refine qS ?_
   refine Wp.block ?_
   obtain ⟨k_41,hk_41,hm⟩:=forL_cont hm
   refine Wp.fact 28 fun hl_44=>?_
   replace hl_44:d_2.Pieces.length≤274877906944:=by
    simp only [go_sem,simprocAttr,List.length_map] at hl_44
    omega
   refine Wp.forL (fun i_43 s=>[(0,.p (.s a_1)),(3,.ptr 0 0),(7,.ptr 1 0),(28,.p (.l (List.map enc_api_Piece d_2.Pieces))),(29,.p (.i .i64 (d_2.Pieces.length:Int))),(30,.p (.i .i64 (i_43:Int)))]) (fun i_43 s=>[.cells 41 [.p (.i .i64 d_2.Old),.p (.i .i64 d_2.New),.p (.s d_2.OldSum),.p (.s d_2.NewSum),.p (.l (List.map enc_api_Piece d_2.Pieces))],.cells 81 [.np 1,.buf 2],.sb 5 s]) ?_ hm ?_
   ·
    exact fse3
   clear hm
   intro i_43 o2_36 hii_43 hm
   try dsimp only at hm
   try dsimp only
   refine qS ?_
   refine Wp.seqW fun K25 hK25 hW25=>?_
   refine Wp.cond rfl ⟨⟩ (fun hc25=>?_) (fun hc25=>?_)
   rotate_left
   ·refine Wp.exit ?_
    have hm:=hk_41 _ (forL_end hm (ge_nat (by first | exact hc25 | simpa using hc25)))
    try dsimp only at hm
    refine hW14 _ _ _ _ ?_ (hcut14 o2_36 hm)
    exact fse3
   have hlt25:=lt_nat (by first | exact hc25 | simpa using hc25)
   have hw25:=wrap_succ hlt25 hl_44
   obtain ⟨p_45,nx_42,hxp_45,hyp_45,hnx_42,hm⟩:=forL_step hm hlt25
   replace hxp_45:=hxp_45 enc_api_Piece
   refine Wp.skip ?_
   simp only [thenQ]
   refine hK25 _ _ ?_
   refine Wp.seqW fun K26 hK26 hW26=>?_
   refine Wp.block ?_
   refine Wp.seqR fun K27 hK27=>?_
   simp only [go_sem,simprocAttr,hw25,hxp_45]
   first | apply hK27 | refine ⟨sd,hK27 _ _ ?_⟩
   refine Wp.seqR fun K28 hK28=>?_
   simp only [go_sem,simprocAttr,hw25,hxp_45]
   first | apply hK28 | refine ⟨sd,hK28 _ _ ?_⟩
   refine cM hm (fun hc29 hm=>?_) (fun hc29 hm=>?_)
   ·obtain ⟨r_46,hr_46,hm⟩:=call_elim hm
    refine Wp.region fun K30 hK30=>?_
    simp only [go_sem,simprocAttr,hw25,hxp_45]
    try refine ⟨sd,?_⟩
    refine Rg.callO (av:=?av31) [1,2] (ok_strings_Builder_WriteString_i1 p_45.Data o2_36 _ hr_46) (by simp only [go_sem,simprocAttr,hw25,hxp_45]; exact Is.mk) (by simp only [go_sem,simprocAttr,hw25,hxp_45]; exact Is.mk) (by simp only [go_sem,simprocAttr,hw25,hxp_45]; exact Is.mk) (by simp only [go_sem,simprocAttr,hw25,hxp_45]) (by simp only [go_sem,simprocAttr,hw25,hxp_45]) ?cont31
    rintro _ _ ⟨rfl,rfl⟩ hv31
    simp only [go_sem,simprocAttr,hw25,hxp_45]
    first | apply hK30 | refine ⟨sd,hK30 _ _ ?_⟩
    refine hK26 _ _ ?_
    refine Wp.region fun K32 hK32=>?_
    simp only [go_sem,simprocAttr,hw25,hxp_45]
    first | apply hK32 | refine ⟨sd,hK32 _ _ ?_⟩
    simp only [thenQ,blockQ,↓reduceIte]
    refine ⟨r_46.2,hlt25,hnx_42 _ hm,?_⟩
    simp only [go_sem,simprocAttr,hw25,hxp_45]
    try exact se3
   ·obtain ⟨c_47,hm⟩:=chk_elim hm
    obtain ⟨r_48,hr_48,hm⟩:=call_elim hm
    refine Wp.region fun K33 hK33=>?_
    simp only [go_sem,simprocAttr,hw25,hxp_45]
    try refine ⟨by first | exact sd | ((repeat' apply And.intro) <;> first | assumption | omega | (simp only [List.length_append,List.length_map,List.length_cons,List.length_nil,List.length_set,List.length_replicate] at c_47 ⊢; omega)),?_⟩
    refine Rg.callO (av:=?av34) [1,2] (ok_strings_Builder_WriteString_i1 (List.take ((IntKind.i64.wrap (p_45.At+p_45.Long)).toNat - p_45.At.toNat) (List.drop p_45.At.toNat a_1)) o2_36 _ hr_48) (by simp only [go_sem,simprocAttr,hw25,hxp_45]; exact Is.mk) (by simp only [go_sem,simprocAttr,hw25,hxp_45]; exact Is.mk) (by simp only [go_sem,simprocAttr,hw25,hxp_45]; exact Is.mk) (by simp only [go_sem,simprocAttr,hw25,hxp_45]) (by simp only [go_sem,simprocAttr,hw25,hxp_45]) ?cont34
    rintro _ _ ⟨rfl,rfl⟩ hv34
    simp only [go_sem,simprocAttr,hw25,hxp_45]
    first | apply hK33 | refine ⟨by first | exact sd | ((repeat' apply And.intro) <;> first | assumption | omega | (simp only [List.length_append,List.length_map,List.length_cons,List.length_nil,List.length_set,List.length_replicate] at c_47 ⊢; omega)),hK33 _ _ ?_⟩
    refine hK26 _ _ ?_
    refine Wp.region fun K35 hK35=>?_
    simp only [go_sem,simprocAttr,hw25,hxp_45]
    first | apply hK35 | refine ⟨sd,hK35 _ _ ?_⟩
    simp only [thenQ,blockQ,↓reduceIte]
    refine ⟨r_48.2,hlt25,hnx_42 _ hm,?_⟩
    simp only [go_sem,simprocAttr,hw25,hxp_45]
    try exact se3
theorem ok_Law_ChangesAreTold_2 (p_1:api_Piece) (z:Bool) (hm:Law_ChangesAreTold_2 p_1=some z):Does Tryd.prog 23 [.agg [.p (.i .i64 p_1.At),.p (.i .i64 p_1.Long),.p (.s p_1.Data)]] [] (fun r X=>r=.p (.b z)∧X=[]):=by
 unfold Law_ChangesAreTold_2 at hm
 refine Does.of_wp 0 6 [.tmp 2] Tryd.func23 rfl (by decide) rfl rfl (Nat.le_of_ble_eq_true rfl) fun B=>?_
 refine qS ?_
 refine qS ?_
 refine Wp.ret ?_
 refine retQ_ret ?_
 cases hm
 exact fse3
theorem ok_slices_IndexFunc_api_Piece_api_Piece_i1 (s_1:List api_Piece) (z:Int) (hm:slices_IndexFunc_api_Piece_api_Piece_i1 s_1=some z):Does Tryd.prog 22 [.p (.l (List.map enc_api_Piece s_1)),.fn 23 []] [] (fun r X=>r=.p (.i .i64 z)∧X=[]):=by
 unfold slices_IndexFunc_api_Piece_api_Piece_i1 at hm
 refine Does.of_wp 0 19 [.tmp 4] Tryd.func22 rfl (by decide) rfl rfl (Nat.le_of_ble_eq_true rfl) fun B=>?_
 refine qS ?_
 refine Wp.seqW fun K2 hK2 hW2=>?_
 obtain ⟨k_11,hk_11,hm⟩:=jp_elim hm
 have hcut2:∀ s,k_11 s=some z→K2 [] []:=by
  intro s hs
  have hm:=hk_11 _ hs
  clear hs
  try dsimp only at hm
  try dsimp only
  refine hK2 _ _ ?_
  refine qS ?_
  refine Wp.ret ?_
  refine retQ_ret ?_
  cases hm
  exact fse3
 clear hK2 hk_11
 refine qS ?_
 refine Wp.block ?_
 obtain ⟨k_15,hk_15,hm⟩:=forL_cont hm
 refine Wp.fact 0 fun hl_18=>?_
 replace hl_18:s_1.length≤274877906944:=by
  simp only [go_sem,simprocAttr,List.length_map] at hl_18
  omega
 refine Wp.forL (fun i_17 s=>[(0,.p (.l (List.map enc_api_Piece s_1))),(1,.fn 23 []),(7,.p (.i .i64 (s_1.length:Int))),(8,.p (.i .i64 (i_17:Int)))]) (fun i_17 s=>[]) ?_ hm ?_
 ·
  exact fse3
 clear hm
 intro i_17 s hii_17 hm
 try dsimp only at hm
 try dsimp only
 refine qS ?_
 refine Wp.seqW fun K6 hK6 hW6=>?_
 refine Wp.cond rfl ⟨⟩ (fun hc6=>?_) (fun hc6=>?_)
 rotate_left
 ·refine Wp.exit ?_
  have hm:=hk_15 _ (forL_end hm (ge_nat (by first | exact hc6 | simpa using hc6)))
  try dsimp only at hm
  refine hW2 _ _ _ _ ?_ (hcut2 () hm)
  exact fse3
 have hlt6:=lt_nat (by first | exact hc6 | simpa using hc6)
 have hw6:=wrap_succ hlt6 hl_18
 obtain ⟨p_19,nx_16,hxp_19,hyp_19,hnx_16,hm⟩:=forL_step hm hlt6
 replace hxp_19:=hxp_19 enc_api_Piece
 refine Wp.skip ?_
 simp only [thenQ]
 refine hK6 _ _ ?_
 refine Wp.seqW fun K7 hK7 hW7=>?_
 refine Wp.block ?_
 refine Wp.seqR fun K8 hK8=>?_
 simp only [go_sem,simprocAttr,hw6,hxp_19]
 first | apply hK8 | refine ⟨sd,hK8 _ _ ?_⟩
 obtain ⟨r_20,hr_20,hm⟩:=call_elim hm
 refine Wp.seqR fun K9 hK9=>?_
 simp only [go_sem,simprocAttr,hw6,hxp_19]
 try refine ⟨sd,?_⟩
 refine Rg.callX (av:=?av10) (g:=true) (fun hg=>ok_Law_ChangesAreTold_2 p_19 _ hr_20) (by simp only [go_sem,simprocAttr,hw6,hxp_19]; exact Is.mk) (by simp only [go_sem,simprocAttr,hw6,hxp_19]; exact Is.mk) (by simp only [go_sem,simprocAttr,hw6,hxp_19]; exact Is.mk) (by simp only [go_sem,simprocAttr,hw6,hxp_19]) (by simp only [go_sem,simprocAttr,hw6,hxp_19]; exact Is.mk) ?cont10
 intro hv10
 simp only [go_sem,simprocAttr,hw6,hxp_19]
 first | apply hK9 | refine ⟨sd,hK9 _ _ ?_⟩
 refine cM hm (fun hc11 hm=>?_) (fun hc11 hm=>?_)
 ·refine Wp.seqR fun K12 hK12=>?_
  simp only [go_sem,simprocAttr,hw6,hxp_19]
  first | apply hK12 | refine ⟨sd,hK12 _ _ ?_⟩
  refine Wp.ret ?_
  refine retQ_ret ?_
  cases hm
  simp only [go_sem,simprocAttr,hw6,hxp_19]
  try exact se3
 ·refine Wp.skip ?_
  refine hK7 _ _ ?_
  refine Wp.region fun K13 hK13=>?_
  simp only [go_sem,simprocAttr,hw6,hxp_19]
  first | apply hK13 | refine ⟨sd,hK13 _ _ ?_⟩
  simp only [thenQ,blockQ,↓reduceIte]
  refine ⟨(),hlt6,hnx_16 _ hm,?_⟩
  simp only [go_sem,simprocAttr,hw6,hxp_19]
  try exact se3
theorem ok_slices_Clone_api_Piece_api_Piece_new (s_1:List api_Piece) (z:List api_Piece) (hm:slices_Clone_api_Piece_api_Piece_new s_1=some z):Does Tryd.prog 24 [.p (.l (List.map enc_api_Piece s_1))] [] (fun r X=>r=.buf 0∧X=[.buf 49 3 (List.map enc_api_Piece z)]):=by
 unfold slices_Clone_api_Piece_api_Piece_new at hm
 refine Does.of_wp 1 8 [.tmp 2] Tryd.func24 rfl (by decide) rfl rfl (Nat.le_of_ble_eq_true rfl) fun B=>?_
 refine qS ?_
 refine Wp.seqW fun K2 hK2 hW2=>?_
 refine Wp.seqR fun K3 hK3=>?_
 simp only [go_sem,simprocAttr]
 try refine ⟨sd,?_⟩
 refine Rg.isnil (rows:=?rows4) (e:=?e4) (esz:=?esz4) (eb:=?eb4) (ez:=?ez4) Is.mk Is.mk sg sg si si ?cont4
 intro b_5 hb_6
 replace hm:=anyOf_elim hm b_5 (fun h=>List.map_eq_nil_iff.1 (hb_6 h))
 try dsimp only at hm
 simp only [go_sem,simprocAttr]
 first | apply hK3 | refine ⟨sd,hK3 _ _ ?_⟩
 refine cM hm (fun hc5 hm=>?_) (fun hc5 hm=>?_)
 ·refine qS ?_
  refine Wp.adopt 2 49 3 rfl ?_
  simp only [go_sem,simprocAttr]
  refine Wp.ret ?_
  refine retQ_ret ?_
  cases hm
  exact fse3
 ·refine Wp.skip ?_
  refine hK2 _ _ ?_
  obtain ⟨c_7,hm⟩:=chk_elim hm
  refine Wp.seqR fun K7 hK7=>?_
  simp only [go_sem,simprocAttr]
  first | apply hK7 | refine ⟨by first | exact sd | ((repeat' apply And.intro) <;> first | assumption | omega | (simp only [List.length_append,List.length_map,List.length_cons,List.length_nil,List.length_set,List.length_replicate] at c_7 ⊢; omega)),hK7 _ _ ?_⟩
  refine Wp.ret ?_
  refine retQ_ret ?_
  cases hm
  exact fse3
theorem ok_delta_putNumber_i1 (n_1:Int) (o0_2:List Int) (z:List Int) (hm:delta_putNumber_i1 n_1 o0_2=some z):Does Tryd.prog 66 [.buf 0,.p (.i .i64 n_1)] [.buf 5 1 (List.map ecI_u8 o0_2)] (fun r X=>r=.buf 0∧X=[.buf 5 1 (List.map ecI_u8 z)]):=by
 unfold delta_putNumber_i1 at hm
 refine Does.of_wp 1 21 [.tmp 4] Tryd.func66 rfl (by decide) rfl rfl (Nat.le_of_ble_eq_true rfl) fun B=>?_
 refine qS ?_
 refine Wp.seqW fun K2 hK2 hW2=>?_
 obtain ⟨k_33,hk_33,hm⟩:=jp_elim hm
 have hcut2:∀ s,k_33 s=some z→K2 [(0,.buf 0),(1,.p (.i .i64 s.1))] [.buf 5 1 (List.map ecI_u8 s.2)]:=by
  intro s hs
  have hm:=hk_33 _ hs
  clear hs
  obtain ⟨n_31,o0_32⟩:=s
  try dsimp only at hm
  try dsimp only
  refine hK2 _ _ ?_
  obtain ⟨c_34,hm⟩:=chk_elim hm
  refine Wp.seqR fun K3 hK3=>?_
  simp only [go_sem,simprocAttr]
  first | apply hK3 | refine ⟨by first | exact sd | ((repeat' apply And.intro) <;> first | assumption | omega | (simp only [List.length_append,List.length_map,List.length_cons,List.length_nil,List.length_set,List.length_replicate] at c_34 ⊢; omega)),hK3 _ _ ?_⟩
  refine Wp.ret ?_
  refine retQ_ret ?_
  cases hm
  exact fse3
 clear hK2 hk_33
 refine Wp.block ?_
 obtain ⟨k_40,hk_40,hm⟩:=loopN_cont hm
 refine Wp.loopN (fun s=>[(0,.buf 0),(1,.p (.i .i64 s.1))]) (fun s=>[.buf 5 1 (List.map ecI_u8 s.2)]) ?_ hm ?_
 ·
  exact fse3
 clear hm
 intro s nx_41 hm
 obtain ⟨n_37,o0_38⟩:=s
 try dsimp only at hm
 try dsimp only
 refine Wp.seqW fun K4 hK4 hW4=>?_
 refine qS ?_
 refine cM hm (fun hc6 hm=>?_) (fun hc6 hm=>?_)
 ·refine Wp.skip ?_
  refine hK4 _ _ ?_
  refine Wp.block ?_
  obtain ⟨c_42,hm⟩:=chk_elim hm
  refine Wp.seqR fun K7 hK7=>?_
  simp only [go_sem,simprocAttr]
  first | apply hK7 | refine ⟨by first | exact sd | ((repeat' apply And.intro) <;> first | assumption | omega | (simp only [List.length_append,List.length_map,List.length_cons,List.length_nil,List.length_set,List.length_replicate] at c_42 ⊢; omega)),hK7 _ _ ?_⟩
  refine qR ?_
  simp only [thenQ,blockQ,↓reduceIte]
  refine ⟨(Int.fdiv n_37 (2 ^ (shI .i64 7)),o0_38++[IntKind.u8.wrap (bitsI .or .i64 (bitsI .and .i64 n_37 127) 128)]),hm,?_⟩
  exact fse3
 ·refine Wp.exit ?_
  simp only [thenQ,blockQ,↓reduceIte]
  have hm:=hk_40 _ hm
  try dsimp only at hm
  refine hW2 _ _ _ _ ?_ (hcut2 (n_37,o0_38) hm)
  exact fse3
theorem ok_internal_strconv_lower (c_1:Int) (z:Int) (hm:internal_strconv_lower c_1=some z):Does Tryd.prog 129 [.p (.i .u8 c_1)] [] (fun r X=>r=.p (.i .u8 z)∧X=[]):=by
 unfold internal_strconv_lower at hm
 refine Does.of_wp 0 5 [.tmp 2] Tryd.func129 rfl (by decide) rfl rfl (Nat.le_of_ble_eq_true rfl) fun B=>?_
 refine qS ?_
 refine qS ?_
 refine Wp.ret ?_
 refine retQ_ret ?_
 cases hm
 exact fse3
theorem ok_internal_strconv_underscoreOK (s_1:Str) (z:Bool) (hm:internal_strconv_underscoreOK s_1=some z):Does Tryd.prog 130 [.p (.s s_1)] [] (fun r X=>r=.p (.b z)∧X=[]):=by
 unfold internal_strconv_underscoreOK at hm
 refine Does.of_wp 0 94 [.tmp 2] Tryd.func130 rfl (by decide) rfl rfl (Nat.le_of_ble_eq_true rfl) fun B=>?_
 refine qS ?_
 refine qS ?_
 refine qS ?_
 refine Wp.seqW fun K4 hK4 hW4=>?_
 obtain ⟨k_6,hk_6,hm⟩:=jp_elim hm
 have hcut4:∀ s,k_6 s=some z→K4 [(0,.p (.s s)),(3,.p (.i .i32 94)),(4,.p (.i .i64 0))] []:=by
  intro s_5 hs
  have hm:=hk_6 _ hs
  clear hs
  try dsimp only at hm
  try dsimp only
  refine hK4 _ _ ?_
  refine qS ?_
  refine Wp.seqW fun K6 hK6 hW6=>?_
  obtain ⟨k_19,hk_19,hm⟩:=jp_elim hm
  have hcut6:∀ s,k_19 s=some z→K6 [(0,.p (.s s_5)),(3,.p (.i .i32 s.1)),(4,.p (.i .i64 s.2.1)),(5,.p (.b s.2.2))] []:=by
   intro s hs
   have hm:=hk_19 _ hs
   clear hs
   obtain ⟨saw_16,i_17,hex_18⟩:=s
   try dsimp only at hm
   try dsimp only
   refine hK6 _ _ ?_
   refine Wp.seqW fun K7 hK7 hW7=>?_
   obtain ⟨k_31,hk_31,hm⟩:=jp_elim hm
   have hcut7:∀ s,k_31 s=some z→K7 [(3,.p (.i .i32 s))] []:=by
    intro saw_30 hs
    have hm:=hk_31 _ hs
    clear hs
    try dsimp only at hm
    try dsimp only
    refine hK7 _ _ ?_
    refine qS ?_
    refine Wp.ret ?_
    refine retQ_ret ?_
    cases hm
    exact fse3
   clear hK7 hk_31
   refine Wp.block ?_
   obtain ⟨k_37,hk_37,hm⟩:=loopN_cont hm
   refine Wp.loopN (fun s=>[(0,.p (.s s_5)),(3,.p (.i .i32 s.1)),(4,.p (.i .i64 s.2)),(5,.p (.b hex_18))]) (fun s=>[]) ?_ hm ?_
   ·
    exact fse3
   clear hm
   intro s nx_38 hm
   obtain ⟨saw_32,i_33⟩:=s
   try dsimp only at hm
   try dsimp only
   refine Wp.seqW fun K9 hK9 hW9=>?_
   refine qS ?_
   refine cM hm (fun hc11 hm=>?_) (fun hc11 hm=>?_)
   ·refine Wp.skip ?_
    refine hK9 _ _ ?_
    refine Wp.seqW fun K12 hK12 hW12=>?_
    refine Wp.block ?_
    refine Wp.seqW fun K13 hK13 hW13=>?_
    obtain ⟨c_39,hbc_39,hxc_39,hm⟩:=idxS_elim hm
    replace hxc_39:((s_5.getD i_33.toNat 0).toNat:Int)=c_39:=hxc_39
    obtain ⟨r_40,hr_40,hm⟩:=callG_elim hm
    obtain ⟨r_41,hr_41,hm⟩:=callG_elim hm
    refine Wp.seqR fun K14 hK14=>?_
    simp only [go_sem,simprocAttr,hxc_39]
    try refine ⟨sd,?_⟩
    refine Rg.callX (av:=?av15) (g:=((!((decide (48≤c_39)) && (decide (c_39≤57)))) && hex_18)) (fun hg=>ok_internal_strconv_lower c_39 _ (hr_40 hg)) (by simp only [go_sem,simprocAttr,hxc_39]; exact Is.mk) (by simp only [go_sem,simprocAttr,hxc_39]; exact Is.mk) (by simp only [go_sem,simprocAttr,hxc_39]; exact Is.mk) (by simp only [go_sem,simprocAttr,hxc_39]) (by simp only [go_sem,simprocAttr,hxc_39]; exact Is.mk) ?cont15
    intro hv15
    simp only [go_sem,simprocAttr,hxc_39]
    try refine ⟨sd,?_⟩
    refine Rg.callX (av:=?av16) (g:=((!((decide (48≤c_39)) && (decide (c_39≤57)))) && (hex_18 && (decide (97≤r_40))))) (fun hg=>ok_internal_strconv_lower c_39 _ (hr_41 hg)) (by simp only [go_sem,simprocAttr,hxc_39]; exact Is.mk) (by simp only [go_sem,simprocAttr,hxc_39]; exact Is.mk) (by simp only [go_sem,simprocAttr,hxc_39]; exact Is.mk) (by simp only [go_sem,simprocAttr,hxc_39]) (by simp only [go_sem,simprocAttr,hxc_39]; exact Is.mk) ?cont16
    intro hv16
    simp only [go_sem,simprocAttr,hxc_39]
    first | apply hK14 | refine ⟨sd,hK14 _ _ ?_⟩
    refine cM hm (fun hc17 hm=>?_) (fun hc17 hm=>?_)
    ·refine Wp.seqR fun K18 hK18=>?_
     simp only [go_sem,simprocAttr,hxc_39]
     first | apply hK18 | refine ⟨sd,hK18 _ _ ?_⟩
     refine Wp.exit ?_
     refine hK12 _ _ ?_
     refine Wp.region fun K19 hK19=>?_
     simp only [go_sem,simprocAttr,hxc_39]
     first | apply hK19 | refine ⟨sd,hK19 _ _ ?_⟩
     simp only [thenQ,blockQ,↓reduceIte]
     refine ⟨(48,IntKind.i64.wrap (i_33+1)),hm,?_⟩
     simp only [go_sem,simprocAttr,hxc_39]
     try exact se3
    ·refine Wp.skip ?_
     refine hK13 _ _ ?_
     refine Wp.seqW fun K20 hK20 hW20=>?_
     refine Wp.seqR fun K21 hK21=>?_
     simp only [go_sem,simprocAttr,hxc_39]
     first | apply hK21 | refine ⟨sd,hK21 _ _ ?_⟩
     refine cM hm (fun hc22 hm=>?_) (fun hc22 hm=>?_)
     ·refine Wp.seqW fun K23 hK23 hW23=>?_
      refine Wp.seqR fun K24 hK24=>?_
      simp only [go_sem,simprocAttr,hxc_39]
      first | apply hK24 | refine ⟨sd,hK24 _ _ ?_⟩
      refine cM hm (fun hc25 hm=>?_) (fun hc25 hm=>?_)
      ·refine Wp.seqR fun K26 hK26=>?_
       simp only [go_sem,simprocAttr,hxc_39]
       first | apply hK26 | refine ⟨sd,hK26 _ _ ?_⟩
       refine Wp.ret ?_
       refine retQ_ret ?_
       cases hm
       simp only [go_sem,simprocAttr,hxc_39]
       try exact se3
      ·refine Wp.skip ?_
       refine hK23 _ _ ?_
       refine Wp.seqR fun K27 hK27=>?_
       simp only [go_sem,simprocAttr,hxc_39]
       first | apply hK27 | refine ⟨sd,hK27 _ _ ?_⟩
       refine Wp.exit ?_
       refine hK12 _ _ ?_
       refine Wp.region fun K28 hK28=>?_
       simp only [go_sem,simprocAttr,hxc_39]
       first | apply hK28 | refine ⟨sd,hK28 _ _ ?_⟩
       simp only [thenQ,blockQ,↓reduceIte]
       refine ⟨(95,IntKind.i64.wrap (i_33+1)),hm,?_⟩
       simp only [go_sem,simprocAttr,hxc_39]
       try exact se3
     ·refine Wp.skip ?_
      refine hK20 _ _ ?_
      refine Wp.seqW fun K29 hK29 hW29=>?_
      refine Wp.seqR fun K30 hK30=>?_
      simp only [go_sem,simprocAttr,hxc_39]
      first | apply hK30 | refine ⟨sd,hK30 _ _ ?_⟩
      refine cM hm (fun hc31 hm=>?_) (fun hc31 hm=>?_)
      ·refine Wp.seqR fun K32 hK32=>?_
       simp only [go_sem,simprocAttr,hxc_39]
       first | apply hK32 | refine ⟨sd,hK32 _ _ ?_⟩
       refine Wp.ret ?_
       refine retQ_ret ?_
       cases hm
       simp only [go_sem,simprocAttr,hxc_39]
       try exact se3
      ·refine Wp.skip ?_
       refine hK29 _ _ ?_
       refine Wp.region fun K33 hK33=>?_
       simp only [go_sem,simprocAttr,hxc_39]
       first | apply hK33 | refine ⟨sd,hK33 _ _ ?_⟩
       refine hK12 _ _ ?_
       refine Wp.region fun K34 hK34=>?_
       simp only [go_sem,simprocAttr,hxc_39]
       first | apply hK34 | refine ⟨sd,hK34 _ _ ?_⟩
       simp only [thenQ,blockQ,↓reduceIte]
       refine ⟨(33,IntKind.i64.wrap (i_33+1)),hm,?_⟩
       simp only [go_sem,simprocAttr,hxc_39]
       try exact se3
   ·refine Wp.exit ?_
    simp only [thenQ,blockQ,↓reduceIte]
    have hm:=hk_37 _ hm
    try dsimp only at hm
    refine hW7 _ _ _ _ ?_ (hcut7 saw_32 hm)
    exact fse3
  clear hK6 hk_19
  obtain ⟨c_42,hm⟩:=chk_elim hm
  obtain ⟨c_43,hm⟩:=chk_elim hm
  obtain ⟨r_44,hr_44,hm⟩:=callG_elim hm
  obtain ⟨c_45,hm⟩:=chk_elim hm
  obtain ⟨r_46,hr_46,hm⟩:=callG_elim hm
  obtain ⟨c_47,hm⟩:=chk_elim hm
  obtain ⟨r_48,hr_48,hm⟩:=callG_elim hm
  refine Wp.seqR fun K35 hK35=>?_
  simp only [go_sem,simprocAttr]
  try refine ⟨by first | exact sd | ((repeat' apply And.intro) <;> first | assumption | omega | (simp only [List.length_append,List.length_map,List.length_cons,List.length_nil,List.length_set,List.length_replicate] at c_42 c_43 c_45 c_47 ⊢; omega)),?_⟩
  refine Rg.callX (av:=?av36) (g:=((decide (2≤(s_5.length:Int))) && (decide (((s_5.getD 0 0).toNat:Int)=48)))) (fun hg=>ok_internal_strconv_lower ((s_5.getD 1 0).toNat:Int) _ (hr_44 hg)) si si si sg si ?cont36
  intro hv36
  simp only [go_sem,simprocAttr]
  try refine ⟨by first | exact sd | ((repeat' apply And.intro) <;> first | assumption | omega | (simp only [List.length_append,List.length_map,List.length_cons,List.length_nil,List.length_set,List.length_replicate] at c_42 c_43 c_45 c_47 ⊢; omega)),?_⟩
  refine Rg.callX (av:=?av37) (g:=(((decide (2≤(s_5.length:Int))) && (decide (((s_5.getD 0 0).toNat:Int)=48))) && (!(decide (r_44=98))))) (fun hg=>ok_internal_strconv_lower ((s_5.getD 1 0).toNat:Int) _ (hr_46 hg)) si si si sg si ?cont37
  intro hv37
  simp only [go_sem,simprocAttr]
  try refine ⟨by first | exact sd | ((repeat' apply And.intro) <;> first | assumption | omega | (simp only [List.length_append,List.length_map,List.length_cons,List.length_nil,List.length_set,List.length_replicate] at c_42 c_43 c_45 c_47 ⊢; omega)),?_⟩
  refine Rg.callX (av:=?av38) (g:=(((decide (2≤(s_5.length:Int))) && (decide (((s_5.getD 0 0).toNat:Int)=48))) && (!((decide (r_44=98)) || (decide (r_46=111)))))) (fun hg=>ok_internal_strconv_lower ((s_5.getD 1 0).toNat:Int) _ (hr_48 hg)) si si si sg si ?cont38
  intro hv38
  simp only [go_sem,simprocAttr]
  first | apply hK35 | refine ⟨by first | exact sd | ((repeat' apply And.intro) <;> first | assumption | omega | (simp only [List.length_append,List.length_map,List.length_cons,List.length_nil,List.length_set,List.length_replicate] at c_42 c_43 c_45 c_47 ⊢; omega)),hK35 _ _ ?_⟩
  refine cM hm (fun hc39 hm=>?_) (fun hc39 hm=>?_)
  ·refine qS ?_
   refine qS ?_
   obtain ⟨c_49,hbc_49,hxc_49,hm⟩:=idxS_elim hm
   replace hxc_49:((s_5.getD 1 0).toNat:Int)=c_49:=hxc_49
   obtain ⟨r_50,hr_50,hm⟩:=call_elim hm
   refine Wp.region fun K42 hK42=>?_
   simp only [go_sem,simprocAttr,hxc_49]
   try refine ⟨sd,?_⟩
   refine Rg.callX (av:=?av43) (g:=true) (fun hg=>ok_internal_strconv_lower c_49 _ hr_50) (by simp only [go_sem,simprocAttr,hxc_49]; exact Is.mk) (by simp only [go_sem,simprocAttr,hxc_49]; exact Is.mk) (by simp only [go_sem,simprocAttr,hxc_49]; exact Is.mk) (by simp only [go_sem,simprocAttr,hxc_49]) (by simp only [go_sem,simprocAttr,hxc_49]; exact Is.mk) ?cont43
   intro hv43
   simp only [go_sem,simprocAttr,hxc_49]
   first | apply hK42 | refine ⟨sd,hK42 _ _ ?_⟩
   refine hW6 _ _ _ _ ?_ (hcut6 (48,2,decide (r_50=120)) hm)
   simp only [go_sem,simprocAttr,hxc_49]
   try exact se3
  ·refine Wp.skip ?_
   refine hW6 _ _ _ _ ?_ (hcut6 (94,0,false) hm)
   exact fse3
 clear hK4 hk_6
 obtain ⟨c_51,hm⟩:=chk_elim hm
 obtain ⟨c_52,hm⟩:=chk_elim hm
 refine Wp.seqR fun K44 hK44=>?_
 simp only [go_sem,simprocAttr]
 first | apply hK44 | refine ⟨by first | exact sd | ((repeat' apply And.intro) <;> first | assumption | omega | (simp only [List.length_append,List.length_map,List.length_cons,List.length_nil,List.length_set,List.length_replicate] at c_51 c_52 ⊢; omega)),hK44 _ _ ?_⟩
 refine cM hm (fun hc45 hm=>?_) (fun hc45 hm=>?_)
 ·obtain ⟨c_53,hm⟩:=chk_elim hm
  refine Wp.region fun K46 hK46=>?_
  simp only [go_sem,simprocAttr]
  first | apply hK46 | refine ⟨by first | exact sd | ((repeat' apply And.intro) <;> first | assumption | omega | (simp only [List.length_append,List.length_map,List.length_cons,List.length_nil,List.length_set,List.length_replicate] at c_53 ⊢; omega)),hK46 _ _ ?_⟩
  refine hW4 _ _ _ _ ?_ (hcut4 (List.drop 1 s_1) hm)
  exact fse3
 ·refine Wp.skip ?_
  refine hW4 _ _ _ _ ?_ (hcut4 s_1 hm)
  exact fse3
end Go.Proofs.YtkekfenkeeiigaaDoor
