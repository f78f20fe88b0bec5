/- That the code does what the models say (part 3). -/
import Derived.Test.YtkekfenkeeiigaaDoorTdWk0
import Derived.Test.YtkekfenkeeiigaaDoorTdWk1
import Derived.Test.YtkekfenkeeiigaaDoorTdWk2
set_option linter.unusedSimpArgs false
set_option linter.unusedVariables false
namespace Go.Proofs.YtkekfenkeeiigaaDoor
open Go.Vc Go.Md
set_option maxRecDepth 100000
set_option maxHeartbeats 4000000
theorem ok_delta_Make (a_1:Str) (b_2:Str) (z:api_Delta × Int) (hm:delta_Make a_1 b_2=some z):Does Tryd.prog 19 [.p (.s a_1),.p (.s b_2)] [] (fun r X=>r=.tup [.agg [.p (.i .i64 z.1.Old),.p (.i .i64 z.1.New),.p (.s z.1.OldSum),.p (.s z.1.NewSum),.p (.l (List.map enc_api_Piece z.1.Pieces))],.p (.i .i64 z.2)]∧X=[]):=by
 unfold delta_Make at hm
 refine Does.of_wp 0 92 [.cell 4 41,.tmp 5] Tryd.func19 rfl (by decide) rfl rfl (Nat.le_of_ble_eq_true rfl) fun B=>?_
 refine qS ?_
 refine Wp.seqW fun K2 hK2 hW2=>?_
 refine qS ?_
 refine cM hm (fun hc4 hm=>?_) (fun hc4 hm=>?_)
 ·refine qS ?_
  refine Wp.ret ?_
  simp only [thenQ,blockQ]
  refine retQ_retE ?_
  cases hm
  exact fse3
 ·refine Wp.skip ?_
  refine hK2 _ _ ?_
  obtain ⟨r_3,hr_3,hm⟩:=call_elim hm
  obtain ⟨r_4,hr_4,hm⟩:=call_elim hm
  refine Wp.seqR fun K6 hK6=>?_
  simp only [go_sem,simprocAttr]
  try refine ⟨sd,?_⟩
  refine Rg.callX (av:=?av7) (g:=true) (fun hg=>ok_disk_SumOf a_1 _ hr_3) si si si sg si ?cont7
  intro hv7
  simp only [go_sem,simprocAttr]
  try refine ⟨sd,?_⟩
  refine Rg.callX (av:=?av8) (g:=true) (fun hg=>ok_disk_SumOf b_2 _ hr_4) si si si sg si ?cont8
  intro hv8
  simp only [go_sem,simprocAttr]
  first | apply hK6 | refine ⟨sd,hK6 _ _ ?_⟩
  obtain ⟨r_5,hr_5,hm⟩:=call_elim hm
  refine Wp.seqR fun K9 hK9=>?_
  simp only [go_sem,simprocAttr]
  try refine ⟨sd,?_⟩
  refine Rg.callO (av:=?av10) [] (ok_delta_newAutomaton a_1 _ hr_5) si si si sg sg ?cont10
  rintro _ _ ⟨rfl,rfl⟩ hv10
  simp only [go_sem,simprocAttr]
  first | apply hK9 | refine ⟨sd,hK9 _ _ ?_⟩
  refine qS ?_
  refine Wp.seqW fun K12 hK12 hW12=>?_
  obtain ⟨k_55,hk_55,hm⟩:=jp_elim hm
  have hcut12:∀ s,k_55 s=some z→K12 [(1,.p (.s b_2)),(4,.ptr 0 0),(6,.ptr 1 0),(8,.p (.i .i64 s.1))] [.cells 41 [.p (.i .i64 0),.p (.i .i64 0),.p (.s []),.p (.s []),.nils],.cells 41 [.p (.i .i64 (a_1.length:Int)),.p (.i .i64 (b_2.length:Int)),.p (.s r_3),.p (.s r_4),.buf 5],.gone,.gone,.cells 141 [.top,.top],.buf 49 3 (List.map enc_api_Piece s.2)]:=by
   intro s hs
   have hm:=hk_55 _ hs
   clear hs
   obtain ⟨from_53,o5_54⟩:=s
   try dsimp only at hm
   try dsimp only
   refine hK12 _ _ ?_
   refine Wp.seqW fun K13 hK13 hW13=>?_
   obtain ⟨k_59,hk_59,hm⟩:=jp_elim hm
   have hcut13:∀ s,k_59 s=some z→K13 [(4,.ptr 0 0),(6,.ptr 1 0)] [.cells 41 [.p (.i .i64 0),.p (.i .i64 0),.p (.s []),.p (.s []),.nils],.cells 41 [.p (.i .i64 (a_1.length:Int)),.p (.i .i64 (b_2.length:Int)),.p (.s r_3),.p (.s r_4),.buf 5],.gone,.gone,.cells 141 [.top,.top],.buf 49 3 (List.map enc_api_Piece s)]:=by
    intro o5_58 hs
    have hm:=hk_59 _ hs
    clear hs
    try dsimp only at hm
    try dsimp only
    refine hK13 _ _ ?_
    refine Wp.seqW fun K14 hK14 hW14=>?_
    refine qS ?_
    refine cM hm (fun hc16 hm=>?_) (fun hc16 hm=>?_)
    ·refine qS ?_
     refine Wp.ret ?_
     simp only [thenQ,blockQ]
     refine retQ_retE ?_
     cases hm
     exact fse3
    ·refine Wp.skip ?_
     refine hK14 _ _ ?_
     refine qS ?_
     refine Wp.ret ?_
     refine retQ_ret ?_
     cases hm
     exact fse3
   clear hK13 hk_59
   refine qS ?_
   refine cM hm (fun hc20 hm=>?_) (fun hc20 hm=>?_)
   ·obtain ⟨c_60,hm⟩:=chk_elim hm
    obtain ⟨c_61,hm⟩:=chk_elim hm
    refine Wp.regD (plan:=pl [(0,none),(1,none),(2,none),(3,none),(4,none),(5,none),(6,some [0,1]),(7,some []),(8,none),(9,some [])]) (by kernel_rfl) rfl (by kernel_rfl) fun K21 hK21=>?_
    simp only [go_sem,simprocAttr]
    first | apply hK21 | refine ⟨by first | exact sd | ((repeat' apply And.intro) <;> first | assumption | omega | (simp only [List.length_append,List.length_map,List.length_cons,List.length_nil,List.length_set,List.length_replicate] at c_60 c_61 ⊢; omega)),hK21 _ _ ?_⟩
    refine hW13 _ _ _ _ ?_ (hcut13 (o5_54++[(api_Piece.mk 0 0 (List.drop from_53.toNat b_2))]) hm)
    exact fse3
   ·refine Wp.skip ?_
    refine hW13 _ _ _ _ ?_ (hcut13 o5_54 hm)
    exact fse3
  clear hK12 hk_55
  refine qS ?_
  refine Wp.block ?_
  refine Wp.adoptO 1 4 49 3 rfl rfl ?_
  simp only [go_sem,simprocAttr]
  obtain ⟨k_98,hk_98,hm⟩:=loopN_cont hm
  refine Wp.loopN (fun s=>[(1,.p (.s b_2)),(4,.ptr 0 0),(6,.ptr 1 0),(7,.ptr 4 0),(8,.p (.i .i64 s.1)),(9,.p (.i .i64 s.2.1))]) (fun s=>[.cells 41 [.p (.i .i64 0),.p (.i .i64 0),.p (.s []),.p (.s []),.nils],.cells 41 [.p (.i .i64 (a_1.length:Int)),.p (.i .i64 (b_2.length:Int)),.p (.s r_3),.p (.s r_4),.buf 5],.nst false 138 4 3 3 (List.map eN_enc_delta_state r_5.1) none,.inn 157 2 (List.map iN_enc_delta_state r_5.1),.cells 141 [.buf 2,.p (.i .i64 r_5.2)],.buf 49 3 (List.map enc_api_Piece s.2.2)]) ?_ hm ?_
  ·
   exact fse3
  clear hm
  intro s nx_99 hm
  obtain ⟨from_86,at_87,o5_88⟩:=s
  try dsimp only at hm
  try dsimp only
  refine Wp.seqW fun K23 hK23 hW23=>?_
  refine qS ?_
  refine cM hm (fun hc25 hm=>?_) (fun hc25 hm=>?_)
  ·refine Wp.skip ?_
   refine hK23 _ _ ?_
   refine Wp.block ?_
   obtain ⟨c_100,hm⟩:=chk_elim hm
   obtain ⟨r_101,hr_101,hm⟩:=call_elim hm
   refine Wp.seqR fun K26 hK26=>?_
   simp only [go_sem,simprocAttr]
   try refine ⟨by first | exact sd | ((repeat' apply And.intro) <;> first | assumption | omega | (simp only [List.length_append,List.length_map,List.length_cons,List.length_nil,List.length_set,List.length_replicate] at c_100 ⊢; omega)),?_⟩
   refine Rg.callO (av:=?av27) [4,2,3] (ok_delta_automaton_longest_i1 (List.drop at_87.toNat b_2) r_5.2 r_5.1 _ hr_101) si si si sg sg ?cont27
   rintro _ _ ⟨rfl,rfl⟩ hv27
   simp only [go_sem,simprocAttr]
   first | apply hK26 | refine ⟨by first | exact sd | ((repeat' apply And.intro) <;> first | assumption | omega | (simp only [List.length_append,List.length_map,List.length_cons,List.length_nil,List.length_set,List.length_replicate] at c_100 ⊢; omega)),hK26 _ _ ?_⟩
   refine Wp.seqW fun K28 hK28 hW28=>?_
   refine qS ?_
   refine cM hm (fun hc30 hm=>?_) (fun hc30 hm=>?_)
   ·refine qS ?_
    refine Wp.exit ?_
    simp only [thenQ,blockQ,↓reduceIte]
    refine ⟨(from_86,IntKind.i64.wrap (at_87+1),o5_88),hm,?_⟩
    exact fse3
   ·refine Wp.skip ?_
    refine hK28 _ _ ?_
    refine Wp.seqW fun K32 hK32 hW32=>?_
    obtain ⟨k_105,hk_105,hm⟩:=jp_elim hm
    have hcut32:∀ s,k_105 s=some z→K32 [(1,.p (.s b_2)),(4,.ptr 0 0),(6,.ptr 1 0),(7,.ptr 4 0),(9,.p (.i .i64 at_87)),(10,.p (.i .i64 r_101.1)),(11,.p (.i .i64 r_101.2))] [.cells 41 [.p (.i .i64 0),.p (.i .i64 0),.p (.s []),.p (.s []),.nils],.cells 41 [.p (.i .i64 (a_1.length:Int)),.p (.i .i64 (b_2.length:Int)),.p (.s r_3),.p (.s r_4),.buf 5],.nst false 138 4 3 3 (List.map eN_enc_delta_state r_5.1) none,.inn 157 2 (List.map iN_enc_delta_state r_5.1),.cells 141 [.buf 2,.p (.i .i64 r_5.2)],.buf 49 3 (List.map enc_api_Piece s)]:=by
     intro o5_104 hs
     have hm:=hk_105 _ hs
     clear hs
     try dsimp only at hm
     try dsimp only
     refine hK32 _ _ ?_
     obtain ⟨c_106,hm⟩:=chk_elim hm
     refine Wp.seqR fun K33 hK33=>?_
     simp only [go_sem,simprocAttr]
     first | apply hK33 | refine ⟨by first | exact sd | ((repeat' apply And.intro) <;> first | assumption | omega | (simp only [List.length_append,List.length_map,List.length_cons,List.length_nil,List.length_set,List.length_replicate] at c_106 ⊢; omega)),hK33 _ _ ?_⟩
     refine qS ?_
     refine qR ?_
     simp only [thenQ,blockQ,↓reduceIte]
     refine ⟨(IntKind.i64.wrap (at_87+r_101.2),IntKind.i64.wrap (at_87+r_101.2),o5_104++[(api_Piece.mk r_101.1 r_101.2 [])]),hm,?_⟩
     exact fse3
    clear hK32 hk_105
    refine qS ?_
    refine cM hm (fun hc37 hm=>?_) (fun hc37 hm=>?_)
    ·obtain ⟨c_107,hm⟩:=chk_elim hm
     obtain ⟨c_108,hm⟩:=chk_elim hm
     refine Wp.regD (plan:=pl [(0,none),(1,none),(2,none),(3,none),(4,none),(5,none),(6,none),(7,some [0,1]),(8,some []),(9,none),(10,some [])]) (by kernel_rfl) rfl (by kernel_rfl) fun K38 hK38=>?_
     simp only [go_sem,simprocAttr]
     first | apply hK38 | refine ⟨by first | exact sd | ((repeat' apply And.intro) <;> first | assumption | omega | (simp only [List.length_append,List.length_map,List.length_cons,List.length_nil,List.length_set,List.length_replicate] at c_107 c_108 ⊢; omega)),hK38 _ _ ?_⟩
     refine hW32 _ _ _ _ ?_ (hcut32 (o5_88++[(api_Piece.mk 0 0 (List.take (at_87.toNat - from_86.toNat) (List.drop from_86.toNat b_2)))]) hm)
     exact fse3
    ·refine Wp.skip ?_
     refine hW32 _ _ _ _ ?_ (hcut32 o5_88 hm)
     exact fse3
  ·refine Wp.exit ?_
   simp only [thenQ,blockQ,↓reduceIte]
   have hm:=hk_98 _ hm
   try dsimp only at hm
   refine hW12 _ _ _ _ ?_ (hcut12 (from_86,o5_88) hm)
   exact fse3
theorem ok_delta_outside (n_1:Int) (low_2:Int) (high_3:Int) (z:Bool) (hm:delta_outside n_1 low_2 high_3=some z):Does Tryd.prog 74 [.p (.i .i64 n_1),.p (.i .i64 low_2),.p (.i .i64 high_3)] [] (fun r X=>r=.p (.b z)∧X=[]):=by
 unfold delta_outside at hm
 refine Does.of_wp 0 15 [.tmp 6] Tryd.func74 rfl (by decide) rfl rfl (Nat.le_of_ble_eq_true rfl) fun B=>?_
 refine qS ?_
 refine qS ?_
 refine Wp.ret ?_
 refine retQ_ret ?_
 cases hm
 exact fse3
theorem ok_delta_isSum (s_1:Str) (z:Bool) (hm:delta_isSum s_1=some z):Does Tryd.prog 80 [.p (.s s_1)] [] (fun r X=>r=.p (.b z)∧X=[]):=by
 unfold delta_isSum at hm
 refine Does.of_wp 0 36 [.tmp 2] Tryd.func80 rfl (by decide) rfl rfl (Nat.le_of_ble_eq_true rfl) fun B=>?_
 refine qS ?_
 refine Wp.seqW fun K2 hK2 hW2=>?_
 obtain ⟨k_9,hk_9,hm⟩:=jp_elim hm
 have hcut2:∀ s,k_9 s=some z→K2 [(0,.p (.s s_1))] []:=by
  intro s hs
  have hm:=hk_9 _ hs
  clear hs
  try dsimp only at hm
  try dsimp only
  refine hK2 _ _ ?_
  refine qS ?_
  refine Wp.ret ?_
  refine retQ_ret ?_
  cases hm
  exact fse3
 clear hK2 hk_9
 refine qS ?_
 refine Wp.block ?_
 obtain ⟨k_12,hk_12,hm⟩:=forL_cont hm
 refine Wp.fact 0 fun hl_15=>?_
 replace hl_15:s_1.length≤274877906944:=by
  simp only [go_sem,simprocAttr,List.length_map] at hl_15
  omega
 refine Wp.forL (fun i_14 s=>[(0,.p (.s s_1)),(3,.p (.i .i64 (i_14:Int)))]) (fun i_14 s=>[]) ?_ hm ?_
 ·
  exact fse3
 clear hm
 intro i_14 s hii_14 hm
 try dsimp only at hm
 try dsimp only
 refine Wp.seqW fun K5 hK5 hW5=>?_
 refine qS ?_
 refine Wp.cond rfl ⟨⟩ (fun hc5=>?_) (fun hc5=>?_)
 rotate_left
 ·refine Wp.exit ?_
  have hm:=hk_12 _ (forL_end hm (ge_nat (by first | exact hc5 | simpa using hc5)))
  try dsimp only at hm
  refine hW2 _ _ _ _ ?_ (hcut2 () hm)
  exact fse3
 have hlt5:=lt_nat (by first | exact hc5 | simpa using hc5)
 have hw5:=wrap_succ hlt5 hl_15
 obtain ⟨c_16,nx_13,hxc_16,hyc_16,hnx_13,hm⟩:=forL_step hm hlt5
 clear hxc_16
 refine Wp.skip ?_
 simp only [thenQ]
 refine hK5 _ _ ?_
 refine Wp.seqW fun K7 hK7 hW7=>?_
 refine Wp.block ?_
 refine Wp.seqR fun K8 hK8=>?_
 simp only [go_sem,simprocAttr,hw5,hyc_16]
 first | apply hK8 | refine ⟨sd,hK8 _ _ ?_⟩
 refine cM hm (fun hc9 hm=>?_) (fun hc9 hm=>?_)
 ·refine Wp.seqR fun K10 hK10=>?_
  simp only [go_sem,simprocAttr,hw5,hyc_16]
  first | apply hK10 | refine ⟨sd,hK10 _ _ ?_⟩
  refine Wp.ret ?_
  refine retQ_ret ?_
  cases hm
  simp only [go_sem,simprocAttr,hw5,hyc_16]
  try exact se3
 ·refine Wp.skip ?_
  refine hK7 _ _ ?_
  refine Wp.region fun K11 hK11=>?_
  simp only [go_sem,simprocAttr,hw5,hyc_16]
  first | apply hK11 | refine ⟨sd,hK11 _ _ ?_⟩
  simp only [thenQ,blockQ,↓reduceIte]
  refine ⟨(),hlt5,hnx_13 _ hm,?_⟩
  simp only [go_sem,simprocAttr,hw5,hyc_16]
  try exact se3
theorem ok_delta_CheckSteps (l_1:List api_Piece) (old_2:Int) (z:Int × Int) (hm:delta_CheckSteps l_1 old_2=some z):Does Tryd.prog 81 [.p (.l (List.map enc_api_Piece l_1)),.p (.i .i64 old_2)] [] (fun r X=>r=.tup [.p (.i .i64 z.1),.p (.i .i64 z.2)]∧X=[]):=by
 unfold delta_CheckSteps at hm
 refine Does.of_wp 0 67 [.tmp 4,.tmp 5] Tryd.func81 rfl (by decide) rfl rfl (Nat.le_of_ble_eq_true rfl) fun B=>?_
 refine qS ?_
 refine Wp.seqW fun K2 hK2 hW2=>?_
 obtain ⟨r_3,hr_3,hm⟩:=call_elim hm
 refine Wp.seqR fun K3 hK3=>?_
 simp only [go_sem,simprocAttr]
 try refine ⟨sd,?_⟩
 refine Rg.callX (av:=?av4) (g:=true) (fun hg=>ok_delta_outside old_2 0 65536 _ hr_3) si si si sg si ?cont4
 intro hv4
 simp only [go_sem,simprocAttr]
 first | apply hK3 | refine ⟨sd,hK3 _ _ ?_⟩
 refine cM hm (fun hc5 hm=>?_) (fun hc5 hm=>?_)
 ·refine qS ?_
  refine Wp.ret ?_
  refine retQ_ret ?_
  cases hm
  exact fse3
 ·refine Wp.skip ?_
  refine hK2 _ _ ?_
  refine Wp.seqW fun K7 hK7 hW7=>?_
  refine qS ?_
  refine cM hm (fun hc9 hm=>?_) (fun hc9 hm=>?_)
  ·refine qS ?_
   refine Wp.ret ?_
   refine retQ_ret ?_
   cases hm
   exact fse3
  ·refine Wp.skip ?_
   refine hK7 _ _ ?_
   refine qS ?_
   refine Wp.seqW fun K12 hK12 hW12=>?_
   obtain ⟨k_13,hk_13,hm⟩:=jp_elim hm
   have hcut12:∀ s,k_13 s=some z→K12 [(6,.p (.i .i64 s))] []:=by
    intro size_12 hs
    have hm:=hk_13 _ hs
    clear hs
    try dsimp only at hm
    try dsimp only
    refine hK12 _ _ ?_
    refine Wp.seqW fun K13 hK13 hW13=>?_
    refine qS ?_
    refine cM hm (fun hc15 hm=>?_) (fun hc15 hm=>?_)
    ·refine qS ?_
     refine Wp.ret ?_
     refine retQ_ret ?_
     cases hm
     exact fse3
    ·refine Wp.skip ?_
     refine hK13 _ _ ?_
     refine qS ?_
     refine Wp.ret ?_
     refine retQ_ret ?_
     cases hm
     exact fse3
   clear hK12 hk_13
   refine qS ?_
   refine Wp.block ?_
   obtain ⟨k_17,hk_17,hm⟩:=forL_cont hm
   refine Wp.fact 14 fun hl_20=>?_
   replace hl_20:l_1.length≤274877906944:=by
    simp only [go_sem,simprocAttr,List.length_map] at hl_20
    omega
   refine Wp.forL (fun i_19 s=>[(1,.p (.i .i64 old_2)),(6,.p (.i .i64 s)),(14,.p (.l (List.map enc_api_Piece l_1))),(15,.p (.i .i64 (l_1.length:Int))),(16,.p (.i .i64 (i_19:Int)))]) (fun i_19 s=>[]) ?_ hm ?_
   ·
    exact fse3
   clear hm
   intro i_19 size_14 hii_19 hm
   try dsimp only at hm
   try dsimp only
   refine qS ?_
   refine Wp.seqW fun K20 hK20 hW20=>?_
   refine Wp.cond rfl ⟨⟩ (fun hc20=>?_) (fun hc20=>?_)
   rotate_left
   ·refine Wp.exit ?_
    have hm:=hk_17 _ (forL_end hm (ge_nat (by first | exact hc20 | simpa using hc20)))
    try dsimp only at hm
    refine hW12 _ _ _ _ ?_ (hcut12 size_14 hm)
    exact fse3
   have hlt20:=lt_nat (by first | exact hc20 | simpa using hc20)
   have hw20:=wrap_succ hlt20 hl_20
   obtain ⟨p_21,nx_18,hxp_21,hyp_21,hnx_18,hm⟩:=forL_step hm hlt20
   replace hxp_21:=hxp_21 enc_api_Piece
   refine Wp.skip ?_
   simp only [thenQ]
   refine hK20 _ _ ?_
   refine Wp.seqW fun K21 hK21 hW21=>?_
   refine Wp.block ?_
   refine Wp.seqR fun K22 hK22=>?_
   simp only [go_sem,simprocAttr,hw20,hxp_21]
   first | apply hK22 | refine ⟨sd,hK22 _ _ ?_⟩
   refine Wp.seqW fun K23 hK23 hW23=>?_
   refine Wp.seqR fun K24 hK24=>?_
   simp only [go_sem,simprocAttr,hw20,hxp_21]
   first | apply hK24 | refine ⟨sd,hK24 _ _ ?_⟩
   refine cM hm (fun hc25 hm=>?_) (fun hc25 hm=>?_)
   ·refine Wp.seqW fun K26 hK26 hW26=>?_
    refine Wp.seqR fun K27 hK27=>?_
    simp only [go_sem,simprocAttr,hw20,hxp_21]
    first | apply hK27 | refine ⟨sd,hK27 _ _ ?_⟩
    refine cM hm (fun hc28 hm=>?_) (fun hc28 hm=>?_)
    ·refine Wp.seqR fun K29 hK29=>?_
     simp only [go_sem,simprocAttr,hw20,hxp_21]
     first | apply hK29 | refine ⟨sd,hK29 _ _ ?_⟩
     refine Wp.ret ?_
     refine retQ_ret ?_
     cases hm
     simp only [go_sem,simprocAttr,hw20,hxp_21]
     try exact se3
    ·refine Wp.skip ?_
     refine hK26 _ _ ?_
     refine Wp.seqR fun K30 hK30=>?_
     simp only [go_sem,simprocAttr,hw20,hxp_21]
     first | apply hK30 | refine ⟨sd,hK30 _ _ ?_⟩
     refine Wp.exit ?_
     refine hK21 _ _ ?_
     refine Wp.region fun K31 hK31=>?_
     simp only [go_sem,simprocAttr,hw20,hxp_21]
     first | apply hK31 | refine ⟨sd,hK31 _ _ ?_⟩
     simp only [thenQ,blockQ,↓reduceIte]
     refine ⟨IntKind.i64.wrap (size_14+(p_21.Data.length:Int)),hlt20,hnx_18 _ hm,?_⟩
     simp only [go_sem,simprocAttr,hw20,hxp_21]
     try exact se3
   ·refine Wp.skip ?_
    refine hK23 _ _ ?_
    refine Wp.seqW fun K32 hK32 hW32=>?_
    refine Wp.seqR fun K33 hK33=>?_
    simp only [go_sem,simprocAttr,hw20,hxp_21]
    first | apply hK33 | refine ⟨sd,hK33 _ _ ?_⟩
    refine cM hm (fun hc34 hm=>?_) (fun hc34 hm=>?_)
    ·refine Wp.seqR fun K35 hK35=>?_
     simp only [go_sem,simprocAttr,hw20,hxp_21]
     first | apply hK35 | refine ⟨sd,hK35 _ _ ?_⟩
     refine Wp.ret ?_
     refine retQ_ret ?_
     cases hm
     simp only [go_sem,simprocAttr,hw20,hxp_21]
     try exact se3
    ·refine Wp.skip ?_
     refine hK32 _ _ ?_
     refine Wp.region fun K36 hK36=>?_
     simp only [go_sem,simprocAttr,hw20,hxp_21]
     first | apply hK36 | refine ⟨sd,hK36 _ _ ?_⟩
     refine hK21 _ _ ?_
     refine Wp.region fun K37 hK37=>?_
     simp only [go_sem,simprocAttr,hw20,hxp_21]
     first | apply hK37 | refine ⟨sd,hK37 _ _ ?_⟩
     simp only [thenQ,blockQ,↓reduceIte]
     refine ⟨IntKind.i64.wrap (size_14+p_21.Long),hlt20,hnx_18 _ hm,?_⟩
     simp only [go_sem,simprocAttr,hw20,hxp_21]
     try exact se3
theorem ok_delta_Check (d_1:api_Delta) (z:Int) (hm:delta_Check d_1=some z):Does Tryd.prog 33 [.agg [.p (.i .i64 d_1.Old),.p (.i .i64 d_1.New),.p (.s d_1.OldSum),.p (.s d_1.NewSum),.p (.l (List.map enc_api_Piece d_1.Pieces))]] [] (fun r X=>r=.p (.i .i64 z)∧X=[]):=by
 unfold delta_Check at hm
 refine Does.of_wp 0 40 [.tmp 2] Tryd.func33 rfl (by decide) rfl rfl (Nat.le_of_ble_eq_true rfl) fun B=>?_
 refine qS ?_
 refine Wp.seqW fun K2 hK2 hW2=>?_
 obtain ⟨r_2,hr_2,hm⟩:=call_elim hm
 obtain ⟨r_3,hr_3,hm⟩:=callG_elim hm
 refine Wp.seqR fun K3 hK3=>?_
 simp only [go_sem,simprocAttr]
 try refine ⟨sd,?_⟩
 refine Rg.callX (av:=?av4) (g:=true) (fun hg=>ok_delta_outside d_1.Old 0 65536 _ hr_2) si si si sg si ?cont4
 intro hv4
 simp only [go_sem,simprocAttr]
 try refine ⟨sd,?_⟩
 refine Rg.callX (av:=?av5) (g:=!r_2) (fun hg=>ok_delta_outside d_1.New 0 65536 _ (hr_3 hg)) si si si sg si ?cont5
 intro hv5
 simp only [go_sem,simprocAttr]
 first | apply hK3 | refine ⟨sd,hK3 _ _ ?_⟩
 refine cM hm (fun hc6 hm=>?_) (fun hc6 hm=>?_)
 ·refine qS ?_
  refine Wp.ret ?_
  refine retQ_ret ?_
  cases hm
  exact fse3
 ·refine Wp.skip ?_
  refine hK2 _ _ ?_
  refine Wp.seqW fun K8 hK8 hW8=>?_
  obtain ⟨r_4,hr_4,hm⟩:=call_elim hm
  obtain ⟨r_5,hr_5,hm⟩:=callG_elim hm
  refine Wp.seqR fun K9 hK9=>?_
  simp only [go_sem,simprocAttr]
  try refine ⟨sd,?_⟩
  refine Rg.callX (av:=?av10) (g:=true) (fun hg=>ok_delta_isSum d_1.OldSum _ hr_4) si si si sg si ?cont10
  intro hv10
  simp only [go_sem,simprocAttr]
  try refine ⟨sd,?_⟩
  refine Rg.callX (av:=?av11) (g:=!(!r_4)) (fun hg=>ok_delta_isSum d_1.NewSum _ (hr_5 hg)) si si si sg si ?cont11
  intro hv11
  simp only [go_sem,simprocAttr]
  first | apply hK9 | refine ⟨sd,hK9 _ _ ?_⟩
  refine cM hm (fun hc12 hm=>?_) (fun hc12 hm=>?_)
  ·refine qS ?_
   refine Wp.ret ?_
   refine retQ_ret ?_
   cases hm
   exact fse3
  ·refine Wp.skip ?_
   refine hK8 _ _ ?_
   obtain ⟨r_6,hr_6,hm⟩:=call_elim hm
   refine Wp.seqR fun K14 hK14=>?_
   simp only [go_sem,simprocAttr]
   try refine ⟨sd,?_⟩
   refine Rg.callX (av:=?av15) (g:=true) (fun hg=>ok_delta_CheckSteps d_1.Pieces d_1.Old _ hr_6) si si si sg si ?cont15
   intro hv15
   simp only [go_sem,simprocAttr]
   first | apply hK14 | refine ⟨sd,hK14 _ _ ?_⟩
   refine Wp.seqW fun K16 hK16 hW16=>?_
   refine qS ?_
   refine cM hm (fun hc18 hm=>?_) (fun hc18 hm=>?_)
   ·refine qS ?_
    refine Wp.ret ?_
    refine retQ_ret ?_
    cases hm
    exact fse3
   ·refine Wp.skip ?_
    refine hK16 _ _ ?_
    refine qS ?_
    refine Wp.ret ?_
    refine retQ_ret ?_
    cases hm
    exact fse3
theorem ok_delta_putNumber_i1 (n_1:Int) (o0_2:List Int) (z:List Int) (hm:delta_putNumber_i1 n_1 o0_2=some z):Does Tryd.prog 66 [.buf 0,.p (.i .i64 n_1)] [.buf 5 1 (List.map ecI_u8 o0_2)] (fun r X=>r=.buf 0∧X=[.buf 5 1 (List.map ecI_u8 z)]):=by
 unfold delta_putNumber_i1 at hm
 refine Does.of_wp 1 21 [.tmp 4] Tryd.func66 rfl (by decide) rfl rfl (Nat.le_of_ble_eq_true rfl) fun B=>?_
 refine qS ?_
 refine Wp.seqW fun K2 hK2 hW2=>?_
 obtain ⟨k_33,hk_33,hm⟩:=jp_elim hm
 have hcut2:∀ s,k_33 s=some z→K2 [(0,.buf 0),(1,.p (.i .i64 s.1))] [.buf 5 1 (List.map ecI_u8 s.2)]:=by
  intro s hs
  have hm:=hk_33 _ hs
  clear hs
  obtain ⟨n_31,o0_32⟩:=s
  try dsimp only at hm
  try dsimp only
  refine hK2 _ _ ?_
  obtain ⟨c_34,hm⟩:=chk_elim hm
  refine Wp.seqR fun K3 hK3=>?_
  simp only [go_sem,simprocAttr]
  first | apply hK3 | refine ⟨by first | exact sd | ((repeat' apply And.intro) <;> first | assumption | omega | (simp only [List.length_append,List.length_map,List.length_cons,List.length_nil,List.length_set,List.length_replicate] at c_34 ⊢; omega)),hK3 _ _ ?_⟩
  refine Wp.ret ?_
  refine retQ_ret ?_
  cases hm
  exact fse3
 clear hK2 hk_33
 refine Wp.block ?_
 obtain ⟨k_40,hk_40,hm⟩:=loopN_cont hm
 refine Wp.loopN (fun s=>[(0,.buf 0),(1,.p (.i .i64 s.1))]) (fun s=>[.buf 5 1 (List.map ecI_u8 s.2)]) ?_ hm ?_
 ·
  exact fse3
 clear hm
 intro s nx_41 hm
 obtain ⟨n_37,o0_38⟩:=s
 try dsimp only at hm
 try dsimp only
 refine Wp.seqW fun K4 hK4 hW4=>?_
 refine qS ?_
 refine cM hm (fun hc6 hm=>?_) (fun hc6 hm=>?_)
 ·refine Wp.skip ?_
  refine hK4 _ _ ?_
  refine Wp.block ?_
  obtain ⟨c_42,hm⟩:=chk_elim hm
  refine Wp.seqR fun K7 hK7=>?_
  simp only [go_sem,simprocAttr]
  first | apply hK7 | refine ⟨by first | exact sd | ((repeat' apply And.intro) <;> first | assumption | omega | (simp only [List.length_append,List.length_map,List.length_cons,List.length_nil,List.length_set,List.length_replicate] at c_42 ⊢; omega)),hK7 _ _ ?_⟩
  refine qR ?_
  simp only [thenQ,blockQ,↓reduceIte]
  refine ⟨(Int.fdiv n_37 (2 ^ (shI .i64 7)),o0_38++[IntKind.u8.wrap (bitsI .or .i64 (bitsI .and .i64 n_37 127) 128)]),hm,?_⟩
  exact fse3
 ·refine Wp.exit ?_
  simp only [thenQ,blockQ,↓reduceIte]
  have hm:=hk_40 _ hm
  try dsimp only at hm
  refine hW2 _ _ _ _ ?_ (hcut2 (n_37,o0_38) hm)
  exact fse3
theorem ok_internal_strconv_lower (c_1:Int) (z:Int) (hm:internal_strconv_lower c_1=some z):Does Tryd.prog 129 [.p (.i .u8 c_1)] [] (fun r X=>r=.p (.i .u8 z)∧X=[]):=by
 unfold internal_strconv_lower at hm
 refine Does.of_wp 0 5 [.tmp 2] Tryd.func129 rfl (by decide) rfl rfl (Nat.le_of_ble_eq_true rfl) fun B=>?_
 refine qS ?_
 refine qS ?_
 refine Wp.ret ?_
 refine retQ_ret ?_
 cases hm
 exact fse3
theorem ok_internal_strconv_underscoreOK (s_1:Str) (z:Bool) (hm:internal_strconv_underscoreOK s_1=some z):Does Tryd.prog 130 [.p (.s s_1)] [] (fun r X=>r=.p (.b z)∧X=[]):=by
 unfold internal_strconv_underscoreOK at hm
 refine Does.of_wp 0 94 [.tmp 2] Tryd.func130 rfl (by decide) rfl rfl (Nat.le_of_ble_eq_true rfl) fun B=>?_
 refine qS ?_
 refine qS ?_
 refine qS ?_
 refine Wp.seqW fun K4 hK4 hW4=>?_
 obtain ⟨k_6,hk_6,hm⟩:=jp_elim hm
 have hcut4:∀ s,k_6 s=some z→K4 [(0,.p (.s s)),(3,.p (.i .i32 94)),(4,.p (.i .i64 0))] []:=by
  intro s_5 hs
  have hm:=hk_6 _ hs
  clear hs
  try dsimp only at hm
  try dsimp only
  refine hK4 _ _ ?_
  refine qS ?_
  refine Wp.seqW fun K6 hK6 hW6=>?_
  obtain ⟨k_19,hk_19,hm⟩:=jp_elim hm
  have hcut6:∀ s,k_19 s=some z→K6 [(0,.p (.s s_5)),(3,.p (.i .i32 s.1)),(4,.p (.i .i64 s.2.1)),(5,.p (.b s.2.2))] []:=by
   intro s hs
   have hm:=hk_19 _ hs
   clear hs
   obtain ⟨saw_16,i_17,hex_18⟩:=s
   try dsimp only at hm
   try dsimp only
   refine hK6 _ _ ?_
   refine Wp.seqW fun K7 hK7 hW7=>?_
   obtain ⟨k_31,hk_31,hm⟩:=jp_elim hm
   have hcut7:∀ s,k_31 s=some z→K7 [(3,.p (.i .i32 s))] []:=by
    intro saw_30 hs
    have hm:=hk_31 _ hs
    clear hs
    try dsimp only at hm
    try dsimp only
    refine hK7 _ _ ?_
    refine qS ?_
    refine Wp.ret ?_
    refine retQ_ret ?_
    cases hm
    exact fse3
   clear hK7 hk_31
   refine Wp.block ?_
   obtain ⟨k_37,hk_37,hm⟩:=loopN_cont hm
   refine Wp.loopN (fun s=>[(0,.p (.s s_5)),(3,.p (.i .i32 s.1)),(4,.p (.i .i64 s.2)),(5,.p (.b hex_18))]) (fun s=>[]) ?_ hm ?_
   ·
    exact fse3
   clear hm
   intro s nx_38 hm
   obtain ⟨saw_32,i_33⟩:=s
   try dsimp only at hm
   try dsimp only
   refine Wp.seqW fun K9 hK9 hW9=>?_
   refine qS ?_
   refine cM hm (fun hc11 hm=>?_) (fun hc11 hm=>?_)
   ·refine Wp.skip ?_
    refine hK9 _ _ ?_
    refine Wp.seqW fun K12 hK12 hW12=>?_
    refine Wp.block ?_
    refine Wp.seqW fun K13 hK13 hW13=>?_
    obtain ⟨c_39,hbc_39,hxc_39,hm⟩:=idxS_elim hm
    replace hxc_39:((s_5.getD i_33.toNat 0).toNat:Int)=c_39:=hxc_39
    obtain ⟨r_40,hr_40,hm⟩:=callG_elim hm
    obtain ⟨r_41,hr_41,hm⟩:=callG_elim hm
    refine Wp.seqR fun K14 hK14=>?_
    simp only [go_sem,simprocAttr,hxc_39]
    try refine ⟨sd,?_⟩
    refine Rg.callX (av:=?av15) (g:=((!((decide (48≤c_39)) && (decide (c_39≤57)))) && hex_18)) (fun hg=>ok_internal_strconv_lower c_39 _ (hr_40 hg)) (by simp only [go_sem,simprocAttr,hxc_39]; exact Is.mk) (by simp only [go_sem,simprocAttr,hxc_39]; exact Is.mk) (by simp only [go_sem,simprocAttr,hxc_39]; exact Is.mk) (by simp only [go_sem,simprocAttr,hxc_39]) (by simp only [go_sem,simprocAttr,hxc_39]; exact Is.mk) ?cont15
    intro hv15
    simp only [go_sem,simprocAttr,hxc_39]
    try refine ⟨sd,?_⟩
    refine Rg.callX (av:=?av16) (g:=((!((decide (48≤c_39)) && (decide (c_39≤57)))) && (hex_18 && (decide (97≤r_40))))) (fun hg=>ok_internal_strconv_lower c_39 _ (hr_41 hg)) (by simp only [go_sem,simprocAttr,hxc_39]; exact Is.mk) (by simp only [go_sem,simprocAttr,hxc_39]; exact Is.mk) (by simp only [go_sem,simprocAttr,hxc_39]; exact Is.mk) (by simp only [go_sem,simprocAttr,hxc_39]) (by simp only [go_sem,simprocAttr,hxc_39]; exact Is.mk) ?cont16
    intro hv16
    simp only [go_sem,simprocAttr,hxc_39]
    first | apply hK14 | refine ⟨sd,hK14 _ _ ?_⟩
    refine cM hm (fun hc17 hm=>?_) (fun hc17 hm=>?_)
    ·refine Wp.seqR fun K18 hK18=>?_
     simp only [go_sem,simprocAttr,hxc_39]
     first | apply hK18 | refine ⟨sd,hK18 _ _ ?_⟩
     refine Wp.exit ?_
     refine hK12 _ _ ?_
     refine Wp.region fun K19 hK19=>?_
     simp only [go_sem,simprocAttr,hxc_39]
     first | apply hK19 | refine ⟨sd,hK19 _ _ ?_⟩
     simp only [thenQ,blockQ,↓reduceIte]
     refine ⟨(48,IntKind.i64.wrap (i_33+1)),hm,?_⟩
     simp only [go_sem,simprocAttr,hxc_39]
     try exact se3
    ·refine Wp.skip ?_
     refine hK13 _ _ ?_
     refine Wp.seqW fun K20 hK20 hW20=>?_
     refine Wp.seqR fun K21 hK21=>?_
     simp only [go_sem,simprocAttr,hxc_39]
     first | apply hK21 | refine ⟨sd,hK21 _ _ ?_⟩
     refine cM hm (fun hc22 hm=>?_) (fun hc22 hm=>?_)
     ·refine Wp.seqW fun K23 hK23 hW23=>?_
      refine Wp.seqR fun K24 hK24=>?_
      simp only [go_sem,simprocAttr,hxc_39]
      first | apply hK24 | refine ⟨sd,hK24 _ _ ?_⟩
      refine cM hm (fun hc25 hm=>?_) (fun hc25 hm=>?_)
      ·refine Wp.seqR fun K26 hK26=>?_
       simp only [go_sem,simprocAttr,hxc_39]
       first | apply hK26 | refine ⟨sd,hK26 _ _ ?_⟩
       refine Wp.ret ?_
       refine retQ_ret ?_
       cases hm
       simp only [go_sem,simprocAttr,hxc_39]
       try exact se3
      ·refine Wp.skip ?_
       refine hK23 _ _ ?_
       refine Wp.seqR fun K27 hK27=>?_
       simp only [go_sem,simprocAttr,hxc_39]
       first | apply hK27 | refine ⟨sd,hK27 _ _ ?_⟩
       refine Wp.exit ?_
       refine hK12 _ _ ?_
       refine Wp.region fun K28 hK28=>?_
       simp only [go_sem,simprocAttr,hxc_39]
       first | apply hK28 | refine ⟨sd,hK28 _ _ ?_⟩
       simp only [thenQ,blockQ,↓reduceIte]
       refine ⟨(95,IntKind.i64.wrap (i_33+1)),hm,?_⟩
       simp only [go_sem,simprocAttr,hxc_39]
       try exact se3
     ·refine Wp.skip ?_
      refine hK20 _ _ ?_
      refine Wp.seqW fun K29 hK29 hW29=>?_
      refine Wp.seqR fun K30 hK30=>?_
      simp only [go_sem,simprocAttr,hxc_39]
      first | apply hK30 | refine ⟨sd,hK30 _ _ ?_⟩
      refine cM hm (fun hc31 hm=>?_) (fun hc31 hm=>?_)
      ·refine Wp.seqR fun K32 hK32=>?_
       simp only [go_sem,simprocAttr,hxc_39]
       first | apply hK32 | refine ⟨sd,hK32 _ _ ?_⟩
       refine Wp.ret ?_
       refine retQ_ret ?_
       cases hm
       simp only [go_sem,simprocAttr,hxc_39]
       try exact se3
      ·refine Wp.skip ?_
       refine hK29 _ _ ?_
       refine Wp.region fun K33 hK33=>?_
       simp only [go_sem,simprocAttr,hxc_39]
       first | apply hK33 | refine ⟨sd,hK33 _ _ ?_⟩
       refine hK12 _ _ ?_
       refine Wp.region fun K34 hK34=>?_
       simp only [go_sem,simprocAttr,hxc_39]
       first | apply hK34 | refine ⟨sd,hK34 _ _ ?_⟩
       simp only [thenQ,blockQ,↓reduceIte]
       refine ⟨(33,IntKind.i64.wrap (i_33+1)),hm,?_⟩
       simp only [go_sem,simprocAttr,hxc_39]
       try exact se3
   ·refine Wp.exit ?_
    simp only [thenQ,blockQ,↓reduceIte]
    have hm:=hk_37 _ hm
    try dsimp only at hm
    refine hW7 _ _ _ _ ?_ (hcut7 saw_32 hm)
    exact fse3
  clear hK6 hk_19
  obtain ⟨c_42,hm⟩:=chk_elim hm
  obtain ⟨c_43,hm⟩:=chk_elim hm
  obtain ⟨r_44,hr_44,hm⟩:=callG_elim hm
  obtain ⟨c_45,hm⟩:=chk_elim hm
  obtain ⟨r_46,hr_46,hm⟩:=callG_elim hm
  obtain ⟨c_47,hm⟩:=chk_elim hm
  obtain ⟨r_48,hr_48,hm⟩:=callG_elim hm
  refine Wp.seqR fun K35 hK35=>?_
  simp only [go_sem,simprocAttr]
  try refine ⟨by first | exact sd | ((repeat' apply And.intro) <;> first | assumption | omega | (simp only [List.length_append,List.length_map,List.length_cons,List.length_nil,List.length_set,List.length_replicate] at c_42 c_43 c_45 c_47 ⊢; omega)),?_⟩
  refine Rg.callX (av:=?av36) (g:=((decide (2≤(s_5.length:Int))) && (decide (((s_5.getD 0 0).toNat:Int)=48)))) (fun hg=>ok_internal_strconv_lower ((s_5.getD 1 0).toNat:Int) _ (hr_44 hg)) si si si sg si ?cont36
  intro hv36
  simp only [go_sem,simprocAttr]
  try refine ⟨by first | exact sd | ((repeat' apply And.intro) <;> first | assumption | omega | (simp only [List.length_append,List.length_map,List.length_cons,List.length_nil,List.length_set,List.length_replicate] at c_42 c_43 c_45 c_47 ⊢; omega)),?_⟩
  refine Rg.callX (av:=?av37) (g:=(((decide (2≤(s_5.length:Int))) && (decide (((s_5.getD 0 0).toNat:Int)=48))) && (!(decide (r_44=98))))) (fun hg=>ok_internal_strconv_lower ((s_5.getD 1 0).toNat:Int) _ (hr_46 hg)) si si si sg si ?cont37
  intro hv37
  simp only [go_sem,simprocAttr]
  try refine ⟨by first | exact sd | ((repeat' apply And.intro) <;> first | assumption | omega | (simp only [List.length_append,List.length_map,List.length_cons,List.length_nil,List.length_set,List.length_replicate] at c_42 c_43 c_45 c_47 ⊢; omega)),?_⟩
  refine Rg.callX (av:=?av38) (g:=(((decide (2≤(s_5.length:Int))) && (decide (((s_5.getD 0 0).toNat:Int)=48))) && (!((decide (r_44=98)) || (decide (r_46=111)))))) (fun hg=>ok_internal_strconv_lower ((s_5.getD 1 0).toNat:Int) _ (hr_48 hg)) si si si sg si ?cont38
  intro hv38
  simp only [go_sem,simprocAttr]
  first | apply hK35 | refine ⟨by first | exact sd | ((repeat' apply And.intro) <;> first | assumption | omega | (simp only [List.length_append,List.length_map,List.length_cons,List.length_nil,List.length_set,List.length_replicate] at c_42 c_43 c_45 c_47 ⊢; omega)),hK35 _ _ ?_⟩
  refine cM hm (fun hc39 hm=>?_) (fun hc39 hm=>?_)
  ·refine qS ?_
   refine qS ?_
   obtain ⟨c_49,hbc_49,hxc_49,hm⟩:=idxS_elim hm
   replace hxc_49:((s_5.getD 1 0).toNat:Int)=c_49:=hxc_49
   obtain ⟨r_50,hr_50,hm⟩:=call_elim hm
   refine Wp.region fun K42 hK42=>?_
   simp only [go_sem,simprocAttr,hxc_49]
   try refine ⟨sd,?_⟩
   refine Rg.callX (av:=?av43) (g:=true) (fun hg=>ok_internal_strconv_lower c_49 _ hr_50) (by simp only [go_sem,simprocAttr,hxc_49]; exact Is.mk) (by simp only [go_sem,simprocAttr,hxc_49]; exact Is.mk) (by simp only [go_sem,simprocAttr,hxc_49]; exact Is.mk) (by simp only [go_sem,simprocAttr,hxc_49]) (by simp only [go_sem,simprocAttr,hxc_49]; exact Is.mk) ?cont43
   intro hv43
   simp only [go_sem,simprocAttr,hxc_49]
   first | apply hK42 | refine ⟨sd,hK42 _ _ ?_⟩
   refine hW6 _ _ _ _ ?_ (hcut6 (48,2,decide (r_50=120)) hm)
   simp only [go_sem,simprocAttr,hxc_49]
   try exact se3
  ·refine Wp.skip ?_
   refine hW6 _ _ _ _ ?_ (hcut6 (94,0,false) hm)
   exact fse3
 clear hK4 hk_6
 obtain ⟨c_51,hm⟩:=chk_elim hm
 obtain ⟨c_52,hm⟩:=chk_elim hm
 refine Wp.seqR fun K44 hK44=>?_
 simp only [go_sem,simprocAttr]
 first | apply hK44 | refine ⟨by first | exact sd | ((repeat' apply And.intro) <;> first | assumption | omega | (simp only [List.length_append,List.length_map,List.length_cons,List.length_nil,List.length_set,List.length_replicate] at c_51 c_52 ⊢; omega)),hK44 _ _ ?_⟩
 refine cM hm (fun hc45 hm=>?_) (fun hc45 hm=>?_)
 ·obtain ⟨c_53,hm⟩:=chk_elim hm
  refine Wp.region fun K46 hK46=>?_
  simp only [go_sem,simprocAttr]
  first | apply hK46 | refine ⟨by first | exact sd | ((repeat' apply And.intro) <;> first | assumption | omega | (simp only [List.length_append,List.length_map,List.length_cons,List.length_nil,List.length_set,List.length_replicate] at c_53 ⊢; omega)),hK46 _ _ ?_⟩
  refine hW4 _ _ _ _ ?_ (hcut4 (List.drop 1 s_1) hm)
  exact fse3
 ·refine Wp.skip ?_
  refine hW4 _ _ _ _ ?_ (hcut4 s_1 hm)
  exact fse3
end Go.Proofs.YtkekfenkeeiigaaDoor
