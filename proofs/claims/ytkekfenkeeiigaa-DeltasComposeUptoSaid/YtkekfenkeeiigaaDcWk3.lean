/- That the code does what the models say (part 3). -/
import Derived.Test.YtkekfenkeeiigaaDcWk0
import Derived.Test.YtkekfenkeeiigaaDcWk1
import Derived.Test.YtkekfenkeeiigaaDcWk2
set_option linter.unusedSimpArgs false
set_option linter.unusedVariables false
open Go.Proofs Go.Shelf
namespace Go.Proofs.Ytkekfenkeeiigaa
open Go.Vc Go.Md
set_option maxRecDepth 100000
set_option maxHeartbeats 4000000
theorem ok_delta_Make (a_1:Str) (b_2:Str) (z:api_Delta × Int) (hm:delta_Make a_1 b_2=some z):Does Try.prog 6 [.p (.s a_1),.p (.s b_2)] [] (fun r X=>r=.tup [.agg [.p (.i .i64 z.1.Old),.p (.i .i64 z.1.New),.p (.s z.1.OldSum),.p (.s z.1.NewSum),.p (.l (List.map enc_api_Piece z.1.Pieces))],.p (.i .i64 z.2)]∧X=[]):=by
 unfold delta_Make at hm
 refine Does.of_wp 0 92 [.cell 4 24,.tmp 5] Try.func6 rfl (by decide) rfl rfl (Nat.le_of_ble_eq_true rfl) fun B=>?_
 refine qS ?_
 refine Wp.seqW fun K2 hK2 hW2=>?_
 refine qS ?_
 refine cM hm (fun hc4 hm=>?_) (fun hc4 hm=>?_)
 ·refine qS ?_
  refine Wp.ret ?_
  simp only [thenQ,blockQ]
  refine retQ_retE ?_
  cases hm
  exact fse2
 ·refine Wp.skip ?_
  refine hK2 _ _ ?_
  obtain ⟨r_3,hr_3,hm⟩:=call_elim hm
  obtain ⟨r_4,hr_4,hm⟩:=call_elim hm
  refine Wp.seqR fun K6 hK6=>?_
  simp only [go_sem,simprocAttr]
  try refine ⟨sd,?_⟩
  refine Rg.callX (av:=?av7) (g:=true) (fun hg=>ok_disk_SumOf a_1 _ hr_3) si si si sg si ?cont7
  intro hv7
  simp only [go_sem,simprocAttr]
  try refine ⟨sd,?_⟩
  refine Rg.callX (av:=?av8) (g:=true) (fun hg=>ok_disk_SumOf b_2 _ hr_4) si si si sg si ?cont8
  intro hv8
  simp only [go_sem,simprocAttr]
  first | apply hK6 | refine ⟨sd,hK6 _ _ ?_⟩
  obtain ⟨r_5,hr_5,hm⟩:=call_elim hm
  refine Wp.seqR fun K9 hK9=>?_
  simp only [go_sem,simprocAttr]
  try refine ⟨sd,?_⟩
  refine Rg.callO (av:=?av10) [] (ok_delta_newAutomaton a_1 _ hr_5) si si si sg sg ?cont10
  rintro _ _ ⟨rfl,rfl⟩ hv10
  simp only [go_sem,simprocAttr]
  first | apply hK9 | refine ⟨sd,hK9 _ _ ?_⟩
  refine qS ?_
  refine Wp.seqW fun K12 hK12 hW12=>?_
  obtain ⟨k_55,hk_55,hm⟩:=jp_elim hm
  have hcut12:∀ s,k_55 s=some z→K12 [(1,.p (.s b_2)),(4,.ptr 0 0),(6,.ptr 1 0),(8,.p (.i .i64 s.1))] [.cells 24 [.p (.i .i64 0),.p (.i .i64 0),.p (.s []),.p (.s []),.nils],.cells 24 [.p (.i .i64 (a_1.length:Int)),.p (.i .i64 (b_2.length:Int)),.p (.s r_3),.p (.s r_4),.buf 5],.gone,.gone,.cells 72 [.top,.top],.buf 42 3 (List.map enc_api_Piece s.2)]:=by
   intro s hs
   have hm:=hk_55 _ hs
   clear hs
   obtain ⟨from_53,o5_54⟩:=s
   try dsimp only at hm
   try dsimp only
   refine hK12 _ _ ?_
   refine Wp.seqW fun K13 hK13 hW13=>?_
   obtain ⟨k_59,hk_59,hm⟩:=jp_elim hm
   have hcut13:∀ s,k_59 s=some z→K13 [(4,.ptr 0 0),(6,.ptr 1 0)] [.cells 24 [.p (.i .i64 0),.p (.i .i64 0),.p (.s []),.p (.s []),.nils],.cells 24 [.p (.i .i64 (a_1.length:Int)),.p (.i .i64 (b_2.length:Int)),.p (.s r_3),.p (.s r_4),.buf 5],.gone,.gone,.cells 72 [.top,.top],.buf 42 3 (List.map enc_api_Piece s)]:=by
    intro o5_58 hs
    have hm:=hk_59 _ hs
    clear hs
    try dsimp only at hm
    try dsimp only
    refine hK13 _ _ ?_
    refine Wp.seqW fun K14 hK14 hW14=>?_
    refine qS ?_
    refine cM hm (fun hc16 hm=>?_) (fun hc16 hm=>?_)
    ·refine qS ?_
     refine Wp.ret ?_
     simp only [thenQ,blockQ]
     refine retQ_retE ?_
     cases hm
     exact fse2
    ·refine Wp.skip ?_
     refine hK14 _ _ ?_
     refine qS ?_
     refine Wp.ret ?_
     refine retQ_ret ?_
     cases hm
     exact fse2
   clear hK13 hk_59
   refine qS ?_
   refine cM hm (fun hc20 hm=>?_) (fun hc20 hm=>?_)
   ·obtain ⟨c_60,hm⟩:=chk_elim hm
    obtain ⟨c_61,hm⟩:=chk_elim hm
    refine Wp.regD (plan:=pl [(0,none),(1,none),(2,none),(3,none),(4,none),(5,none),(6,some [0,1]),(7,some []),(8,none),(9,some [])]) (by kernel_rfl) rfl (by kernel_rfl) fun K21 hK21=>?_
    simp only [go_sem,simprocAttr]
    first | apply hK21 | refine ⟨by first | exact sd | ((repeat' apply And.intro) <;> first | assumption | omega | (simp only [List.length_append,List.length_map,List.length_cons,List.length_nil,List.length_set,List.length_replicate] at c_60 c_61 ⊢; omega)),hK21 _ _ ?_⟩
    refine hW13 _ _ _ _ ?_ (hcut13 (o5_54++[(api_Piece.mk 0 0 (List.drop from_53.toNat b_2))]) hm)
    exact fse2
   ·refine Wp.skip ?_
    refine hW13 _ _ _ _ ?_ (hcut13 o5_54 hm)
    exact fse2
  clear hK12 hk_55
  refine qS ?_
  refine Wp.block ?_
  refine Wp.adoptO 1 4 42 3 rfl rfl ?_
  simp only [go_sem,simprocAttr]
  obtain ⟨k_98,hk_98,hm⟩:=loopN_cont hm
  refine Wp.loopN (fun s=>[(1,.p (.s b_2)),(4,.ptr 0 0),(6,.ptr 1 0),(7,.ptr 4 0),(8,.p (.i .i64 s.1)),(9,.p (.i .i64 s.2.1))]) (fun s=>[.cells 24 [.p (.i .i64 0),.p (.i .i64 0),.p (.s []),.p (.s []),.nils],.cells 24 [.p (.i .i64 (a_1.length:Int)),.p (.i .i64 (b_2.length:Int)),.p (.s r_3),.p (.s r_4),.buf 5],.nst false 69 4 3 3 (List.map eN_enc_delta_state r_5.1) none,.inn 82 2 (List.map iN_enc_delta_state r_5.1),.cells 72 [.buf 2,.p (.i .i64 r_5.2)],.buf 42 3 (List.map enc_api_Piece s.2.2)]) ?_ hm ?_
  ·
   exact fse2
  clear hm
  intro s nx_99 hm
  obtain ⟨from_86,at_87,o5_88⟩:=s
  try dsimp only at hm
  try dsimp only
  refine Wp.seqW fun K23 hK23 hW23=>?_
  refine qS ?_
  refine cM hm (fun hc25 hm=>?_) (fun hc25 hm=>?_)
  ·refine Wp.skip ?_
   refine hK23 _ _ ?_
   refine Wp.block ?_
   obtain ⟨c_100,hm⟩:=chk_elim hm
   obtain ⟨r_101,hr_101,hm⟩:=call_elim hm
   refine Wp.seqR fun K26 hK26=>?_
   simp only [go_sem,simprocAttr]
   try refine ⟨by first | exact sd | ((repeat' apply And.intro) <;> first | assumption | omega | (simp only [List.length_append,List.length_map,List.length_cons,List.length_nil,List.length_set,List.length_replicate] at c_100 ⊢; omega)),?_⟩
   refine Rg.callO (av:=?av27) [4,2,3] (ok_delta_automaton_longest_i1 (List.drop at_87.toNat b_2) r_5.2 r_5.1 _ hr_101) si si si sg sg ?cont27
   rintro _ _ ⟨rfl,rfl⟩ hv27
   simp only [go_sem,simprocAttr]
   first | apply hK26 | refine ⟨by first | exact sd | ((repeat' apply And.intro) <;> first | assumption | omega | (simp only [List.length_append,List.length_map,List.length_cons,List.length_nil,List.length_set,List.length_replicate] at c_100 ⊢; omega)),hK26 _ _ ?_⟩
   refine Wp.seqW fun K28 hK28 hW28=>?_
   refine qS ?_
   refine cM hm (fun hc30 hm=>?_) (fun hc30 hm=>?_)
   ·refine qS ?_
    refine Wp.exit ?_
    simp only [thenQ,blockQ,↓reduceIte]
    refine ⟨(from_86,IntKind.i64.wrap (at_87+1),o5_88),hm,?_⟩
    exact fse2
   ·refine Wp.skip ?_
    refine hK28 _ _ ?_
    refine Wp.seqW fun K32 hK32 hW32=>?_
    obtain ⟨k_105,hk_105,hm⟩:=jp_elim hm
    have hcut32:∀ s,k_105 s=some z→K32 [(1,.p (.s b_2)),(4,.ptr 0 0),(6,.ptr 1 0),(7,.ptr 4 0),(9,.p (.i .i64 at_87)),(10,.p (.i .i64 r_101.1)),(11,.p (.i .i64 r_101.2))] [.cells 24 [.p (.i .i64 0),.p (.i .i64 0),.p (.s []),.p (.s []),.nils],.cells 24 [.p (.i .i64 (a_1.length:Int)),.p (.i .i64 (b_2.length:Int)),.p (.s r_3),.p (.s r_4),.buf 5],.nst false 69 4 3 3 (List.map eN_enc_delta_state r_5.1) none,.inn 82 2 (List.map iN_enc_delta_state r_5.1),.cells 72 [.buf 2,.p (.i .i64 r_5.2)],.buf 42 3 (List.map enc_api_Piece s)]:=by
     intro o5_104 hs
     have hm:=hk_105 _ hs
     clear hs
     try dsimp only at hm
     try dsimp only
     refine hK32 _ _ ?_
     obtain ⟨c_106,hm⟩:=chk_elim hm
     refine Wp.seqR fun K33 hK33=>?_
     simp only [go_sem,simprocAttr]
     first | apply hK33 | refine ⟨by first | exact sd | ((repeat' apply And.intro) <;> first | assumption | omega | (simp only [List.length_append,List.length_map,List.length_cons,List.length_nil,List.length_set,List.length_replicate] at c_106 ⊢; omega)),hK33 _ _ ?_⟩
     refine qS ?_
     refine qR ?_
     simp only [thenQ,blockQ,↓reduceIte]
     refine ⟨(IntKind.i64.wrap (at_87+r_101.2),IntKind.i64.wrap (at_87+r_101.2),o5_104++[(api_Piece.mk r_101.1 r_101.2 [])]),hm,?_⟩
     exact fse2
    clear hK32 hk_105
    refine qS ?_
    refine cM hm (fun hc37 hm=>?_) (fun hc37 hm=>?_)
    ·obtain ⟨c_107,hm⟩:=chk_elim hm
     obtain ⟨c_108,hm⟩:=chk_elim hm
     refine Wp.regD (plan:=pl [(0,none),(1,none),(2,none),(3,none),(4,none),(5,none),(6,none),(7,some [0,1]),(8,some []),(9,none),(10,some [])]) (by kernel_rfl) rfl (by kernel_rfl) fun K38 hK38=>?_
     simp only [go_sem,simprocAttr]
     first | apply hK38 | refine ⟨by first | exact sd | ((repeat' apply And.intro) <;> first | assumption | omega | (simp only [List.length_append,List.length_map,List.length_cons,List.length_nil,List.length_set,List.length_replicate] at c_107 c_108 ⊢; omega)),hK38 _ _ ?_⟩
     refine hW32 _ _ _ _ ?_ (hcut32 (o5_88++[(api_Piece.mk 0 0 (List.take (at_87.toNat - from_86.toNat) (List.drop from_86.toNat b_2)))]) hm)
     exact fse2
    ·refine Wp.skip ?_
     refine hW32 _ _ _ _ ?_ (hcut32 o5_88 hm)
     exact fse2
  ·refine Wp.exit ?_
   simp only [thenQ,blockQ,↓reduceIte]
   have hm:=hk_98 _ hm
   try dsimp only at hm
   refine hW12 _ _ _ _ ?_ (hcut12 (from_86,o5_88) hm)
   exact fse2
theorem ok_delta_outside (n_1:Int) (low_2:Int) (high_3:Int) (z:Bool) (hm:delta_outside n_1 low_2 high_3=some z):Does Try.prog 34 [.p (.i .i64 n_1),.p (.i .i64 low_2),.p (.i .i64 high_3)] [] (fun r X=>r=.p (.b z)∧X=[]):=by
 unfold delta_outside at hm
 refine Does.of_wp 0 15 [.tmp 6] Try.func34 rfl (by decide) rfl rfl (Nat.le_of_ble_eq_true rfl) fun B=>?_
 refine qS ?_
 refine qS ?_
 refine Wp.ret ?_
 refine retQ_ret ?_
 cases hm
 exact fse2
theorem ok_delta_isSum (s_1:Str) (z:Bool) (hm:delta_isSum s_1=some z):Does Try.prog 35 [.p (.s s_1)] [] (fun r X=>r=.p (.b z)∧X=[]):=by
 unfold delta_isSum at hm
 refine Does.of_wp 0 36 [.tmp 2] Try.func35 rfl (by decide) rfl rfl (Nat.le_of_ble_eq_true rfl) fun B=>?_
 refine qS ?_
 refine Wp.seqW fun K2 hK2 hW2=>?_
 obtain ⟨k_9,hk_9,hm⟩:=jp_elim hm
 have hcut2:∀ s,k_9 s=some z→K2 [(0,.p (.s s_1))] []:=by
  intro s hs
  have hm:=hk_9 _ hs
  clear hs
  try dsimp only at hm
  try dsimp only
  refine hK2 _ _ ?_
  refine qS ?_
  refine Wp.ret ?_
  refine retQ_ret ?_
  cases hm
  exact fse2
 clear hK2 hk_9
 refine qS ?_
 refine Wp.block ?_
 obtain ⟨k_12,hk_12,hm⟩:=forL_cont hm
 refine Wp.fact 0 fun hl_15=>?_
 replace hl_15:s_1.length≤274877906944:=by
  simp only [go_sem,simprocAttr,List.length_map] at hl_15
  omega
 refine Wp.forL (fun i_14 s=>[(0,.p (.s s_1)),(3,.p (.i .i64 (i_14:Int)))]) (fun i_14 s=>[]) ?_ hm ?_
 ·
  exact fse2
 clear hm
 intro i_14 s hii_14 hm
 try dsimp only at hm
 try dsimp only
 refine Wp.seqW fun K5 hK5 hW5=>?_
 refine qS ?_
 refine Wp.cond rfl ⟨⟩ (fun hc5=>?_) (fun hc5=>?_)
 rotate_left
 ·refine Wp.exit ?_
  have hm:=hk_12 _ (forL_end hm (ge_nat (by first | exact hc5 | simpa using hc5)))
  try dsimp only at hm
  refine hW2 _ _ _ _ ?_ (hcut2 () hm)
  exact fse2
 have hlt5:=lt_nat (by first | exact hc5 | simpa using hc5)
 have hw5:=wrap_succ hlt5 hl_15
 obtain ⟨c_16,nx_13,hxc_16,hyc_16,hnx_13,hm⟩:=forL_step hm hlt5
 clear hxc_16
 refine Wp.skip ?_
 simp only [thenQ]
 refine hK5 _ _ ?_
 refine Wp.seqW fun K7 hK7 hW7=>?_
 refine Wp.block ?_
 refine Wp.seqR fun K8 hK8=>?_
 simp only [go_sem,simprocAttr,hw5,hyc_16]
 first | apply hK8 | refine ⟨sd,hK8 _ _ ?_⟩
 refine cM hm (fun hc9 hm=>?_) (fun hc9 hm=>?_)
 ·refine Wp.seqR fun K10 hK10=>?_
  simp only [go_sem,simprocAttr,hw5,hyc_16]
  first | apply hK10 | refine ⟨sd,hK10 _ _ ?_⟩
  refine Wp.ret ?_
  refine retQ_ret ?_
  cases hm
  simp only [go_sem,simprocAttr,hw5,hyc_16]
  try exact se2
 ·refine Wp.skip ?_
  refine hK7 _ _ ?_
  refine Wp.region fun K11 hK11=>?_
  simp only [go_sem,simprocAttr,hw5,hyc_16]
  first | apply hK11 | refine ⟨sd,hK11 _ _ ?_⟩
  simp only [thenQ,blockQ,↓reduceIte]
  refine ⟨(),hlt5,hnx_13 _ hm,?_⟩
  simp only [go_sem,simprocAttr,hw5,hyc_16]
  try exact se2
theorem ok_delta_CheckSteps (l_1:List api_Piece) (old_2:Int) (z:Int × Int) (hm:delta_CheckSteps l_1 old_2=some z):Does Try.prog 36 [.p (.l (List.map enc_api_Piece l_1)),.p (.i .i64 old_2)] [] (fun r X=>r=.tup [.p (.i .i64 z.1),.p (.i .i64 z.2)]∧X=[]):=by
 unfold delta_CheckSteps at hm
 refine Does.of_wp 0 67 [.tmp 4,.tmp 5] Try.func36 rfl (by decide) rfl rfl (Nat.le_of_ble_eq_true rfl) fun B=>?_
 refine qS ?_
 refine Wp.seqW fun K2 hK2 hW2=>?_
 obtain ⟨r_3,hr_3,hm⟩:=call_elim hm
 refine Wp.seqR fun K3 hK3=>?_
 simp only [go_sem,simprocAttr]
 try refine ⟨sd,?_⟩
 refine Rg.callX (av:=?av4) (g:=true) (fun hg=>ok_delta_outside old_2 0 65536 _ hr_3) si si si sg si ?cont4
 intro hv4
 simp only [go_sem,simprocAttr]
 first | apply hK3 | refine ⟨sd,hK3 _ _ ?_⟩
 refine cM hm (fun hc5 hm=>?_) (fun hc5 hm=>?_)
 ·refine qS ?_
  refine Wp.ret ?_
  refine retQ_ret ?_
  cases hm
  exact fse2
 ·refine Wp.skip ?_
  refine hK2 _ _ ?_
  refine Wp.seqW fun K7 hK7 hW7=>?_
  refine qS ?_
  refine cM hm (fun hc9 hm=>?_) (fun hc9 hm=>?_)
  ·refine qS ?_
   refine Wp.ret ?_
   refine retQ_ret ?_
   cases hm
   exact fse2
  ·refine Wp.skip ?_
   refine hK7 _ _ ?_
   refine qS ?_
   refine Wp.seqW fun K12 hK12 hW12=>?_
   obtain ⟨k_13,hk_13,hm⟩:=jp_elim hm
   have hcut12:∀ s,k_13 s=some z→K12 [(6,.p (.i .i64 s))] []:=by
    intro size_12 hs
    have hm:=hk_13 _ hs
    clear hs
    try dsimp only at hm
    try dsimp only
    refine hK12 _ _ ?_
    refine Wp.seqW fun K13 hK13 hW13=>?_
    refine qS ?_
    refine cM hm (fun hc15 hm=>?_) (fun hc15 hm=>?_)
    ·refine qS ?_
     refine Wp.ret ?_
     refine retQ_ret ?_
     cases hm
     exact fse2
    ·refine Wp.skip ?_
     refine hK13 _ _ ?_
     refine qS ?_
     refine Wp.ret ?_
     refine retQ_ret ?_
     cases hm
     exact fse2
   clear hK12 hk_13
   refine qS ?_
   refine Wp.block ?_
   obtain ⟨k_17,hk_17,hm⟩:=forL_cont hm
   refine Wp.fact 14 fun hl_20=>?_
   replace hl_20:l_1.length≤274877906944:=by
    simp only [go_sem,simprocAttr,List.length_map] at hl_20
    omega
   refine Wp.forL (fun i_19 s=>[(1,.p (.i .i64 old_2)),(6,.p (.i .i64 s)),(14,.p (.l (List.map enc_api_Piece l_1))),(15,.p (.i .i64 (l_1.length:Int))),(16,.p (.i .i64 (i_19:Int)))]) (fun i_19 s=>[]) ?_ hm ?_
   ·
    exact fse2
   clear hm
   intro i_19 size_14 hii_19 hm
   try dsimp only at hm
   try dsimp only
   refine qS ?_
   refine Wp.seqW fun K20 hK20 hW20=>?_
   refine Wp.cond rfl ⟨⟩ (fun hc20=>?_) (fun hc20=>?_)
   rotate_left
   ·refine Wp.exit ?_
    have hm:=hk_17 _ (forL_end hm (ge_nat (by first | exact hc20 | simpa using hc20)))
    try dsimp only at hm
    refine hW12 _ _ _ _ ?_ (hcut12 size_14 hm)
    exact fse2
   have hlt20:=lt_nat (by first | exact hc20 | simpa using hc20)
   have hw20:=wrap_succ hlt20 hl_20
   obtain ⟨p_21,nx_18,hxp_21,hyp_21,hnx_18,hm⟩:=forL_step hm hlt20
   replace hxp_21:=hxp_21 enc_api_Piece
   refine Wp.skip ?_
   simp only [thenQ]
   refine hK20 _ _ ?_
   refine Wp.seqW fun K21 hK21 hW21=>?_
   refine Wp.block ?_
   refine Wp.seqR fun K22 hK22=>?_
   simp only [go_sem,simprocAttr,hw20,hxp_21]
   first | apply hK22 | refine ⟨sd,hK22 _ _ ?_⟩
   refine Wp.seqW fun K23 hK23 hW23=>?_
   refine Wp.seqR fun K24 hK24=>?_
   simp only [go_sem,simprocAttr,hw20,hxp_21]
   first | apply hK24 | refine ⟨sd,hK24 _ _ ?_⟩
   refine cM hm (fun hc25 hm=>?_) (fun hc25 hm=>?_)
   ·refine Wp.seqW fun K26 hK26 hW26=>?_
    refine Wp.seqR fun K27 hK27=>?_
    simp only [go_sem,simprocAttr,hw20,hxp_21]
    first | apply hK27 | refine ⟨sd,hK27 _ _ ?_⟩
    refine cM hm (fun hc28 hm=>?_) (fun hc28 hm=>?_)
    ·refine Wp.seqR fun K29 hK29=>?_
     simp only [go_sem,simprocAttr,hw20,hxp_21]
     first | apply hK29 | refine ⟨sd,hK29 _ _ ?_⟩
     refine Wp.ret ?_
     refine retQ_ret ?_
     cases hm
     simp only [go_sem,simprocAttr,hw20,hxp_21]
     try exact se2
    ·refine Wp.skip ?_
     refine hK26 _ _ ?_
     refine Wp.seqR fun K30 hK30=>?_
     simp only [go_sem,simprocAttr,hw20,hxp_21]
     first | apply hK30 | refine ⟨sd,hK30 _ _ ?_⟩
     refine Wp.exit ?_
     refine hK21 _ _ ?_
     refine Wp.region fun K31 hK31=>?_
     simp only [go_sem,simprocAttr,hw20,hxp_21]
     first | apply hK31 | refine ⟨sd,hK31 _ _ ?_⟩
     simp only [thenQ,blockQ,↓reduceIte]
     refine ⟨IntKind.i64.wrap (size_14+(p_21.Data.length:Int)),hlt20,hnx_18 _ hm,?_⟩
     simp only [go_sem,simprocAttr,hw20,hxp_21]
     try exact se2
   ·refine Wp.skip ?_
    refine hK23 _ _ ?_
    refine Wp.seqW fun K32 hK32 hW32=>?_
    refine Wp.seqR fun K33 hK33=>?_
    simp only [go_sem,simprocAttr,hw20,hxp_21]
    first | apply hK33 | refine ⟨sd,hK33 _ _ ?_⟩
    refine cM hm (fun hc34 hm=>?_) (fun hc34 hm=>?_)
    ·refine Wp.seqR fun K35 hK35=>?_
     simp only [go_sem,simprocAttr,hw20,hxp_21]
     first | apply hK35 | refine ⟨sd,hK35 _ _ ?_⟩
     refine Wp.ret ?_
     refine retQ_ret ?_
     cases hm
     simp only [go_sem,simprocAttr,hw20,hxp_21]
     try exact se2
    ·refine Wp.skip ?_
     refine hK32 _ _ ?_
     refine Wp.region fun K36 hK36=>?_
     simp only [go_sem,simprocAttr,hw20,hxp_21]
     first | apply hK36 | refine ⟨sd,hK36 _ _ ?_⟩
     refine hK21 _ _ ?_
     refine Wp.region fun K37 hK37=>?_
     simp only [go_sem,simprocAttr,hw20,hxp_21]
     first | apply hK37 | refine ⟨sd,hK37 _ _ ?_⟩
     simp only [thenQ,blockQ,↓reduceIte]
     refine ⟨IntKind.i64.wrap (size_14+p_21.Long),hlt20,hnx_18 _ hm,?_⟩
     simp only [go_sem,simprocAttr,hw20,hxp_21]
     try exact se2
theorem ok_delta_Check (d_1:api_Delta) (z:Int) (hm:delta_Check d_1=some z):Does Try.prog 16 [.agg [.p (.i .i64 d_1.Old),.p (.i .i64 d_1.New),.p (.s d_1.OldSum),.p (.s d_1.NewSum),.p (.l (List.map enc_api_Piece d_1.Pieces))]] [] (fun r X=>r=.p (.i .i64 z)∧X=[]):=by
 unfold delta_Check at hm
 refine Does.of_wp 0 40 [.tmp 2] Try.func16 rfl (by decide) rfl rfl (Nat.le_of_ble_eq_true rfl) fun B=>?_
 refine qS ?_
 refine Wp.seqW fun K2 hK2 hW2=>?_
 obtain ⟨r_2,hr_2,hm⟩:=call_elim hm
 obtain ⟨r_3,hr_3,hm⟩:=callG_elim hm
 refine Wp.seqR fun K3 hK3=>?_
 simp only [go_sem,simprocAttr]
 try refine ⟨sd,?_⟩
 refine Rg.callX (av:=?av4) (g:=true) (fun hg=>ok_delta_outside d_1.Old 0 65536 _ hr_2) si si si sg si ?cont4
 intro hv4
 simp only [go_sem,simprocAttr]
 try refine ⟨sd,?_⟩
 refine Rg.callX (av:=?av5) (g:=!r_2) (fun hg=>ok_delta_outside d_1.New 0 65536 _ (hr_3 hg)) si si si sg si ?cont5
 intro hv5
 simp only [go_sem,simprocAttr]
 first | apply hK3 | refine ⟨sd,hK3 _ _ ?_⟩
 refine cM hm (fun hc6 hm=>?_) (fun hc6 hm=>?_)
 ·refine qS ?_
  refine Wp.ret ?_
  refine retQ_ret ?_
  cases hm
  exact fse2
 ·refine Wp.skip ?_
  refine hK2 _ _ ?_
  refine Wp.seqW fun K8 hK8 hW8=>?_
  obtain ⟨r_4,hr_4,hm⟩:=call_elim hm
  obtain ⟨r_5,hr_5,hm⟩:=callG_elim hm
  refine Wp.seqR fun K9 hK9=>?_
  simp only [go_sem,simprocAttr]
  try refine ⟨sd,?_⟩
  refine Rg.callX (av:=?av10) (g:=true) (fun hg=>ok_delta_isSum d_1.OldSum _ hr_4) si si si sg si ?cont10
  intro hv10
  simp only [go_sem,simprocAttr]
  try refine ⟨sd,?_⟩
  refine Rg.callX (av:=?av11) (g:=!(!r_4)) (fun hg=>ok_delta_isSum d_1.NewSum _ (hr_5 hg)) si si si sg si ?cont11
  intro hv11
  simp only [go_sem,simprocAttr]
  first | apply hK9 | refine ⟨sd,hK9 _ _ ?_⟩
  refine cM hm (fun hc12 hm=>?_) (fun hc12 hm=>?_)
  ·refine qS ?_
   refine Wp.ret ?_
   refine retQ_ret ?_
   cases hm
   exact fse2
  ·refine Wp.skip ?_
   refine hK8 _ _ ?_
   obtain ⟨r_6,hr_6,hm⟩:=call_elim hm
   refine Wp.seqR fun K14 hK14=>?_
   simp only [go_sem,simprocAttr]
   try refine ⟨sd,?_⟩
   refine Rg.callX (av:=?av15) (g:=true) (fun hg=>ok_delta_CheckSteps d_1.Pieces d_1.Old _ hr_6) si si si sg si ?cont15
   intro hv15
   simp only [go_sem,simprocAttr]
   first | apply hK14 | refine ⟨sd,hK14 _ _ ?_⟩
   refine Wp.seqW fun K16 hK16 hW16=>?_
   refine qS ?_
   refine cM hm (fun hc18 hm=>?_) (fun hc18 hm=>?_)
   ·refine qS ?_
    refine Wp.ret ?_
    refine retQ_ret ?_
    cases hm
    exact fse2
   ·refine Wp.skip ?_
    refine hK16 _ _ ?_
    refine qS ?_
    refine Wp.ret ?_
    refine retQ_ret ?_
    cases hm
    exact fse2
theorem ok_delta_size (p_1:api_Piece) (z:Int) (hm:delta_size p_1=some z):Does Try.prog 17 [.agg [.p (.i .i64 p_1.At),.p (.i .i64 p_1.Long),.p (.s p_1.Data)]] [] (fun r X=>r=.p (.i .i64 z)∧X=[]):=by
 unfold delta_size at hm
 refine Does.of_wp 0 11 [.tmp 2] Try.func17 rfl (by decide) rfl rfl (Nat.le_of_ble_eq_true rfl) fun B=>?_
 refine qS ?_
 refine Wp.seqW fun K2 hK2 hW2=>?_
 refine qS ?_
 refine cM hm (fun hc4 hm=>?_) (fun hc4 hm=>?_)
 ·refine qS ?_
  refine Wp.ret ?_
  refine retQ_ret ?_
  cases hm
  exact fse2
 ·refine Wp.skip ?_
  refine hK2 _ _ ?_
  refine qS ?_
  refine Wp.ret ?_
  refine retQ_ret ?_
  cases hm
  exact fse2
theorem ok_delta_part (p_1:api_Piece) (from_2:Int) (to_3:Int) (z:api_Piece) (hm:delta_part p_1 from_2 to_3=some z):Does Try.prog 18 [.agg [.p (.i .i64 p_1.At),.p (.i .i64 p_1.Long),.p (.s p_1.Data)],.p (.i .i64 from_2),.p (.i .i64 to_3)] [] (fun r X=>r=.agg [.p (.i .i64 z.At),.p (.i .i64 z.Long),.p (.s z.Data)]∧X=[]):=by
 unfold delta_part at hm
 refine Does.of_wp 0 24 [.cell 6 42] Try.func18 rfl (by decide) rfl rfl (Nat.le_of_ble_eq_true rfl) fun B=>?_
 refine qS ?_
 refine Wp.seqW fun K2 hK2 hW2=>?_
 refine qS ?_
 refine cM hm (fun hc4 hm=>?_) (fun hc4 hm=>?_)
 ·obtain ⟨c_4,hm⟩:=chk_elim hm
  refine Wp.seqR fun K5 hK5=>?_
  simp only [go_sem,simprocAttr]
  first | apply hK5 | refine ⟨by first | exact sd | ((repeat' apply And.intro) <;> first | assumption | omega | (simp only [List.length_append,List.length_map,List.length_cons,List.length_nil,List.length_set,List.length_replicate] at c_4 ⊢; omega)),hK5 _ _ ?_⟩
  refine Wp.ret ?_
  refine retQ_ret ?_
  cases hm
  exact fse2
 ·refine Wp.skip ?_
  refine hK2 _ _ ?_
  refine qS ?_
  refine Wp.ret ?_
  refine retQ_ret ?_
  cases hm
  exact fse2
theorem ok_strings_Builder_Grow (n:Int) (o0:Str) (z:Unit) (hm:strings_Builder_Grow n o0=some z):Does Try.prog 40 [.ptr 0 0,.p (.i .i64 n)] [.cells 58 [.np 0,.buf 1],.sb 5 o0] (fun r X=>r=.tup []∧X=[.cells 58 [.np 0,.buf 1],.sb 5 o0]):=by
 obtain ⟨h,-⟩:=chk_elim hm
 obtain ⟨k,rfl⟩:=Int.eq_ofNat_of_zero_le h.1
 exact Does.grow growLay growExt k o0 (by omega)
theorem ok_strings_Builder_copyCheck_i1 (o1_1:Str) (z:Unit) (hm:strings_Builder_copyCheck_i1 o1_1=some z):Does Try.prog 38 [.ptr 0 0] [.cells 58 [.nil,.buf 1],.sb 5 o1_1] (fun r X=>r=.tup []∧X=[.cells 58 [.ptr 0 0,.buf 1],.sb 5 o1_1]):=by
 unfold strings_Builder_copyCheck_i1 at hm
 refine Does.of_wp 2 20 [] Try.func38 rfl (by decide) rfl rfl (Nat.le_of_ble_eq_true rfl) fun B=>?_
 refine qS ?_
 refine Wp.cond rfl ⟨⟩ (fun hc2=>?_) (fun hc2=>?_)
 rotate_left
 ·cases hc2
 refine Wp.region fun K3 hK3=>?_
 simp only [go_sem,simprocAttr]
 try refine ⟨sd,?_⟩
 refine Rg.callI (v:=?av4) (g:=true) nvi_41 si si sg ?cont4
 simp only [go_sem,simprocAttr]
 first | apply hK3 | refine ⟨sd,hK3 _ _ ?_⟩
 refine retQ_normal ?_
 cases hm
 exact fse2
theorem ok_strings_Builder_copyCheck_i2 (o1_1:Str) (z:Unit) (hm:strings_Builder_copyCheck_i2 o1_1=some z):Does Try.prog 38 [.ptr 0 0] [.cells 58 [.ptr 0 0,.buf 1],.sb 5 o1_1] (fun r X=>r=.tup []∧X=[.cells 58 [.ptr 0 0,.buf 1],.sb 5 o1_1]):=by
 unfold strings_Builder_copyCheck_i2 at hm
 refine Does.of_wp 2 20 [] Try.func38 rfl (by decide) rfl rfl (Nat.le_of_ble_eq_true rfl) fun B=>?_
 refine qS ?_
 refine Wp.cond rfl ⟨⟩ (fun hc2=>?_) (fun hc2=>?_)
 ·cases hc2
 refine qS ?_
 refine Wp.cond rfl ⟨⟩ (fun hc4=>?_) (fun hc4=>?_)
 ·cases hc4
 refine Wp.skip ?_
 refine retQ_normal ?_
 cases hm
 exact fse2
theorem ok_strings_Builder_copyCheck_np (o0:Str) (z:Unit) (hm:strings_Builder_copyCheck_np o0=some z):Does Try.prog 38 [.ptr 0 0] [.cells 58 [.np 0,.buf 1],.sb 5 o0] (fun r X=>r=.tup []∧X=[.cells 58 [.np 0,.buf 1],.sb 5 o0]) :=
 Does.np (ok_strings_Builder_copyCheck_i1 o0 () rfl) (ok_strings_Builder_copyCheck_i2 o0 () rfl)
theorem ok_strings_Builder_WriteString_i1 (s_1:Str) (o1_2:Str) (z:Int × Str) (hm:strings_Builder_WriteString_i1 s_1 o1_2=some z):Does Try.prog 26 [.ptr 0 0,.p (.s s_1)] [.cells 58 [.np 0,.buf 1],.sb 5 o1_2] (fun r X=>r=.tup [.p (.i .i64 z.1),.raw .nilIface]∧X=[.cells 58 [.np 0,.buf 1],.sb 5 z.2]):=by
 unfold strings_Builder_WriteString_i1 at hm
 refine Does.of_wp 2 19 [.tmp 4,.tmp 5] Try.func26 rfl (by decide) rfl rfl (Nat.le_of_ble_eq_true rfl) fun B=>?_
 refine qS ?_
 obtain ⟨r_5,hr_5,hm⟩:=call_elim hm
 refine Wp.seqR fun K2 hK2=>?_
 simp only [go_sem,simprocAttr]
 try refine ⟨sd,?_⟩
 refine Rg.callO (av:=?av3) [0,1] (ok_strings_Builder_copyCheck_np o1_2 _ hr_5) si si si sg sg ?cont3
 rintro _ _ ⟨rfl,rfl⟩ hv3
 simp only [go_sem,simprocAttr]
 first | apply hK2 | refine ⟨sd,hK2 _ _ ?_⟩
 obtain ⟨c_6,hm⟩:=chk_elim hm
 refine Wp.seqR fun K4 hK4=>?_
 simp only [go_sem,simprocAttr]
 first | apply hK4 | refine ⟨by first | exact sd | ((repeat' apply And.intro) <;> first | assumption | omega | (simp only [List.length_append,List.length_map,List.length_cons,List.length_nil,List.length_set,List.length_replicate] at c_6 ⊢; omega)),hK4 _ _ ?_⟩
 refine qS ?_
 refine Wp.ret ?_
 refine retQ_ret ?_
 cases hm
 exact fse2
theorem ok_strings_Builder_String_i1 (o1_1:Str) (z:Str) (hm:strings_Builder_String_i1 o1_1=some z):Does Try.prog 27 [.ptr 0 0] [.cells 58 [.np 0,.buf 1],.sb 5 o1_1] (fun r X=>r=.p (.s z)∧X=[.cells 58 [.np 0,.buf 1],.sb 5 o1_1]):=by
 unfold strings_Builder_String_i1 at hm
 refine Does.of_wp 2 14 [.tmp 2] Try.func27 rfl (by decide) rfl rfl (Nat.le_of_ble_eq_true rfl) fun B=>?_
 refine qS ?_
 refine Wp.seqD (plan:=pl [(0,none),(1,none),(2,none),(3,none),(5,none),(6,none),(7,none),(8,none),(9,none),(4,some [5,6,7,8,9]),(10,some []),(11,none)]) (by kernel_rfl) rfl (by kernel_rfl) fun K2 hK2=>?_
 simp only [go_sem,simprocAttr]
 first | apply hK2 | refine ⟨sd,hK2 _ _ ?_⟩
 refine Wp.ret ?_
 refine retQ_ret ?_
 cases hm
 exact fse2
theorem ok_strings_Join (elems_1:List Str) (sep_2:Str) (z:Str) (hm:strings_Join elems_1 sep_2=some z):Does Try.prog 37 [.p (.l (List.map ecS elems_1)),.p (.s sep_2)] [] (fun r X=>r=.p (.s z)∧X=[]):=by
 unfold strings_Join at hm
 refine Does.of_wp 0 75 [.tmp 4] Try.func37 rfl (by decide) rfl rfl (Nat.le_of_ble_eq_true rfl) fun B=>?_
 refine qS ?_
 refine Wp.seqW fun K2 hK2 hW2=>?_
 refine qS ?_
 refine Wp.block ?_
 refine qS ?_
 refine cM hm (fun hc5 hm=>?_) (fun hc5 hm=>?_)
 ·refine qS ?_
  refine Wp.ret ?_
  refine retQ_ret ?_
  cases hm
  exact fse2
 ·refine qS ?_
  refine cM hm (fun hc8 hm=>?_) (fun hc8 hm=>?_)
  ·obtain ⟨s_3,hbs_3,hxs_3,hys_3,hm⟩:=idx_elim hm
   replace hxs_3:∀ d,(List.map ecS elems_1).getD 0 d=ecS s_3:=hxs_3 ecS
   refine Wp.seqR fun K9 hK9=>?_
   simp only [go_sem,simprocAttr,hxs_3]
   first | apply hK9 | refine ⟨sd,hK9 _ _ ?_⟩
   refine Wp.ret ?_
   refine retQ_ret ?_
   cases hm
   simp only [go_sem,simprocAttr,hxs_3]
   try exact se2
  ·refine Wp.skip ?_
   refine hK2 _ _ ?_
   refine qS ?_
   refine Wp.seqW fun K11 hK11 hW11=>?_
   obtain ⟨k_6,hk_6,hm⟩:=jp_elim hm
   have hcut11:∀ s,k_6 s=some z→K11 [(0,.p (.l (List.map ecS elems_1))),(1,.p (.s sep_2)),(5,.p (.i .i64 s))] []:=by
    intro n_5 hs
    have hm:=hk_6 _ hs
    clear hs
    try dsimp only at hm
    try dsimp only
    refine hK11 _ _ ?_
    refine Wp.seqW fun K12 hK12 hW12=>?_
    obtain ⟨k_16,hk_16,hm⟩:=jp_elim hm
    have hcut12:∀ s,k_16 s=some z→K12 [(0,.p (.l (List.map ecS elems_1))),(1,.p (.s sep_2)),(5,.p (.i .i64 s))] []:=by
     intro n_15 hs
     have hm:=hk_16 _ hs
     clear hs
     try dsimp only at hm
     try dsimp only
     refine hK12 _ _ ?_
     refine qS ?_
     refine Wp.adoptB 0 5 rfl ?_
     simp only [go_sem,simprocAttr]
     obtain ⟨r_17,hr_17,hm⟩:=call_elim hm
     refine Wp.seqR fun K14 hK14=>?_
     simp only [go_sem,simprocAttr]
     try refine ⟨sd,?_⟩
     refine Rg.callO (av:=?av15) [0,1] (ok_strings_Builder_Grow n_15 [] _ hr_17) si si si sg sg ?cont15
     rintro _ _ ⟨rfl,rfl⟩ hv15
     simp only [go_sem,simprocAttr]
     first | apply hK14 | refine ⟨sd,hK14 _ _ ?_⟩
     obtain ⟨s_18,hbs_18,hxs_18,hys_18,hm⟩:=idx_elim hm
     replace hxs_18:∀ d,(List.map ecS elems_1).getD 0 d=ecS s_18:=hxs_18 ecS
     obtain ⟨r_19,hr_19,hm⟩:=call_elim hm
     refine Wp.seqR fun K16 hK16=>?_
     simp only [go_sem,simprocAttr,hxs_18]
     try refine ⟨sd,?_⟩
     refine Rg.callO (av:=?av17) [0,1] (ok_strings_Builder_WriteString_i1 s_18 [] _ hr_19) (by simp only [go_sem,simprocAttr,hxs_18]; exact Is.mk) (by simp only [go_sem,simprocAttr,hxs_18]; exact Is.mk) (by simp only [go_sem,simprocAttr,hxs_18]; exact Is.mk) (by simp only [go_sem,simprocAttr,hxs_18]) (by simp only [go_sem,simprocAttr,hxs_18]) ?cont17
     rintro _ _ ⟨rfl,rfl⟩ hv17
     simp only [go_sem,simprocAttr,hxs_18]
     first | apply hK16 | refine ⟨sd,hK16 _ _ ?_⟩
     refine Wp.seqW fun K18 hK18 hW18=>?_
     obtain ⟨k_38,hk_38,hm⟩:=jp_elim hm
     have hcut18:∀ s,k_38 s=some z→K18 [(8,.ptr 0 0)] [.cells 58 [.np 0,.buf 1],.sb 5 s]:=by
      intro o1_37 hs
      have hm:=hk_38 _ hs
      clear hs
      try dsimp only at hm
      try dsimp only
      refine hK18 _ _ ?_
      obtain ⟨r_39,hr_39,hm⟩:=call_elim hm
      refine Wp.seqR fun K19 hK19=>?_
      simp only [go_sem,simprocAttr,hxs_18]
      try refine ⟨sd,?_⟩
      refine Rg.callO (av:=?av20) [0,1] (ok_strings_Builder_String_i1 o1_37 _ hr_39) (by simp only [go_sem,simprocAttr,hxs_18]; exact Is.mk) (by simp only [go_sem,simprocAttr,hxs_18]; exact Is.mk) (by simp only [go_sem,simprocAttr,hxs_18]; exact Is.mk) (by simp only [go_sem,simprocAttr,hxs_18]) (by simp only [go_sem,simprocAttr,hxs_18]) ?cont20
      rintro _ _ ⟨rfl,rfl⟩ hv20
      simp only [go_sem,simprocAttr,hxs_18]
      first | apply hK19 | refine ⟨sd,hK19 _ _ ?_⟩
      refine Wp.ret ?_
      refine retQ_ret ?_
      cases hm
      simp only [go_sem,simprocAttr,hxs_18]
      try exact se2
     clear hK18 hk_38
     obtain ⟨c_40,hm⟩:=chk_elim hm
     refine Wp.seqR fun K21 hK21=>?_
     simp only [go_sem,simprocAttr,hxs_18]
     first | apply hK21 | refine ⟨by first | exact sd | ((repeat' apply And.intro) <;> first | assumption | omega | (simp only [List.length_append,List.length_map,List.length_cons,List.length_nil,List.length_set,List.length_replicate] at c_40 ⊢; omega)),hK21 _ _ ?_⟩
     refine Wp.block ?_
     obtain ⟨k_50,hk_50,hm⟩:=forL_cont hm
     refine Wp.fact 63 fun hl_53=>?_
     replace hl_53:(List.drop 1 elems_1).length≤274877906944:=by
      simp only [go_sem,simprocAttr,List.length_map] at hl_53
      omega
     refine Wp.forL (fun i_52 s=>[(1,.p (.s sep_2)),(8,.ptr 0 0),(63,.p (.l (List.map ecS (List.drop 1 elems_1)))),(64,.p (.i .i64 ((List.drop 1 elems_1).length:Int))),(65,.p (.i .i64 (i_52:Int)))]) (fun i_52 s=>[.cells 58 [.np 0,.buf 1],.sb 5 s]) ?_ hm ?_
     ·
      simp only [go_sem,simprocAttr,hxs_18]
      try exact se2
     clear hm
     intro i_52 o1_46 hii_52 hm
     try dsimp only at hm
     try dsimp only
     refine Wp.seqR fun K22 hK22=>?_
     simp only [go_sem,simprocAttr,hxs_18]
     first | apply hK22 | refine ⟨sd,hK22 _ _ ?_⟩
     refine Wp.seqW fun K23 hK23 hW23=>?_
     refine Wp.cond rfl ⟨⟩ (fun hc23=>?_) (fun hc23=>?_)
     rotate_left
     ·refine Wp.exit ?_
      have hm:=hk_50 _ (forL_end hm (ge_nat (by first | exact hc23 | simpa using hc23)))
      try dsimp only at hm
      refine hW18 _ _ _ _ ?_ (hcut18 o1_46 hm)
      simp only [go_sem,simprocAttr,hxs_18]
      try exact se2
     have hlt23:=lt_nat (by first | exact hc23 | simpa using hc23)
     have hw23:=wrap_succ hlt23 hl_53
     obtain ⟨s_54,nx_51,hxs_54,hys_54,hnx_51,hm⟩:=forL_step hm hlt23
     replace hxs_54:=hxs_54 ecS
     refine Wp.skip ?_
     simp only [thenQ]
     refine hK23 _ _ ?_
     refine Wp.seqW fun K24 hK24 hW24=>?_
     refine Wp.block ?_
     refine Wp.seqR fun K25 hK25=>?_
     simp only [go_sem,simprocAttr,hxs_18,hw23,hxs_54]
     first | apply hK25 | refine ⟨sd,hK25 _ _ ?_⟩
     obtain ⟨r_55,hr_55,hm⟩:=call_elim hm
     refine Wp.seqR fun K26 hK26=>?_
     simp only [go_sem,simprocAttr,hxs_18,hw23,hxs_54]
     try refine ⟨sd,?_⟩
     refine Rg.callO (av:=?av27) [0,1] (ok_strings_Builder_WriteString_i1 sep_2 o1_46 _ hr_55) (by simp only [go_sem,simprocAttr,hxs_18,hw23,hxs_54]; exact Is.mk) (by simp only [go_sem,simprocAttr,hxs_18,hw23,hxs_54]; exact Is.mk) (by simp only [go_sem,simprocAttr,hxs_18,hw23,hxs_54]; exact Is.mk) (by simp only [go_sem,simprocAttr,hxs_18,hw23,hxs_54]) (by simp only [go_sem,simprocAttr,hxs_18,hw23,hxs_54]) ?cont27
     rintro _ _ ⟨rfl,rfl⟩ hv27
     simp only [go_sem,simprocAttr,hxs_18,hw23,hxs_54]
     first | apply hK26 | refine ⟨sd,hK26 _ _ ?_⟩
     obtain ⟨r_56,hr_56,hm⟩:=call_elim hm
     refine Wp.region fun K28 hK28=>?_
     simp only [go_sem,simprocAttr,hxs_18,hw23,hxs_54]
     try refine ⟨sd,?_⟩
     refine Rg.callO (av:=?av29) [0,1] (ok_strings_Builder_WriteString_i1 s_54 r_55.2 _ hr_56) (by simp only [go_sem,simprocAttr,hxs_18,hw23,hxs_54]; exact Is.mk) (by simp only [go_sem,simprocAttr,hxs_18,hw23,hxs_54]; exact Is.mk) (by simp only [go_sem,simprocAttr,hxs_18,hw23,hxs_54]; exact Is.mk) (by simp only [go_sem,simprocAttr,hxs_18,hw23,hxs_54]) (by simp only [go_sem,simprocAttr,hxs_18,hw23,hxs_54]) ?cont29
     rintro _ _ ⟨rfl,rfl⟩ hv29
     simp only [go_sem,simprocAttr,hxs_18,hw23,hxs_54]
     first | apply hK28 | refine ⟨sd,hK28 _ _ ?_⟩
     refine hK24 _ _ ?_
     refine Wp.region fun K30 hK30=>?_
     simp only [go_sem,simprocAttr,hxs_18,hw23,hxs_54]
     first | apply hK30 | refine ⟨sd,hK30 _ _ ?_⟩
     simp only [thenQ,blockQ,↓reduceIte]
     refine ⟨r_56.2,hlt23,hnx_51 _ hm,?_⟩
     simp only [go_sem,simprocAttr,hxs_18,hw23,hxs_54]
     try exact se2
    clear hK12 hk_16
    refine qS ?_
    refine Wp.block ?_
    obtain ⟨k_60,hk_60,hm⟩:=forL_cont hm
    refine Wp.fact 0 fun hl_63=>?_
    replace hl_63:elems_1.length≤274877906944:=by
     simp only [go_sem,simprocAttr,List.length_map] at hl_63
     omega
    refine Wp.forL (fun i_62 s=>[(0,.p (.l (List.map ecS elems_1))),(1,.p (.s sep_2)),(5,.p (.i .i64 s)),(39,.p (.l (List.map ecS elems_1))),(40,.p (.i .i64 (elems_1.length:Int))),(41,.p (.i .i64 (i_62:Int)))]) (fun i_62 s=>[]) ?_ hm ?_
    ·
     exact fse2
    clear hm
    intro i_62 n_57 hii_62 hm
    try dsimp only at hm
    try dsimp only
    refine qS ?_
    refine Wp.seqW fun K33 hK33 hW33=>?_
    refine Wp.cond rfl ⟨⟩ (fun hc33=>?_) (fun hc33=>?_)
    rotate_left
    ·refine Wp.exit ?_
     have hm:=hk_60 _ (forL_end hm (ge_nat (by first | exact hc33 | simpa using hc33)))
     try dsimp only at hm
     refine hW12 _ _ _ _ ?_ (hcut12 n_57 hm)
     exact fse2
    have hlt33:=lt_nat (by first | exact hc33 | simpa using hc33)
    have hw33:=wrap_succ hlt33 hl_63
    obtain ⟨s_64,nx_61,hxs_64,hys_64,hnx_61,hm⟩:=forL_step hm hlt33
    replace hxs_64:=hxs_64 ecS
    refine Wp.skip ?_
    simp only [thenQ]
    refine hK33 _ _ ?_
    refine Wp.seqW fun K34 hK34 hW34=>?_
    refine Wp.block ?_
    refine Wp.seqR fun K35 hK35=>?_
    simp only [go_sem,simprocAttr,hw33,hxs_64]
    first | apply hK35 | refine ⟨sd,hK35 _ _ ?_⟩
    refine Wp.seqW fun K36 hK36 hW36=>?_
    refine Wp.seqR fun K37 hK37=>?_
    simp only [go_sem,simprocAttr,hw33,hxs_64]
    first | apply hK37 | refine ⟨sd,hK37 _ _ ?_⟩
    refine cM hm (fun hc38 hm=>?_) (fun hc38 hm=>?_)
    ·cases hm
    ·refine Wp.skip ?_
     refine hK36 _ _ ?_
     refine Wp.region fun K39 hK39=>?_
     simp only [go_sem,simprocAttr,hw33,hxs_64]
     first | apply hK39 | refine ⟨sd,hK39 _ _ ?_⟩
     refine hK34 _ _ ?_
     refine Wp.region fun K40 hK40=>?_
     simp only [go_sem,simprocAttr,hw33,hxs_64]
     first | apply hK40 | refine ⟨sd,hK40 _ _ ?_⟩
     simp only [thenQ,blockQ,↓reduceIte]
     refine ⟨IntKind.i64.wrap (n_57+(s_64.length:Int)),hlt33,hnx_61 _ hm,?_⟩
     simp only [go_sem,simprocAttr,hw33,hxs_64]
     try exact se2
   clear hK11 hk_6
   refine qS ?_
   refine cM hm (fun hc42 hm=>?_) (fun hc42 hm=>?_)
   ·refine Wp.seqW fun K43 hK43 hW43=>?_
    obtain ⟨c_65,hm⟩:=chk_elim hm
    refine Wp.seqR fun K44 hK44=>?_
    simp only [go_sem,simprocAttr]
    first | apply hK44 | refine ⟨by first | exact sd | ((repeat' apply And.intro) <;> first | assumption | omega | (simp only [List.length_append,List.length_map,List.length_cons,List.length_nil,List.length_set,List.length_replicate] at c_65 ⊢; omega)),hK44 _ _ ?_⟩
    refine cM hm (fun hc45 hm=>?_) (fun hc45 hm=>?_)
    ·cases hm
    ·refine Wp.skip ?_
     refine hK43 _ _ ?_
     refine qR ?_
     refine hW11 _ _ _ _ ?_ (hcut11 (IntKind.i64.wrap (0+(IntKind.i64.wrap ((sep_2.length:Int) * (IntKind.i64.wrap ((elems_1.length:Int) - 1)))))) hm)
     exact fse2
   ·refine Wp.skip ?_
    refine hW11 _ _ _ _ ?_ (hcut11 0 hm)
    exact fse2
theorem ok_delta_joined (l_1:List api_Piece) (z:List api_Piece) (hm:delta_joined l_1=some z):Does Try.prog 19 [.p (.l (List.map enc_api_Piece l_1))] [] (fun r X=>r=.p (.l (List.map enc_api_Piece z))∧X=[]):=by
 unfold delta_joined at hm
 refine Does.of_wp 0 79 [.tmp 2] Try.func19 rfl (by decide) rfl rfl (Nat.le_of_ble_eq_true rfl) fun B=>?_
 refine qS ?_
 refine qS ?_
 refine Wp.seqW fun K3 hK3 hW3=>?_
 obtain ⟨k_107,hk_107,hm⟩:=jp_elim hm
 have hcut3:∀ s,k_107 s=some z→K3 [(3,.buf 0)] [.buf 42 3 (List.map enc_api_Piece s)]:=by
  intro o0_106 hs
  have hm:=hk_107 _ hs
  clear hs
  try dsimp only at hm
  try dsimp only
  refine hK3 _ _ ?_
  refine qS ?_
  refine Wp.ret ?_
  refine retQ_ret ?_
  cases hm
  exact fse2
 clear hK3 hk_107
 refine qS ?_
 refine Wp.block ?_
 refine Wp.adopt 3 42 3 rfl ?_
 simp only [go_sem,simprocAttr]
 obtain ⟨k_177,hk_177,hm⟩:=loopN_cont hm
 refine Wp.loopN (fun s=>[(0,.p (.l (List.map enc_api_Piece l_1))),(3,.buf 0),(4,.p (.i .i64 s.1))]) (fun s=>[.buf 42 3 (List.map enc_api_Piece s.2)]) ?_ hm ?_
 ·
  exact fse2
 clear hm
 intro s nx_178 hm
 obtain ⟨i_142,o0_143⟩:=s
 try dsimp only at hm
 try dsimp only
 refine Wp.seqW fun K6 hK6 hW6=>?_
 refine qS ?_
 refine cM hm (fun hc8 hm=>?_) (fun hc8 hm=>?_)
 ·refine Wp.skip ?_
  refine hK6 _ _ ?_
  refine Wp.block ?_
  obtain ⟨p_179,hbp_179,hxp_179,hyp_179,hm⟩:=idx_elim hm
  replace hxp_179:∀ d,(List.map enc_api_Piece l_1).getD i_142.toNat d=enc_api_Piece p_179:=hxp_179 enc_api_Piece
  refine Wp.seqR fun K9 hK9=>?_
  simp only [go_sem,simprocAttr,hxp_179]
  first | apply hK9 | refine ⟨sd,hK9 _ _ ?_⟩
  refine Wp.seqR fun K10 hK10=>?_
  simp only [go_sem,simprocAttr,hxp_179]
  first | apply hK10 | refine ⟨sd,hK10 _ _ ?_⟩
  refine Wp.seqW fun K11 hK11 hW11=>?_
  obtain ⟨k_195,hk_195,hm⟩:=jp_elim hm
  have hcut11:∀ s,k_195 s=some z→K11 [(0,.p (.l (List.map enc_api_Piece l_1))),(3,.buf 0),(4,.p (.i .i64 s.1)),(5,.ptr 1 0),(6,.buf 2)] [.buf 42 3 (List.map enc_api_Piece o0_143),.cells 42 [.p (.i .i64 p_179.At),.p (.i .i64 s.2.1),.p (.s p_179.Data)],.buf 9 1 (List.map ecS s.2.2)]:=by
   intro s hs
   have hm:=hk_195 _ hs
   clear hs
   obtain ⟨i_192,o1_1_193,o2_194⟩:=s
   try dsimp only at hm
   try dsimp only
   refine hK11 _ _ ?_
   refine Wp.seqW fun K12 hK12 hW12=>?_
   refine Wp.seqR fun K13 hK13=>?_
   simp only [go_sem,simprocAttr,hxp_179]
   first | apply hK13 | refine ⟨sd,hK13 _ _ ?_⟩
   refine cM hm (fun hc14 hm=>?_) (fun hc14 hm=>?_)
   ·obtain ⟨r_196,hr_196,hm⟩:=call_elim hm
    obtain ⟨c_197,hm⟩:=chk_elim hm
    refine Wp.regD (plan:=pl [(0,none),(1,none),(2,none),(3,none),(4,none),(5,none),(6,some [])]) (by kernel_rfl) rfl (by kernel_rfl) fun K15 hK15=>?_
    simp only [go_sem,simprocAttr,hxp_179]
    try refine ⟨by first | exact sd | ((repeat' apply And.intro) <;> first | assumption | omega | (simp only [List.length_append,List.length_map,List.length_cons,List.length_nil,List.length_set,List.length_replicate] at c_197 ⊢; omega)),?_⟩
    refine Dr.callF (av:=?av16) (g:=true) (o:=?o16) (fun hg=>ok_strings_Join o2_194 [] _ hr_196) (by simp only [go_sem,simprocAttr,hxp_179]; exact Is.mk) (by simp only [go_sem,simprocAttr,hxp_179]; exact Is.mk) (by simp only [go_sem,simprocAttr,hxp_179]; exact Is.mk) (by simp only [go_sem,simprocAttr,hxp_179,List.map_append,List.map_cons,List.map_nil]; exact Is.mk) (by simp only [go_sem,simprocAttr,hxp_179]) (by simp only [go_sem,simprocAttr,hxp_179]; exact Is.mk) ?cont16
    simp only [go_sem,simprocAttr,hxp_179]
    first | apply hK15 | refine ⟨by first | exact sd | ((repeat' apply And.intro) <;> first | assumption | omega | (simp only [List.length_append,List.length_map,List.length_cons,List.length_nil,List.length_set,List.length_replicate] at c_197 ⊢; omega)),hK15 _ _ ?_⟩
    refine hK12 _ _ ?_
    obtain ⟨c_198,hm⟩:=chk_elim hm
    refine Wp.region fun K17 hK17=>?_
    simp only [go_sem,simprocAttr,hxp_179]
    first | apply hK17 | refine ⟨by first | exact sd | ((repeat' apply And.intro) <;> first | assumption | omega | (simp only [List.length_append,List.length_map,List.length_cons,List.length_nil,List.length_set,List.length_replicate] at c_198 ⊢; omega)),hK17 _ _ ?_⟩
    simp only [thenQ,blockQ,↓reduceIte]
    refine ⟨(i_192,o0_143++[(api_Piece.mk p_179.At o1_1_193 (p_179.Data++r_196))]),hm,?_⟩
    simp only [go_sem,simprocAttr,hxp_179]
    try exact se2
   ·refine Wp.skip ?_
    refine hK12 _ _ ?_
    obtain ⟨c_199,hm⟩:=chk_elim hm
    refine Wp.region fun K18 hK18=>?_
    simp only [go_sem,simprocAttr,hxp_179]
    first | apply hK18 | refine ⟨by first | exact sd | ((repeat' apply And.intro) <;> first | assumption | omega | (simp only [List.length_append,List.length_map,List.length_cons,List.length_nil,List.length_set,List.length_replicate] at c_199 ⊢; omega)),hK18 _ _ ?_⟩
    simp only [thenQ,blockQ,↓reduceIte]
    refine ⟨(i_192,o0_143++[(api_Piece.mk p_179.At o1_1_193 p_179.Data)]),hm,?_⟩
    simp only [go_sem,simprocAttr,hxp_179]
    try exact se2
  clear hK11 hk_195
  refine Wp.seqR fun K19 hK19=>?_
  simp only [go_sem,simprocAttr,hxp_179]
  first | apply hK19 | refine ⟨sd,hK19 _ _ ?_⟩
  refine Wp.block ?_
  refine Wp.adopt 6 9 1 rfl ?_
  simp only [go_sem,simprocAttr,hxp_179]
  obtain ⟨k_208,hk_208,hm⟩:=loopN_cont hm
  refine Wp.loopN (fun s=>[(0,.p (.l (List.map enc_api_Piece l_1))),(3,.buf 0),(4,.p (.i .i64 s.1)),(5,.ptr 1 0),(6,.buf 2)]) (fun s=>[.buf 42 3 (List.map enc_api_Piece o0_143),.cells 42 [.p (.i .i64 p_179.At),.p (.i .i64 s.2.1),.p (.s p_179.Data)],.buf 9 1 (List.map ecS s.2.2)]) ?_ hm ?_
  ·
   simp only [go_sem,simprocAttr,hxp_179]
   try exact se2
  clear hm
  intro s nx_209 hm
  obtain ⟨i_203,o1_1_204,o2_205⟩:=s
  try dsimp only at hm
  try dsimp only
  refine Wp.seqW fun K20 hK20 hW20=>?_
  refine Wp.seqR fun K21 hK21=>?_
  simp only [go_sem,simprocAttr,hxp_179]
  first | apply hK21 | refine ⟨sd,hK21 _ _ ?_⟩
  refine cM hm (fun hc22 hm=>?_) (fun hc22 hm=>?_)
  ·refine Wp.skip ?_
   refine hK20 _ _ ?_
   refine Wp.seqW fun K23 hK23 hW23=>?_
   refine Wp.block ?_
   obtain ⟨p_210,hbp_210,hxp_210,hyp_210,hm⟩:=idx_elim hm
   replace hxp_210:∀ d,(List.map enc_api_Piece l_1).getD i_203.toNat d=enc_api_Piece p_210:=hxp_210 enc_api_Piece
   refine Wp.seqR fun K24 hK24=>?_
   simp only [go_sem,simprocAttr,hxp_179,hxp_210]
   first | apply hK24 | refine ⟨sd,hK24 _ _ ?_⟩
   refine Wp.seqR fun K25 hK25=>?_
   simp only [go_sem,simprocAttr,hxp_179,hxp_210]
   first | apply hK25 | refine ⟨sd,hK25 _ _ ?_⟩
   refine cM hm (fun hc26 hm=>?_) (fun hc26 hm=>?_)
   ·refine Wp.region fun K27 hK27=>?_
    simp only [go_sem,simprocAttr,hxp_179,hxp_210]
    first | apply hK27 | refine ⟨sd,hK27 _ _ ?_⟩
    refine hK23 _ _ ?_
    refine Wp.region fun K28 hK28=>?_
    simp only [go_sem,simprocAttr,hxp_179,hxp_210]
    first | apply hK28 | refine ⟨sd,hK28 _ _ ?_⟩
    simp only [thenQ,blockQ,↓reduceIte]
    refine ⟨(IntKind.i64.wrap (i_203+1),IntKind.i64.wrap (o1_1_204+p_210.Long),o2_205),hm,?_⟩
    simp only [go_sem,simprocAttr,hxp_179,hxp_210]
    try exact se2
   ·refine Wp.seqR fun K29 hK29=>?_
    simp only [go_sem,simprocAttr,hxp_179,hxp_210]
    first | apply hK29 | refine ⟨sd,hK29 _ _ ?_⟩
    refine cM hm (fun hc30 hm=>?_) (fun hc30 hm=>?_)
    ·obtain ⟨c_211,hm⟩:=chk_elim hm
     refine Wp.region fun K31 hK31=>?_
     simp only [go_sem,simprocAttr,hxp_179,hxp_210]
     first | apply hK31 | refine ⟨by first | exact sd | ((repeat' apply And.intro) <;> first | assumption | omega | (simp only [List.length_append,List.length_map,List.length_cons,List.length_nil,List.length_set,List.length_replicate] at c_211 ⊢; omega)),hK31 _ _ ?_⟩
     refine hK23 _ _ ?_
     refine Wp.region fun K32 hK32=>?_
     simp only [go_sem,simprocAttr,hxp_179,hxp_210]
     first | apply hK32 | refine ⟨sd,hK32 _ _ ?_⟩
     simp only [thenQ,blockQ,↓reduceIte]
     refine ⟨(IntKind.i64.wrap (i_203+1),o1_1_204,o2_205++[p_210.Data]),hm,?_⟩
     simp only [go_sem,simprocAttr,hxp_179,hxp_210]
     try exact se2
    ·refine Wp.exit ?_
     simp only [thenQ,blockQ,↓reduceIte]
     have hm:=hk_208 _ hm
     try dsimp only at hm
     refine hW11 _ _ _ _ ?_ (hcut11 (i_203,o1_1_204,o2_205) hm)
     simp only [go_sem,simprocAttr,hxp_179,hxp_210]
     try exact se2
  ·refine Wp.exit ?_
   simp only [thenQ,blockQ,↓reduceIte]
   have hm:=hk_208 _ hm
   try dsimp only at hm
   refine hW11 _ _ _ _ ?_ (hcut11 (i_203,o1_1_204,o2_205) hm)
   simp only [go_sem,simprocAttr,hxp_179]
   try exact se2
 ·refine Wp.exit ?_
  simp only [thenQ,blockQ,↓reduceIte]
  have hm:=hk_177 _ hm
  try dsimp only at hm
  refine hW3 _ _ _ _ ?_ (hcut3 o0_143 hm)
  exact fse2
end Go.Proofs.Ytkekfenkeeiigaa
