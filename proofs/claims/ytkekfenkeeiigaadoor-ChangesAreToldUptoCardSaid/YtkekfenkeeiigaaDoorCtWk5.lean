/- That the code does what the models say (part 5). -/
import Derived.Test.YtkekfenkeeiigaaDoorCtWk0
import Derived.Test.YtkekfenkeeiigaaDoorCtWk1
import Derived.Test.YtkekfenkeeiigaaDoorCtWk2
import Derived.Test.YtkekfenkeeiigaaDoorCtWk3
import Derived.Test.YtkekfenkeeiigaaDoorCtWk4
set_option linter.unusedSimpArgs false
set_option linter.unusedVariables false
namespace Go.Proofs.YtkekfenkeeiigaaDoor
open Go.Vc Go.Md
set_option maxRecDepth 100000
set_option maxHeartbeats 4000000
theorem ok_delta_Parse (text_1:Str) (z:api_Delta × Int) (hm:delta_Parse text_1=some z):Does Tryd.prog 26 [.p (.s text_1)] [] (fun r X=>r=.tup [.agg [.p (.i .i64 z.1.Old),.p (.i .i64 z.1.New),.p (.s z.1.OldSum),.p (.s z.1.NewSum),.p (.l (List.map enc_api_Piece z.1.Pieces))],.p (.i .i64 z.2)]∧X=[]):=by
 unfold delta_Parse at hm
 refine Does.of_wp 0 81 [.cell 2 41,.tmp 3] Tryd.func26 rfl (by decide) rfl rfl (Nat.le_of_ble_eq_true rfl) fun B=>?_
 refine qS ?_
 refine Wp.seqW fun K2 hK2 hW2=>?_
 refine qS ?_
 refine cM hm (fun hc4 hm=>?_) (fun hc4 hm=>?_)
 ·refine qS ?_
  refine Wp.ret ?_
  simp only [thenQ,blockQ]
  refine retQ_retE ?_
  cases hm
  exact fse3
 ·refine Wp.skip ?_
  refine hK2 _ _ ?_
  refine qS ?_
  refine Wp.seqW fun K7 hK7 hW7=>?_
  obtain ⟨r_2,hr_2,hm⟩:=call_elim hm
  refine Wp.seqR fun K8 hK8=>?_
  simp only [go_sem,simprocAttr]
  try refine ⟨sd,?_⟩
  refine Rg.callO (av:=?av9) [1] (ok_delta_reader_take_i1 4 text_1 0 false _ hr_2) si si si sg sg ?cont9
  rintro _ _ ⟨rfl,rfl⟩ hv9
  simp only [go_sem,simprocAttr]
  first | apply hK8 | refine ⟨sd,hK8 _ _ ?_⟩
  refine cM hm (fun hc10 hm=>?_) (fun hc10 hm=>?_)
  ·refine qS ?_
   refine Wp.ret ?_
   simp only [thenQ,blockQ]
   refine retQ_retE ?_
   cases hm
   exact fse3
  ·refine Wp.skip ?_
   refine hK7 _ _ ?_
   obtain ⟨r_3,hr_3,hm⟩:=call_elim hm
   obtain ⟨r_4,hr_4,hm⟩:=call_elim hm
   refine Wp.seqR fun K12 hK12=>?_
   simp only [go_sem,simprocAttr]
   try refine ⟨sd,?_⟩
   refine Rg.callO (av:=?av13) [1] (ok_delta_reader_number_i1 text_1 r_2.2.2 r_2.2.1 _ hr_3) si si si sg sg ?cont13
   rintro _ _ ⟨rfl,rfl⟩ hv13
   simp only [go_sem,simprocAttr]
   try refine ⟨sd,?_⟩
   refine Rg.callO (av:=?av14) [1] (ok_delta_reader_number_i1 text_1 r_3.2.1 r_3.2.2 _ hr_4) si si si sg sg ?cont14
   rintro _ _ ⟨rfl,rfl⟩ hv14
   simp only [go_sem,simprocAttr]
   first | apply hK12 | refine ⟨sd,hK12 _ _ ?_⟩
   obtain ⟨r_5,hr_5,hm⟩:=call_elim hm
   obtain ⟨r_6,hr_6,hm⟩:=call_elim hm
   refine Wp.seqR fun K15 hK15=>?_
   simp only [go_sem,simprocAttr]
   try refine ⟨sd,?_⟩
   refine Rg.callO (av:=?av16) [1] (ok_delta_reader_sum_i1 text_1 r_4.2.1 r_4.2.2 _ hr_5) si si si sg sg ?cont16
   rintro _ _ ⟨rfl,rfl⟩ hv16
   simp only [go_sem,simprocAttr]
   try refine ⟨sd,?_⟩
   refine Rg.callO (av:=?av17) [1] (ok_delta_reader_sum_i1 text_1 r_5.2.1 r_5.2.2 _ hr_6) si si si sg sg ?cont17
   rintro _ _ ⟨rfl,rfl⟩ hv17
   simp only [go_sem,simprocAttr]
   first | apply hK15 | refine ⟨sd,hK15 _ _ ?_⟩
   refine Wp.seqW fun K18 hK18 hW18=>?_
   obtain ⟨k_28,hk_28,hm⟩:=jp_elim hm
   have hcut18:∀ s,k_28 s=some z→K18 [(0,.p (.s text_1)),(2,.ptr 0 0),(4,.ptr 1 0),(5,.ptr 2 0)] [.cells 41 [.p (.i .i64 0),.p (.i .i64 0),.p (.s []),.p (.s []),.nils],.cells 107 [.p (.s text_1),.p (.i .i64 s.1),.p (.b s.2.1)],.cells 41 [.p (.i .i64 r_3.1),.p (.i .i64 r_4.1),.p (.s r_5.1),.p (.s r_6.1),.buf 3],.buf 49 3 (List.map enc_api_Piece s.2.2)]:=by
    intro s hs
    have hm:=hk_28 _ hs
    clear hs
    obtain ⟨o1_1_25,o1_2_26,o3_27⟩:=s
    try dsimp only at hm
    try dsimp only
    refine hK18 _ _ ?_
    refine qS ?_
    obtain ⟨r_29,hr_29,hm⟩:=call_elim hm
    refine Wp.seqR fun K20 hK20=>?_
    simp only [go_sem,simprocAttr]
    try refine ⟨sd,?_⟩
    refine Rg.callO (av:=?av21) [1] (ok_delta_reader_sum_i1 text_1 o1_1_25 o1_2_26 _ hr_29) si si si sg sg ?cont21
    rintro _ _ ⟨rfl,rfl⟩ hv21
    simp only [go_sem,simprocAttr]
    first | apply hK20 | refine ⟨sd,hK20 _ _ ?_⟩
    refine Wp.seqW fun K22 hK22 hW22=>?_
    refine qS ?_
    refine cM hm (fun hc24 hm=>?_) (fun hc24 hm=>?_)
    ·refine qS ?_
     refine Wp.ret ?_
     simp only [thenQ,blockQ]
     refine retQ_retE ?_
     cases hm
     exact fse3
    ·refine Wp.skip ?_
     refine hK22 _ _ ?_
     refine Wp.seqW fun K26 hK26 hW26=>?_
     obtain ⟨c_30,hm⟩:=chk_elim hm
     obtain ⟨r_31,hr_31,hm⟩:=call_elim hm
     refine Wp.seqR fun K27 hK27=>?_
     simp only [go_sem,simprocAttr]
     try refine ⟨by first | exact sd | ((repeat' apply And.intro) <;> first | assumption | omega | (simp only [List.length_append,List.length_map,List.length_cons,List.length_nil,List.length_set,List.length_replicate] at c_30 ⊢; omega)),?_⟩
     refine Rg.callX (av:=?av28) (g:=true) (fun hg=>ok_disk_SumOf (List.take o1_1_25.toNat text_1) _ hr_31) si si si sg si ?cont28
     intro hv28
     simp only [go_sem,simprocAttr]
     first | apply hK27 | refine ⟨by first | exact sd | ((repeat' apply And.intro) <;> first | assumption | omega | (simp only [List.length_append,List.length_map,List.length_cons,List.length_nil,List.length_set,List.length_replicate] at c_30 ⊢; omega)),hK27 _ _ ?_⟩
     refine cM hm (fun hc29 hm=>?_) (fun hc29 hm=>?_)
     ·refine qS ?_
      refine Wp.ret ?_
      simp only [thenQ,blockQ]
      refine retQ_retE ?_
      cases hm
      exact fse3
     ·refine Wp.skip ?_
      refine hK26 _ _ ?_
      refine Wp.seqW fun K31 hK31 hW31=>?_
      obtain ⟨r_32,hr_32,hm⟩:=call_elim hm
      refine Wp.seqR fun K32 hK32=>?_
      simp only [go_sem,simprocAttr]
      try refine ⟨sd,?_⟩
      refine Rg.callX (av:=?av33) (g:=true) (fun hg=>ok_delta_Check (api_Delta.mk r_3.1 r_4.1 r_5.1 r_6.1 o3_27) _ hr_32) si si (by simp only [go_sem,simprocAttr,List.map_append,List.map_cons,List.map_nil]; exact Is.mk) sg si ?cont33
      intro hv33
      simp only [go_sem,simprocAttr]
      first | apply hK32 | refine ⟨sd,hK32 _ _ ?_⟩
      refine qS ?_
      refine cM hm (fun hc35 hm=>?_) (fun hc35 hm=>?_)
      ·refine qS ?_
       refine Wp.ret ?_
       simp only [thenQ,blockQ]
       refine retQ_retE ?_
       cases hm
       exact fse3
      ·refine Wp.skip ?_
       refine hK31 _ _ ?_
       refine qS ?_
       refine Wp.ret ?_
       refine retQ_ret ?_
       cases hm
       exact fse3
   clear hK18 hk_28
   obtain ⟨r_33,hr_33,hm⟩:=call_elim hm
   refine Wp.seqR fun K38 hK38=>?_
   simp only [go_sem,simprocAttr]
   try refine ⟨sd,?_⟩
   refine Rg.callO (av:=?av39) [1] (ok_delta_reader_number_i1 text_1 r_6.2.1 r_6.2.2 _ hr_33) si si si sg sg ?cont39
   rintro _ _ ⟨rfl,rfl⟩ hv39
   simp only [go_sem,simprocAttr]
   first | apply hK38 | refine ⟨sd,hK38 _ _ ?_⟩
   refine Wp.block ?_
   refine Wp.adoptO 2 4 49 3 rfl rfl ?_
   simp only [go_sem,simprocAttr]
   obtain ⟨k_46,hk_46,hm⟩:=loopN_cont hm
   refine Wp.loopN (fun s=>[(0,.p (.s text_1)),(2,.ptr 0 0),(4,.ptr 1 0),(5,.ptr 2 0),(32,.p (.i .i64 r_33.1)),(33,.p (.i .i64 s.1))]) (fun s=>[.cells 41 [.p (.i .i64 0),.p (.i .i64 0),.p (.s []),.p (.s []),.nils],.cells 107 [.p (.s text_1),.p (.i .i64 s.2.1),.p (.b s.2.2.1)],.cells 41 [.p (.i .i64 r_3.1),.p (.i .i64 r_4.1),.p (.s r_5.1),.p (.s r_6.1),.buf 3],.buf 49 3 (List.map enc_api_Piece s.2.2.2)]) ?_ hm ?_
   ·
    exact fse3
   clear hm
   intro s nx_47 hm
   obtain ⟨t33_40,o1_1_41,o1_2_42,o3_43⟩:=s
   try dsimp only at hm
   try dsimp only
   refine qS ?_
   refine Wp.seqW fun K41 hK41 hW41=>?_
   refine cM hm (fun hc42 hm=>?_) (fun hc42 hm=>?_)
   ·refine Wp.skip ?_
    refine hK41 _ _ ?_
    refine Wp.seqW fun K43 hK43 hW43=>?_
    refine Wp.block ?_
    refine Wp.seqW fun K44 hK44 hW44=>?_
    refine qS ?_
    refine cM hm (fun hc46 hm=>?_) (fun hc46 hm=>?_)
    ·refine Wp.exit ?_
     simp only [thenQ,blockQ,↓reduceIte]
     have hm:=hk_46 _ hm
     try dsimp only at hm
     refine hW18 _ _ _ _ ?_ (hcut18 (o1_1_41,o1_2_42,o3_43) hm)
     exact fse3
    ·refine Wp.skip ?_
     refine hK44 _ _ ?_
     obtain ⟨r_48,hr_48,hm⟩:=call_elim hm
     obtain ⟨c_49,hm⟩:=chk_elim hm
     refine Wp.regD (plan:=pl [(0,none),(1,none),(2,none),(3,some [0,1]),(4,some [0,1]),(5,some []),(6,none),(7,some [])]) (by kernel_rfl) rfl (by kernel_rfl) fun K47 hK47=>?_
     simp only [go_sem,simprocAttr]
     try refine ⟨by first | exact sd | ((repeat' apply And.intro) <;> first | assumption | omega | (simp only [List.length_append,List.length_map,List.length_cons,List.length_nil,List.length_set,List.length_replicate] at c_49 ⊢; omega)),?_⟩
     refine Dr.of_br (Br.callE (av:=?av48) (o:=?o48) [1] (ok_delta_reader_piece_i1 text_1 o1_1_41 o1_2_42 _ hr_48) si si si si si sg sg sg sg ?cont48)
     simp only [go_sem,simprocAttr]
     first | apply hK47 | refine ⟨by first | exact sd | ((repeat' apply And.intro) <;> first | assumption | omega | (simp only [List.length_append,List.length_map,List.length_cons,List.length_nil,List.length_set,List.length_replicate] at c_49 ⊢; omega)),hK47 _ _ ?_⟩
     refine hK43 _ _ ?_
     refine qR ?_
     simp only [thenQ,blockQ,↓reduceIte]
     refine ⟨(IntKind.i64.wrap (t33_40+1),r_48.2.1,r_48.2.2,o3_43++[r_48.1]),hm,?_⟩
     exact fse3
   ·refine Wp.exit ?_
    simp only [thenQ,blockQ,↓reduceIte]
    have hm:=hk_46 _ hm
    try dsimp only at hm
    refine hW18 _ _ _ _ ?_ (hcut18 (o1_1_41,o1_2_42,o3_43) hm)
    exact fse3
theorem ok_slices_Equal_api_Piece_api_Piece (s1_1:List api_Piece) (s2_2:List api_Piece) (z:Bool) (hm:slices_Equal_api_Piece_api_Piece s1_1 s2_2=some z):Does Tryd.prog 72 [.p (.l (List.map enc_api_Piece s1_1)),.p (.l (List.map enc_api_Piece s2_2))] [] (fun r X=>r=.p (.b z)∧X=[]):=by
 unfold slices_Equal_api_Piece_api_Piece at hm
 refine Does.of_wp 0 26 [.tmp 4] Tryd.func72 rfl (by decide) rfl rfl (Nat.le_of_ble_eq_true rfl) fun B=>?_
 refine qS ?_
 refine Wp.seqW fun K2 hK2 hW2=>?_
 refine qS ?_
 refine cM hm (fun hc4 hm=>?_) (fun hc4 hm=>?_)
 ·refine qS ?_
  refine Wp.ret ?_
  refine retQ_ret ?_
  cases hm
  exact fse3
 ·refine Wp.skip ?_
  refine hK2 _ _ ?_
  refine Wp.seqW fun K6 hK6 hW6=>?_
  obtain ⟨k_12,hk_12,hm⟩:=jp_elim hm
  have hcut6:∀ s,k_12 s=some z→K6 [] []:=by
   intro s hs
   have hm:=hk_12 _ hs
   clear hs
   try dsimp only at hm
   try dsimp only
   refine hK6 _ _ ?_
   refine qS ?_
   refine Wp.ret ?_
   refine retQ_ret ?_
   cases hm
   exact fse3
  clear hK6 hk_12
  refine qS ?_
  refine Wp.block ?_
  obtain ⟨k_16,hk_16,hm⟩:=forL_cont hm
  refine Wp.fact 0 fun hl_19=>?_
  replace hl_19:s1_1.length≤274877906944:=by
   simp only [go_sem,simprocAttr,List.length_map] at hl_19
   omega
  refine Wp.forL (fun i_18 s=>[(0,.p (.l (List.map enc_api_Piece s1_1))),(1,.p (.l (List.map enc_api_Piece s2_2))),(12,.p (.i .i64 (s1_1.length:Int))),(13,.p (.i .i64 (i_18:Int)))]) (fun i_18 s=>[]) ?_ hm ?_
  ·
   exact fse3
  clear hm
  intro i_18 s hii_18 hm
  try dsimp only at hm
  try dsimp only
  refine qS ?_
  refine Wp.seqW fun K10 hK10 hW10=>?_
  refine Wp.cond rfl ⟨⟩ (fun hc10=>?_) (fun hc10=>?_)
  rotate_left
  ·refine Wp.exit ?_
   have hm:=hk_16 _ (forL_end hm (ge_nat (by first | exact hc10 | simpa using hc10)))
   try dsimp only at hm
   refine hW6 _ _ _ _ ?_ (hcut6 () hm)
   exact fse3
  have hlt10:=lt_nat (by first | exact hc10 | simpa using hc10)
  have hw10:=wrap_succ hlt10 hl_19
  obtain ⟨p_20,nx_17,hxp_20,hyp_20,hnx_17,hm⟩:=forL_step hm hlt10
  replace hxp_20:=hxp_20 enc_api_Piece
  refine Wp.skip ?_
  simp only [thenQ]
  refine hK10 _ _ ?_
  refine Wp.seqW fun K11 hK11 hW11=>?_
  refine Wp.block ?_
  refine Wp.seqR fun K12 hK12=>?_
  simp only [go_sem,simprocAttr,hw10,hxp_20]
  first | apply hK12 | refine ⟨sd,hK12 _ _ ?_⟩
  obtain ⟨p_21,hbp_21,hxp_21,hyp_21,hm⟩:=idx_elim hm
  replace hxp_21:∀ d,(List.map enc_api_Piece s2_2).getD i_18 d=enc_api_Piece p_21:=hxp_21 enc_api_Piece
  refine Wp.seqD (plan:=pl [(0,none),(1,none),(2,none),(3,none),(4,none),(5,none),(6,none),(7,none),(8,none)]) (by kernel_rfl) rfl (by kernel_rfl) fun K13 hK13=>?_
  simp only [go_sem,simprocAttr,hw10,hxp_20,hxp_21]
  first | apply hK13 | refine ⟨sd,hK13 _ _ ?_⟩
  refine cM hm (fun hc14 hm=>?_) (fun hc14 hm=>?_)
  ·refine Wp.seqR fun K15 hK15=>?_
   simp only [go_sem,simprocAttr,hw10,hxp_20,hxp_21]
   first | apply hK15 | refine ⟨sd,hK15 _ _ ?_⟩
   refine Wp.ret ?_
   refine retQ_ret ?_
   cases hm
   simp only [go_sem,simprocAttr,hw10,hxp_20,hxp_21]
   try exact se3
  ·refine Wp.skip ?_
   refine hK11 _ _ ?_
   refine Wp.region fun K16 hK16=>?_
   simp only [go_sem,simprocAttr,hw10,hxp_20,hxp_21]
   first | apply hK16 | refine ⟨sd,hK16 _ _ ?_⟩
   simp only [thenQ,blockQ,↓reduceIte]
   refine ⟨(),hlt10,hnx_17 _ hm,?_⟩
   simp only [go_sem,simprocAttr,hw10,hxp_20,hxp_21]
   try exact se3
theorem ok_Law_sameDelta (a_1:api_Delta) (b_2:api_Delta) (z:Bool) (hm:Law_sameDelta a_1 b_2=some z):Does Tryd.prog 27 [.agg [.p (.i .i64 a_1.Old),.p (.i .i64 a_1.New),.p (.s a_1.OldSum),.p (.s a_1.NewSum),.p (.l (List.map enc_api_Piece a_1.Pieces))],.agg [.p (.i .i64 b_2.Old),.p (.i .i64 b_2.New),.p (.s b_2.OldSum),.p (.s b_2.NewSum),.p (.l (List.map enc_api_Piece b_2.Pieces))]] [] (fun r X=>r=.p (.b z)∧X=[]):=by
 unfold Law_sameDelta at hm
 refine Does.of_wp 0 38 [.tmp 4] Tryd.func27 rfl (by decide) rfl rfl (Nat.le_of_ble_eq_true rfl) fun B=>?_
 refine qS ?_
 obtain ⟨r_3,hr_3,hm⟩:=callG_elim hm
 refine Wp.seqR fun K2 hK2=>?_
 simp only [go_sem,simprocAttr]
 try refine ⟨sd,?_⟩
 refine Rg.callX (av:=?av3) (g:=((((decide (a_1.Old=b_2.Old)) && (decide (a_1.New=b_2.New))) && (decide (a_1.OldSum=b_2.OldSum))) && (decide (a_1.NewSum=b_2.NewSum)))) (fun hg=>ok_slices_Equal_api_Piece_api_Piece a_1.Pieces b_2.Pieces _ (hr_3 hg)) si si si sg si ?cont3
 intro hv3
 simp only [go_sem,simprocAttr]
 first | apply hK2 | refine ⟨sd,hK2 _ _ ?_⟩
 refine Wp.ret ?_
 refine retQ_ret ?_
 cases hm
 exact fse3
theorem ok_Law_ChangesAreTold (a_1:Str) (b_2:Str) (at_3:Int) (by_4:Int) (z:Bool) (hm:Law_ChangesAreTold a_1 b_2 at_3 by_4=some z):Does Tryd.prog 5 [.p (.s a_1),.p (.s b_2),.p (.i .i64 at_3),.p (.i .u8 by_4)] [] (fun r X=>r=.p (.b z)∧X=[]):=by
 unfold Law_ChangesAreTold at hm
 refine Does.of_wp 0 128 [.tmp 8] Tryd.func5 rfl (by decide) rfl rfl (Nat.le_of_ble_eq_true rfl) fun B=>?_
 refine qS ?_
 refine Wp.seqW fun K2 hK2 hW2=>?_
 obtain ⟨r_5,hr_5,hm⟩:=call_elim hm
 refine Wp.seqR fun K3 hK3=>?_
 simp only [go_sem,simprocAttr]
 try refine ⟨sd,?_⟩
 refine Rg.callX (av:=?av4) (g:=true) (fun hg=>ok_Law_landed  _ hr_5) si si si sg si ?cont4
 intro hv4
 simp only [go_sem,simprocAttr]
 first | apply hK3 | refine ⟨sd,hK3 _ _ ?_⟩
 refine cM hm (fun hc5 hm=>?_) (fun hc5 hm=>?_)
 ·refine qS ?_
  refine Wp.ret ?_
  refine retQ_ret ?_
  cases hm
  exact fse2
 ·refine Wp.skip ?_
  refine hK2 _ _ ?_
  obtain ⟨r_6,hr_6,hm⟩:=call_elim hm
  obtain ⟨r_7,hr_7,hm⟩:=call_elim hm
  refine Wp.seqR fun K7 hK7=>?_
  simp only [go_sem,simprocAttr]
  try refine ⟨sd,?_⟩
  refine Rg.callX (av:=?av8) (g:=true) (fun hg=>ok_Law_short a_1 _ hr_6) si si si sg si ?cont8
  intro hv8
  simp only [go_sem,simprocAttr]
  try refine ⟨sd,?_⟩
  refine Rg.callX (av:=?av9) (g:=true) (fun hg=>ok_Law_short b_2 _ hr_7) si si si sg si ?cont9
  intro hv9
  simp only [go_sem,simprocAttr]
  first | apply hK7 | refine ⟨sd,hK7 _ _ ?_⟩
  obtain ⟨r_8,hr_8,hm⟩:=call_elim hm
  refine Wp.seqR fun K10 hK10=>?_
  simp only [go_sem,simprocAttr]
  try refine ⟨sd,?_⟩
  refine Rg.callF (av:=?av11) (ok_delta_Make r_6 r_7 _ hr_8) si si sg ?cont11
  intro hv11
  simp only [go_sem,simprocAttr]
  first | apply hK10 | refine ⟨sd,hK10 _ _ ?_⟩
  refine Wp.seqW fun K12 hK12 hW12=>?_
  refine qS ?_
  refine cM hm (fun hc14 hm=>?_) (fun hc14 hm=>?_)
  ·refine qS ?_
   refine Wp.ret ?_
   refine retQ_ret ?_
   cases hm
   exact fse3
  ·refine Wp.skip ?_
   refine hK12 _ _ ?_
   refine qS ?_
   refine Wp.seqW fun K17 hK17 hW17=>?_
   obtain ⟨k_12,hk_12,hm⟩:=jp_elim hm
   have hcut17:∀ s,k_12 s=some z→K17 [(0,.p (.s r_6)),(9,.ptr 2 0),(11,.fn 20 [.ptr 0 0,.ptr 1 0])] [.cells 3 [.p (.i .i64 at_3)],.cells 5 [.p (.i .u8 by_4)],.cells 41 [.p (.i .i64 r_8.1.Old),.p (.i .i64 r_8.1.New),.p (.s r_8.1.OldSum),.p (.s r_8.1.NewSum),.p (.l (List.map enc_api_Piece r_8.1.Pieces))]]:=by
    intro s hs
    have hm:=hk_12 _ hs
    clear hs
    try dsimp only at hm
    try dsimp only
    refine hK17 _ _ ?_
    refine Wp.seqW fun K18 hK18 hW18=>?_
    obtain ⟨c_13,hm⟩:=chk_elim hm
    obtain ⟨r_14,hr_14,hm⟩:=call_elim hm
    refine Wp.seqR fun K19 hK19=>?_
    simp only [go_sem,simprocAttr]
    try refine ⟨by first | exact sd | ((repeat' apply And.intro) <;> first | assumption | omega | (simp only [List.length_append,List.length_map,List.length_cons,List.length_nil,List.length_set,List.length_replicate] at c_13 ⊢; omega)),?_⟩
    refine Rg.callX (av:=?av20) (g:=true) (fun hg=>ok_delta_Apply (r_6++([120]:Str)) r_8.1 _ hr_14) si si si sg si ?cont20
    intro hv20
    simp only [go_sem,simprocAttr]
    first | apply hK19 | refine ⟨by first | exact sd | ((repeat' apply And.intro) <;> first | assumption | omega | (simp only [List.length_append,List.length_map,List.length_cons,List.length_nil,List.length_set,List.length_replicate] at c_13 ⊢; omega)),hK19 _ _ ?_⟩
    refine qS ?_
    refine cM hm (fun hc22 hm=>?_) (fun hc22 hm=>?_)
    ·refine qS ?_
     refine Wp.ret ?_
     refine retQ_ret ?_
     cases hm
     exact fse3
    ·refine Wp.skip ?_
     refine hK18 _ _ ?_
     obtain ⟨r_15,hr_15,hm⟩:=call_elim hm
     refine Wp.seqR fun K24 hK24=>?_
     simp only [go_sem,simprocAttr]
     try refine ⟨sd,?_⟩
     refine Rg.callX (av:=?av25) (g:=true) (fun hg=>ok_slices_IndexFunc_api_Piece_api_Piece_i1 r_8.1.Pieces _ hr_15) si si si sg si ?cont25
     intro hv25
     simp only [go_sem,simprocAttr]
     first | apply hK24 | refine ⟨sd,hK24 _ _ ?_⟩
     refine Wp.seqW fun K26 hK26 hW26=>?_
     obtain ⟨k_26,hk_26,hm⟩:=jp_elim hm
     have hcut26:∀ s,k_26 s=some z→K26 [(9,.ptr 2 0),(11,.fn 20 [.ptr 0 0,.ptr 1 0])] [.cells 3 [.p (.i .i64 at_3)],.cells 5 [.p (.i .u8 by_4)],.cells 41 [.p (.i .i64 r_8.1.Old),.p (.i .i64 r_8.1.New),.p (.s r_8.1.OldSum),.p (.s r_8.1.NewSum),.p (.l (List.map enc_api_Piece r_8.1.Pieces))]]:=by
      intro s hs
      have hm:=hk_26 _ hs
      clear hs
      try dsimp only at hm
      try dsimp only
      refine hK26 _ _ ?_
      obtain ⟨r_27,hr_27,hm⟩:=call_elim hm
      refine Wp.seqR fun K27 hK27=>?_
      simp only [go_sem,simprocAttr]
      try refine ⟨sd,?_⟩
      refine Rg.callX (av:=?av28) (g:=true) (fun hg=>ok_delta_Print r_8.1 _ hr_27) si si si sg si ?cont28
      intro hv28
      simp only [go_sem,simprocAttr]
      first | apply hK27 | refine ⟨sd,hK27 _ _ ?_⟩
      refine Wp.seqW fun K29 hK29 hW29=>?_
      refine qS ?_
      refine cM hm (fun hc31 hm=>?_) (fun hc31 hm=>?_)
      ·refine qS ?_
       refine Wp.ret ?_
       refine retQ_ret ?_
       cases hm
       exact fse3
      ·refine Wp.skip ?_
       refine hK29 _ _ ?_
       obtain ⟨r_28,hr_28,hm⟩:=call_elim hm
       obtain ⟨r_29,hr_29,hm⟩:=call_elim hm
       refine Wp.seqR fun K33 hK33=>?_
       simp only [go_sem,simprocAttr]
       try refine ⟨sd,?_⟩
       refine Rg.callR (av:=?av34) (g:=true) [0,1] (fun hg=>ok_Law_ChangesAreTold_1_i1 r_27.1 at_3 by_4 _ hr_28) si si si si sg sg sg ?cont34
       simp only [go_sem,simprocAttr]
       try refine ⟨sd,?_⟩
       refine Rg.callF (av:=?av35) (ok_delta_Parse r_28 _ hr_29) si si sg ?cont35
       intro hv35
       simp only [go_sem,simprocAttr]
       first | apply hK33 | refine ⟨sd,hK33 _ _ ?_⟩
       obtain ⟨r_30,hr_30,hm⟩:=callG_elim hm
       refine Wp.seqR fun K36 hK36=>?_
       simp only [go_sem,simprocAttr]
       try refine ⟨sd,?_⟩
       refine Rg.callX (av:=?av37) (g:=!decide (r_29.2=0)) (fun hg=>ok_Law_sameDelta r_29.1 (api_Delta.mk 0 0 [] [] []) _ (hr_30 hg)) si si si sg si ?cont37
       intro hv37
       simp only [go_sem,simprocAttr]
       first | apply hK36 | refine ⟨sd,hK36 _ _ ?_⟩
       refine Wp.ret ?_
       refine retQ_ret ?_
       cases hm
       exact fse3
     clear hK26 hk_26
     refine qS ?_
     refine cM hm (fun hc39 hm=>?_) (fun hc39 hm=>?_)
     ·refine qS ?_
      obtain ⟨r_31,hr_31,hm⟩:=call_elim hm
      refine Wp.seqR fun K41 hK41=>?_
      simp only [go_sem,simprocAttr]
      try refine ⟨sd,?_⟩
      refine Rg.callO (av:=?av42) [] (ok_slices_Clone_api_Piece_api_Piece_new r_8.1.Pieces _ hr_31) si si si sg sg ?cont42
      rintro _ _ ⟨rfl,rfl⟩ hv42
      simp only [go_sem,simprocAttr]
      first | apply hK41 | refine ⟨sd,hK41 _ _ ?_⟩
      obtain ⟨c_32,hm⟩:=chk_elim hm
      obtain ⟨r_33,hr_33,hm⟩:=call_elim hm
      obtain ⟨c_34,hm⟩:=chk_elim hm
      obtain ⟨v_35,hv_36,hm⟩:=letv_elim hm
      have hv_36m:=congrArg (List.map enc_api_Piece) hv_36
      try simp only [List.map_append,List.map_cons,List.map_nil,List.map_set,List.map_replicate,enc_api_Piece] at hv_36m
      have hr_37:=fun h=>getD_encB (l:=r_31) (e:=enc_api_Piece) (d:=(api_Piece.mk 0 0 [])) (i:=r_15.toNat) h []
      refine Wp.seqD (plan:=pl [(0,none),(1,none),(2,none),(3,none),(4,none),(5,none),(6,none),(7,none),(8,none),(9,none),(10,some [0,1,2]),(11,none),(12,none),(13,some [])]) (by kernel_rfl) rfl (by kernel_rfl) fun K43 hK43=>?_
      simp only [go_sem,simprocAttr,hv_36,hv_36m,hr_37 (by omega)]
      try refine ⟨by first | exact sd | ((repeat' apply And.intro) <;> first | assumption | omega | (simp only [List.length_append,List.length_map,List.length_cons,List.length_nil,List.length_set,List.length_replicate] at c_32 c_34 ⊢; omega)),?_⟩
      refine Dr.of_br (Br.callR (av:=?av44) (g:=true) (o:=?o44) [0,1] (fun hg=>ok_Law_ChangesAreTold_1_i1 ((r_31.getD r_15.toNat (api_Piece.mk 0 0 [])).Data) at_3 by_4 _ hr_33) (by simp only [go_sem,simprocAttr,hv_36,hv_36m,hr_37 (by omega)]; exact Is.mk) (by simp only [go_sem,simprocAttr,hv_36,hv_36m,hr_37 (by omega)]; exact Is.mk) (by simp only [go_sem,simprocAttr,hv_36,hv_36m,hr_37 (by omega)]; exact Is.mk) (by simp only [go_sem,simprocAttr,hv_36,hv_36m,hr_37 (by omega)]; exact Is.mk) (by simp only [go_sem,simprocAttr,hv_36,hv_36m,hr_37 (by omega)]; exact Is.mk) (by simp only [go_sem,simprocAttr,hv_36,hv_36m,hr_37 (by omega)]) (by simp only [go_sem,simprocAttr,hv_36,hv_36m,hr_37 (by omega)]) (by simp only [go_sem,simprocAttr,hv_36,hv_36m,hr_37 (by omega)]) (by simp only [go_sem,simprocAttr,hv_36,hv_36m,hr_37 (by omega)]) ?cont44)
      simp only [go_sem,simprocAttr,hv_36,hv_36m,hr_37 (by omega)]
      first | apply hK43 | refine ⟨by first | exact sd | ((repeat' apply And.intro) <;> first | assumption | omega | (simp only [List.length_append,List.length_map,List.length_cons,List.length_nil,List.length_set,List.length_replicate] at c_32 c_34 ⊢; omega)),hK43 _ _ ?_⟩
      obtain ⟨r_38,hr_38,hm⟩:=call_elim hm
      refine Wp.seqR fun K45 hK45=>?_
      simp only [go_sem,simprocAttr,hv_36,hv_36m]
      try refine ⟨sd,?_⟩
      refine Rg.callX (av:=?av46) (g:=true) (fun hg=>ok_delta_Apply r_6 (api_Delta.mk r_8.1.Old r_8.1.New r_8.1.OldSum r_8.1.NewSum v_35) _ hr_38) (by simp only [go_sem,simprocAttr,hv_36,hv_36m]; exact Is.mk) (by simp only [go_sem,simprocAttr,hv_36,hv_36m]; exact Is.mk) (by simp only [go_sem,simprocAttr,hv_36,hv_36m,List.map_append,List.map_cons,List.map_nil]; exact Is.mk) (by simp only [go_sem,simprocAttr,hv_36,hv_36m]) (by simp only [go_sem,simprocAttr,hv_36,hv_36m]; exact Is.mk) ?cont46
      intro hv46
      simp only [go_sem,simprocAttr,hv_36,hv_36m]
      first | apply hK45 | refine ⟨sd,hK45 _ _ ?_⟩
      refine Wp.seqR fun K47 hK47=>?_
      simp only [go_sem,simprocAttr,hv_36,hv_36m]
      first | apply hK47 | refine ⟨sd,hK47 _ _ ?_⟩
      refine cM hm (fun hc48 hm=>?_) (fun hc48 hm=>?_)
      ·refine Wp.seqR fun K49 hK49=>?_
       simp only [go_sem,simprocAttr,hv_36,hv_36m]
       first | apply hK49 | refine ⟨sd,hK49 _ _ ?_⟩
       refine Wp.ret ?_
       refine retQ_ret ?_
       cases hm
       simp only [go_sem,simprocAttr,hv_36,hv_36m]
       try exact se3
      ·refine Wp.skip ?_
       refine hW26 _ _ _ _ ?_ (hcut26 () hm)
       simp only [go_sem,simprocAttr,hv_36,hv_36m]
       try exact se3
     ·refine Wp.skip ?_
      refine hW26 _ _ _ _ ?_ (hcut26 () hm)
      exact fse3
   clear hK17 hk_12
   refine qS ?_
   refine cM hm (fun hc51 hm=>?_) (fun hc51 hm=>?_)
   ·obtain ⟨r_39,hr_39,hm⟩:=call_elim hm
    obtain ⟨r_40,hr_40,hm⟩:=call_elim hm
    refine Wp.seqD (plan:=pl [(0,none),(1,none),(3,none),(2,some [3]),(4,none),(5,none),(6,none),(7,none),(8,none),(9,none)]) (by kernel_rfl) rfl (by kernel_rfl) fun K52 hK52=>?_
    simp only [go_sem,simprocAttr]
    try refine ⟨sd,?_⟩
    refine Dr.of_br (Br.callR (av:=?av53) (g:=true) (o:=?o53) [0,1] (fun hg=>ok_Law_ChangesAreTold_1_i1 r_6 at_3 by_4 _ hr_39) si si si si si sg sg sg sg ?cont53)
    simp only [go_sem,simprocAttr]
    try refine ⟨sd,?_⟩
    refine Dr.callF (av:=?av54) (g:=true) (o:=?o54) (fun hg=>ok_delta_Apply r_39 r_8.1 _ hr_40) si si si si sg si ?cont54
    simp only [go_sem,simprocAttr]
    first | apply hK52 | refine ⟨sd,hK52 _ _ ?_⟩
    refine qS ?_
    refine cM hm (fun hc56 hm=>?_) (fun hc56 hm=>?_)
    ·refine qS ?_
     refine Wp.ret ?_
     refine retQ_ret ?_
     cases hm
     exact fse3
    ·refine Wp.skip ?_
     refine hW17 _ _ _ _ ?_ (hcut17 () hm)
     exact fse3
   ·refine Wp.skip ?_
    refine hW17 _ _ _ _ ?_ (hcut17 () hm)
    exact fse3
end Go.Proofs.YtkekfenkeeiigaaDoor
