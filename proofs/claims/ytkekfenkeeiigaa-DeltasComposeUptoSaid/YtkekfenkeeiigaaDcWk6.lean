/- That the code does what the models say (part 6). -/
import Derived.Test.YtkekfenkeeiigaaDcWk0
import Derived.Test.YtkekfenkeeiigaaDcWk1
import Derived.Test.YtkekfenkeeiigaaDcWk3
import Derived.Test.YtkekfenkeeiigaaDcWk4
import Derived.Test.YtkekfenkeeiigaaDcWk5
set_option linter.unusedSimpArgs false
set_option linter.unusedVariables false
open Go.Proofs Go.Shelf
namespace Go.Proofs.Ytkekfenkeeiigaa
open Go.Vc Go.Md
set_option maxRecDepth 100000
set_option maxHeartbeats 4000000
theorem ok_delta_Apply (a_1:Str) (d_2:api_Delta) (z:Str × Int) (hm:delta_Apply a_1 d_2=some z):Does Try.prog 11 [.p (.s a_1),.agg [.p (.i .i64 d_2.Old),.p (.i .i64 d_2.New),.p (.s d_2.OldSum),.p (.s d_2.NewSum),.p (.l (List.map enc_api_Piece d_2.Pieces))]] [] (fun r X=>r=.tup [.p (.s z.1),.p (.i .i64 z.2)]∧X=[]):=by
 unfold delta_Apply at hm
 refine Does.of_wp 0 57 [.tmp 4,.tmp 5] Try.func11 rfl (by decide) rfl rfl (Nat.le_of_ble_eq_true rfl) fun B=>?_
 refine qS ?_
 refine Wp.seqW fun K2 hK2 hW2=>?_
 obtain ⟨r_3,hr_3,hm⟩:=call_elim hm
 refine Wp.seqR fun K3 hK3=>?_
 simp only [go_sem,simprocAttr]
 try refine ⟨sd,?_⟩
 refine Rg.callX (av:=?av4) (g:=true) (fun hg=>ok_delta_Check d_2 _ hr_3) si si si sg si ?cont4
 intro hv4
 simp only [go_sem,simprocAttr]
 first | apply hK3 | refine ⟨sd,hK3 _ _ ?_⟩
 refine qS ?_
 refine cM hm (fun hc6 hm=>?_) (fun hc6 hm=>?_)
 ·refine qS ?_
  refine Wp.ret ?_
  refine retQ_ret ?_
  cases hm
  exact fse3
 ·refine Wp.skip ?_
  refine hK2 _ _ ?_
  refine Wp.seqW fun K8 hK8 hW8=>?_
  obtain ⟨r_4,hr_4,hm⟩:=callG_elim hm
  refine Wp.seqD (plan:=pl [(0,none),(1,none),(2,none),(3,none),(4,none),(5,none),(6,none),(7,none),(8,none),(9,none),(10,none),(11,none)]) (by kernel_rfl) rfl (by kernel_rfl) fun K9 hK9=>?_
  simp only [go_sem,simprocAttr]
  try refine ⟨sd,?_⟩
  refine Dr.callF (av:=?av10) (g:=!(!decide ((a_1.length:Int)=d_2.Old))) (o:=?o10) (fun hg=>ok_disk_SumOf a_1 _ (hr_4 hg)) si si si si sg si ?cont10
  simp only [go_sem,simprocAttr]
  first | apply hK9 | refine ⟨sd,hK9 _ _ ?_⟩
  refine cM hm (fun hc11 hm=>?_) (fun hc11 hm=>?_)
  ·refine qS ?_
   refine Wp.ret ?_
   refine retQ_ret ?_
   cases hm
   exact fse3
  ·refine Wp.skip ?_
   refine hK8 _ _ ?_
   refine qS ?_
   refine Wp.adoptB 1 5 rfl ?_
   simp only [go_sem,simprocAttr]
   refine Wp.seqW fun K14 hK14 hW14=>?_
   obtain ⟨k_25,hk_25,hm⟩:=jp_elim hm
   have hcut14:∀ s,k_25 s=some z→K14 [(3,.ptr 0 0),(7,.ptr 1 0)] [.cells 24 [.p (.i .i64 d_2.Old),.p (.i .i64 d_2.New),.p (.s d_2.OldSum),.p (.s d_2.NewSum),.p (.l (List.map enc_api_Piece d_2.Pieces))],.cells 58 [.np 1,.buf 2],.sb 5 s]:=by
    intro o2_24 hs
    have hm:=hk_25 _ hs
    clear hs
    try dsimp only at hm
    try dsimp only
    refine hK14 _ _ ?_
    refine Wp.seqW fun K15 hK15 hW15=>?_
    obtain ⟨r_27,hr_27,hm⟩:=call_elim hm
    obtain ⟨r_28,hr_28,hm⟩:=call_elim hm
    refine Wp.seqD (plan:=pl [(2,none),(3,none),(0,some [2,3]),(1,none),(4,none)]) (by kernel_rfl) rfl (by kernel_rfl) fun K16 hK16=>?_
    simp only [go_sem,simprocAttr]
    try refine ⟨sd,?_⟩
    refine Dr.of_br (Br.callS (av:=?av17) (o:=?o17) 2 [1,2] (ok_strings_Builder_String_i1 o2_24 _ hr_27) si si si si si sg sg sg sg ?cont17)
    simp only [go_sem,simprocAttr]
    try refine ⟨sd,?_⟩
    refine Dr.callF (av:=?av18) (g:=true) (o:=?o18) (fun hg=>ok_disk_SumOf r_27 _ hr_28) si si si si sg si ?cont18
    simp only [go_sem,simprocAttr]
    first | apply hK16 | refine ⟨sd,hK16 _ _ ?_⟩
    refine cM hm (fun hc19 hm=>?_) (fun hc19 hm=>?_)
    ·refine qS ?_
     refine Wp.ret ?_
     refine retQ_ret ?_
     cases hm
     exact fse3
    ·refine Wp.skip ?_
     refine hK15 _ _ ?_
     obtain ⟨r_29,hr_29,hm⟩:=call_elim hm
     refine Wp.seqR fun K21 hK21=>?_
     simp only [go_sem,simprocAttr]
     try refine ⟨sd,?_⟩
     refine Rg.callO (av:=?av22) [1,2] (ok_strings_Builder_String_i1 o2_24 _ hr_29) si si si sg sg ?cont22
     rintro _ _ ⟨rfl,rfl⟩ hv22
     simp only [go_sem,simprocAttr]
     first | apply hK21 | refine ⟨sd,hK21 _ _ ?_⟩
     refine Wp.ret ?_
     refine retQ_ret ?_
     cases hm
     exact fse3
   clear hK14 hk_25
   refine qS ?_
   refine Wp.block ?_
   obtain ⟨k_41,hk_41,hm⟩:=forL_cont hm
   refine Wp.fact 28 fun hl_44=>?_
   replace hl_44:d_2.Pieces.length≤274877906944:=by
    simp only [go_sem,simprocAttr,List.length_map] at hl_44
    omega
   refine Wp.forL (fun i_43 s=>[(0,.p (.s a_1)),(3,.ptr 0 0),(7,.ptr 1 0),(28,.p (.l (List.map enc_api_Piece d_2.Pieces))),(29,.p (.i .i64 (d_2.Pieces.length:Int))),(30,.p (.i .i64 (i_43:Int)))]) (fun i_43 s=>[.cells 24 [.p (.i .i64 d_2.Old),.p (.i .i64 d_2.New),.p (.s d_2.OldSum),.p (.s d_2.NewSum),.p (.l (List.map enc_api_Piece d_2.Pieces))],.cells 58 [.np 1,.buf 2],.sb 5 s]) ?_ hm ?_
   ·
    exact fse3
   clear hm
   intro i_43 o2_36 hii_43 hm
   try dsimp only at hm
   try dsimp only
   refine qS ?_
   refine Wp.seqW fun K25 hK25 hW25=>?_
   refine Wp.cond rfl ⟨⟩ (fun hc25=>?_) (fun hc25=>?_)
   rotate_left
   ·refine Wp.exit ?_
    have hm:=hk_41 _ (forL_end hm (ge_nat (by first | exact hc25 | simpa using hc25)))
    try dsimp only at hm
    refine hW14 _ _ _ _ ?_ (hcut14 o2_36 hm)
    exact fse3
   have hlt25:=lt_nat (by first | exact hc25 | simpa using hc25)
   have hw25:=wrap_succ hlt25 hl_44
   obtain ⟨p_45,nx_42,hxp_45,hyp_45,hnx_42,hm⟩:=forL_step hm hlt25
   replace hxp_45:=hxp_45 enc_api_Piece
   refine Wp.skip ?_
   simp only [thenQ]
   refine hK25 _ _ ?_
   refine Wp.seqW fun K26 hK26 hW26=>?_
   refine Wp.block ?_
   refine Wp.seqR fun K27 hK27=>?_
   simp only [go_sem,simprocAttr,hw25,hxp_45]
   first | apply hK27 | refine ⟨sd,hK27 _ _ ?_⟩
   refine Wp.seqR fun K28 hK28=>?_
   simp only [go_sem,simprocAttr,hw25,hxp_45]
   first | apply hK28 | refine ⟨sd,hK28 _ _ ?_⟩
   refine cM hm (fun hc29 hm=>?_) (fun hc29 hm=>?_)
   ·obtain ⟨r_46,hr_46,hm⟩:=call_elim hm
    refine Wp.region fun K30 hK30=>?_
    simp only [go_sem,simprocAttr,hw25,hxp_45]
    try refine ⟨sd,?_⟩
    refine Rg.callO (av:=?av31) [1,2] (ok_strings_Builder_WriteString_i1 p_45.Data o2_36 _ hr_46) (by simp only [go_sem,simprocAttr,hw25,hxp_45]; exact Is.mk) (by simp only [go_sem,simprocAttr,hw25,hxp_45]; exact Is.mk) (by simp only [go_sem,simprocAttr,hw25,hxp_45]; exact Is.mk) (by simp only [go_sem,simprocAttr,hw25,hxp_45]) (by simp only [go_sem,simprocAttr,hw25,hxp_45]) ?cont31
    rintro _ _ ⟨rfl,rfl⟩ hv31
    simp only [go_sem,simprocAttr,hw25,hxp_45]
    first | apply hK30 | refine ⟨sd,hK30 _ _ ?_⟩
    refine hK26 _ _ ?_
    refine Wp.region fun K32 hK32=>?_
    simp only [go_sem,simprocAttr,hw25,hxp_45]
    first | apply hK32 | refine ⟨sd,hK32 _ _ ?_⟩
    simp only [thenQ,blockQ,↓reduceIte]
    refine ⟨r_46.2,hlt25,hnx_42 _ hm,?_⟩
    simp only [go_sem,simprocAttr,hw25,hxp_45]
    try exact se3
   ·obtain ⟨c_47,hm⟩:=chk_elim hm
    obtain ⟨r_48,hr_48,hm⟩:=call_elim hm
    refine Wp.region fun K33 hK33=>?_
    simp only [go_sem,simprocAttr,hw25,hxp_45]
    try refine ⟨by first | exact sd | ((repeat' apply And.intro) <;> first | assumption | omega | (simp only [List.length_append,List.length_map,List.length_cons,List.length_nil,List.length_set,List.length_replicate] at c_47 ⊢; omega)),?_⟩
    refine Rg.callO (av:=?av34) [1,2] (ok_strings_Builder_WriteString_i1 (List.take ((IntKind.i64.wrap (p_45.At+p_45.Long)).toNat - p_45.At.toNat) (List.drop p_45.At.toNat a_1)) o2_36 _ hr_48) (by simp only [go_sem,simprocAttr,hw25,hxp_45]; exact Is.mk) (by simp only [go_sem,simprocAttr,hw25,hxp_45]; exact Is.mk) (by simp only [go_sem,simprocAttr,hw25,hxp_45]; exact Is.mk) (by simp only [go_sem,simprocAttr,hw25,hxp_45]) (by simp only [go_sem,simprocAttr,hw25,hxp_45]) ?cont34
    rintro _ _ ⟨rfl,rfl⟩ hv34
    simp only [go_sem,simprocAttr,hw25,hxp_45]
    first | apply hK33 | refine ⟨by first | exact sd | ((repeat' apply And.intro) <;> first | assumption | omega | (simp only [List.length_append,List.length_map,List.length_cons,List.length_nil,List.length_set,List.length_replicate] at c_47 ⊢; omega)),hK33 _ _ ?_⟩
    refine hK26 _ _ ?_
    refine Wp.region fun K35 hK35=>?_
    simp only [go_sem,simprocAttr,hw25,hxp_45]
    first | apply hK35 | refine ⟨sd,hK35 _ _ ?_⟩
    simp only [thenQ,blockQ,↓reduceIte]
    refine ⟨r_48.2,hlt25,hnx_42 _ hm,?_⟩
    simp only [go_sem,simprocAttr,hw25,hxp_45]
    try exact se3
theorem ok_Law_DeltasCompose (a_1:Str) (b_2:Str) (c_3:Str) (other_4:api_Delta) (mixed_5:Bool) (z:Bool) (hm:Law_DeltasCompose a_1 b_2 c_3 other_4 mixed_5=some z):Does Try.prog 3 [.p (.s a_1),.p (.s b_2),.p (.s c_3),.agg [.p (.i .i64 other_4.Old),.p (.i .i64 other_4.New),.p (.s other_4.OldSum),.p (.s other_4.NewSum),.p (.l (List.map enc_api_Piece other_4.Pieces))],.p (.b mixed_5)] [] (fun r X=>r=.p (.b z)∧X=[]):=by
 unfold Law_DeltasCompose at hm
 refine Does.of_wp 0 99 [.tmp 10] Try.func3 rfl (by decide) rfl rfl (Nat.le_of_ble_eq_true rfl) fun B=>?_
 refine qS ?_
 refine Wp.seqW fun K2 hK2 hW2=>?_
 obtain ⟨r_6,hr_6,hm⟩:=call_elim hm
 refine Wp.seqR fun K3 hK3=>?_
 simp only [go_sem,simprocAttr]
 try refine ⟨sd,?_⟩
 refine Rg.callX (av:=?av4) (g:=true) (fun hg=>ok_Law_landed  _ hr_6) si si si sg si ?cont4
 intro hv4
 simp only [go_sem,simprocAttr]
 first | apply hK3 | refine ⟨sd,hK3 _ _ ?_⟩
 refine cM hm (fun hc5 hm=>?_) (fun hc5 hm=>?_)
 ·refine qS ?_
  refine Wp.ret ?_
  refine retQ_ret ?_
  cases hm
  exact fse2
 ·refine Wp.skip ?_
  refine hK2 _ _ ?_
  obtain ⟨r_7,hr_7,hm⟩:=call_elim hm
  obtain ⟨r_8,hr_8,hm⟩:=call_elim hm
  obtain ⟨r_9,hr_9,hm⟩:=call_elim hm
  refine Wp.seqR fun K7 hK7=>?_
  simp only [go_sem,simprocAttr]
  try refine ⟨sd,?_⟩
  refine Rg.callX (av:=?av8) (g:=true) (fun hg=>ok_Law_short a_1 _ hr_7) si si si sg si ?cont8
  intro hv8
  simp only [go_sem,simprocAttr]
  try refine ⟨sd,?_⟩
  refine Rg.callX (av:=?av9) (g:=true) (fun hg=>ok_Law_short b_2 _ hr_8) si si si sg si ?cont9
  intro hv9
  simp only [go_sem,simprocAttr]
  try refine ⟨sd,?_⟩
  refine Rg.callX (av:=?av10) (g:=true) (fun hg=>ok_Law_short c_3 _ hr_9) si si si sg si ?cont10
  intro hv10
  simp only [go_sem,simprocAttr]
  first | apply hK7 | refine ⟨sd,hK7 _ _ ?_⟩
  obtain ⟨r_10,hr_10,hm⟩:=call_elim hm
  refine Wp.seqR fun K11 hK11=>?_
  simp only [go_sem,simprocAttr]
  try refine ⟨sd,?_⟩
  refine Rg.callF (av:=?av12) (ok_delta_Make r_7 r_8 _ hr_10) si si sg ?cont12
  intro hv12
  simp only [go_sem,simprocAttr]
  first | apply hK11 | refine ⟨sd,hK11 _ _ ?_⟩
  obtain ⟨r_11,hr_11,hm⟩:=call_elim hm
  refine Wp.seqR fun K13 hK13=>?_
  simp only [go_sem,simprocAttr]
  try refine ⟨sd,?_⟩
  refine Rg.callF (av:=?av14) (ok_delta_Make r_8 r_9 _ hr_11) si si sg ?cont14
  intro hv14
  simp only [go_sem,simprocAttr]
  first | apply hK13 | refine ⟨sd,hK13 _ _ ?_⟩
  refine Wp.seqW fun K15 hK15 hW15=>?_
  refine qS ?_
  refine cM hm (fun hc17 hm=>?_) (fun hc17 hm=>?_)
  ·refine qS ?_
   refine Wp.ret ?_
   refine retQ_ret ?_
   cases hm
   exact fse2
  ·refine Wp.skip ?_
   refine hK15 _ _ ?_
   refine Wp.seqW fun K19 hK19 hW19=>?_
   obtain ⟨k_17,hk_17,hm⟩:=jp_elim hm
   have hcut19:∀ s,k_17 s=some z→K19 [(0,.p (.s r_7)),(2,.p (.s r_9)),(4,.p (.b mixed_5)),(11,.ptr 1 0),(13,.ptr 2 0)] [.cells 24 [.top,.top,.top,.top,.top],.cells 24 [.p (.i .i64 r_10.1.Old),.p (.i .i64 r_10.1.New),.p (.s r_10.1.OldSum),.p (.s r_10.1.NewSum),.p (.l (List.map enc_api_Piece r_10.1.Pieces))],.cells 24 [.p (.i .i64 s.1),.p (.i .i64 s.2.1),.p (.s s.2.2.1),.p (.s s.2.2.2.1),.p (.l (List.map enc_api_Piece s.2.2.2.2))]]:=by
    intro s hs
    have hm:=hk_17 _ hs
    clear hs
    obtain ⟨o2_0_12,o2_1_13,o2_2_14,o2_3_15,o2_4_16⟩:=s
    try dsimp only at hm
    try dsimp only
    refine hK19 _ _ ?_
    obtain ⟨r_18,hr_18,hm⟩:=call_elim hm
    refine Wp.seqR fun K20 hK20=>?_
    simp only [go_sem,simprocAttr]
    try refine ⟨sd,?_⟩
    refine Rg.callF (av:=?av21) (ok_delta_Compose r_10.1 (api_Delta.mk o2_0_12 o2_1_13 o2_2_14 o2_3_15 o2_4_16) _ hr_18) si si sg ?cont21
    intro hv21
    simp only [go_sem,simprocAttr]
    first | apply hK20 | refine ⟨sd,hK20 _ _ ?_⟩
    refine Wp.seqW fun K22 hK22 hW22=>?_
    obtain ⟨r_19,hr_19,hm⟩:=call_elim hm
    refine Wp.seqR fun K23 hK23=>?_
    simp only [go_sem,simprocAttr]
    try refine ⟨sd,?_⟩
    refine Rg.callX (av:=?av24) (g:=true) (fun hg=>ok_R_DeltaError (api_Delta.mk o2_0_12 o2_1_13 o2_2_14 o2_3_15 o2_4_16) _ hr_19) si si si sg si ?cont24
    intro hv24
    simp only [go_sem,simprocAttr]
    first | apply hK23 | refine ⟨sd,hK23 _ _ ?_⟩
    refine qS ?_
    refine cM hm (fun hc26 hm=>?_) (fun hc26 hm=>?_)
    ·obtain ⟨r_20,hr_20,hm⟩:=callG_elim hm
     refine Wp.seqR fun K27 hK27=>?_
     simp only [go_sem,simprocAttr]
     try refine ⟨sd,?_⟩
     refine Rg.callX (av:=?av28) (g:=decide (r_18.2=r_19)) (fun hg=>ok_Law_sameDelta r_18.1 (api_Delta.mk 0 0 [] [] []) _ (hr_20 hg)) si si si sg si ?cont28
     intro hv28
     simp only [go_sem,simprocAttr]
     first | apply hK27 | refine ⟨sd,hK27 _ _ ?_⟩
     refine Wp.ret ?_
     refine retQ_ret ?_
     cases hm
     exact fse2
    ·refine Wp.skip ?_
     refine hK22 _ _ ?_
     obtain ⟨r_21,hr_21,hm⟩:=call_elim hm
     refine Wp.seqR fun K29 hK29=>?_
     simp only [go_sem,simprocAttr]
     try refine ⟨sd,?_⟩
     refine Rg.callF (av:=?av30) (ok_R_Composed r_10.1 (api_Delta.mk o2_0_12 o2_1_13 o2_2_14 o2_3_15 o2_4_16) _ hr_21) si si sg ?cont30
     intro hv30
     simp only [go_sem,simprocAttr]
     first | apply hK29 | refine ⟨sd,hK29 _ _ ?_⟩
     refine Wp.seqW fun K31 hK31 hW31=>?_
     obtain ⟨r_22,hr_22,hm⟩:=callG_elim hm
     refine Wp.seqR fun K32 hK32=>?_
     simp only [go_sem,simprocAttr]
     try refine ⟨sd,?_⟩
     refine Rg.callX (av:=?av33) (g:=!(!decide (r_18.2=r_21.2))) (fun hg=>ok_Law_sameDelta r_18.1 r_21.1 _ (hr_22 hg)) si si si sg si ?cont33
     intro hv33
     simp only [go_sem,simprocAttr]
     first | apply hK32 | refine ⟨sd,hK32 _ _ ?_⟩
     refine cM hm (fun hc34 hm=>?_) (fun hc34 hm=>?_)
     ·refine qS ?_
      refine Wp.ret ?_
      refine retQ_ret ?_
      cases hm
      exact fse3
     ·refine Wp.skip ?_
      refine hK31 _ _ ?_
      refine Wp.seqW fun K36 hK36 hW36=>?_
      refine qS ?_
      refine cM hm (fun hc38 hm=>?_) (fun hc38 hm=>?_)
      ·refine qS ?_
       refine Wp.ret ?_
       refine retQ_ret ?_
       cases hm
       exact fse3
      ·refine Wp.skip ?_
       refine hK36 _ _ ?_
       obtain ⟨r_23,hr_23,hm⟩:=call_elim hm
       refine Wp.seqR fun K40 hK40=>?_
       simp only [go_sem,simprocAttr]
       try refine ⟨sd,?_⟩
       refine Rg.callX (av:=?av41) (g:=true) (fun hg=>ok_delta_Apply r_7 r_18.1 _ hr_23) si si si sg si ?cont41
       intro hv41
       simp only [go_sem,simprocAttr]
       first | apply hK40 | refine ⟨sd,hK40 _ _ ?_⟩
       refine qS ?_
       refine Wp.ret ?_
       refine retQ_ret ?_
       cases hm
       exact fse3
   clear hK19 hk_17
   refine qS ?_
   refine cM hm (fun hc44 hm=>?_) (fun hc44 hm=>?_)
   ·refine qR ?_
    refine hW19 _ _ _ _ ?_ (hcut19 (other_4.Old,other_4.New,other_4.OldSum,other_4.NewSum,other_4.Pieces) hm)
    exact fse3
   ·refine Wp.skip ?_
    refine hW19 _ _ _ _ ?_ (hcut19 (r_11.1.Old,r_11.1.New,r_11.1.OldSum,r_11.1.NewSum,r_11.1.Pieces) hm)
    exact fse3
end Go.Proofs.Ytkekfenkeeiigaa
