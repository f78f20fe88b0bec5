/- That the code does what the models say (part 5). -/
import Derived.Test.YtbofknpajcdnmaaGreatDoorJmWk0
import Derived.Test.YtbofknpajcdnmaaGreatDoorJmWk1
import Derived.Test.YtbofknpajcdnmaaGreatDoorJmWk2
import Derived.Test.YtbofknpajcdnmaaGreatDoorJmWk3
import Derived.Test.YtbofknpajcdnmaaGreatDoorJmWk4
set_option linter.unusedSimpArgs false
set_option linter.unusedVariables false
open Go.Proofs Go.Shelf
namespace Go.Proofs.YtbofknpajcdnmaaGreatDoor
open Go.Vc Go.Md
set_option maxRecDepth 100000
set_option maxHeartbeats 4000000
theorem ok_stage_PrintJournal (j_1:api_Journal) (z:Str × Int) (hm:stage_PrintJournal j_1=some z):Does Tryz.prog 38 [.agg [.p (.s j_1.Id),.p (.l (List.map enc_api_Change j_1.Changes)),.p (.l (List.map enc_api_Change j_1.Old))]] [] (fun r X=>r=.tup [.p (.s z.1),.p (.i .i64 z.2)]∧X=[]):=by
 unfold stage_PrintJournal at hm
 refine Does.of_wp 0 62 [.tmp 2,.tmp 3] Tryz.func38 rfl (by decide) rfl rfl (Nat.le_of_ble_eq_true rfl) fun B=>?_
 refine qS ?_
 refine Wp.seqW fun K2 hK2 hW2=>?_
 obtain ⟨r_2,hr_2,hm⟩:=call_elim hm
 refine Wp.seqR fun K3 hK3=>?_
 simp only [go_sem,simprocAttr]
 try refine ⟨sd,?_⟩
 refine Rg.callX (av:=?av4) (g:=true) (fun hg=>ok_ver_IsName j_1.Id _ hr_2) si si si sg si ?cont4
 intro hv4
 simp only [go_sem,simprocAttr]
 first | apply hK3 | refine ⟨sd,hK3 _ _ ?_⟩
 refine cM hm (fun hc5 hm=>?_) (fun hc5 hm=>?_)
 ·refine qS ?_
  refine Wp.ret ?_
  refine retQ_ret ?_
  cases hm
  exact fse3
 ·refine Wp.skip ?_
  refine hK2 _ _ ?_
  obtain ⟨c_3,hm⟩:=chk_elim hm
  obtain ⟨c_4,hm⟩:=chk_elim hm
  refine Wp.seqR fun K7 hK7=>?_
  simp only [go_sem,simprocAttr]
  first | apply hK7 | refine ⟨by first | exact sd | ((repeat' apply And.intro) <;> first | assumption | omega | (simp only [List.length_append,List.length_map,List.length_cons,List.length_nil,List.length_set,List.length_replicate] at c_3 c_4 ⊢; omega)),hK7 _ _ ?_⟩
  refine Wp.seqW fun K8 hK8 hW8=>?_
  obtain ⟨k_28,hk_28,hm⟩:=jp_elim hm
  have hcut8:∀ s,k_28 s=some z→K8 [(4,.p (.s s))] []:=by
   intro s_27 hs
   have hm:=hk_28 _ hs
   clear hs
   try dsimp only at hm
   try dsimp only
   refine hK8 _ _ ?_
   obtain ⟨r_29,hr_29,hm⟩:=call_elim hm
   obtain ⟨c_30,hm⟩:=chk_elim hm
   obtain ⟨c_31,hm⟩:=chk_elim hm
   obtain ⟨c_32,hm⟩:=chk_elim hm
   refine Wp.seqR fun K9 hK9=>?_
   simp only [go_sem,simprocAttr]
   try refine ⟨by first | exact sd | ((repeat' apply And.intro) <;> first | assumption | omega | (simp only [List.length_append,List.length_map,List.length_cons,List.length_nil,List.length_set,List.length_replicate] at c_30 c_31 c_32 ⊢; omega)),?_⟩
   refine Rg.callX (av:=?av10) (g:=true) (fun hg=>ok_disk_SumOf s_27 _ hr_29) si si si sg si ?cont10
   intro hv10
   simp only [go_sem,simprocAttr]
   first | apply hK9 | refine ⟨by first | exact sd | ((repeat' apply And.intro) <;> first | assumption | omega | (simp only [List.length_append,List.length_map,List.length_cons,List.length_nil,List.length_set,List.length_replicate] at c_30 c_31 c_32 ⊢; omega)),hK9 _ _ ?_⟩
   refine Wp.seqW fun K11 hK11 hW11=>?_
   refine qS ?_
   refine cM hm (fun hc13 hm=>?_) (fun hc13 hm=>?_)
   ·refine qS ?_
    refine Wp.ret ?_
    refine retQ_ret ?_
    cases hm
    exact fse4
   ·refine Wp.skip ?_
    refine hK11 _ _ ?_
    refine qS ?_
    refine Wp.ret ?_
    refine retQ_ret ?_
    cases hm
    exact fse4
  clear hK8 hk_28
  refine qS ?_
  refine Wp.block ?_
  obtain ⟨k_43,hk_43,hm⟩:=forL_cont hm
  refine Wp.fact 23 fun hl_46=>?_
  replace hl_46:[(S_word_l.mk ([99,104,97,110,103,101,115]:Str) j_1.Changes),(S_word_l.mk ([111,108,100]:Str) j_1.Old)].length≤274877906944:=Nat.le_of_ble_eq_true rfl
  refine Wp.forL (fun i_45 s=>[(4,.p (.s s)),(23,.full (List.map enc_S_word_l [(S_word_l.mk ([99,104,97,110,103,101,115]:Str) j_1.Changes),(S_word_l.mk ([111,108,100]:Str) j_1.Old)])),(24,.p (.i .i64 ([(S_word_l.mk ([99,104,97,110,103,101,115]:Str) j_1.Changes),(S_word_l.mk ([111,108,100]:Str) j_1.Old)].length:Int))),(25,.p (.i .i64 (i_45:Int)))]) (fun i_45 s=>[.cells 69 [.p (.s j_1.Id),.p (.l (List.map enc_api_Change j_1.Changes)),.p (.l (List.map enc_api_Change j_1.Old))]]) ?_ hm ?_
  ·
   exact fse4
  clear hm
  intro i_45 s_33 hii_45 hm
  try dsimp only at hm
  try dsimp only
  refine qS ?_
  refine Wp.seqW fun K18 hK18 hW18=>?_
  refine Wp.cond rfl ⟨⟩ (fun hc18=>?_) (fun hc18=>?_)
  rotate_left
  ·refine Wp.exit ?_
   have hm:=hk_43 _ (forL_end hm (ge_nat (by first | exact hc18 | simpa using hc18)))
   try dsimp only at hm
   refine hW8 _ _ _ _ ?_ (hcut8 s_33 hm)
   exact fse4
  have hlt18:=lt_nat (by first | exact hc18 | simpa using hc18)
  have hw18:=wrap_succ hlt18 hl_46
  obtain ⟨x_47,nx_44,hxx_47,hyx_47,hnx_44,hm⟩:=forL_step hm hlt18
  replace hxx_47:=hxx_47 enc_S_word_l
  simp only [List.map_cons,List.map_nil,enc_S_word_l] at hxx_47
  refine Wp.skip ?_
  simp only [thenQ]
  refine hK18 _ _ ?_
  refine Wp.seqW fun K19 hK19 hW19=>?_
  refine Wp.block ?_
  refine Wp.seqR fun K20 hK20=>?_
  simp only [go_sem,simprocAttr,hw18,hxx_47]
  first | apply hK20 | refine ⟨sd,hK20 _ _ ?_⟩
  obtain ⟨r_48,hr_48,hm⟩:=call_elim hm
  refine Wp.seqR fun K21 hK21=>?_
  simp only [go_sem,simprocAttr,hw18,hxx_47]
  try refine ⟨sd,?_⟩
  refine Rg.callX (av:=?av22) (g:=true) (fun hg=>ok_disk_PrintChanges x_47.l _ hr_48) (by simp only [go_sem,simprocAttr,hw18,hxx_47]; exact Is.mk) (by simp only [go_sem,simprocAttr,hw18,hxx_47]; exact Is.mk) (by simp only [go_sem,simprocAttr,hw18,hxx_47]; exact Is.mk) (by simp only [go_sem,simprocAttr,hw18,hxx_47]) (by simp only [go_sem,simprocAttr,hw18,hxx_47]; exact Is.mk) ?cont22
  intro hv22
  simp only [go_sem,simprocAttr,hw18,hxx_47]
  first | apply hK21 | refine ⟨sd,hK21 _ _ ?_⟩
  refine Wp.seqW fun K23 hK23 hW23=>?_
  refine Wp.seqR fun K24 hK24=>?_
  simp only [go_sem,simprocAttr,hw18,hxx_47]
  first | apply hK24 | refine ⟨sd,hK24 _ _ ?_⟩
  refine cM hm (fun hc25 hm=>?_) (fun hc25 hm=>?_)
  ·refine Wp.seqR fun K26 hK26=>?_
   simp only [go_sem,simprocAttr,hw18,hxx_47]
   first | apply hK26 | refine ⟨sd,hK26 _ _ ?_⟩
   refine Wp.ret ?_
   refine retQ_ret ?_
   cases hm
   simp only [go_sem,simprocAttr,hw18,hxx_47]
   try exact se4
  ·refine Wp.skip ?_
   refine hK23 _ _ ?_
   obtain ⟨c_49,hm⟩:=chk_elim hm
   obtain ⟨r_50,hr_50,hm⟩:=call_elim hm
   obtain ⟨c_51,hm⟩:=chk_elim hm
   obtain ⟨c_52,hm⟩:=chk_elim hm
   obtain ⟨c_53,hm⟩:=chk_elim hm
   obtain ⟨c_54,hm⟩:=chk_elim hm
   refine Wp.regD (plan:=pl [(0,none),(1,none),(2,none),(3,none),(4,none),(5,none),(6,none),(7,none),(8,none),(9,none),(10,none),(11,none),(12,none),(13,none)]) (by kernel_rfl) rfl (by kernel_rfl) fun K27 hK27=>?_
   simp only [go_sem,simprocAttr,hw18,hxx_47]
   try refine ⟨by first | exact sd | ((repeat' apply And.intro) <;> first | assumption | omega | (simp only [List.length_append,List.length_map,List.length_cons,List.length_nil,List.length_set,List.length_replicate] at c_49 c_51 c_52 c_53 c_54 ⊢; omega)),?_⟩
   refine Dr.callF (av:=?av28) (g:=true) (o:=?o28) (fun hg=>ok_strconv_Itoa (x_47.l.length:Int) _ hr_50) (by simp only [go_sem,simprocAttr,hw18,hxx_47]; exact Is.mk) (by simp only [go_sem,simprocAttr,hw18,hxx_47]; exact Is.mk) (by simp only [go_sem,simprocAttr,hw18,hxx_47]; exact Is.mk) (by simp only [go_sem,simprocAttr,hw18,hxx_47]; exact Is.mk) (by simp only [go_sem,simprocAttr,hw18,hxx_47]) (by simp only [go_sem,simprocAttr,hw18,hxx_47]; exact Is.mk) ?cont28
   simp only [go_sem,simprocAttr,hw18,hxx_47]
   first | apply hK27 | refine ⟨by first | exact sd | ((repeat' apply And.intro) <;> first | assumption | omega | (simp only [List.length_append,List.length_map,List.length_cons,List.length_nil,List.length_set,List.length_replicate] at c_49 c_51 c_52 c_53 c_54 ⊢; omega)),hK27 _ _ ?_⟩
   refine hK19 _ _ ?_
   refine Wp.region fun K29 hK29=>?_
   simp only [go_sem,simprocAttr,hw18,hxx_47]
   first | apply hK29 | refine ⟨sd,hK29 _ _ ?_⟩
   simp only [thenQ,blockQ,↓reduceIte]
   refine ⟨s_33++((((x_47.word++([32]:Str))++r_50)++([10]:Str))++r_48.1),hlt18,hnx_44 _ hm,?_⟩
   simp only [go_sem,simprocAttr,hw18,hxx_47]
   try exact se4
theorem ok_R_cutLines (text_1:Str) (z:List Str × Int) (hm:R_cutLines text_1=some z):Does Tryz.prog 114 [.p (.s text_1)] [] (fun r X=>r=.tup [.p (.l (List.map ecS z.1)),.p (.i .i64 z.2)]∧X=[]):=by
 unfold R_cutLines at hm
 refine Does.of_wp 0 23 [.tmp 2,.tmp 3] Tryz.func114 rfl (by decide) rfl rfl (Nat.le_of_ble_eq_true rfl) fun B=>?_
 refine qS ?_
 obtain ⟨r_2,hr_2,hm⟩:=call_elim hm
 refine Wp.seqR fun K2 hK2=>?_
 simp only [go_sem,simprocAttr]
 try refine ⟨sd,?_⟩
 refine Rg.callF (av:=?av3) (ok_strings_Split text_1 ([10]:Str) _ hr_2) si si sg ?cont3
 intro hv3
 simp only [go_sem,simprocAttr]
 first | apply hK2 | refine ⟨sd,hK2 _ _ ?_⟩
 refine Wp.seqW fun K4 hK4 hW4=>?_
 refine qS ?_
 obtain ⟨s_3,hbs_3,hxs_3,hys_3,hm⟩:=idx_elim hm
 replace hxs_3:∀ d,(List.map ecS r_2).getD ((IntKind.i64.wrap ((r_2.length:Int) - 1)).toNat) d=ecS s_3:=hxs_3 ecS
 refine Wp.seqR fun K6 hK6=>?_
 simp only [go_sem,simprocAttr,hxs_3]
 first | apply hK6 | refine ⟨sd,hK6 _ _ ?_⟩
 refine cM hm (fun hc7 hm=>?_) (fun hc7 hm=>?_)
 ·obtain ⟨c_4,hm⟩:=chk_elim hm
  refine Wp.seqR fun K8 hK8=>?_
  simp only [go_sem,simprocAttr,hxs_3]
  first | apply hK8 | refine ⟨by first | exact sd | ((repeat' apply And.intro) <;> first | assumption | omega | (simp only [List.length_append,List.length_map,List.length_cons,List.length_nil,List.length_set,List.length_replicate] at c_4 ⊢; omega)),hK8 _ _ ?_⟩
  refine Wp.ret ?_
  refine retQ_ret ?_
  cases hm
  simp only [go_sem,simprocAttr,hxs_3]
  try exact se4
 ·refine Wp.skip ?_
  refine hK4 _ _ ?_
  refine Wp.seqR fun K9 hK9=>?_
  simp only [go_sem,simprocAttr,hxs_3]
  first | apply hK9 | refine ⟨sd,hK9 _ _ ?_⟩
  refine Wp.ret ?_
  refine retQ_ret ?_
  cases hm
  simp only [go_sem,simprocAttr,hxs_3]
  try exact se4
theorem ok_R_ParseJournal_1 (e_1:Int) (z:api_Journal × Int) (hm:R_ParseJournal_1 e_1=some z):Does Tryz.prog 113 [.p (.i .i64 e_1)] [] (fun r X=>r=.tup [.agg [.p (.s z.1.Id),.p (.l (List.map enc_api_Change z.1.Changes)),.p (.l (List.map enc_api_Change z.1.Old))],.p (.i .i64 z.2)]∧X=[]):=by
 unfold R_ParseJournal_1 at hm
 refine Does.of_wp 0 6 [.cell 2 69,.tmp 3] Tryz.func113 rfl (by decide) rfl rfl (Nat.le_of_ble_eq_true rfl) fun B=>?_
 refine qS ?_
 refine qS ?_
 refine Wp.ret ?_
 refine retQ_retE ?_
 cases hm
 exact fse4
theorem ok_R_Quote (s_1:Str) (z:Str) (hm:R_Quote s_1=some z):Does Tryz.prog 177 [.p (.s s_1)] [] (fun r X=>r=.p (.s z)∧X=[]):=by
 unfold R_Quote at hm
 refine Does.of_wp 0 67 [.tmp 2] Tryz.func177 rfl (by decide) rfl rfl (Nat.le_of_ble_eq_true rfl) fun B=>?_
 refine qS ?_
 refine qS ?_
 refine Wp.seqW fun K3 hK3 hW3=>?_
 obtain ⟨k_33,hk_33,hm⟩:=jp_elim hm
 have hcut3:∀ s,k_33 s=some z→K3 [(3,.p (.s s))] []:=by
  intro out_32 hs
  have hm:=hk_33 _ hs
  clear hs
  try dsimp only at hm
  try dsimp only
  refine hK3 _ _ ?_
  obtain ⟨c_34,hm⟩:=chk_elim hm
  refine Wp.seqR fun K4 hK4=>?_
  simp only [go_sem,simprocAttr]
  first | apply hK4 | refine ⟨by first | exact sd | ((repeat' apply And.intro) <;> first | assumption | omega | (simp only [List.length_append,List.length_map,List.length_cons,List.length_nil,List.length_set,List.length_replicate] at c_34 ⊢; omega)),hK4 _ _ ?_⟩
  refine Wp.ret ?_
  refine retQ_ret ?_
  cases hm
  exact fse4
 clear hK3 hk_33
 refine qS ?_
 refine Wp.block ?_
 obtain ⟨k_49,hk_49,hm⟩:=forL_cont hm
 refine Wp.fact 0 fun hl_52=>?_
 replace hl_52:s_1.length≤274877906944:=by
  simp only [go_sem,simprocAttr,List.length_map] at hl_52
  omega
 refine Wp.forL (fun i_51 s=>[(0,.p (.s s_1)),(3,.p (.s s)),(7,.p (.i .i64 (s_1.length:Int))),(8,.p (.i .i64 (i_51:Int)))]) (fun i_51 s=>[]) ?_ hm ?_
 ·
  exact fse4
 clear hm
 intro i_51 out_35 hii_51 hm
 try dsimp only at hm
 try dsimp only
 refine qS ?_
 refine Wp.seqW fun K7 hK7 hW7=>?_
 refine Wp.cond rfl ⟨⟩ (fun hc7=>?_) (fun hc7=>?_)
 rotate_left
 ·refine Wp.exit ?_
  have hm:=hk_49 _ (forL_end hm (ge_nat (by first | exact hc7 | simpa using hc7)))
  try dsimp only at hm
  refine hW3 _ _ _ _ ?_ (hcut3 out_35 hm)
  exact fse4
 have hlt7:=lt_nat (by first | exact hc7 | simpa using hc7)
 have hw7:=wrap_succ hlt7 hl_52
 obtain ⟨c_53,nx_50,hxc_53,hyc_53,hnx_50,hm⟩:=forL_step hm hlt7
 clear hxc_53
 refine Wp.skip ?_
 simp only [thenQ]
 refine hK7 _ _ ?_
 refine Wp.seqW fun K8 hK8 hW8=>?_
 refine Wp.block ?_
 refine Wp.seqR fun K9 hK9=>?_
 simp only [go_sem,simprocAttr,hw7,hyc_53]
 first | apply hK9 | refine ⟨sd,hK9 _ _ ?_⟩
 refine Wp.seqR fun K10 hK10=>?_
 simp only [go_sem,simprocAttr,hw7,hyc_53]
 first | apply hK10 | refine ⟨sd,hK10 _ _ ?_⟩
 refine Wp.block ?_
 refine Wp.seqR fun K11 hK11=>?_
 simp only [go_sem,simprocAttr,hw7,hyc_53]
 first | apply hK11 | refine ⟨sd,hK11 _ _ ?_⟩
 refine cM hm (fun hc12 hm=>?_) (fun hc12 hm=>?_)
 ·obtain ⟨c_54,hm⟩:=chk_elim hm
  obtain ⟨c_55,hm⟩:=chk_elim hm
  obtain ⟨c_56,hm⟩:=chk_elim hm
  refine Wp.region fun K13 hK13=>?_
  simp only [go_sem,simprocAttr,hw7,hyc_53]
  first | apply hK13 | refine ⟨by first | exact sd | ((repeat' apply And.intro) <;> first | assumption | omega | (simp only [List.length_append,List.length_map,List.length_cons,List.length_nil,List.length_set,List.length_replicate] at c_54 c_55 c_56 ⊢; omega)),hK13 _ _ ?_⟩
  refine hK8 _ _ ?_
  refine Wp.region fun K14 hK14=>?_
  simp only [go_sem,simprocAttr,hw7,hyc_53]
  first | apply hK14 | refine ⟨sd,hK14 _ _ ?_⟩
  simp only [thenQ,blockQ,↓reduceIte]
  refine ⟨out_35++(([92]:Str)++(List.take ((IntKind.i64.wrap ((i_51:Int)+1)).toNat - i_51) (List.drop i_51 s_1))),hlt7,hnx_50 _ hm,?_⟩
  simp only [go_sem,simprocAttr,hw7,hyc_53]
  try exact se4
 ·refine Wp.seqR fun K15 hK15=>?_
  simp only [go_sem,simprocAttr,hw7,hyc_53]
  first | apply hK15 | refine ⟨sd,hK15 _ _ ?_⟩
  refine cM hm (fun hc16 hm=>?_) (fun hc16 hm=>?_)
  ·obtain ⟨c_57,hm⟩:=chk_elim hm
   refine Wp.region fun K17 hK17=>?_
   simp only [go_sem,simprocAttr,hw7,hyc_53]
   first | apply hK17 | refine ⟨by first | exact sd | ((repeat' apply And.intro) <;> first | assumption | omega | (simp only [List.length_append,List.length_map,List.length_cons,List.length_nil,List.length_set,List.length_replicate] at c_57 ⊢; omega)),hK17 _ _ ?_⟩
   refine hK8 _ _ ?_
   refine Wp.region fun K18 hK18=>?_
   simp only [go_sem,simprocAttr,hw7,hyc_53]
   first | apply hK18 | refine ⟨sd,hK18 _ _ ?_⟩
   simp only [thenQ,blockQ,↓reduceIte]
   refine ⟨out_35++([92,110]:Str),hlt7,hnx_50 _ hm,?_⟩
   simp only [go_sem,simprocAttr,hw7,hyc_53]
   try exact se4
  ·refine Wp.seqR fun K19 hK19=>?_
   simp only [go_sem,simprocAttr,hw7,hyc_53]
   first | apply hK19 | refine ⟨sd,hK19 _ _ ?_⟩
   refine cM hm (fun hc20 hm=>?_) (fun hc20 hm=>?_)
   ·obtain ⟨c_58,hm⟩:=chk_elim hm
    obtain ⟨c_59,hm⟩:=chk_elim hm
    obtain ⟨c_60,hm⟩:=chk_elim hm
    obtain ⟨c_61,hm⟩:=chk_elim hm
    obtain ⟨c_62,hm⟩:=chk_elim hm
    refine Wp.regD (plan:=pl [(0,none),(1,none),(2,none),(3,none),(4,none),(5,none),(6,none),(7,none),(8,none),(9,none),(10,none),(11,none),(12,none),(13,none),(14,none),(15,none),(16,none)]) (by kernel_rfl) rfl (by kernel_rfl) fun K21 hK21=>?_
    simp only [go_sem,simprocAttr,hw7,hyc_53]
    first | apply hK21 | refine ⟨by first | exact sd | ((repeat' apply And.intro) <;> first | assumption | omega | (simp only [List.length_append,List.length_map,List.length_cons,List.length_nil,List.length_set,List.length_replicate] at c_58 c_59 c_60 c_61 c_62 ⊢; omega)),hK21 _ _ ?_⟩
    refine hK8 _ _ ?_
    refine Wp.region fun K22 hK22=>?_
    simp only [go_sem,simprocAttr,hw7,hyc_53]
    first | apply hK22 | refine ⟨sd,hK22 _ _ ?_⟩
    simp only [thenQ,blockQ,↓reduceIte]
    refine ⟨out_35++((([92,120]:Str)++(List.take ((IntKind.u8.wrap ((Int.fdiv (c_53.toNat:Int) (2 ^ (shI .u8 4)))+1)).toNat - (Int.fdiv (c_53.toNat:Int) (2 ^ (shI .u8 4))).toNat) (List.drop ((Int.fdiv (c_53.toNat:Int) (2 ^ (shI .u8 4))).toNat) ([48,49,50,51,52,53,54,55,56,57,97,98,99,100,101,102]:Str))))++(List.take ((IntKind.u8.wrap ((bitsI .and .u8 (c_53.toNat:Int) 15)+1)).toNat - (bitsI .and .u8 (c_53.toNat:Int) 15).toNat) (List.drop ((bitsI .and .u8 (c_53.toNat:Int) 15).toNat) ([48,49,50,51,52,53,54,55,56,57,97,98,99,100,101,102]:Str)))),hlt7,hnx_50 _ hm,?_⟩
    simp only [go_sem,simprocAttr,hw7,hyc_53]
    try exact se4
   ·obtain ⟨c_63,hm⟩:=chk_elim hm
    obtain ⟨c_64,hm⟩:=chk_elim hm
    refine Wp.region fun K23 hK23=>?_
    simp only [go_sem,simprocAttr,hw7,hyc_53]
    first | apply hK23 | refine ⟨by first | exact sd | ((repeat' apply And.intro) <;> first | assumption | omega | (simp only [List.length_append,List.length_map,List.length_cons,List.length_nil,List.length_set,List.length_replicate] at c_63 c_64 ⊢; omega)),hK23 _ _ ?_⟩
    refine hK8 _ _ ?_
    refine Wp.region fun K24 hK24=>?_
    simp only [go_sem,simprocAttr,hw7,hyc_53]
    first | apply hK24 | refine ⟨sd,hK24 _ _ ?_⟩
    simp only [thenQ,blockQ,↓reduceIte]
    refine ⟨out_35++(List.take ((IntKind.i64.wrap ((i_51:Int)+1)).toNat - i_51) (List.drop i_51 s_1)),hlt7,hnx_50 _ hm,?_⟩
    simp only [go_sem,simprocAttr,hw7,hyc_53]
    try exact se4
theorem ok_R_Unquote (s_1:Str) (z:Str × Int) (hm:R_Unquote s_1=some z):Does Tryz.prog 244 [.p (.s s_1)] [] (fun r X=>r=.tup [.p (.s z.1),.p (.i .i64 z.2)]∧X=[]):=by
 unfold R_Unquote at hm
 refine Does.of_wp 0 107 [.tmp 2,.tmp 3] Tryz.func244 rfl (by decide) rfl rfl (Nat.le_of_ble_eq_true rfl) fun B=>?_
 refine qS ?_
 refine Wp.seqW fun K2 hK2 hW2=>?_
 obtain ⟨c_2,hm⟩:=chk_elim hm
 obtain ⟨c_3,hm⟩:=chk_elim hm
 refine Wp.seqR fun K3 hK3=>?_
 simp only [go_sem,simprocAttr]
 first | apply hK3 | refine ⟨by first | exact sd | ((repeat' apply And.intro) <;> first | assumption | omega | (simp only [List.length_append,List.length_map,List.length_cons,List.length_nil,List.length_set,List.length_replicate] at c_2 c_3 ⊢; omega)),hK3 _ _ ?_⟩
 refine cM hm (fun hc4 hm=>?_) (fun hc4 hm=>?_)
 ·refine qS ?_
  refine Wp.ret ?_
  refine retQ_ret ?_
  cases hm
  exact fse4
 ·refine Wp.skip ?_
  refine hK2 _ _ ?_
  refine qS ?_
  refine Wp.seqW fun K7 hK7 hW7=>?_
  obtain ⟨k_65,hk_65,hm⟩:=jp_elim hm
  have hcut7:∀ s,k_65 s=some z→K7 [(0,.p (.s s_1)),(4,.buf 0)] [.buf 5 1 (List.map ecI_u8 s)]:=by
   intro o0_64 hs
   have hm:=hk_65 _ hs
   clear hs
   try dsimp only at hm
   try dsimp only
   refine hK7 _ _ ?_
   refine Wp.seqW fun K8 hK8 hW8=>?_
   obtain ⟨r_66,hr_66,hm⟩:=call_elim hm
   refine Wp.seqR fun K9 hK9=>?_
   simp only [go_sem,simprocAttr]
   try refine ⟨sd,?_⟩
   refine Rg.callX (av:=?av10) (g:=true) (fun hg=>ok_R_Quote (Go.Vc.strOf o0_64) _ hr_66) si si si sg si ?cont10
   intro hv10
   simp only [go_sem,simprocAttr]
   first | apply hK9 | refine ⟨sd,hK9 _ _ ?_⟩
   refine cM hm (fun hc11 hm=>?_) (fun hc11 hm=>?_)
   ·refine qS ?_
    refine Wp.ret ?_
    refine retQ_ret ?_
    cases hm
    exact fse4
   ·refine Wp.skip ?_
    refine hK8 _ _ ?_
    refine qS ?_
    refine Wp.ret ?_
    refine retQ_ret ?_
    cases hm
    exact fse4
  clear hK7 hk_65
  obtain ⟨c_67,hm⟩:=chk_elim hm
  refine Wp.seqR fun K14 hK14=>?_
  simp only [go_sem,simprocAttr]
  first | apply hK14 | refine ⟨by first | exact sd | ((repeat' apply And.intro) <;> first | assumption | omega | (simp only [List.length_append,List.length_map,List.length_cons,List.length_nil,List.length_set,List.length_replicate] at c_67 ⊢; omega)),hK14 _ _ ?_⟩
  refine Wp.block ?_
  refine Wp.adoptF 4 5 1 rfl ?_
  simp only [go_sem,simprocAttr]
  obtain ⟨k_107,hk_107,hm⟩:=loopN_cont hm
  refine Wp.loopN (fun s=>[(0,.p (.s s_1)),(4,.buf 0),(5,.p (.s s.1))]) (fun s=>[.buf 5 1 (List.map ecI_u8 s.2)]) ?_ hm ?_
  ·
   exact fse4
  clear hm
  intro s nx_108 hm
  obtain ⟨b_87,o0_88⟩:=s
  try dsimp only at hm
  try dsimp only
  refine Wp.seqW fun K15 hK15 hW15=>?_
  refine qS ?_
  refine cM hm (fun hc17 hm=>?_) (fun hc17 hm=>?_)
  ·refine Wp.skip ?_
   refine hK15 _ _ ?_
   refine Wp.block ?_
   refine Wp.seqW fun K18 hK18 hW18=>?_
   obtain ⟨c_109,hbc_109,hxc_109,hm⟩:=idxS_elim hm
   replace hxc_109:((b_87.getD 0 0).toNat:Int)=c_109:=hxc_109
   refine Wp.seqR fun K19 hK19=>?_
   simp only [go_sem,simprocAttr,hxc_109]
   first | apply hK19 | refine ⟨sd,hK19 _ _ ?_⟩
   refine cM hm (fun hc20 hm=>?_) (fun hc20 hm=>?_)
   ·obtain ⟨c_110,hm⟩:=chk_elim hm
    refine Wp.seqR fun K21 hK21=>?_
    simp only [go_sem,simprocAttr,hxc_109]
    first | apply hK21 | refine ⟨by first | exact sd | ((repeat' apply And.intro) <;> first | assumption | omega | (simp only [List.length_append,List.length_map,List.length_cons,List.length_nil,List.length_set,List.length_replicate] at c_110 ⊢; omega)),hK21 _ _ ?_⟩
    obtain ⟨c_111,hm⟩:=chk_elim hm
    refine Wp.seqR fun K22 hK22=>?_
    simp only [go_sem,simprocAttr,hxc_109]
    first | apply hK22 | refine ⟨by first | exact sd | ((repeat' apply And.intro) <;> first | assumption | omega | (simp only [List.length_append,List.length_map,List.length_cons,List.length_nil,List.length_set,List.length_replicate] at c_111 ⊢; omega)),hK22 _ _ ?_⟩
    refine Wp.exit ?_
    simp only [thenQ,blockQ,↓reduceIte]
    refine ⟨(List.drop 1 b_87,o0_88++[c_109]),hm,?_⟩
    simp only [go_sem,simprocAttr,hxc_109]
    try exact se4
   ·refine Wp.skip ?_
    refine hK18 _ _ ?_
    refine Wp.block ?_
    obtain ⟨c_112,hm⟩:=chk_elim hm
    obtain ⟨c_113,hm⟩:=chk_elim hm
    refine Wp.seqR fun K23 hK23=>?_
    simp only [go_sem,simprocAttr,hxc_109]
    first | apply hK23 | refine ⟨by first | exact sd | ((repeat' apply And.intro) <;> first | assumption | omega | (simp only [List.length_append,List.length_map,List.length_cons,List.length_nil,List.length_set,List.length_replicate] at c_112 c_113 ⊢; omega)),hK23 _ _ ?_⟩
    refine cM hm (fun hc24 hm=>?_) (fun hc24 hm=>?_)
    ·obtain ⟨c_114,hbc_114,hxc_114,hm⟩:=idxS_elim hm
     replace hxc_114:((b_87.getD 1 0).toNat:Int)=c_114:=hxc_114
     obtain ⟨c_115,hm⟩:=chk_elim hm
     refine Wp.seqR fun K25 hK25=>?_
     simp only [go_sem,simprocAttr,hxc_109,hxc_114]
     first | apply hK25 | refine ⟨by first | exact sd | ((repeat' apply And.intro) <;> first | assumption | omega | (simp only [List.length_append,List.length_map,List.length_cons,List.length_nil,List.length_set,List.length_replicate] at c_115 ⊢; omega)),hK25 _ _ ?_⟩
     obtain ⟨c_116,hm⟩:=chk_elim hm
     refine Wp.region fun K26 hK26=>?_
     simp only [go_sem,simprocAttr,hxc_109,hxc_114]
     first | apply hK26 | refine ⟨by first | exact sd | ((repeat' apply And.intro) <;> first | assumption | omega | (simp only [List.length_append,List.length_map,List.length_cons,List.length_nil,List.length_set,List.length_replicate] at c_116 ⊢; omega)),hK26 _ _ ?_⟩
     simp only [thenQ,blockQ,↓reduceIte]
     refine ⟨(List.drop 2 b_87,o0_88++[c_114]),hm,?_⟩
     simp only [go_sem,simprocAttr,hxc_109,hxc_114]
     try exact se4
    ·obtain ⟨c_117,hm⟩:=chk_elim hm
     refine Wp.seqR fun K27 hK27=>?_
     simp only [go_sem,simprocAttr,hxc_109]
     first | apply hK27 | refine ⟨by first | exact sd | ((repeat' apply And.intro) <;> first | assumption | omega | (simp only [List.length_append,List.length_map,List.length_cons,List.length_nil,List.length_set,List.length_replicate] at c_117 ⊢; omega)),hK27 _ _ ?_⟩
     refine cM hm (fun hc28 hm=>?_) (fun hc28 hm=>?_)
     ·obtain ⟨c_118,hm⟩:=chk_elim hm
      refine Wp.seqR fun K29 hK29=>?_
      simp only [go_sem,simprocAttr,hxc_109]
      first | apply hK29 | refine ⟨by first | exact sd | ((repeat' apply And.intro) <;> first | assumption | omega | (simp only [List.length_append,List.length_map,List.length_cons,List.length_nil,List.length_set,List.length_replicate] at c_118 ⊢; omega)),hK29 _ _ ?_⟩
      obtain ⟨c_119,hm⟩:=chk_elim hm
      refine Wp.region fun K30 hK30=>?_
      simp only [go_sem,simprocAttr,hxc_109]
      first | apply hK30 | refine ⟨by first | exact sd | ((repeat' apply And.intro) <;> first | assumption | omega | (simp only [List.length_append,List.length_map,List.length_cons,List.length_nil,List.length_set,List.length_replicate] at c_119 ⊢; omega)),hK30 _ _ ?_⟩
      simp only [thenQ,blockQ,↓reduceIte]
      refine ⟨(List.drop 2 b_87,o0_88++[10]),hm,?_⟩
      simp only [go_sem,simprocAttr,hxc_109]
      try exact se4
     ·obtain ⟨c_120,hm⟩:=chk_elim hm
      refine Wp.seqR fun K31 hK31=>?_
      simp only [go_sem,simprocAttr,hxc_109]
      first | apply hK31 | refine ⟨by first | exact sd | ((repeat' apply And.intro) <;> first | assumption | omega | (simp only [List.length_append,List.length_map,List.length_cons,List.length_nil,List.length_set,List.length_replicate] at c_120 ⊢; omega)),hK31 _ _ ?_⟩
      refine cM hm (fun hc32 hm=>?_) (fun hc32 hm=>?_)
      ·obtain ⟨c_121,hm⟩:=chk_elim hm
       obtain ⟨r_122,hr_122,hm⟩:=call_elim hm
       obtain ⟨c_123,hm⟩:=chk_elim hm
       obtain ⟨r_124,hr_124,hm⟩:=call_elim hm
       refine Wp.seqD (plan:=pl [(0,none),(1,none),(2,none),(3,none),(4,none),(5,none),(6,none),(7,none),(8,none)]) (by kernel_rfl) rfl (by kernel_rfl) fun K33 hK33=>?_
       simp only [go_sem,simprocAttr,hxc_109]
       try refine ⟨by first | exact sd | ((repeat' apply And.intro) <;> first | assumption | omega | (simp only [List.length_append,List.length_map,List.length_cons,List.length_nil,List.length_set,List.length_replicate] at c_121 c_123 ⊢; omega)),?_⟩
       refine Dr.callF (av:=?av34) (g:=true) (o:=?o34) (fun hg=>ok_strings_Index ([48,49,50,51,52,53,54,55,56,57,97,98,99,100,101,102]:Str) (List.take (3 - 2) (List.drop 2 b_87)) _ hr_122) (by simp only [go_sem,simprocAttr,hxc_109]; exact Is.mk) (by simp only [go_sem,simprocAttr,hxc_109]; exact Is.mk) (by simp only [go_sem,simprocAttr,hxc_109]; exact Is.mk) (by simp only [go_sem,simprocAttr,hxc_109]; exact Is.mk) (by simp only [go_sem,simprocAttr,hxc_109]) (by simp only [go_sem,simprocAttr,hxc_109]; exact Is.mk) ?cont34
       simp only [go_sem,simprocAttr,hxc_109]
       try refine ⟨by first | exact sd | ((repeat' apply And.intro) <;> first | assumption | omega | (simp only [List.length_append,List.length_map,List.length_cons,List.length_nil,List.length_set,List.length_replicate] at c_121 c_123 ⊢; omega)),?_⟩
       refine Dr.callF (av:=?av35) (g:=true) (o:=?o35) (fun hg=>ok_strings_Index ([48,49,50,51,52,53,54,55,56,57,97,98,99,100,101,102]:Str) (List.take (4 - 3) (List.drop 3 b_87)) _ hr_124) (by simp only [go_sem,simprocAttr,hxc_109]; exact Is.mk) (by simp only [go_sem,simprocAttr,hxc_109]; exact Is.mk) (by simp only [go_sem,simprocAttr,hxc_109]; exact Is.mk) (by simp only [go_sem,simprocAttr,hxc_109]; exact Is.mk) (by simp only [go_sem,simprocAttr,hxc_109]) (by simp only [go_sem,simprocAttr,hxc_109]; exact Is.mk) ?cont35
       simp only [go_sem,simprocAttr,hxc_109]
       first | apply hK33 | refine ⟨by first | exact sd | ((repeat' apply And.intro) <;> first | assumption | omega | (simp only [List.length_append,List.length_map,List.length_cons,List.length_nil,List.length_set,List.length_replicate] at c_121 c_123 ⊢; omega)),hK33 _ _ ?_⟩
       obtain ⟨c_125,hm⟩:=chk_elim hm
       refine Wp.seqR fun K36 hK36=>?_
       simp only [go_sem,simprocAttr,hxc_109]
       first | apply hK36 | refine ⟨by first | exact sd | ((repeat' apply And.intro) <;> first | assumption | omega | (simp only [List.length_append,List.length_map,List.length_cons,List.length_nil,List.length_set,List.length_replicate] at c_125 ⊢; omega)),hK36 _ _ ?_⟩
       obtain ⟨c_126,hm⟩:=chk_elim hm
       refine Wp.region fun K37 hK37=>?_
       simp only [go_sem,simprocAttr,hxc_109]
       first | apply hK37 | refine ⟨by first | exact sd | ((repeat' apply And.intro) <;> first | assumption | omega | (simp only [List.length_append,List.length_map,List.length_cons,List.length_nil,List.length_set,List.length_replicate] at c_126 ⊢; omega)),hK37 _ _ ?_⟩
       simp only [thenQ,blockQ,↓reduceIte]
       refine ⟨(List.drop 4 b_87,o0_88++[IntKind.u8.wrap (IntKind.i64.wrap ((IntKind.i64.wrap (r_122 * 16))+r_124))]),hm,?_⟩
       simp only [go_sem,simprocAttr,hxc_109]
       try exact se4
      ·refine Wp.seqR fun K38 hK38=>?_
       simp only [go_sem,simprocAttr,hxc_109]
       first | apply hK38 | refine ⟨sd,hK38 _ _ ?_⟩
       refine Wp.ret ?_
       refine retQ_ret ?_
       cases hm
       simp only [go_sem,simprocAttr,hxc_109]
       try exact se4
  ·refine Wp.exit ?_
   simp only [thenQ,blockQ,↓reduceIte]
   have hm:=hk_107 _ hm
   try dsimp only at hm
   refine hW7 _ _ _ _ ?_ (hcut7 o0_88 hm)
   exact fse4
theorem ok_R_quoted (s_1:Str) (z:Str × Str × Bool) (hm:R_quoted s_1=some z):Does Tryz.prog 191 [.p (.s s_1)] [] (fun r X=>r=.tup [.p (.s z.1),.p (.s z.2.1),.p (.b z.2.2)]∧X=[]):=by
 unfold R_quoted at hm
 refine Does.of_wp 0 30 [.tmp 2,.tmp 3,.tmp 4] Tryz.func191 rfl (by decide) rfl rfl (Nat.le_of_ble_eq_true rfl) fun B=>?_
 refine qS ?_
 obtain ⟨r_2,hr_2,hm⟩:=call_elim hm
 refine Wp.seqR fun K2 hK2=>?_
 simp only [go_sem,simprocAttr]
 try refine ⟨sd,?_⟩
 refine Rg.callX (av:=?av3) (g:=true) (fun hg=>ok_strings_Cut s_1 ([32]:Str) _ hr_2) si si si sg si ?cont3
 intro hv3
 simp only [go_sem,simprocAttr]
 first | apply hK2 | refine ⟨sd,hK2 _ _ ?_⟩
 obtain ⟨r_3,hr_3,hm⟩:=call_elim hm
 refine Wp.seqR fun K4 hK4=>?_
 simp only [go_sem,simprocAttr]
 try refine ⟨sd,?_⟩
 refine Rg.callX (av:=?av5) (g:=true) (fun hg=>ok_R_Unquote r_2.2.1 _ hr_3) si si si sg si ?cont5
 intro hv5
 simp only [go_sem,simprocAttr]
 first | apply hK4 | refine ⟨sd,hK4 _ _ ?_⟩
 refine qS ?_
 refine Wp.ret ?_
 refine retQ_ret ?_
 cases hm
 exact fse4
theorem ok_strings_Contains (s_1:Str) (substr_2:Str) (z:Bool) (hm:strings_Contains s_1 substr_2=some z):Does Tryz.prog 192 [.p (.s s_1),.p (.s substr_2)] [] (fun r X=>r=.p (.b z)∧X=[]):=by
 unfold strings_Contains at hm
 refine Does.of_wp 0 9 [.tmp 4] Tryz.func192 rfl (by decide) rfl rfl (Nat.le_of_ble_eq_true rfl) fun B=>?_
 refine qS ?_
 obtain ⟨r_3,hr_3,hm⟩:=call_elim hm
 refine Wp.seqR fun K2 hK2=>?_
 simp only [go_sem,simprocAttr]
 try refine ⟨sd,?_⟩
 refine Rg.callX (av:=?av3) (g:=true) (fun hg=>ok_strings_Index s_1 substr_2 _ hr_3) si si si sg si ?cont3
 intro hv3
 simp only [go_sem,simprocAttr]
 first | apply hK2 | refine ⟨sd,hK2 _ _ ?_⟩
 refine Wp.ret ?_
 refine retQ_ret ?_
 cases hm
 exact fse4
theorem ok_R_serviceOf (w_1:List Str) (z:api_Service × Bool) (hm:R_serviceOf w_1=some z):Does Tryz.prog 193 [.p (.l (List.map ecS w_1))] [] (fun r X=>r=.tup [.agg [.p (.s z.1.Name),.p (.s z.1.Path),.p (.b z.1.Auto),.p (.b z.1.On)],.p (.b z.2)]∧X=[]):=by
 unfold R_serviceOf at hm
 refine Does.of_wp 0 59 [.cell 2 42,.tmp 3] Tryz.func193 rfl (by decide) rfl rfl (Nat.le_of_ble_eq_true rfl) fun B=>?_
 refine qS ?_
 refine Wp.seqW fun K2 hK2 hW2=>?_
 obtain ⟨c_2,hm⟩:=chk_elim hm
 obtain ⟨c_3,hm⟩:=chk_elim hm
 obtain ⟨c_4,hm⟩:=chk_elim hm
 obtain ⟨c_5,hm⟩:=chk_elim hm
 obtain ⟨c_6,hm⟩:=chk_elim hm
 obtain ⟨c_7,hm⟩:=chk_elim hm
 have hr_8:=getD_enc (l:=w_1) (e:=ecS) (d:=[]) (i:=0)
 simp only [ecS,List.map_nil] at hr_8
 have hr_9:=getD_enc (l:=w_1) (e:=ecS) (d:=[]) (i:=1)
 simp only [ecS,List.map_nil] at hr_9
 have hr_10:=getD_enc (l:=w_1) (e:=ecS) (d:=[]) (i:=2)
 simp only [ecS,List.map_nil] at hr_10
 have hr_11:=getD_enc (l:=w_1) (e:=ecS) (d:=[]) (i:=3)
 simp only [ecS,List.map_nil] at hr_11
 refine Wp.seqR fun K3 hK3=>?_
 simp only [go_sem,simprocAttr,hr_8,hr_9,hr_10,hr_11]
 first | apply hK3 | refine ⟨by first | exact sd | ((repeat' apply And.intro) <;> first | assumption | omega | (simp only [List.length_append,List.length_map,List.length_cons,List.length_nil,List.length_set,List.length_replicate] at c_2 c_3 c_4 c_5 c_6 c_7 ⊢; omega)),hK3 _ _ ?_⟩
 refine cM hm (fun hc4 hm=>?_) (fun hc4 hm=>?_)
 ·refine qS ?_
  refine Wp.ret ?_
  refine retQ_ret ?_
  cases hm
  exact fse4
 ·refine Wp.skip ?_
  refine hK2 _ _ ?_
  obtain ⟨s_12,hbs_12,hxs_12,hys_12,hm⟩:=idx_elim hm
  replace hxs_12:∀ d,(List.map ecS w_1).getD 0 d=ecS s_12:=hxs_12 ecS
  obtain ⟨s_13,hbs_13,hxs_13,hys_13,hm⟩:=idx_elim hm
  replace hxs_13:∀ d,(List.map ecS w_1).getD 1 d=ecS s_13:=hxs_13 ecS
  obtain ⟨s_14,hbs_14,hxs_14,hys_14,hm⟩:=idx_elim hm
  replace hxs_14:∀ d,(List.map ecS w_1).getD 2 d=ecS s_14:=hxs_14 ecS
  obtain ⟨s_15,hbs_15,hxs_15,hys_15,hm⟩:=idx_elim hm
  replace hxs_15:∀ d,(List.map ecS w_1).getD 3 d=ecS s_15:=hxs_15 ecS
  refine Wp.seqD (plan:=pl [(0,none),(1,none),(2,none),(3,none),(4,none),(5,none),(6,none),(7,none),(8,none),(9,none),(10,none),(11,none),(12,none),(13,none),(14,none),(15,some []),(16,none)]) (by kernel_rfl) rfl (by kernel_rfl) fun K6 hK6=>?_
  simp only [go_sem,simprocAttr,hxs_12,hxs_13,hxs_14,hxs_15]
  first | apply hK6 | refine ⟨sd,hK6 _ _ ?_⟩
  refine Wp.ret ?_
  refine retQ_ret ?_
  cases hm
  simp only [go_sem,simprocAttr,hxs_12,hxs_13,hxs_14,hxs_15]
  try exact se4
theorem ok_R_changeOf (l_1:Str) (z:api_Change × Bool) (hm:R_changeOf l_1=some z):Does Tryz.prog 118 [.p (.s l_1)] [] (fun r X=>r=.tup [.agg [.p (.i .i64 z.1.Kind),.p (.s z.1.File.Path),.p (.s z.1.File.Data),.p (.b z.1.File.Runs),.p (.s z.1.Setting.Key),.p (.s z.1.Setting.Value),.p (.s z.1.Service.Name),.p (.s z.1.Service.Path),.p (.b z.1.Service.Auto),.p (.b z.1.Service.On)],.p (.b z.2)]∧X=[]):=by
 unfold R_changeOf at hm
 refine Does.of_wp 0 80 [.cell 2 44,.tmp 3] Tryz.func118 rfl (by decide) rfl rfl (Nat.le_of_ble_eq_true rfl) fun B=>?_
 refine qS ?_
 obtain ⟨r_2,hr_2,hm⟩:=call_elim hm
 refine Wp.seqR fun K2 hK2=>?_
 simp only [go_sem,simprocAttr]
 try refine ⟨sd,?_⟩
 refine Rg.callX (av:=?av3) (g:=true) (fun hg=>ok_strings_Cut l_1 ([32]:Str) _ hr_2) si si si sg si ?cont3
 intro hv3
 simp only [go_sem,simprocAttr]
 first | apply hK2 | refine ⟨sd,hK2 _ _ ?_⟩
 obtain ⟨r_3,hr_3,hm⟩:=call_elim hm
 refine Wp.seqR fun K4 hK4=>?_
 simp only [go_sem,simprocAttr]
 try refine ⟨sd,?_⟩
 refine Rg.callX (av:=?av5) (g:=true) (fun hg=>ok_R_quoted r_2.2.1 _ hr_3) si si si sg si ?cont5
 intro hv5
 simp only [go_sem,simprocAttr]
 first | apply hK4 | refine ⟨sd,hK4 _ _ ?_⟩
 obtain ⟨r_4,hr_4,hm⟩:=callG_elim hm
 refine Wp.seqR fun K6 hK6=>?_
 simp only [go_sem,simprocAttr]
 try refine ⟨sd,?_⟩
 refine Rg.callX (av:=?av7) (g:=!decide (r_2.2.1=[])) (fun hg=>ok_strings_Contains r_2.2.1 ([32]:Str) _ (hr_4 hg)) si si si sg si ?cont7
 intro hv7
 simp only [go_sem,simprocAttr]
 first | apply hK6 | refine ⟨sd,hK6 _ _ ?_⟩
 refine Wp.seqW fun K8 hK8 hW8=>?_
 refine qS ?_
 refine Wp.block ?_
 refine Wp.seqW fun K10 hK10 hW10=>?_
 obtain ⟨k_6,hk_6,hm⟩:=jp_elim hm
 have hcut10:∀ s,k_6 s=some z→K10 [(2,.ptr 0 0),(4,.p (.s r_2.1)),(5,.p (.s r_2.2.1)),(7,.p (.s r_3.1)),(8,.p (.s r_3.2.1)),(9,.p (.b r_3.2.2)),(10,.p (.b ((!decide (r_2.2.1=[])) && (!r_4)))),(32,.p (.s r_2.1)),(33,.p (.b s))] [.cells 44 [.p (.i .i64 0),.p (.s []),.p (.s []),.p (.b false),.p (.s []),.p (.s []),.p (.s []),.p (.s []),.p (.b false),.p (.b false)]]:=by
  intro t33_5 hs
  have hm:=hk_6 _ hs
  clear hs
  try dsimp only at hm
  try dsimp only
  refine hK10 _ _ ?_
  refine cM hm (fun hc11 hm=>?_) (fun hc11 hm=>?_)
  ·refine qS ?_
   refine Wp.ret ?_
   refine retQ_ret ?_
   cases hm
   exact fse4
  ·refine qS ?_
   refine cM hm (fun hc14 hm=>?_) (fun hc14 hm=>?_)
   ·refine qS ?_
    refine Wp.ret ?_
    refine retQ_ret ?_
    cases hm
    exact fse4
   ·refine qS ?_
    refine cM hm (fun hc17 hm=>?_) (fun hc17 hm=>?_)
    ·refine qS ?_
     refine Wp.ret ?_
     refine retQ_ret ?_
     cases hm
     exact fse4
    ·refine qS ?_
     refine cM hm (fun hc20 hm=>?_) (fun hc20 hm=>?_)
     ·refine qS ?_
      refine Wp.ret ?_
      refine retQ_ret ?_
      cases hm
      exact fse4
     ·refine qS ?_
      refine cM hm (fun hc23 hm=>?_) (fun hc23 hm=>?_)
      ·obtain ⟨r_7,hr_7,hm⟩:=call_elim hm
       obtain ⟨r_8,hr_8,hm⟩:=call_elim hm
       refine Wp.seqR fun K24 hK24=>?_
       simp only [go_sem,simprocAttr]
       try refine ⟨sd,?_⟩
       refine Rg.callF (av:=?av25) (ok_strings_Split r_2.2.1 ([32]:Str) _ hr_7) si si sg ?cont25
       intro hv25
       simp only [go_sem,simprocAttr]
       try refine ⟨sd,?_⟩
       refine Rg.callX (av:=?av26) (g:=true) (fun hg=>ok_R_serviceOf r_7 _ hr_8) si si si sg si ?cont26
       intro hv26
       simp only [go_sem,simprocAttr]
       first | apply hK24 | refine ⟨sd,hK24 _ _ ?_⟩
       refine qS ?_
       refine Wp.ret ?_
       refine retQ_ret ?_
       cases hm
       exact fse4
      ·refine qS ?_
       refine cM hm (fun hc29 hm=>?_) (fun hc29 hm=>?_)
       ·refine qS ?_
        refine Wp.ret ?_
        refine retQ_ret ?_
        cases hm
        exact fse4
       ·refine Wp.skip ?_
        refine hK8 _ _ ?_
        refine qS ?_
        refine Wp.ret ?_
        refine retQ_ret ?_
        cases hm
        exact fse4
 clear hK10 hk_6
 refine qS ?_
 refine cM hm (fun hc33 hm=>?_) (fun hc33 hm=>?_)
 ·refine Wp.skip ?_
  refine hW10 _ _ _ _ ?_ (hcut10 (decide (r_2.1=([112,117,116]:Str))) hm)
  exact fse4
 ·refine qR ?_
  refine hW10 _ _ _ _ ?_ (hcut10 (decide (r_2.1=([112,117,116,114,117,110]:Str))) hm)
  exact fse4
theorem ok_R_ParseJournal_2_i1 (word_1:Str) (o0_0_2:Int) (o1_0_3:List Str) (z:List api_Change × Bool × Int) (hm:R_ParseJournal_2_i1 word_1 o0_0_2 o1_0_3=some z):Does Tryz.prog 116 [.p (.s word_1),.ptr 0 0,.ptr 1 0] [.cells 3 [.p (.i .i64 o0_0_2)],.cells 155 [.p (.l (List.map ecS o1_0_3))]] (fun r X=>r=.tup [.p (.l (List.map enc_api_Change z.1)),.p (.b z.2.1)]∧X=[.cells 3 [.p (.i .i64 z.2.2)],.cells 155 [.p (.l (List.map ecS o1_0_3))]]):=by
 unfold R_ParseJournal_2_i1 at hm
 refine Does.of_wp 2 89 [.tmp 4,.tmp 5] Tryz.func116 rfl (by decide) rfl rfl (Nat.le_of_ble_eq_true rfl) fun B=>?_
 refine qS ?_
 refine Wp.seqW fun K2 hK2 hW2=>?_
 refine qS ?_
 refine cM hm (fun hc4 hm=>?_) (fun hc4 hm=>?_)
 ·refine qS ?_
  refine Wp.ret ?_
  simp only [thenQ,blockQ]
  refine retQ_retE ?_
  cases hm
  exact fse4
 ·refine Wp.skip ?_
  refine hK2 _ _ ?_
  obtain ⟨s_45,hbs_45,hxs_45,hys_45,hm⟩:=idx_elim hm
  replace hxs_45:∀ d,(List.map ecS o1_0_3).getD o0_0_2.toNat d=ecS s_45:=hxs_45 ecS
  obtain ⟨c_46,hm⟩:=chk_elim hm
  obtain ⟨r_47,hr_47,hm⟩:=call_elim hm
  refine Wp.seqR fun K6 hK6=>?_
  simp only [go_sem,simprocAttr,hxs_45]
  try refine ⟨by first | exact sd | ((repeat' apply And.intro) <;> first | assumption | omega | (simp only [List.length_append,List.length_map,List.length_cons,List.length_nil,List.length_set,List.length_replicate] at c_46 ⊢; omega)),?_⟩
  refine Rg.callX (av:=?av7) (g:=true) (fun hg=>ok_strings_CutPrefix s_45 (word_1++([32]:Str)) _ hr_47) (by simp only [go_sem,simprocAttr,hxs_45]; exact Is.mk) (by simp only [go_sem,simprocAttr,hxs_45]; exact Is.mk) (by simp only [go_sem,simprocAttr,hxs_45]; exact Is.mk) (by simp only [go_sem,simprocAttr,hxs_45]) (by simp only [go_sem,simprocAttr,hxs_45]; exact Is.mk) ?cont7
  intro hv7
  simp only [go_sem,simprocAttr,hxs_45]
  first | apply hK6 | refine ⟨by first | exact sd | ((repeat' apply And.intro) <;> first | assumption | omega | (simp only [List.length_append,List.length_map,List.length_cons,List.length_nil,List.length_set,List.length_replicate] at c_46 ⊢; omega)),hK6 _ _ ?_⟩
  obtain ⟨r_48,hr_48,hm⟩:=call_elim hm
  refine Wp.seqR fun K8 hK8=>?_
  simp only [go_sem,simprocAttr,hxs_45]
  try refine ⟨sd,?_⟩
  refine Rg.callF (av:=?av9) (ok_strconv_Atoi r_47.1 _ hr_48) (by simp only [go_sem,simprocAttr,hxs_45]; exact Is.mk) (by simp only [go_sem,simprocAttr,hxs_45]; exact Is.mk) (by simp only [go_sem,simprocAttr,hxs_45]) ?cont9
  intro hv9
  simp only [go_sem,simprocAttr,hxs_45]
  first | apply hK8 | refine ⟨sd,hK8 _ _ ?_⟩
  refine Wp.seqW fun K10 hK10 hW10=>?_
  obtain ⟨r_49,hr_49,hm⟩:=callG_elim hm
  refine Wp.seqR fun K11 hK11=>?_
  simp only [go_sem,simprocAttr,hxs_45]
  try refine ⟨sd,?_⟩
  refine Rg.callX (av:=?av12) (g:=!(((!r_47.2) || (!r_48.2)) || (decide (r_48.1 < 0)))) (fun hg=>ok_strconv_Itoa r_48.1 _ (hr_49 hg)) (by simp only [go_sem,simprocAttr,hxs_45]; exact Is.mk) (by simp only [go_sem,simprocAttr,hxs_45]; exact Is.mk) (by simp only [go_sem,simprocAttr,hxs_45]; exact Is.mk) (by simp only [go_sem,simprocAttr,hxs_45]) (by simp only [go_sem,simprocAttr,hxs_45]; exact Is.mk) ?cont12
  intro hv12
  simp only [go_sem,simprocAttr,hxs_45]
  first | apply hK11 | refine ⟨sd,hK11 _ _ ?_⟩
  refine cM hm (fun hc13 hm=>?_) (fun hc13 hm=>?_)
  ·refine Wp.seqR fun K14 hK14=>?_
   simp only [go_sem,simprocAttr,hxs_45]
   first | apply hK14 | refine ⟨sd,hK14 _ _ ?_⟩
   refine Wp.ret ?_
   simp only [thenQ,blockQ]
   refine retQ_retE ?_
   cases hm
   simp only [go_sem,simprocAttr,hxs_45]
   try exact se4
  ·refine Wp.skip ?_
   refine hK10 _ _ ?_
   refine Wp.seqR fun K15 hK15=>?_
   simp only [go_sem,simprocAttr,hxs_45]
   first | apply hK15 | refine ⟨sd,hK15 _ _ ?_⟩
   refine Wp.seqW fun K16 hK16 hW16=>?_
   obtain ⟨k_68,hk_68,hm⟩:=jp_elim hm
   have hcut16:∀ s,k_68 s=some z→K16 [(1,.ptr 0 0),(8,.p (.i .i64 r_48.1)),(10,.buf 2)] [.cells 3 [.p (.i .i64 o0_0_2)],.cells 155 [.p (.l (List.map ecS o1_0_3))],.buf 44 10 (List.map enc_api_Change s)]:=by
    intro o2_67 hs
    have hm:=hk_68 _ hs
    clear hs
    try dsimp only at hm
    try dsimp only
    refine hK16 _ _ ?_
    refine Wp.seqR fun K17 hK17=>?_
    simp only [go_sem,simprocAttr,hxs_45]
    first | apply hK17 | refine ⟨sd,hK17 _ _ ?_⟩
    refine Wp.seqR fun K18 hK18=>?_
    simp only [go_sem,simprocAttr,hxs_45]
    first | apply hK18 | refine ⟨sd,hK18 _ _ ?_⟩
    refine Wp.ret ?_
    refine retQ_ret ?_
    cases hm
    simp only [go_sem,simprocAttr,hxs_45]
    try exact se4
   clear hK16 hk_68
   obtain ⟨c_69,hm⟩:=chk_elim hm
   refine Wp.seqR fun K19 hK19=>?_
   simp only [go_sem,simprocAttr,hxs_45]
   first | apply hK19 | refine ⟨by first | exact sd | ((repeat' apply And.intro) <;> first | assumption | omega | (simp only [List.length_append,List.length_map,List.length_cons,List.length_nil,List.length_set,List.length_replicate] at c_69 ⊢; omega)),hK19 _ _ ?_⟩
   refine Wp.block ?_
   refine Wp.adopt 10 44 10 rfl ?_
   simp only [go_sem,simprocAttr,hxs_45]
   obtain ⟨k_79,hk_79,hm⟩:=forL_cont hm
   refine Wp.fact 66 fun hl_82=>?_
   replace hl_82:(List.take ((IntKind.i64.wrap ((IntKind.i64.wrap (o0_0_2+1))+r_48.1)).toNat - (IntKind.i64.wrap (o0_0_2+1)).toNat) (List.drop ((IntKind.i64.wrap (o0_0_2+1)).toNat) o1_0_3)).length≤274877906944:=by
    simp only [go_sem,simprocAttr,List.length_map] at hl_82
    omega
   refine Wp.forL (fun i_81 s=>[(1,.ptr 0 0),(8,.p (.i .i64 r_48.1)),(10,.buf 2),(66,.p (.l (List.map ecS (List.take ((IntKind.i64.wrap ((IntKind.i64.wrap (o0_0_2+1))+r_48.1)).toNat - (IntKind.i64.wrap (o0_0_2+1)).toNat) (List.drop ((IntKind.i64.wrap (o0_0_2+1)).toNat) o1_0_3))))),(67,.p (.i .i64 ((List.take ((IntKind.i64.wrap ((IntKind.i64.wrap (o0_0_2+1))+r_48.1)).toNat - (IntKind.i64.wrap (o0_0_2+1)).toNat) (List.drop ((IntKind.i64.wrap (o0_0_2+1)).toNat) o1_0_3)).length:Int))),(68,.p (.i .i64 (i_81:Int)))]) (fun i_81 s=>[.cells 3 [.p (.i .i64 o0_0_2)],.cells 155 [.p (.l (List.map ecS o1_0_3))],.buf 44 10 (List.map enc_api_Change s)]) ?_ hm ?_
   ·
    simp only [go_sem,simprocAttr,hxs_45]
    try exact se4
   clear hm
   intro i_81 o2_75 hii_81 hm
   try dsimp only at hm
   try dsimp only
   refine Wp.seqR fun K20 hK20=>?_
   simp only [go_sem,simprocAttr,hxs_45]
   first | apply hK20 | refine ⟨sd,hK20 _ _ ?_⟩
   refine Wp.seqW fun K21 hK21 hW21=>?_
   refine Wp.cond rfl ⟨⟩ (fun hc21=>?_) (fun hc21=>?_)
   rotate_left
   ·refine Wp.exit ?_
    have hm:=hk_79 _ (forL_end hm (ge_nat (by first | exact hc21 | simpa using hc21)))
    try dsimp only at hm
    refine hW16 _ _ _ _ ?_ (hcut16 o2_75 hm)
    simp only [go_sem,simprocAttr,hxs_45]
    try exact se4
   have hlt21:=lt_nat (by first | exact hc21 | simpa using hc21)
   have hw21:=wrap_succ hlt21 hl_82
   obtain ⟨s_83,nx_80,hxs_83,hys_83,hnx_80,hm⟩:=forL_step hm hlt21
   replace hxs_83:=hxs_83 ecS
   refine Wp.skip ?_
   simp only [thenQ]
   refine hK21 _ _ ?_
   refine Wp.seqW fun K22 hK22 hW22=>?_
   refine Wp.block ?_
   refine Wp.seqR fun K23 hK23=>?_
   simp only [go_sem,simprocAttr,hxs_45,hw21,hxs_83]
   first | apply hK23 | refine ⟨sd,hK23 _ _ ?_⟩
   obtain ⟨r_84,hr_84,hm⟩:=call_elim hm
   refine Wp.seqR fun K24 hK24=>?_
   simp only [go_sem,simprocAttr,hxs_45,hw21,hxs_83]
   try refine ⟨sd,?_⟩
   refine Rg.callX (av:=?av25) (g:=true) (fun hg=>ok_R_changeOf s_83 _ hr_84) (by simp only [go_sem,simprocAttr,hxs_45,hw21,hxs_83]; exact Is.mk) (by simp only [go_sem,simprocAttr,hxs_45,hw21,hxs_83]; exact Is.mk) (by simp only [go_sem,simprocAttr,hxs_45,hw21,hxs_83]; exact Is.mk) (by simp only [go_sem,simprocAttr,hxs_45,hw21,hxs_83]) (by simp only [go_sem,simprocAttr,hxs_45,hw21,hxs_83]; exact Is.mk) ?cont25
   intro hv25
   simp only [go_sem,simprocAttr,hxs_45,hw21,hxs_83]
   first | apply hK24 | refine ⟨sd,hK24 _ _ ?_⟩
   refine Wp.seqW fun K26 hK26 hW26=>?_
   refine Wp.seqR fun K27 hK27=>?_
   simp only [go_sem,simprocAttr,hxs_45,hw21,hxs_83]
   first | apply hK27 | refine ⟨sd,hK27 _ _ ?_⟩
   refine cM hm (fun hc28 hm=>?_) (fun hc28 hm=>?_)
   ·refine Wp.seqR fun K29 hK29=>?_
    simp only [go_sem,simprocAttr,hxs_45,hw21,hxs_83]
    first | apply hK29 | refine ⟨sd,hK29 _ _ ?_⟩
    refine Wp.ret ?_
    simp only [thenQ,blockQ]
    refine retQ_retE ?_
    cases hm
    simp only [go_sem,simprocAttr,hxs_45,hw21,hxs_83]
    try exact se4
   ·refine Wp.skip ?_
    refine hK26 _ _ ?_
    obtain ⟨c_85,hm⟩:=chk_elim hm
    refine Wp.region fun K30 hK30=>?_
    simp only [go_sem,simprocAttr,hxs_45,hw21,hxs_83]
    first | apply hK30 | refine ⟨by first | exact sd | ((repeat' apply And.intro) <;> first | assumption | omega | (simp only [List.length_append,List.length_map,List.length_cons,List.length_nil,List.length_set,List.length_replicate] at c_85 ⊢; omega)),hK30 _ _ ?_⟩
    refine hK22 _ _ ?_
    refine Wp.region fun K31 hK31=>?_
    simp only [go_sem,simprocAttr,hxs_45,hw21,hxs_83]
    first | apply hK31 | refine ⟨sd,hK31 _ _ ?_⟩
    simp only [thenQ,blockQ,↓reduceIte]
    refine ⟨o2_75++[r_84.1],hlt21,hnx_80 _ hm,?_⟩
    simp only [go_sem,simprocAttr,hxs_45,hw21,hxs_83]
    try exact se4
theorem ok_R_IsSum (s_1:Str) (z:Bool) (hm:R_IsSum s_1=some z):Does Tryz.prog 119 [.p (.s s_1)] [] (fun r X=>r=.p (.b z)∧X=[]):=by
 unfold R_IsSum at hm
 refine Does.of_wp 0 31 [.tmp 2] Tryz.func119 rfl (by decide) rfl rfl (Nat.le_of_ble_eq_true rfl) fun B=>?_
 refine qS ?_
 refine Wp.seqW fun K2 hK2 hW2=>?_
 obtain ⟨k_9,hk_9,hm⟩:=jp_elim hm
 have hcut2:∀ s,k_9 s=some z→K2 [(0,.p (.s s_1))] []:=by
  intro s hs
  have hm:=hk_9 _ hs
  clear hs
  try dsimp only at hm
  try dsimp only
  refine hK2 _ _ ?_
  refine qS ?_
  refine Wp.ret ?_
  refine retQ_ret ?_
  cases hm
  exact fse4
 clear hK2 hk_9
 refine qS ?_
 refine Wp.block ?_
 obtain ⟨k_12,hk_12,hm⟩:=forL_cont hm
 refine Wp.fact 0 fun hl_15=>?_
 replace hl_15:s_1.length≤274877906944:=by
  simp only [go_sem,simprocAttr,List.length_map] at hl_15
  omega
 refine Wp.forL (fun i_14 s=>[(0,.p (.s s_1)),(6,.p (.i .i64 (s_1.length:Int))),(7,.p (.i .i64 (i_14:Int)))]) (fun i_14 s=>[]) ?_ hm ?_
 ·
  exact fse4
 clear hm
 intro i_14 s hii_14 hm
 try dsimp only at hm
 try dsimp only
 refine qS ?_
 refine Wp.seqW fun K6 hK6 hW6=>?_
 refine Wp.cond rfl ⟨⟩ (fun hc6=>?_) (fun hc6=>?_)
 rotate_left
 ·refine Wp.exit ?_
  have hm:=hk_12 _ (forL_end hm (ge_nat (by first | exact hc6 | simpa using hc6)))
  try dsimp only at hm
  refine hW2 _ _ _ _ ?_ (hcut2 () hm)
  exact fse4
 have hlt6:=lt_nat (by first | exact hc6 | simpa using hc6)
 have hw6:=wrap_succ hlt6 hl_15
 obtain ⟨c_16,nx_13,hxc_16,hyc_16,hnx_13,hm⟩:=forL_step hm hlt6
 clear hxc_16
 refine Wp.skip ?_
 simp only [thenQ]
 refine hK6 _ _ ?_
 refine Wp.seqW fun K7 hK7 hW7=>?_
 refine Wp.block ?_
 refine Wp.seqR fun K8 hK8=>?_
 simp only [go_sem,simprocAttr,hw6,hyc_16]
 first | apply hK8 | refine ⟨sd,hK8 _ _ ?_⟩
 refine Wp.seqR fun K9 hK9=>?_
 simp only [go_sem,simprocAttr,hw6,hyc_16]
 first | apply hK9 | refine ⟨sd,hK9 _ _ ?_⟩
 refine Wp.seqR fun K10 hK10=>?_
 simp only [go_sem,simprocAttr,hw6,hyc_16]
 first | apply hK10 | refine ⟨sd,hK10 _ _ ?_⟩
 refine cM hm (fun hc11 hm=>?_) (fun hc11 hm=>?_)
 ·refine Wp.seqR fun K12 hK12=>?_
  simp only [go_sem,simprocAttr,hw6,hyc_16]
  first | apply hK12 | refine ⟨sd,hK12 _ _ ?_⟩
  refine Wp.ret ?_
  refine retQ_ret ?_
  cases hm
  simp only [go_sem,simprocAttr,hw6,hyc_16]
  try exact se4
 ·refine Wp.skip ?_
  refine hK7 _ _ ?_
  refine Wp.region fun K13 hK13=>?_
  simp only [go_sem,simprocAttr,hw6,hyc_16]
  first | apply hK13 | refine ⟨sd,hK13 _ _ ?_⟩
  simp only [thenQ,blockQ,↓reduceIte]
  refine ⟨(),hlt6,hnx_13 _ hm,?_⟩
  simp only [go_sem,simprocAttr,hw6,hyc_16]
  try exact se4
theorem ok_internal_strconv_isPowerOfTwo (x_1:Int) (z:Bool) (hm:internal_strconv_isPowerOfTwo x_1=some z):Does Tryz.prog 297 [.p (.i .i64 x_1)] [] (fun r X=>r=.p (.b z)∧X=[]):=by
 unfold internal_strconv_isPowerOfTwo at hm
 refine Does.of_wp 0 8 [.tmp 2] Tryz.func297 rfl (by decide) rfl rfl (Nat.le_of_ble_eq_true rfl) fun B=>?_
 refine qS ?_
 refine qS ?_
 refine Wp.ret ?_
 refine retQ_ret ?_
 cases hm
 exact fse4
end Go.Proofs.YtbofknpajcdnmaaGreatDoor
