/- That the code does what the models say (part 4). -/
import Derived.Test.YtbofknpajcdnmaaGreatDoorJmWk0
import Derived.Test.YtbofknpajcdnmaaGreatDoorJmWk1
import Derived.Test.YtbofknpajcdnmaaGreatDoorJmWk2
import Derived.Test.YtbofknpajcdnmaaGreatDoorJmWk3
set_option linter.unusedSimpArgs false
set_option linter.unusedVariables false
open Go.Proofs Go.Shelf
namespace Go.Proofs.YtbofknpajcdnmaaGreatDoor
open Go.Vc Go.Md
set_option maxRecDepth 100000
set_option maxHeartbeats 4000000
theorem ok_disk_ParseChanges (text_1:Str) (z:List api_Change × Int × Int) (hm:disk_ParseChanges text_1=some z):Does Tryz.prog 185 [.p (.s text_1)] [] (fun r X=>r=.tup [.p (.l (List.map enc_api_Change z.1)),.p (.i .i64 z.2.1),.p (.i .i64 z.2.2)]∧X=[]):=by
 unfold disk_ParseChanges at hm
 refine Does.of_wp 0 23 [.tmp 2,.tmp 3,.tmp 4] Tryz.func185 rfl (by decide) rfl rfl (Nat.le_of_ble_eq_true rfl) fun B=>?_
 refine qS ?_
 refine Wp.seqW fun K2 hK2 hW2=>?_
 refine qS ?_
 refine cM hm (fun hc4 hm=>?_) (fun hc4 hm=>?_)
 ·refine qS ?_
  refine Wp.ret ?_
  simp only [thenQ,blockQ]
  refine retQ_retE ?_
  cases hm
  exact fse2
 ·refine Wp.skip ?_
  refine hK2 _ _ ?_
  refine qS ?_
  refine Wp.adoptO 0 0 44 10 rfl rfl ?_
  simp only [go_sem,simprocAttr]
  obtain ⟨r_2,hr_2,hm⟩:=call_elim hm
  refine Wp.seqR fun K7 hK7=>?_
  simp only [go_sem,simprocAttr]
  try refine ⟨sd,?_⟩
  refine Rg.callO (av:=?av8) [0,1] (ok_disk_eachLine_i1 text_1 [] _ hr_2) si si si sg sg ?cont8
  rintro _ _ ⟨rfl,rfl⟩ hv8
  simp only [go_sem,simprocAttr]
  first | apply hK7 | refine ⟨sd,hK7 _ _ ?_⟩
  refine Wp.seqW fun K9 hK9 hW9=>?_
  refine qS ?_
  refine cM hm (fun hc11 hm=>?_) (fun hc11 hm=>?_)
  ·refine qS ?_
   refine Wp.ret ?_
   simp only [thenQ,blockQ]
   refine retQ_retE ?_
   cases hm
   exact fse3
  ·refine Wp.skip ?_
   refine hK9 _ _ ?_
   refine Wp.seqW fun K13 hK13 hW13=>?_
   obtain ⟨r_3,hr_3,hm⟩:=call_elim hm
   refine Wp.seqR fun K14 hK14=>?_
   simp only [go_sem,simprocAttr]
   try refine ⟨sd,?_⟩
   refine Rg.callX (av:=?av15) (g:=true) (fun hg=>ok_disk_changesFault r_2.2 _ hr_3) si si (by simp only [go_sem,simprocAttr,List.map_append,List.map_cons,List.map_nil]; exact Is.mk) sg si ?cont15
   intro hv15
   simp only [go_sem,simprocAttr]
   first | apply hK14 | refine ⟨sd,hK14 _ _ ?_⟩
   refine qS ?_
   refine cM hm (fun hc17 hm=>?_) (fun hc17 hm=>?_)
   ·refine qS ?_
    refine Wp.ret ?_
    simp only [thenQ,blockQ]
    refine retQ_retE ?_
    cases hm
    exact fse3
   ·refine Wp.skip ?_
    refine hK13 _ _ ?_
    refine qS ?_
    refine Wp.ret ?_
    refine retQ_ret ?_
    cases hm
    exact fse3
theorem ok_stage_reader_changes_i1 (word_1:Str) (o0_0_2:List Str) (o0_1_3:Bool) (z:List api_Change × Int × List Str × Bool) (hm:stage_reader_changes_i1 word_1 o0_0_2 o0_1_3=some z):Does Tryz.prog 111 [.ptr 0 0,.p (.s word_1)] [.cells 159 [.p (.l (List.map ecS o0_0_2)),.p (.b o0_1_3)]] (fun r X=>r=.tup [.p (.l (List.map enc_api_Change z.1)),.p (.i .i64 z.2.1)]∧X=[.cells 159 [.p (.l (List.map ecS z.2.2.1)),.p (.b z.2.2.2)]]):=by
 unfold stage_reader_changes_i1 at hm
 refine Does.of_wp 1 66 [.tmp 4,.tmp 5] Tryz.func111 rfl (by decide) rfl rfl (Nat.le_of_ble_eq_true rfl) fun B=>?_
 refine qS ?_
 obtain ⟨r_10,hr_10,hm⟩:=call_elim hm
 obtain ⟨r_11,hr_11,hm⟩:=call_elim hm
 refine Wp.seqR fun K2 hK2=>?_
 simp only [go_sem,simprocAttr]
 try refine ⟨sd,?_⟩
 refine Rg.callO (av:=?av3) [0] (ok_stage_reader_line_i1 word_1 o0_0_2 o0_1_3 _ hr_10) si si si sg sg ?cont3
 rintro _ _ ⟨rfl,rfl⟩ hv3
 simp only [go_sem,simprocAttr]
 try refine ⟨sd,?_⟩
 refine Rg.callX (av:=?av4) (g:=true) (fun hg=>ok_stage_number r_10.1 _ hr_11) si si si sg si ?cont4
 intro hv4
 simp only [go_sem,simprocAttr]
 first | apply hK2 | refine ⟨sd,hK2 _ _ ?_⟩
 refine Wp.seqW fun K5 hK5 hW5=>?_
 refine qS ?_
 refine cM hm (fun hc7 hm=>?_) (fun hc7 hm=>?_)
 ·refine qS ?_
  refine qS ?_
  refine Wp.ret ?_
  simp only [thenQ,blockQ]
  refine retQ_retE ?_
  cases hm
  exact fse3
 ·refine Wp.skip ?_
  refine hK5 _ _ ?_
  obtain ⟨c_12,hm⟩:=chk_elim hm
  obtain ⟨r_13,hr_13,hm⟩:=call_elim hm
  obtain ⟨r_14,hr_14,hm⟩:=call_elim hm
  refine Wp.seqR fun K10 hK10=>?_
  simp only [go_sem,simprocAttr]
  try refine ⟨by first | exact sd | ((repeat' apply And.intro) <;> first | assumption | omega | (simp only [List.length_append,List.length_map,List.length_cons,List.length_nil,List.length_set,List.length_replicate] at c_12 ⊢; omega)),?_⟩
  refine Rg.callX (av:=?av11) (g:=true) (fun hg=>ok_strings_Join (List.take r_11.1.toNat r_10.2.2) [] _ hr_13) si si si sg si ?cont11
  intro hv11
  simp only [go_sem,simprocAttr]
  try refine ⟨by first | exact sd | ((repeat' apply And.intro) <;> first | assumption | omega | (simp only [List.length_append,List.length_map,List.length_cons,List.length_nil,List.length_set,List.length_replicate] at c_12 ⊢; omega)),?_⟩
  refine Rg.callF (av:=?av12) (ok_disk_ParseChanges r_13 _ hr_14) si si sg ?cont12
  intro hv12
  simp only [go_sem,simprocAttr]
  first | apply hK10 | refine ⟨by first | exact sd | ((repeat' apply And.intro) <;> first | assumption | omega | (simp only [List.length_append,List.length_map,List.length_cons,List.length_nil,List.length_set,List.length_replicate] at c_12 ⊢; omega)),hK10 _ _ ?_⟩
  obtain ⟨c_15,hm⟩:=chk_elim hm
  refine Wp.seqR fun K13 hK13=>?_
  simp only [go_sem,simprocAttr]
  first | apply hK13 | refine ⟨by first | exact sd | ((repeat' apply And.intro) <;> first | assumption | omega | (simp only [List.length_append,List.length_map,List.length_cons,List.length_nil,List.length_set,List.length_replicate] at c_15 ⊢; omega)),hK13 _ _ ?_⟩
  refine qS ?_
  refine qS ?_
  refine Wp.ret ?_
  refine retQ_ret ?_
  cases hm
  exact fse3
theorem ok_stage_isSum (s_1:Str) (z:Bool) (hm:stage_isSum s_1=some z):Does Tryz.prog 112 [.p (.s s_1)] [] (fun r X=>r=.p (.b z)∧X=[]):=by
 unfold stage_isSum at hm
 refine Does.of_wp 0 36 [.tmp 2] Tryz.func112 rfl (by decide) rfl rfl (Nat.le_of_ble_eq_true rfl) fun B=>?_
 refine qS ?_
 refine Wp.seqW fun K2 hK2 hW2=>?_
 obtain ⟨k_9,hk_9,hm⟩:=jp_elim hm
 have hcut2:∀ s,k_9 s=some z→K2 [(0,.p (.s s_1))] []:=by
  intro s hs
  have hm:=hk_9 _ hs
  clear hs
  try dsimp only at hm
  try dsimp only
  refine hK2 _ _ ?_
  refine qS ?_
  refine Wp.ret ?_
  refine retQ_ret ?_
  cases hm
  exact fse3
 clear hK2 hk_9
 refine qS ?_
 refine Wp.block ?_
 obtain ⟨k_12,hk_12,hm⟩:=forL_cont hm
 refine Wp.fact 0 fun hl_15=>?_
 replace hl_15:s_1.length≤274877906944:=by
  simp only [go_sem,simprocAttr,List.length_map] at hl_15
  omega
 refine Wp.forL (fun i_14 s=>[(0,.p (.s s_1)),(3,.p (.i .i64 (i_14:Int)))]) (fun i_14 s=>[]) ?_ hm ?_
 ·
  exact fse3
 clear hm
 intro i_14 s hii_14 hm
 try dsimp only at hm
 try dsimp only
 refine Wp.seqW fun K5 hK5 hW5=>?_
 refine qS ?_
 refine Wp.cond rfl ⟨⟩ (fun hc5=>?_) (fun hc5=>?_)
 rotate_left
 ·refine Wp.exit ?_
  have hm:=hk_12 _ (forL_end hm (ge_nat (by first | exact hc5 | simpa using hc5)))
  try dsimp only at hm
  refine hW2 _ _ _ _ ?_ (hcut2 () hm)
  exact fse3
 have hlt5:=lt_nat (by first | exact hc5 | simpa using hc5)
 have hw5:=wrap_succ hlt5 hl_15
 obtain ⟨c_16,nx_13,hxc_16,hyc_16,hnx_13,hm⟩:=forL_step hm hlt5
 clear hxc_16
 refine Wp.skip ?_
 simp only [thenQ]
 refine hK5 _ _ ?_
 refine Wp.seqW fun K7 hK7 hW7=>?_
 refine Wp.block ?_
 refine Wp.seqR fun K8 hK8=>?_
 simp only [go_sem,simprocAttr,hw5,hyc_16]
 first | apply hK8 | refine ⟨sd,hK8 _ _ ?_⟩
 refine cM hm (fun hc9 hm=>?_) (fun hc9 hm=>?_)
 ·refine Wp.seqR fun K10 hK10=>?_
  simp only [go_sem,simprocAttr,hw5,hyc_16]
  first | apply hK10 | refine ⟨sd,hK10 _ _ ?_⟩
  refine Wp.ret ?_
  refine retQ_ret ?_
  cases hm
  simp only [go_sem,simprocAttr,hw5,hyc_16]
  try exact se3
 ·refine Wp.skip ?_
  refine hK7 _ _ ?_
  refine Wp.region fun K11 hK11=>?_
  simp only [go_sem,simprocAttr,hw5,hyc_16]
  first | apply hK11 | refine ⟨sd,hK11 _ _ ?_⟩
  simp only [thenQ,blockQ,↓reduceIte]
  refine ⟨(),hlt5,hnx_13 _ hm,?_⟩
  simp only [go_sem,simprocAttr,hw5,hyc_16]
  try exact se3
theorem ok_disk_SumOf (text_1:Str) (z:Str) (hm:disk_SumOf text_1=some z):Does Tryz.prog 105 [.p (.s text_1)] [] (fun r X=>r=.p (.s z)∧X=[]):=by
 unfold disk_SumOf at hm
 refine Does.of_wp 0 39 [.tmp 2] Tryz.func105 rfl (by decide) rfl rfl (Nat.le_of_ble_eq_true rfl) fun B=>?_
 refine qS ?_
 refine qS ?_
 refine Wp.seqW fun K3 hK3 hW3=>?_
 obtain ⟨k_11,hk_11,hm⟩:=jp_elim hm
 have hcut3:∀ s,k_11 s=some z→K3 [(3,.p (.i .u64 s))] []:=by
  intro n_10 hs
  have hm:=hk_11 _ hs
  clear hs
  try dsimp only at hm
  try dsimp only
  refine hK3 _ _ ?_
  refine qS ?_
  refine Wp.seqW fun K5 hK5 hW5=>?_
  obtain ⟨k_27,hk_27,hm⟩:=jp_elim hm
  have hcut5:∀ s,k_27 s=some z→K5 [(5,.buf 0)] [.buf 5 1 (List.map ecI_u8 s)]:=by
   intro o0_26 hs
   have hm:=hk_27 _ hs
   clear hs
   try dsimp only at hm
   try dsimp only
   refine hK5 _ _ ?_
   refine qS ?_
   refine Wp.ret ?_
   refine retQ_ret ?_
   cases hm
   exact fse3
  clear hK5 hk_27
  refine qS ?_
  refine Wp.block ?_
  obtain ⟨k_37,hk_37,hm⟩:=loopN_cont hm
  refine Wp.loopN (fun s=>[(3,.p (.i .u64 n_10)),(5,.buf 0),(22,.p (.i .i64 ((List.replicate 16 0).length:Int))),(23,.p (.i .i64 s.1))]) (fun s=>[.buf 5 1 (List.map ecI_u8 s.2)]) ?_ hm ?_
  ·
   exact fse3
  clear hm
  intro s nx_38 hm
  obtain ⟨t23_32,o0_33⟩:=s
  try dsimp only at hm
  try dsimp only
  refine qS ?_
  refine Wp.seqW fun K9 hK9 hW9=>?_
  refine cM hm (fun hc10 hm=>?_) (fun hc10 hm=>?_)
  ·refine Wp.skip ?_
   refine hK9 _ _ ?_
   refine Wp.seqW fun K11 hK11 hW11=>?_
   refine Wp.block ?_
   refine qS ?_
   obtain ⟨c_39,hm⟩:=chk_elim hm
   obtain ⟨c_40,hbc_40,hxc_40,hm⟩:=idxS_elim hm
   replace hxc_40:((([48,49,50,51,52,53,54,55,56,57,97,98,99,100,101,102]:Str).getD ((bitsI .and .u64 (Int.fdiv n_10 (2 ^ (shI .u64 (IntKind.i64.wrap (60 - (IntKind.i64.wrap (4 * t23_32))))))) 15).toNat) 0).toNat:Int)=c_40:=hxc_40
   obtain ⟨c_41,hm⟩:=chk_elim hm
   refine Wp.region fun K13 hK13=>?_
   simp only [go_sem,simprocAttr,hxc_40]
   first | apply hK13 | refine ⟨by first | exact sd | ((repeat' apply And.intro) <;> first | assumption | omega | (simp only [List.length_append,List.length_map,List.length_cons,List.length_nil,List.length_set,List.length_replicate] at c_39 c_41 ⊢; omega)),hK13 _ _ ?_⟩
   refine hK11 _ _ ?_
   refine Wp.region fun K14 hK14=>?_
   simp only [go_sem,simprocAttr,hxc_40]
   first | apply hK14 | refine ⟨sd,hK14 _ _ ?_⟩
   simp only [thenQ,blockQ,↓reduceIte]
   refine ⟨(IntKind.i64.wrap (t23_32+1),List.set o0_33 t23_32.toNat c_40),hm,?_⟩
   simp only [go_sem,simprocAttr,hxc_40]
   try exact se3
  ·refine Wp.exit ?_
   simp only [thenQ,blockQ,↓reduceIte]
   have hm:=hk_37 _ hm
   try dsimp only at hm
   refine hW5 _ _ _ _ ?_ (hcut5 o0_33 hm)
   exact fse3
 clear hK3 hk_11
 refine qS ?_
 refine Wp.block ?_
 obtain ⟨k_45,hk_45,hm⟩:=forL_cont hm
 refine Wp.fact 0 fun hl_48=>?_
 replace hl_48:text_1.length≤274877906944:=by
  simp only [go_sem,simprocAttr,List.length_map] at hl_48
  omega
 refine Wp.forL (fun i_47 s=>[(0,.p (.s text_1)),(3,.p (.i .u64 s)),(4,.p (.i .i64 (i_47:Int)))]) (fun i_47 s=>[]) ?_ hm ?_
 ·
  exact fse3
 clear hm
 intro i_47 n_42 hii_47 hm
 try dsimp only at hm
 try dsimp only
 refine Wp.seqW fun K16 hK16 hW16=>?_
 refine qS ?_
 refine Wp.cond rfl ⟨⟩ (fun hc16=>?_) (fun hc16=>?_)
 rotate_left
 ·refine Wp.exit ?_
  have hm:=hk_45 _ (forL_end hm (ge_nat (by first | exact hc16 | simpa using hc16)))
  try dsimp only at hm
  refine hW3 _ _ _ _ ?_ (hcut3 n_42 hm)
  exact fse3
 have hlt16:=lt_nat (by first | exact hc16 | simpa using hc16)
 have hw16:=wrap_succ hlt16 hl_48
 obtain ⟨c_49,nx_46,hxc_49,hyc_49,hnx_46,hm⟩:=forL_step hm hlt16
 clear hxc_49
 refine Wp.skip ?_
 simp only [thenQ]
 refine hK16 _ _ ?_
 refine Wp.seqW fun K18 hK18 hW18=>?_
 refine Wp.block ?_
 refine Wp.region fun K19 hK19=>?_
 simp only [go_sem,simprocAttr,hw16,hyc_49]
 first | apply hK19 | refine ⟨sd,hK19 _ _ ?_⟩
 refine hK18 _ _ ?_
 refine Wp.region fun K20 hK20=>?_
 simp only [go_sem,simprocAttr,hw16,hyc_49]
 first | apply hK20 | refine ⟨sd,hK20 _ _ ?_⟩
 simp only [thenQ,blockQ,↓reduceIte]
 refine ⟨IntKind.u64.wrap ((bitsI .xor .u64 n_42 (IntKind.u64.wrap (c_49.toNat:Int))) * 1099511628211),hlt16,hnx_46 _ hm,?_⟩
 simp only [go_sem,simprocAttr,hw16,hyc_49]
 try exact se3
theorem ok_stage_ParseJournal (text_1:Str) (z:api_Journal × Int) (hm:stage_ParseJournal text_1=some z):Does Tryz.prog 40 [.p (.s text_1)] [] (fun r X=>r=.tup [.agg [.p (.s z.1.Id),.p (.l (List.map enc_api_Change z.1.Changes)),.p (.l (List.map enc_api_Change z.1.Old))],.p (.i .i64 z.2)]∧X=[]):=by
 unfold stage_ParseJournal at hm
 refine Does.of_wp 0 111 [.cell 2 69,.tmp 3] Tryz.func40 rfl (by decide) rfl rfl (Nat.le_of_ble_eq_true rfl) fun B=>?_
 refine qS ?_
 obtain ⟨r_2,hr_2,hm⟩:=call_elim hm
 refine Wp.seqR fun K2 hK2=>?_
 simp only [go_sem,simprocAttr]
 try refine ⟨sd,?_⟩
 refine Rg.callF (av:=?av3) (ok_strings_SplitAfter text_1 ([10]:Str) _ hr_2) si si sg ?cont3
 intro hv3
 simp only [go_sem,simprocAttr]
 first | apply hK2 | refine ⟨sd,hK2 _ _ ?_⟩
 obtain ⟨c_3,hm⟩:=chk_elim hm
 refine Wp.seqR fun K4 hK4=>?_
 simp only [go_sem,simprocAttr]
 first | apply hK4 | refine ⟨by first | exact sd | ((repeat' apply And.intro) <;> first | assumption | omega | (simp only [List.length_append,List.length_map,List.length_cons,List.length_nil,List.length_set,List.length_replicate] at c_3 ⊢; omega)),hK4 _ _ ?_⟩
 obtain ⟨r_4,hr_4,hm⟩:=call_elim hm
 refine Wp.seqR fun K5 hK5=>?_
 simp only [go_sem,simprocAttr]
 try refine ⟨sd,?_⟩
 refine Rg.callO (av:=?av6) [1] (ok_stage_reader_line_i1 ([106,111,117,114,110,97,108]:Str) (List.take ((IntKind.i64.wrap ((r_2.length:Int) - 1)).toNat) r_2) false _ hr_4) si si si sg sg ?cont6
 rintro _ _ ⟨rfl,rfl⟩ hv6
 simp only [go_sem,simprocAttr]
 first | apply hK5 | refine ⟨sd,hK5 _ _ ?_⟩
 refine qS ?_
 obtain ⟨r_5,hr_5,hm⟩:=call_elim hm
 refine Wp.seqR fun K8 hK8=>?_
 simp only [go_sem,simprocAttr]
 try refine ⟨sd,?_⟩
 refine Rg.callO (av:=?av9) [1] (ok_stage_reader_changes_i1 ([99,104,97,110,103,101,115]:Str) r_4.2.2 r_4.2.1 _ hr_5) si si si sg sg ?cont9
 rintro _ _ ⟨rfl,rfl⟩ hv9
 simp only [go_sem,simprocAttr]
 first | apply hK8 | refine ⟨sd,hK8 _ _ ?_⟩
 obtain ⟨r_6,hr_6,hm⟩:=call_elim hm
 refine Wp.seqR fun K10 hK10=>?_
 simp only [go_sem,simprocAttr]
 try refine ⟨sd,?_⟩
 refine Rg.callO (av:=?av11) [1] (ok_stage_reader_changes_i1 ([111,108,100]:Str) r_5.2.2.1 r_5.2.2.2 _ hr_6) si si si sg sg ?cont11
 rintro _ _ ⟨rfl,rfl⟩ hv11
 simp only [go_sem,simprocAttr]
 first | apply hK10 | refine ⟨sd,hK10 _ _ ?_⟩
 refine qS ?_
 refine Wp.seqW fun K13 hK13 hW13=>?_
 obtain ⟨k_9,hk_9,hm⟩:=jp_elim hm
 have hcut13:∀ s,k_9 s=some z→K13 [(0,.p (.s text_1)),(2,.ptr 0 0),(4,.p (.l (List.map ecS r_2))),(5,.ptr 1 0),(6,.ptr 2 0),(7,.p (.i .i64 r_5.2.1)),(8,.p (.i .i64 r_6.2.1)),(9,.p (.i .i64 s))] [.cells 69 [.p (.s []),.nils,.nils],.cells 159 [.p (.l (List.map ecS r_6.2.2.1)),.p (.b r_6.2.2.2)],.cells 69 [.p (.s r_4.1),.p (.l (List.map enc_api_Change r_5.1)),.p (.l (List.map enc_api_Change r_6.1))]]:=by
  intro ahead_8 hs
  have hm:=hk_9 _ hs
  clear hs
  try dsimp only at hm
  try dsimp only
  refine hK13 _ _ ?_
  obtain ⟨r_10,hr_10,hm⟩:=call_elim hm
  refine Wp.seqR fun K14 hK14=>?_
  simp only [go_sem,simprocAttr]
  try refine ⟨sd,?_⟩
  refine Rg.callO (av:=?av15) [1] (ok_stage_reader_line_i1 ([115,117,109]:Str) r_6.2.2.1 r_6.2.2.2 _ hr_10) si si si sg sg ?cont15
  rintro _ _ ⟨rfl,rfl⟩ hv15
  simp only [go_sem,simprocAttr]
  first | apply hK14 | refine ⟨sd,hK14 _ _ ?_⟩
  refine Wp.seqW fun K16 hK16 hW16=>?_
  obtain ⟨c_11,hm⟩:=chk_elim hm
  obtain ⟨r_12,hr_12,hm⟩:=callG_elim hm
  have hr_13:=getD_enc (l:=r_2) (e:=ecS) (d:=[]) (i:=(IntKind.i64.wrap ((r_2.length:Int) - 1)).toNat)
  simp only [ecS,List.map_nil] at hr_13
  refine Wp.seqR fun K17 hK17=>?_
  simp only [go_sem,simprocAttr,hr_13]
  try refine ⟨by first | exact sd | ((repeat' apply And.intro) <;> first | assumption | omega | (simp only [List.length_append,List.length_map,List.length_cons,List.length_nil,List.length_set,List.length_replicate] at c_11 ⊢; omega)),?_⟩
  refine Rg.callX (av:=?av18) (g:=!((r_10.2.1 || (decide (0 < (r_10.2.2.length:Int)))) || (!decide ((r_2.getD ((IntKind.i64.wrap ((r_2.length:Int) - 1)).toNat) [])=[])))) (fun hg=>ok_stage_isSum r_10.1 _ (hr_12 hg)) (by simp only [go_sem,simprocAttr,hr_13]; exact Is.mk) (by simp only [go_sem,simprocAttr,hr_13]; exact Is.mk) (by simp only [go_sem,simprocAttr,hr_13]; exact Is.mk) (by simp only [go_sem,simprocAttr,hr_13]) (by simp only [go_sem,simprocAttr,hr_13]; exact Is.mk) ?cont18
  intro hv18
  simp only [go_sem,simprocAttr,hr_13]
  first | apply hK17 | refine ⟨by first | exact sd | ((repeat' apply And.intro) <;> first | assumption | omega | (simp only [List.length_append,List.length_map,List.length_cons,List.length_nil,List.length_set,List.length_replicate] at c_11 ⊢; omega)),hK17 _ _ ?_⟩
  refine cM hm (fun hc19 hm=>?_) (fun hc19 hm=>?_)
  ·refine qS ?_
   refine Wp.ret ?_
   simp only [thenQ,blockQ]
   refine retQ_retE ?_
   cases hm
   exact fse3
  ·refine Wp.skip ?_
   refine hK16 _ _ ?_
   refine Wp.seqW fun K21 hK21 hW21=>?_
   refine Wp.block ?_
   obtain ⟨c_14,hm⟩:=chk_elim hm
   obtain ⟨r_15,hr_15,hm⟩:=call_elim hm
   refine Wp.seqR fun K22 hK22=>?_
   simp only [go_sem,simprocAttr]
   try refine ⟨by first | exact sd | ((repeat' apply And.intro) <;> first | assumption | omega | (simp only [List.length_append,List.length_map,List.length_cons,List.length_nil,List.length_set,List.length_replicate] at c_14 ⊢; omega)),?_⟩
   refine Rg.callX (av:=?av23) (g:=true) (fun hg=>ok_disk_SumOf (List.take ahead_8.toNat text_1) _ hr_15) si si si sg si ?cont23
   intro hv23
   simp only [go_sem,simprocAttr]
   first | apply hK22 | refine ⟨by first | exact sd | ((repeat' apply And.intro) <;> first | assumption | omega | (simp only [List.length_append,List.length_map,List.length_cons,List.length_nil,List.length_set,List.length_replicate] at c_14 ⊢; omega)),hK22 _ _ ?_⟩
   refine cM hm (fun hc24 hm=>?_) (fun hc24 hm=>?_)
   ·refine qS ?_
    refine Wp.ret ?_
    simp only [thenQ,blockQ]
    refine retQ_retE ?_
    cases hm
    exact fse3
   ·obtain ⟨r_16,hr_16,hm⟩:=call_elim hm
    refine Wp.seqR fun K26 hK26=>?_
    simp only [go_sem,simprocAttr]
    try refine ⟨sd,?_⟩
    refine Rg.callX (av:=?av27) (g:=true) (fun hg=>ok_ver_IsName r_4.1 _ hr_16) si si si sg si ?cont27
    intro hv27
    simp only [go_sem,simprocAttr]
    first | apply hK26 | refine ⟨sd,hK26 _ _ ?_⟩
    refine cM hm (fun hc28 hm=>?_) (fun hc28 hm=>?_)
    ·refine qS ?_
     refine Wp.ret ?_
     simp only [thenQ,blockQ]
     refine retQ_retE ?_
     cases hm
     exact fse3
    ·refine qS ?_
     refine cM hm (fun hc31 hm=>?_) (fun hc31 hm=>?_)
     ·refine qS ?_
      refine Wp.ret ?_
      simp only [thenQ,blockQ]
      refine retQ_retE ?_
      cases hm
      exact fse3
     ·refine qS ?_
      refine cM hm (fun hc34 hm=>?_) (fun hc34 hm=>?_)
      ·refine qS ?_
       refine Wp.ret ?_
       simp only [thenQ,blockQ]
       refine retQ_retE ?_
       cases hm
       exact fse3
      ·refine qS ?_
       refine cM hm (fun hc37 hm=>?_) (fun hc37 hm=>?_)
       ·refine qS ?_
        refine Wp.ret ?_
        simp only [thenQ,blockQ]
        refine retQ_retE ?_
        cases hm
        exact fse3
       ·refine Wp.skip ?_
        refine hK21 _ _ ?_
        refine qS ?_
        refine Wp.ret ?_
        refine retQ_ret ?_
        cases hm
        exact fse3
 clear hK13 hk_9
 refine qS ?_
 refine cM hm (fun hc41 hm=>?_) (fun hc41 hm=>?_)
 ·obtain ⟨s_17,hbs_17,hxs_17,hys_17,hm⟩:=idx_elim hm
  replace hxs_17:∀ d,(List.map ecS r_6.2.2.1).getD 0 d=ecS s_17:=hxs_17 ecS
  refine Wp.region fun K42 hK42=>?_
  simp only [go_sem,simprocAttr,hxs_17]
  first | apply hK42 | refine ⟨sd,hK42 _ _ ?_⟩
  refine hW13 _ _ _ _ ?_ (hcut13 (IntKind.i64.wrap ((text_1.length:Int) - (s_17.length:Int))) hm)
  simp only [go_sem,simprocAttr,hxs_17]
  try exact se3
 ·refine Wp.skip ?_
  refine hW13 _ _ _ _ ?_ (hcut13 (text_1.length:Int) hm)
  exact fse3
theorem ok_disk_Quote (s_1:Str) (z:Str) (hm:disk_Quote s_1=some z):Does Tryz.prog 223 [.p (.s s_1)] [] (fun r X=>r=.p (.s z)∧X=[]):=by
 unfold disk_Quote at hm
 refine Does.of_wp 0 63 [.tmp 2] Tryz.func223 rfl (by decide) rfl rfl (Nat.le_of_ble_eq_true rfl) fun B=>?_
 refine qS ?_
 obtain ⟨c_2,hm⟩:=chk_elim hm
 refine Wp.seqR fun K2 hK2=>?_
 simp only [go_sem,simprocAttr]
 first | apply hK2 | refine ⟨by first | exact sd | ((repeat' apply And.intro) <;> first | assumption | omega | (simp only [List.length_append,List.length_map,List.length_cons,List.length_nil,List.length_set,List.length_replicate] at c_2 ⊢; omega)),hK2 _ _ ?_⟩
 obtain ⟨c_3,hm⟩:=chk_elim hm
 refine Wp.seqR fun K3 hK3=>?_
 simp only [go_sem,simprocAttr]
 first | apply hK3 | refine ⟨by first | exact sd | ((repeat' apply And.intro) <;> first | assumption | omega | (simp only [List.length_append,List.length_map,List.length_cons,List.length_nil,List.length_set,List.length_replicate] at c_3 ⊢; omega)),hK3 _ _ ?_⟩
 refine Wp.seqW fun K4 hK4 hW4=>?_
 obtain ⟨k_33,hk_33,hm⟩:=jp_elim hm
 have hcut4:∀ s,k_33 s=some z→K4 [(3,.buf 0)] [.buf 5 1 (List.map ecI_u8 s)]:=by
  intro o0_32 hs
  have hm:=hk_33 _ hs
  clear hs
  try dsimp only at hm
  try dsimp only
  refine hK4 _ _ ?_
  obtain ⟨c_34,hm⟩:=chk_elim hm
  refine Wp.seqR fun K5 hK5=>?_
  simp only [go_sem,simprocAttr]
  first | apply hK5 | refine ⟨by first | exact sd | ((repeat' apply And.intro) <;> first | assumption | omega | (simp only [List.length_append,List.length_map,List.length_cons,List.length_nil,List.length_set,List.length_replicate] at c_34 ⊢; omega)),hK5 _ _ ?_⟩
  refine Wp.ret ?_
  refine retQ_ret ?_
  cases hm
  exact fse4
 clear hK4 hk_33
 refine qS ?_
 refine Wp.block ?_
 obtain ⟨k_52,hk_52,hm⟩:=forL_cont hm
 refine Wp.fact 0 fun hl_55=>?_
 replace hl_55:s_1.length≤274877906944:=by
  simp only [go_sem,simprocAttr,List.length_map] at hl_55
  omega
 refine Wp.forL (fun i_54 s=>[(0,.p (.s s_1)),(3,.buf 0),(4,.p (.i .i64 (i_54:Int)))]) (fun i_54 s=>[.buf 5 1 (List.map ecI_u8 s)]) ?_ hm ?_
 ·
  exact fse4
 clear hm
 intro i_54 o0_44 hii_54 hm
 try dsimp only at hm
 try dsimp only
 refine Wp.seqW fun K7 hK7 hW7=>?_
 refine qS ?_
 refine Wp.cond rfl ⟨⟩ (fun hc7=>?_) (fun hc7=>?_)
 rotate_left
 ·refine Wp.exit ?_
  have hm:=hk_52 _ (forL_end hm (ge_nat (by first | exact hc7 | simpa using hc7)))
  try dsimp only at hm
  refine hW4 _ _ _ _ ?_ (hcut4 o0_44 hm)
  exact fse4
 have hlt7:=lt_nat (by first | exact hc7 | simpa using hc7)
 have hw7:=wrap_succ hlt7 hl_55
 obtain ⟨c_56,nx_53,hxc_56,hyc_56,hnx_53,hm⟩:=forL_step hm hlt7
 clear hxc_56
 refine Wp.skip ?_
 simp only [thenQ]
 refine hK7 _ _ ?_
 refine Wp.seqW fun K9 hK9 hW9=>?_
 refine Wp.block ?_
 refine Wp.seqR fun K10 hK10=>?_
 simp only [go_sem,simprocAttr,hw7,hyc_56]
 first | apply hK10 | refine ⟨sd,hK10 _ _ ?_⟩
 refine Wp.block ?_
 refine Wp.seqR fun K11 hK11=>?_
 simp only [go_sem,simprocAttr,hw7,hyc_56]
 first | apply hK11 | refine ⟨sd,hK11 _ _ ?_⟩
 refine cM hm (fun hc12 hm=>?_) (fun hc12 hm=>?_)
 ·obtain ⟨c_57,hm⟩:=chk_elim hm
  refine Wp.region fun K13 hK13=>?_
  simp only [go_sem,simprocAttr,hw7,hyc_56]
  first | apply hK13 | refine ⟨by first | exact sd | ((repeat' apply And.intro) <;> first | assumption | omega | (simp only [List.length_append,List.length_map,List.length_cons,List.length_nil,List.length_set,List.length_replicate] at c_57 ⊢; omega)),hK13 _ _ ?_⟩
  refine hK9 _ _ ?_
  refine Wp.region fun K14 hK14=>?_
  simp only [go_sem,simprocAttr,hw7,hyc_56]
  first | apply hK14 | refine ⟨sd,hK14 _ _ ?_⟩
  simp only [thenQ,blockQ,↓reduceIte]
  refine ⟨o0_44++[92,(c_56.toNat:Int)],hlt7,hnx_53 _ hm,?_⟩
  simp only [go_sem,simprocAttr,hw7,hyc_56]
  try exact se4
 ·refine Wp.seqR fun K15 hK15=>?_
  simp only [go_sem,simprocAttr,hw7,hyc_56]
  first | apply hK15 | refine ⟨sd,hK15 _ _ ?_⟩
  refine cM hm (fun hc16 hm=>?_) (fun hc16 hm=>?_)
  ·obtain ⟨c_58,hm⟩:=chk_elim hm
   refine Wp.region fun K17 hK17=>?_
   simp only [go_sem,simprocAttr,hw7,hyc_56]
   first | apply hK17 | refine ⟨by first | exact sd | ((repeat' apply And.intro) <;> first | assumption | omega | (simp only [List.length_append,List.length_map,List.length_cons,List.length_nil,List.length_set,List.length_replicate] at c_58 ⊢; omega)),hK17 _ _ ?_⟩
   refine hK9 _ _ ?_
   refine Wp.region fun K18 hK18=>?_
   simp only [go_sem,simprocAttr,hw7,hyc_56]
   first | apply hK18 | refine ⟨sd,hK18 _ _ ?_⟩
   simp only [thenQ,blockQ,↓reduceIte]
   refine ⟨o0_44++[92,110],hlt7,hnx_53 _ hm,?_⟩
   simp only [go_sem,simprocAttr,hw7,hyc_56]
   try exact se4
  ·refine Wp.seqR fun K19 hK19=>?_
   simp only [go_sem,simprocAttr,hw7,hyc_56]
   first | apply hK19 | refine ⟨sd,hK19 _ _ ?_⟩
   refine cM hm (fun hc20 hm=>?_) (fun hc20 hm=>?_)
   ·obtain ⟨c_59,hbc_59,hxc_59,hm⟩:=idxS_elim hm
    replace hxc_59:((([48,49,50,51,52,53,54,55,56,57,97,98,99,100,101,102]:Str).getD ((Int.fdiv (c_56.toNat:Int) (2 ^ (shI .u8 4))).toNat) 0).toNat:Int)=c_59:=hxc_59
    obtain ⟨c_60,hbc_60,hxc_60,hm⟩:=idxS_elim hm
    replace hxc_60:((([48,49,50,51,52,53,54,55,56,57,97,98,99,100,101,102]:Str).getD ((bitsI .and .u8 (c_56.toNat:Int) 15).toNat) 0).toNat:Int)=c_60:=hxc_60
    obtain ⟨c_61,hm⟩:=chk_elim hm
    refine Wp.regD (plan:=pl [(0,none),(1,none),(2,none),(3,none),(4,none),(5,none),(6,none),(7,some [0]),(8,some []),(9,none)]) (by kernel_rfl) rfl (by kernel_rfl) fun K21 hK21=>?_
    simp only [go_sem,simprocAttr,hw7,hyc_56,hxc_59,hxc_60]
    first | apply hK21 | refine ⟨by first | exact sd | ((repeat' apply And.intro) <;> first | assumption | omega | (simp only [List.length_append,List.length_map,List.length_cons,List.length_nil,List.length_set,List.length_replicate] at c_61 ⊢; omega)),hK21 _ _ ?_⟩
    refine hK9 _ _ ?_
    refine Wp.region fun K22 hK22=>?_
    simp only [go_sem,simprocAttr,hw7,hyc_56,hxc_59,hxc_60]
    first | apply hK22 | refine ⟨sd,hK22 _ _ ?_⟩
    simp only [thenQ,blockQ,↓reduceIte]
    refine ⟨o0_44++[92,120,c_59,c_60],hlt7,hnx_53 _ hm,?_⟩
    simp only [go_sem,simprocAttr,hw7,hyc_56,hxc_59,hxc_60]
    try exact se4
   ·obtain ⟨c_62,hm⟩:=chk_elim hm
    refine Wp.region fun K23 hK23=>?_
    simp only [go_sem,simprocAttr,hw7,hyc_56]
    first | apply hK23 | refine ⟨by first | exact sd | ((repeat' apply And.intro) <;> first | assumption | omega | (simp only [List.length_append,List.length_map,List.length_cons,List.length_nil,List.length_set,List.length_replicate] at c_62 ⊢; omega)),hK23 _ _ ?_⟩
    refine hK9 _ _ ?_
    refine Wp.region fun K24 hK24=>?_
    simp only [go_sem,simprocAttr,hw7,hyc_56]
    first | apply hK24 | refine ⟨sd,hK24 _ _ ?_⟩
    simp only [thenQ,blockQ,↓reduceIte]
    refine ⟨o0_44++[(c_56.toNat:Int)],hlt7,hnx_53 _ hm,?_⟩
    simp only [go_sem,simprocAttr,hw7,hyc_56]
    try exact se4
theorem ok_disk_fileLine (word_1:Str) (runs_2:Str) (f_3:api_File) (z:Str) (hm:disk_fileLine word_1 runs_2 f_3=some z):Does Tryz.prog 171 [.p (.s word_1),.p (.s runs_2),.agg [.p (.s f_3.Path),.p (.s f_3.Data),.p (.b f_3.Runs)]] [] (fun r X=>r=.p (.s z)∧X=[]):=by
 unfold disk_fileLine at hm
 refine Does.of_wp 0 21 [.tmp 6] Tryz.func171 rfl (by decide) rfl rfl (Nat.le_of_ble_eq_true rfl) fun B=>?_
 refine qS ?_
 refine Wp.seqW fun K2 hK2 hW2=>?_
 obtain ⟨k_5,hk_5,hm⟩:=jp_elim hm
 have hcut2:∀ s,k_5 s=some z→K2 [(0,.p (.s s)),(5,.ptr 0 0)] [.cells 38 [.p (.s f_3.Path),.p (.s f_3.Data),.p (.b f_3.Runs)]]:=by
  intro word_4 hs
  have hm:=hk_5 _ hs
  clear hs
  try dsimp only at hm
  try dsimp only
  refine hK2 _ _ ?_
  obtain ⟨c_6,hm⟩:=chk_elim hm
  obtain ⟨c_7,hm⟩:=chk_elim hm
  obtain ⟨c_8,hm⟩:=chk_elim hm
  obtain ⟨r_9,hr_9,hm⟩:=call_elim hm
  obtain ⟨c_10,hm⟩:=chk_elim hm
  obtain ⟨c_11,hm⟩:=chk_elim hm
  refine Wp.seqD (plan:=pl [(0,none),(1,none),(2,none),(3,none),(4,none),(5,none),(6,none),(7,none),(8,none),(9,none),(10,none),(11,none)]) (by kernel_rfl) rfl (by kernel_rfl) fun K3 hK3=>?_
  simp only [go_sem,simprocAttr]
  try refine ⟨by first | exact sd | ((repeat' apply And.intro) <;> first | assumption | omega | (simp only [List.length_append,List.length_map,List.length_cons,List.length_nil,List.length_set,List.length_replicate] at c_6 c_7 c_8 c_10 c_11 ⊢; omega)),?_⟩
  refine Dr.callF (av:=?av4) (g:=true) (o:=?o4) (fun hg=>ok_disk_Quote f_3.Data _ hr_9) si si si si sg si ?cont4
  simp only [go_sem,simprocAttr]
  first | apply hK3 | refine ⟨by first | exact sd | ((repeat' apply And.intro) <;> first | assumption | omega | (simp only [List.length_append,List.length_map,List.length_cons,List.length_nil,List.length_set,List.length_replicate] at c_6 c_7 c_8 c_10 c_11 ⊢; omega)),hK3 _ _ ?_⟩
  refine Wp.ret ?_
  refine retQ_ret ?_
  cases hm
  exact fse4
 clear hK2 hk_5
 refine qS ?_
 refine cM hm (fun hc6 hm=>?_) (fun hc6 hm=>?_)
 ·refine qR ?_
  refine hW2 _ _ _ _ ?_ (hcut2 runs_2 hm)
  exact fse4
 ·refine Wp.skip ?_
  refine hW2 _ _ _ _ ?_ (hcut2 word_1 hm)
  exact fse4
theorem ok_disk_settingLine (word_1:Str) (s_2:api_Setting) (z:Str) (hm:disk_settingLine word_1 s_2=some z):Does Tryz.prog 172 [.p (.s word_1),.agg [.p (.s s_2.Key),.p (.s s_2.Value)]] [] (fun r X=>r=.p (.s z)∧X=[]):=by
 unfold disk_settingLine at hm
 refine Does.of_wp 0 16 [.tmp 4] Tryz.func172 rfl (by decide) rfl rfl (Nat.le_of_ble_eq_true rfl) fun B=>?_
 refine qS ?_
 obtain ⟨c_3,hm⟩:=chk_elim hm
 obtain ⟨c_4,hm⟩:=chk_elim hm
 obtain ⟨c_5,hm⟩:=chk_elim hm
 obtain ⟨r_6,hr_6,hm⟩:=call_elim hm
 obtain ⟨c_7,hm⟩:=chk_elim hm
 obtain ⟨c_8,hm⟩:=chk_elim hm
 refine Wp.seqD (plan:=pl [(0,none),(1,none),(2,none),(3,none),(4,none),(5,none),(6,none),(7,none),(8,none),(9,none),(10,none),(11,none)]) (by kernel_rfl) rfl (by kernel_rfl) fun K2 hK2=>?_
 simp only [go_sem,simprocAttr]
 try refine ⟨by first | exact sd | ((repeat' apply And.intro) <;> first | assumption | omega | (simp only [List.length_append,List.length_map,List.length_cons,List.length_nil,List.length_set,List.length_replicate] at c_3 c_4 c_5 c_7 c_8 ⊢; omega)),?_⟩
 refine Dr.callF (av:=?av3) (g:=true) (o:=?o3) (fun hg=>ok_disk_Quote s_2.Value _ hr_6) si si si si sg si ?cont3
 simp only [go_sem,simprocAttr]
 first | apply hK2 | refine ⟨by first | exact sd | ((repeat' apply And.intro) <;> first | assumption | omega | (simp only [List.length_append,List.length_map,List.length_cons,List.length_nil,List.length_set,List.length_replicate] at c_3 c_4 c_5 c_7 c_8 ⊢; omega)),hK2 _ _ ?_⟩
 refine Wp.ret ?_
 refine retQ_ret ?_
 cases hm
 exact fse4
theorem ok_disk_bit (b_1:Bool) (z:Str) (hm:disk_bit b_1=some z):Does Tryz.prog 224 [.p (.b b_1)] [] (fun r X=>r=.p (.s z)∧X=[]):=by
 unfold disk_bit at hm
 refine Does.of_wp 0 4 [.tmp 2] Tryz.func224 rfl (by decide) rfl rfl (Nat.le_of_ble_eq_true rfl) fun B=>?_
 refine qS ?_
 refine Wp.seqW fun K2 hK2 hW2=>?_
 refine qS ?_
 refine cM hm (fun hc4 hm=>?_) (fun hc4 hm=>?_)
 ·refine qS ?_
  refine Wp.ret ?_
  refine retQ_ret ?_
  cases hm
  exact fse4
 ·refine Wp.skip ?_
  refine hK2 _ _ ?_
  refine qS ?_
  refine Wp.ret ?_
  refine retQ_ret ?_
  cases hm
  exact fse4
theorem ok_disk_serviceLine (s_1:api_Service) (z:Str) (hm:disk_serviceLine s_1=some z):Does Tryz.prog 173 [.agg [.p (.s s_1.Name),.p (.s s_1.Path),.p (.b s_1.Auto),.p (.b s_1.On)]] [] (fun r X=>r=.p (.s z)∧X=[]):=by
 unfold disk_serviceLine at hm
 refine Does.of_wp 0 21 [.tmp 2] Tryz.func173 rfl (by decide) rfl rfl (Nat.le_of_ble_eq_true rfl) fun B=>?_
 refine qS ?_
 obtain ⟨c_2,hm⟩:=chk_elim hm
 obtain ⟨c_3,hm⟩:=chk_elim hm
 obtain ⟨c_4,hm⟩:=chk_elim hm
 obtain ⟨c_5,hm⟩:=chk_elim hm
 obtain ⟨r_6,hr_6,hm⟩:=call_elim hm
 obtain ⟨c_7,hm⟩:=chk_elim hm
 obtain ⟨c_8,hm⟩:=chk_elim hm
 obtain ⟨r_9,hr_9,hm⟩:=call_elim hm
 obtain ⟨c_10,hm⟩:=chk_elim hm
 obtain ⟨c_11,hm⟩:=chk_elim hm
 refine Wp.seqD (plan:=pl [(0,none),(1,none),(2,none),(3,none),(4,none),(5,none),(6,none),(7,none),(8,none),(9,none),(10,none),(11,none),(12,none),(13,none),(14,none),(15,none),(16,none),(17,none),(18,none)]) (by kernel_rfl) rfl (by kernel_rfl) fun K2 hK2=>?_
 simp only [go_sem,simprocAttr]
 try refine ⟨by first | exact sd | ((repeat' apply And.intro) <;> first | assumption | omega | (simp only [List.length_append,List.length_map,List.length_cons,List.length_nil,List.length_set,List.length_replicate] at c_2 c_3 c_4 c_5 c_7 c_8 c_10 c_11 ⊢; omega)),?_⟩
 refine Dr.callF (av:=?av3) (g:=true) (o:=?o3) (fun hg=>ok_disk_bit s_1.Auto _ hr_6) si si si si sg si ?cont3
 simp only [go_sem,simprocAttr]
 try refine ⟨by first | exact sd | ((repeat' apply And.intro) <;> first | assumption | omega | (simp only [List.length_append,List.length_map,List.length_cons,List.length_nil,List.length_set,List.length_replicate] at c_2 c_3 c_4 c_5 c_7 c_8 c_10 c_11 ⊢; omega)),?_⟩
 refine Dr.callF (av:=?av4) (g:=true) (o:=?o4) (fun hg=>ok_disk_bit s_1.On _ hr_9) si si si si sg si ?cont4
 simp only [go_sem,simprocAttr]
 first | apply hK2 | refine ⟨by first | exact sd | ((repeat' apply And.intro) <;> first | assumption | omega | (simp only [List.length_append,List.length_map,List.length_cons,List.length_nil,List.length_set,List.length_replicate] at c_2 c_3 c_4 c_5 c_7 c_8 c_10 c_11 ⊢; omega)),hK2 _ _ ?_⟩
 refine Wp.ret ?_
 refine retQ_ret ?_
 cases hm
 exact fse4
theorem ok_disk_sized (s_1:Str) (z:Str × Int) (hm:disk_sized s_1=some z):Does Tryz.prog 174 [.p (.s s_1)] [] (fun r X=>r=.tup [.p (.s z.1),.p (.i .i64 z.2)]∧X=[]):=by
 unfold disk_sized at hm
 refine Does.of_wp 0 8 [.tmp 2,.tmp 3] Tryz.func174 rfl (by decide) rfl rfl (Nat.le_of_ble_eq_true rfl) fun B=>?_
 refine qS ?_
 refine Wp.seqW fun K2 hK2 hW2=>?_
 refine qS ?_
 refine cM hm (fun hc4 hm=>?_) (fun hc4 hm=>?_)
 ·refine qS ?_
  refine Wp.ret ?_
  refine retQ_ret ?_
  cases hm
  exact fse4
 ·refine Wp.skip ?_
  refine hK2 _ _ ?_
  refine qS ?_
  refine Wp.ret ?_
  refine retQ_ret ?_
  cases hm
  exact fse4
theorem ok_disk_PrintChanges (l_1:List api_Change) (z:Str × Int) (hm:disk_PrintChanges l_1=some z):Does Tryz.prog 103 [.p (.l (List.map enc_api_Change l_1))] [] (fun r X=>r=.tup [.p (.s z.1),.p (.i .i64 z.2)]∧X=[]):=by
 unfold disk_PrintChanges at hm
 refine Does.of_wp 0 66 [.tmp 2,.tmp 3] Tryz.func103 rfl (by decide) rfl rfl (Nat.le_of_ble_eq_true rfl) fun B=>?_
 refine qS ?_
 refine Wp.seqW fun K2 hK2 hW2=>?_
 obtain ⟨r_2,hr_2,hm⟩:=call_elim hm
 refine Wp.seqR fun K3 hK3=>?_
 simp only [go_sem,simprocAttr]
 try refine ⟨sd,?_⟩
 refine Rg.callX (av:=?av4) (g:=true) (fun hg=>ok_disk_changesFault l_1 _ hr_2) si si si sg si ?cont4
 intro hv4
 simp only [go_sem,simprocAttr]
 first | apply hK3 | refine ⟨sd,hK3 _ _ ?_⟩
 refine qS ?_
 refine cM hm (fun hc6 hm=>?_) (fun hc6 hm=>?_)
 ·refine qS ?_
  refine Wp.ret ?_
  refine retQ_ret ?_
  cases hm
  exact fse4
 ·refine Wp.skip ?_
  refine hK2 _ _ ?_
  refine qS ?_
  refine Wp.adoptB 0 5 rfl ?_
  simp only [go_sem,simprocAttr]
  refine Wp.seqW fun K9 hK9 hW9=>?_
  obtain ⟨k_59,hk_59,hm⟩:=jp_elim hm
  have hcut9:∀ s,k_59 s=some z→K9 [(5,.ptr 0 0)] [.cells 211 [.np 0,.buf 1],.sb 5 s]:=by
   intro o1_58 hs
   have hm:=hk_59 _ hs
   clear hs
   try dsimp only at hm
   try dsimp only
   refine hK9 _ _ ?_
   obtain ⟨r_60,hr_60,hm⟩:=call_elim hm
   obtain ⟨r_61,hr_61,hm⟩:=call_elim hm
   refine Wp.seqR fun K10 hK10=>?_
   simp only [go_sem,simprocAttr]
   try refine ⟨sd,?_⟩
   refine Rg.callO (av:=?av11) [0,1] (ok_strings_Builder_String_i1 o1_58 _ hr_60) si si si sg sg ?cont11
   rintro _ _ ⟨rfl,rfl⟩ hv11
   simp only [go_sem,simprocAttr]
   try refine ⟨sd,?_⟩
   refine Rg.callX (av:=?av12) (g:=true) (fun hg=>ok_disk_sized r_60 _ hr_61) si si si sg si ?cont12
   intro hv12
   simp only [go_sem,simprocAttr]
   first | apply hK10 | refine ⟨sd,hK10 _ _ ?_⟩
   refine Wp.ret ?_
   refine retQ_ret ?_
   cases hm
   exact fse4
  clear hK9 hk_59
  refine qS ?_
  refine Wp.block ?_
  obtain ⟨k_97,hk_97,hm⟩:=forL_cont hm
  refine Wp.fact 13 fun hl_100=>?_
  replace hl_100:l_1.length≤274877906944:=by
   simp only [go_sem,simprocAttr,List.length_map] at hl_100
   omega
  refine Wp.forL (fun i_99 s=>[(5,.ptr 0 0),(13,.p (.l (List.map enc_api_Change l_1))),(14,.p (.i .i64 (l_1.length:Int))),(15,.p (.i .i64 (i_99:Int)))]) (fun i_99 s=>[.cells 211 [.np 0,.buf 1],.sb 5 s]) ?_ hm ?_
  ·
   exact fse4
  clear hm
  intro i_99 o1_80 hii_99 hm
  try dsimp only at hm
  try dsimp only
  refine qS ?_
  refine Wp.seqW fun K15 hK15 hW15=>?_
  refine Wp.cond rfl ⟨⟩ (fun hc15=>?_) (fun hc15=>?_)
  rotate_left
  ·refine Wp.exit ?_
   have hm:=hk_97 _ (forL_end hm (ge_nat (by first | exact hc15 | simpa using hc15)))
   try dsimp only at hm
   refine hW9 _ _ _ _ ?_ (hcut9 o1_80 hm)
   exact fse4
  have hlt15:=lt_nat (by first | exact hc15 | simpa using hc15)
  have hw15:=wrap_succ hlt15 hl_100
  obtain ⟨c_101,nx_98,hxc_101,hyc_101,hnx_98,hm⟩:=forL_step hm hlt15
  replace hxc_101:=hxc_101 enc_api_Change
  refine Wp.skip ?_
  simp only [thenQ]
  refine hK15 _ _ ?_
  refine Wp.seqW fun K16 hK16 hW16=>?_
  refine Wp.block ?_
  refine Wp.seqR fun K17 hK17=>?_
  simp only [go_sem,simprocAttr,hw15,hxc_101]
  first | apply hK17 | refine ⟨sd,hK17 _ _ ?_⟩
  refine Wp.seqR fun K18 hK18=>?_
  simp only [go_sem,simprocAttr,hw15,hxc_101]
  first | apply hK18 | refine ⟨sd,hK18 _ _ ?_⟩
  refine Wp.block ?_
  refine Wp.seqR fun K19 hK19=>?_
  simp only [go_sem,simprocAttr,hw15,hxc_101]
  first | apply hK19 | refine ⟨sd,hK19 _ _ ?_⟩
  refine cM hm (fun hc20 hm=>?_) (fun hc20 hm=>?_)
  ·obtain ⟨r_102,hr_102,hm⟩:=call_elim hm
   obtain ⟨r_103,hr_103,hm⟩:=call_elim hm
   refine Wp.region fun K21 hK21=>?_
   simp only [go_sem,simprocAttr,hw15,hxc_101]
   try refine ⟨sd,?_⟩
   refine Rg.callX (av:=?av22) (g:=true) (fun hg=>ok_disk_fileLine ([112,117,116]:Str) ([112,117,116,114,117,110]:Str) c_101.File _ hr_102) (by simp only [go_sem,simprocAttr,hw15,hxc_101]; exact Is.mk) (by simp only [go_sem,simprocAttr,hw15,hxc_101]; exact Is.mk) (by simp only [go_sem,simprocAttr,hw15,hxc_101]; exact Is.mk) (by simp only [go_sem,simprocAttr,hw15,hxc_101]) (by simp only [go_sem,simprocAttr,hw15,hxc_101]; exact Is.mk) ?cont22
   intro hv22
   simp only [go_sem,simprocAttr,hw15,hxc_101]
   try refine ⟨sd,?_⟩
   refine Rg.callO (av:=?av23) [0,1] (ok_strings_Builder_WriteString_i1 r_102 o1_80 _ hr_103) (by simp only [go_sem,simprocAttr,hw15,hxc_101]; exact Is.mk) (by simp only [go_sem,simprocAttr,hw15,hxc_101]; exact Is.mk) (by simp only [go_sem,simprocAttr,hw15,hxc_101]; exact Is.mk) (by simp only [go_sem,simprocAttr,hw15,hxc_101]) (by simp only [go_sem,simprocAttr,hw15,hxc_101]) ?cont23
   rintro _ _ ⟨rfl,rfl⟩ hv23
   simp only [go_sem,simprocAttr,hw15,hxc_101]
   first | apply hK21 | refine ⟨sd,hK21 _ _ ?_⟩
   refine hK16 _ _ ?_
   refine Wp.region fun K24 hK24=>?_
   simp only [go_sem,simprocAttr,hw15,hxc_101]
   first | apply hK24 | refine ⟨sd,hK24 _ _ ?_⟩
   simp only [thenQ,blockQ,↓reduceIte]
   refine ⟨r_103.2,hlt15,hnx_98 _ hm,?_⟩
   simp only [go_sem,simprocAttr,hw15,hxc_101]
   try exact se4
  ·refine Wp.seqR fun K25 hK25=>?_
   simp only [go_sem,simprocAttr,hw15,hxc_101]
   first | apply hK25 | refine ⟨sd,hK25 _ _ ?_⟩
   refine cM hm (fun hc26 hm=>?_) (fun hc26 hm=>?_)
   ·obtain ⟨c_104,hm⟩:=chk_elim hm
    obtain ⟨c_105,hm⟩:=chk_elim hm
    obtain ⟨r_106,hr_106,hm⟩:=call_elim hm
    refine Wp.region fun K27 hK27=>?_
    simp only [go_sem,simprocAttr,hw15,hxc_101]
    try refine ⟨by first | exact sd | ((repeat' apply And.intro) <;> first | assumption | omega | (simp only [List.length_append,List.length_map,List.length_cons,List.length_nil,List.length_set,List.length_replicate] at c_104 c_105 ⊢; omega)),?_⟩
    refine Rg.callO (av:=?av28) [0,1] (ok_strings_Builder_WriteString_i1 ((([114,101,109,111,118,101,32]:Str)++c_101.File.Path)++([10]:Str)) o1_80 _ hr_106) (by simp only [go_sem,simprocAttr,hw15,hxc_101]; exact Is.mk) (by simp only [go_sem,simprocAttr,hw15,hxc_101]; exact Is.mk) (by simp only [go_sem,simprocAttr,hw15,hxc_101]; first | exact Is.mk | (simp only [List.map_append,List.map_cons,List.map_nil,ecB,ecI_i64,ecI_u8,ecS,enc_api_Change,enc_api_File,enc_api_Machine,enc_api_Service,enc_api_Setting,enc_outlaw1_Act]; exact Is.mk)) (by simp only [go_sem,simprocAttr,hw15,hxc_101]) (by simp only [go_sem,simprocAttr,hw15,hxc_101]) ?cont28
    rintro _ _ ⟨rfl,rfl⟩ hv28
    simp only [go_sem,simprocAttr,hw15,hxc_101]
    first | apply hK27 | refine ⟨by first | exact sd | ((repeat' apply And.intro) <;> first | assumption | omega | (simp only [List.length_append,List.length_map,List.length_cons,List.length_nil,List.length_set,List.length_replicate] at c_104 c_105 ⊢; omega)),hK27 _ _ ?_⟩
    refine hK16 _ _ ?_
    refine Wp.region fun K29 hK29=>?_
    simp only [go_sem,simprocAttr,hw15,hxc_101]
    first | apply hK29 | refine ⟨sd,hK29 _ _ ?_⟩
    simp only [thenQ,blockQ,↓reduceIte]
    refine ⟨r_106.2,hlt15,hnx_98 _ hm,?_⟩
    simp only [go_sem,simprocAttr,hw15,hxc_101]
    try exact se4
   ·refine Wp.seqR fun K30 hK30=>?_
    simp only [go_sem,simprocAttr,hw15,hxc_101]
    first | apply hK30 | refine ⟨sd,hK30 _ _ ?_⟩
    refine cM hm (fun hc31 hm=>?_) (fun hc31 hm=>?_)
    ·obtain ⟨r_107,hr_107,hm⟩:=call_elim hm
     obtain ⟨r_108,hr_108,hm⟩:=call_elim hm
     refine Wp.region fun K32 hK32=>?_
     simp only [go_sem,simprocAttr,hw15,hxc_101]
     try refine ⟨sd,?_⟩
     refine Rg.callX (av:=?av33) (g:=true) (fun hg=>ok_disk_settingLine ([115,101,116]:Str) c_101.Setting _ hr_107) (by simp only [go_sem,simprocAttr,hw15,hxc_101]; exact Is.mk) (by simp only [go_sem,simprocAttr,hw15,hxc_101]; exact Is.mk) (by simp only [go_sem,simprocAttr,hw15,hxc_101]; exact Is.mk) (by simp only [go_sem,simprocAttr,hw15,hxc_101]) (by simp only [go_sem,simprocAttr,hw15,hxc_101]; exact Is.mk) ?cont33
     intro hv33
     simp only [go_sem,simprocAttr,hw15,hxc_101]
     try refine ⟨sd,?_⟩
     refine Rg.callO (av:=?av34) [0,1] (ok_strings_Builder_WriteString_i1 r_107 o1_80 _ hr_108) (by simp only [go_sem,simprocAttr,hw15,hxc_101]; exact Is.mk) (by simp only [go_sem,simprocAttr,hw15,hxc_101]; exact Is.mk) (by simp only [go_sem,simprocAttr,hw15,hxc_101]; exact Is.mk) (by simp only [go_sem,simprocAttr,hw15,hxc_101]) (by simp only [go_sem,simprocAttr,hw15,hxc_101]) ?cont34
     rintro _ _ ⟨rfl,rfl⟩ hv34
     simp only [go_sem,simprocAttr,hw15,hxc_101]
     first | apply hK32 | refine ⟨sd,hK32 _ _ ?_⟩
     refine hK16 _ _ ?_
     refine Wp.region fun K35 hK35=>?_
     simp only [go_sem,simprocAttr,hw15,hxc_101]
     first | apply hK35 | refine ⟨sd,hK35 _ _ ?_⟩
     simp only [thenQ,blockQ,↓reduceIte]
     refine ⟨r_108.2,hlt15,hnx_98 _ hm,?_⟩
     simp only [go_sem,simprocAttr,hw15,hxc_101]
     try exact se4
    ·refine Wp.seqR fun K36 hK36=>?_
     simp only [go_sem,simprocAttr,hw15,hxc_101]
     first | apply hK36 | refine ⟨sd,hK36 _ _ ?_⟩
     refine cM hm (fun hc37 hm=>?_) (fun hc37 hm=>?_)
     ·obtain ⟨c_109,hm⟩:=chk_elim hm
      obtain ⟨c_110,hm⟩:=chk_elim hm
      obtain ⟨r_111,hr_111,hm⟩:=call_elim hm
      refine Wp.region fun K38 hK38=>?_
      simp only [go_sem,simprocAttr,hw15,hxc_101]
      try refine ⟨by first | exact sd | ((repeat' apply And.intro) <;> first | assumption | omega | (simp only [List.length_append,List.length_map,List.length_cons,List.length_nil,List.length_set,List.length_replicate] at c_109 c_110 ⊢; omega)),?_⟩
      refine Rg.callO (av:=?av39) [0,1] (ok_strings_Builder_WriteString_i1 ((([117,110,115,101,116,32]:Str)++c_101.Setting.Key)++([10]:Str)) o1_80 _ hr_111) (by simp only [go_sem,simprocAttr,hw15,hxc_101]; exact Is.mk) (by simp only [go_sem,simprocAttr,hw15,hxc_101]; exact Is.mk) (by simp only [go_sem,simprocAttr,hw15,hxc_101]; first | exact Is.mk | (simp only [List.map_append,List.map_cons,List.map_nil,ecB,ecI_i64,ecI_u8,ecS,enc_api_Change,enc_api_File,enc_api_Machine,enc_api_Service,enc_api_Setting,enc_outlaw1_Act]; exact Is.mk)) (by simp only [go_sem,simprocAttr,hw15,hxc_101]) (by simp only [go_sem,simprocAttr,hw15,hxc_101]) ?cont39
      rintro _ _ ⟨rfl,rfl⟩ hv39
      simp only [go_sem,simprocAttr,hw15,hxc_101]
      first | apply hK38 | refine ⟨by first | exact sd | ((repeat' apply And.intro) <;> first | assumption | omega | (simp only [List.length_append,List.length_map,List.length_cons,List.length_nil,List.length_set,List.length_replicate] at c_109 c_110 ⊢; omega)),hK38 _ _ ?_⟩
      refine hK16 _ _ ?_
      refine Wp.region fun K40 hK40=>?_
      simp only [go_sem,simprocAttr,hw15,hxc_101]
      first | apply hK40 | refine ⟨sd,hK40 _ _ ?_⟩
      simp only [thenQ,blockQ,↓reduceIte]
      refine ⟨r_111.2,hlt15,hnx_98 _ hm,?_⟩
      simp only [go_sem,simprocAttr,hw15,hxc_101]
      try exact se4
     ·refine Wp.seqR fun K41 hK41=>?_
      simp only [go_sem,simprocAttr,hw15,hxc_101]
      first | apply hK41 | refine ⟨sd,hK41 _ _ ?_⟩
      refine cM hm (fun hc42 hm=>?_) (fun hc42 hm=>?_)
      ·obtain ⟨r_112,hr_112,hm⟩:=call_elim hm
       obtain ⟨r_113,hr_113,hm⟩:=call_elim hm
       refine Wp.region fun K43 hK43=>?_
       simp only [go_sem,simprocAttr,hw15,hxc_101]
       try refine ⟨sd,?_⟩
       refine Rg.callX (av:=?av44) (g:=true) (fun hg=>ok_disk_serviceLine c_101.Service _ hr_112) (by simp only [go_sem,simprocAttr,hw15,hxc_101]; exact Is.mk) (by simp only [go_sem,simprocAttr,hw15,hxc_101]; exact Is.mk) (by simp only [go_sem,simprocAttr,hw15,hxc_101]; exact Is.mk) (by simp only [go_sem,simprocAttr,hw15,hxc_101]) (by simp only [go_sem,simprocAttr,hw15,hxc_101]; exact Is.mk) ?cont44
       intro hv44
       simp only [go_sem,simprocAttr,hw15,hxc_101]
       try refine ⟨sd,?_⟩
       refine Rg.callO (av:=?av45) [0,1] (ok_strings_Builder_WriteString_i1 r_112 o1_80 _ hr_113) (by simp only [go_sem,simprocAttr,hw15,hxc_101]; exact Is.mk) (by simp only [go_sem,simprocAttr,hw15,hxc_101]; exact Is.mk) (by simp only [go_sem,simprocAttr,hw15,hxc_101]; exact Is.mk) (by simp only [go_sem,simprocAttr,hw15,hxc_101]) (by simp only [go_sem,simprocAttr,hw15,hxc_101]) ?cont45
       rintro _ _ ⟨rfl,rfl⟩ hv45
       simp only [go_sem,simprocAttr,hw15,hxc_101]
       first | apply hK43 | refine ⟨sd,hK43 _ _ ?_⟩
       refine hK16 _ _ ?_
       refine Wp.region fun K46 hK46=>?_
       simp only [go_sem,simprocAttr,hw15,hxc_101]
       first | apply hK46 | refine ⟨sd,hK46 _ _ ?_⟩
       simp only [thenQ,blockQ,↓reduceIte]
       refine ⟨r_113.2,hlt15,hnx_98 _ hm,?_⟩
       simp only [go_sem,simprocAttr,hw15,hxc_101]
       try exact se4
      ·obtain ⟨c_114,hm⟩:=chk_elim hm
       obtain ⟨c_115,hm⟩:=chk_elim hm
       obtain ⟨r_116,hr_116,hm⟩:=call_elim hm
       refine Wp.region fun K47 hK47=>?_
       simp only [go_sem,simprocAttr,hw15,hxc_101]
       try refine ⟨by first | exact sd | ((repeat' apply And.intro) <;> first | assumption | omega | (simp only [List.length_append,List.length_map,List.length_cons,List.length_nil,List.length_set,List.length_replicate] at c_114 c_115 ⊢; omega)),?_⟩
       refine Rg.callO (av:=?av48) [0,1] (ok_strings_Builder_WriteString_i1 ((([100,114,111,112,32]:Str)++c_101.Service.Name)++([10]:Str)) o1_80 _ hr_116) (by simp only [go_sem,simprocAttr,hw15,hxc_101]; exact Is.mk) (by simp only [go_sem,simprocAttr,hw15,hxc_101]; exact Is.mk) (by simp only [go_sem,simprocAttr,hw15,hxc_101]; first | exact Is.mk | (simp only [List.map_append,List.map_cons,List.map_nil,ecB,ecI_i64,ecI_u8,ecS,enc_api_Change,enc_api_File,enc_api_Machine,enc_api_Service,enc_api_Setting,enc_outlaw1_Act]; exact Is.mk)) (by simp only [go_sem,simprocAttr,hw15,hxc_101]) (by simp only [go_sem,simprocAttr,hw15,hxc_101]) ?cont48
       rintro _ _ ⟨rfl,rfl⟩ hv48
       simp only [go_sem,simprocAttr,hw15,hxc_101]
       first | apply hK47 | refine ⟨by first | exact sd | ((repeat' apply And.intro) <;> first | assumption | omega | (simp only [List.length_append,List.length_map,List.length_cons,List.length_nil,List.length_set,List.length_replicate] at c_114 c_115 ⊢; omega)),hK47 _ _ ?_⟩
       refine hK16 _ _ ?_
       refine Wp.region fun K49 hK49=>?_
       simp only [go_sem,simprocAttr,hw15,hxc_101]
       first | apply hK49 | refine ⟨sd,hK49 _ _ ?_⟩
       simp only [thenQ,blockQ,↓reduceIte]
       refine ⟨r_116.2,hlt15,hnx_98 _ hm,?_⟩
       simp only [go_sem,simprocAttr,hw15,hxc_101]
       try exact se4
theorem ok_strconv_Itoa (n:Int) (z:Str) (hm:strconv_Itoa n=some z):Does Tryz.prog 104 [.p (.i .i64 n)] [] (fun r X=>r=.p (.s z)∧X=[]):=by
 obtain ⟨⟨h1,h2⟩,h⟩:=chk_elim hm
 cases h
 exact Does.itoa Tryz.itoaL ⟨_,Tryz.func104,by kernel_rfl,by kernel_rfl⟩ (b:=3) (by kernel_rfl) (tab_3.trans (by rw [show tabL_3=Go.Lib.pow10Tab by decide +kernel])) n h1 h2
end Go.Proofs.YtbofknpajcdnmaaGreatDoor
