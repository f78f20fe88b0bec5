/- That the code does what the models say (part 8). -/
import Derived.Test.YtbofknpajcdnmaaGreatDoorJmWk0
import Derived.Test.YtbofknpajcdnmaaGreatDoorJmWk1
import Derived.Test.YtbofknpajcdnmaaGreatDoorJmWk4
import Derived.Test.YtbofknpajcdnmaaGreatDoorJmWk5
import Derived.Test.YtbofknpajcdnmaaGreatDoorJmWk7
set_option linter.unusedSimpArgs false
set_option linter.unusedVariables false
open Go.Proofs Go.Shelf
namespace Go.Proofs.YtbofknpajcdnmaaGreatDoor
open Go.Vc Go.Md
set_option maxRecDepth 100000
set_option maxHeartbeats 4000000
theorem ok_Law_JournalsMatch (j_1:api_Journal) (at_2:Int) (by_3:Int) (raw_4:Str) (z:Bool) (hm:Law_JournalsMatch j_1 at_2 by_3 raw_4=some z):Does Tryz.prog 5 [.agg [.p (.s j_1.Id),.p (.l (List.map enc_api_Change j_1.Changes)),.p (.l (List.map enc_api_Change j_1.Old))],.p (.i .i64 at_2),.p (.i .u8 by_3),.p (.s raw_4)] [] (fun r X=>r=.p (.b z)∧X=[]):=by
 unfold Law_JournalsMatch at hm
 refine Does.of_wp 0 120 [.tmp 8] Tryz.func5 rfl (by decide) rfl rfl (Nat.le_of_ble_eq_true rfl) fun B=>?_
 refine qS ?_
 refine Wp.seqW fun K2 hK2 hW2=>?_
 obtain ⟨r_5,hr_5,hm⟩:=call_elim hm
 refine Wp.seqR fun K3 hK3=>?_
 simp only [go_sem,simprocAttr]
 try refine ⟨sd,?_⟩
 refine Rg.callX (av:=?av4) (g:=true) (fun hg=>ok_Law_landed  _ hr_5) si si si sg si ?cont4
 intro hv4
 simp only [go_sem,simprocAttr]
 first | apply hK3 | refine ⟨sd,hK3 _ _ ?_⟩
 refine cM hm (fun hc5 hm=>?_) (fun hc5 hm=>?_)
 ·refine qS ?_
  refine Wp.ret ?_
  refine retQ_ret ?_
  cases hm
  exact fse4
 ·refine Wp.skip ?_
  refine hK2 _ _ ?_
  obtain ⟨r_6,hr_6,hm⟩:=call_elim hm
  refine Wp.seqR fun K7 hK7=>?_
  simp only [go_sem,simprocAttr]
  try refine ⟨sd,?_⟩
  refine Rg.callX (av:=?av8) (g:=true) (fun hg=>ok_stage_PrintJournal j_1 _ hr_6) si si si sg si ?cont8
  intro hv8
  simp only [go_sem,simprocAttr]
  first | apply hK7 | refine ⟨sd,hK7 _ _ ?_⟩
  obtain ⟨r_7,hr_7,hm⟩:=call_elim hm
  refine Wp.seqR fun K9 hK9=>?_
  simp only [go_sem,simprocAttr]
  try refine ⟨sd,?_⟩
  refine Rg.callX (av:=?av10) (g:=true) (fun hg=>ok_R_PrintJournal j_1 _ hr_7) si si si sg si ?cont10
  intro hv10
  simp only [go_sem,simprocAttr]
  first | apply hK9 | refine ⟨sd,hK9 _ _ ?_⟩
  refine Wp.seqW fun K11 hK11 hW11=>?_
  refine qS ?_
  refine cM hm (fun hc13 hm=>?_) (fun hc13 hm=>?_)
  ·refine qS ?_
   refine Wp.ret ?_
   refine retQ_ret ?_
   cases hm
   exact fse4
  ·refine Wp.skip ?_
   refine hK11 _ _ ?_
   refine Wp.seqW fun K15 hK15 hW15=>?_
   obtain ⟨k_22,hk_22,hm⟩:=jp_elim hm
   have hcut15:∀ s,k_22 s=some z→K15 [(3,.p (.s raw_4))] []:=by
    intro s hs
    have hm:=hk_22 _ hs
    clear hs
    try dsimp only at hm
    try dsimp only
    refine hK15 _ _ ?_
    obtain ⟨r_23,hr_23,hm⟩:=call_elim hm
    refine Wp.seqR fun K16 hK16=>?_
    simp only [go_sem,simprocAttr]
    try refine ⟨sd,?_⟩
    refine Rg.callF (av:=?av17) (ok_stage_ParseJournal raw_4 _ hr_23) si si sg ?cont17
    intro hv17
    simp only [go_sem,simprocAttr]
    first | apply hK16 | refine ⟨sd,hK16 _ _ ?_⟩
    obtain ⟨r_24,hr_24,hm⟩:=call_elim hm
    refine Wp.seqR fun K18 hK18=>?_
    simp only [go_sem,simprocAttr]
    try refine ⟨sd,?_⟩
    refine Rg.callF (av:=?av19) (ok_R_ParseJournal raw_4 _ hr_24) si si sg ?cont19
    intro hv19
    simp only [go_sem,simprocAttr]
    first | apply hK18 | refine ⟨sd,hK18 _ _ ?_⟩
    obtain ⟨r_25,hr_25,hm⟩:=callG_elim hm
    refine Wp.seqR fun K20 hK20=>?_
    simp only [go_sem,simprocAttr]
    try refine ⟨sd,?_⟩
    refine Rg.callX (av:=?av21) (g:=decide (r_23.2=r_24.2)) (fun hg=>ok_Law_sameJournal r_23.1 r_24.1 _ (hr_25 hg)) si si si sg si ?cont21
    intro hv21
    simp only [go_sem,simprocAttr]
    first | apply hK20 | refine ⟨sd,hK20 _ _ ?_⟩
    refine Wp.ret ?_
    refine retQ_ret ?_
    cases hm
    exact fse4
   clear hK15 hk_22
   refine qS ?_
   refine cM hm (fun hc23 hm=>?_) (fun hc23 hm=>?_)
   ·obtain ⟨r_26,hr_26,hm⟩:=call_elim hm
    refine Wp.seqR fun K24 hK24=>?_
    simp only [go_sem,simprocAttr]
    try refine ⟨sd,?_⟩
    refine Rg.callF (av:=?av25) (ok_stage_ParseJournal r_6.1 _ hr_26) si si sg ?cont25
    intro hv25
    simp only [go_sem,simprocAttr]
    first | apply hK24 | refine ⟨sd,hK24 _ _ ?_⟩
    refine Wp.seqW fun K26 hK26 hW26=>?_
    obtain ⟨r_27,hr_27,hm⟩:=callG_elim hm
    refine Wp.seqR fun K27 hK27=>?_
    simp only [go_sem,simprocAttr]
    try refine ⟨sd,?_⟩
    refine Rg.callX (av:=?av28) (g:=!(!decide (r_26.2=0))) (fun hg=>ok_Law_sameJournal j_1 r_26.1 _ (hr_27 hg)) si si si sg si ?cont28
    intro hv28
    simp only [go_sem,simprocAttr]
    first | apply hK27 | refine ⟨sd,hK27 _ _ ?_⟩
    refine cM hm (fun hc29 hm=>?_) (fun hc29 hm=>?_)
    ·refine qS ?_
     refine Wp.ret ?_
     refine retQ_ret ?_
     cases hm
     exact fse4
    ·refine Wp.skip ?_
     refine hK26 _ _ ?_
     refine qS ?_
     obtain ⟨c_28,hm⟩:=chk_elim hm
     obtain ⟨c_29,hm⟩:=chk_elim hm
     obtain ⟨v_30,hv_31,hm⟩:=letv_elim hm
     obtain ⟨c_32,hm⟩:=chk_elim hm
     obtain ⟨c_33,hm⟩:=chk_elim hm
     obtain ⟨v_34,hv_35,hm⟩:=letv_elim hm
     have hv_35m:=congrArg (List.map ecI_u8) hv_35
     try simp only [List.map_append,List.map_cons,List.map_nil,List.map_set,List.map_replicate,ecI_u8] at hv_35m
     have hr_36:=fun h=>getD_encB (l:=bytesOf r_6.1) (e:=ecI_u8) (d:=0) (i:=v_30.toNat) h []
     refine Wp.seqR fun K32 hK32=>?_
     simp only [go_sem,simprocAttr,hv_31,hv_35,hv_35m,hr_36 (by simp only [bytesOf_length]; omega)]
     first | apply hK32 | refine ⟨by first | exact sd | ((repeat' apply And.intro) <;> first | assumption | omega | (simp only [List.length_append,List.length_map,List.length_cons,List.length_nil,List.length_set,List.length_replicate] at c_28 c_29 c_32 c_33 ⊢; omega)),hK32 _ _ ?_⟩
     refine Wp.seqR fun K33 hK33=>?_
     simp only [go_sem,simprocAttr,hv_31,hv_35,hv_35m]
     first | apply hK33 | refine ⟨sd,hK33 _ _ ?_⟩
     obtain ⟨r_37,hr_37,hm⟩:=call_elim hm
     refine Wp.seqR fun K34 hK34=>?_
     simp only [go_sem,simprocAttr,hv_31,hv_35,hv_35m]
     try refine ⟨sd,?_⟩
     refine Rg.callF (av:=?av35) (ok_stage_ParseJournal (Go.Vc.strOf v_34) _ hr_37) (by simp only [go_sem,simprocAttr,hv_31,hv_35,hv_35m]; exact Is.mk) (by simp only [go_sem,simprocAttr,hv_31,hv_35,hv_35m]; exact Is.mk) (by simp only [go_sem,simprocAttr,hv_31,hv_35,hv_35m]) ?cont35
     intro hv35
     simp only [go_sem,simprocAttr,hv_31,hv_35,hv_35m]
     first | apply hK34 | refine ⟨sd,hK34 _ _ ?_⟩
     obtain ⟨r_38,hr_38,hm⟩:=call_elim hm
     refine Wp.seqR fun K36 hK36=>?_
     simp only [go_sem,simprocAttr,hv_31,hv_35,hv_35m]
     try refine ⟨sd,?_⟩
     refine Rg.callF (av:=?av37) (ok_R_ParseJournal (Go.Vc.strOf v_34) _ hr_38) (by simp only [go_sem,simprocAttr,hv_31,hv_35,hv_35m]; exact Is.mk) (by simp only [go_sem,simprocAttr,hv_31,hv_35,hv_35m]; exact Is.mk) (by simp only [go_sem,simprocAttr,hv_31,hv_35,hv_35m]) ?cont37
     intro hv37
     simp only [go_sem,simprocAttr,hv_31,hv_35,hv_35m]
     first | apply hK36 | refine ⟨sd,hK36 _ _ ?_⟩
     obtain ⟨r_39,hr_39,hm⟩:=callG_elim hm
     refine Wp.seqR fun K38 hK38=>?_
     simp only [go_sem,simprocAttr,hv_31,hv_35,hv_35m]
     try refine ⟨sd,?_⟩
     refine Rg.callX (av:=?av39) (g:=!((!decide (by_3=0)) && ((decide (r_37.2=0)) || (decide (r_38.2=0))))) (fun hg=>ok_Law_sameJournal r_37.1 r_38.1 _ (hr_39 hg)) (by simp only [go_sem,simprocAttr,hv_31,hv_35,hv_35m]; exact Is.mk) (by simp only [go_sem,simprocAttr,hv_31,hv_35,hv_35m]; exact Is.mk) (by simp only [go_sem,simprocAttr,hv_31,hv_35,hv_35m]; exact Is.mk) (by simp only [go_sem,simprocAttr,hv_31,hv_35,hv_35m]) (by simp only [go_sem,simprocAttr,hv_31,hv_35,hv_35m]; exact Is.mk) ?cont39
     intro hv39
     simp only [go_sem,simprocAttr,hv_31,hv_35,hv_35m]
     first | apply hK38 | refine ⟨sd,hK38 _ _ ?_⟩
     refine cM hm (fun hc40 hm=>?_) (fun hc40 hm=>?_)
     ·refine Wp.seqR fun K41 hK41=>?_
      simp only [go_sem,simprocAttr,hv_31,hv_35,hv_35m]
      first | apply hK41 | refine ⟨sd,hK41 _ _ ?_⟩
      refine Wp.ret ?_
      refine retQ_ret ?_
      cases hm
      simp only [go_sem,simprocAttr,hv_31,hv_35,hv_35m]
      try exact se4
     ·refine Wp.skip ?_
      refine hW15 _ _ _ _ ?_ (hcut15 () hm)
      simp only [go_sem,simprocAttr,hv_31,hv_35,hv_35m]
      try exact se4
   ·refine Wp.skip ?_
    refine hW15 _ _ _ _ ?_ (hcut15 () hm)
    exact fse4
end Go.Proofs.YtbofknpajcdnmaaGreatDoor
