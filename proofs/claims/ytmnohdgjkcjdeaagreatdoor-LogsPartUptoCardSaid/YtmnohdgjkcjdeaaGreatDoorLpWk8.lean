/- That the code does what the models say (part 8). -/
import Derived.Test.YtmnohdgjkcjdeaaGreatDoorLpWk0
import Derived.Test.YtmnohdgjkcjdeaaGreatDoorLpWk1
import Derived.Test.YtmnohdgjkcjdeaaGreatDoorLpWk4
import Derived.Test.YtmnohdgjkcjdeaaGreatDoorLpWk6
import Derived.Test.YtmnohdgjkcjdeaaGreatDoorLpWk7
set_option linter.unusedSimpArgs false
set_option linter.unusedVariables false
open Go.Proofs Go.Shelf
namespace Go.Proofs.YtmnohdgjkcjdeaaGreatDoor
open Go.Vc Go.Md
set_option maxRecDepth 100000
set_option maxHeartbeats 4000000
theorem ziQ (text_15:Str) (z:Int × Int × (List (Str × log_had)) × Int × Str × List api_Record × List Str) (hm:zfG text_15=some z):Does Tryz.prog 18 [.p (.s text_15)] [] (fun r X=>r=.tup [.ptr 2 0,.p (.i .i64 z.1),.p (.i .i64 z.2.1)]∧X=[.mp true (zcN Dt.s zm z.2.2.1),.cells 99 [.mp 0,.p (.i .i64 z.2.2.2.1)],.cells 63 [.buf 3,.buf 4,.p (.s z.2.2.2.2.1),.ptr 1 0],.buf 30 13 (List.map za z.2.2.2.2.2.1),.buf 9 1 (List.map ecS z.2.2.2.2.2.2)]):=by
 unfold zfG at hm
 refine dW 5 68 [.tmp 2,.tmp 3,.tmp 4] Tryz.func18 fun B=>?_
 refine qS ?_
 refine Wp.seqW fun K2 hK2 hW2=>?_
 refine qS ?_
 refine cM hm (fun hc4 hm=>?_) (fun hc4 hm=>?_)
 ·refine qS ?_
  refine Wp.ret ?_
  simp only [zl,zi]
  cases hm
 ·refine Wp.skip ?_
  refine hK2 _ _ ?_
  obtain ⟨r_16,hr_16,hm⟩:=zb hm
  refine Wp.seqR fun K6 hK6=>?_
  simp only [go_sem,simprocAttr]
  try refine ⟨sd,?_⟩
  refine Rg.callO (av:=?av7) [] (ok_log_New  _ hr_16) si si si sg sg ?cont7
  rintro _ _ ⟨rfl,rfl⟩ hv7
  simp only [go_sem,simprocAttr]
  refine kA hK6 ?_
  refine Wp.seqW fun K8 hK8 hW8=>?_
  obtain ⟨k_12,hk_12,hm⟩:=zk hm
  have hcut8:∀ s,k_12 s=some z→K8 [(5,.ptr 2 0)] [.mp true (zcN Dt.s zm s.1),.cells 99 [.mp 0,.p (.i .i64 s.2.1)],.cells 63 [.buf 3,.buf 4,.p (.s s.2.2.1),.ptr 1 0],.buf 30 13 (List.map za s.2.2.2.1),.buf 9 1 (List.map ecS s.2.2.2.2)]:=by
   intro s hs
   have hm:=hk_12 _ hs
   clear hs
   obtain ⟨m0_21,o1_1_22,o2_2_23,o3_24,o4_25⟩:=s
   try dsimp only at hm
   try dsimp only
   refine hK8 _ _ ?_
   refine Wp.seqD (plan:=pl [(0,none),(1,none),(2,none),(3,none),(4,none),(5,none),(6,none),(7,none),(8,none)]) (by kernel_rfl) rfl (by kernel_rfl) fun K9 hK9=>?_
   simp only [go_sem,simprocAttr]
   refine kA hK9 ?_
   refine Wp.ret ?_
   refine zc ?_
   cases hm
   exact zn
  clear hK8 hk_12
  refine Wp.block ?_
  refine Wp.adoptO 2 0 30 13 rfl rfl ?_
  simp only [go_sem,simprocAttr]
  refine Wp.adoptO 2 1 9 1 rfl rfl ?_
  simp only [go_sem,simprocAttr]
  obtain ⟨k_13,hk_13,hm⟩:=zB hm
  refine Wp.loopN (fun s=>[(0,.p (.s s.1)),(5,.ptr 2 0)]) (fun s=>[.mp true (zcN Dt.s zm s.2.1),.cells 99 [.mp 0,.p (.i .i64 s.2.2.1)],.cells 63 [.buf 3,.buf 4,.p (.s s.2.2.2.1),.ptr 1 0],.buf 30 13 (List.map za s.2.2.2.2.1),.buf 9 1 (List.map ecS s.2.2.2.2.2)]) ?_ hm ?_
  ·
   exact zn
  clear hm
  intro s nx_26 hm
  obtain ⟨text_14,m0_17,o1_1_18,o2_2_11,o3_19,o4_20⟩:=s
  try dsimp only at hm
  try dsimp only
  refine Wp.block ?_
  obtain ⟨r_4,hr_4,hm⟩:=zb hm
  refine Wp.seqR fun K10 hK10=>?_
  simp only [go_sem,simprocAttr]
  try refine ⟨sd,?_⟩
  refine Rg.callX (av:=?av11) (g:=true) (fun hg=>zek text_14 ([10]:Str) _ hr_4) si si si sg si ?cont11
  intro hv11
  simp only [go_sem,simprocAttr]
  refine kA hK10 ?_
  obtain ⟨r_7,hr_7,hm⟩:=zb hm
  refine Wp.seqR fun K12 hK12=>?_
  simp only [go_sem,simprocAttr]
  try refine ⟨sd,?_⟩
  refine Rg.callX (av:=?av13) (g:=true) (fun hg=>zet r_4.1 32 _ hr_7) si si si sg si ?cont13
  intro hv13
  simp only [go_sem,simprocAttr]
  refine kA hK12 ?_
  refine Wp.seqW fun K14 hK14 hW14=>?_
  refine qS ?_
  refine cM hm (fun hc16 hm=>?_) (fun hc16 hm=>?_)
  ·refine Wp.exit ?_
   simp only [zl,zi,↓reduceIte]
   have hm:=hk_13 _ hm
   try dsimp only at hm
   refine hW8 _ _ _ _ ?_ (hcut8 (m0_17,o1_1_18,o2_2_11,o3_19,o4_20) hm)
   exact zn
  ·refine Wp.skip ?_
   refine hK14 _ _ ?_
   obtain ⟨c_27,hm⟩:=zf hm
   obtain ⟨r_1,hr_1,hm⟩:=zb hm
   refine Wp.seqR fun K17 hK17=>?_
   simp only [go_sem,simprocAttr]
   try refine ⟨sL,?_⟩
   refine Rg.callX (av:=?av18) (g:=true) (fun hg=>zgS (List.take r_7.toNat r_4.1) _ hr_1) si si si sg si ?cont18
   intro hv18
   simp only [go_sem,simprocAttr]
   refine kA hK17 ?_
   refine Wp.seqW fun K19 hK19 hW19=>?_
   obtain ⟨c_28,hm⟩:=zf hm
   obtain ⟨c_29,hm⟩:=zf hm
   obtain ⟨c_30,hm⟩:=zf hm
   obtain ⟨r_10,hr_10,hm⟩:=z7 hm
   obtain ⟨r_5,hr_5,hr_5d,hm⟩:=zgw hm
   refine Wp.seqDW (plan:=pl [(0,none),(1,none),(2,none),(3,none),(4,none),(5,none),(6,none),(7,none),(8,none),(9,none),(10,none),(11,none),(12,none),(13,none),(14,none),(15,none),(16,none),(17,none),(18,none),(19,none),(20,none),(21,some []),(22,none),(23,none)]) (by kernel_rfl) rfl (by kernel_rfl) fun K20 hK20 hW20=>?_
   suffices hcont20:K20 [(0,.p (.s text_14)),(5,.ptr 2 0),(6,.p (.s r_4.1)),(7,.p (.s r_4.2.1)),(8,.p (.b r_4.2.2)),(9,.p (.i .i64 r_7)),(10,.ptr 5 0),(11,.p (.i .i64 r_1.2)),(16,.tup [.p (.s r_4.1),.p (.s r_4.2.1),.p (.b r_4.2.2)]),(17,.p (.s text_14)),(18,.tup [.p (.s r_4.1),.p (.s r_4.2.1),.p (.b r_4.2.2)]),(19,.p (.s r_4.1)),(20,.p (.s r_4.2.1)),(21,.p (.b r_4.2.2)),(22,.p (.s r_4.1)),(23,.p (.i .i64 r_7)),(24,.p (.b r_4.2.2)),(25,.p (.b (!r_4.2.2))),(26,.p (.b (!r_4.2.2))),(29,.p (.b ((!r_4.2.2) || (decide (r_7 < 0))))),(30,.tup [.agg [.p (.i .i64 r_1.1.Time),.p (.i .i64 r_1.1.Kind),.p (.s r_1.1.Pack),.p (.i .i64 r_1.1.From.Major),.p (.i .i64 r_1.1.From.Minor),.p (.i .i64 r_1.1.From.Patch),.p (.s r_1.1.From.Early),.p (.i .i64 r_1.1.To.Major),.p (.i .i64 r_1.1.To.Minor),.p (.i .i64 r_1.1.To.Patch),.p (.s r_1.1.To.Early),.p (.i .i64 r_1.1.Result),.p (.s r_1.1.Note)],.p (.i .i64 r_1.2)]),(31,.p (.s r_4.1)),(32,.p (.i .i64 r_7)),(33,.p (.s (List.take r_7.toNat r_4.1))),(34,.tup [.agg [.p (.i .i64 r_1.1.Time),.p (.i .i64 r_1.1.Kind),.p (.s r_1.1.Pack),.p (.i .i64 r_1.1.From.Major),.p (.i .i64 r_1.1.From.Minor),.p (.i .i64 r_1.1.From.Patch),.p (.s r_1.1.From.Early),.p (.i .i64 r_1.1.To.Major),.p (.i .i64 r_1.1.To.Minor),.p (.i .i64 r_1.1.To.Patch),.p (.s r_1.1.To.Early),.p (.i .i64 r_1.1.Result),.p (.s r_1.1.Note)],.p (.i .i64 r_1.2)]),(35,.agg [.p (.i .i64 r_1.1.Time),.p (.i .i64 r_1.1.Kind),.p (.s r_1.1.Pack),.p (.i .i64 r_1.1.From.Major),.p (.i .i64 r_1.1.From.Minor),.p (.i .i64 r_1.1.From.Patch),.p (.s r_1.1.From.Early),.p (.i .i64 r_1.1.To.Major),.p (.i .i64 r_1.1.To.Minor),.p (.i .i64 r_1.1.To.Patch),.p (.s r_1.1.To.Early),.p (.i .i64 r_1.1.Result),.p (.s r_1.1.Note)]),(36,.p (.i .i64 r_1.2)),(60,.p (.b (((!decide (r_1.2=0)) || (!decide ((List.drop ((IntKind.i64.wrap (r_7+1)).toNat) r_4.1)=r_10))) || (!decide (r_5.1=0)))))] [.mp true (zcN Dt.s zm r_5.2.2.2.2.2),.cells 99 [.mp 0,.p (.i .i64 r_5.2.2.2.2.1)],.cells 63 [.buf 3,.buf 4,.p (.s r_5.2.1),.ptr 1 0],.buf 30 13 (List.map za r_5.2.2.1),.buf 9 1 (List.map ecS r_5.2.2.2.1),.cells 30 [.p (.i .i64 r_1.1.Time),.p (.i .i64 r_1.1.Kind),.p (.s r_1.1.Pack),.p (.i .i64 r_1.1.From.Major),.p (.i .i64 r_1.1.From.Minor),.p (.i .i64 r_1.1.From.Patch),.p (.s r_1.1.From.Early),.p (.i .i64 r_1.1.To.Major),.p (.i .i64 r_1.1.To.Minor),.p (.i .i64 r_1.1.To.Patch),.p (.s r_1.1.To.Early),.p (.i .i64 r_1.1.Result),.p (.s r_1.1.Note)]] by
    rcases Bool.eq_false_or_eq_true (decide (r_1.2=0)) with hg_2 | hg_2
    ·
     rcases Bool.eq_false_or_eq_true (decide ((List.drop ((IntKind.i64.wrap (r_7+1)).toNat) r_4.1)=r_10)) with hg_3 | hg_3
     ·
      have hg_6:(!((!decide (r_1.2=0)) || (!decide ((List.drop ((IntKind.i64.wrap (r_7+1)).toNat) r_4.1)=r_10))))=true:=by revert hg_2 hg_3; generalize decide ((List.drop ((IntKind.i64.wrap (r_7+1)).toNat) r_4.1)=r_10)=x0; generalize decide (r_1.2=0)=x1; revert x0 x1; decide
      simp only [go_sem,simprocAttr,false_implies,and_true,true_and,bad,hg_2,hg_3,hg_6]
      try refine ⟨sL,?_⟩
      refine Dr.callF (av:=?av21) (g:=!(!decide (r_1.2=0))) (o:=?o21) (fun hg=>zdq (o2_2_11++(List.take r_7.toNat r_4.1)) _ (hr_10 hg)) (by simp only [go_sem,simprocAttr,false_implies,and_true,true_and,bad,hg_2,hg_3,hg_6]; exact Is.mk) (by simp only [go_sem,simprocAttr,false_implies,and_true,true_and,bad,hg_2,hg_3,hg_6]; exact Is.mk) (by simp only [go_sem,simprocAttr,false_implies,and_true,true_and,bad,hg_2,hg_3,hg_6]; exact Is.mk) (by simp only [go_sem,simprocAttr,false_implies,and_true,true_and,bad,hg_2,hg_3,hg_6]; exact Is.mk) (by simp only [go_sem,simprocAttr,false_implies,and_true,true_and,bad,hg_2,hg_3,hg_6]) (by simp only [go_sem,simprocAttr,false_implies,and_true,true_and,bad,hg_2,hg_3,hg_6]; exact Is.mk) ?cont21
      simp only [go_sem,simprocAttr,false_implies,and_true,true_and,bad,hg_2,hg_3,hg_6]
      try refine ⟨sL,?_⟩
      refine Dr.of_br (Br.callEG (av:=?av22) (o:=?o22) [2,3,4,1,0] (zho r_1.1 o2_2_11 o3_19 o4_20 o1_1_18 m0_17 _ (hr_5 hg_6)) (by simp only [go_sem,simprocAttr,false_implies,and_true,true_and,bad,hg_2,hg_3,hg_6]; exact Is.mk) (by simp only [go_sem,simprocAttr,false_implies,and_true,true_and,bad,hg_2,hg_3,hg_6]; exact Is.mk) (by simp only [go_sem,simprocAttr,false_implies,and_true,true_and,bad,hg_2,hg_3,hg_6]; exact Is.mk) (by simp only [go_sem,simprocAttr,false_implies,and_true,true_and,bad,hg_2,hg_3,hg_6]; exact Is.mk) (by simp only [go_sem,simprocAttr,false_implies,and_true,true_and,bad,hg_2,hg_3,hg_6]; exact Is.mk) (by simp only [go_sem,simprocAttr,false_implies,and_true,true_and,bad,hg_2,hg_3,hg_6]) (by simp only [go_sem,simprocAttr,false_implies,and_true,true_and,bad,hg_2,hg_3,hg_6]) ?hag22 ?cont22)
      case hag22=>first | (simp only [go_sem,simprocAttr,false_implies,and_true,true_and,bad,hg_2,hg_3,hg_6]; done) | (simp only [go_sem,simprocAttr,false_implies,and_true,true_and,bad,hg_2,hg_3,hg_6]; exact sd)
      simp only [go_sem,simprocAttr,false_implies,and_true,true_and,bad,hg_2,hg_3,hg_6]
      first | refine hW20 _ _ _ _ ?_ hcont20 | refine ⟨sL,hW20 _ _ _ _ ?_ hcont20⟩
      simp only [go_sem,simprocAttr,false_implies,and_true,true_and,bad,hg_2,hg_3,hg_6]
      try exact se3
     ·
      have hg_8:(!((!decide (r_1.2=0)) || (!decide ((List.drop ((IntKind.i64.wrap (r_7+1)).toNat) r_4.1)=r_10))))=false:=by revert hg_2 hg_3; generalize decide ((List.drop ((IntKind.i64.wrap (r_7+1)).toNat) r_4.1)=r_10)=x0; generalize decide (r_1.2=0)=x1; revert x0 x1; decide
      simp only [go_sem,simprocAttr,false_implies,and_true,true_and,bad,hg_2,hg_3,hg_8]
      try refine ⟨sL,?_⟩
      refine Dr.callF (av:=?av23) (g:=!(!decide (r_1.2=0))) (o:=?o23) (fun hg=>zdq (o2_2_11++(List.take r_7.toNat r_4.1)) _ (hr_10 hg)) (by simp only [go_sem,simprocAttr,false_implies,and_true,true_and,bad,hg_2,hg_3,hg_8]; exact Is.mk) (by simp only [go_sem,simprocAttr,false_implies,and_true,true_and,bad,hg_2,hg_3,hg_8]; exact Is.mk) (by simp only [go_sem,simprocAttr,false_implies,and_true,true_and,bad,hg_2,hg_3,hg_8]; exact Is.mk) (by simp only [go_sem,simprocAttr,false_implies,and_true,true_and,bad,hg_2,hg_3,hg_8]; exact Is.mk) (by simp only [go_sem,simprocAttr,false_implies,and_true,true_and,bad,hg_2,hg_3,hg_8]) (by simp only [go_sem,simprocAttr,false_implies,and_true,true_and,bad,hg_2,hg_3,hg_8]; exact Is.mk) ?cont23
      simp only [go_sem,simprocAttr,false_implies,and_true,true_and,bad,hg_2,hg_3,hg_8]
      try refine ⟨sL,?_⟩
      obtain rfl:=hr_5d hg_8
      refine Dr.of_br (Br.skipG (o:=?o24) (v:=.top) (gw:=?gw24) (by simp only [go_sem,simprocAttr,false_implies,and_true,true_and,bad,hg_2,hg_3,hg_8]; exact Is.mk) (by simp only [go_sem,simprocAttr,false_implies,and_true,true_and,bad,hg_2,hg_3,hg_8]; exact Is.mk) (by simp only [go_sem,simprocAttr,false_implies,and_true,true_and,bad,hg_2,hg_3,hg_8]; exact Is.mk) (by simp only [go_sem,simprocAttr,false_implies,and_true,true_and,bad,hg_2,hg_3,hg_8]) ?cont24)
      simp only [go_sem,simprocAttr,false_implies,and_true,true_and,bad,hg_2,hg_3,hg_8]
      first | refine hW20 _ _ _ _ ?_ hcont20 | refine ⟨sL,hW20 _ _ _ _ ?_ hcont20⟩
      simp only [go_sem,simprocAttr,false_implies,and_true,true_and,bad,hg_2,hg_3,hg_8]
      try exact se3
    ·
     have hg_9:(!((!decide (r_1.2=0)) || (!decide ((List.drop ((IntKind.i64.wrap (r_7+1)).toNat) r_4.1)=r_10))))=false:=by revert hg_2; generalize decide ((List.drop ((IntKind.i64.wrap (r_7+1)).toNat) r_4.1)=r_10)=x0; generalize decide (r_1.2=0)=x1; revert x0 x1; decide
     simp only [go_sem,simprocAttr,false_implies,and_true,true_and,bad,hg_2,hg_9]
     try refine ⟨sL,?_⟩
     refine Dr.callF (av:=?av25) (g:=!(!decide (r_1.2=0))) (o:=?o25) (fun hg=>zdq (o2_2_11++(List.take r_7.toNat r_4.1)) _ (hr_10 hg)) (by simp only [go_sem,simprocAttr,false_implies,and_true,true_and,bad,hg_2,hg_9]; exact Is.mk) (by simp only [go_sem,simprocAttr,false_implies,and_true,true_and,bad,hg_2,hg_9]; exact Is.mk) (by simp only [go_sem,simprocAttr,false_implies,and_true,true_and,bad,hg_2,hg_9]; exact Is.mk) (by simp only [go_sem,simprocAttr,false_implies,and_true,true_and,bad,hg_2,hg_9]; exact Is.mk) (by simp only [go_sem,simprocAttr,false_implies,and_true,true_and,bad,hg_2,hg_9]) (by simp only [go_sem,simprocAttr,false_implies,and_true,true_and,bad,hg_2,hg_9]; exact Is.mk) ?cont25
     simp only [go_sem,simprocAttr,false_implies,and_true,true_and,bad,hg_2,hg_9]
     try refine ⟨sL,?_⟩
     obtain rfl:=hr_5d hg_9
     refine Dr.of_br (Br.skipG (o:=?o26) (v:=.top) (gw:=?gw26) (by simp only [go_sem,simprocAttr,false_implies,and_true,true_and,bad,hg_2,hg_9]; exact Is.mk) (by simp only [go_sem,simprocAttr,false_implies,and_true,true_and,bad,hg_2,hg_9]; exact Is.mk) (by simp only [go_sem,simprocAttr,false_implies,and_true,true_and,bad,hg_2,hg_9]; exact Is.mk) (by simp only [go_sem,simprocAttr,false_implies,and_true,true_and,bad,hg_2,hg_9]) ?cont26)
     simp only [go_sem,simprocAttr,false_implies,and_true,true_and,bad,hg_2,hg_9]
     first | refine hW20 _ _ _ _ ?_ hcont20 | refine ⟨sL,hW20 _ _ _ _ ?_ hcont20⟩
     simp only [go_sem,simprocAttr,false_implies,and_true,true_and,bad,hg_2,hg_9]
     try exact se3
   refine hK20 _ _ ?_
   refine cM hm (fun hc27 hm=>?_) (fun hc27 hm=>?_)
   ·refine Wp.exit ?_
    simp only [zl,zi,↓reduceIte]
    have hm:=hk_13 _ hm
    try dsimp only at hm
    refine hW8 _ _ _ _ ?_ (hcut8 (r_5.2.2.2.2.2,r_5.2.2.2.2.1,r_5.2.1,r_5.2.2.1,r_5.2.2.2.1) hm)
    exact zn
   ·refine Wp.skip ?_
    refine hK19 _ _ ?_
    refine qR ?_
    simp only [zl,zi,↓reduceIte]
    refine ⟨(r_4.2.1,r_5.2.2.2.2.2,r_5.2.2.2.2.1,r_5.2.1,r_5.2.2.1,r_5.2.2.2.1),hm,?_⟩
    exact zn
theorem zc5 (a_1:api_Record) (b_2:api_Record) (z:Int) (hm:zbq a_1 b_2=some z):Does Tryz.prog 49 [.agg [.p (.i .i64 a_1.Time),.p (.i .i64 a_1.Kind),.p (.s a_1.Pack),.p (.i .i64 a_1.From.Major),.p (.i .i64 a_1.From.Minor),.p (.i .i64 a_1.From.Patch),.p (.s a_1.From.Early),.p (.i .i64 a_1.To.Major),.p (.i .i64 a_1.To.Minor),.p (.i .i64 a_1.To.Patch),.p (.s a_1.To.Early),.p (.i .i64 a_1.Result),.p (.s a_1.Note)],.agg [.p (.i .i64 b_2.Time),.p (.i .i64 b_2.Kind),.p (.s b_2.Pack),.p (.i .i64 b_2.From.Major),.p (.i .i64 b_2.From.Minor),.p (.i .i64 b_2.From.Patch),.p (.s b_2.From.Early),.p (.i .i64 b_2.To.Major),.p (.i .i64 b_2.To.Minor),.p (.i .i64 b_2.To.Patch),.p (.s b_2.To.Early),.p (.i .i64 b_2.Result),.p (.s b_2.Note)]] [] (fun r X=>r=.p (.i .i64 z)∧X=[]):=by
 unfold zbq at hm
 refine dW 0 10 [.tmp 4] Tryz.func49 fun B=>?_
 refine qS ?_
 refine qS ?_
 refine Wp.ret ?_
 refine zc ?_
 cases hm
 exact zn
theorem zap (a_7:Int) (b_11:Int) (o0_17:List api_Record) (z:List api_Record) (hm:zq a_7 b_11 o0_17=some z):Does Tryz.prog 122 [.buf 0,.p (.i .i64 a_7),.p (.i .i64 b_11),.fn 49 []] [.fx 30 13 (List.map za o0_17)] (fun r X=>r=.tup []∧X=[.fx 30 13 (List.map za z)]):=by
 unfold zq at hm
 refine dW 1 53 [] Tryz.func122 fun B=>?_
 refine qS ?_
 refine Wp.block ?_
 obtain ⟨k_18,hk_18,hm⟩:=zB hm
 refine Wp.loopN (fun s=>[(0,.buf 0),(1,.p (.i .i64 a_7)),(2,.p (.i .i64 b_11)),(3,.fn 49 []),(8,.p (.i .i64 s.1))]) (fun s=>[.fx 30 13 (List.map za s.2)]) ?_ hm ?_
 ·
  exact zn
 clear hm
 intro s nx_27 hm
 obtain ⟨i_12,o0_28⟩:=s
 try dsimp only at hm
 try dsimp only
 refine Wp.seqW fun K2 hK2 hW2=>?_
 refine qS ?_
 refine cM hm (fun hc4 hm=>?_) (fun hc4 hm=>?_)
 ·refine Wp.skip ?_
  refine hK2 _ _ ?_
  refine Wp.seqW fun K5 hK5 hW5=>?_
  obtain ⟨k_13,hk_13,hm⟩:=zk hm
  have hcut5:∀ s,k_13 s=some z→K5 [(0,.buf 0),(1,.p (.i .i64 a_7)),(2,.p (.i .i64 b_11)),(3,.fn 49 []),(8,.p (.i .i64 i_12))] [.fx 30 13 (List.map za s)]:=by
   intro o0_20 hs
   have hm:=hk_13 _ hs
   clear hs
   try dsimp only at hm
   try dsimp only
   refine hK5 _ _ ?_
   refine qR ?_
   simp only [zl,zi,↓reduceIte]
   refine ⟨(IntKind.i64.wrap (i_12+1),o0_20),hm,?_⟩
   exact zn
  clear hK5 hk_13
  refine Wp.block ?_
  refine qS ?_
  refine Wp.block ?_
  obtain ⟨k_19,hk_19,hm⟩:=zB hm
  refine Wp.loopN (fun s=>[(0,.buf 0),(1,.p (.i .i64 a_7)),(2,.p (.i .i64 b_11)),(3,.fn 49 []),(8,.p (.i .i64 i_12)),(9,.p (.i .i64 s.1))]) (fun s=>[.fx 30 13 (List.map za s.2)]) ?_ hm ?_
  ·
   exact zn
  clear hm
  intro s nx_29 hm
  obtain ⟨j_3,o0_4⟩:=s
  try dsimp only at hm
  try dsimp only
  refine Wp.seqW fun K8 hK8 hW8=>?_
  obtain ⟨c_21,hm⟩:=zf hm
  obtain ⟨c_22,hm⟩:=zf hm
  obtain ⟨r_10,hr_10,hm⟩:=z7 hm
  refine Wp.seqDW (plan:=pl [(0,none),(1,none),(2,none),(3,none),(4,none),(5,none),(6,none),(7,none),(8,none),(9,none),(10,none),(11,none),(12,none),(13,none),(14,none),(15,none),(16,none)]) (by kernel_rfl) rfl (by kernel_rfl) fun K9 hK9 hW9=>?_
  suffices hcont9:K9 [(0,.buf 0),(1,.p (.i .i64 a_7)),(2,.p (.i .i64 b_11)),(3,.fn 49 []),(8,.p (.i .i64 i_12)),(9,.p (.i .i64 j_3)),(34,.p (.b ((decide (a_7 < j_3)) && (decide (r_10 < 0)))))] [.fx 30 13 (List.map za o0_4)] by
   rcases Bool.eq_false_or_eq_true (decide (a_7 < j_3)) with hg_1 | hg_1
   ·
    have c_23:=c_21 hg_1
    try dsimp only at c_23
    have c_24:=c_22 hg_1
    try dsimp only at c_24
    have hr_8:=fun h=>zJ (l:=o0_4) (e:=za) (d:=(api_Record.mk 0 0 [] (api_Version.mk 0 0 0 []) (api_Version.mk 0 0 0 []) 0 [])) (i:=j_3.toNat) h []
    have hr_9:=fun h=>zJ (l:=o0_4) (e:=za) (d:=(api_Record.mk 0 0 [] (api_Version.mk 0 0 0 []) (api_Version.mk 0 0 0 []) 0 [])) (i:=(IntKind.i64.wrap (j_3 - 1)).toNat) h []
    simp only [go_sem,simprocAttr,false_implies,and_true,true_and,bad,hg_1,hr_8 (by omega),hr_9 (by omega)]
    try refine ⟨sL,?_⟩
    refine Dr.callF (av:=?av10) (g:=decide (a_7 < j_3)) (o:=?o10) (fun hg=>zc5 (o0_4.getD j_3.toNat (api_Record.mk 0 0 [] (api_Version.mk 0 0 0 []) (api_Version.mk 0 0 0 []) 0 [])) (o0_4.getD ((IntKind.i64.wrap (j_3 - 1)).toNat) (api_Record.mk 0 0 [] (api_Version.mk 0 0 0 []) (api_Version.mk 0 0 0 []) 0 [])) _ (hr_10 hg)) (by simp only [go_sem,simprocAttr,false_implies,and_true,true_and,bad,hg_1,hr_8 (by omega),hr_9 (by omega)]; exact Is.mk) (by simp only [go_sem,simprocAttr,false_implies,and_true,true_and,bad,hg_1,hr_8 (by omega),hr_9 (by omega)]; exact Is.mk) (by simp only [go_sem,simprocAttr,false_implies,and_true,true_and,bad,hg_1,hr_8 (by omega),hr_9 (by omega)]; exact Is.mk) (by simp only [go_sem,simprocAttr,false_implies,and_true,true_and,bad,hg_1,hr_8 (by omega),hr_9 (by omega)]; exact Is.mk) (by simp only [go_sem,simprocAttr,false_implies,and_true,true_and,bad,hg_1,hr_8 (by omega),hr_9 (by omega)]) (by simp only [go_sem,simprocAttr,false_implies,and_true,true_and,bad,hg_1,hr_8 (by omega),hr_9 (by omega)]; exact Is.mk) ?cont10
    simp only [go_sem,simprocAttr,false_implies,and_true,true_and,bad,hg_1,hr_8 (by omega),hr_9 (by omega)]
    first | refine hW9 _ _ _ _ ?_ hcont9 | refine ⟨sL,hW9 _ _ _ _ ?_ hcont9⟩
    simp only [go_sem,simprocAttr,false_implies,and_true,true_and,bad,hg_1,hr_8 (by omega),hr_9 (by omega)]
    try exact se3
   ·
    rcases Nat.lt_or_ge j_3.toNat o0_4.length with hi_14 | hi_14
    ·
     have hr_2:=zJ (l:=o0_4) (e:=za) (d:=(api_Record.mk 0 0 [] (api_Version.mk 0 0 0 []) (api_Version.mk 0 0 0 []) 0 [])) (i:=j_3.toNat) hi_14 []
     rcases Nat.lt_or_ge ((IntKind.i64.wrap (j_3 - 1)).toNat) o0_4.length with hi_15 | hi_15
     ·
      have hr_5:=zJ (l:=o0_4) (e:=za) (d:=(api_Record.mk 0 0 [] (api_Version.mk 0 0 0 []) (api_Version.mk 0 0 0 []) 0 [])) (i:=(IntKind.i64.wrap (j_3 - 1)).toNat) hi_15 []
      simp only [go_sem,simprocAttr,false_implies,and_true,true_and,bad,hg_1,hr_2,hr_5]
      try refine ⟨sL,?_⟩
      refine Dr.skipG (o:=?o11) (v:=.p (.i .i64 r_10)) (gw:=?gw11) (by simp only [go_sem,simprocAttr,false_implies,and_true,true_and,bad,hg_1,hr_2,hr_5]; exact Is.mk) (by simp only [go_sem,simprocAttr,false_implies,and_true,true_and,bad,hg_1,hr_2,hr_5]; exact Is.mk) (by simp only [go_sem,simprocAttr,false_implies,and_true,true_and,bad,hg_1,hr_2,hr_5]; exact Is.mk) (by simp only [go_sem,simprocAttr,false_implies,and_true,true_and,bad,hg_1,hr_2,hr_5]) ?cont11
      simp only [go_sem,simprocAttr,false_implies,and_true,true_and,bad,hg_1,hr_2,hr_5]
      first | refine hW9 _ _ _ _ ?_ hcont9 | refine ⟨sL,hW9 _ _ _ _ ?_ hcont9⟩
      simp only [go_sem,simprocAttr,false_implies,and_true,true_and,bad,hg_1,hr_2,hr_5]
      try exact se3
     ·
      have hr_5:(List.map za o0_4).getD ((IntKind.i64.wrap (j_3 - 1)).toNat) []=[]:=by rw [List.getD_eq_getElem?_getD,List.getElem?_eq_none (by simpa using hi_15)]; rfl
      simp only [go_sem,simprocAttr,false_implies,and_true,true_and,bad,hg_1,hr_2,hr_5]
      try refine ⟨sL,?_⟩
      refine Dr.skipG (o:=?o12) (v:=.p (.i .i64 r_10)) (gw:=?gw12) (by simp only [go_sem,simprocAttr,false_implies,and_true,true_and,bad,hg_1,hr_2,hr_5]; exact Is.mk) (by simp only [go_sem,simprocAttr,false_implies,and_true,true_and,bad,hg_1,hr_2,hr_5]; exact Is.mk) (by simp only [go_sem,simprocAttr,false_implies,and_true,true_and,bad,hg_1,hr_2,hr_5]; exact Is.mk) (by simp only [go_sem,simprocAttr,false_implies,and_true,true_and,bad,hg_1,hr_2,hr_5]) ?cont12
      simp only [go_sem,simprocAttr,false_implies,and_true,true_and,bad,hg_1,hr_2,hr_5]
      first | refine hW9 _ _ _ _ ?_ hcont9 | refine ⟨sL,hW9 _ _ _ _ ?_ hcont9⟩
      simp only [go_sem,simprocAttr,false_implies,and_true,true_and,bad,hg_1,hr_2,hr_5]
      try exact se3
    ·
     have hr_2:(List.map za o0_4).getD j_3.toNat []=[]:=by rw [List.getD_eq_getElem?_getD,List.getElem?_eq_none (by simpa using hi_14)]; rfl
     rcases Nat.lt_or_ge ((IntKind.i64.wrap (j_3 - 1)).toNat) o0_4.length with hi_16 | hi_16
     ·
      have hr_6:=zJ (l:=o0_4) (e:=za) (d:=(api_Record.mk 0 0 [] (api_Version.mk 0 0 0 []) (api_Version.mk 0 0 0 []) 0 [])) (i:=(IntKind.i64.wrap (j_3 - 1)).toNat) hi_16 []
      simp only [go_sem,simprocAttr,false_implies,and_true,true_and,bad,hg_1,hr_2,hr_6]
      try refine ⟨sL,?_⟩
      refine Dr.skipG (o:=?o13) (v:=.p (.i .i64 r_10)) (gw:=?gw13) (by simp only [go_sem,simprocAttr,false_implies,and_true,true_and,bad,hg_1,hr_2,hr_6]; exact Is.mk) (by simp only [go_sem,simprocAttr,false_implies,and_true,true_and,bad,hg_1,hr_2,hr_6]; exact Is.mk) (by simp only [go_sem,simprocAttr,false_implies,and_true,true_and,bad,hg_1,hr_2,hr_6]; exact Is.mk) (by simp only [go_sem,simprocAttr,false_implies,and_true,true_and,bad,hg_1,hr_2,hr_6]) ?cont13
      simp only [go_sem,simprocAttr,false_implies,and_true,true_and,bad,hg_1,hr_2,hr_6]
      first | refine hW9 _ _ _ _ ?_ hcont9 | refine ⟨sL,hW9 _ _ _ _ ?_ hcont9⟩
      simp only [go_sem,simprocAttr,false_implies,and_true,true_and,bad,hg_1,hr_2,hr_6]
      try exact se3
     ·
      have hr_6:(List.map za o0_4).getD ((IntKind.i64.wrap (j_3 - 1)).toNat) []=[]:=by rw [List.getD_eq_getElem?_getD,List.getElem?_eq_none (by simpa using hi_16)]; rfl
      simp only [go_sem,simprocAttr,false_implies,and_true,true_and,bad,hg_1,hr_2,hr_6]
      try refine ⟨sL,?_⟩
      refine Dr.skipG (o:=?o14) (v:=.p (.i .i64 r_10)) (gw:=?gw14) (by simp only [go_sem,simprocAttr,false_implies,and_true,true_and,bad,hg_1,hr_2,hr_6]; exact Is.mk) (by simp only [go_sem,simprocAttr,false_implies,and_true,true_and,bad,hg_1,hr_2,hr_6]; exact Is.mk) (by simp only [go_sem,simprocAttr,false_implies,and_true,true_and,bad,hg_1,hr_2,hr_6]; exact Is.mk) (by simp only [go_sem,simprocAttr,false_implies,and_true,true_and,bad,hg_1,hr_2,hr_6]) ?cont14
      simp only [go_sem,simprocAttr,false_implies,and_true,true_and,bad,hg_1,hr_2,hr_6]
      first | refine hW9 _ _ _ _ ?_ hcont9 | refine ⟨sL,hW9 _ _ _ _ ?_ hcont9⟩
      simp only [go_sem,simprocAttr,false_implies,and_true,true_and,bad,hg_1,hr_2,hr_6]
      try exact se3
  refine hK9 _ _ ?_
  refine cM hm (fun hc15 hm=>?_) (fun hc15 hm=>?_)
  ·refine Wp.skip ?_
   refine hK8 _ _ ?_
   refine Wp.seqW fun K16 hK16 hW16=>?_
   refine Wp.block ?_
   obtain ⟨c_30,hm⟩:=zf hm
   obtain ⟨c_31,hm⟩:=zf hm
   obtain ⟨c_32,hm⟩:=zf hm
   obtain ⟨c_33,hm⟩:=zf hm
   have hr_25:=fun h=>zJ (l:=o0_4) (e:=za) (d:=(api_Record.mk 0 0 [] (api_Version.mk 0 0 0 []) (api_Version.mk 0 0 0 []) 0 [])) (i:=(IntKind.i64.wrap (j_3 - 1)).toNat) h []
   have hr_26:=fun h=>zJ (l:=o0_4) (e:=za) (d:=(api_Record.mk 0 0 [] (api_Version.mk 0 0 0 []) (api_Version.mk 0 0 0 []) 0 [])) (i:=j_3.toNat) h []
   refine Wp.regD (plan:=pl [(0,none),(1,none),(2,none),(3,none),(4,none),(5,none),(6,none),(7,none),(8,none),(9,none),(10,none),(11,none),(12,none),(13,none),(14,none),(15,some [2,3,4]),(16,none),(17,some [])]) (by kernel_rfl) rfl (by kernel_rfl) fun K17 hK17=>?_
   simp only [go_sem,simprocAttr,hr_25 (by omega),hr_26 (by omega)]
   refine kA hK17 ?_
   refine hK16 _ _ ?_
   refine qR ?_
   simp only [zl,zi,↓reduceIte]
   refine ⟨(IntKind.i64.wrap (j_3 - 1),List.set (List.set o0_4 j_3.toNat (o0_4.getD ((IntKind.i64.wrap (j_3 - 1)).toNat) (api_Record.mk 0 0 [] (api_Version.mk 0 0 0 []) (api_Version.mk 0 0 0 []) 0 []))) ((IntKind.i64.wrap (j_3 - 1)).toNat) (o0_4.getD j_3.toNat (api_Record.mk 0 0 [] (api_Version.mk 0 0 0 []) (api_Version.mk 0 0 0 []) 0 []))),hm,?_⟩
   exact zn
  ·refine Wp.exit ?_
   simp only [zl,zi,↓reduceIte]
   have hm:=hk_19 _ hm
   try dsimp only at hm
   refine hW5 _ _ _ _ ?_ (hcut5 o0_4 hm)
   exact zn
 ·refine Wp.exit ?_
  simp only [zl,zi,↓reduceIte]
  have hm:=hk_18 _ hm
  try dsimp only at hm
  refine zaJ ?_
  cases hm
  exact zn
theorem zaa (a_2:Int) (b_3:Int) (n_5:Int) (o0_6:List api_Record) (z:List api_Record) (hm:zp a_2 b_3 n_5 o0_6=some z):Does Tryz.prog 184 [.buf 0,.p (.i .i64 a_2),.p (.i .i64 b_3),.p (.i .i64 n_5),.fn 49 []] [.fx 30 13 (List.map za o0_6)] (fun r X=>r=.tup []∧X=[.fx 30 13 (List.map za z)]):=by
 unfold zp at hm
 refine dW 1 38 [] Tryz.func184 fun B=>?_
 refine qS ?_
 refine Wp.block ?_
 obtain ⟨k_7,hk_7,hm⟩:=zB hm
 refine Wp.loopN (fun s=>[(0,.buf 0),(1,.p (.i .i64 a_2)),(2,.p (.i .i64 b_3)),(3,.p (.i .i64 n_5)),(10,.p (.i .i64 s.1))]) (fun s=>[.fx 30 13 (List.map za s.2)]) ?_ hm ?_
 ·
  exact zn
 clear hm
 intro s nx_10 hm
 obtain ⟨i_1,o0_4⟩:=s
 try dsimp only at hm
 try dsimp only
 refine Wp.seqW fun K2 hK2 hW2=>?_
 refine qS ?_
 refine cM hm (fun hc4 hm=>?_) (fun hc4 hm=>?_)
 ·refine Wp.skip ?_
  refine hK2 _ _ ?_
  refine Wp.seqW fun K5 hK5 hW5=>?_
  refine Wp.block ?_
  obtain ⟨c_11,hm⟩:=zf hm
  obtain ⟨c_12,hm⟩:=zf hm
  obtain ⟨c_13,hm⟩:=zf hm
  obtain ⟨c_14,hm⟩:=zf hm
  have hr_8:=fun h=>zJ (l:=o0_4) (e:=za) (d:=(api_Record.mk 0 0 [] (api_Version.mk 0 0 0 []) (api_Version.mk 0 0 0 []) 0 [])) (i:=(IntKind.i64.wrap (b_3+i_1)).toNat) h []
  have hr_9:=fun h=>zJ (l:=o0_4) (e:=za) (d:=(api_Record.mk 0 0 [] (api_Version.mk 0 0 0 []) (api_Version.mk 0 0 0 []) 0 [])) (i:=(IntKind.i64.wrap (a_2+i_1)).toNat) h []
  refine Wp.regD (plan:=pl [(0,none),(1,none),(2,none),(3,none),(4,none),(5,none),(6,none),(7,none),(8,none),(9,none),(10,none),(11,none),(12,none),(13,none),(14,none),(15,none),(16,none),(17,none),(18,none),(19,none),(20,none),(21,some [4,5,6,7]),(22,none),(23,some [])]) (by kernel_rfl) rfl (by kernel_rfl) fun K6 hK6=>?_
  simp only [go_sem,simprocAttr,hr_8 (by omega),hr_9 (by omega)]
  refine kA hK6 ?_
  refine hK5 _ _ ?_
  refine qR ?_
  simp only [zl,zi,↓reduceIte]
  refine ⟨(IntKind.i64.wrap (i_1+1),List.set (List.set o0_4 ((IntKind.i64.wrap (a_2+i_1)).toNat) (o0_4.getD ((IntKind.i64.wrap (b_3+i_1)).toNat) (api_Record.mk 0 0 [] (api_Version.mk 0 0 0 []) (api_Version.mk 0 0 0 []) 0 []))) ((IntKind.i64.wrap (b_3+i_1)).toNat) (o0_4.getD ((IntKind.i64.wrap (a_2+i_1)).toNat) (api_Record.mk 0 0 [] (api_Version.mk 0 0 0 []) (api_Version.mk 0 0 0 []) 0 []))),hm,?_⟩
  exact zn
 ·refine Wp.exit ?_
  simp only [zl,zi,↓reduceIte]
  have hm:=hk_7 _ hm
  try dsimp only at hm
  refine zaJ ?_
  cases hm
  exact zn
theorem zbZ (a_8:Int) (m_1:Int) (b_9:Int) (o0_10:List api_Record) (z:List api_Record) (hm:zO a_8 m_1 b_9 o0_10=some z):Does Tryz.prog 164 [.buf 0,.p (.i .i64 a_8),.p (.i .i64 m_1),.p (.i .i64 b_9),.fn 49 []] [.fx 30 13 (List.map za o0_10)] (fun r X=>r=.tup []∧X=[.fx 30 13 (List.map za z)]):=by
 unfold zO at hm
 refine dW 1 58 [] Tryz.func164 fun B=>?_
 refine qS ?_
 refine qS ?_
 refine Wp.seqW fun K3 hK3 hW3=>?_
 obtain ⟨k_4,hk_4,hm⟩:=zk hm
 have hcut3:∀ s,k_4 s=some z→K3 [(0,.buf 0),(2,.p (.i .i64 m_1)),(4,.fn 49 []),(10,.p (.i .i64 s.1))] [.fx 30 13 (List.map za s.2)]:=by
  intro s hs
  have hm:=hk_4 _ hs
  clear hs
  obtain ⟨i_11,o0_14⟩:=s
  try dsimp only at hm
  try dsimp only
  refine hK3 _ _ ?_
  obtain ⟨r_12,hr_12,hm⟩:=zb hm
  refine Wp.region fun K4 hK4=>?_
  simp only [go_sem,simprocAttr]
  try refine ⟨sd,?_⟩
  refine Rg.callO (av:=?av5) [0] (zaa (IntKind.i64.wrap (m_1 - i_11)) m_1 i_11 o0_14 _ hr_12) si si si sg sg ?cont5
  rintro _ _ ⟨rfl,rfl⟩ hv5
  simp only [go_sem,simprocAttr]
  refine kA hK4 ?_
  refine zaJ ?_
  cases hm
  exact zn
 clear hK3 hk_4
 refine Wp.block ?_
 obtain ⟨k_13,hk_13,hm⟩:=zB hm
 refine Wp.loopN (fun s=>[(0,.buf 0),(2,.p (.i .i64 m_1)),(4,.fn 49 []),(10,.p (.i .i64 s.1)),(11,.p (.i .i64 s.2.1))]) (fun s=>[.fx 30 13 (List.map za s.2.2)]) ?_ hm ?_
 ·
  exact zn
 clear hm
 intro s nx_15 hm
 obtain ⟨i_2,j_3,o0_5⟩:=s
 try dsimp only at hm
 try dsimp only
 refine Wp.seqW fun K6 hK6 hW6=>?_
 refine qS ?_
 refine cM hm (fun hc8 hm=>?_) (fun hc8 hm=>?_)
 ·refine Wp.skip ?_
  refine hK6 _ _ ?_
  refine Wp.block ?_
  refine qS ?_
  refine cM hm (fun hc10 hm=>?_) (fun hc10 hm=>?_)
  ·obtain ⟨r_6,hr_6,hm⟩:=zb hm
   refine Wp.seqR fun K11 hK11=>?_
   simp only [go_sem,simprocAttr]
   try refine ⟨sd,?_⟩
   refine Rg.callO (av:=?av12) [0] (zaa (IntKind.i64.wrap (m_1 - i_2)) m_1 j_3 o0_5 _ hr_6) si si si sg sg ?cont12
   rintro _ _ ⟨rfl,rfl⟩ hv12
   simp only [go_sem,simprocAttr]
   refine kA hK11 ?_
   refine qR ?_
   simp only [zl,zi,↓reduceIte]
   refine ⟨(IntKind.i64.wrap (i_2 - j_3),j_3,r_6),hm,?_⟩
   exact zn
  ·obtain ⟨r_7,hr_7,hm⟩:=zb hm
   refine Wp.seqR fun K14 hK14=>?_
   simp only [go_sem,simprocAttr]
   try refine ⟨sd,?_⟩
   refine Rg.callO (av:=?av15) [0] (zaa (IntKind.i64.wrap (m_1 - i_2)) (IntKind.i64.wrap ((IntKind.i64.wrap (m_1+j_3)) - i_2)) i_2 o0_5 _ hr_7) si si si sg sg ?cont15
   rintro _ _ ⟨rfl,rfl⟩ hv15
   simp only [go_sem,simprocAttr]
   refine kA hK14 ?_
   refine qR ?_
   simp only [zl,zi,↓reduceIte]
   refine ⟨(i_2,IntKind.i64.wrap (j_3 - i_2),r_7),hm,?_⟩
   exact zn
 ·refine Wp.exit ?_
  simp only [zl,zi,↓reduceIte]
  have hm:=hk_13 _ hm
  try dsimp only at hm
  refine hW3 _ _ _ _ ?_ (hcut3 (i_2,o0_5) hm)
  exact zn
end Go.Proofs.YtmnohdgjkcjdeaaGreatDoor
