/- That the code does what the models say (part 14). -/
import Derived.Test.YtmnohdgjkcjdeaaGreatDoorLpWk0
import Derived.Test.YtmnohdgjkcjdeaaGreatDoorLpWk1
import Derived.Test.YtmnohdgjkcjdeaaGreatDoorLpWk6
import Derived.Test.YtmnohdgjkcjdeaaGreatDoorLpWk8
import Derived.Test.YtmnohdgjkcjdeaaGreatDoorLpWk10
import Derived.Test.YtmnohdgjkcjdeaaGreatDoorLpWk13
set_option linter.unusedSimpArgs false
set_option linter.unusedVariables false
open Go.Proofs Go.Shelf
namespace Go.Proofs.YtmnohdgjkcjdeaaGreatDoor
open Go.Vc Go.Md
set_option maxRecDepth 100000
set_option maxHeartbeats 4000000
theorem zbU (slices_1:List (List api_Record)) (z:List api_Record) (hm:zH slices_1=some z):Does Tryz.prog 21 [.p (.l (List.map zK slices_1))] [] (fun r X=>r=.p (.l (List.map za z))∧X=[]):=by
 unfold zH at hm
 refine dW 0 36 [.tmp 2] Tryz.func21 fun B=>?_
 refine qS ?_
 refine qS ?_
 refine Wp.seqW fun K3 hK3 hW3=>?_
 obtain ⟨k_4,hk_4,hm⟩:=zk hm
 have hcut3:∀ s,k_4 s=some z→K3 [(0,.p (.l (List.map zK slices_1))),(3,.p (.i .i64 s))] []:=by
  intro size_17 hs
  have hm:=hk_4 _ hs
  clear hs
  try dsimp only at hm
  try dsimp only
  refine hK3 _ _ ?_
  obtain ⟨r_10,hr_10,hm⟩:=zb hm
  refine Wp.seqR fun K4 hK4=>?_
  simp only [go_sem,simprocAttr]
  try refine ⟨sd,?_⟩
  refine Rg.callNil (zfo size_17 _ hr_10) (zht (fun _=>rfl) _) si sg ?cont5
  simp only [go_sem,simprocAttr]
  refine kA hK4 ?_
  refine Wp.seqW fun K6 hK6 hW6=>?_
  obtain ⟨k_5,hk_5,hm⟩:=zk hm
  have hcut6:∀ s,k_5 s=some z→K6 [(6,.buf 0)] [.buf 30 13 (List.map za s)]:=by
   intro o0_18 hs
   have hm:=hk_5 _ hs
   clear hs
   try dsimp only at hm
   try dsimp only
   refine hK6 _ _ ?_
   refine qS ?_
   refine Wp.ret ?_
   refine zc ?_
   cases hm
   exact fse4
  clear hK6 hk_5
  refine qS ?_
  refine Wp.block ?_
  obtain ⟨k_11,hk_11,hm⟩:=zT hm
  refine Wp.fact 25 fun hl_8=>?_
  replace hl_8:slices_1.length≤274877906944:=by
   simp only [go_sem,simprocAttr,List.length_map] at hl_8
   omega
  refine Wp.forL (fun i_6 s=>[(6,.buf 0),(25,.p (.l (List.map zK slices_1))),(26,.p (.i .i64 (slices_1.length:Int))),(27,.p (.i .i64 (i_6:Int)))]) (fun i_6 s=>[.buf 30 13 (List.map za s)]) ?_ hm ?_
  ·
   exact fse4
  clear hm
  intro i_6 o0_12 hii_6 hm
  try dsimp only at hm
  try dsimp only
  refine qS ?_
  refine Wp.seqW fun K10 hK10 hW10=>?_
  refine Wp.cond rfl ⟨⟩ (fun hc10=>?_) (fun hc10=>?_)
  rotate_left
  ·refine Wp.exit ?_
   have hm:=hk_11 _ (zaf hm (zbc (by first | exact hc10 | simpa using hc10)))
   try dsimp only at hm
   refine hW6 _ _ _ _ ?_ (hcut6 o0_12 hm)
   exact fse4
  have hlt10:=zbb (by first | exact hc10 | simpa using hc10)
  have hw10:=zR hlt10 hl_8
  obtain ⟨l_3,nx_13,hxl_3,hyl_3,hnx_13,hm⟩:=zS hm hlt10
  replace hxl_3:=hxl_3 zK
  refine Wp.skip ?_
  simp only [zl]
  refine hK10 _ _ ?_
  refine Wp.seqW fun K11 hK11 hW11=>?_
  refine Wp.block ?_
  refine Wp.seqR fun K12 hK12=>?_
  simp only [go_sem,simprocAttr,hw10,hxl_3]
  refine kA hK12 ?_
  obtain ⟨c_19,hm⟩:=zf hm
  refine Wp.region fun K13 hK13=>?_
  simp only [go_sem,simprocAttr,hw10,hxl_3]
  refine kA hK13 ?_
  refine hK11 _ _ ?_
  refine Wp.region fun K14 hK14=>?_
  simp only [go_sem,simprocAttr,hw10,hxl_3]
  refine kA hK14 ?_
  simp only [zl,zi,↓reduceIte]
  refine ⟨o0_12++l_3,hlt10,hnx_13 _ hm,?_⟩
  simp only [go_sem,simprocAttr,hw10,hxl_3]
  try exact se4
 clear hK3 hk_4
 refine qS ?_
 refine Wp.block ?_
 obtain ⟨k_14,hk_14,hm⟩:=zT hm
 refine Wp.fact 0 fun hl_9=>?_
 replace hl_9:slices_1.length≤274877906944:=by
  simp only [go_sem,simprocAttr,List.length_map] at hl_9
  omega
 refine Wp.forL (fun i_7 s=>[(0,.p (.l (List.map zK slices_1))),(3,.p (.i .i64 s)),(9,.p (.l (List.map zK slices_1))),(10,.p (.i .i64 (slices_1.length:Int))),(11,.p (.i .i64 (i_7:Int)))]) (fun i_7 s=>[]) ?_ hm ?_
 ·
  exact fse4
 clear hm
 intro i_7 size_15 hii_7 hm
 try dsimp only at hm
 try dsimp only
 refine qS ?_
 refine Wp.seqW fun K17 hK17 hW17=>?_
 refine Wp.cond rfl ⟨⟩ (fun hc17=>?_) (fun hc17=>?_)
 rotate_left
 ·refine Wp.exit ?_
  have hm:=hk_14 _ (zaf hm (zbc (by first | exact hc17 | simpa using hc17)))
  try dsimp only at hm
  refine hW3 _ _ _ _ ?_ (hcut3 size_15 hm)
  exact fse4
 have hlt17:=zbb (by first | exact hc17 | simpa using hc17)
 have hw17:=zR hlt17 hl_9
 obtain ⟨l_2,nx_16,hxl_2,hyl_2,hnx_16,hm⟩:=zS hm hlt17
 replace hxl_2:=hxl_2 zK
 refine Wp.skip ?_
 simp only [zl]
 refine hK17 _ _ ?_
 refine Wp.seqW fun K18 hK18 hW18=>?_
 refine Wp.block ?_
 refine Wp.seqR fun K19 hK19=>?_
 simp only [go_sem,simprocAttr,hw17,hxl_2]
 refine kA hK19 ?_
 refine Wp.seqR fun K20 hK20=>?_
 simp only [go_sem,simprocAttr,hw17,hxl_2]
 refine kA hK20 ?_
 refine Wp.seqR fun K21 hK21=>?_
 simp only [go_sem,simprocAttr,hw17,hxl_2]
 refine kA hK21 ?_
 refine cM hm (fun hc22 hm=>?_) (fun hc22 hm=>?_)
 ·cases hm
 ·refine Wp.skip ?_
  refine hK18 _ _ ?_
  refine Wp.region fun K23 hK23=>?_
  simp only [go_sem,simprocAttr,hw17,hxl_2]
  refine kA hK23 ?_
  simp only [zl,zi,↓reduceIte]
  refine ⟨IntKind.i64.wrap (size_15+(l_2.length:Int)),hlt17,hnx_16 _ hm,?_⟩
  simp only [go_sem,simprocAttr,hw17,hxl_2]
  try exact se4
theorem ok_log_Part (a_9:Str) (b_10:Str) (z:Int × Int) (hm:zeR a_9 b_10=some z):Does Tryz.prog 22 [.p (.s a_9),.p (.s b_10)] [] (fun r X=>r=.tup [.p (.i .i64 z.1),.p (.i .i64 z.2)]∧X=[]):=by
 unfold zeR at hm
 refine dW 0 79 [.tmp 4,.tmp 5] Tryz.func22 fun B=>?_
 refine qS ?_
 obtain ⟨r_2,hr_2,hm⟩:=zb hm
 refine Wp.seqR fun K2 hK2=>?_
 simp only [go_sem,simprocAttr]
 try refine ⟨sd,?_⟩
 refine Rg.callO (av:=?av3) [] (ziQ a_9 _ hr_2) si si si sg sg ?cont3
 rintro _ _ ⟨rfl,rfl⟩ hv3
 simp only [go_sem,simprocAttr]
 refine kA hK2 ?_
 refine Wp.seqW fun K4 hK4 hW4=>?_
 refine qS ?_
 refine cM hm (fun hc6 hm=>?_) (fun hc6 hm=>?_)
 ·refine qS ?_
  refine Wp.ret ?_
  refine zc ?_
  cases hm
  exact fse4
 ·refine Wp.skip ?_
  refine hK4 _ _ ?_
  obtain ⟨r_1,hr_1,hm⟩:=zb hm
  refine Wp.seqR fun K8 hK8=>?_
  simp only [go_sem,simprocAttr]
  try refine ⟨sd,?_⟩
  refine Rg.callO (av:=?av9) [] (ziQ b_10 _ hr_1) si si si sg sg ?cont9
  rintro _ _ ⟨rfl,rfl⟩ hv9
  simp only [go_sem,simprocAttr]
  refine kA hK8 ?_
  refine Wp.seqW fun K10 hK10 hW10=>?_
  refine qS ?_
  refine cM hm (fun hc12 hm=>?_) (fun hc12 hm=>?_)
  ·refine qS ?_
   refine Wp.ret ?_
   refine zc ?_
   cases hm
   exact fse4
  ·refine Wp.skip ?_
   refine hK10 _ _ ?_
   refine qS ?_
   refine Wp.seqW fun K15 hK15 hW15=>?_
   obtain ⟨k_8,hk_8,hm⟩:=zk hm
   have hcut15:∀ s,k_8 s=some z→K15 [(6,.ptr 2 0),(9,.ptr 7 0),(11,.p (.i .i64 s))] [.mp true (zcN Dt.s zm r_2.2.2.1),.cells 99 [.mp 0,.p (.i .i64 r_2.2.2.2.1)],.cells 63 [.buf 3,.buf 4,.p (.s r_2.2.2.2.2.1),.ptr 1 0],.buf 30 13 (List.map za r_2.2.2.2.2.2.1),.buf 9 1 (List.map ecS r_2.2.2.2.2.2.2),.mp true (zcN Dt.s zm r_1.2.2.1),.cells 99 [.mp 5,.p (.i .i64 r_1.2.2.2.1)],.cells 63 [.buf 8,.buf 9,.p (.s r_1.2.2.2.2.1),.ptr 6 0],.buf 30 13 (List.map za r_1.2.2.2.2.2.1),.buf 9 1 (List.map ecS r_1.2.2.2.2.2.2)]:=by
    intro n_21 hs
    have hm:=hk_8 _ hs
    clear hs
    try dsimp only at hm
    try dsimp only
    refine hK15 _ _ ?_
    refine Wp.seqW fun K16 hK16 hW16=>?_
    refine qS ?_
    refine cM hm (fun hc18 hm=>?_) (fun hc18 hm=>?_)
    ·refine qS ?_
     refine Wp.ret ?_
     refine zc ?_
     cases hm
     exact fse4
    ·refine Wp.skip ?_
     refine hK16 _ _ ?_
     refine qS ?_
     refine Wp.ret ?_
     refine zc ?_
     cases hm
     exact fse4
   clear hK15 hk_8
   refine Wp.block ?_
   obtain ⟨k_14,hk_14,hm⟩:=zB hm
   refine Wp.loopN (fun s=>[(6,.ptr 2 0),(9,.ptr 7 0),(11,.p (.i .i64 s))]) (fun s=>[.mp true (zcN Dt.s zm r_2.2.2.1),.cells 99 [.mp 0,.p (.i .i64 r_2.2.2.2.1)],.cells 63 [.buf 3,.buf 4,.p (.s r_2.2.2.2.2.1),.ptr 1 0],.buf 30 13 (List.map za r_2.2.2.2.2.2.1),.buf 9 1 (List.map ecS r_2.2.2.2.2.2.2),.mp true (zcN Dt.s zm r_1.2.2.1),.cells 99 [.mp 5,.p (.i .i64 r_1.2.2.2.1)],.cells 63 [.buf 8,.buf 9,.p (.s r_1.2.2.2.2.1),.ptr 6 0],.buf 30 13 (List.map za r_1.2.2.2.2.2.1),.buf 9 1 (List.map ecS r_1.2.2.2.2.2.2)]) ?_ hm ?_
   ·
    exact fse4
   clear hm
   intro n_3 nx_22 hm
   try dsimp only at hm
   try dsimp only
   refine Wp.seqW fun K21 hK21 hW21=>?_
   obtain ⟨c_17,hm⟩:=zf hm
   obtain ⟨c_18,hm⟩:=zf hm
   refine Wp.seqDW (plan:=pl [(0,none),(1,none),(2,none),(3,none),(4,none),(5,none),(6,none),(7,none),(8,none),(9,none),(10,none),(11,none),(12,none),(13,none),(14,none),(15,none),(16,none),(17,none),(18,none),(19,none),(20,none),(21,none),(22,none),(23,none),(24,none),(25,none),(26,none),(27,none),(28,none),(29,none)]) (by kernel_rfl) rfl (by kernel_rfl) fun K22 hK22 hW22=>?_
   suffices hcont22:K22 [(6,.ptr 2 0),(9,.ptr 7 0),(11,.p (.i .i64 n_3)),(59,.p (.b ((decide (n_3 < (min (r_2.2.2.2.2.2.2.length:Int) (r_1.2.2.2.2.2.2.length:Int)))) && (decide ((r_2.2.2.2.2.2.2.getD n_3.toNat [])=(r_1.2.2.2.2.2.2.getD n_3.toNat []))))))] [.mp true (zcN Dt.s zm r_2.2.2.1),.cells 99 [.mp 0,.p (.i .i64 r_2.2.2.2.1)],.cells 63 [.buf 3,.buf 4,.p (.s r_2.2.2.2.2.1),.ptr 1 0],.buf 30 13 (List.map za r_2.2.2.2.2.2.1),.buf 9 1 (List.map ecS r_2.2.2.2.2.2.2),.mp true (zcN Dt.s zm r_1.2.2.1),.cells 99 [.mp 5,.p (.i .i64 r_1.2.2.2.1)],.cells 63 [.buf 8,.buf 9,.p (.s r_1.2.2.2.2.1),.ptr 6 0],.buf 30 13 (List.map za r_1.2.2.2.2.2.1),.buf 9 1 (List.map ecS r_1.2.2.2.2.2.2)] by
    rcases Bool.eq_false_or_eq_true (decide (n_3 < (min (r_2.2.2.2.2.2.2.length:Int) (r_1.2.2.2.2.2.2.length:Int)))) with hg_4 | hg_4
    ·
     have c_19:=c_17 hg_4
     try dsimp only at c_19
     have c_20:=c_18 hg_4
     try dsimp only at c_20
     have hr_15:=fun h=>zJ (l:=r_2.2.2.2.2.2.2) (e:=ecS) (d:=[]) (i:=n_3.toNat) h []
     have hr_16:=fun h=>zJ (l:=r_1.2.2.2.2.2.2) (e:=ecS) (d:=[]) (i:=n_3.toNat) h []
     simp only [go_sem,simprocAttr,false_implies,and_true,true_and,bad,hg_4,hr_15 (by omega),hr_16 (by omega)]
     first | refine hW22 _ _ _ _ ?_ hcont22 | refine ⟨sL,hW22 _ _ _ _ ?_ hcont22⟩
     simp only [go_sem,simprocAttr,false_implies,and_true,true_and,bad,hg_4,hr_15 (by omega),hr_16 (by omega)]
     try exact se4
    ·
     rcases Nat.lt_or_ge n_3.toNat r_2.2.2.2.2.2.2.length with hi_11 | hi_11
     ·
      have hr_5:=zJ (l:=r_2.2.2.2.2.2.2) (e:=ecS) (d:=[]) (i:=n_3.toNat) hi_11 []
      rcases Nat.lt_or_ge n_3.toNat r_1.2.2.2.2.2.2.length with hi_12 | hi_12
      ·
       have hr_6:=zJ (l:=r_1.2.2.2.2.2.2) (e:=ecS) (d:=[]) (i:=n_3.toNat) hi_12 []
       simp only [go_sem,simprocAttr,false_implies,and_true,true_and,bad,hg_4,hr_5,hr_6]
       first | refine hW22 _ _ _ _ ?_ hcont22 | refine ⟨sL,hW22 _ _ _ _ ?_ hcont22⟩
       simp only [go_sem,simprocAttr,false_implies,and_true,true_and,bad,hg_4,hr_5,hr_6]
       try exact se4
      ·
       have hr_6:(List.map ecS r_1.2.2.2.2.2.2).getD n_3.toNat []=[]:=by rw [List.getD_eq_getElem?_getD,List.getElem?_eq_none (by simpa using hi_12)]; rfl
       simp only [go_sem,simprocAttr,false_implies,and_true,true_and,bad,hg_4,hr_5,hr_6]
       first | refine hW22 _ _ _ _ ?_ hcont22 | refine ⟨sL,hW22 _ _ _ _ ?_ hcont22⟩
       simp only [go_sem,simprocAttr,false_implies,and_true,true_and,bad,hg_4,hr_5,hr_6]
       try exact se4
     ·
      have hr_5:(List.map ecS r_2.2.2.2.2.2.2).getD n_3.toNat []=[]:=by rw [List.getD_eq_getElem?_getD,List.getElem?_eq_none (by simpa using hi_11)]; rfl
      rcases Nat.lt_or_ge n_3.toNat r_1.2.2.2.2.2.2.length with hi_13 | hi_13
      ·
       have hr_7:=zJ (l:=r_1.2.2.2.2.2.2) (e:=ecS) (d:=[]) (i:=n_3.toNat) hi_13 []
       simp only [go_sem,simprocAttr,false_implies,and_true,true_and,bad,hg_4,hr_5,hr_7]
       first | refine hW22 _ _ _ _ ?_ hcont22 | refine ⟨sL,hW22 _ _ _ _ ?_ hcont22⟩
       simp only [go_sem,simprocAttr,false_implies,and_true,true_and,bad,hg_4,hr_5,hr_7]
       try exact se4
      ·
       have hr_7:(List.map ecS r_1.2.2.2.2.2.2).getD n_3.toNat []=[]:=by rw [List.getD_eq_getElem?_getD,List.getElem?_eq_none (by simpa using hi_13)]; rfl
       simp only [go_sem,simprocAttr,false_implies,and_true,true_and,bad,hg_4,hr_5,hr_7]
       first | refine hW22 _ _ _ _ ?_ hcont22 | refine ⟨sL,hW22 _ _ _ _ ?_ hcont22⟩
       simp only [go_sem,simprocAttr,false_implies,and_true,true_and,bad,hg_4,hr_5,hr_7]
       try exact se4
   refine hK22 _ _ ?_
   refine cM hm (fun hc23 hm=>?_) (fun hc23 hm=>?_)
   ·refine Wp.skip ?_
    refine hK21 _ _ ?_
    refine Wp.block ?_
    refine qR ?_
    simp only [zl,zi,↓reduceIte]
    refine ⟨IntKind.i64.wrap (n_3+1),hm,?_⟩
    exact fse4
   ·refine Wp.exit ?_
    simp only [zl,zi,↓reduceIte]
    have hm:=hk_14 _ hm
    try dsimp only at hm
    refine hW15 _ _ _ _ ?_ (hcut15 n_3 hm)
    exact fse4
theorem ziV (a_39:List api_Record) (b_40:List api_Record) (n_41:Int) (at_47:Int) (by_48:Int) (z:Bool) (hm:zde a_39 b_40 n_41 at_47 by_48=some z):Does Tryz.prog 5 [.p (.l (List.map za a_39)),.p (.l (List.map za b_40)),.p (.i .i64 n_41),.p (.i .i64 at_47),.p (.i .u8 by_48)] [] (fun r X=>r=.p (.b z)∧X=[]):=by
 unfold zde at hm
 refine dW 0 119 [.tmp 10] Tryz.func5 fun B=>?_
 refine qS ?_
 refine Wp.seqW fun K2 hK2 hW2=>?_
 obtain ⟨r_49,hr_49,hm⟩:=zb hm
 refine Wp.seqR fun K3 hK3=>?_
 simp only [go_sem,simprocAttr]
 try refine ⟨sd,?_⟩
 refine Rg.callX (av:=?av4) (g:=true) (fun hg=>zkV  _ hr_49) si si si sg si ?cont4
 intro hv4
 simp only [go_sem,simprocAttr]
 refine kA hK3 ?_
 refine cM hm (fun hc5 hm=>?_) (fun hc5 hm=>?_)
 ·refine qS ?_
  refine Wp.ret ?_
  refine zc ?_
  cases hm
  exact zn
 ·refine Wp.skip ?_
  refine hK2 _ _ ?_
  obtain ⟨r_3,hr_3,hm⟩:=zb hm
  obtain ⟨r_42,hr_42,hm⟩:=zb hm
  refine Wp.seqR fun K7 hK7=>?_
  simp only [go_sem,simprocAttr]
  try refine ⟨sd,?_⟩
  refine Rg.callF (av:=?av8) (zfq a_39 false _ hr_3) si si sg ?cont8
  intro hv8
  simp only [go_sem,simprocAttr]
  try refine ⟨sd,?_⟩
  refine Rg.callF (av:=?av9) (zfq b_40 false _ hr_42) si si sg ?cont9
  intro hv9
  simp only [go_sem,simprocAttr]
  refine kA hK7 ?_
  obtain ⟨c_59,hm⟩:=zf hm
  obtain ⟨r_43,hr_43,hm⟩:=zb hm
  obtain ⟨r_44,hr_44,hm⟩:=zb hm
  refine Wp.seqR fun K10 hK10=>?_
  simp only [go_sem,simprocAttr]
  try refine ⟨sL,?_⟩
  refine Rg.callF (av:=?av11) (zbU [List.take ((min (max n_41 0) (r_3.length:Int)).toNat) r_3,r_42] _ hr_43) si si sg ?cont11
  intro hv11
  simp only [go_sem,simprocAttr]
  try refine ⟨sL,?_⟩
  refine Rg.callF (av:=?av12) (zfq r_43 false _ hr_44) si si sg ?cont12
  intro hv12
  simp only [go_sem,simprocAttr]
  refine kA hK10 ?_
  obtain ⟨r_2,hr_2,hm⟩:=zb hm
  refine Wp.seqR fun K13 hK13=>?_
  simp only [go_sem,simprocAttr]
  try refine ⟨sd,?_⟩
  refine Rg.callX (av:=?av14) (g:=true) (fun hg=>zhK r_3 _ hr_2) si si si sg si ?cont14
  intro hv14
  simp only [go_sem,simprocAttr]
  refine kA hK13 ?_
  obtain ⟨r_34,hr_34,hm⟩:=zb hm
  refine Wp.seqR fun K15 hK15=>?_
  simp only [go_sem,simprocAttr]
  try refine ⟨sd,?_⟩
  refine Rg.callX (av:=?av16) (g:=true) (fun hg=>zhK r_44 _ hr_34) si si si sg si ?cont16
  intro hv16
  simp only [go_sem,simprocAttr]
  refine kA hK15 ?_
  refine Wp.seqW fun K17 hK17 hW17=>?_
  obtain ⟨k_35,hk_35,hm⟩:=zk hm
  have hcut17:∀ s,k_35 s=some z→K17 [(11,.p (.s r_2.1)),(13,.p (.s s))] []:=by
   intro t_36 hs
   have hm:=hk_35 _ hs
   clear hs
   try dsimp only at hm
   try dsimp only
   refine hK17 _ _ ?_
   obtain ⟨r_4,hr_4,hm⟩:=zb hm
   obtain ⟨r_5,hr_5,hm⟩:=zb hm
   refine Wp.seqR fun K18 hK18=>?_
   simp only [go_sem,simprocAttr]
   try refine ⟨sd,?_⟩
   refine Rg.callF (av:=?av19) (zhJ r_2.1 _ hr_4) si si sg ?cont19
   intro hv19
   simp only [go_sem,simprocAttr]
   try refine ⟨sd,?_⟩
   refine Rg.callF (av:=?av20) (zhJ t_36 _ hr_5) si si sg ?cont20
   intro hv20
   simp only [go_sem,simprocAttr]
   refine kA hK18 ?_
   refine qS ?_
   refine Wp.seqW fun K22 hK22 hW22=>?_
   obtain ⟨k_37,hk_37,hm⟩:=zk hm
   have hcut22:∀ s,k_37 s=some z→K22 [(11,.p (.s r_2.1)),(13,.p (.s t_36)),(18,.p (.i .i64 s))] []:=by
    intro want_60 hs
    have hm:=hk_37 _ hs
    clear hs
    try dsimp only at hm
    try dsimp only
    refine hK22 _ _ ?_
    obtain ⟨r_50,hr_50,hm⟩:=zb hm
    refine Wp.seqR fun K23 hK23=>?_
    simp only [go_sem,simprocAttr]
    try refine ⟨sd,?_⟩
    refine Rg.callX (av:=?av24) (g:=true) (fun hg=>ok_log_Part r_2.1 t_36 _ hr_50) si si si sg si ?cont24
    intro hv24
    simp only [go_sem,simprocAttr]
    refine kA hK23 ?_
    refine qS ?_
    refine Wp.ret ?_
    refine zc ?_
    cases hm
    exact fse4
   clear hK22 hk_37
   refine qS ?_
   refine Wp.block ?_
   obtain ⟨k_45,hk_45,hm⟩:=zB hm
   refine Wp.loopN (fun s=>[(11,.p (.s r_2.1)),(13,.p (.s t_36)),(16,.p (.l (List.map za r_4))),(17,.p (.l (List.map za r_5))),(18,.p (.i .i64 s.1)),(79,.p (.i .i64 (max (r_4.length:Int) (r_5.length:Int)))),(80,.p (.i .i64 s.2))]) (fun s=>[]) ?_ hm ?_
   ·
    exact fse4
   clear hm
   intro s nx_61 hm
   obtain ⟨want_51,t80_38⟩:=s
   try dsimp only at hm
   try dsimp only
   refine qS ?_
   refine Wp.seqW fun K28 hK28 hW28=>?_
   refine cM hm (fun hc29 hm=>?_) (fun hc29 hm=>?_)
   ·refine Wp.skip ?_
    refine hK28 _ _ ?_
    refine Wp.seqW fun K30 hK30 hW30=>?_
    refine Wp.block ?_
    refine qS ?_
    obtain ⟨c_52,hm⟩:=zf hm
    have c_52b:=fun h=>c_52 ((Bool.not_eq_true' _).mpr h)
    obtain ⟨v_62,hv_6,hm⟩:=ze hm
    obtain ⟨v_63,hv_7,hm⟩:=ze hm
    obtain ⟨v_64,hv_8,hm⟩:=ze hm
    obtain ⟨v_65,hv_9,hm⟩:=ze hm
    obtain ⟨v_66,hv_10,hm⟩:=ze hm
    obtain ⟨v_67,hv_11,hm⟩:=ze hm
    obtain ⟨v_68,hv_12,hm⟩:=ze hm
    obtain ⟨v_69,hv_13,hm⟩:=ze hm
    obtain ⟨v_70,hv_14,hm⟩:=ze hm
    obtain ⟨v_71,hv_15,hm⟩:=ze hm
    obtain ⟨v_72,hv_16,hm⟩:=ze hm
    obtain ⟨v_73,hv_17,hm⟩:=ze hm
    obtain ⟨v_74,hv_18,hm⟩:=ze hm
    obtain ⟨c_53,hm⟩:=zf hm
    have c_53b:=fun h=>c_53 ((Bool.not_eq_true' _).mpr h)
    obtain ⟨v_75,hv_19,hm⟩:=ze hm
    obtain ⟨v_76,hv_20,hm⟩:=ze hm
    obtain ⟨v_77,hv_21,hm⟩:=ze hm
    obtain ⟨v_78,hv_22,hm⟩:=ze hm
    obtain ⟨v_79,hv_23,hm⟩:=ze hm
    obtain ⟨v_80,hv_24,hm⟩:=ze hm
    obtain ⟨v_81,hv_25,hm⟩:=ze hm
    obtain ⟨v_82,hv_26,hm⟩:=ze hm
    obtain ⟨v_83,hv_27,hm⟩:=ze hm
    obtain ⟨v_84,hv_28,hm⟩:=ze hm
    obtain ⟨v_85,hv_29,hm⟩:=ze hm
    obtain ⟨v_86,hv_30,hm⟩:=ze hm
    obtain ⟨v_87,hv_31,hm⟩:=ze hm
    obtain ⟨v_88,hv_32,hm⟩:=ze hm
    obtain ⟨v_89,hv_33,hm⟩:=ze hm
    have hr_54:=zg0 (l:=r_4) (e:=za) (d:=(api_Record.mk 0 0 [] (api_Version.mk 0 0 0 []) (api_Version.mk 0 0 0 []) 0 [])) (i:=t80_38.toNat)
    simp only [za,List.map_nil] at hr_54
    have hr_55:=zg0 (l:=r_5) (e:=za) (d:=(api_Record.mk 0 0 [] (api_Version.mk 0 0 0 []) (api_Version.mk 0 0 0 []) 0 [])) (i:=t80_38.toNat)
    simp only [za,List.map_nil] at hr_55
    refine Wp.seqD (plan:=pl [(0,none),(1,none),(2,none),(3,none),(4,none),(5,none),(6,none),(7,none),(8,none),(9,none),(10,none),(11,none),(12,none),(13,none),(14,none),(15,none),(16,none),(17,none),(18,none),(19,none),(20,none)]) (by kernel_rfl) rfl (by kernel_rfl) fun K32 hK32=>?_
    simp only [go_sem,simprocAttr,hv_6,hv_7,hv_8,hv_9,hv_10,hv_11,hv_12,hv_13,hv_14,hv_15,hv_16,hv_17,hv_18,hv_19,hv_20,hv_21,hv_22,hv_23,hv_24,hv_25,hv_26,hv_27,hv_28,hv_29,hv_30,hv_31,hv_32,hv_33,hr_54,hr_55]
    refine kA hK32 ?_
    refine cM hm (fun hc33 hm=>?_) (fun hc33 hm=>?_)
    ·refine Wp.seqR fun K34 hK34=>?_
     simp only [go_sem,simprocAttr,hv_6,hv_7,hv_8,hv_9,hv_10,hv_11,hv_12,hv_13,hv_14,hv_15,hv_16,hv_17,hv_18,hv_19,hv_20,hv_21,hv_22,hv_23,hv_24,hv_25,hv_26,hv_27,hv_28,hv_29,hv_30,hv_31,hv_32,hv_33]
     refine kA hK34 ?_
     refine Wp.exit ?_
     simp only [zl,zi,↓reduceIte]
     have hm:=hk_45 _ hm
     try dsimp only at hm
     refine hW22 _ _ _ _ ?_ (hcut22 t80_38 hm)
     simp only [go_sem,simprocAttr,hv_6,hv_7,hv_8,hv_9,hv_10,hv_11,hv_12,hv_13,hv_14,hv_15,hv_16,hv_17,hv_18,hv_19,hv_20,hv_21,hv_22,hv_23,hv_24,hv_25,hv_26,hv_27,hv_28,hv_29,hv_30,hv_31,hv_32,hv_33]
     try exact se4
    ·refine Wp.skip ?_
     refine hK30 _ _ ?_
     refine Wp.region fun K35 hK35=>?_
     simp only [go_sem,simprocAttr,hv_6,hv_7,hv_8,hv_9,hv_10,hv_11,hv_12,hv_13,hv_14,hv_15,hv_16,hv_17,hv_18,hv_19,hv_20,hv_21,hv_22,hv_23,hv_24,hv_25,hv_26,hv_27,hv_28,hv_29,hv_30,hv_31,hv_32,hv_33]
     refine kA hK35 ?_
     simp only [zl,zi,↓reduceIte]
     refine ⟨(want_51,IntKind.i64.wrap (t80_38+1)),hm,?_⟩
     simp only [go_sem,simprocAttr,hv_6,hv_7,hv_8,hv_9,hv_10,hv_11,hv_12,hv_13,hv_14,hv_15,hv_16,hv_17,hv_18,hv_19,hv_20,hv_21,hv_22,hv_23,hv_24,hv_25,hv_26,hv_27,hv_28,hv_29,hv_30,hv_31,hv_32,hv_33]
     try exact se4
   ·refine Wp.exit ?_
    simp only [zl,zi,↓reduceIte]
    have hm:=hk_45 _ hm
    try dsimp only at hm
    refine hW22 _ _ _ _ ?_ (hcut22 want_51 hm)
    exact fse4
  clear hK17 hk_35
  refine qS ?_
  refine cM hm (fun hc37 hm=>?_) (fun hc37 hm=>?_)
  ·refine qS ?_
   obtain ⟨c_90,hm⟩:=zf hm
   obtain ⟨c_91,hm⟩:=zf hm
   obtain ⟨v_56,hv_46,hm⟩:=ze hm
   obtain ⟨c_92,hm⟩:=zf hm
   obtain ⟨c_93,hm⟩:=zf hm
   obtain ⟨v_57,hv_1,hm⟩:=ze hm
   have hv_1m:=congrArg (List.map zab) hv_1
   try simp only [List.map_append,List.map_cons,List.map_nil,List.map_set,List.map_replicate,zab] at hv_1m
   have hr_58:=fun h=>zJ (l:=zbC r_34.1) (e:=zab) (d:=0) (i:=v_56.toNat) h []
   refine Wp.seqR fun K39 hK39=>?_
   simp only [go_sem,simprocAttr,hv_46,hv_1,hv_1m,hr_58 (by simp only [zf9]; omega)]
   refine kA hK39 ?_
   refine Wp.region fun K40 hK40=>?_
   simp only [go_sem,simprocAttr,hv_46,hv_1,hv_1m]
   refine kA hK40 ?_
   refine hW17 _ _ _ _ ?_ (hcut17 (Go.Vc.strOf v_57) hm)
   simp only [go_sem,simprocAttr,hv_46,hv_1,hv_1m]
   try exact se4
  ·refine Wp.skip ?_
   refine hW17 _ _ _ _ ?_ (hcut17 r_34.1 hm)
   exact fse4
end Go.Proofs.YtmnohdgjkcjdeaaGreatDoor
