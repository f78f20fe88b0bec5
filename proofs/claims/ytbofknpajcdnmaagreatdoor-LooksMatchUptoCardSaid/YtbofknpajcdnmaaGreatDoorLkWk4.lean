/- That the code does what the models say (part 4). -/
import Derived.Test.YtbofknpajcdnmaaGreatDoorLkWk0
import Derived.Test.YtbofknpajcdnmaaGreatDoorLkWk1
import Derived.Test.YtbofknpajcdnmaaGreatDoorLkWk3
set_option linter.unusedSimpArgs false
set_option linter.unusedVariables false
open Go.Proofs Go.Shelf
namespace Go.Proofs.YtbofknpajcdnmaaGreatDoor
open Go.Vc Go.Md
set_option maxRecDepth 100000
set_option maxHeartbeats 4000000
theorem zaz(a_7:Int)(b_11:Int)(o0_17:List api_Setting)(z:List api_Setting)(hm:zk a_7 b_11 o0_17=some z):Does Tryz.prog 203 [.buf 0,.p (.i .i64 a_7),.p (.i .i64 b_11),.fn 68 []] [.fx 40 2 (List.map za o0_17)] (fun r X=>r=.tup []∧X=[.fx 40 2 (List.map za z)]):=by
 unfold zk at hm
 refine dW 1 53 [] Tryz.func203 fun B=>nA fun hA=>?_
 refine qS ?_;refine Wp.block ?_;obtain⟨k_18,hk_18,hm⟩:=zaA hm;refine Wp.loopN (fun s=>[(0,.buf 0),(1,.p (.i .i64 a_7)),(2,.p (.i .i64 b_11)),(3,.fn 68 []),(8,.p (.i .i64 s.1))]) (fun s=>[.fx 40 2 (List.map za s.2)]) ?_ hm ?_
 ·exact zbD
 clear hm;intro s nx_27 hm;obtain⟨i_12,o0_28⟩:=s
 try dsimp only at hm⊢
 refine Wp.seqW fun _ hK2 _=>qS ?_
 refine cN hm (fun hm=>?_) fun hm=>?_
 ·refine Wp.skip (hK2 _ _ (Wp.seqW fun K5 hK5 hW5=>?_))
  obtain⟨k_13,hk_13,hm⟩:=zj hm
  have hcut5:∀s,k_13 s=some z→K5 [(0,.buf 0),(1,.p (.i .i64 a_7)),(2,.p (.i .i64 b_11)),(3,.fn 68 []),(8,.p (.i .i64 i_12))] [.fx 40 2 (List.map za s)]:=by
   intro o0_20 hs;have hm:=hk_13 _ hs;clear hs
   try dsimp only at hm⊢
   refine hK5 _ _ (qR ?_);simp only[zq,zD,↓reduceIte];refine⟨(IntKind.i64.wrap (i_12+1),o0_20),hm,?_⟩;exact zbD
  clear hK5 hk_13;refine Wp.block (qS ?_);refine Wp.block ?_;obtain⟨k_19,hk_19,hm⟩:=zaA hm;refine Wp.loopN (fun s=>[(0,.buf 0),(1,.p (.i .i64 a_7)),(2,.p (.i .i64 b_11)),(3,.fn 68 []),(8,.p (.i .i64 i_12)),(9,.p (.i .i64 s.1))]) (fun s=>[.fx 40 2 (List.map za s.2)]) ?_ hm ?_
  ·exact zbD
  clear hm;intro s nx_29 hm;obtain⟨j_3,o0_4⟩:=s
  try dsimp only at hm⊢
  refine Wp.seqW fun _ hK8 _=>?_
  obtain⟨c_21,hm⟩:=zh hm;obtain⟨c_22,hm⟩:=zh hm;obtain⟨r_10,hr_10,hm⟩:=zI hm
  refine Wp.seqDW (plan:=pl [(0,none),(1,none),(2,none),(3,none),(4,none),(5,none),(6,none),(7,none),(8,none),(9,none),(10,none),(11,none),(12,none),(13,none),(14,none),(15,none),(16,none)]) (by kernel_rfl) rfl (by kernel_rfl) fun K9 hK9 hW9=>?_
  suffices hcont9:K9 [(0,.buf 0),(1,.p (.i .i64 a_7)),(2,.p (.i .i64 b_11)),(3,.fn 68 []),(8,.p (.i .i64 i_12)),(9,.p (.i .i64 j_3)),(34,.p (.b ((decide (a_7<j_3))&&(decide (r_10<0)))))] [.fx 40 2 (List.map za o0_4)]by
   rcases Bool.eq_false_or_eq_true (decide (a_7<j_3))with hg_1|hg_1
   ·
    have c_23:=c_21 hg_1
    try dsimp only at c_23
    have c_24:=c_22 hg_1
    try dsimp only at c_24
    have hr_8:=fun h=>zb7 (l:=o0_4) (e:=za) (d:=(api_Setting.mk [] [])) (i:=j_3.toNat) h []
    have hr_9:=fun h=>zb7 (l:=o0_4) (e:=za) (d:=(api_Setting.mk [] [])) (i:=(IntKind.i64.wrap (j_3-1)).toNat) h []
    simp only[go_sem,simprocAttr,false_implies,and_true,true_and,bad,hg_1,hr_8 (by omega),hr_9 (by omega)]
    try refine⟨sL,?_⟩
    refine Dr.callF (av:=?av10) (g:=decide (a_7<j_3)) (o:=?o10) (fun hg=>ok_Law_fit_1 (api_Setting.mk ((o0_4.getD j_3.toNat (api_Setting.mk [] [])).Key) ((o0_4.getD j_3.toNat (api_Setting.mk [] [])).Value)) (api_Setting.mk ((o0_4.getD ((IntKind.i64.wrap (j_3-1)).toNat) (api_Setting.mk [] [])).Key) ((o0_4.getD ((IntKind.i64.wrap (j_3-1)).toNat) (api_Setting.mk [] [])).Value)) _ (hr_10 hg)) (by simp only[go_sem,simprocAttr,false_implies,and_true,true_and,bad,hg_1,hr_8 (by omega),hr_9 (by omega)];exact Is.mk) (by simp only[go_sem,simprocAttr,false_implies,and_true,true_and,bad,hg_1,hr_8 (by omega),hr_9 (by omega)];exact Is.mk) (by simp only[go_sem,simprocAttr,false_implies,and_true,true_and,bad,hg_1,hr_8 (by omega),hr_9 (by omega)];exact Is.mk) (by simp only[go_sem,simprocAttr,false_implies,and_true,true_and,bad,hg_1,hr_8 (by omega),hr_9 (by omega)];exact Is.mk) (by simp only[go_sem,simprocAttr,false_implies,and_true,true_and,bad,hg_1,hr_8 (by omega),hr_9 (by omega)]) (by simp only[go_sem,simprocAttr,false_implies,and_true,true_and,bad,hg_1,hr_8 (by omega),hr_9 (by omega)];exact Is.mk) ?cont10;simp only[go_sem,simprocAttr,false_implies,and_true,true_and,bad,hg_1,hr_8 (by omega),hr_9 (by omega)]
    first|refine hW9 _ _ _ _ ?_ hcont9|refine⟨sL,hW9 _ _ _ _ ?_ hcont9⟩
    simp only[go_sem,simprocAttr,false_implies,and_true,true_and,bad,hg_1,hr_8 (by omega),hr_9 (by omega)]
    try exact se1
   ·
    rcases Nat.lt_or_ge j_3.toNat o0_4.length with hi_14|hi_14
    ·
     have hr_2:=zb7 (l:=o0_4) (e:=za) (d:=(api_Setting.mk [] [])) (i:=j_3.toNat) hi_14 []
     rcases Nat.lt_or_ge ((IntKind.i64.wrap (j_3-1)).toNat) o0_4.length with hi_15|hi_15
     ·
      have hr_5:=zb7 (l:=o0_4) (e:=za) (d:=(api_Setting.mk [] [])) (i:=(IntKind.i64.wrap (j_3-1)).toNat) hi_15 [];simp only[go_sem,simprocAttr,false_implies,and_true,true_and,bad,hg_1,hr_2,hr_5]
      try refine⟨sL,?_⟩
      refine Dr.skipG (o:=?o11) (v:=.p (.i .i64 r_10)) (gw:=?gw11) (by simp only[go_sem,simprocAttr,false_implies,and_true,true_and,bad,hg_1,hr_2,hr_5];exact Is.mk) (by simp only[go_sem,simprocAttr,false_implies,and_true,true_and,bad,hg_1,hr_2,hr_5];exact Is.mk) (by simp only[go_sem,simprocAttr,false_implies,and_true,true_and,bad,hg_1,hr_2,hr_5];exact Is.mk) (by simp only[go_sem,simprocAttr,false_implies,and_true,true_and,bad,hg_1,hr_2,hr_5]) ?cont11;simp only[go_sem,simprocAttr,false_implies,and_true,true_and,bad,hg_1,hr_2,hr_5]
      first|refine hW9 _ _ _ _ ?_ hcont9|refine⟨sL,hW9 _ _ _ _ ?_ hcont9⟩
      simp only[go_sem,simprocAttr,false_implies,and_true,true_and,bad,hg_1,hr_2,hr_5]
      try exact se1
     ·
      have hr_5:(List.map za o0_4).getD ((IntKind.i64.wrap (j_3-1)).toNat) []=[]:=by rw[List.getD_eq_getElem?_getD,List.getElem?_eq_none (by simpa using hi_15)];rfl
      simp only[go_sem,simprocAttr,false_implies,and_true,true_and,bad,hg_1,hr_2,hr_5]
      try refine⟨sL,?_⟩
      refine Dr.skipG (o:=?o12) (v:=.p (.i .i64 r_10)) (gw:=?gw12) (by simp only[go_sem,simprocAttr,false_implies,and_true,true_and,bad,hg_1,hr_2,hr_5];exact Is.mk) (by simp only[go_sem,simprocAttr,false_implies,and_true,true_and,bad,hg_1,hr_2,hr_5];exact Is.mk) (by simp only[go_sem,simprocAttr,false_implies,and_true,true_and,bad,hg_1,hr_2,hr_5];exact Is.mk) (by simp only[go_sem,simprocAttr,false_implies,and_true,true_and,bad,hg_1,hr_2,hr_5]) ?cont12;simp only[go_sem,simprocAttr,false_implies,and_true,true_and,bad,hg_1,hr_2,hr_5]
      first|refine hW9 _ _ _ _ ?_ hcont9|refine⟨sL,hW9 _ _ _ _ ?_ hcont9⟩
      simp only[go_sem,simprocAttr,false_implies,and_true,true_and,bad,hg_1,hr_2,hr_5]
      try exact se1
    ·
     have hr_2:(List.map za o0_4).getD j_3.toNat []=[]:=by rw[List.getD_eq_getElem?_getD,List.getElem?_eq_none (by simpa using hi_14)];rfl
     rcases Nat.lt_or_ge ((IntKind.i64.wrap (j_3-1)).toNat) o0_4.length with hi_16|hi_16
     ·
      have hr_6:=zb7 (l:=o0_4) (e:=za) (d:=(api_Setting.mk [] [])) (i:=(IntKind.i64.wrap (j_3-1)).toNat) hi_16 [];simp only[go_sem,simprocAttr,false_implies,and_true,true_and,bad,hg_1,hr_2,hr_6]
      try refine⟨sL,?_⟩
      refine Dr.skipG (o:=?o13) (v:=.p (.i .i64 r_10)) (gw:=?gw13) (by simp only[go_sem,simprocAttr,false_implies,and_true,true_and,bad,hg_1,hr_2,hr_6];exact Is.mk) (by simp only[go_sem,simprocAttr,false_implies,and_true,true_and,bad,hg_1,hr_2,hr_6];exact Is.mk) (by simp only[go_sem,simprocAttr,false_implies,and_true,true_and,bad,hg_1,hr_2,hr_6];exact Is.mk) (by simp only[go_sem,simprocAttr,false_implies,and_true,true_and,bad,hg_1,hr_2,hr_6]) ?cont13;simp only[go_sem,simprocAttr,false_implies,and_true,true_and,bad,hg_1,hr_2,hr_6]
      first|refine hW9 _ _ _ _ ?_ hcont9|refine⟨sL,hW9 _ _ _ _ ?_ hcont9⟩
      simp only[go_sem,simprocAttr,false_implies,and_true,true_and,bad,hg_1,hr_2,hr_6]
      try exact se1
     ·
      have hr_6:(List.map za o0_4).getD ((IntKind.i64.wrap (j_3-1)).toNat) []=[]:=by rw[List.getD_eq_getElem?_getD,List.getElem?_eq_none (by simpa using hi_16)];rfl
      simp only[go_sem,simprocAttr,false_implies,and_true,true_and,bad,hg_1,hr_2,hr_6]
      try refine⟨sL,?_⟩
      refine Dr.skipG (o:=?o14) (v:=.p (.i .i64 r_10)) (gw:=?gw14) (by simp only[go_sem,simprocAttr,false_implies,and_true,true_and,bad,hg_1,hr_2,hr_6];exact Is.mk) (by simp only[go_sem,simprocAttr,false_implies,and_true,true_and,bad,hg_1,hr_2,hr_6];exact Is.mk) (by simp only[go_sem,simprocAttr,false_implies,and_true,true_and,bad,hg_1,hr_2,hr_6];exact Is.mk) (by simp only[go_sem,simprocAttr,false_implies,and_true,true_and,bad,hg_1,hr_2,hr_6]) ?cont14;simp only[go_sem,simprocAttr,false_implies,and_true,true_and,bad,hg_1,hr_2,hr_6]
      first|refine hW9 _ _ _ _ ?_ hcont9|refine⟨sL,hW9 _ _ _ _ ?_ hcont9⟩
      simp only[go_sem,simprocAttr,false_implies,and_true,true_and,bad,hg_1,hr_2,hr_6]
      try exact se1
  refine hK9 _ _ (cN hm (fun hm=>?_) fun hm=>?_)
  ·refine Wp.skip (hK8 _ _ (Wp.seqW fun _ hK16 _=>Wp.block ?_))
   obtain⟨c_30,hm⟩:=zh hm;obtain⟨c_31,hm⟩:=zh hm;obtain⟨c_32,hm⟩:=zh hm;obtain⟨c_33,hm⟩:=zh hm
   have hr_25:=fun h=>zb7 (l:=o0_4) (e:=za) (d:=(api_Setting.mk [] [])) (i:=(IntKind.i64.wrap (j_3-1)).toNat) h []
   have hr_26:=fun h=>zb7 (l:=o0_4) (e:=za) (d:=(api_Setting.mk [] [])) (i:=j_3.toNat) h []
   refine Wp.regD (plan:=pl [(0,none),(1,none),(2,none),(3,none),(4,none),(5,none),(6,none),(7,none),(8,none),(9,none),(10,none),(11,none),(12,none),(13,none),(14,none),(15,some [2,3,4]),(16,none),(17,some [])]) (by kernel_rfl) rfl (by kernel_rfl) fun K17 hK17=>?_
   simp only[go_sem,simprocAttr,hr_25 (by omega),hr_26 (by omega)];refine kA hK17 ?_;refine hK16 _ _ (qR ?_);simp only[zq,zD,↓reduceIte];refine⟨(IntKind.i64.wrap (j_3-1),List.set (List.set o0_4 j_3.toNat (api_Setting.mk ((o0_4.getD ((IntKind.i64.wrap (j_3-1)).toNat) (api_Setting.mk [] [])).Key) ((o0_4.getD ((IntKind.i64.wrap (j_3-1)).toNat) (api_Setting.mk [] [])).Value))) ((IntKind.i64.wrap (j_3-1)).toNat) (api_Setting.mk ((o0_4.getD j_3.toNat (api_Setting.mk [] [])).Key) ((o0_4.getD j_3.toNat (api_Setting.mk [] [])).Value))),hm,?_⟩;exact zbD
  ·refine Wp.exit ?_
   simp only[zq,zD,↓reduceIte];have hm:=hk_19 _ hm
   try dsimp only at hm
   refine hW5 _ _ _ _ ?_ (hcut5 o0_4 hm);exact zbD
 ·refine Wp.exit ?_
  simp only[zq,zD,↓reduceIte];have hm:=hk_18 _ hm
  try dsimp only at hm
  refine zcs ?_;cases hm;exact zbD
theorem zcE(n_1:Int)(o0_8:List api_Setting)(z:List api_Setting)(hm:zae n_1 o0_8=some z):Does Tryz.prog 148 [.buf 0,.p (.i .i64 n_1),.fn 68 []] [.fx 40 2 (List.map za o0_8)] (fun r X=>r=.tup []∧X=[.fx 40 2 (List.map za z)]):=by
 unfold zae at hm
 refine dW 1 63 [] Tryz.func148 fun B=>nA fun hA=>?_
 refine qS ?_;refine qS ?_
 refine Wp.seqW fun K3 hK3 hW3=>?_
 obtain⟨k_3,hk_3,hm⟩:=zj hm
 have hcut3:∀s,k_3 s=some z→K3 [(0,.buf 0),(1,.p (.i .i64 n_1)),(2,.fn 68 []),(6,.p (.i .i64 20)),(7,.p (.i .i64 s.1))] [.fx 40 2 (List.map za s.2)]:=by
  intro s hs;have hm:=hk_3 _ hs;clear hs;obtain⟨a_14,o0_15⟩:=s
  try dsimp only at hm⊢
  refine hK3 _ _ ?_;obtain⟨r_2,hr_2,hm⟩:=zd hm
  refine rS fun _ hK4=>?_
  refine cO [0] (zaz a_14 n_1 o0_15 _ hr_2) (hK4 _ _ ?_);refine Wp.block ?_;obtain⟨k_9,hk_9,hm⟩:=zaA hm;refine Wp.loopN (fun s=>[(0,.buf 0),(1,.p (.i .i64 n_1)),(2,.fn 68 []),(6,.p (.i .i64 s))]) (fun s=>[.fx 40 2 (List.map za r_2)]) ?_ hm ?_
  ·exact zbD
  clear hm;intro blockSize_4 nx_16 hm
  try dsimp only at hm⊢
  refine Wp.seqW fun _ hK6 _=>qS ?_
  refine cN hm (fun hm=>?_) fun hm=>?_
  ·refine Wp.skip (hK6 _ _ (Wp.block (qS ?_)))
   refine Wp.seqW fun K10 hK10 hW10=>?_
   obtain⟨k_5,hk_5,hm⟩:=zj hm
   have hcut10:∀s,k_5 s=some z→K10 [(0,.buf 0),(1,.p (.i .i64 n_1)),(2,.fn 68 []),(6,.p (.i .i64 blockSize_4)),(7,.p (.i .i64 0))] [.fx 40 2 (List.map za r_2)]:=by
    intro s hs;have hm:=hk_5 _ hs;clear hs
    try dsimp only at hm⊢
    refine hK10 _ _ (Wp.seqW fun _ hK11 _=>qS ?_);refine qS ?_
    refine cN hm (fun hm=>?_) fun hm=>?_
    ·cases hm
    ·refine Wp.skip (hK11 _ _ (qR ?_))
     simp only[zq,zD,↓reduceIte];refine⟨IntKind.i64.wrap (blockSize_4*2),hm,?_⟩;exact zbD
   clear hK10 hk_5;refine Wp.block ?_;obtain⟨k_10,hk_10,hm⟩:=zaA hm;refine Wp.loopN (fun s=>[(0,.buf 0),(1,.p (.i .i64 n_1)),(2,.fn 68 []),(6,.p (.i .i64 blockSize_4)),(7,.p (.i .i64 0)),(8,.p (.i .i64 (IntKind.i64.wrap (2*blockSize_4))))]) (fun s=>[.fx 40 2 (List.map za r_2)]) ?_ hm ?_
   ·exact zbD
   clear hm;intro s nx_17 hm
   try dsimp only at hm⊢
   refine Wp.seqW fun _ hK16 _=>qS ?_
   refine cN hm (fun hm=>?_) fun hm=>?_
   ·refine Wp.skip (hK16 _ _ (Wp.block ?_))
    cases hm
   ·refine Wp.exit ?_
    simp only[zq,zD,↓reduceIte];have hm:=hk_10 _ hm
    try dsimp only at hm
    refine hW10 _ _ _ _ ?_ (hcut10 () hm);exact zbD
  ·refine Wp.exit ?_
   simp only[zq,zD,↓reduceIte];have hm:=hk_9 _ hm
   try dsimp only at hm
   refine zcs ?_;cases hm;exact zbD
 clear hK3 hk_3;refine Wp.block ?_;obtain⟨k_11,hk_11,hm⟩:=zaA hm;refine Wp.loopN (fun s=>[(0,.buf 0),(1,.p (.i .i64 n_1)),(2,.fn 68 []),(6,.p (.i .i64 20)),(7,.p (.i .i64 s.1)),(8,.p (.i .i64 s.2.1))]) (fun s=>[.fx 40 2 (List.map za s.2.2)]) ?_ hm ?_
 ·exact zbD
 clear hm;intro s nx_18 hm;obtain⟨a_12,b_6,o0_13⟩:=s
 try dsimp only at hm⊢
 refine Wp.seqW fun _ hK19 _=>qS ?_
 refine cN hm (fun hm=>?_) fun hm=>?_
 ·refine Wp.skip (hK19 _ _ (Wp.block ?_))
  obtain⟨r_7,hr_7,hm⟩:=zd hm
  refine rS fun _ hK22=>?_
  refine cO [0] (zaz a_12 b_6 o0_13 _ hr_7) (hK22 _ _ ?_);refine qS ?_;refine qR ?_;simp only[zq,zD,↓reduceIte];refine⟨(b_6,IntKind.i64.wrap (b_6+20),r_7),hm,?_⟩;exact zbD
 ·refine Wp.exit ?_
  simp only[zq,zD,↓reduceIte];have hm:=hk_11 _ hm
  try dsimp only at hm
  refine hW3 _ _ _ _ ?_ (hcut3 (a_12,o0_13) hm);exact zbD
theorem zbd(o0_1:List api_Setting)(z:List api_Setting)(hm:zw o0_1=some z):Does Tryz.prog 67 [.buf 0,.fn 68 []] [.fx 40 2 (List.map za o0_1)] (fun r X=>r=.tup []∧X=[.fx 40 2 (List.map za z)]):=by
 unfold zw at hm
 refine dW 1 9 [] Tryz.func67 fun B=>nA fun hA=>?_
 obtain⟨r_2,hr_2,hm⟩:=zd hm
 refine rE fun _ hK1=>?_
 refine cO [0] (zcE (o0_1.length:Int) o0_1 _ hr_2) (hK1 _ _ ?_);refine zcs ?_;cases hm;exact zbD
theorem zko(a_1:api_Setting)(b_2:api_Setting)(z:Bool)(hm:zht a_1 b_2=some z):Does Tryz.prog 71 [.agg [.p (.s a_1.Key),.p (.s a_1.Value)],.agg [.p (.s b_2.Key),.p (.s b_2.Value)]] [] (fun r X=>r=.p (.b z)∧X=[]):=by
 unfold zht at hm
 refine dW 0 10 [.tmp 4] Tryz.func71 fun B=>nA fun hA=>?_
 refine qS ?_;exact wQ
theorem zbo(o0_2:List api_Setting)(z:Nat×Nat×List api_Setting)(hm:zz o0_2=some z):Does Tryz.prog 70 [.buf 0,.fn 71 []] [.fx 40 2 (List.map za o0_2)] (fun r X=>r=.vw 0 2 z.1 z.2.1∧X=[.fx 40 2 (List.map za z.2.2)]):=by
 unfold zz at hm
 refine dW 1 66 [.tmp 4] Tryz.func70 fun B=>nA fun hA=>?_
 refine Wp.toView 0 0 (by simp only[go_sem,simprocAttr];exact Is.mk) (by simp only[go_sem,simprocAttr];exact Is.mk) ?_;simp only[go_sem,simprocAttr];refine qS ?_
 refine Wp.seqW fun _ hK2 _=>qS ?_
 refine cR hm fun hm=>?_
 refine Wp.skip (hK2 _ _ (Wp.seqW fun K6 hK6 hW6=>?_));obtain⟨k_9,hk_9,hm⟩:=zj hm
 have hcut6:∀s,k_9 s=some z→K6 [(0,.vw 0 2 0 o0_2.length)] [.fx 40 2 (List.map za o0_2)]:=by
  intro s hs;have hm:=hk_9 _ hs;clear hs
  try dsimp only at hm⊢
  exact hK6 _ _ (wQ)
 clear hK6 hk_9;refine qS ?_;refine Wp.block ?_;obtain⟨k_13,hk_13,hm⟩:=zaA hm;refine Wp.loopN (fun s=>[(0,.vw 0 2 0 o0_2.length),(1,.fn 71 []),(5,.p (.i .i64 s))]) (fun s=>[.fx 40 2 (List.map za o0_2)]) ?_ hm ?_
 ·exact zbD
 clear hm;intro k_1 nx_18 hm
 try dsimp only at hm⊢
 refine Wp.seqW fun _ hK9 _=>qS ?_
 refine cN hm (fun hm=>?_) fun hm=>?_
 ·refine Wp.skip (hK9 _ _ (Wp.seqW fun K12 hK12 hW12=>?_))
  obtain⟨k_10,hk_10,hm⟩:=zj hm
  have hcut12:∀s,k_10 s=some z→K12 [(0,.vw 0 2 0 o0_2.length),(1,.fn 71 []),(5,.p (.i .i64 k_1))] [.fx 40 2 (List.map za o0_2)]:=by
   intro s hs;have hm:=hk_10 _ hs;clear hs
   try dsimp only at hm⊢
   refine hK12 _ _ (qR ?_);simp only[zq,zD,↓reduceIte];refine⟨IntKind.i64.wrap (k_1+1),hm,?_⟩;exact zbD
  clear hK12 hk_10;refine Wp.block ?_;obtain⟨c_19,hm⟩:=zh hm;obtain⟨c_20,hm⟩:=zh hm;obtain⟨r_14,hr_14,hm⟩:=zd hm
  have hr_5:=fun h=>zb7 (l:=o0_2) (e:=za) (d:=(api_Setting.mk [] [])) (i:=(k_1.toNat:Nat)) h []
  have hr_6:=fun h=>zb7 (l:=o0_2) (e:=za) (d:=(api_Setting.mk [] [])) (i:=((IntKind.i64.wrap (k_1-1)).toNat:Nat)) h []
  refine Wp.seqD (plan:=pl [(0,none),(1,none),(2,none),(3,none),(4,none),(5,none),(6,none),(7,none),(8,none),(9,none),(10,none)]) (by kernel_rfl) rfl (by kernel_rfl) fun K14 hK14=>?_
  simp only[go_sem,simprocAttr,hr_5 (by omega),hr_6 (by omega)]
  try refine⟨sL,?_⟩
  refine Dr.callF (av:=?av15) (g:=true) (o:=?o15) (fun hg=>zko (api_Setting.mk ((o0_2.getD (k_1.toNat:Nat) (api_Setting.mk [] [])).Key) ((o0_2.getD (k_1.toNat:Nat) (api_Setting.mk [] [])).Value)) (api_Setting.mk ((o0_2.getD ((IntKind.i64.wrap (k_1-1)).toNat:Nat) (api_Setting.mk [] [])).Key) ((o0_2.getD ((IntKind.i64.wrap (k_1-1)).toNat:Nat) (api_Setting.mk [] [])).Value)) _ hr_14) (by simp only[go_sem,simprocAttr,hr_5 (by omega),hr_6 (by omega)];exact Is.mk) (by simp only[go_sem,simprocAttr,hr_5 (by omega),hr_6 (by omega)];exact Is.mk) (by simp only[go_sem,simprocAttr,hr_5 (by omega),hr_6 (by omega)];exact Is.mk) (by simp only[go_sem,simprocAttr,hr_5 (by omega),hr_6 (by omega)];exact Is.mk) (by simp only[go_sem,simprocAttr,hr_5 (by omega),hr_6 (by omega)]) (by simp only[go_sem,simprocAttr,hr_5 (by omega),hr_6 (by omega)];exact Is.mk) ?cont15;simp only[go_sem,simprocAttr,hr_5 (by omega),hr_6 (by omega)];refine kA hK14 ?_
  refine cN hm (fun hm=>?_) fun hm=>?_
  ·obtain⟨c_21,hm⟩:=zh hm
   refine q6 ?_
   refine Wp.seqW fun K18 hK18 hW18=>?_
   obtain⟨k_11,hk_11,hm⟩:=zj hm
   have hcut18:∀s,k_11 s=some z→K18 [(0,.vw 0 2 0 o0_2.length),(5,.p (.i .i64 s.1))] [.fx 40 2 (List.map za s.2)]:=by
    intro s hs;have hm:=hk_11 _ hs;clear hs;obtain⟨k_22,o0_23⟩:=s
    try dsimp only at hm⊢
    refine hK18 _ _ ?_;obtain⟨c_24,hm⟩:=zh hm
    refine Wp.seqR fun K19 hK19=>?_
    simp only[go_sem,simprocAttr]
    try refine⟨sL,?_⟩
    refine Rg.clear (i:=?i20) (sz:=?sz20) (a:=?a20) (m:=?m20) (T:=?T20) (rows:=?rows20) (e:=?e20) (eb:=?eb20) (ez:=?ez20) (z:=?z20) (fx:=?fx20) Is.mk Is.mk Is.mk Is.mk Is.mk sg sg si si si si sg sg sg ?cont20;simp only[go_sem,simprocAttr];refine kA hK19 ?_;obtain⟨c_25,hm⟩:=zh hm;exact wQ
   clear hK18 hk_11;refine qS ?_;refine Wp.block ?_;obtain⟨k_15,hk_15,hm⟩:=zaA hm;refine Wp.loopN (fun s=>[(0,.vw 0 2 0 o0_2.length),(1,.fn 71 []),(5,.p (.i .i64 s.1)),(6,.vw 0 2 k_1.toNat (o0_2.length-k_1.toNat)),(7,.p (.i .i64 s.2.1))]) (fun s=>[.fx 40 2 (List.map za s.2.2)]) ?_ hm ?_
   ·exact zbD
   clear hm;intro s nx_26 hm;obtain⟨k_12,k2_4,o0_3⟩:=s
   try dsimp only at hm⊢
   refine Wp.seqW fun _ hK23 _=>qS ?_
   refine cN hm (fun hm=>?_) fun hm=>?_
   ·refine Wp.skip (hK23 _ _ (Wp.seqW fun _ hK26 _=>Wp.block ?_))
    obtain⟨c_27,hm⟩:=zh hm;obtain⟨c_28,hm⟩:=zh hm;obtain⟨c_29,hm⟩:=zh hm;obtain⟨c_30,hm⟩:=zh hm;obtain⟨r_16,hr_16,hm⟩:=zd hm
    have hr_7:=fun h=>zb7 (l:=o0_3) (e:=za) (d:=(api_Setting.mk [] [])) (i:=(k_1.toNat+k2_4.toNat:Nat)) h []
    have hr_8:=fun h=>zb7 (l:=o0_3) (e:=za) (d:=(api_Setting.mk [] [])) (i:=(k_1.toNat+((IntKind.i64.wrap (k2_4-1)).toNat):Nat)) h []
    refine Wp.seqD (plan:=pl [(0,none),(1,none),(2,none),(3,none),(4,none),(5,none),(6,none),(7,none),(8,none),(9,none),(10,none),(11,none)]) (by kernel_rfl) rfl (by kernel_rfl) fun K27 hK27=>?_
    simp only[go_sem,simprocAttr,hr_7 (by omega),hr_8 (by omega)]
    try refine⟨sL,?_⟩
    refine Dr.callF (av:=?av28) (g:=true) (o:=?o28) (fun hg=>zko (api_Setting.mk ((o0_3.getD (k_1.toNat+k2_4.toNat:Nat) (api_Setting.mk [] [])).Key) ((o0_3.getD (k_1.toNat+k2_4.toNat:Nat) (api_Setting.mk [] [])).Value)) (api_Setting.mk ((o0_3.getD (k_1.toNat+((IntKind.i64.wrap (k2_4-1)).toNat):Nat) (api_Setting.mk [] [])).Key) ((o0_3.getD (k_1.toNat+((IntKind.i64.wrap (k2_4-1)).toNat):Nat) (api_Setting.mk [] [])).Value)) _ hr_16) (by simp only[go_sem,simprocAttr,hr_7 (by omega),hr_8 (by omega)];exact Is.mk) (by simp only[go_sem,simprocAttr,hr_7 (by omega),hr_8 (by omega)];exact Is.mk) (by simp only[go_sem,simprocAttr,hr_7 (by omega),hr_8 (by omega)];exact Is.mk) (by simp only[go_sem,simprocAttr,hr_7 (by omega),hr_8 (by omega)];exact Is.mk) (by simp only[go_sem,simprocAttr,hr_7 (by omega),hr_8 (by omega)]) (by simp only[go_sem,simprocAttr,hr_7 (by omega),hr_8 (by omega)];exact Is.mk) ?cont28;simp only[go_sem,simprocAttr,hr_7 (by omega),hr_8 (by omega)];refine kA hK27 ?_
    refine cN hm (fun hm=>?_) fun hm=>?_
    ·obtain⟨c_31,hm⟩:=zh hm
     obtain⟨c_32,hm⟩:=zh hm;obtain⟨c_33,hm⟩:=zh hm;obtain⟨c_34,hm⟩:=zh hm
     have hr_17:=fun h=>zb7 (l:=o0_3) (e:=za) (d:=(api_Setting.mk [] [])) (i:=(k_1.toNat+k2_4.toNat:Nat)) h []
     refine Wp.seqR fun K30 hK30=>?_
     simp only[go_sem,simprocAttr,hr_17 (by omega)];refine kA hK30 ?_;refine qR ?_;refine hK26 _ _ (qR ?_);simp only[zq,zD,↓reduceIte];refine⟨(IntKind.i64.wrap (k_12+1),IntKind.i64.wrap (k2_4+1),List.set o0_3 (k_12.toNat:Nat) (api_Setting.mk ((o0_3.getD (k_1.toNat+k2_4.toNat:Nat) (api_Setting.mk [] [])).Key) ((o0_3.getD (k_1.toNat+k2_4.toNat:Nat) (api_Setting.mk [] [])).Value))),hm,?_⟩;exact zbD
    ·refine Wp.skip (hK26 _ _ (qR ?_))
     simp only[zq,zD,↓reduceIte];refine⟨(k_12,IntKind.i64.wrap (k2_4+1),o0_3),hm,?_⟩;exact zbD
   ·refine Wp.exit ?_
    simp only[zq,zD,↓reduceIte];have hm:=hk_15 _ hm
    try dsimp only at hm
    refine hW18 _ _ _ _ ?_ (hcut18 (k_12,o0_3) hm);exact zbD
  ·refine Wp.skip (hW12 _ _ _ _ ?_ (hcut12 () hm))
   exact zbD
 ·refine Wp.exit ?_
  simp only[zq,zD,↓reduceIte];have hm:=hk_13 _ hm
  try dsimp only at hm
  refine hW6 _ _ _ _ ?_ (hcut6 () hm);exact zbD
theorem zbr(m_1:api_Machine)(z:(List (Str×api_File))×(List (Str×Str))×(List (Str×api_Service))×List api_Setting)(hm:zbP m_1=some z):Does Tryz.prog 74 [.agg [.p (.l (List.map za m_1.Facts)),.p (.l (List.map zc m_1.Files)),.p (.l (List.map za m_1.Settings)),.p (.l (List.map zb m_1.Services))]] [] (fun r X=>r=.ptr 4 0∧X=[.cells 26 [.top,.top,.top,.top],.mp true (zx Dt.s zc z.1),.mp false (zx Dt.s ecS z.2.1),.mp true (zx Dt.s zb z.2.2.1),.cells 129 [.p (.l (List.map za z.2.2.2)),.mp 1,.mp 2,.mp 3]]):=by
 unfold zbP at hm
 refine dW 5 64 [.tmp 2] Tryz.func74 fun B=>nA fun hA=>?_
 refine qS ?_;refine qS ?_
 refine Wp.seqW fun K3 hK3 hW3=>?_
 obtain⟨k_5,hk_5,hm⟩:=zj hm
 have hcut3:∀s,k_5 s=some z→K3 [(1,.ptr 0 0),(3,.ptr 4 0)] [.cells 26 [.p (.l (List.map za m_1.Facts)),.p (.l (List.map zc m_1.Files)),.p (.l (List.map za m_1.Settings)),.p (.l (List.map zb m_1.Services))],.mp true (zx Dt.s zc s),.mp false (zx Dt.s ecS []),.mp true (zx Dt.s zb []),.cells 129 [.p (.l (List.map za m_1.Facts)),.mp 1,.mp 2,.mp 3]]:=by
  intro m1_6 hs;have hm:=hk_5 _ hs;clear hs
  try dsimp only at hm⊢
  refine hK3 _ _ (Wp.seqW fun K4 hK4 hW4=>?_);obtain⟨k_7,hk_7,hm⟩:=zj hm
  have hcut4:∀s,k_7 s=some z→K4 [(1,.ptr 0 0),(3,.ptr 4 0)] [.cells 26 [.p (.l (List.map za m_1.Facts)),.p (.l (List.map zc m_1.Files)),.p (.l (List.map za m_1.Settings)),.p (.l (List.map zb m_1.Services))],.mp true (zx Dt.s zc m1_6),.mp false (zx Dt.s ecS s),.mp true (zx Dt.s zb []),.cells 129 [.p (.l (List.map za m_1.Facts)),.mp 1,.mp 2,.mp 3]]:=by
   intro m2_15 hs;have hm:=hk_7 _ hs;clear hs
   try dsimp only at hm⊢
   refine hK4 _ _ (Wp.seqW fun K5 hK5 hW5=>?_);obtain⟨k_8,hk_8,hm⟩:=zj hm
   have hcut5:∀s,k_8 s=some z→K5 [(3,.ptr 4 0)] [.cells 26 [.top,.top,.top,.top],.mp true (zx Dt.s zc m1_6),.mp false (zx Dt.s ecS m2_15),.mp true (zx Dt.s zb s),.cells 129 [.p (.l (List.map za m_1.Facts)),.mp 1,.mp 2,.mp 3]]:=by
    intro m3_28 hs;have hm:=hk_8 _ hs;clear hs
    try dsimp only at hm⊢
    exact hK5 _ _ (wQ)
   clear hK5 hk_8;refine qS ?_;refine Wp.block ?_;obtain⟨k_16,hk_16,hm⟩:=zp hm
   refine fL 49 m_1.Services.length fun hl_25=>?_
   refine Wp.forL (fun i_9 s=>[(3,.ptr 4 0),(49,.p (.l (List.map zb m_1.Services))),(50,.p (.i .i64 (m_1.Services.length:Int))),(51,.p (.i .i64 (i_9:Int)))]) (fun i_9 s=>[.cells 26 [.p (.l (List.map za m_1.Facts)),.p (.l (List.map zc m_1.Files)),.p (.l (List.map za m_1.Settings)),.p (.l (List.map zb m_1.Services))],.mp true (zx Dt.s zc m1_6),.mp false (zx Dt.s ecS m2_15),.mp true (zx Dt.s zb s),.cells 129 [.p (.l (List.map za m_1.Facts)),.mp 1,.mp 2,.mp 3]]) wF hm ?_;clear hm;intro i_9 m3_12 hii_9 hm
   try dsimp only at hm⊢
   refine qS ?_
   refine Wp.seqW fun _ hK9 _=>Wp.cond rfl ⟨⟩ (fun hc9=>?_) fun hc9=>Wp.exit (hW5 _ _ _ _ wF (hcut5 m3_12 (hk_16 _ (zt hm (geN hc9)))))
   have hlt9:=ltN hc9;have hw9:=zn hlt9 hl_25;obtain⟨s_2,nx_17,hxs_2,hys_2,hnx_17,hm⟩:=zo hm hlt9;replace hxs_2:=hxs_2 zb;refine Wp.skip ?_;simp only[zq];refine hK9 _ _ (Wp.seqW fun _ hK10 _=>Wp.block ?_);have hA:=And.intro hw9 hxs_2;refine q6 ?_;obtain⟨c_29,hm⟩:=zh hm;have hp_18:=zdI (e:=zb) zai m3_12 s_2.Name s_2;simp only[zb]at hp_18;have hA:=And.intro hw9 (And.intro hxs_2 hp_18)
   refine dE (pl [(0,none),(1,none),(2,none),(3,none),(4,none),(5,none),(6,none),(7,some [])]) fun _ hK12=>hK12 _ _ ?_
   refine hK10 _ _ (r6 ?_);exact wN (zcy m3_12 s_2.Name s_2) hlt9 (hnx_17 _ hm)
  clear hK4 hk_7;refine qS ?_;refine Wp.block ?_;obtain⟨k_19,hk_19,hm⟩:=zp hm
  refine fL 33 m_1.Settings.length fun hl_26=>?_
  refine Wp.forL (fun i_10 s=>[(1,.ptr 0 0),(3,.ptr 4 0),(33,.p (.l (List.map za m_1.Settings))),(34,.p (.i .i64 (m_1.Settings.length:Int))),(35,.p (.i .i64 (i_10:Int)))]) (fun i_10 s=>[.cells 26 [.p (.l (List.map za m_1.Facts)),.p (.l (List.map zc m_1.Files)),.p (.l (List.map za m_1.Settings)),.p (.l (List.map zb m_1.Services))],.mp true (zx Dt.s zc m1_6),.mp false (zx Dt.s ecS s),.mp true (zx Dt.s zb []),.cells 129 [.p (.l (List.map za m_1.Facts)),.mp 1,.mp 2,.mp 3]]) wF hm ?_;clear hm;intro i_10 m2_13 hii_10 hm
  try dsimp only at hm⊢
  refine qS ?_
  refine Wp.seqW fun _ hK16 _=>Wp.cond rfl ⟨⟩ (fun hc16=>?_) fun hc16=>Wp.exit (hW4 _ _ _ _ wF (hcut4 m2_13 (hk_19 _ (zt hm (geN hc16)))))
  have hlt16:=ltN hc16;have hw16:=zn hlt16 hl_26;obtain⟨s_3,nx_20,hxs_3,hys_3,hnx_20,hm⟩:=zo hm hlt16;replace hxs_3:=hxs_3 za;refine Wp.skip ?_;simp only[zq];refine hK16 _ _ (Wp.seqW fun _ hK17 _=>Wp.block ?_);have hA:=And.intro hw16 hxs_3;refine q6 ?_;obtain⟨c_30,hm⟩:=zh hm;have hp_21:=zdI (e:=ecS) zai m2_13 s_3.Key s_3.Value;simp only[ecS]at hp_21;have hA:=And.intro hw16 (And.intro hxs_3 hp_21)
  refine dE (pl [(0,none),(1,none),(2,none),(3,none),(4,none),(5,none),(6,none),(7,none),(8,some [])]) fun _ hK19=>hK19 _ _ ?_
  refine hK17 _ _ (r6 ?_);exact wN (zcy m2_13 s_3.Key s_3.Value) hlt16 (hnx_20 _ hm)
 clear hK3 hk_5;refine qS ?_;refine Wp.block ?_;obtain⟨k_22,hk_22,hm⟩:=zp hm
 refine fL 18 m_1.Files.length fun hl_27=>?_
 refine Wp.forL (fun i_11 s=>[(1,.ptr 0 0),(3,.ptr 4 0),(18,.p (.l (List.map zc m_1.Files))),(19,.p (.i .i64 (m_1.Files.length:Int))),(20,.p (.i .i64 (i_11:Int)))]) (fun i_11 s=>[.cells 26 [.p (.l (List.map za m_1.Facts)),.p (.l (List.map zc m_1.Files)),.p (.l (List.map za m_1.Settings)),.p (.l (List.map zb m_1.Services))],.mp true (zx Dt.s zc s),.mp false (zx Dt.s ecS []),.mp true (zx Dt.s zb []),.cells 129 [.p (.l (List.map za m_1.Facts)),.mp 1,.mp 2,.mp 3]]) wF hm ?_;clear hm;intro i_11 m1_14 hii_11 hm
 try dsimp only at hm⊢
 refine qS ?_
 refine Wp.seqW fun _ hK23 _=>Wp.cond rfl ⟨⟩ (fun hc23=>?_) fun hc23=>Wp.exit (hW3 _ _ _ _ wF (hcut3 m1_14 (hk_22 _ (zt hm (geN hc23)))))
 have hlt23:=ltN hc23;have hw23:=zn hlt23 hl_27;obtain⟨f_4,nx_23,hxf_4,hyf_4,hnx_23,hm⟩:=zo hm hlt23;replace hxf_4:=hxf_4 zc;refine Wp.skip ?_;simp only[zq];refine hK23 _ _ (Wp.seqW fun _ hK24 _=>Wp.block ?_);have hA:=And.intro hw23 hxf_4;refine q6 ?_;obtain⟨c_31,hm⟩:=zh hm;have hp_24:=zdI (e:=zc) zai m1_14 f_4.Path f_4;simp only[zc]at hp_24;have hA:=And.intro hw23 (And.intro hxf_4 hp_24)
 refine dE (pl [(0,none),(1,none),(2,none),(3,none),(4,none),(5,none),(6,none),(7,some [])]) fun _ hK26=>hK26 _ _ ?_
 refine hK24 _ _ (r6 ?_);exact wN (zcy m1_14 f_4.Path f_4) hlt23 (hnx_23 _ hm)
theorem zgP(c_1:api_Change)(z:Int)(hm:zcL c_1=some z):Does Tryz.prog 156 [.agg [.p (.i .i64 c_1.Kind),.p (.s c_1.File.Path),.p (.s c_1.File.Data),.p (.b c_1.File.Runs),.p (.s c_1.Setting.Key),.p (.s c_1.Setting.Value),.p (.s c_1.Service.Name),.p (.s c_1.Service.Path),.p (.b c_1.Service.Auto),.p (.b c_1.Service.On)]] [] (fun r X=>r=.p (.i .i64 z)∧X=[]):=by
 unfold zcL at hm
 refine dW 0 67 [.tmp 2] Tryz.func156 fun B=>nA fun hA=>?_
 refine qS ?_;refine qS ?_;refine qS ?_
 refine Wp.seqW fun K4 hK4 hW4=>?_
 obtain⟨k_2,hk_2,hm⟩:=zj hm
 have hcut4:∀s,k_2 s=some z→K4 [(3,.ptr 1 0),(4,.p (.i .i64 s.1))] [.cells 44 [.top,.top,.top,.top,.top,.top,.top,.top,.top,.top],.cells 44 [.p (.i .i64 0),.p (.s s.2.1),.p (.s s.2.2.1),.p (.b s.2.2.2.1),.p (.s s.2.2.2.2.1),.p (.s s.2.2.2.2.2.1),.p (.s s.2.2.2.2.2.2.1),.p (.s s.2.2.2.2.2.2.2.1),.p (.b s.2.2.2.2.2.2.2.2.1),.p (.b s.2.2.2.2.2.2.2.2.2)]]:=by
  intro s hs;have hm:=hk_2 _ hs;clear hs;obtain⟨e_14,o1_1_15,o1_2_16,o1_3_17,o1_4_18,o1_5_19,o1_6_20,o1_7_21,o1_8_22,o1_9_23⟩:=s
  try dsimp only at hm⊢
  refine hK4 _ _ ?_;obtain⟨r_3,hr_3,hm⟩:=zd hm;obtain⟨r_13,hr_13,hm⟩:=zd hm
  refine rS fun _ hK5=>?_
  refine cX (fun hg=>zb5 (!(true&&((decide (o1_1_15=[]))&&((decide (o1_2_16=[]))&&((decide (o1_3_17=false))&&((decide (o1_4_18=[]))&&((decide (o1_5_19=[]))&&((decide (o1_6_20=[]))&&((decide (o1_7_21=[]))&&((decide (o1_8_22=false))&&(decide (o1_9_23=false)))))))))))) 2 _ hr_3) ?_;refine cX (fun hg=>zdg [e_14,r_3] _ hr_13) (hK5 _ _ ?_);exact wR
 clear hK4 hk_2;refine qS ?_;refine qS ?_;refine Wp.block (qS ?_)
 refine cN hm (fun hm=>?_) fun hm=>?_
 ·obtain⟨r_4,hr_4,hm⟩:=zd hm
  refine rE fun _ hK12=>?_
  refine cX (fun hg=>zh3 c_1.File _ hr_4) (hK12 _ _ ?_);refine hW4 _ _ _ _ ?_ (hcut4 (r_4,[],[],false,c_1.Setting.Key,c_1.Setting.Value,c_1.Service.Name,c_1.Service.Path,c_1.Service.Auto,c_1.Service.On) hm);exact zbD
 ·refine qS ?_
  refine cN hm (fun hm=>?_) fun hm=>?_
  ·obtain⟨r_5,hr_5,hm⟩:=zd hm
   obtain⟨r_6,hr_6,hm⟩:=zd hm
   refine rE fun _ hK16=>?_
   refine cX (fun hg=>ze9 c_1.File.Path _ hr_5) ?_;refine cX (fun hg=>zb5 (!r_5) 5 _ hr_6) (hK16 _ _ ?_);refine hW4 _ _ _ _ ?_ (hcut4 (r_6,[],c_1.File.Data,c_1.File.Runs,c_1.Setting.Key,c_1.Setting.Value,c_1.Service.Name,c_1.Service.Path,c_1.Service.Auto,c_1.Service.On) hm);exact zbD
  ·refine qS ?_
   refine cN hm (fun hm=>?_) fun hm=>?_
   ·obtain⟨r_7,hr_7,hm⟩:=zd hm
    refine rE fun _ hK21=>?_
    refine cX (fun hg=>zfS c_1.Setting _ hr_7) (hK21 _ _ ?_);refine hW4 _ _ _ _ ?_ (hcut4 (r_7,c_1.File.Path,c_1.File.Data,c_1.File.Runs,[],[],c_1.Service.Name,c_1.Service.Path,c_1.Service.Auto,c_1.Service.On) hm);exact zbD
   ·refine qS ?_
    refine cN hm (fun hm=>?_) fun hm=>?_
    ·obtain⟨r_8,hr_8,hm⟩:=zd hm
     obtain⟨r_9,hr_9,hm⟩:=zd hm
     refine rE fun _ hK25=>?_
     refine cX (fun hg=>ze9 c_1.Setting.Key _ hr_8) ?_;refine cX (fun hg=>zb5 (!r_8) 5 _ hr_9) (hK25 _ _ ?_);refine hW4 _ _ _ _ ?_ (hcut4 (r_9,c_1.File.Path,c_1.File.Data,c_1.File.Runs,[],c_1.Setting.Value,c_1.Service.Name,c_1.Service.Path,c_1.Service.Auto,c_1.Service.On) hm);exact zbD
    ·refine qS ?_
     refine cN hm (fun hm=>?_) fun hm=>?_
     ·obtain⟨r_10,hr_10,hm⟩:=zd hm
      refine rE fun _ hK30=>?_
      refine cX (fun hg=>zfT c_1.Service _ hr_10) (hK30 _ _ ?_);refine hW4 _ _ _ _ ?_ (hcut4 (r_10,c_1.File.Path,c_1.File.Data,c_1.File.Runs,c_1.Setting.Key,c_1.Setting.Value,[],[],false,false) hm);exact zbD
     ·refine qS ?_
      refine cT hm fun hm=>?_
      obtain⟨r_11,hr_11,hm⟩:=zd hm;obtain⟨r_12,hr_12,hm⟩:=zd hm
      refine rE fun _ hK34=>?_
      refine cX (fun hg=>zef c_1.Service.Name _ hr_11) ?_;refine cX (fun hg=>zb5 (!r_11) 5 _ hr_12) (hK34 _ _ ?_);refine hW4 _ _ _ _ ?_ (hcut4 (r_12,c_1.File.Path,c_1.File.Data,c_1.File.Runs,c_1.Setting.Key,c_1.Setting.Value,[],c_1.Service.Path,c_1.Service.Auto,c_1.Service.On) hm);exact zbD
end Go.Proofs.YtbofknpajcdnmaaGreatDoor
