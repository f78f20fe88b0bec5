/- That the code does what the models say (part 12). -/
import Derived.Test.YtbofknpajcdnmaaGreatDoorLkWk0
import Derived.Test.YtbofknpajcdnmaaGreatDoorLkWk1
import Derived.Test.YtbofknpajcdnmaaGreatDoorLkWk4
import Derived.Test.YtbofknpajcdnmaaGreatDoorLkWk7
import Derived.Test.YtbofknpajcdnmaaGreatDoorLkWk8
import Derived.Test.YtbofknpajcdnmaaGreatDoorLkWk9
import Derived.Test.YtbofknpajcdnmaaGreatDoorLkWk10
import Derived.Test.YtbofknpajcdnmaaGreatDoorLkWk11
set_option linter.unusedSimpArgs false
set_option linter.unusedVariables false
open Go.Proofs Go.Shelf
namespace Go.Proofs.YtbofknpajcdnmaaGreatDoor
open Go.Vc Go.Md
set_option maxRecDepth 100000
set_option maxHeartbeats 4000000
theorem zfV(l_2:List api_Change)(z:Str)(hm:za6 l_2=some z):Does Tryz.prog 107 [.p (.l (List.map ze l_2))] [] (fun r X=>r=.p (.s z)∧X=[]):=by
 unfold za6 at hm
 refine dW 0 76 [.tmp 2] Tryz.func107 fun B=>nA fun hA=>?_
 refine qS ?_;refine qS ?_;refine Wp.adoptB 0 5 rfl ?_;simp only[go_sem,simprocAttr]
 refine Wp.seqW fun K3 hK3 hW3=>?_
 obtain⟨k_5,hk_5,hm⟩:=zj hm
 have hcut3:∀s,k_5 s=some z→K3 [(3,.ptr 0 0)] [.cells 211 [.np 0,.buf 1],.sb 5 s]:=by
  intro o1_21 hs;have hm:=hk_5 _ hs;clear hs
  try dsimp only at hm⊢
  refine hK3 _ _ ?_;obtain⟨r_18,hr_18,hm⟩:=zd hm
  refine rS fun _ hK4=>?_
  refine cO [0,1] (zaD o1_21 _ hr_18) (hK4 _ _ ?_);exact wR
 clear hK3 hk_5;refine qS ?_;refine Wp.block ?_;obtain⟨k_19,hk_19,hm⟩:=zp hm
 refine fL 7 l_2.length fun hl_22=>?_
 refine Wp.forL (fun i_4 s=>[(3,.ptr 0 0),(7,.p (.l (List.map ze l_2))),(8,.p (.i .i64 (l_2.length:Int))),(9,.p (.i .i64 (i_4:Int)))]) (fun i_4 s=>[.cells 211 [.np 0,.buf 1],.sb 5 s]) wF hm ?_;clear hm;intro i_4 o1_3 hii_4 hm
 try dsimp only at hm⊢
 refine qS ?_
 refine Wp.seqW fun _ hK8 _=>Wp.cond rfl ⟨⟩ (fun hc8=>?_) fun hc8=>Wp.exit (hW3 _ _ _ _ wF (hcut3 o1_3 (hk_19 _ (zt hm (geN hc8)))))
 have hlt8:=ltN hc8;have hw8:=zn hlt8 hl_22;obtain⟨c_1,nx_20,hxc_1,hyc_1,hnx_20,hm⟩:=zo hm hlt8;replace hxc_1:=hxc_1 ze;refine Wp.skip ?_;simp only[zq];refine hK8 _ _ (Wp.seqW fun _ hK9 _=>Wp.block ?_);have hA:=And.intro hw8 hxc_1;refine q6 ?_
 refine Wp.seqW fun K11 hK11 hW11=>?_
 obtain⟨k_6,hk_6,hm⟩:=zj hm
 have hcut11:∀s,k_6 s=some z→K11 [(3,.ptr 0 0),(7,.p (.l (List.map ze l_2))),(8,.p (.i .i64 (l_2.length:Int))),(9,.p (.i .i64 (i_4:Int)))] [.cells 211 [.np 0,.buf 1],.sb 5 s]:=by
  intro o1_23 hs;have hm:=hk_6 _ hs;clear hs
  try dsimp only at hm⊢
  refine hK11 _ _ ?_;obtain⟨r_8,hr_8,hm⟩:=zd hm
  refine rE fun _ hK12=>?_
  refine cO [0,1] (zed 10 o1_23 _ hr_8) (hK12 _ _ ?_);refine hK9 _ _ (r6 ?_);exact wN r_8 hlt8 (hnx_20 _ hm)
 clear hK11 hk_6;refine q6 ?_;refine Wp.block (q6 ?_)
 refine cN hm (fun hm=>?_) fun hm=>?_
 ·refine q6 ?_
  refine Wp.seqW fun K19 hK19 hW19=>?_
  obtain⟨k_7,hk_7,hm⟩:=zj hm
  have hcut19:∀s,k_7 s=some z→K19 [(3,.ptr 0 0),(5,.ptr 2 0),(6,.p (.s s)),(7,.p (.l (List.map ze l_2))),(8,.p (.i .i64 (l_2.length:Int))),(9,.p (.i .i64 (i_4:Int)))] [.cells 211 [.np 0,.buf 1],.sb 5 o1_3,.cells 44 [.p (.i .i64 c_1.Kind),.p (.s c_1.File.Path),.p (.s c_1.File.Data),.p (.b c_1.File.Runs),.p (.s c_1.Setting.Key),.p (.s c_1.Setting.Value),.p (.s c_1.Service.Name),.p (.s c_1.Service.Path),.p (.b c_1.Service.Auto),.p (.b c_1.Service.On)]]:=by
   intro word_24 hs;have hm:=hk_7 _ hs;clear hs
   try dsimp only at hm⊢
   refine hK19 _ _ ?_;obtain⟨c_25,hm⟩:=zh hm;obtain⟨c_26,hm⟩:=zh hm;obtain⟨r_9,hr_9,hm⟩:=zd hm;obtain⟨c_27,hm⟩:=zh hm;obtain⟨r_10,hr_10,hm⟩:=zd hm
   refine dE (pl [(0,none),(1,none),(2,none),(3,none),(4,none),(5,none),(6,none),(7,none),(8,none),(9,none),(10,none),(11,some [])]) fun _ hK20=>?_
   refine Dr.callF (av:=?av21) (g:=true) (o:=?o21) (fun hg=>zjW c_1.File.Data _ hr_9) (by simp only[go_sem,simprocAttr,hA];exact Is.mk) (by simp only[go_sem,simprocAttr,hA];exact Is.mk) (by simp only[go_sem,simprocAttr,hA];exact Is.mk) (by simp only[go_sem,simprocAttr,hA];exact Is.mk) (by simp only[go_sem,simprocAttr,hA]) (by simp only[go_sem,simprocAttr,hA];exact Is.mk) ?cont21;simp only[go_sem,simprocAttr,hA]
   try refine⟨sL,?_⟩
   refine Dr.of_br (Br.callS (av:=?av22) (o:=?o22) 1 [0,1] (zm (((word_24++c_1.File.Path)++([32]:Str))++r_9) o1_3 _ hr_10) (by simp only[go_sem,simprocAttr,hA];exact Is.mk) (by simp only[go_sem,simprocAttr,hA];exact Is.mk) (by simp only[go_sem,simprocAttr,hA];exact Is.mk) (by simp only[go_sem,simprocAttr,hA];exact Is.mk) (by simp only[go_sem,simprocAttr,hA];first|exact Is.mk|(simp only[List.map_append,List.map_cons,List.map_nil,ecB,zcg,zar,ecS,ze,zc,zH,zb,za,zQ];exact Is.mk)) (by simp only[go_sem,simprocAttr,hA]) (by simp only[go_sem,simprocAttr,hA]) (by simp only[go_sem,simprocAttr,hA]) (by simp only[go_sem,simprocAttr,hA]) ?cont22);simp only[go_sem,simprocAttr,hA];refine kA hK20 ?_;refine hW11 _ _ _ _ ?_ (hcut11 r_10.2 hm);simp only[go_sem,simprocAttr,hA]
   try exact se4
  clear hK19 hk_7;refine q6 ?_
  refine cN hm (fun hm=>?_) fun hm=>?_
  ·refine r6 ?_
   refine hW19 _ _ _ _ ?_ (hcut19 ([112,117,116,114,117,110,32]:Str) hm);simp only[go_sem,simprocAttr,hA]
   try exact se4
  ·refine Wp.skip (hW19 _ _ _ _ ?_ (hcut19 ([112,117,116,32]:Str) hm))
   simp only[go_sem,simprocAttr,hA]
   try exact se4
 ·refine q6 ?_
  refine cN hm (fun hm=>?_) fun hm=>?_
  ·obtain⟨c_28,hm⟩:=zh hm
   obtain⟨r_11,hr_11,hm⟩:=zd hm
   refine rE fun _ hK28=>?_
   refine cO [0,1] (zm (([114,101,109,111,118,101,32]:Str)++c_1.File.Path) o1_3 _ hr_11) (hK28 _ _ ?_);refine hW11 _ _ _ _ ?_ (hcut11 r_11.2 hm);simp only[go_sem,simprocAttr,hA]
   try exact se4
  ·refine q6 ?_
   refine cN hm (fun hm=>?_) fun hm=>?_
   ·obtain⟨c_29,hm⟩:=zh hm
    obtain⟨c_30,hm⟩:=zh hm;obtain⟨r_12,hr_12,hm⟩:=zd hm;obtain⟨c_31,hm⟩:=zh hm;obtain⟨r_13,hr_13,hm⟩:=zd hm
    refine dE (pl [(0,none),(1,none),(2,none),(3,none),(4,none),(5,none),(6,none),(7,none),(8,none),(9,none),(10,some [])]) fun _ hK32=>?_
    refine Dr.callF (av:=?av33) (g:=true) (o:=?o33) (fun hg=>zjW c_1.Setting.Value _ hr_12) (by simp only[go_sem,simprocAttr,hA];exact Is.mk) (by simp only[go_sem,simprocAttr,hA];exact Is.mk) (by simp only[go_sem,simprocAttr,hA];exact Is.mk) (by simp only[go_sem,simprocAttr,hA];exact Is.mk) (by simp only[go_sem,simprocAttr,hA]) (by simp only[go_sem,simprocAttr,hA];exact Is.mk) ?cont33;simp only[go_sem,simprocAttr,hA]
    try refine⟨sL,?_⟩
    refine Dr.of_br (Br.callS (av:=?av34) (o:=?o34) 1 [0,1] (zm (((([115,101,116,32]:Str)++c_1.Setting.Key)++([32]:Str))++r_12) o1_3 _ hr_13) (by simp only[go_sem,simprocAttr,hA];exact Is.mk) (by simp only[go_sem,simprocAttr,hA];exact Is.mk) (by simp only[go_sem,simprocAttr,hA];exact Is.mk) (by simp only[go_sem,simprocAttr,hA];exact Is.mk) (by simp only[go_sem,simprocAttr,hA];first|exact Is.mk|(simp only[List.map_append,List.map_cons,List.map_nil,ecB,zcg,zar,ecS,ze,zc,zH,zb,za,zQ];exact Is.mk)) (by simp only[go_sem,simprocAttr,hA]) (by simp only[go_sem,simprocAttr,hA]) (by simp only[go_sem,simprocAttr,hA]) (by simp only[go_sem,simprocAttr,hA]) ?cont34);simp only[go_sem,simprocAttr,hA];refine kA hK32 ?_;refine hW11 _ _ _ _ ?_ (hcut11 r_13.2 hm);simp only[go_sem,simprocAttr,hA]
    try exact se4
   ·refine q6 ?_
    refine cN hm (fun hm=>?_) fun hm=>?_
    ·obtain⟨c_32,hm⟩:=zh hm
     obtain⟨r_14,hr_14,hm⟩:=zd hm
     refine rE fun _ hK37=>?_
     refine cO [0,1] (zm (([117,110,115,101,116,32]:Str)++c_1.Setting.Key) o1_3 _ hr_14) (hK37 _ _ ?_);refine hW11 _ _ _ _ ?_ (hcut11 r_14.2 hm);simp only[go_sem,simprocAttr,hA]
     try exact se4
    ·refine q6 ?_
     refine cN hm (fun hm=>?_) fun hm=>?_
     ·obtain⟨r_15,hr_15,hm⟩:=zd hm
      obtain⟨c_33,hm⟩:=zh hm;obtain⟨r_16,hr_16,hm⟩:=zd hm
      refine rE fun _ hK41=>?_
      refine cX (fun hg=>zjU c_1.Service _ hr_15) ?_;refine cO [0,1] (zm (([115,101,114,118,105,99,101,32]:Str)++r_15) o1_3 _ hr_16) (hK41 _ _ ?_);refine hW11 _ _ _ _ ?_ (hcut11 r_16.2 hm);simp only[go_sem,simprocAttr,hA]
      try exact se4
     ·refine q6 ?_
      refine cN hm (fun hm=>?_) fun hm=>?_
      ·obtain⟨c_34,hm⟩:=zh hm
       obtain⟨r_17,hr_17,hm⟩:=zd hm
       refine rE fun _ hK46=>?_
       refine cO [0,1] (zm (([100,114,111,112,32]:Str)++c_1.Service.Name) o1_3 _ hr_17) (hK46 _ _ ?_);refine hW11 _ _ _ _ ?_ (hcut11 r_17.2 hm);simp only[go_sem,simprocAttr,hA]
       try exact se4
      ·refine Wp.skip (hW11 _ _ _ _ ?_ (hcut11 o1_3 hm))
       simp only[go_sem,simprocAttr,hA]
       try exact se4
theorem zfU(j_1:api_Journal)(z:Str×Int)(hm:zaF j_1=some z):Does Tryz.prog 39 [.agg [.p (.s j_1.Id),.p (.l (List.map ze j_1.Changes)),.p (.l (List.map ze j_1.Old))]] [] (fun r X=>r=.tup [.p (.s z.1),.p (.i .i64 z.2)]∧X=[]):=by
 unfold zaF at hm
 refine dW 0 56 [.tmp 2,.tmp 3] Tryz.func39 fun B=>nA fun hA=>?_
 refine qS ?_
 refine Wp.seqW fun _ hK2 _=>?_
 obtain⟨r_8,hr_8,hm⟩:=zd hm
 refine rS fun _ hK3=>?_
 refine cX (fun hg=>zef j_1.Id _ hr_8) (hK3 _ _ ?_)
 refine cR hm fun hm=>?_
 refine Wp.skip (hK2 _ _ (Wp.seqW fun _ hK7 _=>?_));obtain⟨r_2,hr_2,hm⟩:=zd hm;obtain⟨r_3,hr_3,hm⟩:=zd hm;obtain⟨r_9,hr_9,hm⟩:=zd hm
 refine dS (pl [(0,none),(1,none),(2,none),(3,none),(4,none),(5,none),(6,some []),(7,none),(8,none)]) fun _ hK8=>?_
 refine cD (fun hg=>zfW j_1.Changes _ hr_2) ?_;refine cD (fun hg=>zfW j_1.Old _ hr_3) ?_;refine cD (fun hg=>zdg [r_2,r_3] _ hr_9) (hK8 _ _ ?_);refine qS ?_
 refine cR hm fun hm=>?_
 refine Wp.skip (hK7 _ _ ?_);obtain⟨c_11,hm⟩:=zh hm;obtain⟨c_12,hm⟩:=zh hm;obtain⟨r_4,hr_4,hm⟩:=zd hm;obtain⟨c_13,hm⟩:=zh hm;obtain⟨c_14,hm⟩:=zh hm;obtain⟨r_5,hr_5,hm⟩:=zd hm;obtain⟨c_15,hm⟩:=zh hm;obtain⟨c_16,hm⟩:=zh hm;obtain⟨r_6,hr_6,hm⟩:=zd hm;obtain⟨c_17,hm⟩:=zh hm;obtain⟨c_18,hm⟩:=zh hm;obtain⟨r_7,hr_7,hm⟩:=zd hm;obtain⟨c_19,hm⟩:=zh hm
 refine dS (pl [(0,none),(1,none),(2,none),(3,none),(4,none),(5,none),(6,none),(7,none),(8,none),(9,none),(10,none),(11,none),(12,none),(13,none),(14,none),(15,none),(16,none),(17,none),(18,none),(19,none),(20,none),(21,none),(22,none),(23,none),(24,none),(25,none)]) fun _ hK15=>?_
 refine cD (fun hg=>ze7 (j_1.Changes.length:Int) _ hr_4) ?_;refine cD (fun hg=>zfV j_1.Changes _ hr_5) ?_;refine cD (fun hg=>ze7 (j_1.Old.length:Int) _ hr_6) ?_;refine cD (fun hg=>zfV j_1.Old _ hr_7) (hK15 _ _ ?_);obtain⟨r_10,hr_10,hm⟩:=zd hm;obtain⟨c_20,hm⟩:=zh hm;obtain⟨c_21,hm⟩:=zh hm;obtain⟨c_22,hm⟩:=zh hm
 refine rS fun _ hK20=>?_
 refine cX (fun hg=>zm7 (((((((((([106,111,117,114,110,97,108,32]:Str)++j_1.Id)++([10,99,104,97,110,103,101,115,32]:Str))++r_4)++([10]:Str))++r_5)++([111,108,100,32]:Str))++r_6)++([10]:Str))++r_7) _ hr_10) (hK20 _ _ ?_)
 refine Wp.seqW fun _ hK22 _=>qS ?_
 refine cR hm fun hm=>?_
 exact Wp.skip (hK22 _ _ (wQ))
theorem zjX(s_6:Str)(z:api_Journal×Int)(hm:za7 s_6=some z):Does Tryz.prog 42 [.p (.s s_6)] [] (fun r X=>r=.tup [.agg [.p (.s z.1.Id),.p (.l (List.map ze z.1.Changes)),.p (.l (List.map ze z.1.Old))],.p (.i .i64 z.2)]∧X=[]):=by
 unfold za7 at hm
 refine dW 0 130 [.cell 2 69,.tmp 3] Tryz.func42 fun B=>nA fun hA=>?_
 refine qS ?_;refine qS ?_;obtain⟨r_2,hr_2,hm⟩:=zd hm
 refine rS fun _ hK3=>?_
 refine cF (zn7 s_6 _ hr_2) (hK3 _ _ ?_)
 refine Wp.seqW fun _ hK5 _=>qS ?_
 refine cN hm (fun hm=>?_) fun hm=>?_
 ·obtain⟨r_12,hr_12,hm⟩:=zd hm
  refine rS fun _ hK8=>?_
  refine cF (zav 8 _ hr_12) (hK8 _ _ ?_);exact wR
 ·refine Wp.skip (hK5 _ _ (qS ?_))
  obtain⟨s_1,hbs_1,hxs_1,hys_1,hm⟩:=zbt hm;replace hxs_1:∀d,(List.map ecS r_2.1).getD 0 d=ecS s_1:=hxs_1 ecS;obtain⟨r_7,hr_7,hm⟩:=zd hm;have hA:=hxs_1
  refine rS fun _ hK11=>?_
  refine cX (fun hg=>zbC s_1 ([106,111,117,114,110,97,108,32]:Str) _ hr_7) (hK11 _ _ ?_)
  refine Wp.seqW fun _ hK13 _=>q6 ?_
  refine cN hm (fun hm=>?_) fun hm=>?_
  ·obtain⟨r_13,hr_13,hm⟩:=zd hm
   refine rS fun _ hK16=>?_
   refine cF (zav 8 _ hr_13) (hK16 _ _ ?_);exact wR
  ·refine Wp.skip (hK13 _ _ (q6 ?_))
   refine q6 ?_;refine q6 ?_;refine q6 ?_;obtain⟨r_4,hr_4,hm⟩:=zd hm
   refine rS fun _ hK22=>?_
   refine cO [3,1] (zdZ ([99,104,97,110,103,101,115]:Str) 1 r_2.1 _ hr_4) (hK22 _ _ ?_)
   refine Wp.seqW fun K24 hK24 hW24=>?_
   obtain⟨k_8,hk_8,hm⟩:=zj hm
   have hcut24:∀s,k_8 s=some z→K24 [(0,.p (.s s_6)),(2,.ptr 0 0),(4,.fn 113 []),(5,.ptr 1 0),(7,.ptr 2 0),(10,.ptr 3 0),(12,.p (.b r_4.2.1)),(13,.p (.b s.1))] [.cells 69 [.p (.s []),.nils,.nils],.cells 155 [.p (.l (List.map ecS r_2.1))],.cells 69 [.p (.s r_7.1),.p (.l (List.map ze r_4.1)),.p (.l (List.map ze s.2.1))],.cells 3 [.p (.i .i64 s.2.2)]]:=by
    intro s hs;have hm:=hk_8 _ hs;clear hs;obtain⟨b_23,o2_2_22,o3_0_14⟩:=s
    try dsimp only at hm⊢
    refine hK24 _ _ (Wp.seqW fun _ hK25 _=>q6 ?_)
    refine cN hm (fun hm=>?_) fun hm=>?_
    ·obtain⟨r_15,hr_15,hm⟩:=zd hm
     refine rS fun _ hK28=>?_
     refine cF (zav 8 _ hr_15) (hK28 _ _ ?_);exact wR
    ·refine Wp.skip (hK25 _ _ ?_)
     obtain⟨s_3,hbs_3,hxs_3,hys_3,hm⟩:=zbt hm;replace hxs_3:∀d,(List.map ecS r_2.1).getD o3_0_14.toNat d=ecS s_3:=hxs_3 ecS;obtain⟨r_9,hr_9,hm⟩:=zd hm;have hA:=And.intro hxs_1 hxs_3
     refine rS fun _ hK30=>?_
     refine cX (fun hg=>zbC s_3 ([115,117,109,32]:Str) _ hr_9) (hK30 _ _ ?_)
     refine Wp.seqW fun _ hK32 _=>?_
     obtain⟨r_16,hr_16,hm⟩:=zI hm
     refine rS fun _ hK33=>?_
     refine cX (g:=!(!r_9.2)) (fun hg=>ok_R_IsSum r_9.1 _ (hr_16 hg)) (hK33 _ _ ?_)
     refine cN hm (fun hm=>?_) fun hm=>?_
     ·obtain⟨r_17,hr_17,hm⟩:=zd hm
      refine rS fun _ hK36=>?_
      refine cF (zav 8 _ hr_17) (hK36 _ _ ?_);exact wR
     ·refine Wp.skip (hK32 _ _ (Wp.seqW fun _ hK38 _=>?_))
      obtain⟨c_24,hm⟩:=zh hm;obtain⟨r_10,hr_10,hm⟩:=zd hm;obtain⟨c_25,hm⟩:=zh hm;obtain⟨r_18,hr_18,hm⟩:=zd hm
      refine rS fun _ hK39=>?_
      refine cX (fun hg=>zg4 (List.take o3_0_14.toNat r_2.1) ([10]:Str) _ hr_10) ?_;refine cX (fun hg=>zm7 (r_10++([10]:Str)) _ hr_18) (hK39 _ _ ?_)
      refine cN hm (fun hm=>?_) fun hm=>?_
      ·obtain⟨r_19,hr_19,hm⟩:=zd hm
       refine rS fun _ hK43=>?_
       refine cF (zav 14 _ hr_19) (hK43 _ _ ?_);exact wR
      ·refine Wp.skip (hK38 _ _ ?_)
       obtain⟨r_11,hr_11,hm⟩:=zd hm
       refine rS fun _ hK45=>?_
       refine cX (fun hg=>zfU (api_Journal.mk r_7.1 r_4.1 o2_2_22) _ hr_11) (hK45 _ _ ?_)
       refine Wp.seqW fun _ hK47 _=>q6 ?_
       refine cN hm (fun hm=>?_) fun hm=>?_
       ·obtain⟨r_20,hr_20,hm⟩:=zd hm
        refine rS fun _ hK50=>?_
        refine cF (zav r_11.2 _ hr_20) (hK50 _ _ ?_);exact wR
       ·refine Wp.skip (hK47 _ _ (Wp.seqW fun _ hK52 _=>q6 ?_))
        refine cN hm (fun hm=>?_) fun hm=>?_
        ·obtain⟨r_21,hr_21,hm⟩:=zd hm
         refine rS fun _ hK55=>?_
         refine cF (zav 8 _ hr_21) (hK55 _ _ ?_);exact wR
        ·exact Wp.skip (hK52 _ _ (wQ))
   clear hK24 hk_8;refine q6 ?_
   refine cN hm (fun hm=>?_) fun hm=>?_
   ·obtain⟨r_5,hr_5,hm⟩:=zd hm
    refine rE fun _ hK60=>?_
    refine cO [3,1] (zdZ ([111,108,100]:Str) r_4.2.2 r_2.1 _ hr_5) (hK60 _ _ ?_);refine hW24 _ _ _ _ ?_ (hcut24 (r_5.2.1,r_5.1,r_5.2.2) hm);simp only[go_sem,simprocAttr,hA]
    try exact se4
   ·refine Wp.skip (hW24 _ _ _ _ ?_ (hcut24 (false,[],r_4.2.2) hm))
    simp only[go_sem,simprocAttr,hA]
    try exact se4
theorem ok_R_Look(m_2:api_Machine)(z:api_Journal×Int)(hm:znz m_2=some z):Does Tryz.prog 45 [.agg [.p (.l (List.map za m_2.Facts)),.p (.l (List.map zc m_2.Files)),.p (.l (List.map za m_2.Settings)),.p (.l (List.map zb m_2.Services))]] [] (fun r X=>r=.tup [.agg [.p (.s z.1.Id),.p (.l (List.map ze z.1.Changes)),.p (.l (List.map ze z.1.Old))],.p (.i .i64 z.2)]∧X=[]):=by
 unfold znz at hm
 refine dW 0 30 [.cell 2 69,.tmp 3] Tryz.func45 fun B=>nA fun hA=>?_
 refine qS ?_;obtain⟨r_3,hr_3,hm⟩:=zd hm;obtain⟨q_5,hq_1,hm⟩:=zZ hm;have hq_1d:=zM (e:=zc) zai r_3.1 ([115,116,97,103,101,47,106,111,117,114,110,97,108]:Str) (api_File.mk [] [] false);have hq_1s:=zL (e:=zc) zai r_3.1 ([115,116,97,103,101,47,106,111,117,114,110,97,108]:Str);simp only[hq_1,zc,List.map_nil]at hq_1d hq_1s;have hA:=And.intro hq_1d hq_1s
 refine rS fun _ hK2=>?_
 refine cO [] (zbr m_2 _ hr_3) (hK2 _ _ ?_)
 refine Wp.seqW fun _ hK4 _=>qS ?_
 refine cN hm (fun hm=>?_) fun hm=>?_
 ·refine qS ?_
  refine Wp.ret ?_;simp only[zq,zD];refine zO ?_;cases hm;exact zf5
 ·refine Wp.skip (hK4 _ _ ?_)
  obtain⟨r_4,hr_4,hm⟩:=zd hm
  refine rS fun _ hK8=>?_
  refine cF (zjX ((q_5.getD (api_File.mk [] [] false)).Data) _ hr_4) (hK8 _ _ ?_)
  refine Wp.seqW fun _ hK10 _=>qS ?_
  refine cN hm (fun hm=>?_) fun hm=>?_
  ·refine qS ?_
   refine Wp.ret ?_;simp only[zq,zD];refine zO ?_;cases hm;exact zf5
  ·exact Wp.skip (hK10 _ _ (wQ))
end Go.Proofs.YtbofknpajcdnmaaGreatDoor
