/- That the code does what the models say (part 2). -/
import Derived.Test.YtbofknpajcdnmaaGreatDoorLkWk0
import Derived.Test.YtbofknpajcdnmaaGreatDoorLkWk1
set_option linter.unusedSimpArgs false
set_option linter.unusedVariables false
open Go.Proofs Go.Shelf
namespace Go.Proofs.YtbofknpajcdnmaaGreatDoor
open Go.Vc Go.Md
set_option maxRecDepth 100000
set_option maxHeartbeats 4000000
theorem zna(m_1:api_Machine)(z:Int)(hm:zkd m_1=some z):Does Tryz.prog 11 [.agg [.p (.l (List.map za m_1.Facts)),.p (.l (List.map zc m_1.Files)),.p (.l (List.map za m_1.Settings)),.p (.l (List.map zb m_1.Services))]] [] (fun r X=>r=.p (.i .i64 z)∧X=[]):=by
 unfold zkd at hm
 refine dW 0 160 [.tmp 2] Tryz.func11 fun B=>nA fun hA=>?_
 refine qS ?_
 refine Wp.seqW fun _ hK2 _=>qS ?_
 refine cR hm fun hm=>?_
 refine Wp.skip (hK2 _ _ (qS ?_));refine qS ?_
 refine Wp.seqW fun K8 hK8 hW8=>?_
 obtain⟨k_15,hk_15,hm⟩:=zj hm
 have hcut8:∀s,k_15 s=some z→K8 [(1,.ptr 0 0),(4,.fn 58 [.ptr 1 0])] [.cells 26 [.p (.l (List.map za m_1.Facts)),.p (.l (List.map zc m_1.Files)),.p (.l (List.map za m_1.Settings)),.p (.l (List.map zb m_1.Services))],.cells 9 [.p (.s s)]]:=by
  intro o1_0_55 hs;have hm:=hk_15 _ hs;clear hs
  try dsimp only at hm⊢
  refine hK8 _ _ (qS ?_)
  refine Wp.seqW fun K10 hK10 hW10=>?_
  obtain⟨k_16,hk_16,hm⟩:=zj hm
  have hcut10:∀s,k_16 s=some z→K10 [(1,.ptr 0 0),(4,.fn 58 [.ptr 1 0])] [.cells 26 [.p (.l (List.map za m_1.Facts)),.p (.l (List.map zc m_1.Files)),.p (.l (List.map za m_1.Settings)),.p (.l (List.map zb m_1.Services))],.cells 9 [.p (.s s)]]:=by
   intro o1_0_56 hs;have hm:=hk_16 _ hs;clear hs
   try dsimp only at hm⊢
   refine hK10 _ _ (Wp.seqW fun K11 hK11 hW11=>?_);obtain⟨k_17,hk_17,hm⟩:=zj hm
   have hcut11:∀s,k_17 s=some z→K11 [(1,.ptr 0 0),(4,.fn 58 [.ptr 1 0])] [.cells 26 [.p (.l (List.map za m_1.Facts)),.p (.l (List.map zc m_1.Files)),.p (.l (List.map za m_1.Settings)),.p (.l (List.map zb m_1.Services))],.cells 9 [.p (.s s)]]:=by
    intro o1_0_57 hs;have hm:=hk_17 _ hs;clear hs
    try dsimp only at hm⊢
    refine hK11 _ _ (Wp.seqW fun K12 hK12 hW12=>?_);obtain⟨k_18,hk_18,hm⟩:=zj hm
    have hcut12:∀s,k_18 s=some z→K12 [] []:=by
     intro s hs;have hm:=hk_18 _ hs;clear hs
     try dsimp only at hm⊢
     exact hK12 _ _ (wQ)
    clear hK12 hk_18;refine qS ?_;refine Wp.block ?_;obtain⟨k_32,hk_32,hm⟩:=zp hm
    refine fL 140 m_1.Services.length fun hl_49=>?_
    refine Wp.forL (fun i_11 s=>[(4,.fn 58 [.ptr 1 0]),(140,.p (.l (List.map zb m_1.Services))),(141,.p (.i .i64 (m_1.Services.length:Int))),(142,.p (.i .i64 (i_11:Int)))]) (fun i_11 s=>[.cells 26 [.p (.l (List.map za m_1.Facts)),.p (.l (List.map zc m_1.Files)),.p (.l (List.map za m_1.Settings)),.p (.l (List.map zb m_1.Services))],.cells 9 [.p (.s s)]]) wF hm ?_;clear hm;intro i_11 o1_0_50 hii_11 hm
    try dsimp only at hm⊢
    refine qS ?_
    refine Wp.seqW fun _ hK16 _=>Wp.cond rfl ⟨⟩ (fun hc16=>?_) fun hc16=>Wp.exit (hW12 _ _ _ _ wF (hcut12 () (hk_32 _ (zt hm (geN hc16)))))
    have hlt16:=ltN hc16;have hw16:=zn hlt16 hl_49;obtain⟨s_5,nx_33,hxs_5,hys_5,hnx_33,hm⟩:=zo hm hlt16;replace hxs_5:=hxs_5 zb;refine Wp.skip ?_;simp only[zq];refine hK16 _ _ (Wp.seqW fun _ hK17 _=>Wp.block ?_);have hA:=And.intro hw16 hxs_5;refine q6 ?_;obtain⟨r_24,hr_24,hm⟩:=zd hm;obtain⟨r_19,hr_19,hm⟩:=zd hm;obtain⟨r_34,hr_34,hm⟩:=zd hm
    refine dS (pl [(0,none),(1,none),(2,none),(3,none),(4,none),(5,none),(6,some []),(7,some []),(8,none),(9,none)]) fun _ hK19=>?_
    refine cD (fun hg=>zfT s_5 _ hr_24) ?_;refine cE [1] (zdH (i_11:Int) s_5.Name o1_0_50 _ hr_19) ?_;refine cD (fun hg=>zdg [r_24,r_19.1] _ hr_34) (hK19 _ _ ?_);refine q6 ?_
    refine cR hm fun hm=>?_
    refine Wp.skip (hK17 _ _ (r6 ?_));exact wN r_19.2 hlt16 (hnx_33 _ hm)
   clear hK11 hk_17;refine qS ?_;refine Wp.block ?_;obtain⟨k_35,hk_35,hm⟩:=zp hm
   refine fL 119 m_1.Settings.length fun hl_51=>?_
   refine Wp.forL (fun i_12 s=>[(1,.ptr 0 0),(4,.fn 58 [.ptr 1 0]),(119,.p (.l (List.map za m_1.Settings))),(120,.p (.i .i64 (m_1.Settings.length:Int))),(121,.p (.i .i64 (i_12:Int)))]) (fun i_12 s=>[.cells 26 [.p (.l (List.map za m_1.Facts)),.p (.l (List.map zc m_1.Files)),.p (.l (List.map za m_1.Settings)),.p (.l (List.map zb m_1.Services))],.cells 9 [.p (.s s)]]) wF hm ?_;clear hm;intro i_12 o1_0_36 hii_12 hm
   try dsimp only at hm⊢
   refine qS ?_
   refine Wp.seqW fun _ hK29 _=>Wp.cond rfl ⟨⟩ (fun hc29=>?_) fun hc29=>Wp.exit (hW11 _ _ _ _ wF (hcut11 o1_0_36 (hk_35 _ (zt hm (geN hc29)))))
   have hlt29:=ltN hc29;have hw29:=zn hlt29 hl_51;obtain⟨s_6,nx_37,hxs_6,hys_6,hnx_37,hm⟩:=zo hm hlt29;replace hxs_6:=hxs_6 za;refine Wp.skip ?_;simp only[zq];refine hK29 _ _ (Wp.seqW fun _ hK30 _=>Wp.block ?_);have hA:=And.intro hw29 hxs_6;refine q6 ?_;obtain⟨r_25,hr_25,hm⟩:=zd hm;obtain⟨r_20,hr_20,hm⟩:=zd hm;obtain⟨r_38,hr_38,hm⟩:=zd hm
   refine dS (pl [(0,none),(1,none),(2,none),(3,none),(4,none),(5,none),(6,some []),(7,some []),(8,none),(9,none)]) fun _ hK32=>?_
   refine cD (fun hg=>zfS s_6 _ hr_25) ?_;refine cE [1] (zdH (i_12:Int) s_6.Key o1_0_36 _ hr_20) ?_;refine cD (fun hg=>zdg [r_25,r_20.1] _ hr_38) (hK32 _ _ ?_);refine q6 ?_
   refine cR hm fun hm=>?_
   refine Wp.skip (hK30 _ _ (r6 ?_));exact wN r_20.2 hlt29 (hnx_37 _ hm)
  clear hK10 hk_16;refine qS ?_;refine Wp.block ?_;obtain⟨k_39,hk_39,hm⟩:=zp hm
  refine fL 73 m_1.Files.length fun hl_52=>?_
  refine Wp.forL (fun i_3 s=>[(1,.ptr 0 0),(4,.fn 58 [.ptr 1 0]),(8,.mp 2),(73,.p (.l (List.map zc m_1.Files))),(74,.p (.i .i64 (m_1.Files.length:Int))),(75,.p (.i .i64 (i_3:Int)))]) (fun i_3 s=>[.cells 26 [.p (.l (List.map za m_1.Facts)),.p (.l (List.map zc m_1.Files)),.p (.l (List.map za m_1.Settings)),.p (.l (List.map zb m_1.Services))],.cells 9 [.p (.s s.1)],.mp false (zx Dt.s ecB s.2)]) wF hm ?_;clear hm;intro i_3 s hii_3 hm;obtain⟨o1_0_40,m2_7⟩:=s
  try dsimp only at hm⊢
  refine qS ?_
  refine Wp.seqW fun _ hK42 _=>Wp.cond rfl ⟨⟩ (fun hc42=>?_) fun hc42=>Wp.exit (hW10 _ _ _ _ wF (hcut10 o1_0_40 (hk_39 _ (zt hm (geN hc42)))))
  have hlt42:=ltN hc42;have hw42:=zn hlt42 hl_52;obtain⟨f_2,nx_41,hxf_2,hyf_2,hnx_41,hm⟩:=zo hm hlt42;replace hxf_2:=hxf_2 zc;refine Wp.skip ?_;simp only[zq];refine hK42 _ _ (Wp.seqW fun K43 hK43 hW43=>?_);obtain⟨k_21,hk_21,hm⟩:=zj hm
  have hcut43:∀s,k_21 s=some z→K43 [(1,.ptr 0 0),(4,.fn 58 [.ptr 1 0]),(8,.mp 2),(73,.p (.l (List.map zc m_1.Files))),(74,.p (.i .i64 (m_1.Files.length:Int))),(75,.p (.i .i64 (i_3:Int)))] [.cells 26 [.p (.l (List.map za m_1.Facts)),.p (.l (List.map zc m_1.Files)),.p (.l (List.map za m_1.Settings)),.p (.l (List.map zb m_1.Services))],.cells 9 [.p (.s s)],.mp false (zx Dt.s ecB (zcy m2_7 f_2.Path true))]:=by
   intro o1_0_53 hs;have hm:=hk_21 _ hs;clear hs
   try dsimp only at hm⊢
   refine hK43 _ _ ?_;have hA:=And.intro hw42 hxf_2;refine r6 ?_;exact wN (o1_0_53,zcy m2_7 f_2.Path true) hlt42 (hnx_41 _ hm)
  clear hK43 hk_21;refine Wp.block ?_;have hA:=And.intro hw42 hxf_2;refine q6 ?_;obtain⟨r_26,hr_26,hm⟩:=zd hm;obtain⟨r_9,hr_9,hm⟩:=zd hm;obtain⟨r_27,hr_27,hm⟩:=zd hm
  refine dS (pl [(0,none),(1,none),(2,none),(3,none),(4,none),(5,none),(6,some []),(7,some []),(8,none),(9,none)]) fun _ hK46=>?_
  refine cD (fun hg=>zh3 f_2 _ hr_26) ?_;refine cE [1] (zdH (i_3:Int) f_2.Path o1_0_40 _ hr_9) ?_;refine cD (fun hg=>zdg [r_26,r_9.1] _ hr_27) (hK46 _ _ ?_)
  refine Wp.seqW fun K50 hK50 hW50=>?_
  obtain⟨k_22,hk_22,hm⟩:=zj hm
  have hcut50:∀s,k_22 s=some z→K50 [(1,.ptr 0 0),(4,.fn 58 [.ptr 1 0]),(8,.mp 2),(10,.ptr 3 0),(11,.p (.i .i64 s)),(73,.p (.l (List.map zc m_1.Files))),(74,.p (.i .i64 (m_1.Files.length:Int))),(75,.p (.i .i64 (i_3:Int)))] [.cells 26 [.p (.l (List.map za m_1.Facts)),.p (.l (List.map zc m_1.Files)),.p (.l (List.map za m_1.Settings)),.p (.l (List.map zb m_1.Services))],.cells 9 [.p (.s r_9.2)],.mp false (zx Dt.s ecB m2_7),.cells 38 [.p (.s f_2.Path),.p (.s f_2.Data),.p (.b f_2.Runs)]]:=by
   intro e_58 hs;have hm:=hk_22 _ hs;clear hs
   try dsimp only at hm⊢
   refine hK50 _ _ (Wp.seqW fun _ hK51 _=>q6 ?_)
   refine cR hm fun hm=>?_
   refine Wp.skip (hK51 _ _ ?_);obtain⟨c_59,hm⟩:=zh hm;have hp_42:=zdI (e:=ecB) zai m2_7 f_2.Path true;simp only[ecB]at hp_42;have hA:=And.intro hw42 (And.intro hxf_2 hp_42);refine r6 ?_;refine hW43 _ _ _ _ ?_ (hcut43 r_9.2 hm);simp only[go_sem,simprocAttr,hA]
   try exact se1
  clear hK50 hk_22;refine q6 ?_
  refine cN hm (fun hm=>?_) fun hm=>?_
  ·refine q6 ?_
   refine Wp.block ?_;obtain⟨k_43,hk_43,hm⟩:=zaA hm;refine Wp.loopN (fun s=>[(1,.ptr 0 0),(4,.fn 58 [.ptr 1 0]),(8,.mp 2),(10,.ptr 3 0),(11,.p (.i .i64 s.1)),(73,.p (.l (List.map zc m_1.Files))),(74,.p (.i .i64 (m_1.Files.length:Int))),(75,.p (.i .i64 (i_3:Int))),(93,.p (.i .i64 (f_2.Path.length:Int))),(94,.p (.i .i64 s.2))]) (fun s=>[.cells 26 [.p (.l (List.map za m_1.Facts)),.p (.l (List.map zc m_1.Files)),.p (.l (List.map za m_1.Settings)),.p (.l (List.map zb m_1.Services))],.cells 9 [.p (.s r_9.2)],.mp false (zx Dt.s ecB m2_7),.cells 38 [.p (.s f_2.Path),.p (.s f_2.Data),.p (.b f_2.Runs)]]) ?_ hm ?_
   ·simp only[go_sem,simprocAttr,hA]
    try exact se1
   clear hm;intro s nx_60 hm;obtain⟨e_44,t94_13⟩:=s
   try dsimp only at hm⊢
   refine q6 ?_
   refine Wp.seqW fun _ hK60 _=>cN hm (fun hm=>?_) fun hm=>?_
   ·refine Wp.skip (hK60 _ _ (Wp.seqW fun _ hK62 _=>Wp.block (q6 ?_)))
    obtain⟨c_10,hbc_10,hxc_10,hm⟩:=zbf hm;replace hxc_10:((f_2.Path.getD t94_13.toNat 0).toNat:Int)=c_10:=hxc_10;obtain⟨c_61,hm⟩:=zh hm;obtain⟨q_62,hq_8,hm⟩:=zZ hm;have hq_8d:=zM (e:=ecB) zai m2_7 (List.take t94_13.toNat f_2.Path) false;have hq_8s:=zL (e:=ecB) zai m2_7 (List.take t94_13.toNat f_2.Path);simp only[hq_8,ecB,List.map_nil]at hq_8d hq_8s;have hA:=And.intro hw42 (And.intro hxf_2 (And.intro hxc_10 (And.intro hq_8d hq_8s)));refine q6 ?_
    refine cN hm (fun hm=>?_) fun hm=>?_
    ·refine r6 ?_
     refine hK62 _ _ (r6 ?_);simp only[zq,zD,↓reduceIte];refine⟨(11,IntKind.i64.wrap (t94_13+1)),hm,?_⟩;simp only[go_sem,simprocAttr,hA]
     try exact se1
    ·refine Wp.skip (hK62 _ _ (r6 ?_))
     simp only[zq,zD,↓reduceIte];refine⟨(e_44,IntKind.i64.wrap (t94_13+1)),hm,?_⟩;simp only[go_sem,simprocAttr,hA]
     try exact se1
   ·refine Wp.exit ?_
    simp only[zq,zD,↓reduceIte];have hm:=hk_43 _ hm
    try dsimp only at hm
    refine hW50 _ _ _ _ ?_ (hcut50 e_44 hm);simp only[go_sem,simprocAttr,hA]
    try exact se1
  ·refine Wp.skip (hW50 _ _ _ _ ?_ (hcut50 r_27 hm))
   simp only[go_sem,simprocAttr,hA]
   try exact se1
 clear hK8 hk_15;refine qS ?_;refine Wp.block ?_;obtain⟨k_45,hk_45,hm⟩:=zp hm
 refine fL 43 m_1.Facts.length fun hl_54=>?_
 refine Wp.forL (fun i_14 s=>[(1,.ptr 0 0),(4,.fn 58 [.ptr 1 0]),(43,.p (.l (List.map za m_1.Facts))),(44,.p (.i .i64 (m_1.Facts.length:Int))),(45,.p (.i .i64 (i_14:Int)))]) (fun i_14 s=>[.cells 26 [.p (.l (List.map za m_1.Facts)),.p (.l (List.map zc m_1.Files)),.p (.l (List.map za m_1.Settings)),.p (.l (List.map zb m_1.Services))],.cells 9 [.p (.s s)]]) wF hm ?_;clear hm;intro i_14 o1_0_46 hii_14 hm
 try dsimp only at hm⊢
 refine qS ?_
 refine Wp.seqW fun _ hK71 _=>Wp.cond rfl ⟨⟩ (fun hc71=>?_) fun hc71=>Wp.exit (hW8 _ _ _ _ wF (hcut8 o1_0_46 (hk_45 _ (zt hm (geN hc71)))))
 have hlt71:=ltN hc71;have hw71:=zn hlt71 hl_54;obtain⟨s_4,nx_47,hxs_4,hys_4,hnx_47,hm⟩:=zo hm hlt71;replace hxs_4:=hxs_4 za;refine Wp.skip ?_;simp only[zq];refine hK71 _ _ (Wp.seqW fun _ hK72 _=>Wp.block ?_);have hA:=And.intro hw71 hxs_4;refine q6 ?_;obtain⟨r_28,hr_28,hm⟩:=zd hm;obtain⟨r_29,hr_29,hm⟩:=zd hm;obtain⟨r_30,hr_30,hm⟩:=zd hm;obtain⟨r_31,hr_31,hm⟩:=zd hm;obtain⟨r_23,hr_23,hm⟩:=zd hm;obtain⟨r_48,hr_48,hm⟩:=zd hm
 refine dS (pl [(0,none),(1,none),(2,none),(3,none),(4,none),(5,none),(6,none),(7,none),(8,none),(9,none),(10,none),(11,none),(12,none),(13,none),(14,some []),(15,some []),(16,none),(17,none)]) fun _ hK74=>?_
 refine cD (fun hg=>zef s_4.Key _ hr_28) ?_;refine cD (fun hg=>zb5 (!r_28) 5 _ hr_29) ?_;refine cD (fun hg=>zg9 s_4.Value _ hr_30) ?_;refine cD (fun hg=>zb5 (!r_30) 2 _ hr_31) ?_;refine cE [1] (zdH (i_14:Int) s_4.Key o1_0_46 _ hr_23) ?_;refine cD (fun hg=>zdg [r_29,r_31,r_23.1] _ hr_48) (hK74 _ _ ?_);refine q6 ?_
 refine cR hm fun hm=>?_
 refine Wp.skip (hK72 _ _ (r6 ?_));exact wN r_23.2 hlt71 (hnx_47 _ hm)
theorem zkC(c_1:Int)(z:Bool)(hm:zeN c_1=some z):Does Tryz.prog 247 [.p (.i .u8 c_1)] [] (fun r X=>r=.p (.b z)∧X=[]):=by
 unfold zeN at hm
 refine dW 0 9 [.tmp 2] Tryz.func247 fun B=>nA fun hA=>?_
 refine qS ?_;exact wQ
theorem zmG(s_1:Str)(most_3:Int)(z:Bool)(hm:zgo s_1 most_3=some z):Does Tryz.prog 129 [.p (.s s_1),.p (.i .i64 most_3),.fn 247 []] [] (fun r X=>r=.p (.b z)∧X=[]):=by
 unfold zgo at hm
 refine dW 0 28 [.tmp 6] Tryz.func129 fun B=>nA fun hA=>?_
 refine qS ?_
 refine Wp.seqW fun K2 hK2 hW2=>?_
 obtain⟨k_4,hk_4,hm⟩:=zj hm
 have hcut2:∀s,k_4 s=some z→K2 [(0,.p (.s s_1)),(1,.p (.i .i64 most_3))] []:=by
  intro s hs;have hm:=hk_4 _ hs;clear hs
  try dsimp only at hm⊢
  exact hK2 _ _ (wQ)
 clear hK2 hk_4;refine qS ?_;refine Wp.block ?_;obtain⟨k_6,hk_6,hm⟩:=zp hm
 refine fL 0 s_1.length fun hl_9=>?_
 refine Wp.forL (fun i_5 s=>[(0,.p (.s s_1)),(1,.p (.i .i64 most_3)),(2,.fn 247 []),(7,.p (.i .i64 (i_5:Int)))]) (fun i_5 s=>[]) wF hm ?_;clear hm;intro i_5 s hii_5 hm
 try dsimp only at hm⊢
 refine Wp.seqW fun _ hK5 _=>qS ?_
 refine Wp.cond rfl ⟨⟩ (fun hc5=>?_) fun hc5=>Wp.exit (hW2 _ _ _ _ wF (hcut2 () (hk_6 _ (zt hm (geN hc5)))))
 have hlt5:=ltN hc5;have hw5:=zn hlt5 hl_9;obtain⟨c_2,nx_7,hxc_2,hyc_2,hnx_7,hm⟩:=zo hm hlt5;clear hxc_2;refine Wp.skip ?_;simp only[zq];refine hK5 _ _ (Wp.seqW fun _ hK7 _=>Wp.block ?_);obtain⟨r_8,hr_8,hm⟩:=zd hm;have hA:=And.intro hw5 hyc_2
 refine rS fun _ hK8=>?_
 refine cX (fun hg=>zkC (c_2.toNat:Int) _ hr_8) (hK8 _ _ ?_)
 refine cR hm fun hm=>?_
 refine Wp.skip (hK7 _ _ (r6 ?_));exact wN () hlt5 (hnx_7 _ hm)
theorem zh1(s_1:Str)(z:Bool)(hm:zd4 s_1=some z):Does Tryz.prog 200 [.p (.s s_1)] [] (fun r X=>r=.p (.b z)∧X=[]):=by
 unfold zd4 at hm
 refine dW 0 9 [.tmp 2] Tryz.func200 fun B=>nA fun hA=>?_
 refine qS ?_;obtain⟨r_2,hr_2,hm⟩:=zI hm
 refine rS fun _ hK2=>?_
 refine cX (g:=!(decide (s_1=[]))) (fun hg=>zmG s_1 1000 _ (hr_2 hg)) (hK2 _ _ ?_);exact wR
theorem zgw(s_1:api_Setting)(z:Int)(hm:zbE s_1=some z):Does Tryz.prog 136 [.agg [.p (.s s_1.Key),.p (.s s_1.Value)],.fn 57 []] [] (fun r X=>r=.p (.i .i64 z)∧X=[]):=by
 unfold zbE at hm
 refine dW 0 14 [.tmp 4] Tryz.func136 fun B=>nA fun hA=>?_
 refine qS ?_
 refine Wp.seqW fun _ hK2 _=>?_
 obtain⟨r_2,hr_2,hm⟩:=zd hm
 refine rS fun _ hK3=>?_
 refine cX (fun hg=>zdz s_1.Key _ hr_2) (hK3 _ _ ?_)
 refine cR hm fun hm=>?_
 refine Wp.skip (hK2 _ _ (Wp.seqW fun _ hK7 _=>?_));obtain⟨r_3,hr_3,hm⟩:=zd hm
 refine rS fun _ hK8=>?_
 refine cX (fun hg=>zh1 s_1.Value _ hr_3) (hK8 _ _ ?_)
 refine cR hm fun hm=>?_
 exact Wp.skip (hK7 _ _ (wQ))
theorem zlN(s_1:api_Setting)(z:Int)(hm:zeF s_1=some z):Does Tryz.prog 135 [.agg [.p (.s s_1.Key),.p (.s s_1.Value)]] [] (fun r X=>r=.p (.i .i64 z)∧X=[]):=by
 unfold zeF at hm
 refine dW 0 5 [.tmp 2] Tryz.func135 fun B=>nA fun hA=>?_
 refine qS ?_;obtain⟨r_2,hr_2,hm⟩:=zd hm
 refine rS fun _ hK2=>?_
 refine cX (fun hg=>zgw s_1 _ hr_2) (hK2 _ _ ?_);exact wR
theorem zeU(s_1:api_Setting)(z:Str)(hm:zdl s_1=some z):Does Tryz.prog 137 [.agg [.p (.s s_1.Key),.p (.s s_1.Value)]] [] (fun r X=>r=.p (.s z)∧X=[]):=by
 unfold zdl at hm
 refine dW 0 5 [.tmp 2] Tryz.func137 fun B=>nA fun hA=>?_
 refine qS ?_;exact wQ
theorem zdW(l_1:List api_Setting)(z:Int)(hm:zaf l_1=some z):Does Tryz.prog 134 [.p (.l (List.map za l_1)),.fn 135 [],.fn 137 []] [] (fun r X=>r=.p (.i .i64 z)∧X=[]):=by
 unfold zaf at hm
 refine dW 0 39 [.tmp 6] Tryz.func134 fun B=>nA fun hA=>?_
 refine qS ?_
 refine Wp.seqW fun K2 hK2 hW2=>?_
 obtain⟨k_4,hk_4,hm⟩:=zj hm
 have hcut2:∀s,k_4 s=some z→K2 [] []:=by
  intro s hs;have hm:=hk_4 _ hs;clear hs
  try dsimp only at hm⊢
  exact hK2 _ _ (wQ)
 clear hK2 hk_4;refine qS ?_;refine Wp.block ?_;obtain⟨k_5,hk_5,hm⟩:=zp hm
 refine fL 0 l_1.length fun hl_11=>?_
 refine Wp.forL (fun i_2 s=>[(0,.p (.l (List.map za l_1))),(1,.fn 135 []),(2,.fn 137 []),(10,.p (.l (List.map za l_1))),(11,.p (.i .i64 (l_1.length:Int))),(12,.p (.i .i64 (i_2:Int)))]) (fun i_2 s=>[]) wF hm ?_;clear hm;intro i_2 s hii_2 hm
 try dsimp only at hm⊢
 refine qS ?_
 refine Wp.seqW fun _ hK6 _=>Wp.cond rfl ⟨⟩ (fun hc6=>?_) fun hc6=>Wp.exit (hW2 _ _ _ _ wF (hcut2 () (hk_5 _ (zt hm (geN hc6)))))
 have hlt6:=ltN hc6;have hw6:=zn hlt6 hl_11;obtain⟨s_3,nx_6,hxs_3,hys_3,hnx_6,hm⟩:=zo hm hlt6;replace hxs_3:=hxs_3 za;refine Wp.skip ?_;simp only[zq];refine hK6 _ _ (Wp.seqW fun _ hK7 _=>Wp.block ?_);have hA:=And.intro hw6 hxs_3;refine q6 ?_
 refine Wp.seqW fun _ hK9 _=>?_
 obtain⟨r_7,hr_7,hm⟩:=zd hm
 refine rS fun _ hK10=>?_
 refine cX (fun hg=>zlN s_3 _ hr_7) (hK10 _ _ ?_);refine q6 ?_
 refine cR hm fun hm=>?_
 refine Wp.skip (hK9 _ _ ?_);obtain⟨r_8,hr_8,hm⟩:=zI hm;obtain⟨c_12,hm⟩:=zh hm;obtain⟨r_9,hr_9,hm⟩:=zI hm;have hr_10:=zdM (l:=l_1) (e:=za) (d:=(api_Setting.mk [] [])) (i:=(IntKind.i64.wrap ((i_2:Int)-1)).toNat);simp only[za,List.map_nil]at hr_10;have hA:=And.intro hw6 (And.intro hxs_3 hr_10)
 refine dS (pl [(0,none),(1,none),(2,none),(3,none),(4,none),(5,none),(6,none),(7,none),(8,none),(9,none),(10,none),(11,none),(12,none),(13,none),(14,none)]) fun _ hK15=>?_
 refine cD (g:=decide (0<(i_2:Int))) (fun hg=>zeU s_3 _ (hr_8 hg)) ?_;refine cD (g:=decide (0<(i_2:Int))) (fun hg=>zeU (api_Setting.mk ((l_1.getD ((IntKind.i64.wrap ((i_2:Int)-1)).toNat) (api_Setting.mk [] [])).Key) ((l_1.getD ((IntKind.i64.wrap ((i_2:Int)-1)).toNat) (api_Setting.mk [] [])).Value)) _ (hr_9 hg)) (hK15 _ _ ?_)
 refine cR hm fun hm=>?_
 refine Wp.skip (hK7 _ _ (r6 ?_));exact wN () hlt6 (hnx_6 _ hm)
theorem zlI(c_1:Int)(z:Bool)(hm:zfs c_1=some z):Does Tryz.prog 248 [.p (.i .u8 c_1)] [] (fun r X=>r=.p (.b z)∧X=[]):=by
 unfold zfs at hm
 refine dW 0 29 [.tmp 2] Tryz.func248 fun B=>nA fun hA=>?_
 refine qS ?_;obtain⟨r_2,hr_2,hm⟩:=zd hm;obtain⟨r_3,hr_3,hm⟩:=zI hm
 refine rS fun _ hK2=>?_
 refine cX (fun hg=>zfD c_1 _ hr_2) ?_;refine cX (g:=!(r_2||((decide (65≤c_1))&&(decide (c_1≤90))))) (fun hg=>zh0 c_1 _ (hr_3 hg)) (hK2 _ _ ?_);exact wR
theorem zmF(s_1:Str)(most_3:Int)(z:Bool)(hm:zgn s_1 most_3=some z):Does Tryz.prog 129 [.p (.s s_1),.p (.i .i64 most_3),.fn 248 []] [] (fun r X=>r=.p (.b z)∧X=[]):=by
 unfold zgn at hm
 refine dW 0 28 [.tmp 6] Tryz.func129 fun B=>nA fun hA=>?_
 refine qS ?_
 refine Wp.seqW fun K2 hK2 hW2=>?_
 obtain⟨k_4,hk_4,hm⟩:=zj hm
 have hcut2:∀s,k_4 s=some z→K2 [(0,.p (.s s_1)),(1,.p (.i .i64 most_3))] []:=by
  intro s hs;have hm:=hk_4 _ hs;clear hs
  try dsimp only at hm⊢
  exact hK2 _ _ (wQ)
 clear hK2 hk_4;refine qS ?_;refine Wp.block ?_;obtain⟨k_6,hk_6,hm⟩:=zp hm
 refine fL 0 s_1.length fun hl_9=>?_
 refine Wp.forL (fun i_5 s=>[(0,.p (.s s_1)),(1,.p (.i .i64 most_3)),(2,.fn 248 []),(7,.p (.i .i64 (i_5:Int)))]) (fun i_5 s=>[]) wF hm ?_;clear hm;intro i_5 s hii_5 hm
 try dsimp only at hm⊢
 refine Wp.seqW fun _ hK5 _=>qS ?_
 refine Wp.cond rfl ⟨⟩ (fun hc5=>?_) fun hc5=>Wp.exit (hW2 _ _ _ _ wF (hcut2 () (hk_6 _ (zt hm (geN hc5)))))
 have hlt5:=ltN hc5;have hw5:=zn hlt5 hl_9;obtain⟨c_2,nx_7,hxc_2,hyc_2,hnx_7,hm⟩:=zo hm hlt5;clear hxc_2;refine Wp.skip ?_;simp only[zq];refine hK5 _ _ (Wp.seqW fun _ hK7 _=>Wp.block ?_);obtain⟨r_8,hr_8,hm⟩:=zd hm;have hA:=And.intro hw5 hyc_2
 refine rS fun _ hK8=>?_
 refine cX (fun hg=>zlI (c_2.toNat:Int) _ hr_8) (hK8 _ _ ?_)
 refine cR hm fun hm=>?_
 refine Wp.skip (hK7 _ _ (r6 ?_));exact wN () hlt5 (hnx_7 _ hm)
theorem zn2(s_1:Str)(z:Bool)(hm:zfL s_1=some z):Does Tryz.prog 201 [.p (.s s_1)] [] (fun r X=>r=.p (.b z)∧X=[]):=by
 unfold zfL at hm
 refine dW 0 15 [.tmp 2] Tryz.func201 fun B=>nA fun hA=>?_
 refine qS ?_;refine qS ?_;obtain⟨r_2,hr_2,hm⟩:=zd hm
 refine rS fun _ hK3=>?_
 refine cX (fun hg=>zmF s_1 40 _ hr_2) (hK3 _ _ ?_);exact wR
end Go.Proofs.YtbofknpajcdnmaaGreatDoor
