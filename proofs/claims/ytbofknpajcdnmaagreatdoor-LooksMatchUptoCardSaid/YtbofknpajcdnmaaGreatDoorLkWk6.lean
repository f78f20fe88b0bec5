/- That the code does what the models say (part 6). -/
import Derived.Test.YtbofknpajcdnmaaGreatDoorLkWk0
import Derived.Test.YtbofknpajcdnmaaGreatDoorLkWk1
import Derived.Test.YtbofknpajcdnmaaGreatDoorLkWk2
import Derived.Test.YtbofknpajcdnmaaGreatDoorLkWk3
import Derived.Test.YtbofknpajcdnmaaGreatDoorLkWk4
import Derived.Test.YtbofknpajcdnmaaGreatDoorLkWk5
set_option linter.unusedSimpArgs false
set_option linter.unusedVariables false
open Go.Proofs Go.Shelf
namespace Go.Proofs.YtbofknpajcdnmaaGreatDoor
open Go.Vc Go.Md
set_option maxRecDepth 100000
set_option maxHeartbeats 4000000
theorem zfX(m_1:api_Machine)(l_4:List api_Change)(z:api_Machine×Int)(hm:zfI m_1 l_4=some z):Does Tryz.prog 73 [.agg [.p (.l (List.map za m_1.Facts)),.p (.l (List.map zc m_1.Files)),.p (.l (List.map za m_1.Settings)),.p (.l (List.map zb m_1.Services))],.p (.l (List.map ze l_4))] [] (fun r X=>r=.tup [.agg [.p (.l (List.map za z.1.Facts)),.p (.l (List.map zc z.1.Files)),.p (.l (List.map za z.1.Settings)),.p (.l (List.map zb z.1.Services))],.p (.i .i64 z.2)]∧X=[]):=by
 unfold zfI at hm
 refine dW 0 35 [.cell 4 26,.tmp 5] Tryz.func73 fun B=>nA fun hA=>?_
 refine qS ?_
 refine Wp.seqW fun _ hK2 _=>?_
 obtain⟨r_8,hr_8,hm⟩:=zd hm
 refine rS fun _ hK3=>?_
 refine cX (fun hg=>zna m_1 _ hr_8) (hK3 _ _ ?_);refine qS ?_
 refine cN hm (fun hm=>?_) fun hm=>?_
 ·refine qS ?_
  refine Wp.ret ?_;simp only[zq,zD];refine zO ?_;cases hm;exact zbD
 ·refine Wp.skip (hK2 _ _ ?_)
  obtain⟨r_2,hr_2,hm⟩:=zd hm
  refine rS fun _ hK8=>?_
  refine cO [] (zbr m_1 _ hr_2) (hK8 _ _ ?_)
  refine Wp.seqW fun K10 hK10 hW10=>?_
  obtain⟨k_6,hk_6,hm⟩:=zj hm
  have hcut10:∀s,k_6 s=some z→K10 [(4,.ptr 1 0),(7,.ptr 6 0)] [.cells 26 [.top,.top,.top,.top],.cells 26 [.nils,.nils,.nils,.nils],.cells 26 [.top,.top,.top,.top],.mp true (zx Dt.s zc s.1),.mp false (zx Dt.s ecS s.2.1),.mp true (zx Dt.s zb s.2.2),.cells 129 [.p (.l (List.map za r_2.2.2.2)),.mp 3,.mp 4,.mp 5]]:=by
   intro s hs;have hm:=hk_6 _ hs;clear hs;obtain⟨m3_15,m4_16,m5_17⟩:=s
   try dsimp only at hm⊢
   refine hK10 _ _ ?_;obtain⟨r_9,hr_9,hm⟩:=zd hm
   refine rS fun _ hK11=>?_
   refine cQ [6,3,4,5] (fun hg=>zaR r_2.2.2.2 m3_15 m4_16 m5_17 _ hr_9) (hK11 _ _ ?_);exact wR
  clear hK10 hk_6;refine qS ?_;refine Wp.block ?_;obtain⟨k_10,hk_10,hm⟩:=zp hm
  refine fL 19 l_4.length fun hl_18=>?_
  refine Wp.forL (fun i_7 s=>[(4,.ptr 1 0),(7,.ptr 6 0),(19,.p (.l (List.map ze l_4))),(20,.p (.i .i64 (l_4.length:Int))),(21,.p (.i .i64 (i_7:Int)))]) (fun i_7 s=>[.cells 26 [.p (.l (List.map za m_1.Facts)),.p (.l (List.map zc m_1.Files)),.p (.l (List.map za m_1.Settings)),.p (.l (List.map zb m_1.Services))],.cells 26 [.nils,.nils,.nils,.nils],.cells 26 [.top,.top,.top,.top],.mp true (zx Dt.s zc s.1),.mp false (zx Dt.s ecS s.2.1),.mp true (zx Dt.s zb s.2.2),.cells 129 [.p (.l (List.map za r_2.2.2.2)),.mp 3,.mp 4,.mp 5]]) wF hm ?_;clear hm;intro i_7 s hii_7 hm;obtain⟨m3_11,m4_12,m5_13⟩:=s
  try dsimp only at hm⊢
  refine qS ?_
  refine Wp.seqW fun _ hK15 _=>Wp.cond rfl ⟨⟩ (fun hc15=>?_) fun hc15=>Wp.exit (hW10 _ _ _ _ wF (hcut10 (m3_11,m4_12,m5_13) (hk_10 _ (zt hm (geN hc15)))))
  have hlt15:=ltN hc15;have hw15:=zn hlt15 hl_18;obtain⟨c_3,nx_14,hxc_3,hyc_3,hnx_14,hm⟩:=zo hm hlt15;replace hxc_3:=hxc_3 ze;refine Wp.skip ?_;simp only[zq];refine hK15 _ _ (Wp.seqW fun _ hK16 _=>Wp.block ?_);have hA:=And.intro hw15 hxc_3;refine q6 ?_;obtain⟨r_5,hr_5,hm⟩:=zd hm
  refine rS fun _ hK18=>?_
  refine cO [6,3,4,5] (zgO c_3 r_2.2.2.2 m3_11 m4_12 m5_13 _ hr_5) (hK18 _ _ ?_);refine q6 ?_
  refine cN hm (fun hm=>?_) fun hm=>?_
  ·refine q6 ?_
   refine Wp.ret ?_;simp only[zq,zD];refine zO ?_;cases hm;simp only[go_sem,simprocAttr,hA]
   try exact se1
  ·refine Wp.skip (hK16 _ _ (r6 ?_))
   exact wN (r_5.2.1,r_5.2.2.1,r_5.2.2.2) hlt15 (hnx_14 _ hm)
theorem ok_Law_fit_3_i1(c_1:api_Change)(o0_0_2:List api_Setting)(z:List api_Setting×List api_File×List api_Setting×List api_Service)(hm:zkz c_1 o0_0_2=some z):Does Tryz.prog 72 [.agg [.p (.i .i64 c_1.Kind),.p (.s c_1.File.Path),.p (.s c_1.File.Data),.p (.b c_1.File.Runs),.p (.s c_1.Setting.Key),.p (.s c_1.Setting.Value),.p (.s c_1.Service.Name),.p (.s c_1.Service.Path),.p (.b c_1.Service.Auto),.p (.b c_1.Service.On)],.ptr 0 0] [.cells 26 [.p (.l (List.map za o0_0_2)),.nils,.nils,.nils]] (fun r X=>r=.tup []∧X=[.cells 26 [.p (.l (List.map za z.1)),.p (.l (List.map zc z.2.1)),.p (.l (List.map za z.2.2.1)),.p (.l (List.map zb z.2.2.2))]]):=by
 unfold zkz at hm
 refine dW 1 15 [] Tryz.func72 fun B=>nA fun hA=>?_
 refine qS ?_;obtain⟨r_3,hr_3,hm⟩:=zd hm
 refine rS fun _ hK2=>?_
 refine cF (zfX (api_Machine.mk o0_0_2 [] [] []) [c_1] _ hr_3) (hK2 _ _ ?_);refine qS ?_
 refine cN hm (fun hm=>?_) fun hm=>?_
 ·refine qR ?_
  refine zcs ?_;cases hm;exact zbD
 ·refine Wp.skip (retQ_normalE ?_)
  cases hm;exact zbD
theorem zfa(c_1:api_Change)(o0_0_2:List api_Setting)(o0_1_3:List api_File)(o0_2_4:List api_Setting)(o0_3_5:List api_Service)(z:List api_Setting×List api_File×List api_Setting×List api_Service)(hm:zbS c_1 o0_0_2 o0_1_3 o0_2_4 o0_3_5=some z):Does Tryz.prog 72 [.agg [.p (.i .i64 c_1.Kind),.p (.s c_1.File.Path),.p (.s c_1.File.Data),.p (.b c_1.File.Runs),.p (.s c_1.Setting.Key),.p (.s c_1.Setting.Value),.p (.s c_1.Service.Name),.p (.s c_1.Service.Path),.p (.b c_1.Service.Auto),.p (.b c_1.Service.On)],.ptr 0 0] [.cells 26 [.p (.l (List.map za o0_0_2)),.p (.l (List.map zc o0_1_3)),.p (.l (List.map za o0_2_4)),.p (.l (List.map zb o0_3_5))]] (fun r X=>r=.tup []∧X=[.cells 26 [.p (.l (List.map za z.1)),.p (.l (List.map zc z.2.1)),.p (.l (List.map za z.2.2.1)),.p (.l (List.map zb z.2.2.2))]]):=by
 unfold zbS at hm
 refine dW 1 15 [] Tryz.func72 fun B=>nA fun hA=>?_
 refine qS ?_;obtain⟨r_6,hr_6,hm⟩:=zd hm
 refine rS fun _ hK2=>?_
 refine cF (zfX (api_Machine.mk o0_0_2 o0_1_3 o0_2_4 o0_3_5) [c_1] _ hr_6) (hK2 _ _ ?_);refine qS ?_
 refine cN hm (fun hm=>?_) fun hm=>?_
 ·refine qR ?_
  refine zcs ?_;cases hm;exact zbD
 ·refine Wp.skip (zcs ?_)
  cases hm;exact zbD
theorem ok_Law_fit(m_1:api_Machine)(z:api_Machine)(hm:zmx m_1=some z):Does Tryz.prog 13 [.agg [.p (.l (List.map za m_1.Facts)),.p (.l (List.map zc m_1.Files)),.p (.l (List.map za m_1.Settings)),.p (.l (List.map zb m_1.Services))]] [] (fun r X=>r=.agg [.p (.l (List.map za z.Facts)),.p (.l (List.map zc z.Files)),.p (.l (List.map za z.Settings)),.p (.l (List.map zb z.Services))]∧X=[]):=by
 unfold zmx at hm
 refine dW 0 110 [.cell 2 26] Tryz.func13 fun B=>nA fun hA=>?_
 refine qS ?_;refine qS ?_
 refine Wp.seqW fun K3 hK3 hW3=>?_
 obtain⟨k_9,hk_9,hm⟩:=zj hm
 have hcut3:∀s,k_9 s=some z→K3 [(1,.ptr 0 0),(2,.ptr 1 0),(3,.ptr 2 0)] [.cells 26 [.p (.l (List.map za m_1.Facts)),.p (.l (List.map zc m_1.Files)),.p (.l (List.map za m_1.Settings)),.p (.l (List.map zb m_1.Services))],.cells 26 [.nils,.nils,.nils,.nils],.cells 26 [.buf 3,.nils,.nils,.nils],.buf 40 2 (List.map za s)]:=by
  intro o3_42 hs;have hm:=hk_9 _ hs;clear hs
  try dsimp only at hm⊢
  refine hK3 _ _ (Wp.toFix 3 (by simp only[go_sem,simprocAttr];exact Is.mk) (by simp only[go_sem,simprocAttr]) ?_);simp only[go_sem,simprocAttr];obtain⟨r_17,hr_17,hm⟩:=zd hm
  refine rS fun _ hK4=>?_
  refine cO [3] (zbd o3_42 _ hr_17) (hK4 _ _ ?_);refine Wp.toBuf 3 (by simp only[go_sem,simprocAttr];exact Is.mk) (by simp only[go_sem,simprocAttr]) ?_;simp only[go_sem,simprocAttr];refine Wp.toFix 3 (by simp only[go_sem,simprocAttr];exact Is.mk) (by simp only[go_sem,simprocAttr]) ?_;simp only[go_sem,simprocAttr];obtain⟨r_21,hr_21,hm⟩:=zd hm
  refine rS fun _ hK6=>?_
  refine cO [3] (zbo r_17 _ hr_21) (hK6 _ _ ?_);refine Wp.toBuf 3 (by simp only[go_sem,simprocAttr];exact Is.mk) (by simp only[go_sem,simprocAttr]) ?_;simp only[go_sem,simprocAttr];refine qS ?_
  refine Wp.seqW fun K9 hK9 hW9=>?_
  obtain⟨k_10,hk_10,hm⟩:=zj hm
  have hcut9:∀s,k_10 s=some z→K9 [(1,.ptr 0 0),(2,.ptr 1 0),(3,.ptr 2 0),(6,.fn 72 [.ptr 2 0])] [.cells 26 [.p (.l (List.map za m_1.Facts)),.p (.l (List.map zc m_1.Files)),.p (.l (List.map za m_1.Settings)),.p (.l (List.map zb m_1.Services))],.cells 26 [.nils,.nils,.nils,.nils],.cells 26 [.p (.l (List.map za s.1)),.p (.l (List.map zc s.2.1)),.p (.l (List.map za s.2.2.1)),.p (.l (List.map zb s.2.2.2))]]:=by
   intro s hs;have hm:=hk_10 _ hs;clear hs;obtain⟨o2_0_47,o2_1_48,o2_2_49,o2_3_50⟩:=s
   try dsimp only at hm⊢
   refine hK9 _ _ (Wp.seqW fun K10 hK10 hW10=>?_);obtain⟨k_11,hk_11,hm⟩:=zj hm
   have hcut10:∀s,k_11 s=some z→K10 [(1,.ptr 0 0),(2,.ptr 1 0),(3,.ptr 2 0),(6,.fn 72 [.ptr 2 0])] [.cells 26 [.p (.l (List.map za m_1.Facts)),.p (.l (List.map zc m_1.Files)),.p (.l (List.map za m_1.Settings)),.p (.l (List.map zb m_1.Services))],.cells 26 [.nils,.nils,.nils,.nils],.cells 26 [.p (.l (List.map za s.1)),.p (.l (List.map zc s.2.1)),.p (.l (List.map za s.2.2.1)),.p (.l (List.map zb s.2.2.2))]]:=by
    intro s hs;have hm:=hk_11 _ hs;clear hs;obtain⟨o2_0_51,o2_1_52,o2_2_53,o2_3_54⟩:=s
    try dsimp only at hm⊢
    refine hK10 _ _ (Wp.seqW fun K11 hK11 hW11=>?_);obtain⟨k_12,hk_12,hm⟩:=zj hm
    have hcut11:∀s,k_12 s=some z→K11 [(2,.ptr 1 0),(3,.ptr 2 0)] [.cells 26 [.top,.top,.top,.top],.cells 26 [.nils,.nils,.nils,.nils],.cells 26 [.p (.l (List.map za s.1)),.p (.l (List.map zc s.2.1)),.p (.l (List.map za s.2.2.1)),.p (.l (List.map zb s.2.2.2))]]:=by
     intro s hs;have hm:=hk_12 _ hs;clear hs;obtain⟨o2_0_55,o2_1_56,o2_2_57,o2_3_58⟩:=s
     try dsimp only at hm⊢
     exact hK11 _ _ (wQ)
    clear hK11 hk_12;obtain⟨c_59,hm⟩:=zh hm;refine q6 ?_;refine Wp.block ?_;obtain⟨k_22,hk_22,hm⟩:=zp hm
    refine fL 98 ((List.take ((min (m_1.Services.length:Int) 40).toNat) m_1.Services).length) fun hl_43=>?_
    refine Wp.forL (fun i_13 s=>[(2,.ptr 1 0),(3,.ptr 2 0),(6,.fn 72 [.ptr 2 0]),(98,.p (.l (List.map zb (List.take ((min (m_1.Services.length:Int) 40).toNat) m_1.Services)))),(99,.p (.i .i64 ((List.take ((min (m_1.Services.length:Int) 40).toNat) m_1.Services).length:Int))),(100,.p (.i .i64 (i_13:Int)))]) (fun i_13 s=>[.cells 26 [.p (.l (List.map za m_1.Facts)),.p (.l (List.map zc m_1.Files)),.p (.l (List.map za m_1.Settings)),.p (.l (List.map zb m_1.Services))],.cells 26 [.nils,.nils,.nils,.nils],.cells 26 [.p (.l (List.map za s.1)),.p (.l (List.map zc s.2.1)),.p (.l (List.map za s.2.2.1)),.p (.l (List.map zb s.2.2.2))]]) wF hm ?_;clear hm;intro i_13 s hii_13 hm;obtain⟨o2_0_23,o2_1_24,o2_2_25,o2_3_26⟩:=s
    try dsimp only at hm⊢
    refine qS ?_
    refine Wp.seqW fun _ hK15 _=>Wp.cond rfl ⟨⟩ (fun hc15=>?_) fun hc15=>Wp.exit (hW11 _ _ _ _ wF (hcut11 (o2_0_23,o2_1_24,o2_2_25,o2_3_26) (hk_22 _ (zt hm (geN hc15)))))
    have hlt15:=ltN hc15;have hw15:=zn hlt15 hl_43;obtain⟨s_4,nx_27,hxs_4,hys_4,hnx_27,hm⟩:=zo hm hlt15;replace hxs_4:=hxs_4 zb;refine Wp.skip ?_;simp only[zq];refine hK15 _ _ (Wp.seqW fun _ hK16 _=>Wp.block ?_);have hA:=And.intro hw15 hxs_4;refine q6 ?_;obtain⟨r_5,hr_5,hm⟩:=zd hm
    refine rE fun _ hK18=>?_
    refine cO [2] (zfa (api_Change.mk 5 (api_File.mk [] [] false) (api_Setting.mk [] []) s_4) o2_0_23 o2_1_24 o2_2_25 o2_3_26 _ hr_5) (hK18 _ _ ?_);refine hK16 _ _ (r6 ?_);exact wN (r_5.1,r_5.2.1,r_5.2.2.1,r_5.2.2.2) hlt15 (hnx_27 _ hm)
   clear hK10 hk_11;obtain⟨c_60,hm⟩:=zh hm;refine q6 ?_;refine Wp.block ?_;obtain⟨k_28,hk_28,hm⟩:=zp hm
   refine fL 81 ((List.take ((min (m_1.Settings.length:Int) 40).toNat) m_1.Settings).length) fun hl_44=>?_
   refine Wp.forL (fun i_14 s=>[(1,.ptr 0 0),(2,.ptr 1 0),(3,.ptr 2 0),(6,.fn 72 [.ptr 2 0]),(81,.p (.l (List.map za (List.take ((min (m_1.Settings.length:Int) 40).toNat) m_1.Settings)))),(82,.p (.i .i64 ((List.take ((min (m_1.Settings.length:Int) 40).toNat) m_1.Settings).length:Int))),(83,.p (.i .i64 (i_14:Int)))]) (fun i_14 s=>[.cells 26 [.p (.l (List.map za m_1.Facts)),.p (.l (List.map zc m_1.Files)),.p (.l (List.map za m_1.Settings)),.p (.l (List.map zb m_1.Services))],.cells 26 [.nils,.nils,.nils,.nils],.cells 26 [.p (.l (List.map za s.1)),.p (.l (List.map zc s.2.1)),.p (.l (List.map za s.2.2.1)),.p (.l (List.map zb s.2.2.2))]]) wF hm ?_;clear hm;intro i_14 s hii_14 hm;obtain⟨o2_0_29,o2_1_30,o2_2_31,o2_3_32⟩:=s
   try dsimp only at hm⊢
   refine qS ?_
   refine Wp.seqW fun _ hK23 _=>Wp.cond rfl ⟨⟩ (fun hc23=>?_) fun hc23=>Wp.exit (hW10 _ _ _ _ wF (hcut10 (o2_0_29,o2_1_30,o2_2_31,o2_3_32) (hk_28 _ (zt hm (geN hc23)))))
   have hlt23:=ltN hc23;have hw23:=zn hlt23 hl_44;obtain⟨s_6,nx_33,hxs_6,hys_6,hnx_33,hm⟩:=zo hm hlt23;replace hxs_6:=hxs_6 za;refine Wp.skip ?_;simp only[zq];refine hK23 _ _ (Wp.seqW fun _ hK24 _=>Wp.block ?_);have hA:=And.intro hw23 hxs_6;refine q6 ?_;obtain⟨r_7,hr_7,hm⟩:=zd hm
   refine rE fun _ hK26=>?_
   refine cO [2] (zfa (api_Change.mk 3 (api_File.mk [] [] false) s_6 (api_Service.mk [] [] false false)) o2_0_29 o2_1_30 o2_2_31 o2_3_32 _ hr_7) (hK26 _ _ ?_);refine hK24 _ _ (r6 ?_);exact wN (r_7.1,r_7.2.1,r_7.2.2.1,r_7.2.2.2) hlt23 (hnx_33 _ hm)
  clear hK9 hk_10;obtain⟨c_61,hm⟩:=zh hm;refine q6 ?_;refine Wp.block (Wp.freeze 3 (by simp only[go_sem,simprocAttr];exact Is.mk) (by first|(simp only[go_sem,simprocAttr];done)|(simp only[go_sem,simprocAttr];omega)) ?_);simp only[go_sem,simprocAttr];obtain⟨k_34,hk_34,hm⟩:=zp hm
  refine fL 56 ((List.take ((min (m_1.Files.length:Int) 40).toNat) m_1.Files).length) fun hl_45=>?_
  refine Wp.forL (fun i_15 s=>[(1,.ptr 0 0),(2,.ptr 1 0),(3,.ptr 2 0),(6,.fn 72 [.ptr 2 0]),(56,.p (.l (List.map zc (List.take ((min (m_1.Files.length:Int) 40).toNat) m_1.Files)))),(57,.p (.i .i64 ((List.take ((min (m_1.Files.length:Int) 40).toNat) m_1.Files).length:Int))),(58,.p (.i .i64 (i_15:Int)))]) (fun i_15 s=>[.cells 26 [.p (.l (List.map za m_1.Facts)),.p (.l (List.map zc m_1.Files)),.p (.l (List.map za m_1.Settings)),.p (.l (List.map zb m_1.Services))],.cells 26 [.nils,.nils,.nils,.nils],.cells 26 [.p (.l (List.map za s.1)),.p (.l (List.map zc s.2.1)),.p (.l (List.map za s.2.2.1)),.p (.l (List.map zb s.2.2.2))],.gone]) wF hm ?_;clear hm;intro i_15 s hii_15 hm;obtain⟨o2_0_35,o2_1_36,o2_2_37,o2_3_38⟩:=s
  try dsimp only at hm⊢
  refine qS ?_
  refine Wp.seqW fun _ hK31 _=>Wp.cond rfl ⟨⟩ (fun hc31=>?_) fun hc31=>Wp.exit (hW9 _ _ _ _ wF (hcut9 (o2_0_35,o2_1_36,o2_2_37,o2_3_38) (hk_34 _ (zt hm (geN hc31)))))
  have hlt31:=ltN hc31;have hw31:=zn hlt31 hl_45;obtain⟨f_2,nx_39,hxf_2,hyf_2,hnx_39,hm⟩:=zo hm hlt31;replace hxf_2:=hxf_2 zc;refine Wp.skip ?_;simp only[zq];refine hK31 _ _ (Wp.seqW fun _ hK32 _=>Wp.block ?_);have hA:=And.intro hw31 hxf_2;refine q6 ?_;obtain⟨c_62,hm⟩:=zh hm;refine q6 ?_;obtain⟨r_8,hr_8,hm⟩:=zd hm
  refine rE fun _ hK35=>?_
  refine cO [2] (zfa (api_Change.mk 1 (api_File.mk f_2.Path (List.take ((min (f_2.Data.length:Int) 3000).toNat) f_2.Data) f_2.Runs) (api_Setting.mk [] []) (api_Service.mk [] [] false false)) o2_0_35 o2_1_36 o2_2_37 o2_3_38 _ hr_8) (hK35 _ _ ?_);refine hK32 _ _ (r6 ?_);exact wN (r_8.1,r_8.2.1,r_8.2.2.1,r_8.2.2.2) hlt31 (hnx_39 _ hm)
 clear hK3 hk_9;refine qS ?_;refine Wp.block (Wp.adoptO 2 0 40 2 rfl rfl ?_);simp only[go_sem,simprocAttr];obtain⟨k_40,hk_40,hm⟩:=zp hm
 refine fL 15 m_1.Facts.length fun hl_46=>?_
 refine Wp.forL (fun i_16 s=>[(1,.ptr 0 0),(2,.ptr 1 0),(3,.ptr 2 0),(15,.p (.l (List.map za m_1.Facts))),(16,.p (.i .i64 (m_1.Facts.length:Int))),(17,.p (.i .i64 (i_16:Int)))]) (fun i_16 s=>[.cells 26 [.p (.l (List.map za m_1.Facts)),.p (.l (List.map zc m_1.Files)),.p (.l (List.map za m_1.Settings)),.p (.l (List.map zb m_1.Services))],.cells 26 [.nils,.nils,.nils,.nils],.cells 26 [.buf 3,.nils,.nils,.nils],.buf 40 2 (List.map za s)]) wF hm ?_;clear hm;intro i_16 o3_18 hii_16 hm
 try dsimp only at hm⊢
 refine qS ?_
 refine Wp.seqW fun _ hK40 _=>Wp.cond rfl ⟨⟩ (fun hc40=>?_) fun hc40=>Wp.exit (hW3 _ _ _ _ wF (hcut3 o3_18 (hk_40 _ (zt hm (geN hc40)))))
 have hlt40:=ltN hc40;have hw40:=zn hlt40 hl_46;obtain⟨s_3,nx_19,hxs_3,hys_3,hnx_19,hm⟩:=zo hm hlt40;replace hxs_3:=hxs_3 za;refine Wp.skip ?_;simp only[zq];refine hK40 _ _ (Wp.seqW fun _ hK41 _=>Wp.block ?_);have hA:=And.intro hw40 hxs_3;refine q6 ?_;obtain⟨r_20,hr_20,hm⟩:=zd hm;obtain⟨r_41,hr_41,hm⟩:=zI hm
 refine rS fun _ hK43=>?_
 refine cX (fun hg=>zef s_3.Key _ hr_20) ?_;refine cX (g:=r_20) (fun hg=>zg9 s_3.Value _ (hr_41 hg)) (hK43 _ _ ?_)
 refine cN hm (fun hm=>?_) fun hm=>?_
 ·obtain⟨c_63,hm⟩:=zh hm
  refine r6 ?_;refine hK41 _ _ (r6 ?_);exact wN (o3_18++[s_3]) hlt40 (hnx_19 _ hm)
 ·refine Wp.skip (hK41 _ _ (r6 ?_))
  exact wN o3_18 hlt40 (hnx_19 _ hm)
theorem ok_R_NewDisk(m_1:api_Machine)(z:List api_Setting×List api_File×List api_Setting×List api_Service×(List (Str×api_File))×(List (Str×Str))×(List (Str×api_Service))×List api_Setting×Bool×Int×Bool×Bool×Int)(hm:zhq m_1=some z):Does Tryz.prog 14 [.agg [.p (.l (List.map za m_1.Facts)),.p (.l (List.map zc m_1.Files)),.p (.l (List.map za m_1.Settings)),.p (.l (List.map zb m_1.Services))]] [] (fun r X=>r=.ptr 6 0∧X=[.cells 26 [.p (.l (List.map za z.1)),.p (.l (List.map zc z.2.1)),.p (.l (List.map za z.2.2.1)),.p (.l (List.map zb z.2.2.2.1))],.cells 26 [.top,.top,.top,.top],.mp true (zx Dt.s zc z.2.2.2.2.1),.mp false (zx Dt.s ecS z.2.2.2.2.2.1),.mp true (zx Dt.s zb z.2.2.2.2.2.2.1),.cells 129 [.p (.l (List.map za z.2.2.2.2.2.2.2.1)),.mp 2,.mp 3,.mp 4],.cells 124 [.ptr 5 0,.p (.b z.2.2.2.2.2.2.2.2.1),.p (.i .i64 z.2.2.2.2.2.2.2.2.2.1),.p (.b z.2.2.2.2.2.2.2.2.2.2.1),.p (.b z.2.2.2.2.2.2.2.2.2.2.2.1),.p (.i .i64 z.2.2.2.2.2.2.2.2.2.2.2.2)]]):=by
 unfold zhq at hm
 refine dW 7 7 [.tmp 2] Tryz.func14 fun B=>nA fun hA=>?_
 refine qS ?_;obtain⟨r_2,hr_2,hm⟩:=zd hm
 refine rS fun _ hK2=>?_
 refine cO [] (zbr m_1 _ hr_2) (hK2 _ _ ?_);exact wR
theorem ziq(c_1:api_Change)(z:Int)(hm:zb9 c_1=some z):Does Tryz.prog 150 [.agg [.p (.i .i64 c_1.Kind),.p (.s c_1.File.Path),.p (.s c_1.File.Data),.p (.b c_1.File.Runs),.p (.s c_1.Setting.Key),.p (.s c_1.Setting.Value),.p (.s c_1.Service.Name),.p (.s c_1.Service.Path),.p (.b c_1.Service.Auto),.p (.b c_1.Service.On)]] [] (fun r X=>r=.p (.i .i64 z)∧X=[]):=by
 unfold zb9 at hm
 refine dW 0 78 [.tmp 2] Tryz.func150 fun B=>nA fun hA=>?_
 refine qS ?_;refine qS ?_;refine qS ?_
 refine Wp.seqW fun K4 hK4 hW4=>?_
 obtain⟨k_2,hk_2,hm⟩:=zj hm
 have hcut4:∀s,k_2 s=some z→K4 [(1,.ptr 0 0),(3,.ptr 1 0),(4,.p (.i .i64 s.1))] [.cells 44 [.p (.i .i64 c_1.Kind),.p (.s c_1.File.Path),.p (.s c_1.File.Data),.p (.b c_1.File.Runs),.p (.s c_1.Setting.Key),.p (.s c_1.Setting.Value),.p (.s c_1.Service.Name),.p (.s c_1.Service.Path),.p (.b c_1.Service.Auto),.p (.b c_1.Service.On)],.cells 44 [.p (.i .i64 0),.p (.s s.2.1),.p (.s s.2.2.1),.p (.b s.2.2.2.1),.p (.s s.2.2.2.2.1),.p (.s s.2.2.2.2.2.1),.p (.s s.2.2.2.2.2.2.1),.p (.s s.2.2.2.2.2.2.2.1),.p (.b s.2.2.2.2.2.2.2.2.1),.p (.b s.2.2.2.2.2.2.2.2.2)]]:=by
  intro s hs;have hm:=hk_2 _ hs;clear hs;obtain⟨e_9,o1_1_10,o1_2_11,o1_3_12,o1_4_13,o1_5_14,o1_6_15,o1_7_16,o1_8_17,o1_9_18⟩:=s
  try dsimp only at hm⊢
  refine hK4 _ _ (qS ?_)
  refine Wp.seqW fun _ hK6 _=>qS ?_
  refine cR hm fun hm=>?_
  exact Wp.skip (hK6 _ _ (wQ))
 clear hK4 hk_2;refine qS ?_;refine Wp.block (qS ?_)
 refine cN hm (fun hm=>?_) fun hm=>?_
 ·obtain⟨r_3,hr_3,hm⟩:=zd hm
  refine dE (pl [(0,none),(1,none),(2,none),(3,none),(4,none),(5,none),(6,some []),(7,none)]) fun _ hK14=>?_
  refine cD (fun hg=>zee c_1.File _ hr_3) (hK14 _ _ ?_);refine hW4 _ _ _ _ ?_ (hcut4 (r_3,c_1.File.Path,c_1.File.Data,c_1.File.Runs,[],[],[],[],false,false) hm);exact zbD
 ·refine qS ?_
  refine cN hm (fun hm=>?_) fun hm=>?_
  ·obtain⟨r_4,hr_4,hm⟩:=zd hm
   refine dE (pl [(0,none),(1,none),(2,none),(3,none),(4,none),(5,none),(6,none),(7,none),(8,none),(9,none),(10,some []),(11,none)]) fun _ hK18=>?_
   refine cD (fun hg=>zee (api_File.mk c_1.File.Path [] false) _ hr_4) (hK18 _ _ ?_);refine hW4 _ _ _ _ ?_ (hcut4 (r_4,c_1.File.Path,[],false,[],[],[],[],false,false) hm);exact zbD
  ·refine qS ?_
   refine cN hm (fun hm=>?_) fun hm=>?_
   ·obtain⟨r_5,hr_5,hm⟩:=zd hm
    refine dE (pl [(0,none),(1,none),(2,none),(3,none),(4,none),(5,none),(6,some []),(7,none)]) fun _ hK22=>?_
    refine cD (fun hg=>zbV c_1.Setting _ hr_5) (hK22 _ _ ?_);refine hW4 _ _ _ _ ?_ (hcut4 (r_5,[],[],false,c_1.Setting.Key,c_1.Setting.Value,[],[],false,false) hm);exact zbD
   ·refine qS ?_
    refine cN hm (fun hm=>?_) fun hm=>?_
    ·obtain⟨r_6,hr_6,hm⟩:=zd hm
     refine dE (pl [(0,none),(1,none),(2,none),(3,none),(4,none),(5,none),(6,none),(7,none),(8,none),(9,none),(10,some []),(11,none)]) fun _ hK26=>?_
     refine cD (fun hg=>zbV (api_Setting.mk c_1.Setting.Key []) _ hr_6) (hK26 _ _ ?_);refine hW4 _ _ _ _ ?_ (hcut4 (r_6,[],[],false,c_1.Setting.Key,[],[],[],false,false) hm);exact zbD
    ·refine qS ?_
     refine cN hm (fun hm=>?_) fun hm=>?_
     ·obtain⟨r_7,hr_7,hm⟩:=zd hm
      refine dE (pl [(0,none),(1,none),(2,none),(3,none),(4,none),(5,none),(6,some []),(7,none)]) fun _ hK30=>?_
      refine cD (fun hg=>zeM c_1.Service _ hr_7) (hK30 _ _ ?_);refine hW4 _ _ _ _ ?_ (hcut4 (r_7,[],[],false,[],[],c_1.Service.Name,c_1.Service.Path,c_1.Service.Auto,c_1.Service.On) hm);exact zbD
     ·refine qS ?_
      refine cT hm fun hm=>?_
      refine qS ?_;obtain⟨r_8,hr_8,hm⟩:=zd hm
      refine rS fun _ hK35=>?_
      refine cX (fun hg=>zdz c_1.Service.Name _ hr_8) (hK35 _ _ ?_)
      refine cN hm (fun hm=>?_) fun hm=>?_
      ·refine qR ?_
       refine hW4 _ _ _ _ ?_ (hcut4 (5,[],[],false,[],[],c_1.Service.Name,[],false,false) hm);exact zbD
      ·refine Wp.skip (hW4 _ _ _ _ ?_ (hcut4 (0,[],[],false,[],[],c_1.Service.Name,[],false,false) hm))
       exact zbD
theorem zlO(c_1:api_Change)(o0_1_9:Bool)(o0_2_10:Int)(o0_3_6:Bool)(o0_4_11:Bool)(o0_5_12:Int)(o1_0_2:List api_Setting)(m2_3:List (Str×api_File))(m3_4:List (Str×Str))(m4_5:List (Str×api_Service))(z:Int×Bool×Bool×Int×Int×List api_Setting×(List (Str×api_File))×(List (Str×Str))×(List (Str×api_Service)))(hm:zdp c_1 o0_1_9 o0_2_10 o0_3_6 o0_4_11 o0_5_12 o1_0_2 m2_3 m3_4 m4_5=some z):DoesC Tryz.prog 16 [.ptr 0 0,.agg [.p (.i .i64 c_1.Kind),.p (.s c_1.File.Path),.p (.s c_1.File.Data),.p (.b c_1.File.Runs),.p (.s c_1.Setting.Key),.p (.s c_1.Setting.Value),.p (.s c_1.Service.Name),.p (.s c_1.Service.Path),.p (.b c_1.Service.Auto),.p (.b c_1.Service.On)]] [.cells 124 [.ptr 1 0,.p (.b o0_1_9),.p (.i .i64 o0_2_10),.p (.b o0_3_6),.p (.b o0_4_11),.p (.i .i64 o0_5_12)],.cells 129 [.p (.l (List.map za o1_0_2)),.mp 2,.mp 3,.mp 4],.mp true (zx Dt.s zc m2_3),.mp false (zx Dt.s ecS m3_4),.mp true (zx Dt.s zb m4_5)] [1,2,3,4] (fun r X=>r=.p (.i .i64 z.1)∧X=[.cells 124 [.ptr 1 0,.p (.b z.2.1),.p (.i .i64 z.2.2.2.2.1),.p (.b o0_3_6),.p (.b z.2.2.1),.p (.i .i64 z.2.2.2.1)],.cells 129 [.p (.l (List.map za z.2.2.2.2.2.1)),.mp 2,.mp 3,.mp 4],.mp true (zx Dt.s zc z.2.2.2.2.2.2.1),.mp false (zx Dt.s ecS z.2.2.2.2.2.2.2.1),.mp true (zx Dt.s zb z.2.2.2.2.2.2.2.2)]):=by
 unfold zdp at hm
 refine DoesC.of_wp [1,2,3,4] 5 98 [.tmp 4] Tryz.func16 rfl (by decide) rfl rfl (Nat.le_of_ble_eq_true rfl) fun B=>?_
 refine qS ?_
 refine Wp.seqW fun K2 hK2 hW2=>?_
 refine qS ?_;refine cM hm (fun hc4 hm=>?_) (fun hc4 hm=>?_)
 ·refine qS ?_
  refine Wp.ret ?_;refine zc3 ?_;cases hm;exact zbD
 ·refine Wp.skip ?_
  refine hK2 _ _ ?_;obtain⟨r_7,hr_7,hm⟩:=zd hm
  refine Wp.seqR fun K6 hK6=>?_
  simp only[go_sem,simprocAttr]
  try refine⟨sd,?_⟩
  refine Rg.callR (av:=?av7) (g:=true) [1,2,3,4] (fun hg=>zaR o1_0_2 m2_3 m3_4 m4_5 _ hr_7) si si si si sg sg sg ?cont7;simp only[go_sem,simprocAttr];refine kA hK6 ?_;obtain⟨r_13,hr_13,hm⟩:=zd hm
  refine Wp.seqD (plan:=pl [(0,none),(1,none),(2,none),(3,none),(4,none),(5,some []),(6,none)]) (by kernel_rfl) rfl (by kernel_rfl) fun K8 hK8=>?_
  simp only[go_sem,simprocAttr]
  try refine⟨sd,?_⟩
  refine Dr.of_br (Br.callE (av:=?av9) (o:=?o9) [1,2,3,4] (zgO c_1 o1_0_2 m2_3 m3_4 m4_5 _ hr_13) si si si si si sg sg sg sg ?cont9);simp only[go_sem,simprocAttr];refine kA hK8 ?_
  refine Wp.seqW fun K10 hK10 hW10=>?_
  refine qS ?_;refine cM hm (fun hc12 hm=>?_) (fun hc12 hm=>?_)
  ·refine qS ?_
   refine Wp.ret ?_;refine zc3 ?_;cases hm;exact zbD
  ·refine Wp.skip ?_
   refine hK10 _ _ ?_
   refine Wp.seqW fun K14 hK14 hW14=>?_
   refine qS ?_;refine cM hm (fun hc16 hm=>?_) (fun hc16 hm=>?_)
   ·obtain⟨r_8,hr_8,hm⟩:=zd hm
    refine Wp.seqR fun K17 hK17=>?_
    simp only[go_sem,simprocAttr]
    try refine⟨sd,?_⟩
    refine Rg.callO (av:=?av18) [] (zbr r_7 _ hr_8) si si si sg sg ?cont18;rintro _ _ ⟨rfl,rfl⟩ hv18;simp only[go_sem,simprocAttr];refine kA hK17 ?_
    refine Wp.seqW fun K19 hK19 hW19=>?_
    refine qS ?_;refine cM hm (fun hc21 hm=>?_) (fun hc21 hm=>?_)
    ·refine qS ?_
     obtain⟨c_15,hm⟩:=zh hm;obtain⟨c_16,hm⟩:=zh hm
     refine Wp.seqR fun K23 hK23=>?_
     simp only[go_sem,simprocAttr];refine kA hK23 ?_;obtain⟨c_17,hm⟩:=zh hm;have hp_14:=zdI (e:=zc) zai r_8.1 c_1.File.Path (api_File.mk c_1.File.Path (List.take ((IntKind.i64.wrap (Int.tdiv (c_1.File.Data.length:Int) 2)).toNat) c_1.File.Data) c_1.File.Runs);simp only[zc]at hp_14
     refine Wp.seqD (plan:=pl [(0,none),(1,none),(2,none),(3,none),(4,none),(5,none),(6,none),(7,none),(8,none),(9,none),(10,some [])]) (by kernel_rfl) rfl (by kernel_rfl) fun K24 hK24=>?_
     simp only[go_sem,simprocAttr,hp_14];refine kA hK24 ?_;refine qR ?_;refine hK19 _ _ ?_;refine qS ?_;refine Wp.repl 1 11 rfl rfl (by decide) (by exact Nat.le_of_ble_eq_true rfl) (by exact Nat.le_of_ble_eq_true rfl) ?_;simp only[go_sem,simprocAttr];refine Wp.repl 2 8 rfl rfl (by decide) (by exact Nat.le_of_ble_eq_true rfl) (by exact Nat.le_of_ble_eq_true rfl) ?_;simp only[go_sem,simprocAttr];refine Wp.repl 3 9 rfl rfl (by decide) (by exact Nat.le_of_ble_eq_true rfl) (by exact Nat.le_of_ble_eq_true rfl) ?_;simp only[go_sem,simprocAttr];refine Wp.repl 4 10 rfl rfl (by decide) (by exact Nat.le_of_ble_eq_true rfl) (by exact Nat.le_of_ble_eq_true rfl) ?_;simp only[go_sem,simprocAttr];refine Wp.ret ?_;refine zc3 ?_;cases hm;exact zbD
    ·refine Wp.skip ?_
     refine hK19 _ _ ?_;refine qS ?_;refine Wp.repl 1 11 rfl rfl (by decide) (by exact Nat.le_of_ble_eq_true rfl) (by exact Nat.le_of_ble_eq_true rfl) ?_;simp only[go_sem,simprocAttr];refine Wp.repl 2 8 rfl rfl (by decide) (by exact Nat.le_of_ble_eq_true rfl) (by exact Nat.le_of_ble_eq_true rfl) ?_;simp only[go_sem,simprocAttr];refine Wp.repl 3 9 rfl rfl (by decide) (by exact Nat.le_of_ble_eq_true rfl) (by exact Nat.le_of_ble_eq_true rfl) ?_;simp only[go_sem,simprocAttr];refine Wp.repl 4 10 rfl rfl (by decide) (by exact Nat.le_of_ble_eq_true rfl) (by exact Nat.le_of_ble_eq_true rfl) ?_;simp only[go_sem,simprocAttr];refine Wp.ret ?_;refine zc3 ?_;cases hm;exact zbD
   ·refine Wp.skip ?_
    refine hK14 _ _ ?_;refine qS ?_;refine qS ?_;refine qS ?_;refine Wp.ret ?_;refine zc3 ?_;cases hm;exact zbD
theorem zkI(after_7:Int)(torn_8:Bool)(o0_1_1:Bool)(o0_2_9:Int)(o0_3_10:Bool)(o0_4_11:Bool)(o0_5_2:Int)(o1_0_3:List api_Setting)(m2_4:List (Str×api_File))(m3_5:List (Str×Str))(m4_6:List (Str×api_Service))(z:Int×Int×Bool×Bool)(hm:zdT after_7 torn_8 o0_1_1 o0_2_9 o0_3_10 o0_4_11 o0_5_2 o1_0_3 m2_4 m3_5 m4_6=some z):Does Tryz.prog 18 [.ptr 0 0,.p (.i .i64 after_7),.p (.b torn_8)] [.cells 124 [.ptr 1 0,.p (.b o0_1_1),.p (.i .i64 o0_2_9),.p (.b o0_3_10),.p (.b o0_4_11),.p (.i .i64 o0_5_2)],.cells 129 [.p (.l (List.map za o1_0_3)),.mp 2,.mp 3,.mp 4],.mp true (zx Dt.s zc m2_4),.mp false (zx Dt.s ecS m3_5),.mp true (zx Dt.s zb m4_6)] (fun r X=>r=.p (.i .i64 z.1)∧X=[.cells 124 [.ptr 1 0,.p (.b o0_1_1),.p (.i .i64 z.2.1),.p (.b z.2.2.1),.p (.b z.2.2.2),.p (.i .i64 o0_5_2)],.cells 129 [.p (.l (List.map za o1_0_3)),.mp 2,.mp 3,.mp 4],.mp true (zx Dt.s zc m2_4),.mp false (zx Dt.s ecS m3_5),.mp true (zx Dt.s zb m4_6)]):=by
 unfold zdT at hm
 refine dW 5 30 [.tmp 6] Tryz.func18 fun B=>nA fun hA=>?_
 refine qS ?_
 refine Wp.seqW fun _ hK2 _=>Wp.block (qS ?_)
 refine cR hm fun hm=>?_
 refine qS ?_
 refine cR hm fun hm=>?_
 refine Wp.skip (hK2 _ _ (qS ?_));exact wQ
theorem zhS(o0_1_5:Bool)(o0_2_6:Int)(o0_3_7:Bool)(o0_4_8:Bool)(o0_5_9:Int)(o1_0_1:List api_Setting)(m2_2:List (Str×api_File))(m3_3:List (Str×Str))(m4_4:List (Str×api_Service))(z:api_Machine×Int)(hm:zbQ o0_1_5 o0_2_6 o0_3_7 o0_4_8 o0_5_9 o1_0_1 m2_2 m3_3 m4_4=some z):Does Tryz.prog 22 [.ptr 0 0] [.cells 124 [.ptr 1 0,.p (.b o0_1_5),.p (.i .i64 o0_2_6),.p (.b o0_3_7),.p (.b o0_4_8),.p (.i .i64 o0_5_9)],.cells 129 [.p (.l (List.map za o1_0_1)),.mp 2,.mp 3,.mp 4],.mp true (zx Dt.s zc m2_2),.mp false (zx Dt.s ecS m3_3),.mp true (zx Dt.s zb m4_4)] (fun r X=>r=.tup [.agg [.p (.l (List.map za z.1.Facts)),.p (.l (List.map zc z.1.Files)),.p (.l (List.map za z.1.Settings)),.p (.l (List.map zb z.1.Services))],.p (.i .i64 z.2)]∧X=[.cells 124 [.ptr 1 0,.p (.b o0_1_5),.p (.i .i64 o0_2_6),.p (.b o0_3_7),.p (.b o0_4_8),.p (.i .i64 o0_5_9)],.cells 129 [.p (.l (List.map za o1_0_1)),.mp 2,.mp 3,.mp 4],.mp true (zx Dt.s zc m2_2),.mp false (zx Dt.s ecS m3_3),.mp true (zx Dt.s zb m4_4)]):=by
 unfold zbQ at hm
 refine dW 5 14 [.cell 2 26,.tmp 3] Tryz.func22 fun B=>nA fun hA=>?_
 refine qS ?_
 refine Wp.seqW fun _ hK2 _=>qS ?_
 refine cN hm (fun hm=>?_) fun hm=>?_
 ·refine qS ?_
  refine Wp.ret ?_;simp only[zq,zD];refine zO ?_;cases hm;exact zbD
 ·refine Wp.skip (hK2 _ _ ?_)
  obtain⟨r_10,hr_10,hm⟩:=zd hm
  refine rS fun _ hK6=>?_
  refine cQ [1,2,3,4] (fun hg=>zaR o1_0_1 m2_2 m3_3 m4_4 _ hr_10) (hK6 _ _ ?_);exact wR
theorem zjY(o0_1_5:Bool)(o0_2_6:Int)(o0_3_7:Bool)(o0_4_8:Bool)(o0_5_9:Int)(o1_0_1:List api_Setting)(m2_2:List (Str×api_File))(m3_3:List (Str×Str))(m4_4:List (Str×api_Service))(z:api_Machine)(hm:zc2 o0_1_5 o0_2_6 o0_3_7 o0_4_8 o0_5_9 o1_0_1 m2_2 m3_3 m4_4=some z):Does Tryz.prog 25 [.ptr 0 0] [.cells 124 [.ptr 1 0,.p (.b o0_1_5),.p (.i .i64 o0_2_6),.p (.b o0_3_7),.p (.b o0_4_8),.p (.i .i64 o0_5_9)],.cells 129 [.p (.l (List.map za o1_0_1)),.mp 2,.mp 3,.mp 4],.mp true (zx Dt.s zc m2_2),.mp false (zx Dt.s ecS m3_3),.mp true (zx Dt.s zb m4_4)] (fun r X=>r=.agg [.p (.l (List.map za z.Facts)),.p (.l (List.map zc z.Files)),.p (.l (List.map za z.Settings)),.p (.l (List.map zb z.Services))]∧X=[.cells 124 [.ptr 1 0,.p (.b o0_1_5),.p (.i .i64 o0_2_6),.p (.b o0_3_7),.p (.b o0_4_8),.p (.i .i64 o0_5_9)],.cells 129 [.p (.l (List.map za o1_0_1)),.mp 2,.mp 3,.mp 4],.mp true (zx Dt.s zc m2_2),.mp false (zx Dt.s ecS m3_3),.mp true (zx Dt.s zb m4_4)]):=by
 unfold zc2 at hm
 refine dW 5 8 [.cell 2 26] Tryz.func25 fun B=>nA fun hA=>?_
 refine qS ?_;obtain⟨r_10,hr_10,hm⟩:=zd hm
 refine rS fun _ hK2=>?_
 refine cQ [1,2,3,4] (fun hg=>zaR o1_0_1 m2_2 m3_3 m4_4 _ hr_10) (hK2 _ _ ?_);exact wR
end Go.Proofs.YtbofknpajcdnmaaGreatDoor
