/- That the code does what the models say (part 14). -/
import Derived.Test.YtbofknpajcdnmaaGreatDoorLkWk0
import Derived.Test.YtbofknpajcdnmaaGreatDoorLkWk1
import Derived.Test.YtbofknpajcdnmaaGreatDoorLkWk3
import Derived.Test.YtbofknpajcdnmaaGreatDoorLkWk4
import Derived.Test.YtbofknpajcdnmaaGreatDoorLkWk6
import Derived.Test.YtbofknpajcdnmaaGreatDoorLkWk7
import Derived.Test.YtbofknpajcdnmaaGreatDoorLkWk9
import Derived.Test.YtbofknpajcdnmaaGreatDoorLkWk12
import Derived.Test.YtbofknpajcdnmaaGreatDoorLkWk13
set_option linter.unusedSimpArgs false
set_option linter.unusedVariables false
open Go.Proofs Go.Shelf
namespace Go.Proofs.YtbofknpajcdnmaaGreatDoor
open Go.Vc Go.Md
set_option maxRecDepth 100000
set_option maxHeartbeats 4000000
theorem ok_R_Writes(m_1:api_Machine)(id_6:Str)(l_5:List api_Change)(z:List api_Change×Int)(hm:zjz m_1 id_6 l_5=some z):Does Tryz.prog 35 [.agg [.p (.l (List.map za m_1.Facts)),.p (.l (List.map zc m_1.Files)),.p (.l (List.map za m_1.Settings)),.p (.l (List.map zb m_1.Services))],.p (.s id_6),.p (.l (List.map ze l_5))] [] (fun r X=>r=.tup [.p (.l (List.map ze z.1)),.p (.i .i64 z.2)]∧X=[]):=by
 unfold zjz at hm
 refine dW 0 111 [.tmp 6,.tmp 7] Tryz.func35 fun B=>nA fun hA=>?_
 refine qS ?_
 refine Wp.seqW fun _ hK2 _=>?_
 obtain⟨r_15,hr_15,hm⟩:=zd hm
 refine rS fun _ hK3=>?_
 refine cX (fun hg=>zdG m_1 l_5 _ hr_15) (hK3 _ _ ?_);refine qS ?_
 refine cN hm (fun hm=>?_) fun hm=>?_
 ·refine qS ?_
  refine Wp.ret ?_;simp only[zq,zD];refine zO ?_;cases hm;exact zf5
 ·refine Wp.skip (hK2 _ _ ?_)
  obtain⟨r_2,hr_2,hm⟩:=zd hm
  refine rS fun _ hK8=>?_
  refine cO [] (zbr m_1 _ hr_2) (hK8 _ _ ?_);obtain⟨q_19,hq_3,hm⟩:=zZ hm;have hq_3d:=zM (e:=zc) zai r_2.1 ([115,116,97,103,101,47,100,111,110,101]:Str) (api_File.mk [] [] false);have hq_3s:=zL (e:=zc) zai r_2.1 ([115,116,97,103,101,47,100,111,110,101]:Str);simp only[hq_3,zc,List.map_nil]at hq_3d hq_3s;have hA:=And.intro hq_3d hq_3s;refine q6 ?_;obtain⟨q_20,hq_4,hm⟩:=zZ hm;have hq_4d:=zM (e:=zc) zai r_2.1 ([115,116,97,103,101,47,98,97,99,107]:Str) (api_File.mk [] [] false);have hq_4s:=zL (e:=zc) zai r_2.1 ([115,116,97,103,101,47,98,97,99,107]:Str);simp only[hq_4,zc,List.map_nil]at hq_4d hq_4s;have hA:=And.intro hq_4d hq_4s;refine q6 ?_;obtain⟨r_16,hr_16,hm⟩:=zd hm
  refine rS fun _ hK12=>?_
  refine cF (ok_R_Look m_1 _ hr_16) (hK12 _ _ ?_)
  refine Wp.seqW fun _ hK14 _=>Wp.block ?_
  obtain⟨r_17,hr_17,hm⟩:=zd hm
  refine rS fun _ hK15=>?_
  refine cX (fun hg=>zef id_6 _ hr_17) (hK15 _ _ ?_)
  refine cN hm (fun hm=>?_) fun hm=>?_
  ·refine qS ?_
   refine Wp.ret ?_;simp only[zq,zD];refine zO ?_;cases hm;exact zf5
  ·refine qS ?_
   refine cN hm (fun hm=>?_) fun hm=>?_
   ·refine qS ?_
    refine Wp.ret ?_;simp only[zq,zD];refine zO ?_;cases hm;exact zf5
   ·refine Wp.skip (hK14 _ _ ?_)
    obtain⟨r_7,hr_7,hm⟩:=zd hm;obtain⟨r_8,hr_8,hm⟩:=zd hm
    refine rS fun _ hK22=>?_
    refine cF (zm9 m_1 _ hr_7) ?_;refine cF (ok_R_Undo r_7 l_5 _ hr_8) (hK22 _ _ ?_)
    refine Wp.seqW fun _ hK25 _=>qS ?_
    refine cN hm (fun hm=>?_) fun hm=>?_
    ·refine qS ?_
     refine Wp.ret ?_;simp only[zq,zD];refine zO ?_;cases hm;exact zf5
    ·refine Wp.skip (hK25 _ _ ?_)
     obtain⟨r_9,hr_9,hm⟩:=zd hm
     refine rS fun _ hK29=>?_
     refine cX (fun hg=>zfU (api_Journal.mk id_6 l_5 r_8.1) _ hr_9) (hK29 _ _ ?_)
     refine Wp.seqW fun _ hK31 _=>qS ?_
     refine cN hm (fun hm=>?_) fun hm=>?_
     ·refine qS ?_
      refine Wp.ret ?_;simp only[zq,zD];refine zO ?_;cases hm;exact zf5
     ·refine Wp.skip (hK31 _ _ ?_)
      obtain⟨r_10,hr_10,hm⟩:=zd hm;obtain⟨r_11,hr_11,hm⟩:=zd hm;obtain⟨c_21,hm⟩:=zh hm
      refine rS fun _ hK35=>?_
      refine cO [5,2,3,4] (zjV ([115,116,97,103,101,47,106,111,117,114,110,97,108]:Str) r_2.2.2.2 r_2.1 r_2.2.1 r_2.2.2.1 _ hr_10) ?_;refine cX (fun hg=>ok_R_put ([115,116,97,103,101,47,106,111,117,114,110,97,108]:Str) r_9.1 _ hr_11) (hK35 _ _ ?_);obtain⟨c_22,hm⟩:=zh hm;refine q6 ?_;obtain⟨r_12,hr_12,hm⟩:=zd hm;obtain⟨r_13,hr_13,hm⟩:=zd hm;obtain⟨r_14,hr_14,hm⟩:=zd hm;obtain⟨c_23,hm⟩:=zh hm
      refine rS fun _ hK39=>?_
      refine cX (fun hg=>ok_R_put ([115,116,97,103,101,47,100,111,110,101]:Str) id_6 _ hr_12) ?_;refine cX (fun hg=>zgx ([115,116,97,103,101,47,106,111,117,114,110,97,108]:Str) _ hr_13) ?_;refine cX (fun hg=>zgx ([115,116,97,103,101,47,100,111,110,101]:Str) _ hr_14) (hK39 _ _ ?_)
      refine Wp.seqW fun _ hK43 _=>Wp.freeze 9 (by simp only[go_sem,simprocAttr];exact Is.mk) (by first|(simp only[go_sem,simprocAttr];done)|(simp only[go_sem,simprocAttr];omega)) ?_
      simp only[go_sem,simprocAttr];obtain⟨r_18,hr_18,hm⟩:=zd hm
      refine rS fun _ hK44=>?_
      refine cF (zfX m_1 (((r_10++[r_11])++l_5)++[r_12,r_13,r_14]) _ hr_18) (hK44 _ _ ?_);refine qS ?_
      refine cN hm (fun hm=>?_) fun hm=>?_
      ·refine qS ?_
       refine Wp.ret ?_;simp only[zq,zD];refine zO ?_;cases hm;exact zf5
      ·exact Wp.skip (hK43 _ _ (wQ))
theorem zaY(s1_3:List api_Change)(s2_5:List api_Change)(z:Bool)(hm:zJ s1_3 s2_5=some z):Does Tryz.prog 37 [.p (.l (List.map ze s1_3)),.p (.l (List.map ze s2_5))] [] (fun r X=>r=.p (.b z)∧X=[]):=by
 unfold zJ at hm
 refine dW 0 26 [.tmp 4] Tryz.func37 fun B=>nA fun hA=>?_
 refine qS ?_
 refine Wp.seqW fun _ hK2 _=>qS ?_
 refine cR hm fun hm=>?_
 refine Wp.skip (hK2 _ _ (Wp.seqW fun K6 hK6 hW6=>?_));obtain⟨k_6,hk_6,hm⟩:=zj hm
 have hcut6:∀s,k_6 s=some z→K6 [] []:=by
  intro s hs;have hm:=hk_6 _ hs;clear hs
  try dsimp only at hm⊢
  exact hK6 _ _ (wQ)
 clear hK6 hk_6;refine qS ?_;refine Wp.block ?_;obtain⟨k_7,hk_7,hm⟩:=zp hm
 refine fL 0 s1_3.length fun hl_9=>?_
 refine Wp.forL (fun i_4 s=>[(0,.p (.l (List.map ze s1_3))),(1,.p (.l (List.map ze s2_5))),(12,.p (.i .i64 (s1_3.length:Int))),(13,.p (.i .i64 (i_4:Int)))]) (fun i_4 s=>[]) wF hm ?_;clear hm;intro i_4 s hii_4 hm
 try dsimp only at hm⊢
 refine qS ?_
 refine Wp.seqW fun _ hK10 _=>Wp.cond rfl ⟨⟩ (fun hc10=>?_) fun hc10=>Wp.exit (hW6 _ _ _ _ wF (hcut6 () (hk_7 _ (zt hm (geN hc10)))))
 have hlt10:=ltN hc10;have hw10:=zn hlt10 hl_9;obtain⟨c_2,nx_8,hxc_2,hyc_2,hnx_8,hm⟩:=zo hm hlt10;replace hxc_2:=hxc_2 ze;refine Wp.skip ?_;simp only[zq];refine hK10 _ _ (Wp.seqW fun _ hK11 _=>Wp.block ?_);have hA:=And.intro hw10 hxc_2;refine q6 ?_;obtain⟨c_1,hbc_1,hxc_1,hyc_1,hm⟩:=zbt hm;replace hxc_1:∀d,(List.map ze s2_5).getD i_4 d=ze c_1:=hxc_1 ze;have hA:=And.intro hw10 (And.intro hxc_2 hxc_1)
 refine dS (pl [(0,none),(1,none),(2,none),(3,none),(4,none),(5,none),(6,none),(7,none),(8,none)]) fun _ hK13=>hK13 _ _ ?_
 refine cR hm fun hm=>?_
 refine Wp.skip (hK11 _ _ (r6 ?_));exact wN () hlt10 (hnx_8 _ hm)
theorem zjb(a_1:api_Journal)(b_2:api_Journal)(z:Bool)(hm:zcz a_1 b_2=some z):Does Tryz.prog 41 [.agg [.p (.s a_1.Id),.p (.l (List.map ze a_1.Changes)),.p (.l (List.map ze a_1.Old))],.agg [.p (.s b_2.Id),.p (.l (List.map ze b_2.Changes)),.p (.l (List.map ze b_2.Old))]] [] (fun r X=>r=.p (.b z)∧X=[]):=by
 unfold zcz at hm
 refine dW 0 24 [.tmp 4] Tryz.func41 fun B=>nA fun hA=>?_
 refine qS ?_;obtain⟨r_3,hr_3,hm⟩:=zI hm;obtain⟨r_4,hr_4,hm⟩:=zI hm
 refine rS fun _ hK2=>?_
 refine cX (g:=decide (a_1.Id=b_2.Id)) (fun hg=>zaY a_1.Changes b_2.Changes _ (hr_3 hg)) ?_;refine cX (g:=((decide (a_1.Id=b_2.Id))&&r_3)) (fun hg=>zaY a_1.Old b_2.Old _ (hr_4 hg)) (hK2 _ _ ?_);exact wR
theorem zkH(l_4:List api_Change)(o0_1_8:Bool)(o0_2_9:Int)(o0_3_3:Bool)(o0_4_10:Bool)(o0_5_11:Int)(o1_0_12:List api_Setting)(m2_13:List (Str×api_File))(m3_14:List (Str×Str))(m4_15:List (Str×api_Service))(z:Int×Bool×Int×Bool×Int×List api_Setting×(List (Str×api_File))×(List (Str×Str))×(List (Str×api_Service)))(hm:zeZ l_4 o0_1_8 o0_2_9 o0_3_3 o0_4_10 o0_5_11 o1_0_12 m2_13 m3_14 m4_15=some z):DoesC Tryz.prog 121 [.ptr 0 0,.p (.l (List.map ze l_4))] [.cells 124 [.ptr 1 0,.p (.b o0_1_8),.p (.i .i64 o0_2_9),.p (.b o0_3_3),.p (.b o0_4_10),.p (.i .i64 o0_5_11)],.cells 129 [.p (.l (List.map za o1_0_12)),.mp 2,.mp 3,.mp 4],.mp true (zx Dt.s zc m2_13),.mp false (zx Dt.s ecS m3_14),.mp true (zx Dt.s zb m4_15)] [1,2,3,4] (fun r X=>r=.p (.i .i64 z.1)∧X=[.cells 124 [.ptr 1 0,.p (.b z.2.1),.p (.i .i64 z.2.2.1),.p (.b o0_3_3),.p (.b z.2.2.2.1),.p (.i .i64 z.2.2.2.2.1)],.cells 129 [.p (.l (List.map za z.2.2.2.2.2.1)),.mp 2,.mp 3,.mp 4],.mp true (zx Dt.s zc z.2.2.2.2.2.2.1),.mp false (zx Dt.s ecS z.2.2.2.2.2.2.2.1),.mp true (zx Dt.s zb z.2.2.2.2.2.2.2.2)]):=by
 unfold zeZ at hm
 refine DoesC.of_wp [1,2,3,4] 5 21 [.tmp 4] Tryz.func121 rfl (by decide) rfl rfl (Nat.le_of_ble_eq_true rfl) fun B=>?_
 refine qS ?_
 refine Wp.seqW fun K2 hK2 hW2=>?_
 obtain⟨k_5,hk_5,hm⟩:=zj hm
 have hcut2:∀s,k_5 s=some z→K2 [] [.cells 124 [.ptr 1 0,.p (.b s.1),.p (.i .i64 s.2.1),.p (.b o0_3_3),.p (.b s.2.2.1),.p (.i .i64 s.2.2.2.1)],.cells 129 [.p (.l (List.map za s.2.2.2.2.1)),.mp 2,.mp 3,.mp 4],.mp true (zx Dt.s zc s.2.2.2.2.2.1),.mp false (zx Dt.s ecS s.2.2.2.2.2.2.1),.mp true (zx Dt.s zb s.2.2.2.2.2.2.2)]:=by
  intro s hs;have hm:=hk_5 _ hs;clear hs;obtain⟨o0_1_26,o0_2_27,o0_4_28,o0_5_29,o1_0_30,m2_31,m3_32,m4_33⟩:=s
  try dsimp only at hm
  try dsimp only
  refine hK2 _ _ ?_;refine qS ?_;refine Wp.ret ?_;refine zc3 ?_;cases hm;exact zf5
 clear hK2 hk_5;refine qS ?_;refine Wp.block ?_;obtain⟨k_16,hk_16,hm⟩:=zp hm
 refine Wp.fact 8 fun hl_7=>?_
 replace hl_7:l_4.length≤274877906944:=by
  simp only[go_sem,simprocAttr,List.length_map]at hl_7;omega
 refine Wp.forL (fun i_6 s=>[(0,.ptr 0 0),(8,.p (.l (List.map ze l_4))),(9,.p (.i .i64 (l_4.length:Int))),(10,.p (.i .i64 (i_6:Int)))]) (fun i_6 s=>[.cells 124 [.ptr 1 0,.p (.b s.1),.p (.i .i64 s.2.1),.p (.b o0_3_3),.p (.b s.2.2.1),.p (.i .i64 s.2.2.2.1)],.cells 129 [.p (.l (List.map za s.2.2.2.2.1)),.mp 2,.mp 3,.mp 4],.mp true (zx Dt.s zc s.2.2.2.2.2.1),.mp false (zx Dt.s ecS s.2.2.2.2.2.2.1),.mp true (zx Dt.s zb s.2.2.2.2.2.2.2)]) ?_ hm ?_
 ·
  exact zf5
 clear hm;intro i_6 s hii_6 hm;obtain⟨o0_1_17,o0_2_18,o0_4_19,o0_5_20,o1_0_21,m2_22,m3_23,m4_24⟩:=s
 try dsimp only at hm
 try dsimp only
 refine qS ?_
 refine Wp.seqW fun K6 hK6 hW6=>?_
 refine Wp.cond rfl ⟨⟩ (fun hc6=>?_) (fun hc6=>?_)
 rotate_left
 ·refine Wp.exit ?_
  have hm:=hk_16 _ (zt hm (ge_nat (by first|exact hc6|simpa using hc6)))
  try dsimp only at hm
  refine hW2 _ _ _ _ ?_ (hcut2 (o0_1_17,o0_2_18,o0_4_19,o0_5_20,o1_0_21,m2_22,m3_23,m4_24) hm);exact zf5
 have hlt6:=lt_nat (by first|exact hc6|simpa using hc6);have hw6:=zn hlt6 hl_7;obtain⟨c_1,nx_25,hxc_1,hyc_1,hnx_25,hm⟩:=zo hm hlt6;replace hxc_1:=hxc_1 ze;refine Wp.skip ?_;simp only[zq];refine hK6 _ _ ?_
 refine Wp.seqW fun K7 hK7 hW7=>?_
 refine Wp.block ?_
 refine Wp.seqR fun K8 hK8=>?_
 simp only[go_sem,simprocAttr,hw6,hxc_1];refine kA hK8 ?_;obtain⟨r_2,hr_2,hm⟩:=zd hm
 refine Wp.seqR fun K9 hK9=>?_
 simp only[go_sem,simprocAttr,hw6,hxc_1]
 try refine⟨sd,?_⟩
 refine Rg.callC (av:=?av10) [0,1,2,3,4] [1,2,3,4] (zlO c_1 o0_1_17 o0_2_18 o0_3_3 o0_4_19 o0_5_20 o1_0_21 m2_22 m3_23 m4_24 _ hr_2) (by simp only[go_sem,simprocAttr,hw6,hxc_1];exact Is.mk) (by simp only[go_sem,simprocAttr,hw6,hxc_1];exact Is.mk) (by simp only[go_sem,simprocAttr,hw6,hxc_1];exact Is.mk) ?hids10 ?hch10 ?hfr10 ?hok10 ?cont10
 case hch10=>rfl
 case hfr10=>rfl
 case hids10=>simp only[go_sem,simprocAttr,hw6,hxc_1]
 case hok10=>simp only[go_sem,simprocAttr,hw6,hxc_1]
 rintro _ _ ⟨rfl,rfl⟩ hv10;simp only[go_sem,simprocAttr,hw6,hxc_1];refine kA hK9 ?_
 refine Wp.seqR fun K11 hK11=>?_
 simp only[go_sem,simprocAttr,hw6,hxc_1];refine kA hK11 ?_;refine cM hm (fun hc12 hm=>?_) (fun hc12 hm=>?_)
 ·refine Wp.seqR fun K13 hK13=>?_
  simp only[go_sem,simprocAttr,hw6,hxc_1];refine kA hK13 ?_;refine Wp.ret ?_;refine zc3 ?_;cases hm;simp only[go_sem,simprocAttr,hw6,hxc_1]
  try exact se4
 ·refine Wp.skip ?_
  refine hK7 _ _ ?_
  refine Wp.region fun K14 hK14=>?_
  simp only[go_sem,simprocAttr,hw6,hxc_1];refine kA hK14 ?_;simp only[zq,zD,↓reduceIte];refine⟨(r_2.2.1,r_2.2.2.2.2.1,r_2.2.2.1,r_2.2.2.2.1,r_2.2.2.2.2.2.1,r_2.2.2.2.2.2.2.1,r_2.2.2.2.2.2.2.2.1,r_2.2.2.2.2.2.2.2.2),hlt6,hnx_25 _ hm,?_⟩;simp only[go_sem,simprocAttr,hw6,hxc_1]
  try exact se4
theorem ok_R_Run_i1(id_10:Str)(l_11:List api_Change)(o0_1_2:Bool)(o0_2_3:Int)(o0_3_1:Bool)(o0_4_4:Bool)(o0_5_5:Int)(o1_0_6:List api_Setting)(m2_7:List (Str×api_File))(m3_8:List (Str×Str))(m4_9:List (Str×api_Service))(z:Int×Bool×Int×Bool×Int×List api_Setting×(List (Str×api_File))×(List (Str×Str))×(List (Str×api_Service)))(hm:zjA id_10 l_11 o0_1_2 o0_2_3 o0_3_1 o0_4_4 o0_5_5 o1_0_6 m2_7 m3_8 m4_9=some z):DoesC Tryz.prog 43 [.ptr 0 0,.p (.s id_10),.p (.l (List.map ze l_11))] [.cells 124 [.ptr 1 0,.p (.b o0_1_2),.p (.i .i64 o0_2_3),.p (.b o0_3_1),.p (.b o0_4_4),.p (.i .i64 o0_5_5)],.cells 129 [.p (.l (List.map za o1_0_6)),.mp 2,.mp 3,.mp 4],.mp true (zx Dt.s zc m2_7),.mp false (zx Dt.s ecS m3_8),.mp true (zx Dt.s zb m4_9)] [1,2,3,4] (fun r X=>r=.p (.i .i64 z.1)∧X=[.cells 124 [.ptr 1 0,.p (.b z.2.1),.p (.i .i64 z.2.2.1),.p (.b o0_3_1),.p (.b z.2.2.2.1),.p (.i .i64 z.2.2.2.2.1)],.cells 129 [.p (.l (List.map za z.2.2.2.2.2.1)),.mp 2,.mp 3,.mp 4],.mp true (zx Dt.s zc z.2.2.2.2.2.2.1),.mp false (zx Dt.s ecS z.2.2.2.2.2.2.2.1),.mp true (zx Dt.s zb z.2.2.2.2.2.2.2.2)]):=by
 unfold zjA at hm
 refine DoesC.of_wp [1,2,3,4] 5 31 [.tmp 6] Tryz.func43 rfl (by decide) rfl rfl (Nat.le_of_ble_eq_true rfl) fun B=>?_
 refine qS ?_;obtain⟨r_12,hr_12,hm⟩:=zd hm
 refine Wp.seqR fun K2 hK2=>?_
 simp only[go_sem,simprocAttr]
 try refine⟨sd,?_⟩
 refine Rg.callR (av:=?av3) (g:=true) [0,1,2,3,4] (fun hg=>zhS o0_1_2 o0_2_3 o0_3_1 o0_4_4 o0_5_5 o1_0_6 m2_7 m3_8 m4_9 _ hr_12) si si si si sg sg sg ?cont3;simp only[go_sem,simprocAttr];refine kA hK2 ?_
 refine Wp.seqW fun K4 hK4 hW4=>?_
 refine qS ?_;refine cM hm (fun hc6 hm=>?_) (fun hc6 hm=>?_)
 ·refine qS ?_
  refine Wp.ret ?_;refine zc3 ?_;cases hm;exact zf5
 ·refine Wp.skip ?_
  refine hK4 _ _ ?_;obtain⟨r_13,hr_13,hm⟩:=zd hm
  refine Wp.seqR fun K8 hK8=>?_
  simp only[go_sem,simprocAttr]
  try refine⟨sd,?_⟩
  refine Rg.callF (av:=?av9) (ok_R_Writes r_12.1 id_10 l_11 _ hr_13) si si sg ?cont9;intro hv9;simp only[go_sem,simprocAttr];refine kA hK8 ?_
  refine Wp.seqW fun K10 hK10 hW10=>?_
  refine qS ?_;refine cM hm (fun hc12 hm=>?_) (fun hc12 hm=>?_)
  ·refine qS ?_
   refine Wp.ret ?_;refine zc3 ?_;cases hm;exact zf5
  ·refine Wp.skip ?_
   refine hK10 _ _ ?_;obtain⟨r_14,hr_14,hm⟩:=zd hm
   refine Wp.seqR fun K14 hK14=>?_
   simp only[go_sem,simprocAttr]
   try refine⟨sd,?_⟩
   refine Rg.callC (av:=?av15) [0,1,2,3,4] [1,2,3,4] (zkH r_13.1 o0_1_2 o0_2_3 o0_3_1 o0_4_4 o0_5_5 o1_0_6 m2_7 m3_8 m4_9 _ hr_14) si si si ?hids15 ?hch15 ?hfr15 ?hok15 ?cont15
   case hch15=>rfl
   case hfr15=>rfl
   case hids15=>simp only[go_sem,simprocAttr]
   case hok15=>simp only[go_sem,simprocAttr]
   rintro _ _ ⟨rfl,rfl⟩ hv15;simp only[go_sem,simprocAttr];refine kA hK14 ?_;refine Wp.ret ?_;refine zc3 ?_;cases hm;exact zf5
theorem zn4(m_1:api_Machine)(z:api_Journal×Int×Int)(hm:zfN m_1=some z):Does Tryz.prog 44 [.agg [.p (.l (List.map za m_1.Facts)),.p (.l (List.map zc m_1.Files)),.p (.l (List.map za m_1.Settings)),.p (.l (List.map zb m_1.Services))]] [] (fun r X=>r=.tup [.agg [.p (.s z.1.Id),.p (.l (List.map ze z.1.Changes)),.p (.l (List.map ze z.1.Old))],.p (.i .i64 z.2.1),.p (.i .i64 z.2.2)]∧X=[]):=by
 unfold zfN at hm
 refine dW 0 21 [.cell 2 69,.tmp 3,.tmp 4] Tryz.func44 fun B=>nA fun hA=>?_
 refine qS ?_
 refine Wp.seqW fun _ hK2 _=>?_
 obtain⟨r_2,hr_2,hm⟩:=zd hm
 refine rS fun _ hK3=>?_
 refine cX (fun hg=>zn6 m_1 _ hr_2) (hK3 _ _ ?_);refine qS ?_
 refine cN hm (fun hm=>?_) fun hm=>?_
 ·refine qS ?_
  refine Wp.ret ?_;simp only[zq,zD];refine zO ?_;cases hm;exact zf5
 ·refine Wp.skip (hK2 _ _ ?_)
  obtain⟨r_3,hr_3,hm⟩:=zd hm
  refine rS fun _ hK8=>?_
  refine cF (zn3 m_1 _ hr_3) (hK8 _ _ ?_);exact wQ
theorem zjZ(m_3:api_Machine)(id_9:Str)(l_10:List api_Change)(cut_11:Int)(torn_12:Bool)(z:Bool)(hm:zet m_3 id_9 l_10 cut_11 torn_12=some z):Does Tryz.prog 6 [.agg [.p (.l (List.map za m_3.Facts)),.p (.l (List.map zc m_3.Files)),.p (.l (List.map za m_3.Settings)),.p (.l (List.map zb m_3.Services))],.p (.s id_9),.p (.l (List.map ze l_10)),.p (.i .i64 cut_11),.p (.b torn_12)] [] (fun r X=>r=.p (.b z)∧X=[]):=by
 unfold zet at hm
 refine dW 0 62 [.tmp 10] Tryz.func6 fun B=>nA fun hA=>?_
 refine qS ?_
 refine Wp.seqW fun _ hK2 _=>?_
 obtain⟨r_14,hr_14,hm⟩:=zd hm
 refine rS fun _ hK3=>?_
 refine cX (fun hg=>zoa  _ hr_14) (hK3 _ _ ?_)
 refine cR hm fun hm=>?_
 refine Wp.skip (hK2 _ _ ?_);obtain⟨r_6,hr_6,hm⟩:=zd hm
 refine rS fun _ hK7=>?_
 refine cF (ok_Law_fit m_3 _ hr_6) (hK7 _ _ ?_);obtain⟨r_13,hr_13,hm⟩:=zd hm
 refine rS fun _ hK9=>?_
 refine cF (zn9 r_6 l_10 false _ hr_13) (hK9 _ _ ?_);obtain⟨r_1,hr_1,hm⟩:=zd hm
 refine rS fun _ hK11=>?_
 refine cO [] (ok_R_NewDisk r_6 _ hr_1) (hK11 _ _ ?_);obtain⟨r_4,hr_4,hm⟩:=zd hm
 refine rS fun _ hK13=>?_
 refine cO [7,6,3,4,5] (zkI (min (max cut_11 0) 40) torn_12 r_1.2.2.2.2.2.2.2.2.1 r_1.2.2.2.2.2.2.2.2.2.1 r_1.2.2.2.2.2.2.2.2.2.2.1 r_1.2.2.2.2.2.2.2.2.2.2.2.1 r_1.2.2.2.2.2.2.2.2.2.2.2.2 r_1.2.2.2.2.2.2.2.1 r_1.2.2.2.2.1 r_1.2.2.2.2.2.1 r_1.2.2.2.2.2.2.1 _ hr_4) (hK13 _ _ ?_);obtain⟨r_2,hr_2,hm⟩:=zd hm
 refine Wp.seqR fun K15 hK15=>?_
 simp only[go_sem,simprocAttr]
 try refine⟨sd,?_⟩
 refine Rg.callC (av:=?av16) [7,6,3,4,5] [6,3,4,5] (ok_R_Run_i1 id_9 r_13 r_1.2.2.2.2.2.2.2.2.1 r_4.2.1 r_4.2.2.1 r_4.2.2.2 r_1.2.2.2.2.2.2.2.2.2.2.2.2 r_1.2.2.2.2.2.2.2.1 r_1.2.2.2.2.1 r_1.2.2.2.2.2.1 r_1.2.2.2.2.2.2.1 _ hr_2) si si si ?hids16 ?hch16 ?hfr16 ?hok16 ?cont16
 case hch16=>rfl
 case hfr16=>rfl
 case hids16=>simp only[go_sem,simprocAttr]
 case hok16=>simp only[go_sem,simprocAttr]
 rintro _ _ ⟨rfl,rfl⟩ hv16;simp only[go_sem,simprocAttr];refine kA hK15 ?_;obtain⟨r_7,hr_7,hm⟩:=zd hm
 refine rS fun _ hK17=>?_
 refine cQ [7,6,3,4,5] (fun hg=>zjY r_2.2.1 r_2.2.2.1 r_4.2.2.1 r_2.2.2.2.1 r_2.2.2.2.2.1 r_2.2.2.2.2.2.1 r_2.2.2.2.2.2.2.1 r_2.2.2.2.2.2.2.2.1 r_2.2.2.2.2.2.2.2.2 _ hr_7) (hK17 _ _ ?_);obtain⟨r_5,hr_5,hm⟩:=zd hm
 refine rS fun _ hK19=>?_
 refine cF (zn4 r_7 _ hr_5) (hK19 _ _ ?_);obtain⟨r_8,hr_8,hm⟩:=zd hm
 refine rS fun _ hK21=>?_
 refine cF (ok_R_Look r_7 _ hr_8) (hK21 _ _ ?_);obtain⟨r_15,hr_15,hm⟩:=zI hm
 refine rS fun _ hK23=>?_
 refine cX (g:=((decide (r_5.2.2=0))&&(decide (r_5.2.1=r_8.2)))) (fun hg=>zjb r_5.1 r_8.1 _ (hr_15 hg)) (hK23 _ _ ?_);exact wR
end Go.Proofs.YtbofknpajcdnmaaGreatDoor
