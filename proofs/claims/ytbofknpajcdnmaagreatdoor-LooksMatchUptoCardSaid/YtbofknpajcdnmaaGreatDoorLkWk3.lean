/- That the code does what the models say (part 3). -/
import Derived.Test.YtbofknpajcdnmaaGreatDoorLkWk0
import Derived.Test.YtbofknpajcdnmaaGreatDoorLkWk1
import Derived.Test.YtbofknpajcdnmaaGreatDoorLkWk2
set_option linter.unusedSimpArgs false
set_option linter.unusedVariables false
open Go.Proofs Go.Shelf
namespace Go.Proofs.YtbofknpajcdnmaaGreatDoor
open Go.Vc Go.Md
set_option maxRecDepth 100000
set_option maxHeartbeats 4000000
theorem zgv(s_2:Str)(z:Bool)(hm:zd5 s_2=some z):Does Tryz.prog 142 [.p (.s s_2)] [] (fun r X=>r=.p (.b z)∧X=[]):=by
 unfold zd5 at hm
 refine dW 0 19 [.tmp 2] Tryz.func142 fun B=>nA fun hA=>?_
 refine qS ?_
 refine Wp.seqW fun K2 hK2 hW2=>?_
 obtain⟨k_4,hk_4,hm⟩:=zj hm
 have hcut2:∀s,k_4 s=some z→K2 [(0,.p (.s s_2))] []:=by
  intro s hs;have hm:=hk_4 _ hs;clear hs
  try dsimp only at hm⊢
  exact hK2 _ _ (wQ)
 clear hK2 hk_4;obtain⟨r_3,hr_3,hm⟩:=zd hm
 refine rS fun _ hK4=>?_
 refine cF (zb2 s_2 ([47]:Str) _ hr_3) (hK4 _ _ ?_);refine Wp.block ?_;obtain⟨k_6,hk_6,hm⟩:=zp hm
 refine fL 6 r_3.length fun hl_9=>?_
 refine Wp.forL (fun i_5 s=>[(0,.p (.s s_2)),(6,.p (.l (List.map ecS r_3))),(7,.p (.i .i64 (r_3.length:Int))),(8,.p (.i .i64 (i_5:Int)))]) (fun i_5 s=>[]) wF hm ?_;clear hm;intro i_5 s hii_5 hm
 try dsimp only at hm⊢
 refine qS ?_
 refine Wp.seqW fun _ hK7 _=>Wp.cond rfl ⟨⟩ (fun hc7=>?_) fun hc7=>Wp.exit (hW2 _ _ _ _ wF (hcut2 () (hk_6 _ (zt hm (geN hc7)))))
 have hlt7:=ltN hc7;have hw7:=zn hlt7 hl_9;obtain⟨s_1,nx_7,hxs_1,hys_1,hnx_7,hm⟩:=zo hm hlt7;replace hxs_1:=hxs_1 ecS;refine Wp.skip ?_;simp only[zq];refine hK7 _ _ (Wp.seqW fun _ hK8 _=>Wp.block ?_);have hA:=And.intro hw7 hxs_1;refine q6 ?_;obtain⟨r_8,hr_8,hm⟩:=zd hm
 refine rS fun _ hK10=>?_
 refine cX (fun hg=>zn2 s_1 _ hr_8) (hK10 _ _ ?_)
 refine cR hm fun hm=>?_
 refine Wp.skip (hK8 _ _ (r6 ?_));exact wN () hlt7 (hnx_7 _ hm)
theorem zee(f_1:api_File)(z:Int)(hm:za5 f_1=some z):Does Tryz.prog 138 [.agg [.p (.s f_1.Path),.p (.s f_1.Data),.p (.b f_1.Runs)]] [] (fun r X=>r=.p (.i .i64 z)∧X=[]):=by
 unfold za5 at hm
 refine dW 0 11 [.tmp 2] Tryz.func138 fun B=>nA fun hA=>?_
 refine qS ?_
 refine Wp.seqW fun _ hK2 _=>?_
 obtain⟨r_2,hr_2,hm⟩:=zd hm
 refine rS fun _ hK3=>?_
 refine cX (fun hg=>zgv f_1.Path _ hr_2) (hK3 _ _ ?_)
 refine cR hm fun hm=>?_
 refine Wp.skip (hK2 _ _ (Wp.seqW fun _ hK7 _=>qS ?_))
 refine cR hm fun hm=>?_
 exact Wp.skip (hK7 _ _ (wQ))
theorem zja(dir_3:Str)(m1_2:List (Str×Bool))(z:Bool)(hm:zcw dir_3 m1_2=some z):Does Tryz.prog 140 [.p (.s dir_3),.ptr 0 0] [.cells 107 [.mp 1],.mp false (zx Dt.s ecB m1_2)] (fun r X=>r=.p (.b z)∧X=[.cells 107 [.mp 1],.mp false (zx Dt.s ecB m1_2)]):=by
 unfold zcw at hm
 refine dW 2 8 [.tmp 3] Tryz.func140 fun B=>nA fun hA=>?_
 refine qS ?_;obtain⟨q_4,hq_1,hm⟩:=zZ hm;have hq_1d:=zM (e:=ecB) zai m1_2 dir_3 false;have hq_1s:=zL (e:=ecB) zai m1_2 dir_3;simp only[hq_1,ecB,List.map_nil]at hq_1d hq_1s;have hA:=And.intro hq_1d hq_1s;exact wQ
theorem zkG(path_2:Str)(m1_1:List (Str×Bool))(z:Bool)(hm:zcJ path_2 m1_1=some z):Does Tryz.prog 139 [.p (.s path_2),.fn 140 [.ptr 0 0]] [.cells 107 [.mp 1],.mp false (zx Dt.s ecB m1_1)] (fun r X=>r=.p (.b z)∧X=[.cells 107 [.mp 1],.mp false (zx Dt.s ecB m1_1)]):=by
 unfold zcJ at hm
 refine dW 2 24 [.tmp 4] Tryz.func139 fun B=>nA fun hA=>?_
 refine qS ?_
 refine Wp.seqW fun K2 hK2 hW2=>?_
 obtain⟨k_5,hk_5,hm⟩:=zj hm
 have hcut2:∀s,k_5 s=some z→K2 [] [.cells 107 [.mp 1],.mp false (zx Dt.s ecB m1_1)]:=by
  intro s hs;have hm:=hk_5 _ hs;clear hs
  try dsimp only at hm⊢
  exact hK2 _ _ (wQ)
 clear hK2 hk_5;refine qS ?_;refine Wp.block ?_;obtain⟨k_6,hk_6,hm⟩:=zp hm
 refine fL 0 path_2.length fun hl_9=>?_
 refine Wp.forL (fun i_3 s=>[(0,.p (.s path_2)),(1,.fn 140 [.ptr 0 0]),(5,.p (.i .i64 (i_3:Int)))]) (fun i_3 s=>[.cells 107 [.mp 1],.mp false (zx Dt.s ecB m1_1)]) wF hm ?_;clear hm;intro i_3 s hii_3 hm
 try dsimp only at hm⊢
 refine Wp.seqW fun _ hK5 _=>qS ?_
 refine Wp.cond rfl ⟨⟩ (fun hc5=>?_) fun hc5=>Wp.exit (hW2 _ _ _ _ wF (hcut2 () (hk_6 _ (zt hm (geN hc5)))))
 have hlt5:=ltN hc5;have hw5:=zn hlt5 hl_9;obtain⟨c_4,nx_7,hxc_4,hyc_4,hnx_7,hm⟩:=zo hm hlt5;clear hxc_4;refine Wp.skip ?_;simp only[zq];refine hK5 _ _ (Wp.seqW fun _ hK7 _=>Wp.block ?_);obtain⟨c_10,hm⟩:=zh hm;obtain⟨r_8,hr_8,hm⟩:=zI hm;have hA:=And.intro hw5 hyc_4
 refine rS fun _ hK8=>?_
 refine cQ (g:=decide ((c_4.toNat:Int)=47)) [0,1] (fun hg=>zja (List.take i_3 path_2) m1_1 _ (hr_8 hg)) (hK8 _ _ ?_)
 refine cR hm fun hm=>?_
 refine Wp.skip (hK7 _ _ (r6 ?_));exact wN () hlt5 (hnx_7 _ hm)
theorem zbV(s_1:api_Setting)(z:Int)(hm:zah s_1=some z):Does Tryz.prog 136 [.agg [.p (.s s_1.Key),.p (.s s_1.Value)],.fn 142 []] [] (fun r X=>r=.p (.i .i64 z)∧X=[]):=by
 unfold zah at hm
 refine dW 0 14 [.tmp 4] Tryz.func136 fun B=>nA fun hA=>?_
 refine qS ?_
 refine Wp.seqW fun _ hK2 _=>?_
 obtain⟨r_2,hr_2,hm⟩:=zd hm
 refine rS fun _ hK3=>?_
 refine cX (fun hg=>zgv s_1.Key _ hr_2) (hK3 _ _ ?_)
 refine cR hm fun hm=>?_
 refine Wp.skip (hK2 _ _ (Wp.seqW fun _ hK7 _=>?_));obtain⟨r_3,hr_3,hm⟩:=zd hm
 refine rS fun _ hK8=>?_
 refine cX (fun hg=>zh1 s_1.Value _ hr_3) (hK8 _ _ ?_)
 refine cR hm fun hm=>?_
 exact Wp.skip (hK7 _ _ (wQ))
theorem zlM(s_1:api_Setting)(z:Int)(hm:zeE s_1=some z):Does Tryz.prog 141 [.agg [.p (.s s_1.Key),.p (.s s_1.Value)]] [] (fun r X=>r=.p (.i .i64 z)∧X=[]):=by
 unfold zeE at hm
 refine dW 0 5 [.tmp 2] Tryz.func141 fun B=>nA fun hA=>?_
 refine qS ?_;obtain⟨r_2,hr_2,hm⟩:=zd hm
 refine rS fun _ hK2=>?_
 refine cX (fun hg=>zbV s_1 _ hr_2) (hK2 _ _ ?_);exact wR
theorem zdV(l_1:List api_Setting)(z:Int)(hm:zU l_1=some z):Does Tryz.prog 134 [.p (.l (List.map za l_1)),.fn 141 [],.fn 137 []] [] (fun r X=>r=.p (.i .i64 z)∧X=[]):=by
 unfold zU at hm
 refine dW 0 39 [.tmp 6] Tryz.func134 fun B=>nA fun hA=>?_
 refine qS ?_
 refine Wp.seqW fun K2 hK2 hW2=>?_
 obtain⟨k_4,hk_4,hm⟩:=zj hm
 have hcut2:∀s,k_4 s=some z→K2 [] []:=by
  intro s hs;have hm:=hk_4 _ hs;clear hs
  try dsimp only at hm⊢
  exact hK2 _ _ (wQ)
 clear hK2 hk_4;refine qS ?_;refine Wp.block ?_;obtain⟨k_5,hk_5,hm⟩:=zp hm
 refine fL 0 l_1.length fun hl_11=>?_
 refine Wp.forL (fun i_2 s=>[(0,.p (.l (List.map za l_1))),(1,.fn 141 []),(2,.fn 137 []),(10,.p (.l (List.map za l_1))),(11,.p (.i .i64 (l_1.length:Int))),(12,.p (.i .i64 (i_2:Int)))]) (fun i_2 s=>[]) wF hm ?_;clear hm;intro i_2 s hii_2 hm
 try dsimp only at hm⊢
 refine qS ?_
 refine Wp.seqW fun _ hK6 _=>Wp.cond rfl ⟨⟩ (fun hc6=>?_) fun hc6=>Wp.exit (hW2 _ _ _ _ wF (hcut2 () (hk_5 _ (zt hm (geN hc6)))))
 have hlt6:=ltN hc6;have hw6:=zn hlt6 hl_11;obtain⟨s_3,nx_6,hxs_3,hys_3,hnx_6,hm⟩:=zo hm hlt6;replace hxs_3:=hxs_3 za;refine Wp.skip ?_;simp only[zq];refine hK6 _ _ (Wp.seqW fun _ hK7 _=>Wp.block ?_);have hA:=And.intro hw6 hxs_3;refine q6 ?_
 refine Wp.seqW fun _ hK9 _=>?_
 obtain⟨r_7,hr_7,hm⟩:=zd hm
 refine rS fun _ hK10=>?_
 refine cX (fun hg=>zlM s_3 _ hr_7) (hK10 _ _ ?_);refine q6 ?_
 refine cR hm fun hm=>?_
 refine Wp.skip (hK9 _ _ ?_);obtain⟨r_8,hr_8,hm⟩:=zI hm;obtain⟨c_12,hm⟩:=zh hm;obtain⟨r_9,hr_9,hm⟩:=zI hm;have hr_10:=zdM (l:=l_1) (e:=za) (d:=(api_Setting.mk [] [])) (i:=(IntKind.i64.wrap ((i_2:Int)-1)).toNat);simp only[za,List.map_nil]at hr_10;have hA:=And.intro hw6 (And.intro hxs_3 hr_10)
 refine dS (pl [(0,none),(1,none),(2,none),(3,none),(4,none),(5,none),(6,none),(7,none),(8,none),(9,none),(10,none),(11,none),(12,none),(13,none),(14,none)]) fun _ hK15=>?_
 refine cD (g:=decide (0<(i_2:Int))) (fun hg=>zeU s_3 _ (hr_8 hg)) ?_;refine cD (g:=decide (0<(i_2:Int))) (fun hg=>zeU (api_Setting.mk ((l_1.getD ((IntKind.i64.wrap ((i_2:Int)-1)).toNat) (api_Setting.mk [] [])).Key) ((l_1.getD ((IntKind.i64.wrap ((i_2:Int)-1)).toNat) (api_Setting.mk [] [])).Value)) _ (hr_9 hg)) (hK15 _ _ ?_)
 refine cR hm fun hm=>?_
 refine Wp.skip (hK7 _ _ (r6 ?_));exact wN () hlt6 (hnx_6 _ hm)
theorem zeM(s_1:api_Service)(z:Int)(hm:zbb s_1=some z):Does Tryz.prog 144 [.agg [.p (.s s_1.Name),.p (.s s_1.Path),.p (.b s_1.Auto),.p (.b s_1.On)]] [] (fun r X=>r=.p (.i .i64 z)∧X=[]):=by
 unfold zbb at hm
 refine dW 0 13 [.tmp 2] Tryz.func144 fun B=>nA fun hA=>?_
 refine qS ?_
 refine Wp.seqW fun _ hK2 _=>?_
 obtain⟨r_2,hr_2,hm⟩:=zd hm;obtain⟨r_3,hr_3,hm⟩:=zI hm
 refine rS fun _ hK3=>?_
 refine cX (fun hg=>zdz s_1.Name _ hr_2) ?_;refine cX (g:=!(!r_2)) (fun hg=>zgv s_1.Path _ (hr_3 hg)) (hK3 _ _ ?_)
 refine cR hm fun hm=>?_
 exact Wp.skip (hK2 _ _ (wQ))
theorem zh2(s_1:api_Service)(z:Str)(hm:zfe s_1=some z):Does Tryz.prog 145 [.agg [.p (.s s_1.Name),.p (.s s_1.Path),.p (.b s_1.Auto),.p (.b s_1.On)]] [] (fun r X=>r=.p (.s z)∧X=[]):=by
 unfold zfe at hm
 refine dW 0 5 [.tmp 2] Tryz.func145 fun B=>nA fun hA=>?_
 refine qS ?_;exact wQ
theorem zdX(l_1:List api_Service)(z:Int)(hm:zV l_1=some z):Does Tryz.prog 143 [.p (.l (List.map zb l_1)),.fn 144 [],.fn 145 []] [] (fun r X=>r=.p (.i .i64 z)∧X=[]):=by
 unfold zV at hm
 refine dW 0 39 [.tmp 6] Tryz.func143 fun B=>nA fun hA=>?_
 refine qS ?_
 refine Wp.seqW fun K2 hK2 hW2=>?_
 obtain⟨k_4,hk_4,hm⟩:=zj hm
 have hcut2:∀s,k_4 s=some z→K2 [] []:=by
  intro s hs;have hm:=hk_4 _ hs;clear hs
  try dsimp only at hm⊢
  exact hK2 _ _ (wQ)
 clear hK2 hk_4;refine qS ?_;refine Wp.block ?_;obtain⟨k_5,hk_5,hm⟩:=zp hm
 refine fL 0 l_1.length fun hl_11=>?_
 refine Wp.forL (fun i_2 s=>[(0,.p (.l (List.map zb l_1))),(1,.fn 144 []),(2,.fn 145 []),(10,.p (.l (List.map zb l_1))),(11,.p (.i .i64 (l_1.length:Int))),(12,.p (.i .i64 (i_2:Int)))]) (fun i_2 s=>[]) wF hm ?_;clear hm;intro i_2 s hii_2 hm
 try dsimp only at hm⊢
 refine qS ?_
 refine Wp.seqW fun _ hK6 _=>Wp.cond rfl ⟨⟩ (fun hc6=>?_) fun hc6=>Wp.exit (hW2 _ _ _ _ wF (hcut2 () (hk_5 _ (zt hm (geN hc6)))))
 have hlt6:=ltN hc6;have hw6:=zn hlt6 hl_11;obtain⟨s_3,nx_6,hxs_3,hys_3,hnx_6,hm⟩:=zo hm hlt6;replace hxs_3:=hxs_3 zb;refine Wp.skip ?_;simp only[zq];refine hK6 _ _ (Wp.seqW fun _ hK7 _=>Wp.block ?_);have hA:=And.intro hw6 hxs_3;refine q6 ?_
 refine Wp.seqW fun _ hK9 _=>?_
 obtain⟨r_7,hr_7,hm⟩:=zd hm
 refine rS fun _ hK10=>?_
 refine cX (fun hg=>zeM s_3 _ hr_7) (hK10 _ _ ?_);refine q6 ?_
 refine cR hm fun hm=>?_
 refine Wp.skip (hK9 _ _ ?_);obtain⟨r_8,hr_8,hm⟩:=zI hm;obtain⟨c_12,hm⟩:=zh hm;obtain⟨r_9,hr_9,hm⟩:=zI hm;have hr_10:=zdM (l:=l_1) (e:=zb) (d:=(api_Service.mk [] [] false false)) (i:=(IntKind.i64.wrap ((i_2:Int)-1)).toNat);simp only[zb,List.map_nil]at hr_10;have hA:=And.intro hw6 (And.intro hxs_3 hr_10)
 refine dS (pl [(0,none),(1,none),(2,none),(3,none),(4,none),(5,none),(6,none),(7,none),(8,none),(9,none),(10,none),(11,none),(12,none),(13,none),(14,none)]) fun _ hK15=>?_
 refine cD (g:=decide (0<(i_2:Int))) (fun hg=>zh2 s_3 _ (hr_8 hg)) ?_;refine cD (g:=decide (0<(i_2:Int))) (fun hg=>zh2 (api_Service.mk ((l_1.getD ((IntKind.i64.wrap ((i_2:Int)-1)).toNat) (api_Service.mk [] [] false false)).Name) ((l_1.getD ((IntKind.i64.wrap ((i_2:Int)-1)).toNat) (api_Service.mk [] [] false false)).Path) ((l_1.getD ((IntKind.i64.wrap ((i_2:Int)-1)).toNat) (api_Service.mk [] [] false false)).Auto) ((l_1.getD ((IntKind.i64.wrap ((i_2:Int)-1)).toNat) (api_Service.mk [] [] false false)).On)) _ (hr_9 hg)) (hK15 _ _ ?_)
 refine cR hm fun hm=>?_
 refine Wp.skip (hK7 _ _ (r6 ?_));exact wN () hlt6 (hnx_6 _ hm)
theorem zn6(m_1:api_Machine)(z:Int)(hm:zf9 m_1=some z):Does Tryz.prog 65 [.agg [.p (.l (List.map za m_1.Facts)),.p (.l (List.map zc m_1.Files)),.p (.l (List.map za m_1.Settings)),.p (.l (List.map zb m_1.Services))]] [] (fun r X=>r=.p (.i .i64 z)∧X=[]):=by
 unfold zf9 at hm
 refine dW 0 80 [.tmp 2] Tryz.func65 fun B=>nA fun hA=>?_
 refine qS ?_
 refine Wp.seqW fun _ hK2 _=>qS ?_
 refine cR hm fun hm=>?_
 refine Wp.skip (hK2 _ _ (Wp.seqW fun _ hK6 _=>?_));obtain⟨r_6,hr_6,hm⟩:=zd hm
 refine rS fun _ hK7=>?_
 refine cX (fun hg=>zdW m_1.Facts _ hr_6) (hK7 _ _ ?_);refine qS ?_
 refine cR hm fun hm=>?_
 refine Wp.skip (hK6 _ _ (qS ?_));refine qS ?_
 refine Wp.seqW fun K14 hK14 hW14=>?_
 obtain⟨k_3,hk_3,hm⟩:=zj hm
 have hcut14:∀s,k_3 s=some z→K14 [(1,.ptr 0 0)] [.cells 26 [.p (.l (List.map za m_1.Facts)),.p (.l (List.map zc m_1.Files)),.p (.l (List.map za m_1.Settings)),.p (.l (List.map zb m_1.Services))]]:=by
  intro s hs;have hm:=hk_3 _ hs;clear hs
  try dsimp only at hm⊢
  refine hK14 _ _ (Wp.seqW fun _ hK15 _=>?_);obtain⟨r_7,hr_7,hm⟩:=zd hm
  refine rS fun _ hK16=>?_
  refine cX (fun hg=>zdV m_1.Settings _ hr_7) (hK16 _ _ ?_);refine qS ?_
  refine cR hm fun hm=>?_
  refine Wp.skip (hK15 _ _ ?_);obtain⟨r_8,hr_8,hm⟩:=zd hm
  refine rS fun _ hK21=>?_
  refine cX (fun hg=>zdX m_1.Services _ hr_8) (hK21 _ _ ?_);exact wR
 clear hK14 hk_3;refine qS ?_;refine Wp.block ?_;obtain⟨k_9,hk_9,hm⟩:=zp hm
 refine fL 40 m_1.Files.length fun hl_14=>?_
 refine Wp.forL (fun i_4 s=>[(1,.ptr 0 0),(4,.p (.s s.1)),(5,.ptr 2 0),(40,.p (.l (List.map zc m_1.Files))),(41,.p (.i .i64 (m_1.Files.length:Int))),(42,.p (.i .i64 (i_4:Int)))]) (fun i_4 s=>[.cells 26 [.p (.l (List.map za m_1.Facts)),.p (.l (List.map zc m_1.Files)),.p (.l (List.map za m_1.Settings)),.p (.l (List.map zb m_1.Services))],.mp false (zx Dt.s ecB s.2),.cells 107 [.mp 1]]) wF hm ?_;clear hm;intro i_4 s hii_4 hm;obtain⟨before_15,m1_5⟩:=s
 try dsimp only at hm⊢
 refine qS ?_
 refine Wp.seqW fun _ hK25 _=>Wp.cond rfl ⟨⟩ (fun hc25=>?_) fun hc25=>Wp.exit (hW14 _ _ _ _ wF (hcut14 () (hk_9 _ (zt hm (geN hc25)))))
 have hlt25:=ltN hc25;have hw25:=zn hlt25 hl_14;obtain⟨f_2,nx_10,hxf_2,hyf_2,hnx_10,hm⟩:=zo hm hlt25;replace hxf_2:=hxf_2 zc;refine Wp.skip ?_;simp only[zq];refine hK25 _ _ (Wp.seqW fun _ hK26 _=>Wp.block ?_);have hA:=And.intro hw25 hxf_2;refine q6 ?_
 refine Wp.seqW fun _ hK28 _=>?_
 obtain⟨r_11,hr_11,hm⟩:=zd hm
 refine rS fun _ hK29=>?_
 refine cX (fun hg=>zee f_2 _ hr_11) (hK29 _ _ ?_);refine q6 ?_
 refine cR hm fun hm=>?_
 refine Wp.skip (hK28 _ _ (Wp.seqW fun _ hK34 _=>q6 ?_))
 refine cR hm fun hm=>?_
 refine Wp.skip (hK34 _ _ (Wp.seqW fun _ hK38 _=>?_));obtain⟨r_12,hr_12,hm⟩:=zd hm
 refine rS fun _ hK39=>?_
 refine cQ [2,1] (fun hg=>zkG f_2.Path m1_5 _ hr_12) (hK39 _ _ ?_)
 refine cR hm fun hm=>?_
 refine Wp.skip (hK38 _ _ ?_);obtain⟨c_16,hm⟩:=zh hm;have hp_13:=zdI (e:=ecB) zai m1_5 f_2.Path true;simp only[ecB]at hp_13;have hA:=And.intro hw25 (And.intro hxf_2 hp_13)
 refine dE (pl [(0,none),(1,none),(2,none),(3,none),(4,none),(5,none),(6,some [])]) fun _ hK43=>hK43 _ _ ?_
 refine hK26 _ _ (r6 ?_);exact wN (f_2.Path,zcy m1_5 f_2.Path true) hlt25 (hnx_10 _ hm)
theorem zct(s_1:List api_Setting)(z:List api_Setting)(hm:zN s_1=some z):Does Tryz.prog 146 [.p (.l (List.map za s_1))] [] (fun r X=>r=.p (.l (List.map za z))∧X=[]):=by
 unfold zN at hm
 refine dW 0 8 [.tmp 2] Tryz.func146 fun B=>nA fun hA=>?_
 refine qS ?_
 refine Wp.seqW fun _ hK2 _=>Wp.seqR fun K3 hK3=>?_
 simp only[go_sem,simprocAttr]
 try refine⟨sd,?_⟩
 refine Rg.isnil (rows:=?rows4) (e:=?e4) (esz:=?esz4) (eb:=?eb4) (ez:=?ez4) Is.mk Is.mk sg sg si si ?cont4;intro b_2 hb_3;replace hm:=zj9 hm b_2 (fun h=>List.map_eq_nil_iff.1 (hb_3 h))
 try dsimp only at hm
 simp only[go_sem,simprocAttr];refine kA hK3 ?_
 refine cN hm (fun hm=>?_) fun hm=>?_
 ·refine qS ?_
  refine Wp.ret ?_;simp only[zq,zD];refine zO ?_;cases hm;exact zbD
 ·refine Wp.skip (hK2 _ _ ?_)
  obtain⟨c_4,hm⟩:=zh hm;exact wQ
theorem zdF(a_1:Str)(b_2:Str)(z:Int)(hm:zaS a_1 b_2=some z):Does Tryz.prog 149 [.p (.s a_1),.p (.s b_2)] [] (fun r X=>r=.p (.i .i64 z)∧X=[]):=by
 unfold zaS at hm
 refine dW 0 8 [.tmp 4] Tryz.func149 fun B=>nA fun hA=>?_
 refine qS ?_;have hb_3:=cmpB_bd a_1 b_2
 refine Wp.seqR fun K2 hK2=>?_
 simp only[go_sem,simprocAttr]
 try refine⟨sd,?_⟩
 refine Rg.callN (av:=?av3) (g:=true) (fun hg=>nv_205 a_1 b_2) si si si sg si ?cont3;intro hv3;simp only[go_sem,simprocAttr];refine kA hK2 ?_;exact wR
theorem zi6(a_1:Str)(b_2:Str)(z:Int)(hm:ze3 a_1 b_2=some z):Does Tryz.prog 69 [.p (.s a_1),.p (.s b_2)] [] (fun r X=>r=.p (.i .i64 z)∧X=[]):=by
 unfold ze3 at hm
 refine dW 0 8 [.tmp 4] Tryz.func69 fun B=>nA fun hA=>?_
 refine qS ?_;obtain⟨r_3,hr_3,hm⟩:=zd hm
 refine rS fun _ hK2=>?_
 refine cX (fun hg=>zdF a_1 b_2 _ hr_3) (hK2 _ _ ?_);exact wR
theorem ok_Law_fit_1(a_1:api_Setting)(b_2:api_Setting)(z:Int)(hm:zjB a_1 b_2=some z):Does Tryz.prog 68 [.agg [.p (.s a_1.Key),.p (.s a_1.Value)],.agg [.p (.s b_2.Key),.p (.s b_2.Value)]] [] (fun r X=>r=.p (.i .i64 z)∧X=[]):=by
 unfold zjB at hm
 refine dW 0 10 [.tmp 4] Tryz.func68 fun B=>nA fun hA=>?_
 refine qS ?_;obtain⟨r_3,hr_3,hm⟩:=zd hm
 refine rS fun _ hK2=>?_
 refine cX (fun hg=>zi6 a_1.Key b_2.Key _ hr_3) (hK2 _ _ ?_);exact wR
end Go.Proofs.YtbofknpajcdnmaaGreatDoor
