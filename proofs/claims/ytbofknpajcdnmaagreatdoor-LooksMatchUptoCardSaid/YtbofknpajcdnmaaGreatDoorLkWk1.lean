/- That the code does what the models say (part 1). -/
import Derived.Test.YtbofknpajcdnmaaGreatDoorLkWk0
set_option linter.unusedSimpArgs false
set_option linter.unusedVariables false
open Go.Proofs Go.Shelf
namespace Go.Proofs.YtbofknpajcdnmaaGreatDoor
open Go.Vc Go.Md
set_option maxRecDepth 100000
set_option maxHeartbeats 4000000
theorem zfD(c_1:Int)(z:Bool)(hm:zcm c_1=some z):Does Tryz.prog 131 [.p (.i .u8 c_1)] [] (fun r X=>r=.p (.b z)∧X=[]):=by
 unfold zcm at hm
 refine dW 0 9 [.tmp 2] Tryz.func131 fun B=>nA fun hA=>?_
 refine qS ?_;exact wQ
theorem zh0(c_1:Int)(z:Bool)(hm:zd3 c_1=some z):Does Tryz.prog 132 [.p (.i .u8 c_1)] [] (fun r X=>r=.p (.b z)∧X=[]):=by
 unfold zd3 at hm
 refine dW 0 9 [.tmp 2] Tryz.func132 fun B=>nA fun hA=>?_
 refine qS ?_;exact wQ
theorem zlJ(c_1:Int)(z:Bool)(hm:zeu c_1=some z):Does Tryz.prog 130 [.p (.i .u8 c_1)] [] (fun r X=>r=.p (.b z)∧X=[]):=by
 unfold zeu at hm
 refine dW 0 17 [.tmp 2] Tryz.func130 fun B=>nA fun hA=>?_
 refine qS ?_;obtain⟨r_2,hr_2,hm⟩:=zd hm;obtain⟨r_3,hr_3,hm⟩:=zI hm
 refine rS fun _ hK2=>?_
 refine cX (fun hg=>zfD c_1 _ hr_2) ?_;refine cX (g:=!r_2) (fun hg=>zh0 c_1 _ (hr_3 hg)) (hK2 _ _ ?_);exact wR
theorem zmH(s_1:Str)(most_3:Int)(z:Bool)(hm:zgp s_1 most_3=some z):Does Tryz.prog 129 [.p (.s s_1),.p (.i .i64 most_3),.fn 130 []] [] (fun r X=>r=.p (.b z)∧X=[]):=by
 unfold zgp at hm
 refine dW 0 28 [.tmp 6] Tryz.func129 fun B=>nA fun hA=>?_
 refine qS ?_
 refine Wp.seqW fun K2 hK2 hW2=>?_
 obtain⟨k_4,hk_4,hm⟩:=zj hm
 have hcut2:∀s,k_4 s=some z→K2 [(0,.p (.s s_1)),(1,.p (.i .i64 most_3))] []:=by
  intro s hs;have hm:=hk_4 _ hs;clear hs
  try dsimp only at hm⊢
  exact hK2 _ _ (wQ)
 clear hK2 hk_4;refine qS ?_;refine Wp.block ?_;obtain⟨k_6,hk_6,hm⟩:=zp hm
 refine fL 0 s_1.length fun hl_9=>?_
 refine Wp.forL (fun i_5 s=>[(0,.p (.s s_1)),(1,.p (.i .i64 most_3)),(2,.fn 130 []),(7,.p (.i .i64 (i_5:Int)))]) (fun i_5 s=>[]) wF hm ?_;clear hm;intro i_5 s hii_5 hm
 try dsimp only at hm⊢
 refine Wp.seqW fun _ hK5 _=>qS ?_
 refine Wp.cond rfl ⟨⟩ (fun hc5=>?_) fun hc5=>Wp.exit (hW2 _ _ _ _ wF (hcut2 () (hk_6 _ (zt hm (geN hc5)))))
 have hlt5:=ltN hc5;have hw5:=zn hlt5 hl_9;obtain⟨c_2,nx_7,hxc_2,hyc_2,hnx_7,hm⟩:=zo hm hlt5;clear hxc_2;refine Wp.skip ?_;simp only[zq];refine hK5 _ _ (Wp.seqW fun _ hK7 _=>Wp.block ?_);obtain⟨r_8,hr_8,hm⟩:=zd hm;have hA:=And.intro hw5 hyc_2
 refine rS fun _ hK8=>?_
 refine cX (fun hg=>zlJ (c_2.toNat:Int) _ hr_8) (hK8 _ _ ?_)
 refine cR hm fun hm=>?_
 refine Wp.skip (hK7 _ _ (r6 ?_));exact wN () hlt5 (hnx_7 _ hm)
theorem zdz(s_1:Str)(z:Bool)(hm:zbG s_1=some z):Does Tryz.prog 57 [.p (.s s_1)] [] (fun r X=>r=.p (.b z)∧X=[]):=by
 unfold zbG at hm
 refine dW 0 10 [.tmp 2] Tryz.func57 fun B=>nA fun hA=>?_
 refine qS ?_;obtain⟨r_2,hr_2,hm⟩:=zd hm;obtain⟨c_4,hm⟩:=zh hm;obtain⟨r_3,hr_3,hm⟩:=zI hm
 refine rS fun _ hK2=>?_
 refine cX (fun hg=>zmH s_1 40 _ hr_2) ?_;refine cX (g:=r_2) (fun hg=>zfD ((s_1.getD 0 0).toNat:Int) _ (hr_3 hg)) (hK2 _ _ ?_);exact wR
theorem zoa(z:Bool)(hm:zgj=some z):Does Tryz.prog 10 [] [] (fun r X=>r=.p (.b z)∧X=[]):=by
 unfold zgj at hm
 refine dW 0 2 [.tmp 0] Tryz.func10 fun B=>nA fun hA=>?_
 refine qS ?_;obtain⟨r_1,hr_1,hm⟩:=zd hm
 refine rS fun _ hK2=>?_
 refine cX (fun hg=>zdz ([97]:Str) _ hr_1) (hK2 _ _ ?_);exact wR
theorem zef(s_1:Str)(z:Bool)(hm:zes s_1=some z):Does Tryz.prog 49 [.p (.s s_1)] [] (fun r X=>r=.p (.b z)∧X=[]):=by
 unfold zes at hm
 refine dW 0 54 [.tmp 2] Tryz.func49 fun B=>nA fun hA=>?_
 refine qS ?_
 refine Wp.seqW fun K2 hK2 hW2=>?_
 obtain⟨k_2,hk_2,hm⟩:=zj hm
 have hcut2:∀s,k_2 s=some z→K2 [(0,.p (.s s_1))] []:=by
  intro s hs;have hm:=hk_2 _ hs;clear hs
  try dsimp only at hm⊢
  exact hK2 _ _ (wQ)
 clear hK2 hk_2;refine qS ?_;refine Wp.block ?_;obtain⟨k_5,hk_5,hm⟩:=zp hm
 refine fL 0 s_1.length fun hl_7=>?_
 refine Wp.forL (fun i_3 s=>[(0,.p (.s s_1)),(7,.p (.i .i64 (s_1.length:Int))),(8,.p (.i .i64 (i_3:Int)))]) (fun i_3 s=>[]) wF hm ?_;clear hm;intro i_3 s hii_3 hm
 try dsimp only at hm⊢
 refine qS ?_
 refine Wp.seqW fun _ hK6 _=>Wp.cond rfl ⟨⟩ (fun hc6=>?_) fun hc6=>Wp.exit (hW2 _ _ _ _ wF (hcut2 () (hk_5 _ (zt hm (geN hc6)))))
 have hlt6:=ltN hc6;have hw6:=zn hlt6 hl_7;obtain⟨c_4,nx_6,hxc_4,hyc_4,hnx_6,hm⟩:=zo hm hlt6;clear hxc_4;refine Wp.skip ?_;simp only[zq];refine hK6 _ _ (Wp.seqW fun _ hK7 _=>Wp.block ?_);have hA:=And.intro hw6 hyc_4;refine q6 ?_;refine q6 ?_;refine q6 ?_;refine q6 ?_
 refine cR hm fun hm=>?_
 refine Wp.skip (hK7 _ _ (r6 ?_));exact wN () hlt6 (hnx_6 _ hm)
theorem zb5(bad_1:Bool)(e_2:Int)(z:Int)(hm:zfj bad_1 e_2=some z):Does Tryz.prog 59 [.p (.b bad_1),.p (.i .i64 e_2)] [] (fun r X=>r=.p (.i .i64 z)∧X=[]):=by
 unfold zfj at hm
 refine dW 0 7 [.tmp 4] Tryz.func59 fun B=>nA fun hA=>?_
 refine qS ?_
 refine Wp.seqW fun _ hK2 _=>qS ?_
 refine cR hm fun hm=>?_
 exact Wp.skip (hK2 _ _ (wQ))
theorem zg9(s_1:Str)(z:Bool)(hm:zfl s_1=some z):Does Tryz.prog 61 [.p (.s s_1)] [] (fun r X=>r=.p (.b z)∧X=[]):=by
 unfold zfl at hm
 refine dW 0 23 [.tmp 2] Tryz.func61 fun B=>nA fun hA=>?_
 refine qS ?_
 refine Wp.seqW fun K2 hK2 hW2=>?_
 obtain⟨k_2,hk_2,hm⟩:=zj hm
 have hcut2:∀s,k_2 s=some z→K2 [(0,.p (.s s_1))] []:=by
  intro s hs;have hm:=hk_2 _ hs;clear hs
  try dsimp only at hm⊢
  exact hK2 _ _ (wQ)
 clear hK2 hk_2;refine qS ?_;refine Wp.block ?_;obtain⟨k_5,hk_5,hm⟩:=zp hm
 refine fL 0 s_1.length fun hl_7=>?_
 refine Wp.forL (fun i_3 s=>[(0,.p (.s s_1)),(5,.p (.i .i64 (s_1.length:Int))),(6,.p (.i .i64 (i_3:Int)))]) (fun i_3 s=>[]) wF hm ?_;clear hm;intro i_3 s hii_3 hm
 try dsimp only at hm⊢
 refine qS ?_
 refine Wp.seqW fun _ hK6 _=>Wp.cond rfl ⟨⟩ (fun hc6=>?_) fun hc6=>Wp.exit (hW2 _ _ _ _ wF (hcut2 () (hk_5 _ (zt hm (geN hc6)))))
 have hlt6:=ltN hc6;have hw6:=zn hlt6 hl_7;obtain⟨c_4,nx_6,hxc_4,hyc_4,hnx_6,hm⟩:=zo hm hlt6;clear hxc_4;refine Wp.skip ?_;simp only[zq];refine hK6 _ _ (Wp.seqW fun _ hK7 _=>Wp.block ?_);have hA:=And.intro hw6 hyc_4;refine q6 ?_;refine q6 ?_
 refine cR hm fun hm=>?_
 refine Wp.skip (hK7 _ _ (r6 ?_));exact wN () hlt6 (hnx_6 _ hm)
theorem zdH(i_3:Int)(s_1:Str)(o0_0_2:Str)(z:Int×Str)(hm:zbR i_3 s_1 o0_0_2=some z):Does Tryz.prog 58 [.p (.i .i64 i_3),.p (.s s_1),.ptr 0 0] [.cells 9 [.p (.s o0_0_2)]] (fun r X=>r=.p (.i .i64 z.1)∧X=[.cells 9 [.p (.s z.2)]]):=by
 unfold zbR at hm
 refine dW 1 17 [.tmp 5] Tryz.func58 fun B=>nA fun hA=>?_
 refine qS ?_;refine qS ?_;refine qS ?_;obtain⟨r_4,hr_4,hm⟩:=zd hm
 refine rS fun _ hK4=>?_
 refine cX (fun hg=>zb5 ((decide (0<i_3))&&(zgr s_1 o0_0_2||decide (s_1=o0_0_2))) 7 _ hr_4) (hK4 _ _ ?_);exact wR
theorem zdg(l_1:List Int)(z:Int)(hm:zbY l_1=some z):Does Tryz.prog 60 [.p (.l (List.map zcg l_1))] [] (fun r X=>r=.p (.i .i64 z)∧X=[]):=by
 unfold zbY at hm
 refine dW 0 15 [.tmp 2] Tryz.func60 fun B=>nA fun hA=>?_
 refine qS ?_
 refine Wp.seqW fun K2 hK2 hW2=>?_
 obtain⟨k_3,hk_3,hm⟩:=zj hm
 have hcut2:∀s,k_3 s=some z→K2 [] []:=by
  intro s hs;have hm:=hk_3 _ hs;clear hs
  try dsimp only at hm⊢
  exact hK2 _ _ (wQ)
 clear hK2 hk_3;refine qS ?_;refine Wp.block ?_;obtain⟨k_5,hk_5,hm⟩:=zp hm
 refine fL 5 l_1.length fun hl_7=>?_
 refine Wp.forL (fun i_4 s=>[(5,.p (.l (List.map zcg l_1))),(6,.p (.i .i64 (l_1.length:Int))),(7,.p (.i .i64 (i_4:Int)))]) (fun i_4 s=>[]) wF hm ?_;clear hm;intro i_4 s hii_4 hm
 try dsimp only at hm⊢
 refine qS ?_
 refine Wp.seqW fun _ hK6 _=>Wp.cond rfl ⟨⟩ (fun hc6=>?_) fun hc6=>Wp.exit (hW2 _ _ _ _ wF (hcut2 () (hk_5 _ (zt hm (geN hc6)))))
 have hlt6:=ltN hc6;have hw6:=zn hlt6 hl_7;obtain⟨e_2,nx_6,hxe_2,hye_2,hnx_6,hm⟩:=zo hm hlt6;replace hxe_2:=hxe_2 zcg;refine Wp.skip ?_;simp only[zq];refine hK6 _ _ (Wp.seqW fun _ hK7 _=>Wp.block ?_);have hA:=And.intro hw6 hxe_2;refine q6 ?_;refine q6 ?_
 refine cR hm fun hm=>?_
 refine Wp.skip (hK7 _ _ (r6 ?_));exact wN () hlt6 (hnx_6 _ hm)
theorem zbp(s_1:Str)(c_2:Int)(z:Int)(hm:zR s_1 c_2=some z):Does Tryz.prog 300 [.p (.s s_1),.p (.i .u8 c_2)] [] (fun r X=>r=.p (.i .i64 z)∧X=[]):=by
 unfold zR at hm
 refine dW 0 8 [.tmp 4] Tryz.func300 fun B=>nA fun hA=>?_
 refine qS ?_;have hb_3:=ixByte_bd s_1 c_2
 refine Wp.seqR fun K2 hK2=>?_
 simp only[go_sem,simprocAttr]
 try refine⟨sd,?_⟩
 refine Rg.callN (av:=?av3) (g:=true) (fun hg=>nv_321 s_1 c_2) si si si sg si ?cont3;intro hv3;simp only[go_sem,simprocAttr];refine kA hK2 ?_;exact wR
theorem zb4(s_2:Str)(substr_3:Str)(z:Int)(hm:zac s_2 substr_3=some z):Does Tryz.prog 268 [.p (.s s_2),.p (.s substr_3)] [] (fun r X=>r=.p (.i .i64 z)∧X=[]):=by
 unfold zac at hm
 refine dW 0 143 [.tmp 4] Tryz.func268 fun B=>nA fun hA=>?_
 refine qS ?_;refine qS ?_
 refine Wp.seqW fun _ _ _=>Wp.block (qS ?_)
 refine cR hm fun hm=>?_
 refine qS ?_
 refine cN hm (fun hm=>?_) fun hm=>?_
 ·obtain⟨c_1,hbc_1,hxc_1,hm⟩:=zbf hm
  replace hxc_1:((substr_3.getD 0 0).toNat:Int)=c_1:=hxc_1;obtain⟨r_4,hr_4,hm⟩:=zd hm;have hA:=hxc_1
  refine rS fun _ hK9=>?_
  refine cX (fun hg=>zbp s_2 c_1 _ hr_4) (hK9 _ _ ?_);exact wR
 ·refine qS ?_
  refine cR hm fun hm=>?_
  cases hm
theorem zb3(s_1:Str)(substr_2:Str)(z:Int)(hm:za1 s_1 substr_2=some z):Does Tryz.prog 232 [.p (.s s_1),.p (.s substr_2)] [] (fun r X=>r=.p (.i .i64 z)∧X=[]):=by
 unfold za1 at hm
 refine dW 0 8 [.tmp 4] Tryz.func232 fun B=>nA fun hA=>?_
 refine qS ?_;obtain⟨r_3,hr_3,hm⟩:=zd hm
 refine rS fun _ hK2=>?_
 refine cX (fun hg=>zb4 s_1 substr_2 _ hr_3) (hK2 _ _ ?_);exact wR
theorem zkD(s_3:Str)(substr_2:Str)(z:Int)(hm:zdv s_3 substr_2=some z):Does Tryz.prog 231 [.p (.s s_3),.p (.s substr_2)] [] (fun r X=>r=.p (.i .i64 z)∧X=[]):=by
 unfold zdv at hm
 refine dW 0 34 [.tmp 4] Tryz.func231 fun B=>nA fun hA=>?_
 refine qS ?_
 refine Wp.seqW fun _ hK2 _=>qS ?_
 refine cN hm (fun hm=>?_) fun hm=>?_
 ·cases hm
 ·refine Wp.skip (hK2 _ _ (Wp.seqW fun _ hK5 _=>qS ?_))
  refine cN hm (fun hm=>?_) fun hm=>?_
  ·obtain⟨c_1,hbc_1,hxc_1,hm⟩:=zbf hm
   replace hxc_1:((substr_2.getD 0 0).toNat:Int)=c_1:=hxc_1;have hb_8:=zns s_3 c_1;have hA:=hxc_1
   refine Wp.seqR fun K8 hK8=>?_
   simp only[go_sem,simprocAttr,hA]
   try refine⟨sd,?_⟩
   refine Rg.callN (av:=?av9) (g:=true) (fun hg=>nv_267 s_3 c_1) (by simp only[go_sem,simprocAttr,hA];exact Is.mk) (by simp only[go_sem,simprocAttr,hA];exact Is.mk) (by simp only[go_sem,simprocAttr,hA];exact Is.mk) (by simp only[go_sem,simprocAttr,hA]) (by simp only[go_sem,simprocAttr,hA];exact Is.mk) ?cont9;intro hv9;simp only[go_sem,simprocAttr,hA];refine kA hK8 ?_;exact wR
  ·refine Wp.skip (hK5 _ _ (qS ?_))
   refine Wp.block ?_;obtain⟨k_6,hk_6,hm⟩:=zaA hm;refine Wp.loopN (fun s=>[(0,.p (.s s.1)),(1,.p (.s substr_2)),(4,.p (.i .i64 0)),(5,.p (.i .i64 s.2))]) (fun s=>[]) ?_ hm ?_
   ·exact zbD
   clear hm;intro s nx_9 hm;obtain⟨s_5,n_7⟩:=s
   try dsimp only at hm⊢
   refine Wp.block ?_;obtain⟨r_4,hr_4,hm⟩:=zd hm
   refine rS fun _ hK11=>?_
   refine cX (fun hg=>zb3 s_5 substr_2 _ hr_4) (hK11 _ _ ?_)
   refine Wp.seqW fun _ hK13 _=>qS ?_
   refine cR hm fun hm=>?_
   refine Wp.skip (hK13 _ _ (qS ?_));obtain⟨c_10,hm⟩:=zh hm;refine r6 ?_;simp only[zq,zD,↓reduceIte];refine⟨(List.drop ((IntKind.i64.wrap (r_4+(substr_2.length:Int))).toNat) s_5,IntKind.i64.wrap (n_7+1)),hm,?_⟩;exact zbD
theorem ze6(s_2:Str)(sep_1:Str)(sepSave_3:Int)(n_9:Int)(z:List Str)(hm:zaK s_2 sep_1 sepSave_3 n_9=some z):Does Tryz.prog 182 [.p (.s s_2),.p (.s sep_1),.p (.i .i64 sepSave_3),.p (.i .i64 n_9)] [] (fun r X=>r=.p (.l (List.map ecS z))∧X=[]):=by
 unfold zaK at hm
 refine dW 0 66 [.tmp 8] Tryz.func182 fun B=>nA fun hA=>?_
 refine qS ?_
 refine Wp.seqW fun _ hK2 _=>qS ?_
 refine cN hm (fun hm=>?_) fun hm=>?_
 ·refine qS ?_
  refine Wp.ret ?_;simp only[zq,zD];refine zO ?_;cases hm;exact zbD
 ·refine Wp.skip (hK2 _ _ (Wp.seqW fun _ hK6 _=>qS ?_))
  refine cN hm (fun hm=>?_) fun hm=>?_
  ·cases hm
  ·refine Wp.skip (hK6 _ _ (Wp.seqW fun K9 hK9 hW9=>?_))
   obtain⟨k_5,hk_5,hm⟩:=zj hm
   have hcut9:∀s,k_5 s=some z→K9 [(0,.p (.s s_2)),(1,.p (.s sep_1)),(2,.p (.i .i64 sepSave_3)),(3,.p (.i .i64 s))] []:=by
    intro n_13 hs;have hm:=hk_5 _ hs;clear hs
    try dsimp only at hm⊢
    refine hK9 _ _ (qS ?_);obtain⟨c_14,hm⟩:=zh hm;refine q6 ?_;refine qS ?_;refine qS ?_
    refine Wp.seqW fun K14 hK14 hW14=>?_
    obtain⟨k_6,hk_6,hm⟩:=zj hm
    have hcut14:∀s,k_6 s=some z→K14 [(0,.p (.s s.1)),(9,.buf 0),(10,.p (.i .i64 s.2.1))] [.buf 9 1 (List.map ecS s.2.2)]:=by
     intro s hs;have hm:=hk_6 _ hs;clear hs;obtain⟨s_15,i_16,o0_17⟩:=s
     try dsimp only at hm⊢
     refine hK14 _ _ ?_;obtain⟨c_18,hm⟩:=zh hm;refine q6 ?_;refine Wp.freeze 0 (by simp only[go_sem,simprocAttr];exact Is.mk) (by first|(simp only[go_sem,simprocAttr];done)|(simp only[go_sem,simprocAttr];omega)) ?_;simp only[go_sem,simprocAttr];obtain⟨c_19,hm⟩:=zh hm;exact wQ
    clear hK14 hk_6;refine Wp.block ?_;obtain⟨k_10,hk_10,hm⟩:=zaA hm;refine Wp.loopN (fun s=>[(0,.p (.s s.1)),(1,.p (.s sep_1)),(2,.p (.i .i64 sepSave_3)),(3,.p (.i .i64 (IntKind.i64.wrap ((min n_13 (IntKind.i64.wrap ((s_2.length:Int)+1)))-1)))),(9,.buf 0),(10,.p (.i .i64 s.2.1))]) (fun s=>[.buf 9 1 (List.map ecS s.2.2)]) ?_ hm ?_
    ·exact zbD
    clear hm;intro s nx_20 hm;obtain⟨s_4,i_7,o0_11⟩:=s
    try dsimp only at hm⊢
    refine Wp.seqW fun _ hK17 _=>qS ?_
    refine cN hm (fun hm=>?_) fun hm=>?_
    ·refine Wp.skip (hK17 _ _ (Wp.block ?_))
     obtain⟨r_8,hr_8,hm⟩:=zd hm
     refine rS fun _ hK20=>?_
     refine cX (fun hg=>zb3 s_4 sep_1 _ hr_8) (hK20 _ _ ?_)
     refine Wp.seqW fun _ hK22 _=>qS ?_
     refine cN hm (fun hm=>?_) fun hm=>?_
     ·refine Wp.exit ?_
      simp only[zq,zD,↓reduceIte];have hm:=hk_10 _ hm
      try dsimp only at hm
      refine hW14 _ _ _ _ ?_ (hcut14 (s_4,i_7,o0_11) hm);exact zbD
     ·refine Wp.skip (hK22 _ _ ?_)
      obtain⟨c_21,hm⟩:=zh hm;obtain⟨c_22,hm⟩:=zh hm;refine q6 ?_;obtain⟨c_23,hm⟩:=zh hm;refine q6 ?_;refine qR ?_;simp only[zq,zD,↓reduceIte];refine⟨(List.drop ((IntKind.i64.wrap (r_8+(sep_1.length:Int))).toNat) s_4,IntKind.i64.wrap (i_7+1),List.set o0_11 i_7.toNat (List.take ((IntKind.i64.wrap (r_8+sepSave_3)).toNat) s_4)),hm,?_⟩;exact zbD
    ·refine Wp.exit ?_
     simp only[zq,zD,↓reduceIte];have hm:=hk_10 _ hm
     try dsimp only at hm
     refine hW14 _ _ _ _ ?_ (hcut14 (s_4,i_7,o0_11) hm);exact zbD
   clear hK9 hk_5;refine qS ?_
   refine cN hm (fun hm=>?_) fun hm=>?_
   ·obtain⟨r_12,hr_12,hm⟩:=zd hm
    refine rE fun _ hK30=>?_
    refine cX (fun hg=>zkD s_2 sep_1 _ hr_12) (hK30 _ _ ?_);refine hW9 _ _ _ _ ?_ (hcut9 (IntKind.i64.wrap (r_12+1)) hm);exact zbD
   ·refine Wp.skip (hW9 _ _ _ _ ?_ (hcut9 n_9 hm))
    exact zbD
theorem zb2(s_1:Str)(sep_2:Str)(z:List Str)(hm:za0 s_1 sep_2=some z):Does Tryz.prog 186 [.p (.s s_1),.p (.s sep_2)] [] (fun r X=>r=.p (.l (List.map ecS z))∧X=[]):=by
 unfold za0 at hm
 refine dW 0 8 [.tmp 4] Tryz.func186 fun B=>nA fun hA=>?_
 refine qS ?_;obtain⟨r_3,hr_3,hm⟩:=zd hm
 refine rS fun _ hK2=>?_
 refine cF (ze6 s_1 sep_2 0 (-1) _ hr_3) (hK2 _ _ ?_);exact wR
theorem ok_R_isPart(s_1:Str)(z:Bool)(hm:zjy s_1=some z):Does Tryz.prog 199 [.p (.s s_1)] [] (fun r X=>r=.p (.b z)∧X=[]):=by
 unfold zjy at hm
 refine dW 0 63 [.tmp 2] Tryz.func199 fun B=>nA fun hA=>?_
 refine qS ?_
 refine Wp.seqW fun K2 hK2 hW2=>?_
 obtain⟨k_2,hk_2,hm⟩:=zj hm
 have hcut2:∀s,k_2 s=some z→K2 [(0,.p (.s s_1))] []:=by
  intro s hs;have hm:=hk_2 _ hs;clear hs
  try dsimp only at hm⊢
  exact hK2 _ _ (wQ)
 clear hK2 hk_2;refine qS ?_;refine Wp.block ?_;obtain⟨k_5,hk_5,hm⟩:=zp hm
 refine fL 0 s_1.length fun hl_7=>?_
 refine Wp.forL (fun i_3 s=>[(0,.p (.s s_1)),(6,.p (.i .i64 (s_1.length:Int))),(7,.p (.i .i64 (i_3:Int)))]) (fun i_3 s=>[]) wF hm ?_;clear hm;intro i_3 s hii_3 hm
 try dsimp only at hm⊢
 refine qS ?_
 refine Wp.seqW fun _ hK6 _=>Wp.cond rfl ⟨⟩ (fun hc6=>?_) fun hc6=>Wp.exit (hW2 _ _ _ _ wF (hcut2 () (hk_5 _ (zt hm (geN hc6)))))
 have hlt6:=ltN hc6;have hw6:=zn hlt6 hl_7;obtain⟨c_4,nx_6,hxc_4,hyc_4,hnx_6,hm⟩:=zo hm hlt6;clear hxc_4;refine Wp.skip ?_;simp only[zq];refine hK6 _ _ (Wp.seqW fun _ hK7 _=>Wp.block ?_);have hA:=And.intro hw6 hyc_4;refine q6 ?_;refine q6 ?_;refine q6 ?_
 refine cR hm fun hm=>?_
 refine Wp.skip (hK7 _ _ (r6 ?_));exact wN () hlt6 (hnx_6 _ hm)
theorem ze9(s_2:Str)(z:Bool)(hm:zeY s_2=some z):Does Tryz.prog 133 [.p (.s s_2)] [] (fun r X=>r=.p (.b z)∧X=[]):=by
 unfold zeY at hm
 refine dW 0 19 [.tmp 2] Tryz.func133 fun B=>nA fun hA=>?_
 refine qS ?_
 refine Wp.seqW fun K2 hK2 hW2=>?_
 obtain⟨k_4,hk_4,hm⟩:=zj hm
 have hcut2:∀s,k_4 s=some z→K2 [(0,.p (.s s_2))] []:=by
  intro s hs;have hm:=hk_4 _ hs;clear hs
  try dsimp only at hm⊢
  exact hK2 _ _ (wQ)
 clear hK2 hk_4;obtain⟨r_3,hr_3,hm⟩:=zd hm
 refine rS fun _ hK4=>?_
 refine cF (zb2 s_2 ([47]:Str) _ hr_3) (hK4 _ _ ?_);refine Wp.block ?_;obtain⟨k_6,hk_6,hm⟩:=zp hm
 refine fL 6 r_3.length fun hl_9=>?_
 refine Wp.forL (fun i_5 s=>[(0,.p (.s s_2)),(6,.p (.l (List.map ecS r_3))),(7,.p (.i .i64 (r_3.length:Int))),(8,.p (.i .i64 (i_5:Int)))]) (fun i_5 s=>[]) wF hm ?_;clear hm;intro i_5 s hii_5 hm
 try dsimp only at hm⊢
 refine qS ?_
 refine Wp.seqW fun _ hK7 _=>Wp.cond rfl ⟨⟩ (fun hc7=>?_) fun hc7=>Wp.exit (hW2 _ _ _ _ wF (hcut2 () (hk_6 _ (zt hm (geN hc7)))))
 have hlt7:=ltN hc7;have hw7:=zn hlt7 hl_9;obtain⟨s_1,nx_7,hxs_1,hys_1,hnx_7,hm⟩:=zo hm hlt7;replace hxs_1:=hxs_1 ecS;refine Wp.skip ?_;simp only[zq];refine hK7 _ _ (Wp.seqW fun _ hK8 _=>Wp.block ?_);have hA:=And.intro hw7 hxs_1;refine q6 ?_;obtain⟨r_8,hr_8,hm⟩:=zd hm
 refine rS fun _ hK10=>?_
 refine cX (fun hg=>ok_R_isPart s_1 _ hr_8) (hK10 _ _ ?_)
 refine cR hm fun hm=>?_
 refine Wp.skip (hK8 _ _ (r6 ?_));exact wN () hlt7 (hnx_7 _ hm)
theorem zh3(f_1:api_File)(z:Int)(hm:zel f_1=some z):Does Tryz.prog 62 [.agg [.p (.s f_1.Path),.p (.s f_1.Data),.p (.b f_1.Runs)]] [] (fun r X=>r=.p (.i .i64 z)∧X=[]):=by
 unfold zel at hm
 refine dW 0 15 [.tmp 2] Tryz.func62 fun B=>nA fun hA=>?_
 refine qS ?_;obtain⟨r_2,hr_2,hm⟩:=zd hm;obtain⟨r_3,hr_3,hm⟩:=zd hm;obtain⟨r_4,hr_4,hm⟩:=zd hm;obtain⟨r_5,hr_5,hm⟩:=zd hm
 refine dS (pl [(0,none),(1,none),(2,none),(3,none),(4,none),(5,none),(6,none),(7,none),(8,none),(9,none),(10,some []),(11,none),(12,none)]) fun _ hK2=>?_
 refine cD (fun hg=>ze9 f_1.Path _ hr_2) ?_;refine cD (fun hg=>zb5 (!r_2) 5 _ hr_3) ?_;refine cD (fun hg=>zb5 (decide (65536<(f_1.Data.length:Int))) 4 _ hr_4) ?_;refine cD (fun hg=>zdg [r_3,r_4] _ hr_5) (hK2 _ _ ?_);exact wR
theorem zfS(s_1:api_Setting)(z:Int)(hm:zca s_1=some z):Does Tryz.prog 63 [.agg [.p (.s s_1.Key),.p (.s s_1.Value)]] [] (fun r X=>r=.p (.i .i64 z)∧X=[]):=by
 unfold zca at hm
 refine dW 0 15 [.tmp 2] Tryz.func63 fun B=>nA fun hA=>?_
 refine qS ?_;obtain⟨r_2,hr_2,hm⟩:=zd hm;obtain⟨r_3,hr_3,hm⟩:=zd hm;obtain⟨r_4,hr_4,hm⟩:=zd hm;obtain⟨r_5,hr_5,hm⟩:=zd hm;obtain⟨r_6,hr_6,hm⟩:=zd hm
 refine dS (pl [(0,none),(1,none),(2,none),(3,none),(4,none),(5,none),(6,none),(7,none),(8,none),(9,none),(10,some []),(11,none),(12,none)]) fun _ hK2=>?_
 refine cD (fun hg=>ze9 s_1.Key _ hr_2) ?_;refine cD (fun hg=>zb5 (!r_2) 5 _ hr_3) ?_;refine cD (fun hg=>zg9 s_1.Value _ hr_4) ?_;refine cD (fun hg=>zb5 (!r_4) 2 _ hr_5) ?_;refine cD (fun hg=>zdg [r_3,r_5] _ hr_6) (hK2 _ _ ?_);exact wR
theorem zfT(s_1:api_Service)(z:Int)(hm:zcb s_1=some z):Does Tryz.prog 64 [.agg [.p (.s s_1.Name),.p (.s s_1.Path),.p (.b s_1.Auto),.p (.b s_1.On)]] [] (fun r X=>r=.p (.i .i64 z)∧X=[]):=by
 unfold zcb at hm
 refine dW 0 14 [.tmp 2] Tryz.func64 fun B=>nA fun hA=>?_
 refine qS ?_;obtain⟨r_2,hr_2,hm⟩:=zd hm;obtain⟨r_3,hr_3,hm⟩:=zI hm;obtain⟨r_4,hr_4,hm⟩:=zd hm
 refine rS fun _ hK2=>?_
 refine cX (fun hg=>zef s_1.Name _ hr_2) ?_;refine cX (g:=!(!r_2)) (fun hg=>ze9 s_1.Path _ (hr_3 hg)) ?_;refine cX (fun hg=>zb5 ((!r_2)||(!r_3)) 5 _ hr_4) (hK2 _ _ ?_);exact wR
end Go.Proofs.YtbofknpajcdnmaaGreatDoor
