/- That the code does what the models say (part 10). -/
import Derived.Test.YtbofknpajcdnmaaGreatDoorLkWk0
import Derived.Test.YtbofknpajcdnmaaGreatDoorLkWk1
import Derived.Test.YtbofknpajcdnmaaGreatDoorLkWk7
import Derived.Test.YtbofknpajcdnmaaGreatDoorLkWk8
import Derived.Test.YtbofknpajcdnmaaGreatDoorLkWk9
set_option linter.unusedSimpArgs false
set_option linter.unusedVariables false
open Go.Proofs Go.Shelf
namespace Go.Proofs.YtbofknpajcdnmaaGreatDoor
open Go.Vc Go.Md
set_option maxRecDepth 100000
set_option maxHeartbeats 4000000
theorem ok_R_Unquote(s_5:Str)(z:Str×Int)(hm:zho s_5=some z):Does Tryz.prog 244 [.p (.s s_5)] [] (fun r X=>r=.tup [.p (.s z.1),.p (.i .i64 z.2)]∧X=[]):=by
 unfold zho at hm
 refine dW 0 107 [.tmp 2,.tmp 3] Tryz.func244 fun B=>nA fun hA=>?_
 refine qS ?_
 refine Wp.seqW fun _ hK2 _=>?_
 obtain⟨c_12,hm⟩:=zh hm;obtain⟨c_13,hm⟩:=zh hm;refine q6 ?_
 refine cR hm fun hm=>?_
 refine Wp.skip (hK2 _ _ (qS ?_))
 refine Wp.seqW fun K7 hK7 hW7=>?_
 obtain⟨k_6,hk_6,hm⟩:=zj hm
 have hcut7:∀s,k_6 s=some z→K7 [(0,.p (.s s_5)),(4,.buf 0)] [.buf 5 1 (List.map zar s)]:=by
  intro o0_11 hs;have hm:=hk_6 _ hs;clear hs
  try dsimp only at hm⊢
  refine hK7 _ _ (Wp.seqW fun _ hK8 _=>?_);obtain⟨r_9,hr_9,hm⟩:=zd hm
  refine rS fun _ hK9=>?_
  refine cX (fun hg=>zjW (Go.Vc.strOf o0_11) _ hr_9) (hK9 _ _ ?_)
  refine cR hm fun hm=>?_
  exact Wp.skip (hK8 _ _ (wQ))
 clear hK7 hk_6;obtain⟨c_14,hm⟩:=zh hm;refine q6 ?_;refine Wp.block (Wp.adoptF 4 5 1 rfl ?_);simp only[go_sem,simprocAttr];obtain⟨k_10,hk_10,hm⟩:=zaA hm;refine Wp.loopN (fun s=>[(0,.p (.s s_5)),(4,.buf 0),(5,.p (.s s.1))]) (fun s=>[.buf 5 1 (List.map zar s.2)]) ?_ hm ?_
 ·exact zf5
 clear hm;intro s nx_15 hm;obtain⟨b_1,o0_4⟩:=s
 try dsimp only at hm⊢
 refine Wp.seqW fun _ hK15 _=>qS ?_
 refine cN hm (fun hm=>?_) fun hm=>?_
 ·refine Wp.skip (hK15 _ _ (Wp.block (Wp.seqW fun _ hK18 _=>?_)))
  obtain⟨c_2,hbc_2,hxc_2,hm⟩:=zbf hm;replace hxc_2:((b_1.getD 0 0).toNat:Int)=c_2:=hxc_2;have hA:=hxc_2;refine q6 ?_
  refine cN hm (fun hm=>?_) fun hm=>?_
  ·obtain⟨c_16,hm⟩:=zh hm
   refine q6 ?_;obtain⟨c_17,hm⟩:=zh hm;refine q6 ?_;refine Wp.exit ?_;simp only[zq,zD,↓reduceIte];refine⟨(List.drop 1 b_1,o0_4++[c_2]),hm,?_⟩;simp only[go_sem,simprocAttr,hA]
   try exact se4
  ·refine Wp.skip (hK18 _ _ (Wp.block ?_))
   obtain⟨c_18,hm⟩:=zh hm;obtain⟨c_19,hm⟩:=zh hm;refine q6 ?_
   refine cN hm (fun hm=>?_) fun hm=>?_
   ·obtain⟨c_3,hbc_3,hxc_3,hm⟩:=zbf hm
    replace hxc_3:((b_1.getD 1 0).toNat:Int)=c_3:=hxc_3;obtain⟨c_20,hm⟩:=zh hm;have hA:=And.intro hxc_2 hxc_3;refine q6 ?_;obtain⟨c_21,hm⟩:=zh hm;refine r6 ?_;simp only[zq,zD,↓reduceIte];refine⟨(List.drop 2 b_1,o0_4++[c_3]),hm,?_⟩;simp only[go_sem,simprocAttr,hA]
    try exact se4
   ·obtain⟨c_22,hm⟩:=zh hm
    refine q6 ?_
    refine cN hm (fun hm=>?_) fun hm=>?_
    ·obtain⟨c_23,hm⟩:=zh hm
     refine q6 ?_;obtain⟨c_24,hm⟩:=zh hm;refine r6 ?_;simp only[zq,zD,↓reduceIte];refine⟨(List.drop 2 b_1,o0_4++[10]),hm,?_⟩;simp only[go_sem,simprocAttr,hA]
     try exact se4
    ·obtain⟨c_25,hm⟩:=zh hm
     refine q6 ?_
     refine cT hm fun hm=>?_
     obtain⟨c_26,hm⟩:=zh hm;obtain⟨r_7,hr_7,hm⟩:=zd hm;obtain⟨c_27,hm⟩:=zh hm;obtain⟨r_8,hr_8,hm⟩:=zd hm
     refine dS (pl [(0,none),(1,none),(2,none),(3,none),(4,none),(5,none),(6,none),(7,none),(8,none)]) fun _ hK33=>?_
     refine cD (fun hg=>zb3 ([48,49,50,51,52,53,54,55,56,57,97,98,99,100,101,102]:Str) (List.take (3-2) (List.drop 2 b_1)) _ hr_7) ?_;refine cD (fun hg=>zb3 ([48,49,50,51,52,53,54,55,56,57,97,98,99,100,101,102]:Str) (List.take (4-3) (List.drop 3 b_1)) _ hr_8) (hK33 _ _ ?_);obtain⟨c_28,hm⟩:=zh hm;refine q6 ?_;obtain⟨c_29,hm⟩:=zh hm;refine r6 ?_;simp only[zq,zD,↓reduceIte];refine⟨(List.drop 4 b_1,o0_4++[IntKind.u8.wrap (IntKind.i64.wrap ((IntKind.i64.wrap (r_7*16))+r_8))]),hm,?_⟩;simp only[go_sem,simprocAttr,hA]
     try exact se4
 ·refine Wp.exit ?_
  simp only[zq,zD,↓reduceIte];have hm:=hk_10 _ hm
  try dsimp only at hm
  refine hW7 _ _ _ _ ?_ (hcut7 o0_4 hm);exact zf5
theorem ok_R_quoted(s_1:Str)(z:Str×Str×Bool)(hm:zjx s_1=some z):Does Tryz.prog 191 [.p (.s s_1)] [] (fun r X=>r=.tup [.p (.s z.1),.p (.s z.2.1),.p (.b z.2.2)]∧X=[]):=by
 unfold zjx at hm
 refine dW 0 30 [.tmp 2,.tmp 3,.tmp 4] Tryz.func191 fun B=>nA fun hA=>?_
 refine qS ?_;obtain⟨r_2,hr_2,hm⟩:=zd hm
 refine rS fun _ hK2=>?_
 refine cX (fun hg=>zcV s_1 ([32]:Str) _ hr_2) (hK2 _ _ ?_);obtain⟨r_3,hr_3,hm⟩:=zd hm
 refine rS fun _ hK4=>?_
 refine cX (fun hg=>ok_R_Unquote r_2.2.1 _ hr_3) (hK4 _ _ ?_);exact wQ
theorem zin(s_1:Str)(substr_2:Str)(z:Bool)(hm:zbZ s_1 substr_2=some z):Does Tryz.prog 192 [.p (.s s_1),.p (.s substr_2)] [] (fun r X=>r=.p (.b z)∧X=[]):=by
 unfold zbZ at hm
 refine dW 0 9 [.tmp 4] Tryz.func192 fun B=>nA fun hA=>?_
 refine qS ?_;obtain⟨r_3,hr_3,hm⟩:=zd hm
 refine rS fun _ hK2=>?_
 refine cX (fun hg=>zb3 s_1 substr_2 _ hr_3) (hK2 _ _ ?_);exact wR
theorem zmK(w_1:List Str)(z:api_Service×Bool)(hm:zfk w_1=some z):Does Tryz.prog 193 [.p (.l (List.map ecS w_1))] [] (fun r X=>r=.tup [.agg [.p (.s z.1.Name),.p (.s z.1.Path),.p (.b z.1.Auto),.p (.b z.1.On)],.p (.b z.2)]∧X=[]):=by
 unfold zfk at hm
 refine dW 0 59 [.cell 2 42,.tmp 3] Tryz.func193 fun B=>nA fun hA=>?_
 refine qS ?_
 refine Wp.seqW fun _ hK2 _=>?_
 obtain⟨c_10,hm⟩:=zh hm;obtain⟨c_11,hm⟩:=zh hm;obtain⟨c_12,hm⟩:=zh hm;obtain⟨c_13,hm⟩:=zh hm;obtain⟨c_14,hm⟩:=zh hm;obtain⟨c_15,hm⟩:=zh hm;have hr_6:=zdM (l:=w_1) (e:=ecS) (d:=[]) (i:=0);simp only[ecS,List.map_nil]at hr_6;have hr_7:=zdM (l:=w_1) (e:=ecS) (d:=[]) (i:=1);simp only[ecS,List.map_nil]at hr_7;have hr_8:=zdM (l:=w_1) (e:=ecS) (d:=[]) (i:=2);simp only[ecS,List.map_nil]at hr_8;have hr_9:=zdM (l:=w_1) (e:=ecS) (d:=[]) (i:=3);simp only[ecS,List.map_nil]at hr_9;have hA:=And.intro hr_6 (And.intro hr_7 (And.intro hr_8 hr_9));refine q6 ?_
 refine cR hm fun hm=>?_
 refine Wp.skip (hK2 _ _ ?_);obtain⟨s_2,hbs_2,hxs_2,hys_2,hm⟩:=zbt hm;replace hxs_2:∀d,(List.map ecS w_1).getD 0 d=ecS s_2:=hxs_2 ecS;obtain⟨s_3,hbs_3,hxs_3,hys_3,hm⟩:=zbt hm;replace hxs_3:∀d,(List.map ecS w_1).getD 1 d=ecS s_3:=hxs_3 ecS;obtain⟨s_4,hbs_4,hxs_4,hys_4,hm⟩:=zbt hm;replace hxs_4:∀d,(List.map ecS w_1).getD 2 d=ecS s_4:=hxs_4 ecS;obtain⟨s_5,hbs_5,hxs_5,hys_5,hm⟩:=zbt hm;replace hxs_5:∀d,(List.map ecS w_1).getD 3 d=ecS s_5:=hxs_5 ecS;have hA:=And.intro hxs_2 (And.intro hxs_3 (And.intro hxs_4 hxs_5))
 refine dS (pl [(0,none),(1,none),(2,none),(3,none),(4,none),(5,none),(6,none),(7,none),(8,none),(9,none),(10,none),(11,none),(12,none),(13,none),(14,none),(15,some []),(16,none)]) fun _ hK6=>hK6 _ _ ?_
 exact wR
theorem zn8(l_4:Str)(z:api_Change×Bool)(hm:zgh l_4=some z):Does Tryz.prog 118 [.p (.s l_4)] [] (fun r X=>r=.tup [.agg [.p (.i .i64 z.1.Kind),.p (.s z.1.File.Path),.p (.s z.1.File.Data),.p (.b z.1.File.Runs),.p (.s z.1.Setting.Key),.p (.s z.1.Setting.Value),.p (.s z.1.Service.Name),.p (.s z.1.Service.Path),.p (.b z.1.Service.Auto),.p (.b z.1.Service.On)],.p (.b z.2)]∧X=[]):=by
 unfold zgh at hm
 refine dW 0 80 [.cell 2 44,.tmp 3] Tryz.func118 fun B=>nA fun hA=>?_
 refine qS ?_;obtain⟨r_1,hr_1,hm⟩:=zd hm
 refine rS fun _ hK2=>?_
 refine cX (fun hg=>zcV l_4 ([32]:Str) _ hr_1) (hK2 _ _ ?_);obtain⟨r_2,hr_2,hm⟩:=zd hm
 refine rS fun _ hK4=>?_
 refine cX (fun hg=>ok_R_quoted r_1.2.1 _ hr_2) (hK4 _ _ ?_);obtain⟨r_5,hr_5,hm⟩:=zI hm
 refine rS fun _ hK6=>?_
 refine cX (g:=!decide (r_1.2.1=[])) (fun hg=>zin r_1.2.1 ([32]:Str) _ (hr_5 hg)) (hK6 _ _ ?_)
 refine Wp.seqW fun _ hK8 _=>qS ?_
 refine Wp.block (Wp.seqW fun K10 hK10 hW10=>?_);obtain⟨k_3,hk_3,hm⟩:=zj hm
 have hcut10:∀s,k_3 s=some z→K10 [(2,.ptr 0 0),(4,.p (.s r_1.1)),(5,.p (.s r_1.2.1)),(7,.p (.s r_2.1)),(8,.p (.s r_2.2.1)),(9,.p (.b r_2.2.2)),(10,.p (.b ((!decide (r_1.2.1=[]))&&(!r_5)))),(32,.p (.s r_1.1)),(33,.p (.b s))] [.cells 44 [.p (.i .i64 0),.p (.s []),.p (.s []),.p (.b false),.p (.s []),.p (.s []),.p (.s []),.p (.s []),.p (.b false),.p (.b false)]]:=by
  intro t33_8 hs;have hm:=hk_3 _ hs;clear hs
  try dsimp only at hm⊢
  refine hK10 _ _ (cR hm fun hm=>?_);refine qS ?_
  refine cR hm fun hm=>?_
  refine qS ?_
  refine cR hm fun hm=>?_
  refine qS ?_
  refine cR hm fun hm=>?_
  refine qS ?_
  refine cN hm (fun hm=>?_) fun hm=>?_
  ·obtain⟨r_6,hr_6,hm⟩:=zd hm
   obtain⟨r_7,hr_7,hm⟩:=zd hm
   refine rS fun _ hK24=>?_
   refine cF (zb2 r_1.2.1 ([32]:Str) _ hr_6) ?_;refine cX (fun hg=>zmK r_6 _ hr_7) (hK24 _ _ ?_);exact wQ
  ·refine qS ?_
   refine cR hm fun hm=>?_
   exact Wp.skip (hK8 _ _ (wQ))
 clear hK10 hk_3;refine qS ?_
 refine cN hm (fun hm=>?_) fun hm=>?_
 ·refine Wp.skip (hW10 _ _ _ _ ?_ (hcut10 (decide (r_1.1=([112,117,116]:Str))) hm))
  exact zf5
 ·refine qR ?_
  refine hW10 _ _ _ _ ?_ (hcut10 (decide (r_1.1=([112,117,116,114,117,110]:Str))) hm);exact zf5
theorem zdZ(word_9:Str)(o0_0_1:Int)(o1_0_3:List Str)(z:List api_Change×Bool×Int)(hm:zal word_9 o0_0_1 o1_0_3=some z):Does Tryz.prog 116 [.p (.s word_9),.ptr 0 0,.ptr 1 0] [.cells 3 [.p (.i .i64 o0_0_1)],.cells 155 [.p (.l (List.map ecS o1_0_3))]] (fun r X=>r=.tup [.p (.l (List.map ze z.1)),.p (.b z.2.1)]∧X=[.cells 3 [.p (.i .i64 z.2.2)],.cells 155 [.p (.l (List.map ecS o1_0_3))]]):=by
 unfold zal at hm
 refine dW 2 89 [.tmp 4,.tmp 5] Tryz.func116 fun B=>nA fun hA=>?_
 refine qS ?_
 refine Wp.seqW fun _ hK2 _=>qS ?_
 refine cN hm (fun hm=>?_) fun hm=>?_
 ·refine qS ?_
  refine Wp.ret ?_;simp only[zq,zD];refine zO ?_;cases hm;exact zf5
 ·refine Wp.skip (hK2 _ _ ?_)
  obtain⟨s_4,hbs_4,hxs_4,hys_4,hm⟩:=zbt hm;replace hxs_4:∀d,(List.map ecS o1_0_3).getD o0_0_1.toNat d=ecS s_4:=hxs_4 ecS;obtain⟨c_16,hm⟩:=zh hm;obtain⟨r_6,hr_6,hm⟩:=zd hm;have hA:=hxs_4
  refine rS fun _ hK6=>?_
  refine cX (fun hg=>zbC s_4 (word_9++([32]:Str)) _ hr_6) (hK6 _ _ ?_);obtain⟨r_2,hr_2,hm⟩:=zd hm
  refine rS fun _ hK8=>?_
  refine cF (zg6 r_6.1 _ hr_2) (hK8 _ _ ?_)
  refine Wp.seqW fun _ hK10 _=>?_
  obtain⟨r_11,hr_11,hm⟩:=zI hm
  refine rS fun _ hK11=>?_
  refine cX (g:=!(((!r_6.2)||(!r_2.2))||(decide (r_2.1<0)))) (fun hg=>ze7 r_2.1 _ (hr_11 hg)) (hK11 _ _ ?_)
  refine cN hm (fun hm=>?_) fun hm=>?_
  ·refine q6 ?_
   refine Wp.ret ?_;simp only[zq,zD];refine zO ?_;cases hm;simp only[go_sem,simprocAttr,hA]
   try exact se4
  ·refine Wp.skip (hK10 _ _ (q6 ?_))
   refine Wp.seqW fun K16 hK16 hW16=>?_
   obtain⟨k_7,hk_7,hm⟩:=zj hm
   have hcut16:∀s,k_7 s=some z→K16 [(1,.ptr 0 0),(8,.p (.i .i64 r_2.1)),(10,.buf 2)] [.cells 3 [.p (.i .i64 o0_0_1)],.cells 155 [.p (.l (List.map ecS o1_0_3))],.buf 44 10 (List.map ze s)]:=by
    intro o2_17 hs;have hm:=hk_7 _ hs;clear hs
    try dsimp only at hm⊢
    refine hK16 _ _ (q6 ?_);exact wQ
   clear hK16 hk_7;obtain⟨c_18,hm⟩:=zh hm;refine q6 ?_;refine Wp.block (Wp.adopt 10 44 10 rfl ?_);simp only[go_sem,simprocAttr,hA];obtain⟨k_12,hk_12,hm⟩:=zp hm
   refine fL 66 ((List.take ((IntKind.i64.wrap ((IntKind.i64.wrap (o0_0_1+1))+r_2.1)).toNat-(IntKind.i64.wrap (o0_0_1+1)).toNat) (List.drop ((IntKind.i64.wrap (o0_0_1+1)).toNat) o1_0_3)).length) fun hl_15=>?_
   refine Wp.forL (fun i_8 s=>[(1,.ptr 0 0),(8,.p (.i .i64 r_2.1)),(10,.buf 2),(66,.p (.l (List.map ecS (List.take ((IntKind.i64.wrap ((IntKind.i64.wrap (o0_0_1+1))+r_2.1)).toNat-(IntKind.i64.wrap (o0_0_1+1)).toNat) (List.drop ((IntKind.i64.wrap (o0_0_1+1)).toNat) o1_0_3))))),(67,.p (.i .i64 ((List.take ((IntKind.i64.wrap ((IntKind.i64.wrap (o0_0_1+1))+r_2.1)).toNat-(IntKind.i64.wrap (o0_0_1+1)).toNat) (List.drop ((IntKind.i64.wrap (o0_0_1+1)).toNat) o1_0_3)).length:Int))),(68,.p (.i .i64 (i_8:Int)))]) (fun i_8 s=>[.cells 3 [.p (.i .i64 o0_0_1)],.cells 155 [.p (.l (List.map ecS o1_0_3))],.buf 44 10 (List.map ze s)]) ?_ hm ?_
   ·simp only[go_sem,simprocAttr,hA]
    try exact se4
   clear hm;intro i_8 o2_13 hii_8 hm
   try dsimp only at hm⊢
   refine q6 ?_
   refine Wp.seqW fun _ hK21 _=>Wp.cond rfl ⟨⟩ (fun hc21=>?_) (fun hc21=>?_)
   rotate_left
   ·refine Wp.exit ?_
    have hm:=hk_12 _ (zt hm (ge_nat (by first|exact hc21|simpa using hc21)))
    try dsimp only at hm
    refine hW16 _ _ _ _ ?_ (hcut16 o2_13 hm);simp only[go_sem,simprocAttr,hA]
    try exact se4
   have hlt21:=ltN hc21;have hw21:=zn hlt21 hl_15;obtain⟨s_5,nx_14,hxs_5,hys_5,hnx_14,hm⟩:=zo hm hlt21;replace hxs_5:=hxs_5 ecS;refine Wp.skip ?_;simp only[zq];refine hK21 _ _ (Wp.seqW fun _ hK22 _=>Wp.block ?_);have hA:=And.intro hxs_4 (And.intro hw21 hxs_5);refine q6 ?_;obtain⟨r_10,hr_10,hm⟩:=zd hm
   refine rS fun _ hK24=>?_
   refine cX (fun hg=>zn8 s_5 _ hr_10) (hK24 _ _ ?_)
   refine Wp.seqW fun _ hK26 _=>q6 ?_
   refine cN hm (fun hm=>?_) fun hm=>?_
   ·refine q6 ?_
    refine Wp.ret ?_;simp only[zq,zD];refine zO ?_;cases hm;simp only[go_sem,simprocAttr,hA]
    try exact se4
   ·refine Wp.skip (hK26 _ _ ?_)
    obtain⟨c_19,hm⟩:=zh hm;refine r6 ?_;refine hK22 _ _ (r6 ?_);exact wN (o2_13++[r_10.1]) hlt21 (hnx_14 _ hm)
theorem ok_R_IsSum(s_1:Str)(z:Bool)(hm:zmw s_1=some z):Does Tryz.prog 119 [.p (.s s_1)] [] (fun r X=>r=.p (.b z)∧X=[]):=by
 unfold zmw at hm
 refine dW 0 31 [.tmp 2] Tryz.func119 fun B=>nA fun hA=>?_
 refine qS ?_
 refine Wp.seqW fun K2 hK2 hW2=>?_
 obtain⟨k_2,hk_2,hm⟩:=zj hm
 have hcut2:∀s,k_2 s=some z→K2 [(0,.p (.s s_1))] []:=by
  intro s hs;have hm:=hk_2 _ hs;clear hs
  try dsimp only at hm⊢
  exact hK2 _ _ (wQ)
 clear hK2 hk_2;refine qS ?_;refine Wp.block ?_;obtain⟨k_5,hk_5,hm⟩:=zp hm
 refine fL 0 s_1.length fun hl_7=>?_
 refine Wp.forL (fun i_3 s=>[(0,.p (.s s_1)),(6,.p (.i .i64 (s_1.length:Int))),(7,.p (.i .i64 (i_3:Int)))]) (fun i_3 s=>[]) wF hm ?_;clear hm;intro i_3 s hii_3 hm
 try dsimp only at hm⊢
 refine qS ?_
 refine Wp.seqW fun _ hK6 _=>Wp.cond rfl ⟨⟩ (fun hc6=>?_) fun hc6=>Wp.exit (hW2 _ _ _ _ wF (hcut2 () (hk_5 _ (zt hm (geN hc6)))))
 have hlt6:=ltN hc6;have hw6:=zn hlt6 hl_7;obtain⟨c_4,nx_6,hxc_4,hyc_4,hnx_6,hm⟩:=zo hm hlt6;clear hxc_4;refine Wp.skip ?_;simp only[zq];refine hK6 _ _ (Wp.seqW fun _ hK7 _=>Wp.block ?_);have hA:=And.intro hw6 hyc_4;refine q6 ?_;refine q6 ?_;refine q6 ?_
 refine cR hm fun hm=>?_
 refine Wp.skip (hK7 _ _ (r6 ?_));exact wN () hlt6 (hnx_6 _ hm)
theorem zdU(x_1:Int)(z:Bool)(hm:zat x_1=some z):Does Tryz.prog 297 [.p (.i .i64 x_1)] [] (fun r X=>r=.p (.b z)∧X=[]):=by
 unfold zat at hm
 refine dW 0 8 [.tmp 2] Tryz.func297 fun B=>nA fun hA=>?_
 refine qS ?_;exact wQ
theorem zeT(x_1:Int)(z:Int)(hm:zby x_1=some z):Does Tryz.prog 320 [.p (.i .u64 x_1)] [] (fun r X=>r=.p (.i .i64 z)∧X=[]):=by
 unfold zby at hm
 refine dW 0 14 [.tmp 2] Tryz.func320 fun B=>nA fun hA=>?_
 refine qS ?_
 refine Wp.seqW fun _ hK2 _=>qS ?_
 refine cR hm fun hm=>?_
 refine Wp.skip (hK2 _ _ ?_);obtain⟨c_2,hm⟩:=zh hm;exact wQ
theorem zfq(x_1:Int)(z:Int)(hm:za3 x_1=some z):Does Tryz.prog 298 [.p (.i .u64 x_1)] [] (fun r X=>r=.p (.i .i64 z)∧X=[]):=by
 unfold za3 at hm
 refine dW 0 8 [.tmp 2] Tryz.func298 fun B=>nA fun hA=>?_
 refine qS ?_
 refine Wp.seqW fun _ hK2 _=>Wp.cond rfl ⟨⟩ (fun hc3=>?_) (fun hc3=>?_)
 ·cases hc3
 refine Wp.skip (hK2 _ _ ?_);obtain⟨r_2,hr_2,hm⟩:=zd hm
 refine rS fun _ hK4=>?_
 refine cX (fun hg=>zeT x_1 _ hr_2) (hK4 _ _ ?_);exact wR
theorem zez(dst_2:List Int)(u_9:Int)(base_1:Int)(neg_4:Bool)(append__3:Bool)(z:List Int×Str)(hm:zaj dst_2 u_9 base_1 neg_4 append__3=some z):Does Tryz.prog 262 [.p (.l (List.map zar dst_2)),.p (.i .u64 u_9),.p (.i .i64 base_1),.p (.b neg_4),.p (.b append__3)] [] (fun r X=>r=.tup [.p (.l (List.map zar z.1)),.p (.s z.2)]∧X=[]):=by
 unfold zaj at hm
 refine dW 0 102 [.tmp 10,.tmp 11] Tryz.func262 fun B=>nA fun hA=>?_
 refine qS ?_
 refine Wp.seqW fun K2 hK2 hW2=>?_
 obtain⟨k_10,hk_10,hm⟩:=zj hm
 have hcut2:∀s,k_10 s=some z→K2 [(0,.p (.l (List.map zar dst_2))),(1,.p (.i .u64 u_9)),(2,.p (.i .i64 base_1)),(3,.p (.b neg_4)),(4,.p (.b append__3)),(10,.nils),(11,.p (.s []))] []:=by
  intro s hs;have hm:=hk_10 _ hs;clear hs
  try dsimp only at hm⊢
  refine hK2 _ _ (qS ?_);refine qS ?_
  refine Wp.seqW fun K5 hK5 hW5=>?_
  obtain⟨k_11,hk_11,hm⟩:=zj hm
  have hcut5:∀s,k_11 s=some z→K5 [(0,.p (.l (List.map zar dst_2))),(1,.p (.i .u64 s)),(2,.p (.i .i64 base_1)),(3,.p (.b neg_4)),(4,.p (.b append__3)),(10,.nils),(11,.p (.s [])),(12,.ptr 0 0),(13,.p (.i .i64 65))] [.buf 319 1 (List.map zar (List.replicate 65 0))]:=by
   intro u_34 hs;have hm:=hk_11 _ hs;clear hs
   try dsimp only at hm⊢
   refine hK5 _ _ (Wp.seqW fun K6 hK6 hW6=>?_);obtain⟨k_12,hk_12,hm⟩:=zj hm
   have hcut6:∀s,k_12 s=some z→K6 [(0,.p (.l (List.map zar dst_2))),(3,.p (.b neg_4)),(4,.p (.b append__3)),(10,.nils),(11,.p (.s [])),(12,.ptr 0 0),(13,.p (.i .i64 s.1))] [.buf 319 1 (List.map zar s.2)]:=by
    intro s hs;have hm:=hk_12 _ hs;clear hs;obtain⟨i_18,o0_22⟩:=s
    try dsimp only at hm⊢
    refine hK6 _ _ (Wp.seqW fun K7 hK7 hW7=>?_);obtain⟨k_13,hk_13,hm⟩:=zj hm
    have hcut7:∀s,k_13 s=some z→K7 [(0,.p (.l (List.map zar dst_2))),(4,.p (.b append__3)),(10,.nils),(11,.p (.s [])),(12,.ptr 0 0),(13,.p (.i .i64 s.1))] [.buf 319 1 (List.map zar s.2)]:=by
     intro s hs;have hm:=hk_13 _ hs;clear hs;obtain⟨i_35,o0_36⟩:=s
     try dsimp only at hm⊢
     refine hK7 _ _ (Wp.seqW fun _ hK8 _=>qS ?_)
     refine cN hm (fun hm=>?_) fun hm=>?_
     ·obtain⟨c_37,hm⟩:=zh hm
      cases hm
     ·refine Wp.skip (hK8 _ _ ?_)
      obtain⟨c_38,hm⟩:=zh hm;refine q6 ?_;refine Wp.ret ?_;refine zO ?_;cases hm;exact zf5
    clear hK7 hk_13;refine qS ?_
    refine cN hm (fun hm=>?_) fun hm=>?_
    ·refine qS ?_
     obtain⟨c_39,hm⟩:=zh hm;refine r6 ?_;refine hW7 _ _ _ _ ?_ (hcut7 (IntKind.i64.wrap (i_18-1),List.set o0_22 ((IntKind.i64.wrap (i_18-1)).toNat) 45) hm);exact zf5
    ·refine Wp.skip (hW7 _ _ _ _ ?_ (hcut7 (i_18,o0_22) hm))
     exact zf5
   clear hK6 hk_12;obtain⟨r_23,hr_23,hm⟩:=zd hm
   refine rS fun _ hK16=>?_
   refine cX (fun hg=>zdU base_1 _ hr_23) (hK16 _ _ ?_)
   refine cN hm (fun hm=>?_) fun hm=>?_
   ·obtain⟨r_14,hr_14,hm⟩:=zd hm
    refine rS fun _ hK19=>?_
    refine cX (fun hg=>zfq (IntKind.u64.wrap base_1) _ hr_14) (hK19 _ _ ?_);refine qS ?_;refine qS ?_
    refine Wp.seqW fun K23 hK23 hW23=>?_
    obtain⟨k_15,hk_15,hm⟩:=zj hm
    have hcut23:∀s,k_15 s=some z→K23 [(0,.p (.l (List.map zar dst_2))),(1,.p (.i .u64 s.1)),(3,.p (.b neg_4)),(4,.p (.b append__3)),(10,.nils),(11,.p (.s [])),(12,.ptr 0 0),(13,.p (.i .i64 s.2.1))] [.buf 319 1 (List.map zar s.2.2)]:=by
     intro s hs;have hm:=hk_15 _ hs;clear hs;obtain⟨u_30,i_24,o0_31⟩:=s
     try dsimp only at hm⊢
     refine hK23 _ _ (qS ?_);obtain⟨c_5,hbc_5,hxc_5,hm⟩:=zbf hm;replace hxc_5:((([48,49,50,51,52,53,54,55,56,57,97,98,99,100,101,102,103,104,105,106,107,108,109,110,111,112,113,114,115,116,117,118,119,120,121,122]:Str).getD u_30.toNat 0).toNat:Int)=c_5:=hxc_5;obtain⟨c_40,hm⟩:=zh hm;have hA:=hxc_5;refine r6 ?_;refine hW6 _ _ _ _ ?_ (hcut6 (IntKind.i64.wrap (i_24-1),List.set o0_31 ((IntKind.i64.wrap (i_24-1)).toNat) c_5) hm);simp only[go_sem,simprocAttr,hA]
     try exact se4
    clear hK23 hk_15;refine Wp.block ?_;obtain⟨k_25,hk_25,hm⟩:=zaA hm;refine Wp.loopN (fun s=>[(0,.p (.l (List.map zar dst_2))),(1,.p (.i .u64 s.1)),(3,.p (.b neg_4)),(4,.p (.b append__3)),(10,.nils),(11,.p (.s [])),(12,.ptr 0 0),(13,.p (.i .i64 s.2.1)),(14,.p (.i .u64 (IntKind.u64.wrap r_14))),(15,.p (.i .u64 (IntKind.u64.wrap base_1))),(16,.p (.i .u64 (IntKind.u64.wrap ((IntKind.u64.wrap base_1)-1))))]) (fun s=>[.buf 319 1 (List.map zar s.2.2)]) ?_ hm ?_
    ·exact zf5
    clear hm;intro s nx_41 hm;obtain⟨u_19,i_20,o0_26⟩:=s
    try dsimp only at hm⊢
    refine Wp.seqW fun _ hK26 _=>qS ?_
    refine cN hm (fun hm=>?_) fun hm=>?_
    ·refine Wp.skip (hK26 _ _ (Wp.block (qS ?_)))
     obtain⟨c_6,hbc_6,hxc_6,hm⟩:=zbf hm;replace hxc_6:((([48,49,50,51,52,53,54,55,56,57,97,98,99,100,101,102,103,104,105,106,107,108,109,110,111,112,113,114,115,116,117,118,119,120,121,122]:Str).getD ((zbc .and .u64 u_19 (IntKind.u64.wrap ((IntKind.u64.wrap base_1)-1))).toNat) 0).toNat:Int)=c_6:=hxc_6;obtain⟨c_42,hm⟩:=zh hm;have hA:=hxc_6;refine q6 ?_;obtain⟨c_43,hm⟩:=zh hm;refine r6 ?_;simp only[zq,zD,↓reduceIte];refine⟨(Int.fdiv u_19 (2^(shI .u64 (IntKind.u64.wrap r_14))),IntKind.i64.wrap (i_20-1),List.set o0_26 ((IntKind.i64.wrap (i_20-1)).toNat) c_6),hm,?_⟩;simp only[go_sem,simprocAttr,hA]
     try exact se4
    ·refine Wp.exit ?_
     simp only[zq,zD,↓reduceIte];have hm:=hk_25 _ hm
     try dsimp only at hm
     refine hW23 _ _ _ _ ?_ (hcut23 (u_19,i_20,o0_26) hm);exact zf5
   ·refine qS ?_
    refine Wp.seqW fun K33 hK33 hW33=>?_
    obtain⟨k_16,hk_16,hm⟩:=zj hm
    have hcut33:∀s,k_16 s=some z→K33 [(0,.p (.l (List.map zar dst_2))),(1,.p (.i .u64 s.1)),(3,.p (.b neg_4)),(4,.p (.b append__3)),(10,.nils),(11,.p (.s [])),(12,.ptr 0 0),(13,.p (.i .i64 s.2.1))] [.buf 319 1 (List.map zar s.2.2)]:=by
     intro s hs;have hm:=hk_16 _ hs;clear hs;obtain⟨u_32,i_27,o0_33⟩:=s
     try dsimp only at hm⊢
     refine hK33 _ _ (qS ?_);obtain⟨c_7,hbc_7,hxc_7,hm⟩:=zbf hm;replace hxc_7:((([48,49,50,51,52,53,54,55,56,57,97,98,99,100,101,102,103,104,105,106,107,108,109,110,111,112,113,114,115,116,117,118,119,120,121,122]:Str).getD u_32.toNat 0).toNat:Int)=c_7:=hxc_7;obtain⟨c_44,hm⟩:=zh hm;have hA:=hxc_7;refine r6 ?_;refine hW6 _ _ _ _ ?_ (hcut6 (IntKind.i64.wrap (i_27-1),List.set o0_33 ((IntKind.i64.wrap (i_27-1)).toNat) c_7) hm);simp only[go_sem,simprocAttr,hA]
     try exact se4
    clear hK33 hk_16;refine Wp.block ?_;obtain⟨k_28,hk_28,hm⟩:=zaA hm;refine Wp.loopN (fun s=>[(0,.p (.l (List.map zar dst_2))),(1,.p (.i .u64 s.1)),(3,.p (.b neg_4)),(4,.p (.b append__3)),(10,.nils),(11,.p (.s [])),(12,.ptr 0 0),(13,.p (.i .i64 s.2.1)),(17,.p (.i .u64 (IntKind.u64.wrap base_1)))]) (fun s=>[.buf 319 1 (List.map zar s.2.2)]) ?_ hm ?_
    ·exact zf5
    clear hm;intro s nx_45 hm;obtain⟨u_17,i_21,o0_29⟩:=s
    try dsimp only at hm⊢
    refine Wp.seqW fun _ hK36 _=>qS ?_
    refine cN hm (fun hm=>?_) fun hm=>?_
    ·refine Wp.skip (hK36 _ _ (Wp.block (qS ?_)))
     obtain⟨c_46,hm⟩:=zh hm;refine q6 ?_;obtain⟨c_8,hbc_8,hxc_8,hm⟩:=zbf hm;replace hxc_8:((([48,49,50,51,52,53,54,55,56,57,97,98,99,100,101,102,103,104,105,106,107,108,109,110,111,112,113,114,115,116,117,118,119,120,121,122]:Str).getD ((IntKind.u64.wrap (u_17-(IntKind.u64.wrap ((IntKind.u64.wrap (Int.tdiv u_17 (IntKind.u64.wrap base_1)))*(IntKind.u64.wrap base_1))))).toNat) 0).toNat:Int)=c_8:=hxc_8;obtain⟨c_47,hm⟩:=zh hm;have hA:=hxc_8;refine q6 ?_;refine r6 ?_;simp only[zq,zD,↓reduceIte];refine⟨(IntKind.u64.wrap (Int.tdiv u_17 (IntKind.u64.wrap base_1)),IntKind.i64.wrap (i_21-1),List.set o0_29 ((IntKind.i64.wrap (i_21-1)).toNat) c_8),hm,?_⟩;simp only[go_sem,simprocAttr,hA]
     try exact se4
    ·refine Wp.exit ?_
     simp only[zq,zD,↓reduceIte];have hm:=hk_28 _ hm
     try dsimp only at hm
     refine hW33 _ _ _ _ ?_ (hcut33 (u_17,i_21,o0_29) hm);exact zf5
  clear hK5 hk_11;refine qS ?_
  refine cN hm (fun hm=>?_) fun hm=>?_
  ·refine qR ?_
   refine hW5 _ _ _ _ ?_ (hcut5 (IntKind.u64.wrap (-u_9)) hm);exact zf5
  ·refine Wp.skip (hW5 _ _ _ _ ?_ (hcut5 u_9 hm))
   exact zf5
 clear hK2 hk_10;refine qS ?_
 refine cN hm (fun hm=>?_) fun hm=>?_
 ·cases hm
 ·refine Wp.skip (hW2 _ _ _ _ ?_ (hcut2 () hm))
  exact zf5
theorem zeA(i_1:Int)(base_2:Int)(z:Str)(hm:zaH i_1 base_2=some z):Does Tryz.prog 227 [.p (.i .u64 i_1),.p (.i .i64 base_2)] [] (fun r X=>r=.p (.s z)∧X=[]):=by
 unfold zaH at hm
 refine dW 0 32 [.tmp 4] Tryz.func227 fun B=>nA fun hA=>?_
 refine qS ?_
 refine Wp.seqW fun _ hK2 _=>qS ?_
 refine cN hm (fun hm=>?_) fun hm=>?_
 ·refine Wp.seqW fun _ hK5 _=>qS ?_
  refine cN hm (fun hm=>?_) fun hm=>?_
  ·cases hm
  ·refine Wp.skip (hK5 _ _ (qS ?_))
   cases hm
 ·refine Wp.skip (hK2 _ _ ?_)
  obtain⟨r_3,hr_3,hm⟩:=zd hm
  refine rS fun _ hK9=>?_
  refine cF (zez [] i_1 base_2 false false _ hr_3) (hK9 _ _ ?_);exact wQ
theorem zg5(i_1:Int)(base_2:Int)(z:Str)(hm:zbl i_1 base_2=some z):Does Tryz.prog 180 [.p (.i .u64 i_1),.p (.i .i64 base_2)] [] (fun r X=>r=.p (.s z)∧X=[]):=by
 unfold zbl at hm
 refine dW 0 8 [.tmp 4] Tryz.func180 fun B=>nA fun hA=>?_
 refine qS ?_;obtain⟨r_3,hr_3,hm⟩:=zd hm
 refine rS fun _ hK2=>?_
 refine cX (fun hg=>zeA i_1 base_2 _ hr_3) (hK2 _ _ ?_);exact wR
end Go.Proofs.YtbofknpajcdnmaaGreatDoor
