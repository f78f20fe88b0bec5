/- That the code does what the models say (part 9). -/
import Derived.Test.YtbofknpajcdnmaaGreatDoorLkWk0
import Derived.Test.YtbofknpajcdnmaaGreatDoorLkWk1
import Derived.Test.YtbofknpajcdnmaaGreatDoorLkWk6
import Derived.Test.YtbofknpajcdnmaaGreatDoorLkWk7
import Derived.Test.YtbofknpajcdnmaaGreatDoorLkWk8
set_option linter.unusedSimpArgs false
set_option linter.unusedVariables false
open Go.Proofs Go.Shelf
namespace Go.Proofs.YtbofknpajcdnmaaGreatDoor
open Go.Vc Go.Md
set_option maxRecDepth 100000
set_option maxHeartbeats 4000000
theorem zi9(word_1:Str)(z:Int)(hm:zcv word_1=some z):Does Tryz.prog 236 [.p (.s word_1)] [] (fun r X=>r=.p (.i .i64 z)∧X=[]):=by
 unfold zcv at hm
 refine dW 0 17 [.tmp 2] Tryz.func236 fun B=>nA fun hA=>?_
 refine qS ?_
 refine Wp.seqW fun _ hK2 _=>qS ?_
 refine Wp.block (Wp.seqW fun K4 hK4 hW4=>?_);obtain⟨k_2,hk_2,hm⟩:=zj hm
 have hcut4:∀s,k_2 s=some z→K4 [(3,.p (.s word_1)),(4,.p (.b s))] []:=by
  intro t4_3 hs;have hm:=hk_2 _ hs;clear hs
  try dsimp only at hm⊢
  refine hK4 _ _ (cR hm fun hm=>?_);refine qS ?_
  refine cR hm fun hm=>?_
  refine qS ?_
  refine cR hm fun hm=>?_
  refine qS ?_
  refine cR hm fun hm=>?_
  refine qS ?_
  refine cR hm fun hm=>?_
  refine qS ?_
  refine cR hm fun hm=>?_
  exact Wp.skip (hK2 _ _ (wQ))
 clear hK4 hk_2;refine qS ?_
 refine cN hm (fun hm=>?_) fun hm=>?_
 ·refine Wp.skip (hW4 _ _ _ _ ?_ (hcut4 (decide (word_1=([112,117,116]:Str))) hm))
  exact zkt
 ·refine qR ?_
  refine hW4 _ _ _ _ ?_ (hcut4 (decide (word_1=([112,117,116,114,117,110]:Str))) hm);exact zkt
theorem zfE(x_1:disk_line)(o1_2:List api_Change)(z:Bool×List api_Change)(hm:zas x_1 o1_2=some z):Does Tryz.prog 235 [.agg [.p (.s x_1.word),.p (.s x_1.file.Path),.p (.s x_1.file.Data),.p (.b x_1.file.Runs),.p (.s x_1.setting.Key),.p (.s x_1.setting.Value),.p (.s x_1.service.Name),.p (.s x_1.service.Path),.p (.b x_1.service.Auto),.p (.b x_1.service.On)],.ptr 0 0] [.cells 56 [.buf 1],.buf 44 10 (List.map ze o1_2)] (fun r X=>r=.p (.b z.1)∧X=[.cells 56 [.buf 1],.buf 44 10 (List.map ze z.2)]):=by
 unfold zas at hm
 refine dW 2 21 [.tmp 3] Tryz.func235 fun B=>nA fun hA=>?_
 refine qS ?_;obtain⟨r_3,hr_3,hm⟩:=zd hm
 refine rS fun _ hK2=>?_
 refine cX (fun hg=>zi9 x_1.word _ hr_3) (hK2 _ _ ?_);obtain⟨c_4,hm⟩:=zh hm;refine q6 ?_;exact wQ
theorem zio(text_5:Str)(o1_6:List api_Change)(z:Int×List api_Change)(hm:zbi text_5 o1_6=some z):Does Tryz.prog 234 [.p (.s text_5),.fn 235 [.ptr 0 0]] [.cells 56 [.buf 1],.buf 44 10 (List.map ze o1_6)] (fun r X=>r=.p (.i .i64 z.1)∧X=[.cells 56 [.buf 1],.buf 44 10 (List.map ze z.2)]):=by
 unfold zbi at hm
 refine dW 2 40 [.tmp 4] Tryz.func234 fun B=>nA fun hA=>?_
 refine qS ?_
 refine Wp.seqW fun K2 hK2 hW2=>?_
 obtain⟨k_3,hk_3,hm⟩:=zj hm
 have hcut2:∀s,k_3 s=some z→K2 [] [.cells 56 [.buf 1],.buf 44 10 (List.map ze s)]:=by
  intro o1_11 hs;have hm:=hk_3 _ hs;clear hs
  try dsimp only at hm⊢
  exact hK2 _ _ (wQ)
 clear hK2 hk_3;refine qS ?_;refine Wp.block ?_;obtain⟨k_7,hk_7,hm⟩:=zaA hm;refine Wp.loopN (fun s=>[(0,.p (.s s.1)),(1,.fn 235 [.ptr 0 0]),(5,.p (.i .i64 s.2.1))]) (fun s=>[.cells 56 [.buf 1],.buf 44 10 (List.map ze s.2.2)]) ?_ hm ?_
 ·exact zkt
 clear hm;intro s nx_12 hm;obtain⟨text_9,n_10,o1_8⟩:=s
 try dsimp only at hm⊢
 refine Wp.seqW fun _ hK5 _=>qS ?_
 refine cN hm (fun hm=>?_) fun hm=>?_
 ·refine Wp.skip (hK5 _ _ (Wp.seqW fun _ hK8 _=>Wp.block ?_))
  obtain⟨r_1,hr_1,hm⟩:=zd hm
  refine rS fun _ hK9=>?_
  refine cX (fun hg=>zcV text_9 ([10]:Str) _ hr_1) (hK9 _ _ ?_);obtain⟨r_4,hr_4,hm⟩:=zd hm
  refine rS fun _ hK11=>?_
  refine cX (fun hg=>zkF r_1.1 _ hr_4) (hK11 _ _ ?_)
  refine Wp.seqW fun _ hK13 _=>?_
  obtain⟨r_2,hr_2,hr_2d,hm⟩:=callG_elim2 hm
  refine Wp.seqR fun K14 hK14=>?_
  simp only[go_sem,simprocAttr]
  try refine⟨sd,?_⟩
  refine Rg.callGO (av:=?av15) (g:=!((!r_1.2.2)||(!r_4.2))) [0,1] (fun hg=>zfE r_4.1 o1_8 _ (hr_2 hg)) (fun hg=>by obtain rfl:=hr_2d hg;rfl) si si si si sg sg ?cont15;simp only[go_sem,simprocAttr];refine kA hK14 ?_
  refine cR hm fun hm=>?_
  refine Wp.skip (hK13 _ _ (qR ?_));refine hK8 _ _ (qR ?_);simp only[zq,zD,↓reduceIte];refine⟨(r_1.2.1,IntKind.i64.wrap (n_10+1),r_2.2),hm,?_⟩;exact zkt
 ·refine Wp.exit ?_
  simp only[zq,zD,↓reduceIte];have hm:=hk_7 _ hm
  try dsimp only at hm
  refine hW2 _ _ _ _ ?_ (hcut2 o1_8 hm);exact zkt
theorem zhQ(l_2:List api_Change)(z:Int)(hm:zbN l_2=some z):Does Tryz.prog 169 [.p (.l (List.map ze l_2))] [] (fun r X=>r=.p (.i .i64 z)∧X=[]):=by
 unfold zbN at hm
 refine dW 0 18 [.tmp 2] Tryz.func169 fun B=>nA fun hA=>?_
 refine qS ?_
 refine Wp.seqW fun K2 hK2 hW2=>?_
 obtain⟨k_3,hk_3,hm⟩:=zj hm
 have hcut2:∀s,k_3 s=some z→K2 [] []:=by
  intro s hs;have hm:=hk_3 _ hs;clear hs
  try dsimp only at hm⊢
  exact hK2 _ _ (wQ)
 clear hK2 hk_3;refine qS ?_;refine Wp.block ?_;obtain⟨k_5,hk_5,hm⟩:=zp hm
 refine fL 6 l_2.length fun hl_8=>?_
 refine Wp.forL (fun i_4 s=>[(6,.p (.l (List.map ze l_2))),(7,.p (.i .i64 (l_2.length:Int))),(8,.p (.i .i64 (i_4:Int)))]) (fun i_4 s=>[]) wF hm ?_;clear hm;intro i_4 s hii_4 hm
 try dsimp only at hm⊢
 refine qS ?_
 refine Wp.seqW fun _ hK6 _=>Wp.cond rfl ⟨⟩ (fun hc6=>?_) fun hc6=>Wp.exit (hW2 _ _ _ _ wF (hcut2 () (hk_5 _ (zt hm (geN hc6)))))
 have hlt6:=ltN hc6;have hw6:=zn hlt6 hl_8;obtain⟨c_1,nx_6,hxc_1,hyc_1,hnx_6,hm⟩:=zo hm hlt6;replace hxc_1:=hxc_1 ze;refine Wp.skip ?_;simp only[zq];refine hK6 _ _ (Wp.seqW fun _ hK7 _=>Wp.block ?_);have hA:=And.intro hw6 hxc_1;refine q6 ?_;obtain⟨r_7,hr_7,hm⟩:=zd hm
 refine rS fun _ hK9=>?_
 refine cX (fun hg=>ziq c_1 _ hr_7) (hK9 _ _ ?_);refine q6 ?_
 refine cR hm fun hm=>?_
 refine Wp.skip (hK7 _ _ (r6 ?_));exact wN () hlt6 (hnx_6 _ hm)
theorem zhR(text_1:Str)(z:List api_Change×Int×Int)(hm:zbO text_1=some z):Does Tryz.prog 185 [.p (.s text_1)] [] (fun r X=>r=.tup [.p (.l (List.map ze z.1)),.p (.i .i64 z.2.1),.p (.i .i64 z.2.2)]∧X=[]):=by
 unfold zbO at hm
 refine dW 0 23 [.tmp 2,.tmp 3,.tmp 4] Tryz.func185 fun B=>nA fun hA=>?_
 refine qS ?_
 refine Wp.seqW fun _ hK2 _=>qS ?_
 refine cN hm (fun hm=>?_) fun hm=>?_
 ·refine qS ?_
  refine Wp.ret ?_;simp only[zq,zD];refine zO ?_;cases hm;exact fse2
 ·refine Wp.skip (hK2 _ _ (qS ?_))
  refine Wp.adoptO 0 0 44 10 rfl rfl ?_;simp only[go_sem,simprocAttr];obtain⟨r_2,hr_2,hm⟩:=zd hm
  refine rS fun _ hK7=>?_
  refine cO [0,1] (zio text_1 [] _ hr_2) (hK7 _ _ ?_)
  refine Wp.seqW fun _ hK9 _=>qS ?_
  refine cN hm (fun hm=>?_) fun hm=>?_
  ·refine qS ?_
   refine Wp.ret ?_;simp only[zq,zD];refine zO ?_;cases hm;exact zkt
  ·refine Wp.skip (hK9 _ _ (Wp.seqW fun _ hK13 _=>?_))
   obtain⟨r_3,hr_3,hm⟩:=zd hm
   refine rS fun _ hK14=>?_
   refine cX (fun hg=>zhQ r_2.2 _ hr_3) (hK14 _ _ ?_);refine qS ?_
   refine cN hm (fun hm=>?_) fun hm=>?_
   ·refine qS ?_
    refine Wp.ret ?_;simp only[zq,zD];refine zO ?_;cases hm;exact zkt
   ·exact Wp.skip (hK13 _ _ (wQ))
theorem zcM(word_2:Str)(o0_0_3:List Str)(o0_1_4:Bool)(z:List api_Change×Int×List Str×Bool)(hm:zl word_2 o0_0_3 o0_1_4=some z):Does Tryz.prog 111 [.ptr 0 0,.p (.s word_2)] [.cells 159 [.p (.l (List.map ecS o0_0_3)),.p (.b o0_1_4)]] (fun r X=>r=.tup [.p (.l (List.map ze z.1)),.p (.i .i64 z.2.1)]∧X=[.cells 159 [.p (.l (List.map ecS z.2.2.1)),.p (.b z.2.2.2)]]):=by
 unfold zl at hm
 refine dW 1 66 [.tmp 4,.tmp 5] Tryz.func111 fun B=>nA fun hA=>?_
 refine qS ?_;obtain⟨r_1,hr_1,hm⟩:=zd hm;obtain⟨r_5,hr_5,hm⟩:=zd hm
 refine rS fun _ hK2=>?_
 refine cO [0] (zbU word_2 o0_0_3 o0_1_4 _ hr_1) ?_;refine cX (fun hg=>zlK r_1.1 _ hr_5) (hK2 _ _ ?_)
 refine Wp.seqW fun _ hK5 _=>qS ?_
 refine cN hm (fun hm=>?_) fun hm=>?_
 ·refine qS ?_
  refine qS ?_;refine Wp.ret ?_;simp only[zq,zD];refine zO ?_;cases hm;exact zkt
 ·refine Wp.skip (hK5 _ _ ?_)
  obtain⟨c_8,hm⟩:=zh hm;obtain⟨r_6,hr_6,hm⟩:=zd hm;obtain⟨r_7,hr_7,hm⟩:=zd hm
  refine rS fun _ hK10=>?_
  refine cX (fun hg=>zg4 (List.take r_5.1.toNat r_1.2.2) [] _ hr_6) ?_;refine cF (zhR r_6 _ hr_7) (hK10 _ _ ?_);obtain⟨c_9,hm⟩:=zh hm;refine q6 ?_;refine qS ?_;exact wQ
theorem zmI(s_1:Str)(z:Bool)(hm:zd6 s_1=some z):Does Tryz.prog 112 [.p (.s s_1)] [] (fun r X=>r=.p (.b z)∧X=[]):=by
 unfold zd6 at hm
 refine dW 0 36 [.tmp 2] Tryz.func112 fun B=>nA fun hA=>?_
 refine qS ?_
 refine Wp.seqW fun K2 hK2 hW2=>?_
 obtain⟨k_2,hk_2,hm⟩:=zj hm
 have hcut2:∀s,k_2 s=some z→K2 [(0,.p (.s s_1))] []:=by
  intro s hs;have hm:=hk_2 _ hs;clear hs
  try dsimp only at hm⊢
  exact hK2 _ _ (wQ)
 clear hK2 hk_2;refine qS ?_;refine Wp.block ?_;obtain⟨k_5,hk_5,hm⟩:=zp hm
 refine fL 0 s_1.length fun hl_7=>?_
 refine Wp.forL (fun i_3 s=>[(0,.p (.s s_1)),(3,.p (.i .i64 (i_3:Int)))]) (fun i_3 s=>[]) wF hm ?_;clear hm;intro i_3 s hii_3 hm
 try dsimp only at hm⊢
 refine Wp.seqW fun _ hK5 _=>qS ?_
 refine Wp.cond rfl ⟨⟩ (fun hc5=>?_) fun hc5=>Wp.exit (hW2 _ _ _ _ wF (hcut2 () (hk_5 _ (zt hm (geN hc5)))))
 have hlt5:=ltN hc5;have hw5:=zn hlt5 hl_7;obtain⟨c_4,nx_6,hxc_4,hyc_4,hnx_6,hm⟩:=zo hm hlt5;clear hxc_4;refine Wp.skip ?_;simp only[zq];refine hK5 _ _ (Wp.seqW fun _ hK7 _=>Wp.block ?_);have hA:=And.intro hw5 hyc_4;refine q6 ?_
 refine cR hm fun hm=>?_
 refine Wp.skip (hK7 _ _ (r6 ?_));exact wN () hlt5 (hnx_6 _ hm)
theorem zn5(text_3:Str)(z:Str)(hm:zei text_3=some z):Does Tryz.prog 105 [.p (.s text_3)] [] (fun r X=>r=.p (.s z)∧X=[]):=by
 unfold zei at hm
 refine dW 0 39 [.tmp 2] Tryz.func105 fun B=>nA fun hA=>?_
 refine qS ?_;refine qS ?_
 refine Wp.seqW fun K3 hK3 hW3=>?_
 obtain⟨k_4,hk_4,hm⟩:=zj hm
 have hcut3:∀s,k_4 s=some z→K3 [(3,.p (.i .u64 s))] []:=by
  intro n_8 hs;have hm:=hk_4 _ hs;clear hs
  try dsimp only at hm⊢
  refine hK3 _ _ (qS ?_)
  refine Wp.seqW fun K5 hK5 hW5=>?_
  obtain⟨k_5,hk_5,hm⟩:=zj hm
  have hcut5:∀s,k_5 s=some z→K5 [(5,.buf 0)] [.buf 5 1 (List.map zar s)]:=by
   intro o0_15 hs;have hm:=hk_5 _ hs;clear hs
   try dsimp only at hm⊢
   exact hK5 _ _ (wQ)
  clear hK5 hk_5;refine qS ?_;refine Wp.block ?_;obtain⟨k_9,hk_9,hm⟩:=zaA hm;refine Wp.loopN (fun s=>[(3,.p (.i .u64 n_8)),(5,.buf 0),(22,.p (.i .i64 ((List.replicate 16 0).length:Int))),(23,.p (.i .i64 s.1))]) (fun s=>[.buf 5 1 (List.map zar s.2)]) ?_ hm ?_
  ·exact zkt
  clear hm;intro s nx_16 hm;obtain⟨t23_7,o0_10⟩:=s
  try dsimp only at hm⊢
  refine qS ?_
  refine Wp.seqW fun _ hK9 _=>cN hm (fun hm=>?_) fun hm=>?_
  ·refine Wp.skip (hK9 _ _ (Wp.seqW fun _ hK11 _=>Wp.block (qS ?_)))
   obtain⟨c_17,hm⟩:=zh hm;obtain⟨c_1,hbc_1,hxc_1,hm⟩:=zbf hm;replace hxc_1:((([48,49,50,51,52,53,54,55,56,57,97,98,99,100,101,102]:Str).getD ((zbc .and .u64 (Int.fdiv n_8 (2^(shI .u64 (IntKind.i64.wrap (60-(IntKind.i64.wrap (4*t23_7))))))) 15).toNat) 0).toNat:Int)=c_1:=hxc_1;obtain⟨c_18,hm⟩:=zh hm;have hA:=hxc_1;refine r6 ?_;refine hK11 _ _ (r6 ?_);simp only[zq,zD,↓reduceIte];refine⟨(IntKind.i64.wrap (t23_7+1),List.set o0_10 t23_7.toNat c_1),hm,?_⟩;simp only[go_sem,simprocAttr,hA]
   try exact se3
  ·refine Wp.exit ?_
   simp only[zq,zD,↓reduceIte];have hm:=hk_9 _ hm
   try dsimp only at hm
   refine hW5 _ _ _ _ ?_ (hcut5 o0_10 hm);exact zkt
 clear hK3 hk_4;refine qS ?_;refine Wp.block ?_;obtain⟨k_11,hk_11,hm⟩:=zp hm
 refine fL 0 text_3.length fun hl_14=>?_
 refine Wp.forL (fun i_6 s=>[(0,.p (.s text_3)),(3,.p (.i .u64 s)),(4,.p (.i .i64 (i_6:Int)))]) (fun i_6 s=>[]) wF hm ?_;clear hm;intro i_6 n_12 hii_6 hm
 try dsimp only at hm⊢
 refine Wp.seqW fun _ hK16 _=>qS ?_
 refine Wp.cond rfl ⟨⟩ (fun hc16=>?_) fun hc16=>Wp.exit (hW3 _ _ _ _ wF (hcut3 n_12 (hk_11 _ (zt hm (geN hc16)))))
 have hlt16:=ltN hc16;have hw16:=zn hlt16 hl_14;obtain⟨c_2,nx_13,hxc_2,hyc_2,hnx_13,hm⟩:=zo hm hlt16;clear hxc_2;refine Wp.skip ?_;simp only[zq];refine hK16 _ _ (Wp.seqW fun _ hK18 _=>Wp.block ?_);have hA:=And.intro hw16 hyc_2;refine r6 ?_;refine hK18 _ _ (r6 ?_);exact wN (IntKind.u64.wrap ((zbc .xor .u64 n_12 (IntKind.u64.wrap (c_2.toNat:Int)))*1099511628211)) hlt16 (hnx_13 _ hm)
theorem zg7(text_4:Str)(z:api_Journal×Int)(hm:zaG text_4=some z):Does Tryz.prog 40 [.p (.s text_4)] [] (fun r X=>r=.tup [.agg [.p (.s z.1.Id),.p (.l (List.map ze z.1.Changes)),.p (.l (List.map ze z.1.Old))],.p (.i .i64 z.2)]∧X=[]):=by
 unfold zaG at hm
 refine dW 0 111 [.cell 2 69,.tmp 3] Tryz.func40 fun B=>nA fun hA=>?_
 refine qS ?_;obtain⟨r_1,hr_1,hm⟩:=zd hm
 refine rS fun _ hK2=>?_
 refine cF (zg3 text_4 ([10]:Str) _ hr_1) (hK2 _ _ ?_);obtain⟨c_14,hm⟩:=zh hm;refine q6 ?_;obtain⟨r_5,hr_5,hm⟩:=zd hm
 refine rS fun _ hK5=>?_
 refine cO [1] (zbU ([106,111,117,114,110,97,108]:Str) (List.take ((IntKind.i64.wrap ((r_1.length:Int)-1)).toNat) r_1) false _ hr_5) (hK5 _ _ ?_);refine qS ?_;obtain⟨r_6,hr_6,hm⟩:=zd hm
 refine rS fun _ hK8=>?_
 refine cO [1] (zcM ([99,104,97,110,103,101,115]:Str) r_5.2.2 r_5.2.1 _ hr_6) (hK8 _ _ ?_);obtain⟨r_2,hr_2,hm⟩:=zd hm
 refine rS fun _ hK10=>?_
 refine cO [1] (zcM ([111,108,100]:Str) r_6.2.2.1 r_6.2.2.2 _ hr_2) (hK10 _ _ ?_);refine qS ?_
 refine Wp.seqW fun K13 hK13 hW13=>?_
 obtain⟨k_8,hk_8,hm⟩:=zj hm
 have hcut13:∀s,k_8 s=some z→K13 [(0,.p (.s text_4)),(2,.ptr 0 0),(4,.p (.l (List.map ecS r_1))),(5,.ptr 1 0),(6,.ptr 2 0),(7,.p (.i .i64 r_6.2.1)),(8,.p (.i .i64 r_2.2.1)),(9,.p (.i .i64 s))] [.cells 69 [.p (.s []),.nils,.nils],.cells 159 [.p (.l (List.map ecS r_2.2.2.1)),.p (.b r_2.2.2.2)],.cells 69 [.p (.s r_5.1),.p (.l (List.map ze r_6.1)),.p (.l (List.map ze r_2.1))]]:=by
  intro ahead_13 hs;have hm:=hk_8 _ hs;clear hs
  try dsimp only at hm⊢
  refine hK13 _ _ ?_;obtain⟨r_7,hr_7,hm⟩:=zd hm
  refine rS fun _ hK14=>?_
  refine cO [1] (zbU ([115,117,109]:Str) r_2.2.2.1 r_2.2.2.2 _ hr_7) (hK14 _ _ ?_)
  refine Wp.seqW fun _ hK16 _=>?_
  obtain⟨c_15,hm⟩:=zh hm;obtain⟨r_9,hr_9,hm⟩:=zI hm;have hr_10:=zdM (l:=r_1) (e:=ecS) (d:=[]) (i:=(IntKind.i64.wrap ((r_1.length:Int)-1)).toNat);simp only[ecS,List.map_nil]at hr_10;have hA:=hr_10
  refine rS fun _ hK17=>?_
  refine cX (g:=!((r_7.2.1||(decide (0<(r_7.2.2.length:Int))))||(!decide ((r_1.getD ((IntKind.i64.wrap ((r_1.length:Int)-1)).toNat) [])=[])))) (fun hg=>zmI r_7.1 _ (hr_9 hg)) (hK17 _ _ ?_)
  refine cN hm (fun hm=>?_) fun hm=>?_
  ·refine qS ?_
   refine Wp.ret ?_;simp only[zq,zD];refine zO ?_;cases hm;exact zkt
  ·refine Wp.skip (hK16 _ _ (Wp.seqW fun _ hK21 _=>Wp.block ?_))
   obtain⟨c_16,hm⟩:=zh hm;obtain⟨r_11,hr_11,hm⟩:=zd hm
   refine rS fun _ hK22=>?_
   refine cX (fun hg=>zn5 (List.take ahead_13.toNat text_4) _ hr_11) (hK22 _ _ ?_)
   refine cN hm (fun hm=>?_) fun hm=>?_
   ·refine qS ?_
    refine Wp.ret ?_;simp only[zq,zD];refine zO ?_;cases hm;exact zkt
   ·obtain⟨r_12,hr_12,hm⟩:=zd hm
    refine rS fun _ hK26=>?_
    refine cX (fun hg=>zdz r_5.1 _ hr_12) (hK26 _ _ ?_)
    refine cN hm (fun hm=>?_) fun hm=>?_
    ·refine qS ?_
     refine Wp.ret ?_;simp only[zq,zD];refine zO ?_;cases hm;exact zkt
    ·refine qS ?_
     refine cN hm (fun hm=>?_) fun hm=>?_
     ·refine qS ?_
      refine Wp.ret ?_;simp only[zq,zD];refine zO ?_;cases hm;exact zkt
     ·refine qS ?_
      refine cN hm (fun hm=>?_) fun hm=>?_
      ·refine qS ?_
       refine Wp.ret ?_;simp only[zq,zD];refine zO ?_;cases hm;exact zkt
      ·refine qS ?_
       refine cN hm (fun hm=>?_) fun hm=>?_
       ·refine qS ?_
        refine Wp.ret ?_;simp only[zq,zD];refine zO ?_;cases hm;exact zkt
       ·exact Wp.skip (hK21 _ _ (wQ))
 clear hK13 hk_8;refine qS ?_
 refine cN hm (fun hm=>?_) fun hm=>?_
 ·obtain⟨s_3,hbs_3,hxs_3,hys_3,hm⟩:=zbt hm
  replace hxs_3:∀d,(List.map ecS r_2.2.2.1).getD 0 d=ecS s_3:=hxs_3 ecS;have hA:=hxs_3;refine r6 ?_;refine hW13 _ _ _ _ ?_ (hcut13 (IntKind.i64.wrap ((text_4.length:Int)-(s_3.length:Int))) hm);simp only[go_sem,simprocAttr,hA]
  try exact se3
 ·refine Wp.skip (hW13 _ _ _ _ ?_ (hcut13 (text_4.length:Int) hm))
  exact zkt
theorem zn3(m_1:api_Machine)(z:api_Journal×Int)(hm:zfM m_1=some z):Does Tryz.prog 93 [.agg [.p (.l (List.map za m_1.Facts)),.p (.l (List.map zc m_1.Files)),.p (.l (List.map za m_1.Settings)),.p (.l (List.map zb m_1.Services))]] [] (fun r X=>r=.tup [.agg [.p (.s z.1.Id),.p (.l (List.map ze z.1.Changes)),.p (.l (List.map ze z.1.Old))],.p (.i .i64 z.2)]∧X=[]):=by
 unfold zfM at hm
 refine dW 0 26 [.cell 2 69,.tmp 3] Tryz.func93 fun B=>nA fun hA=>?_
 refine qS ?_;obtain⟨r_2,hr_2,hm⟩:=zd hm
 refine rS fun _ hK2=>?_
 refine cX (fun hg=>zlL m_1 ([115,116,97,103,101,47,106,111,117,114,110,97,108]:Str) _ hr_2) (hK2 _ _ ?_)
 refine Wp.seqW fun _ hK4 _=>qS ?_
 refine cN hm (fun hm=>?_) fun hm=>?_
 ·refine qS ?_
  refine Wp.ret ?_;simp only[zq,zD];refine zO ?_;cases hm;exact fse2
 ·refine Wp.skip (hK4 _ _ ?_)
  obtain⟨r_3,hr_3,hm⟩:=zd hm
  refine rS fun _ hK8=>?_
  refine cF (zg7 r_2.1.Data _ hr_3) (hK8 _ _ ?_)
  refine Wp.seqW fun _ hK10 _=>qS ?_
  refine cN hm (fun hm=>?_) fun hm=>?_
  ·refine qS ?_
   refine Wp.ret ?_;simp only[zq,zD];refine zO ?_;cases hm;exact zkt
  ·exact Wp.skip (hK10 _ _ (wQ))
theorem ze7(n:Int)(z:Str)(hm:strconv_Itoa n=some z):Does Tryz.prog 104 [.p (.i .i64 n)] [] (fun r X=>r=.p (.s z)∧X=[]):=by
 obtain⟨⟨h1,h2⟩,h⟩:=zh hm;cases h;exact Does.itoa Tryz.itoaL ⟨_,Tryz.func104,by kernel_rfl,by kernel_rfl⟩ (b:=3) (by kernel_rfl) (tab_3.trans (by rw[show tabL_3=Go.Lib.pow10Tab by decide +kernel])) n h1 h2
theorem zn7(text_3:Str)(z:List Str×Int)(hm:zgg text_3=some z):Does Tryz.prog 114 [.p (.s text_3)] [] (fun r X=>r=.tup [.p (.l (List.map ecS z.1)),.p (.i .i64 z.2)]∧X=[]):=by
 unfold zgg at hm
 refine dW 0 23 [.tmp 2,.tmp 3] Tryz.func114 fun B=>nA fun hA=>?_
 refine qS ?_;obtain⟨r_2,hr_2,hm⟩:=zd hm
 refine rS fun _ hK2=>?_
 refine cF (zb2 text_3 ([10]:Str) _ hr_2) (hK2 _ _ ?_)
 refine Wp.seqW fun _ hK4 _=>qS ?_
 obtain⟨s_1,hbs_1,hxs_1,hys_1,hm⟩:=zbt hm;replace hxs_1:∀d,(List.map ecS r_2).getD ((IntKind.i64.wrap ((r_2.length:Int)-1)).toNat) d=ecS s_1:=hxs_1 ecS;have hA:=hxs_1;refine q6 ?_
 refine cN hm (fun hm=>?_) fun hm=>?_
 ·obtain⟨c_4,hm⟩:=zh hm
  exact wQ
 ·exact Wp.skip (hK4 _ _ (wQ))
theorem zav(e_1:Int)(z:api_Journal×Int)(hm:zau e_1=some z):Does Tryz.prog 113 [.p (.i .i64 e_1)] [] (fun r X=>r=.tup [.agg [.p (.s z.1.Id),.p (.l (List.map ze z.1.Changes)),.p (.l (List.map ze z.1.Old))],.p (.i .i64 z.2)]∧X=[]):=by
 unfold zau at hm
 refine dW 0 6 [.cell 2 69,.tmp 3] Tryz.func113 fun B=>nA fun hA=>?_
 refine qS ?_;refine qS ?_;refine Wp.ret ?_;refine zO ?_;cases hm;exact zf5
theorem zjW(s_3:Str)(z:Str)(hm:ziK s_3=some z):Does Tryz.prog 177 [.p (.s s_3)] [] (fun r X=>r=.p (.s z)∧X=[]):=by
 unfold ziK at hm
 refine dW 0 67 [.tmp 2] Tryz.func177 fun B=>nA fun hA=>?_
 refine qS ?_;refine qS ?_
 refine Wp.seqW fun K3 hK3 hW3=>?_
 obtain⟨k_6,hk_6,hm⟩:=zj hm
 have hcut3:∀s,k_6 s=some z→K3 [(3,.p (.s s))] []:=by
  intro out_9 hs;have hm:=hk_6 _ hs;clear hs
  try dsimp only at hm⊢
  refine hK3 _ _ ?_;obtain⟨c_10,hm⟩:=zh hm;exact wQ
 clear hK3 hk_6;refine qS ?_;refine Wp.block ?_;obtain⟨k_7,hk_7,hm⟩:=zp hm
 refine fL 0 s_3.length fun hl_8=>?_
 refine Wp.forL (fun i_1 s=>[(0,.p (.s s_3)),(3,.p (.s s)),(7,.p (.i .i64 (s_3.length:Int))),(8,.p (.i .i64 (i_1:Int)))]) (fun i_1 s=>[]) wF hm ?_;clear hm;intro i_1 out_4 hii_1 hm
 try dsimp only at hm⊢
 refine qS ?_
 refine Wp.seqW fun _ hK7 _=>Wp.cond rfl ⟨⟩ (fun hc7=>?_) fun hc7=>Wp.exit (hW3 _ _ _ _ wF (hcut3 out_4 (hk_7 _ (zt hm (geN hc7)))))
 have hlt7:=ltN hc7;have hw7:=zn hlt7 hl_8;obtain⟨c_2,nx_5,hxc_2,hyc_2,hnx_5,hm⟩:=zo hm hlt7;clear hxc_2;refine Wp.skip ?_;simp only[zq];refine hK7 _ _ (Wp.seqW fun _ hK8 _=>Wp.block ?_);have hA:=And.intro hw7 hyc_2;refine q6 ?_;refine q6 ?_;refine Wp.block (q6 ?_)
 refine cN hm (fun hm=>?_) fun hm=>?_
 ·obtain⟨c_11,hm⟩:=zh hm
  obtain⟨c_12,hm⟩:=zh hm;obtain⟨c_13,hm⟩:=zh hm;refine r6 ?_;refine hK8 _ _ (r6 ?_);exact wN (out_4++(([92]:Str)++(List.take ((IntKind.i64.wrap ((i_1:Int)+1)).toNat-i_1) (List.drop i_1 s_3)))) hlt7 (hnx_5 _ hm)
 ·refine q6 ?_
  refine cN hm (fun hm=>?_) fun hm=>?_
  ·obtain⟨c_14,hm⟩:=zh hm
   refine r6 ?_;refine hK8 _ _ (r6 ?_);exact wN (out_4++([92,110]:Str)) hlt7 (hnx_5 _ hm)
  ·refine q6 ?_
   refine cN hm (fun hm=>?_) fun hm=>?_
   ·obtain⟨c_15,hm⟩:=zh hm
    obtain⟨c_16,hm⟩:=zh hm;obtain⟨c_17,hm⟩:=zh hm;obtain⟨c_18,hm⟩:=zh hm;obtain⟨c_19,hm⟩:=zh hm
    refine dE (pl [(0,none),(1,none),(2,none),(3,none),(4,none),(5,none),(6,none),(7,none),(8,none),(9,none),(10,none),(11,none),(12,none),(13,none),(14,none),(15,none),(16,none)]) fun _ hK21=>hK21 _ _ ?_
    refine hK8 _ _ (r6 ?_);exact wN (out_4++((([92,120]:Str)++(List.take ((IntKind.u8.wrap ((Int.fdiv (c_2.toNat:Int) (2^(shI .u8 4)))+1)).toNat-(Int.fdiv (c_2.toNat:Int) (2^(shI .u8 4))).toNat) (List.drop ((Int.fdiv (c_2.toNat:Int) (2^(shI .u8 4))).toNat) ([48,49,50,51,52,53,54,55,56,57,97,98,99,100,101,102]:Str))))++(List.take ((IntKind.u8.wrap ((zbc .and .u8 (c_2.toNat:Int) 15)+1)).toNat-(zbc .and .u8 (c_2.toNat:Int) 15).toNat) (List.drop ((zbc .and .u8 (c_2.toNat:Int) 15).toNat) ([48,49,50,51,52,53,54,55,56,57,97,98,99,100,101,102]:Str))))) hlt7 (hnx_5 _ hm)
   ·obtain⟨c_20,hm⟩:=zh hm
    obtain⟨c_21,hm⟩:=zh hm;refine r6 ?_;refine hK8 _ _ (r6 ?_);exact wN (out_4++(List.take ((IntKind.i64.wrap ((i_1:Int)+1)).toNat-i_1) (List.drop i_1 s_3))) hlt7 (hnx_5 _ hm)
end Go.Proofs.YtbofknpajcdnmaaGreatDoor
