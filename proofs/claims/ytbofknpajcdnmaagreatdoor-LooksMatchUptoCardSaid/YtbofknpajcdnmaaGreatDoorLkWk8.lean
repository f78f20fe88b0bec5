/- That the code does what the models say (part 8). -/
import Derived.Test.YtbofknpajcdnmaaGreatDoorLkWk0
import Derived.Test.YtbofknpajcdnmaaGreatDoorLkWk1
import Derived.Test.YtbofknpajcdnmaaGreatDoorLkWk7
set_option linter.unusedSimpArgs false
set_option linter.unusedVariables false
open Go.Proofs Go.Shelf
namespace Go.Proofs.YtbofknpajcdnmaaGreatDoor
open Go.Vc Go.Md
set_option maxRecDepth 100000
set_option maxHeartbeats 4000000
theorem zbU(word_2:Str)(o0_0_3:List Str)(o0_1_5:Bool)(z:Str×Bool×List Str)(hm:zE word_2 o0_0_3 o0_1_5=some z):Does Tryz.prog 110 [.ptr 0 0,.p (.s word_2)] [.cells 159 [.p (.l (List.map ecS o0_0_3)),.p (.b o0_1_5)]] (fun r X=>r=.p (.s z.1)∧X=[.cells 159 [.p (.l (List.map ecS z.2.2)),.p (.b z.2.1)]]):=by
 unfold zE at hm
 refine dW 1 58 [.tmp 4] Tryz.func110 fun B=>nA fun hA=>?_
 refine qS ?_
 refine Wp.seqW fun _ hK2 _=>qS ?_
 refine cN hm (fun hm=>?_) fun hm=>?_
 ·refine qS ?_
  exact wQ
 ·refine Wp.skip (hK2 _ _ ?_)
  obtain⟨s_1,hbs_1,hxs_1,hys_1,hm⟩:=zbt hm;replace hxs_1:∀d,(List.map ecS o0_0_3).getD 0 d=ecS s_1:=hxs_1 ecS;obtain⟨c_7,hm⟩:=zh hm;obtain⟨r_4,hr_4,hm⟩:=zd hm;have hA:=hxs_1
  refine rS fun _ hK7=>?_
  refine cX (fun hg=>zbC s_1 (word_2++([32]:Str)) _ hr_4) (hK7 _ _ ?_);obtain⟨r_6,hr_6,hm⟩:=zd hm
  refine rS fun _ hK9=>?_
  refine cX (fun hg=>zhO r_4.1 ([10]:Str) _ hr_6) (hK9 _ _ ?_);obtain⟨c_8,hm⟩:=zh hm;refine q6 ?_;refine q6 ?_;exact wQ
theorem zg6(s:Str)(z:Int×Bool)(hm:zev s=some z):Does Tryz.prog 117 [.p (.s s)] [] (fun r X=>r=.tup [.p (.i .i64 z.1),.er z.2]∧X=[]):=by
 cases hm;exact Does.atoiA Tryz.atoiE ifc_1 ifc_2 ⟨_,Tryz.func117,by kernel_rfl,by kernel_rfl⟩ s
theorem zlK(s_1:Str)(z:Int×Bool)(hm:zew s_1=some z):Does Tryz.prog 184 [.p (.s s_1)] [] (fun r X=>r=.tup [.p (.i .i64 z.1),.p (.b z.2)]∧X=[]):=by
 unfold zew at hm
 refine dW 0 47 [.tmp 2,.tmp 3] Tryz.func184 fun B=>nA fun hA=>?_
 refine qS ?_
 refine Wp.seqW fun _ hK2 _=>?_
 obtain⟨c_9,hm⟩:=zh hm;refine q6 ?_
 refine cR hm fun hm=>?_
 refine Wp.skip (hK2 _ _ (Wp.seqW fun K6 hK6 hW6=>?_));obtain⟨k_2,hk_2,hm⟩:=zj hm
 have hcut6:∀s,k_2 s=some z→K6 [(0,.p (.s s_1))] []:=by
  intro s hs;have hm:=hk_2 _ hs;clear hs
  try dsimp only at hm⊢
  refine hK6 _ _ ?_;obtain⟨r_5,hr_5,hm⟩:=zd hm
  refine rS fun _ hK7=>?_
  refine cF (zg6 s_1 _ hr_5) (hK7 _ _ ?_)
  refine dS (pl [(0,none),(1,none),(2,none),(3,none),(4,none)]) fun _ hK9=>hK9 _ _ ?_
  exact wR
 clear hK6 hk_2;refine qS ?_;refine Wp.block ?_;obtain⟨k_6,hk_6,hm⟩:=zp hm
 refine fL 0 s_1.length fun hl_8=>?_
 refine Wp.forL (fun i_3 s=>[(0,.p (.s s_1)),(4,.p (.i .i64 (i_3:Int)))]) (fun i_3 s=>[]) wF hm ?_;clear hm;intro i_3 s hii_3 hm
 try dsimp only at hm⊢
 refine Wp.seqW fun _ hK11 _=>qS ?_
 refine Wp.cond rfl ⟨⟩ (fun hc11=>?_) fun hc11=>Wp.exit (hW6 _ _ _ _ wF (hcut6 () (hk_6 _ (zt hm (geN hc11)))))
 have hlt11:=ltN hc11;have hw11:=zn hlt11 hl_8;obtain⟨c_4,nx_7,hxc_4,hyc_4,hnx_7,hm⟩:=zo hm hlt11;clear hxc_4;refine Wp.skip ?_;simp only[zq];refine hK11 _ _ (Wp.seqW fun _ hK13 _=>Wp.block ?_);have hA:=And.intro hw11 hyc_4;refine q6 ?_
 refine cR hm fun hm=>?_
 refine Wp.skip (hK13 _ _ (r6 ?_));exact wN () hlt11 (hnx_7 _ hm)
theorem zdA(n:Int)(o0:Str)(z:Unit)(hm:zaW n o0=some z):Does Tryz.prog 194 [.ptr 0 0,.p (.i .i64 n)] [.cells 211 [.np 0,.buf 1],.sb 5 o0] (fun r X=>r=.tup []∧X=[.cells 211 [.np 0,.buf 1],.sb 5 o0]):=by
 obtain⟨h,-⟩:=zh hm;obtain⟨k,rfl⟩:=Int.eq_ofNat_of_zero_le h.1;exact Does.grow growLay growExt k o0 (by omega)
theorem zec(o1_1:Str)(z:Unit)(hm:zci o1_1=some z):Does Tryz.prog 222 [.ptr 0 0] [.cells 211 [.nil,.buf 1],.sb 5 o1_1] (fun r X=>r=.tup []∧X=[.cells 211 [.ptr 0 0,.buf 1],.sb 5 o1_1]):=by
 unfold zci at hm
 refine dW 2 20 [] Tryz.func222 fun B=>nA fun hA=>?_
 refine qS ?_;refine Wp.cond rfl ⟨⟩ (fun hc2=>?_) (fun hc2=>?_)
 rotate_left
 ·cases hc2
 refine Wp.region fun K3 hK3=>?_
 simp only[go_sem,simprocAttr]
 try refine⟨sd,?_⟩
 refine Rg.callI (v:=?av4) (g:=true) nvi_258 si si sg ?cont4;simp only[go_sem,simprocAttr];refine kA hK3 ?_;refine zcs ?_;cases hm;exact fse2
theorem zeb(o1_1:Str)(z:Unit)(hm:zch o1_1=some z):Does Tryz.prog 222 [.ptr 0 0] [.cells 211 [.ptr 0 0,.buf 1],.sb 5 o1_1] (fun r X=>r=.tup []∧X=[.cells 211 [.ptr 0 0,.buf 1],.sb 5 o1_1]):=by
 unfold zch at hm
 refine dW 2 20 [] Tryz.func222 fun B=>nA fun hA=>?_
 refine qS ?_;refine Wp.cond rfl ⟨⟩ (fun hc2=>?_) (fun hc2=>?_)
 ·cases hc2
 refine qS ?_;refine Wp.cond rfl ⟨⟩ (fun hc4=>?_) (fun hc4=>?_)
 ·cases hc4
 refine Wp.skip (zcs ?_);cases hm;exact fse2
theorem zbK(o0:Str)(z:Unit)(hm:zaC o0=some z):Does Tryz.prog 222 [.ptr 0 0] [.cells 211 [.np 0,.buf 1],.sb 5 o0] (fun r X=>r=.tup []∧X=[.cells 211 [.np 0,.buf 1],.sb 5 o0]) :=
 Does.np (zec o0 () rfl) (zeb o0 () rfl)
theorem zm(s_2:Str)(o1_1:Str)(z:Int×Str)(hm:zi s_2 o1_1=some z):Does Tryz.prog 170 [.ptr 0 0,.p (.s s_2)] [.cells 211 [.np 0,.buf 1],.sb 5 o1_1] (fun r X=>r=.tup [.p (.i .i64 z.1),.raw .nilIface]∧X=[.cells 211 [.np 0,.buf 1],.sb 5 z.2]):=by
 unfold zi at hm
 refine dW 2 19 [.tmp 4,.tmp 5] Tryz.func170 fun B=>nA fun hA=>?_
 refine qS ?_;obtain⟨r_3,hr_3,hm⟩:=zd hm
 refine rS fun _ hK2=>?_
 refine cO [0,1] (zbK o1_1 _ hr_3) (hK2 _ _ ?_);obtain⟨c_4,hm⟩:=zh hm;refine q6 ?_;exact wQ
theorem zaD(o1_1:Str)(z:Str)(hm:zC o1_1=some z):Does Tryz.prog 175 [.ptr 0 0] [.cells 211 [.np 0,.buf 1],.sb 5 o1_1] (fun r X=>r=.p (.s z)∧X=[.cells 211 [.np 0,.buf 1],.sb 5 o1_1]):=by
 unfold zC at hm
 refine dW 2 14 [.tmp 2] Tryz.func175 fun B=>nA fun hA=>?_
 refine qS ?_
 refine dS (pl [(0,none),(1,none),(2,none),(3,none),(5,none),(6,none),(7,none),(8,none),(9,none),(4,some [5,6,7,8,9]),(10,some []),(11,none)]) fun _ hK2=>hK2 _ _ ?_
 exact wR
theorem zg4(elems_1:List Str)(sep_3:Str)(z:Str)(hm:zbk elems_1 sep_3=some z):Does Tryz.prog 120 [.p (.l (List.map ecS elems_1)),.p (.s sep_3)] [] (fun r X=>r=.p (.s z)∧X=[]):=by
 unfold zbk at hm
 refine dW 0 75 [.tmp 4] Tryz.func120 fun B=>nA fun hA=>?_
 refine qS ?_
 refine Wp.seqW fun _ hK2 _=>qS ?_
 refine Wp.block (qS ?_)
 refine cR hm fun hm=>?_
 refine qS ?_
 refine cN hm (fun hm=>?_) fun hm=>?_
 ·obtain⟨s_4,hbs_4,hxs_4,hys_4,hm⟩:=zbt hm
  replace hxs_4:∀d,(List.map ecS elems_1).getD 0 d=ecS s_4:=hxs_4 ecS;have hA:=hxs_4;exact wQ
 ·refine Wp.skip (hK2 _ _ (qS ?_))
  refine Wp.seqW fun K11 hK11 hW11=>?_
  obtain⟨k_7,hk_7,hm⟩:=zj hm
  have hcut11:∀s,k_7 s=some z→K11 [(0,.p (.l (List.map ecS elems_1))),(1,.p (.s sep_3)),(5,.p (.i .i64 s))] []:=by
   intro n_27 hs;have hm:=hk_7 _ hs;clear hs
   try dsimp only at hm⊢
   refine hK11 _ _ (Wp.seqW fun K12 hK12 hW12=>?_);obtain⟨k_8,hk_8,hm⟩:=zj hm
   have hcut12:∀s,k_8 s=some z→K12 [(0,.p (.l (List.map ecS elems_1))),(1,.p (.s sep_3)),(5,.p (.i .i64 s))] []:=by
    intro n_23 hs;have hm:=hk_8 _ hs;clear hs
    try dsimp only at hm⊢
    refine hK12 _ _ (qS ?_);refine Wp.adoptB 0 5 rfl ?_;simp only[go_sem,simprocAttr];obtain⟨r_14,hr_14,hm⟩:=zd hm
    refine rS fun _ hK14=>?_
    refine cO [0,1] (zdA n_23 [] _ hr_14) (hK14 _ _ ?_);obtain⟨s_2,hbs_2,hxs_2,hys_2,hm⟩:=zbt hm;replace hxs_2:∀d,(List.map ecS elems_1).getD 0 d=ecS s_2:=hxs_2 ecS;obtain⟨r_15,hr_15,hm⟩:=zd hm;have hA:=hxs_2
    refine rS fun _ hK16=>?_
    refine cO [0,1] (zm s_2 [] _ hr_15) (hK16 _ _ ?_)
    refine Wp.seqW fun K18 hK18 hW18=>?_
    obtain⟨k_9,hk_9,hm⟩:=zj hm
    have hcut18:∀s,k_9 s=some z→K18 [(8,.ptr 0 0)] [.cells 211 [.np 0,.buf 1],.sb 5 s]:=by
     intro o1_24 hs;have hm:=hk_9 _ hs;clear hs
     try dsimp only at hm⊢
     refine hK18 _ _ ?_;obtain⟨r_16,hr_16,hm⟩:=zd hm
     refine rS fun _ hK19=>?_
     refine cO [0,1] (zaD o1_24 _ hr_16) (hK19 _ _ ?_);exact wR
    clear hK18 hk_9;obtain⟨c_28,hm⟩:=zh hm;refine q6 ?_;refine Wp.block ?_;obtain⟨k_17,hk_17,hm⟩:=zp hm
    refine fL 63 ((List.drop 1 elems_1).length) fun hl_25=>?_
    refine Wp.forL (fun i_10 s=>[(1,.p (.s sep_3)),(8,.ptr 0 0),(63,.p (.l (List.map ecS (List.drop 1 elems_1)))),(64,.p (.i .i64 ((List.drop 1 elems_1).length:Int))),(65,.p (.i .i64 (i_10:Int)))]) (fun i_10 s=>[.cells 211 [.np 0,.buf 1],.sb 5 s]) ?_ hm ?_
    ·simp only[go_sem,simprocAttr,hA]
     try exact se2
    clear hm;intro i_10 o1_18 hii_10 hm
    try dsimp only at hm⊢
    refine q6 ?_
    refine Wp.seqW fun _ hK23 _=>Wp.cond rfl ⟨⟩ (fun hc23=>?_) (fun hc23=>?_)
    rotate_left
    ·refine Wp.exit ?_
     have hm:=hk_17 _ (zt hm (ge_nat (by first|exact hc23|simpa using hc23)))
     try dsimp only at hm
     refine hW18 _ _ _ _ ?_ (hcut18 o1_18 hm);simp only[go_sem,simprocAttr,hA]
     try exact se2
    have hlt23:=ltN hc23;have hw23:=zn hlt23 hl_25;obtain⟨s_5,nx_19,hxs_5,hys_5,hnx_19,hm⟩:=zo hm hlt23;replace hxs_5:=hxs_5 ecS;refine Wp.skip ?_;simp only[zq];refine hK23 _ _ (Wp.seqW fun _ hK24 _=>Wp.block ?_);have hA:=And.intro hxs_2 (And.intro hw23 hxs_5);refine q6 ?_;obtain⟨r_12,hr_12,hm⟩:=zd hm
    refine rS fun _ hK26=>?_
    refine cO [0,1] (zm sep_3 o1_18 _ hr_12) (hK26 _ _ ?_);obtain⟨r_13,hr_13,hm⟩:=zd hm
    refine rE fun _ hK28=>?_
    refine cO [0,1] (zm s_5 r_12.2 _ hr_13) (hK28 _ _ ?_);refine hK24 _ _ (r6 ?_);exact wN r_13.2 hlt23 (hnx_19 _ hm)
   clear hK12 hk_8;refine qS ?_;refine Wp.block ?_;obtain⟨k_20,hk_20,hm⟩:=zp hm
   refine fL 0 elems_1.length fun hl_26=>?_
   refine Wp.forL (fun i_11 s=>[(0,.p (.l (List.map ecS elems_1))),(1,.p (.s sep_3)),(5,.p (.i .i64 s)),(39,.p (.l (List.map ecS elems_1))),(40,.p (.i .i64 (elems_1.length:Int))),(41,.p (.i .i64 (i_11:Int)))]) (fun i_11 s=>[]) wF hm ?_;clear hm;intro i_11 n_21 hii_11 hm
   try dsimp only at hm⊢
   refine qS ?_
   refine Wp.seqW fun _ hK33 _=>Wp.cond rfl ⟨⟩ (fun hc33=>?_) fun hc33=>Wp.exit (hW12 _ _ _ _ wF (hcut12 n_21 (hk_20 _ (zt hm (geN hc33)))))
   have hlt33:=ltN hc33;have hw33:=zn hlt33 hl_26;obtain⟨s_6,nx_22,hxs_6,hys_6,hnx_22,hm⟩:=zo hm hlt33;replace hxs_6:=hxs_6 ecS;refine Wp.skip ?_;simp only[zq];refine hK33 _ _ (Wp.seqW fun _ hK34 _=>Wp.block ?_);have hA:=And.intro hw33 hxs_6;refine q6 ?_
   refine Wp.seqW fun _ hK36 _=>q6 ?_
   refine cN hm (fun hm=>?_) fun hm=>?_
   ·cases hm
   ·refine Wp.skip (hK36 _ _ (r6 ?_))
    refine hK34 _ _ (r6 ?_);exact wN (IntKind.i64.wrap (n_21+(s_6.length:Int))) hlt33 (hnx_22 _ hm)
  clear hK11 hk_7;refine qS ?_
  refine cN hm (fun hm=>?_) fun hm=>?_
  ·refine Wp.seqW fun _ hK43 _=>?_
   obtain⟨c_29,hm⟩:=zh hm;refine q6 ?_
   refine cN hm (fun hm=>?_) fun hm=>?_
   ·cases hm
   ·refine Wp.skip (hK43 _ _ (qR ?_))
    refine hW11 _ _ _ _ ?_ (hcut11 (IntKind.i64.wrap (0+(IntKind.i64.wrap ((sep_3.length:Int)*(IntKind.i64.wrap ((elems_1.length:Int)-1)))))) hm);exact fse2
  ·refine Wp.skip (hW11 _ _ _ _ ?_ (hcut11 0 hm))
   exact fse2
theorem ze8(s_1:Str)(sep_2:Str)(z:Str×Str×Bool)(hm:zaU s_1 sep_2=some z):Does Tryz.prog 243 [.p (.s s_1),.p (.s sep_2)] [] (fun r X=>r=.tup [.p (.s z.1),.p (.s z.2.1),.p (.b z.2.2)]∧X=[]):=by
 unfold zaU at hm
 refine dW 0 23 [.tmp 4,.tmp 5,.tmp 6] Tryz.func243 fun B=>nA fun hA=>?_
 refine qS ?_
 refine Wp.seqW fun _ hK2 _=>?_
 obtain⟨r_3,hr_3,hm⟩:=zd hm
 refine rS fun _ hK3=>?_
 refine cX (fun hg=>zb4 s_1 sep_2 _ hr_3) (hK3 _ _ ?_);refine qS ?_
 refine cN hm (fun hm=>?_) fun hm=>?_
 ·obtain⟨c_4,hm⟩:=zh hm
  obtain⟨c_5,hm⟩:=zh hm
  refine dS (pl [(0,none),(1,none),(2,none),(3,none),(4,none),(5,none),(6,none),(7,none),(8,none),(9,none),(10,none),(11,none)]) fun _ hK7=>hK7 _ _ ?_
  exact wR
 ·exact Wp.skip (hK2 _ _ (wQ))
theorem zcV(s_1:Str)(sep_2:Str)(z:Str×Str×Bool)(hm:zbw s_1 sep_2=some z):Does Tryz.prog 190 [.p (.s s_1),.p (.s sep_2)] [] (fun r X=>r=.tup [.p (.s z.1),.p (.s z.2.1),.p (.b z.2.2)]∧X=[]):=by
 unfold zbw at hm
 refine dW 0 13 [.tmp 4,.tmp 5,.tmp 6] Tryz.func190 fun B=>nA fun hA=>?_
 refine qS ?_;obtain⟨r_3,hr_3,hm⟩:=zd hm
 refine rS fun _ hK2=>?_
 refine cX (fun hg=>ze8 s_1 sep_2 _ hr_3) (hK2 _ _ ?_);exact wR
theorem zeL(s_1:Str)(c_2:Int)(z:Int)(hm:za9 s_1 c_2=some z):Does Tryz.prog 325 [.p (.s s_1),.p (.i .u8 c_2)] [] (fun r X=>r=.p (.i .i64 z)∧X=[]):=by
 unfold za9 at hm
 refine dW 0 8 [.tmp 4] Tryz.func325 fun B=>nA fun hA=>?_
 refine qS ?_;obtain⟨r_3,hr_3,hm⟩:=zd hm
 refine rS fun _ hK2=>?_
 refine cX (fun hg=>zbp s_1 c_2 _ hr_3) (hK2 _ _ ?_);exact wR
theorem zmJ(s_4:Str)(z:Int×Int)(hm:zff s_4=some z):Does Tryz.prog 323 [.p (.s s_4)] [] (fun r X=>r=.tup [.p (.i .u8 z.1),.p (.i .i64 z.2)]∧X=[]):=by
 unfold zff at hm
 refine dW 0 61 [.tmp 2,.tmp 3] Tryz.func323 fun B=>nA fun hA=>?_
 refine qS ?_
 refine Wp.seqW fun _ hK2 _=>Wp.block (qS ?_)
 refine cR hm fun hm=>?_
 obtain⟨c_1,hbc_1,hxc_1,hm⟩:=zbf hm;replace hxc_1:((s_4.getD 0 0).toNat:Int)=c_1:=hxc_1;have hA:=hxc_1;refine q6 ?_
 refine cR hm fun hm=>?_
 refine q6 ?_
 refine cR hm fun hm=>?_
 refine q6 ?_
 refine cR hm fun hm=>?_
 refine Wp.skip (hK2 _ _ ?_);obtain⟨c_2,hbc_2,hxc_2,hm⟩:=zbf hm;replace hxc_2:((s_4.getD 1 0).toNat:Int)=c_2:=hxc_2;obtain⟨r_5,hr_5,hm⟩:=zd hm;obtain⟨c_3,hbc_3,hxc_3,hm⟩:=zbf hm;replace hxc_3:((s_4.getD 2 0).toNat:Int)=c_3:=hxc_3;obtain⟨r_6,hr_6,hm⟩:=zd hm;have hA:=And.intro hxc_1 (And.intro hxc_2 hxc_3)
 refine dS (pl [(0,none),(1,none),(2,none),(3,none),(4,none),(5,none),(6,none),(7,none)]) fun _ hK15=>?_
 refine cD (fun hg=>zeL ([48,49,50,51,52,53,54,55,56,57,97,98,99,100,101,102]:Str) c_2 _ hr_5) ?_;refine cD (fun hg=>zeL ([48,49,50,51,52,53,54,55,56,57,97,98,99,100,101,102]:Str) c_3 _ hr_6) (hK15 _ _ ?_)
 refine Wp.seqW fun _ hK18 _=>q6 ?_
 refine cR hm fun hm=>?_
 refine Wp.skip (hK18 _ _ (q6 ?_))
 refine Wp.seqW fun _ hK23 _=>q6 ?_
 refine cR hm fun hm=>?_
 exact Wp.skip (hK23 _ _ (wQ))
theorem zg8(s_1:Str)(z:Str×Int)(hm:zdm s_1=some z):Does Tryz.prog 304 [.p (.s s_1)] [] (fun r X=>r=.tup [.p (.s z.1),.p (.i .i64 z.2)]∧X=[]):=by
 unfold zdm at hm
 refine dW 0 74 [.tmp 2,.tmp 3] Tryz.func304 fun B=>nA fun hA=>?_
 refine qS ?_
 refine Wp.seqW fun _ hK2 _=>?_
 obtain⟨c_8,hm⟩:=zh hm;obtain⟨c_9,hm⟩:=zh hm;refine q6 ?_
 refine cR hm fun hm=>?_
 refine Wp.skip (hK2 _ _ ?_);obtain⟨c_10,hm⟩:=zh hm;refine q6 ?_;obtain⟨c_11,hm⟩:=zh hm;refine q6 ?_
 refine Wp.seqW fun K8 hK8 hW8=>?_
 obtain⟨k_3,hk_3,hm⟩:=zj hm
 have hcut8:∀s,k_3 s=some z→K8 [(4,.buf 0)] [.buf 5 1 (List.map zar s)]:=by
  intro o0_12 hs;have hm:=hk_3 _ hs;clear hs
  try dsimp only at hm⊢
  exact hK8 _ _ (wQ)
 clear hK8 hk_3;refine qS ?_;refine Wp.block ?_;obtain⟨k_7,hk_7,hm⟩:=zaA hm;refine Wp.loopN (fun s=>[(0,.p (.s (List.take ((IntKind.i64.wrap ((s_1.length:Int)-1)).toNat-1) (List.drop 1 s_1)))),(4,.buf 0),(5,.p (.i .i64 s.1))]) (fun s=>[.buf 5 1 (List.map zar s.2)]) ?_ hm ?_
 ·exact zkt
 clear hm;intro s nx_13 hm;obtain⟨i_4,o0_6⟩:=s
 try dsimp only at hm⊢
 refine Wp.seqW fun _ hK11 _=>qS ?_
 refine cN hm (fun hm=>?_) fun hm=>?_
 ·refine Wp.skip (hK11 _ _ (Wp.seqW fun _ hK14 _=>Wp.block ?_))
  obtain⟨c_2,hbc_2,hxc_2,hm⟩:=zbf hm;replace hxc_2:(((List.take ((IntKind.i64.wrap ((s_1.length:Int)-1)).toNat-1) (List.drop 1 s_1)).getD i_4.toNat 0).toNat:Int)=c_2:=hxc_2;have hA:=hxc_2;refine q6 ?_
  refine Wp.seqW fun _ hK16 _=>q6 ?_
  refine cR hm fun hm=>?_
  refine Wp.skip (hK16 _ _ (Wp.seqW fun _ hK20 _=>q6 ?_))
  refine cN hm (fun hm=>?_) fun hm=>?_
  ·obtain⟨c_14,hm⟩:=zh hm
   obtain⟨r_5,hr_5,hm⟩:=zd hm
   refine rS fun _ hK23=>?_
   refine cX (fun hg=>zmJ (List.drop ((IntKind.i64.wrap (i_4+1)).toNat) (List.take ((IntKind.i64.wrap ((s_1.length:Int)-1)).toNat-1) (List.drop 1 s_1))) _ hr_5) (hK23 _ _ ?_)
   refine Wp.seqW fun _ hK25 _=>q6 ?_
   refine cR hm fun hm=>?_
   refine Wp.skip (hK25 _ _ (r6 ?_));refine hK20 _ _ ?_;obtain⟨c_15,hm⟩:=zh hm;refine r6 ?_;refine hK14 _ _ (r6 ?_);simp only[zq,zD,↓reduceIte];refine⟨(IntKind.i64.wrap ((IntKind.i64.wrap (i_4+r_5.2))+1),o0_6++[r_5.1]),hm,?_⟩;simp only[go_sem,simprocAttr,hA]
   try exact se3
  ·refine Wp.skip (hK20 _ _ ?_)
   obtain⟨c_16,hm⟩:=zh hm;refine r6 ?_;refine hK14 _ _ (r6 ?_);simp only[zq,zD,↓reduceIte];refine⟨(IntKind.i64.wrap (i_4+1),o0_6++[c_2]),hm,?_⟩;simp only[go_sem,simprocAttr,hA]
   try exact se3
 ·refine Wp.exit ?_
  simp only[zq,zD,↓reduceIte];have hm:=hk_7 _ hm
  try dsimp only at hm
  refine hW8 _ _ _ _ ?_ (hcut8 o0_6 hm);exact zkt
theorem zi8(s_1:Str)(z:Bool)(hm:zf8 s_1=some z):Does Tryz.prog 305 [.p (.s s_1)] [] (fun r X=>r=.p (.b z)∧X=[]):=by
 unfold zf8 at hm
 refine dW 0 9 [.tmp 2] Tryz.func305 fun B=>nA fun hA=>?_
 refine qS ?_;exact wQ
theorem zkF(s_9:Str)(z:disk_line×Bool)(hm:zcI s_9=some z):Does Tryz.prog 270 [.p (.s s_9)] [] (fun r X=>r=.tup [.agg [.p (.s z.1.word),.p (.s z.1.file.Path),.p (.s z.1.file.Data),.p (.b z.1.file.Runs),.p (.s z.1.setting.Key),.p (.s z.1.setting.Value),.p (.s z.1.service.Name),.p (.s z.1.service.Path),.p (.b z.1.service.Auto),.p (.b z.1.service.On)],.p (.b z.2)]∧X=[]):=by
 unfold zcI at hm
 refine dW 0 147 [.cell 2 264,.tmp 3] Tryz.func270 fun B=>nA fun hA=>?_
 refine qS ?_;obtain⟨r_1,hr_1,hm⟩:=zd hm
 refine rS fun _ hK2=>?_
 refine cX (fun hg=>zcV s_9 ([32]:Str) _ hr_1) (hK2 _ _ ?_);obtain⟨r_3,hr_3,hm⟩:=zd hm
 refine rS fun _ hK4=>?_
 refine cX (fun hg=>zcV r_1.2.1 ([32]:Str) _ hr_3) (hK4 _ _ ?_)
 refine Wp.seqW fun _ hK6 _=>qS ?_
 refine cR hm fun hm=>?_
 refine Wp.skip (hK6 _ _ (qS ?_))
 refine Wp.seqW fun _ hK11 _=>qS ?_
 refine Wp.block (Wp.seqW fun K13 hK13 hW13=>?_);obtain⟨k_7,hk_7,hm⟩:=zj hm
 have hcut13:∀s,k_7 s=some z→K13 [(2,.ptr 0 0),(4,.p (.s r_1.1)),(7,.p (.s r_3.1)),(8,.p (.s r_3.2.1)),(9,.p (.b r_3.2.2)),(10,.ptr 1 0),(37,.p (.s r_1.1)),(38,.p (.b s))] [.cells 264 [.p (.s []),.p (.s []),.p (.s []),.p (.b false),.p (.s []),.p (.s []),.p (.s []),.p (.s []),.p (.b false),.p (.b false)],.cells 264 [.p (.s r_1.1),.p (.s []),.p (.s []),.p (.b false),.p (.s []),.p (.s []),.p (.s []),.p (.s []),.p (.b false),.p (.b false)]]:=by
  intro t38_17 hs;have hm:=hk_7 _ hs;clear hs
  try dsimp only at hm⊢
  refine hK13 _ _ (cN hm (fun hm=>?_) fun hm=>?_)
  ·obtain⟨r_11,hr_11,hm⟩:=zd hm
   refine rS fun _ hK15=>?_
   refine cX (fun hg=>zg8 r_3.2.1 _ hr_11) (hK15 _ _ ?_);refine qS ?_;exact wQ
  ·refine Wp.seqW fun K19 hK19 hW19=>?_
   obtain⟨k_8,hk_8,hm⟩:=zj hm
   have hcut19:∀s,k_8 s=some z→K19 [(2,.ptr 0 0),(4,.p (.s r_1.1)),(7,.p (.s r_3.1)),(8,.p (.s r_3.2.1)),(9,.p (.b r_3.2.2)),(10,.ptr 1 0),(37,.p (.s r_1.1)),(56,.p (.b s))] [.cells 264 [.p (.s []),.p (.s []),.p (.s []),.p (.b false),.p (.s []),.p (.s []),.p (.s []),.p (.s []),.p (.b false),.p (.b false)],.cells 264 [.p (.s r_1.1),.p (.s []),.p (.s []),.p (.b false),.p (.s []),.p (.s []),.p (.s []),.p (.s []),.p (.b false),.p (.b false)]]:=by
    intro t56_18 hs;have hm:=hk_8 _ hs;clear hs
    try dsimp only at hm⊢
    refine hK19 _ _ (cN hm (fun hm=>?_) fun hm=>?_)
    ·obtain⟨r_12,hr_12,hm⟩:=zd hm
     refine rS fun _ hK21=>?_
     refine cX (fun hg=>zg8 r_3.2.1 _ hr_12) (hK21 _ _ ?_);refine qS ?_;exact wQ
    ·refine qS ?_
     refine cN hm (fun hm=>?_) fun hm=>?_
     ·obtain⟨r_2,hr_2,hm⟩:=zd hm
      refine rS fun _ hK27=>?_
      refine cF (zb2 r_3.2.1 ([32]:Str) _ hr_2) (hK27 _ _ ?_)
      refine Wp.seqW fun _ hK29 _=>?_
      obtain⟨c_19,hm⟩:=zh hm;obtain⟨c_20,hm⟩:=zh hm;obtain⟨r_10,hr_10,hm⟩:=zI hm;obtain⟨c_21,hm⟩:=zh hm;obtain⟨r_13,hr_13,hm⟩:=zI hm;have hr_14:=zdM (l:=r_2) (e:=ecS) (d:=[]) (i:=0);simp only[ecS,List.map_nil]at hr_14;have hr_15:=zdM (l:=r_2) (e:=ecS) (d:=[]) (i:=1);simp only[ecS,List.map_nil]at hr_15;have hr_16:=zdM (l:=r_2) (e:=ecS) (d:=[]) (i:=2);simp only[ecS,List.map_nil]at hr_16;have hA:=And.intro hr_14 (And.intro hr_15 hr_16)
      refine rS fun _ hK30=>?_
      refine cX (g:=!(((!r_3.2.2)||(!decide ((r_2.length:Int)=3)))||(decide ((r_2.getD 0 [])=[])))) (fun hg=>zi8 (r_2.getD 1 []) _ (hr_10 hg)) ?_;refine cX (g:=!((((!r_3.2.2)||(!decide ((r_2.length:Int)=3)))||(decide ((r_2.getD 0 [])=[])))||(!r_10))) (fun hg=>zi8 (r_2.getD 2 []) _ (hr_13 hg)) (hK30 _ _ ?_)
      refine cR hm fun hm=>?_
      refine Wp.skip (hK29 _ _ ?_);obtain⟨s_4,hbs_4,hxs_4,hys_4,hm⟩:=zbt hm;replace hxs_4:∀d,(List.map ecS r_2).getD 0 d=ecS s_4:=hxs_4 ecS;obtain⟨s_5,hbs_5,hxs_5,hys_5,hm⟩:=zbt hm;replace hxs_5:∀d,(List.map ecS r_2).getD 1 d=ecS s_5:=hxs_5 ecS;obtain⟨s_6,hbs_6,hxs_6,hys_6,hm⟩:=zbt hm;replace hxs_6:∀d,(List.map ecS r_2).getD 2 d=ecS s_6:=hxs_6 ecS;have hA:=And.intro hxs_4 (And.intro hxs_5 hxs_6)
      refine dS (pl [(0,none),(1,none),(2,none),(3,none),(4,none),(5,none),(6,none),(7,none),(8,none),(9,none),(10,none),(11,none),(12,none),(13,none),(14,some [])]) fun _ hK35=>hK35 _ _ ?_
      exact wQ
     ·refine qS ?_
      refine cN hm (fun hm=>?_) fun hm=>?_
      ·refine qR ?_
       exact hK11 _ _ (wQ)
      ·refine qS ?_
       refine cN hm (fun hm=>?_) fun hm=>?_
       ·refine qR ?_
        exact hK11 _ _ (wQ)
       ·refine qS ?_
        refine cN hm (fun hm=>?_) fun hm=>?_
        ·refine qR ?_
         exact hK11 _ _ (wQ)
        ·exact Wp.skip (hK11 _ _ (wQ))
   clear hK19 hk_8;refine qS ?_
   refine cN hm (fun hm=>?_) fun hm=>?_
   ·refine Wp.skip (hW19 _ _ _ _ ?_ (hcut19 (decide (r_1.1=([102,105,108,101]:Str))) hm))
    exact zkt
   ·refine qS ?_
    refine cN hm (fun hm=>?_) fun hm=>?_
    ·refine Wp.skip (hW19 _ _ _ _ ?_ (hcut19 (decide (r_1.1=([114,117,110]:Str))) hm))
     exact zkt
    ·refine qS ?_
     refine cN hm (fun hm=>?_) fun hm=>?_
     ·refine Wp.skip (hW19 _ _ _ _ ?_ (hcut19 (decide (r_1.1=([112,117,116]:Str))) hm))
      exact zkt
     ·refine qR ?_
      refine hW19 _ _ _ _ ?_ (hcut19 (decide (r_1.1=([112,117,116,114,117,110]:Str))) hm);exact zkt
 clear hK13 hk_7;refine qS ?_
 refine cN hm (fun hm=>?_) fun hm=>?_
 ·refine Wp.skip (hW13 _ _ _ _ ?_ (hcut13 (decide (r_1.1=([102,97,99,116]:Str))) hm))
  exact zkt
 ·refine qR ?_
  refine hW13 _ _ _ _ ?_ (hcut13 (decide (r_1.1=([115,101,116]:Str))) hm);exact zkt
end Go.Proofs.YtbofknpajcdnmaaGreatDoor
