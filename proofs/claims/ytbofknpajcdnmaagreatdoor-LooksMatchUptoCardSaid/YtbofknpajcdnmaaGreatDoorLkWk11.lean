/- That the code does what the models say (part 11). -/
import Derived.Test.YtbofknpajcdnmaaGreatDoorLkWk0
import Derived.Test.YtbofknpajcdnmaaGreatDoorLkWk4
import Derived.Test.YtbofknpajcdnmaaGreatDoorLkWk5
import Derived.Test.YtbofknpajcdnmaaGreatDoorLkWk8
import Derived.Test.YtbofknpajcdnmaaGreatDoorLkWk10
set_option linter.unusedSimpArgs false
set_option linter.unusedVariables false
open Go.Proofs Go.Shelf
namespace Go.Proofs.YtbofknpajcdnmaaGreatDoor
open Go.Vc Go.Md
set_option maxRecDepth 100000
set_option maxHeartbeats 4000000
theorem zi7(x_1:Int)(y_2:Int)(z:Int×Int)(hm:zfb x_1 y_2=some z):Does Tryz.prog 264 [.p (.i .u64 x_1),.p (.i .u64 y_2)] [] (fun r X=>r=.tup [.p (.i .u64 z.1),.p (.i .u64 z.2)]∧X=[]):=by
 unfold zfb at hm
 refine dW 0 51 [.tmp 4,.tmp 5] Tryz.func264 fun B=>nA fun hA=>?_
 refine qS ?_;refine qS ?_;refine qS ?_;refine qS ?_;refine qS ?_;refine qS ?_;refine qS ?_;refine qS ?_;refine qS ?_;refine qS ?_;refine qS ?_;exact wQ
theorem zkE(x_1:Int)(y_2:Int)(z:Int×Int)(hm:zeV x_1 y_2=some z):Does Tryz.prog 228 [.p (.i .u64 x_1),.p (.i .u64 y_2)] [] (fun r X=>r=.tup [.p (.i .u64 z.1),.p (.i .u64 z.2)]∧X=[]):=by
 unfold zeV at hm
 refine dW 0 30 [.tmp 4,.tmp 5] Tryz.func228 fun B=>nA fun hA=>?_
 refine qS ?_
 refine Wp.seqW fun _ hK2 _=>Wp.cond rfl ⟨⟩ (fun hc3=>?_) (fun hc3=>?_)
 ·cases hc3
 refine Wp.skip (hK2 _ _ ?_);obtain⟨r_3,hr_3,hm⟩:=zd hm
 refine rS fun _ hK4=>?_
 refine cX (fun hg=>zi7 x_1 y_2 _ hr_3) (hK4 _ _ ?_);exact wQ
theorem zbx(o1_1:Str)(z:Int)(hm:zaN o1_1=some z):Does Tryz.prog 229 [.ptr 0 0] [.cells 211 [.np 0,.buf 1],.sb 5 o1_1] (fun r X=>r=.p (.i .i64 z)∧X=[.cells 211 [.np 0,.buf 1],.sb 5 o1_1]):=by
 unfold zaN at hm
 refine dW 2 8 [.tmp 2] Tryz.func229 fun B=>nA fun hA=>?_
 refine qS ?_;exact wQ
theorem zjS(s_1:Str)(count_5:Int)(z:Str)(hm:zcT s_1 count_5=some z):Does Tryz.prog 181 [.p (.s s_1),.p (.i .i64 count_5)] [] (fun r X=>r=.p (.s z)∧X=[]):=by
 unfold zcT at hm
 refine dW 0 125 [.tmp 4] Tryz.func181 fun B=>nA fun hA=>?_
 refine qS ?_
 refine Wp.seqW fun _ hK2 _=>qS ?_
 refine Wp.block (qS ?_)
 refine cR hm fun hm=>?_
 refine qS ?_
 refine cR hm fun hm=>?_
 refine Wp.skip (hK2 _ _ (Wp.seqW fun K10 hK10 hW10=>?_));obtain⟨k_6,hk_6,hm⟩:=zj hm
 have hcut10:∀s,k_6 s=some z→K10 [(0,.p (.s s_1)),(1,.p (.i .i64 count_5))] []:=by
  intro s hs;have hm:=hk_6 _ hs;clear hs
  try dsimp only at hm⊢
  refine hK10 _ _ ?_;obtain⟨r_2,hr_2,hm⟩:=zd hm
  refine rS fun _ hK11=>?_
  refine cX (fun hg=>zkE (IntKind.u64.wrap (s_1.length:Int)) (IntKind.u64.wrap count_5) _ hr_2) (hK11 _ _ ?_)
  refine Wp.seqW fun K13 hK13 hW13=>?_
  obtain⟨k_7,hk_7,hm⟩:=zj hm
  have hcut13:∀s,k_7 s=some z→K13 [(0,.p (.s s_1)),(6,.p (.i .u64 r_2.2))] []:=by
   intro s hs;have hm:=hk_7 _ hs;clear hs
   try dsimp only at hm⊢
   refine hK13 _ _ (qS ?_)
   refine Wp.seqW fun _ hK15 _=>qS ?_
   refine cR hm fun hm=>?_
   refine Wp.skip (hK15 _ _ (Wp.seqW fun K19 hK19 hW19=>?_));obtain⟨k_8,hk_8,hm⟩:=zj hm
   have hcut19:∀s,k_8 s=some z→K19 [(0,.p (.s s_1)),(7,.p (.i .i64 (IntKind.i64.wrap r_2.2)))] []:=by
    intro s hs;have hm:=hk_8 _ hs;clear hs
    try dsimp only at hm⊢
    refine hK19 _ _ (qS ?_)
    refine Wp.seqW fun K21 hK21 hW21=>?_
    obtain⟨k_9,hk_9,hm⟩:=zj hm
    have hcut21:∀s,k_9 s=some z→K21 [(0,.p (.s s_1)),(7,.p (.i .i64 (IntKind.i64.wrap r_2.2))),(8,.p (.i .i64 s))] []:=by
     intro chunkMax_16 hs;have hm:=hk_9 _ hs;clear hs
     try dsimp only at hm⊢
     refine hK21 _ _ (qS ?_);refine Wp.adoptB 0 5 rfl ?_;simp only[go_sem,simprocAttr];obtain⟨r_17,hr_17,hm⟩:=zd hm
     refine rS fun _ hK23=>?_
     refine cO [0,1] (zdA (IntKind.i64.wrap r_2.2) [] _ hr_17) (hK23 _ _ ?_);obtain⟨r_18,hr_18,hm⟩:=zd hm
     refine rS fun _ hK25=>?_
     refine cO [0,1] (zm s_1 [] _ hr_18) (hK25 _ _ ?_)
     refine Wp.seqW fun K27 hK27 hW27=>?_
     obtain⟨k_10,hk_10,hm⟩:=zj hm
     have hcut27:∀s,k_10 s=some z→K27 [(9,.ptr 0 0)] [.cells 211 [.np 0,.buf 1],.sb 5 s]:=by
      intro o1_27 hs;have hm:=hk_10 _ hs;clear hs
      try dsimp only at hm⊢
      refine hK27 _ _ ?_;obtain⟨r_19,hr_19,hm⟩:=zd hm
      refine rS fun _ hK28=>?_
      refine cO [0,1] (zaD o1_27 _ hr_19) (hK28 _ _ ?_);exact wR
     clear hK27 hk_10;refine Wp.block ?_;obtain⟨k_20,hk_20,hm⟩:=zaA hm;refine Wp.loopN (fun s=>[(7,.p (.i .i64 (IntKind.i64.wrap r_2.2))),(8,.p (.i .i64 chunkMax_16)),(9,.ptr 0 0)]) (fun s=>[.cells 211 [.np 0,.buf 1],.sb 5 s]) ?_ hm ?_
     ·exact zf5
     clear hm;intro o1_4 nx_28 hm
     try dsimp only at hm⊢
     refine Wp.seqW fun _ hK30 _=>?_
     obtain⟨r_21,hr_21,hm⟩:=zd hm
     refine rS fun _ hK31=>?_
     refine cO [0,1] (zbx o1_4 _ hr_21) (hK31 _ _ ?_)
     refine cN hm (fun hm=>?_) fun hm=>?_
     ·refine Wp.skip (hK30 _ _ (Wp.block ?_))
      obtain⟨r_12,hr_12,hm⟩:=zd hm;obtain⟨r_13,hr_13,hm⟩:=zd hm
      refine rS fun _ hK34=>?_
      refine cO [0,1] (zbx o1_4 _ hr_12) ?_;refine cO [0,1] (zbx o1_4 _ hr_13) (hK34 _ _ ?_);obtain⟨r_14,hr_14,hm⟩:=zd hm;obtain⟨c_29,hm⟩:=zh hm;obtain⟨r_15,hr_15,hm⟩:=zd hm
      refine rE fun _ hK37=>?_
      refine cO [0,1] (zaD o1_4 _ hr_14) ?_;refine cO [0,1] (zm (List.take ((min (min (IntKind.i64.wrap ((IntKind.i64.wrap r_2.2)-r_12)) r_13) chunkMax_16).toNat) r_14) o1_4 _ hr_15) (hK37 _ _ ?_);simp only[zq,zD,↓reduceIte];refine⟨r_15.2,hm,?_⟩;exact zf5
     ·refine Wp.exit ?_
      simp only[zq,zD,↓reduceIte];have hm:=hk_20 _ hm
      try dsimp only at hm
      refine hW27 _ _ _ _ ?_ (hcut27 o1_4 hm);exact zf5
    clear hK21 hk_9;refine qS ?_
    refine cN hm (fun hm=>?_) fun hm=>?_
    ·obtain⟨c_30,hm⟩:=zh hm
     refine q6 ?_;refine qS ?_
     refine cN hm (fun hm=>?_) fun hm=>?_
     ·refine qR ?_
      refine hW21 _ _ _ _ ?_ (hcut21 (s_1.length:Int) hm);exact zf5
     ·refine Wp.skip (hW21 _ _ _ _ ?_ (hcut21 (IntKind.i64.wrap ((IntKind.i64.wrap (Int.tdiv 8192 (s_1.length:Int)))*(s_1.length:Int))) hm))
      exact zf5
    ·refine Wp.skip (hW21 _ _ _ _ ?_ (hcut21 (IntKind.i64.wrap r_2.2) hm))
     exact zf5
   clear hK19 hk_8;obtain⟨c_3,hbc_3,hxc_3,hm⟩:=zbf hm;replace hxc_3:((s_1.getD 0 0).toNat:Int)=c_3:=hxc_3;have hA:=hxc_3;refine q6 ?_;refine Wp.block (Wp.seqW fun K47 hK47 hW47=>?_);obtain⟨k_11,hk_11,hm⟩:=zj hm
   have hcut47:∀s,k_11 s=some z→K47 [(0,.p (.s s_1)),(7,.p (.i .i64 (IntKind.i64.wrap r_2.2))),(43,.p (.b s))] []:=by
    intro t43_31 hs;have hm:=hk_11 _ hs;clear hs
    try dsimp only at hm⊢
    refine hK47 _ _ (cN hm (fun hm=>?_) fun hm=>?_)
    ·refine Wp.block ?_
     obtain⟨r_22,hr_22,hm⟩:=zI hm
     refine rS fun _ hK49=>?_
     refine cX (g:=decide ((IntKind.i64.wrap r_2.2)≤128)) (fun hg=>zaJ ((List.append [32,32,32,32,32,32,32,32,32,32,32,32,32,32,32,32,32,32,32,32,32,32,32,32,32,32,32,32,32,32,32,32,32,32,32,32,32,32,32,32,32,32,32,32,32,32,32,32,32,32,32,32,32,32,32,32,32,32,32,32,32,32,32,32] [32,32,32,32,32,32,32,32,32,32,32,32,32,32,32,32,32,32,32,32,32,32,32,32,32,32,32,32,32,32,32,32,32,32,32,32,32,32,32,32,32,32,32,32,32,32,32,32,32,32,32,32,32,32,32,32,32,32,32,32,32,32,32,32]):Str) s_1 _ (hr_22 hg)) (hK49 _ _ ?_)
     refine cN hm (fun hm=>?_) fun hm=>?_
     ·obtain⟨c_32,hm⟩:=zh hm
      exact wQ
     ·obtain⟨r_23,hr_23,hm⟩:=zI hm
      refine rS fun _ hK53=>?_
      refine cX (g:=decide ((IntKind.i64.wrap r_2.2)≤128)) (fun hg=>zaJ ((List.append [45,45,45,45,45,45,45,45,45,45,45,45,45,45,45,45,45,45,45,45,45,45,45,45,45,45,45,45,45,45,45,45,45,45,45,45,45,45,45,45,45,45,45,45,45,45,45,45,45,45,45,45,45,45,45,45,45,45,45,45,45,45,45,45] [45,45,45,45,45,45,45,45,45,45,45,45,45,45,45,45,45,45,45,45,45,45,45,45,45,45,45,45,45,45,45,45,45,45,45,45,45,45,45,45,45,45,45,45,45,45,45,45,45,45,45,45,45,45,45,45,45,45,45,45,45,45,45,45]):Str) s_1 _ (hr_23 hg)) (hK53 _ _ ?_)
      refine cN hm (fun hm=>?_) fun hm=>?_
      ·obtain⟨c_33,hm⟩:=zh hm
       exact wQ
      ·obtain⟨r_24,hr_24,hm⟩:=zI hm
       refine rS fun _ hK57=>?_
       refine cX (g:=decide ((IntKind.i64.wrap r_2.2)≤64)) (fun hg=>zaJ ([48,48,48,48,48,48,48,48,48,48,48,48,48,48,48,48,48,48,48,48,48,48,48,48,48,48,48,48,48,48,48,48,48,48,48,48,48,48,48,48,48,48,48,48,48,48,48,48,48,48,48,48,48,48,48,48,48,48,48,48,48,48,48,48]:Str) s_1 _ (hr_24 hg)) (hK57 _ _ ?_)
       refine cN hm (fun hm=>?_) fun hm=>?_
       ·obtain⟨c_34,hm⟩:=zh hm
        exact wQ
       ·obtain⟨r_25,hr_25,hm⟩:=zI hm
        refine rS fun _ hK61=>?_
        refine cX (g:=decide ((IntKind.i64.wrap r_2.2)≤128)) (fun hg=>zaJ ((List.append [61,61,61,61,61,61,61,61,61,61,61,61,61,61,61,61,61,61,61,61,61,61,61,61,61,61,61,61,61,61,61,61,61,61,61,61,61,61,61,61,61,61,61,61,61,61,61,61,61,61,61,61,61,61,61,61,61,61,61,61,61,61,61,61] [61,61,61,61,61,61,61,61,61,61,61,61,61,61,61,61,61,61,61,61,61,61,61,61,61,61,61,61,61,61,61,61,61,61,61,61,61,61,61,61,61,61,61,61,61,61,61,61,61,61,61,61,61,61,61,61,61,61,61,61,61,61,61,61]):Str) s_1 _ (hr_25 hg)) (hK61 _ _ ?_)
        refine cN hm (fun hm=>?_) fun hm=>?_
        ·obtain⟨c_35,hm⟩:=zh hm
         exact wQ
        ·obtain⟨r_26,hr_26,hm⟩:=zI hm
         refine rS fun _ hK65=>?_
         refine cX (g:=decide ((IntKind.i64.wrap r_2.2)≤64)) (fun hg=>zaJ ([9,9,9,9,9,9,9,9,9,9,9,9,9,9,9,9,9,9,9,9,9,9,9,9,9,9,9,9,9,9,9,9,9,9,9,9,9,9,9,9,9,9,9,9,9,9,9,9,9,9,9,9,9,9,9,9,9,9,9,9,9,9,9,9]:Str) s_1 _ (hr_26 hg)) (hK65 _ _ ?_)
         refine cN hm (fun hm=>?_) fun hm=>?_
         ·obtain⟨c_36,hm⟩:=zh hm
          exact wQ
         ·refine Wp.skip (hW19 _ _ _ _ ?_ (hcut19 () hm))
          simp only[go_sem,simprocAttr,hA]
          try exact se4
    ·refine Wp.skip (hW19 _ _ _ _ ?_ (hcut19 () hm))
     simp only[go_sem,simprocAttr,hA]
     try exact se4
   clear hK47 hk_11;refine q6 ?_
   refine cN hm (fun hm=>?_) fun hm=>?_
   ·refine Wp.skip (hW47 _ _ _ _ ?_ (hcut47 (decide (c_3=32)) hm))
    simp only[go_sem,simprocAttr,hA]
    try exact se4
   ·refine q6 ?_
    refine cN hm (fun hm=>?_) fun hm=>?_
    ·refine Wp.skip (hW47 _ _ _ _ ?_ (hcut47 (decide (c_3=45)) hm))
     simp only[go_sem,simprocAttr,hA]
     try exact se4
    ·refine q6 ?_
     refine cN hm (fun hm=>?_) fun hm=>?_
     ·refine Wp.skip (hW47 _ _ _ _ ?_ (hcut47 (decide (c_3=48)) hm))
      simp only[go_sem,simprocAttr,hA]
      try exact se4
     ·refine q6 ?_
      refine cN hm (fun hm=>?_) fun hm=>?_
      ·refine Wp.skip (hW47 _ _ _ _ ?_ (hcut47 (decide (c_3=61)) hm))
       simp only[go_sem,simprocAttr,hA]
       try exact se4
      ·refine r6 ?_
       refine hW47 _ _ _ _ ?_ (hcut47 (decide (c_3=9)) hm);simp only[go_sem,simprocAttr,hA]
       try exact se4
  clear hK13 hk_7;refine qS ?_
  refine cN hm (fun hm=>?_) fun hm=>?_
  ·cases hm
  ·refine Wp.skip (hW13 _ _ _ _ ?_ (hcut13 () hm))
   exact zf5
 clear hK10 hk_6;refine qS ?_
 refine cN hm (fun hm=>?_) fun hm=>?_
 ·cases hm
 ·refine Wp.skip (hW10 _ _ _ _ ?_ (hcut10 () hm))
  exact zf5
theorem zm7(s_1:Str)(z:Str)(hm:ziJ s_1=some z):Does Tryz.prog 108 [.p (.s s_1)] [] (fun r X=>r=.p (.s z)∧X=[]):=by
 unfold ziJ at hm
 refine dW 0 27 [.tmp 2] Tryz.func108 fun B=>nA fun hA=>?_
 refine qS ?_;refine qS ?_
 refine Wp.seqW fun K3 hK3 hW3=>?_
 obtain⟨k_3,hk_3,hm⟩:=zj hm
 have hcut3:∀s,k_3 s=some z→K3 [(3,.p (.i .u64 s))] []:=by
  intro h_10 hs;have hm:=hk_3 _ hs;clear hs
  try dsimp only at hm⊢
  refine hK3 _ _ ?_;obtain⟨r_5,hr_5,hm⟩:=zd hm
  refine rS fun _ hK4=>?_
  refine cX (fun hg=>zg5 h_10 16 _ hr_5) (hK4 _ _ ?_);obtain⟨r_6,hr_6,hm⟩:=zd hm;obtain⟨c_12,hm⟩:=zh hm
  refine rS fun _ hK6=>?_
  refine cX (fun hg=>zjS ([48]:Str) (IntKind.i64.wrap (16-(r_5.length:Int))) _ hr_6) (hK6 _ _ ?_);exact wR
 clear hK3 hk_3;refine qS ?_;refine Wp.block ?_;obtain⟨k_7,hk_7,hm⟩:=zp hm
 refine fL 0 s_1.length fun hl_11=>?_
 refine Wp.forL (fun i_4 s=>[(0,.p (.s s_1)),(3,.p (.i .u64 s)),(7,.p (.i .i64 (s_1.length:Int))),(8,.p (.i .i64 (i_4:Int)))]) (fun i_4 s=>[]) wF hm ?_;clear hm;intro i_4 h_8 hii_4 hm
 try dsimp only at hm⊢
 refine qS ?_
 refine Wp.seqW fun _ hK10 _=>Wp.cond rfl ⟨⟩ (fun hc10=>?_) fun hc10=>Wp.exit (hW3 _ _ _ _ wF (hcut3 h_8 (hk_7 _ (zt hm (geN hc10)))))
 have hlt10:=ltN hc10;have hw10:=zn hlt10 hl_11;obtain⟨c_2,nx_9,hxc_2,hyc_2,hnx_9,hm⟩:=zo hm hlt10;clear hxc_2;refine Wp.skip ?_;simp only[zq];refine hK10 _ _ (Wp.seqW fun _ hK11 _=>Wp.block ?_);have hA:=And.intro hw10 hyc_2;refine q6 ?_;refine r6 ?_;refine hK11 _ _ (r6 ?_);exact wN (IntKind.u64.wrap ((zbc .xor .u64 h_8 (IntKind.u64.wrap (c_2.toNat:Int)))*1099511628211)) hlt10 (hnx_9 _ hm)
theorem zfW(l_2:List api_Change)(z:Int)(hm:zcd l_2=some z):Does Tryz.prog 106 [.p (.l (List.map ze l_2))] [] (fun r X=>r=.p (.i .i64 z)∧X=[]):=by
 unfold zcd at hm
 refine dW 0 18 [.tmp 2] Tryz.func106 fun B=>nA fun hA=>?_
 refine qS ?_
 refine Wp.seqW fun K2 hK2 hW2=>?_
 obtain⟨k_3,hk_3,hm⟩:=zj hm
 have hcut2:∀s,k_3 s=some z→K2 [] []:=by
  intro s hs;have hm:=hk_3 _ hs;clear hs
  try dsimp only at hm⊢
  exact hK2 _ _ (wQ)
 clear hK2 hk_3;refine qS ?_;refine Wp.block ?_;obtain⟨k_5,hk_5,hm⟩:=zp hm
 refine fL 6 l_2.length fun hl_8=>?_
 refine Wp.forL (fun i_4 s=>[(6,.p (.l (List.map ze l_2))),(7,.p (.i .i64 (l_2.length:Int))),(8,.p (.i .i64 (i_4:Int)))]) (fun i_4 s=>[]) wF hm ?_;clear hm;intro i_4 s hii_4 hm
 try dsimp only at hm⊢
 refine qS ?_
 refine Wp.seqW fun _ hK6 _=>Wp.cond rfl ⟨⟩ (fun hc6=>?_) fun hc6=>Wp.exit (hW2 _ _ _ _ wF (hcut2 () (hk_5 _ (zt hm (geN hc6)))))
 have hlt6:=ltN hc6;have hw6:=zn hlt6 hl_8;obtain⟨c_1,nx_6,hxc_1,hyc_1,hnx_6,hm⟩:=zo hm hlt6;replace hxc_1:=hxc_1 ze;refine Wp.skip ?_;simp only[zq];refine hK6 _ _ (Wp.seqW fun _ hK7 _=>Wp.block ?_);have hA:=And.intro hw6 hxc_1;refine q6 ?_;obtain⟨r_7,hr_7,hm⟩:=zd hm
 refine rS fun _ hK9=>?_
 refine cX (fun hg=>zgP c_1 _ hr_7) (hK9 _ _ ?_);refine q6 ?_
 refine cR hm fun hm=>?_
 refine Wp.skip (hK7 _ _ (r6 ?_));exact wN () hlt6 (hnx_6 _ hm)
theorem ok_R_bit(b_1:Bool)(z:Str)(hm:R_bit b_1=some z):Does Tryz.prog 226 [.p (.b b_1)] [] (fun r X=>r=.p (.s z)∧X=[]):=by
 unfold R_bit at hm
 refine dW 0 4 [.tmp 2] Tryz.func226 fun B=>nA fun hA=>?_
 refine qS ?_
 refine Wp.seqW fun _ hK2 _=>qS ?_
 refine cR hm fun hm=>?_
 exact Wp.skip (hK2 _ _ (wQ))
theorem zjU(s_1:api_Service)(z:Str)(hm:zc1 s_1=some z):Does Tryz.prog 178 [.agg [.p (.s s_1.Name),.p (.s s_1.Path),.p (.b s_1.Auto),.p (.b s_1.On)]] [] (fun r X=>r=.p (.s z)∧X=[]):=by
 unfold zc1 at hm
 refine dW 0 19 [.tmp 2] Tryz.func178 fun B=>nA fun hA=>?_
 refine qS ?_;obtain⟨c_4,hm⟩:=zh hm;obtain⟨c_5,hm⟩:=zh hm;obtain⟨c_6,hm⟩:=zh hm;obtain⟨r_2,hr_2,hm⟩:=zd hm;obtain⟨c_7,hm⟩:=zh hm;obtain⟨c_8,hm⟩:=zh hm;obtain⟨r_3,hr_3,hm⟩:=zd hm;obtain⟨c_9,hm⟩:=zh hm
 refine dS (pl [(0,none),(1,none),(2,none),(3,none),(4,none),(5,none),(6,none),(7,none),(8,none),(9,none),(10,none),(11,none),(12,none),(13,none),(14,none),(15,none),(16,none)]) fun _ hK2=>?_
 refine cD (fun hg=>ok_R_bit s_1.Auto _ hr_2) ?_;refine cD (fun hg=>ok_R_bit s_1.On _ hr_3) (hK2 _ _ ?_);exact wR
theorem zed(c_2:Int)(o1_1:Str)(z:Str)(hm:zY c_2 o1_1=some z):Does Tryz.prog 179 [.ptr 0 0,.p (.i .u8 c_2)] [.cells 211 [.np 0,.buf 1],.sb 5 o1_1] (fun r X=>r=.raw .nilIface∧X=[.cells 211 [.np 0,.buf 1],.sb 5 z]):=by
 unfold zY at hm
 refine dW 2 17 [.tmp 4] Tryz.func179 fun B=>nA fun hA=>?_
 refine qS ?_;obtain⟨r_3,hr_3,hm⟩:=zd hm
 refine rS fun _ hK2=>?_
 refine cO [0,1] (zbK o1_1 _ hr_3) (hK2 _ _ ?_);obtain⟨c_4,hm⟩:=zh hm;refine q6 ?_;exact wQ
end Go.Proofs.YtbofknpajcdnmaaGreatDoor
