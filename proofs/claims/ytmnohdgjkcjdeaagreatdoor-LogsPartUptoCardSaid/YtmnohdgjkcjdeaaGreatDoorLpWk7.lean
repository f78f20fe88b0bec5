/- That the code does what the models say (part 7). -/
import Derived.Test.YtmnohdgjkcjdeaaGreatDoorLpWk0
import Derived.Test.YtmnohdgjkcjdeaaGreatDoorLpWk1
import Derived.Test.YtmnohdgjkcjdeaaGreatDoorLpWk3
import Derived.Test.YtmnohdgjkcjdeaaGreatDoorLpWk6
set_option linter.unusedSimpArgs false
set_option linter.unusedVariables false
open Go.Proofs Go.Shelf
namespace Go.Proofs.YtmnohdgjkcjdeaaGreatDoor
open Go.Vc Go.Md
set_option maxRecDepth 100000
set_option maxHeartbeats 4000000
theorem ok_ver_Parse (text_7:Str) (z:api_Version × Int) (hm:zfe text_7=some z):Does Tryz.prog 120 [.p (.s text_7)] [] (fun r X=>r=.tup [.agg [.p (.i .i64 z.1.Major),.p (.i .i64 z.1.Minor),.p (.i .i64 z.1.Patch),.p (.s z.1.Early)],.p (.i .i64 z.2)]∧X=[]):=by
 unfold zfe at hm
 refine dW 0 68 [.cell 2 27,.tmp 3] Tryz.func120 fun B=>?_
 refine qS ?_
 obtain ⟨r_4,hr_4,hm⟩:=zb hm
 refine Wp.seqR fun K2 hK2=>?_
 simp only [go_sem,simprocAttr]
 try refine ⟨sd,?_⟩
 refine Rg.callX (av:=?av3) (g:=true) (fun hg=>zek text_7 ([45]:Str) _ hr_4) si si si sg si ?cont3
 intro hv3
 simp only [go_sem,simprocAttr]
 refine kA hK2 ?_
 obtain ⟨r_5,hr_5,hm⟩:=zb hm
 refine Wp.seqR fun K4 hK4=>?_
 simp only [go_sem,simprocAttr]
 try refine ⟨sd,?_⟩
 refine Rg.callF (av:=?av5) (zak r_4.1 ([46]:Str) _ hr_5) si si sg ?cont5
 intro hv5
 simp only [go_sem,simprocAttr]
 refine kA hK4 ?_
 refine Wp.seqW fun K6 hK6 hW6=>?_
 refine qS ?_
 refine cM hm (fun hc8 hm=>?_) (fun hc8 hm=>?_)
 ·refine qS ?_
  refine Wp.ret ?_
  refine zc ?_
  cases hm
  exact zn
 ·refine Wp.skip ?_
  refine hK6 _ _ ?_
  refine qS ?_
  refine Wp.seqW fun K11 hK11 hW11=>?_
  obtain ⟨k_6,hk_6,hm⟩:=zk hm
  have hcut11:∀ s,k_6 s=some z→K11 [(2,.ptr 0 0),(5,.p (.s r_4.2.1)),(8,.ptr 1 0)] [.cells 27 [.p (.i .i64 0),.p (.i .i64 0),.p (.i .i64 0),.p (.s [])],.cells 147 [.p (.i .i64 s.1),.p (.i .i64 s.2.1),.p (.i .i64 s.2.2)]]:=by
   intro s hs
   have hm:=hk_6 _ hs
   clear hs
   obtain ⟨o1_0_12,o1_1_13,o1_2_14⟩:=s
   try dsimp only at hm
   try dsimp only
   refine hK11 _ _ ?_
   refine qS ?_
   refine Wp.seqW fun K13 hK13 hW13=>?_
   obtain ⟨r_11,hr_11,hm⟩:=zb hm
   refine Wp.seqR fun K14 hK14=>?_
   simp only [go_sem,simprocAttr]
   try refine ⟨sd,?_⟩
   refine Rg.callX (av:=?av15) (g:=true) (fun hg=>zea (api_Version.mk o1_0_12 o1_1_13 o1_2_14 r_4.2.1) _ hr_11) si si si sg si ?cont15
   intro hv15
   simp only [go_sem,simprocAttr]
   refine kA hK14 ?_
   refine qS ?_
   refine cM hm (fun hc17 hm=>?_) (fun hc17 hm=>?_)
   ·refine qS ?_
    refine Wp.ret ?_
    refine zc ?_
    cases hm
    exact zn
   ·refine Wp.skip ?_
    refine hK13 _ _ ?_
    refine qS ?_
    refine Wp.ret ?_
    refine zc ?_
    cases hm
    exact zn
  clear hK11 hk_6
  refine qS ?_
  refine Wp.block ?_
  obtain ⟨c_15,hm⟩:=zf hm
  simp only [c_15]
  refine Wp.loopK 9 ?_
  simp only [WpL]
  refine qS ?_
  refine Wp.seqW fun K22 hK22 hW22=>?_
  refine Wp.cond rfl ⟨⟩ (fun hc23=>?_) (fun hc23=>?_)
  rotate_left
  ·cases hc23
  refine Wp.skip ?_
  refine hK22 _ _ ?_
  refine Wp.seqW fun K24 hK24 hW24=>?_
  refine Wp.block ?_
  obtain ⟨s_1,hbs_1,hxs_1,hys_1,hm⟩:=zZ hm
  replace hxs_1:∀ d,(List.map ecS r_5).getD 0 d=ecS s_1:=hxs_1 ecS
  refine Wp.seqR fun K25 hK25=>?_
  simp only [go_sem,simprocAttr,hxs_1]
  refine kA hK25 ?_
  obtain ⟨r_8,hr_8,hm⟩:=zb hm
  refine Wp.seqR fun K26 hK26=>?_
  simp only [go_sem,simprocAttr,hxs_1]
  try refine ⟨sd,?_⟩
  refine Rg.callX (av:=?av27) (g:=true) (fun hg=>zeQ s_1 _ hr_8) (by simp only [go_sem,simprocAttr,hxs_1]; exact Is.mk) (by simp only [go_sem,simprocAttr,hxs_1]; exact Is.mk) (by simp only [go_sem,simprocAttr,hxs_1]; exact Is.mk) (by simp only [go_sem,simprocAttr,hxs_1]) (by simp only [go_sem,simprocAttr,hxs_1]; exact Is.mk) ?cont27
  intro hv27
  simp only [go_sem,simprocAttr,hxs_1]
  refine kA hK26 ?_
  refine Wp.seqW fun K28 hK28 hW28=>?_
  refine Wp.seqR fun K29 hK29=>?_
  simp only [go_sem,simprocAttr,hxs_1]
  refine kA hK29 ?_
  refine cM hm (fun hc30 hm=>?_) (fun hc30 hm=>?_)
  ·refine Wp.seqR fun K31 hK31=>?_
   simp only [go_sem,simprocAttr,hxs_1]
   refine kA hK31 ?_
   refine Wp.ret ?_
   refine zc ?_
   cases hm
   simp only [go_sem,simprocAttr,hxs_1]
   try exact se3
  ·refine Wp.skip ?_
   refine hK28 _ _ ?_
   refine Wp.region fun K32 hK32=>?_
   simp only [go_sem,simprocAttr,hxs_1]
   refine kA hK32 ?_
   refine hK24 _ _ ?_
   refine Wp.region fun K33 hK33=>?_
   simp only [go_sem,simprocAttr,hxs_1]
   refine kA hK33 ?_
   simp only [zl,zi,↓reduceIte]
   try simp only [WpL]
   refine Wp.seqR fun K34 hK34=>?_
   simp only [go_sem,simprocAttr,hxs_1]
   refine kA hK34 ?_
   refine Wp.seqW fun K35 hK35 hW35=>?_
   refine Wp.cond rfl ⟨⟩ (fun hc36=>?_) (fun hc36=>?_)
   rotate_left
   ·cases hc36
   refine Wp.skip ?_
   refine hK35 _ _ ?_
   refine Wp.seqW fun K37 hK37 hW37=>?_
   refine Wp.block ?_
   obtain ⟨s_2,hbs_2,hxs_2,hys_2,hm⟩:=zZ hm
   replace hxs_2:∀ d,(List.map ecS r_5).getD 1 d=ecS s_2:=hxs_2 ecS
   refine Wp.seqR fun K38 hK38=>?_
   simp only [go_sem,simprocAttr,hxs_1,hxs_2]
   refine kA hK38 ?_
   obtain ⟨r_9,hr_9,hm⟩:=zb hm
   refine Wp.seqR fun K39 hK39=>?_
   simp only [go_sem,simprocAttr,hxs_1,hxs_2]
   try refine ⟨sd,?_⟩
   refine Rg.callX (av:=?av40) (g:=true) (fun hg=>zeQ s_2 _ hr_9) (by simp only [go_sem,simprocAttr,hxs_1,hxs_2]; exact Is.mk) (by simp only [go_sem,simprocAttr,hxs_1,hxs_2]; exact Is.mk) (by simp only [go_sem,simprocAttr,hxs_1,hxs_2]; exact Is.mk) (by simp only [go_sem,simprocAttr,hxs_1,hxs_2]) (by simp only [go_sem,simprocAttr,hxs_1,hxs_2]; exact Is.mk) ?cont40
   intro hv40
   simp only [go_sem,simprocAttr,hxs_1,hxs_2]
   refine kA hK39 ?_
   refine Wp.seqW fun K41 hK41 hW41=>?_
   refine Wp.seqR fun K42 hK42=>?_
   simp only [go_sem,simprocAttr,hxs_1,hxs_2]
   refine kA hK42 ?_
   refine cM hm (fun hc43 hm=>?_) (fun hc43 hm=>?_)
   ·refine Wp.seqR fun K44 hK44=>?_
    simp only [go_sem,simprocAttr,hxs_1,hxs_2]
    refine kA hK44 ?_
    refine Wp.ret ?_
    refine zc ?_
    cases hm
    simp only [go_sem,simprocAttr,hxs_1,hxs_2]
    try exact se3
   ·refine Wp.skip ?_
    refine hK41 _ _ ?_
    refine Wp.region fun K45 hK45=>?_
    simp only [go_sem,simprocAttr,hxs_1,hxs_2]
    refine kA hK45 ?_
    refine hK37 _ _ ?_
    refine Wp.region fun K46 hK46=>?_
    simp only [go_sem,simprocAttr,hxs_1,hxs_2]
    refine kA hK46 ?_
    simp only [zl,zi,↓reduceIte]
    try simp only [WpL]
    refine Wp.seqR fun K47 hK47=>?_
    simp only [go_sem,simprocAttr,hxs_1,hxs_2]
    refine kA hK47 ?_
    refine Wp.seqW fun K48 hK48 hW48=>?_
    refine Wp.cond rfl ⟨⟩ (fun hc49=>?_) (fun hc49=>?_)
    rotate_left
    ·cases hc49
    refine Wp.skip ?_
    refine hK48 _ _ ?_
    refine Wp.seqW fun K50 hK50 hW50=>?_
    refine Wp.block ?_
    obtain ⟨s_3,hbs_3,hxs_3,hys_3,hm⟩:=zZ hm
    replace hxs_3:∀ d,(List.map ecS r_5).getD 2 d=ecS s_3:=hxs_3 ecS
    refine Wp.seqR fun K51 hK51=>?_
    simp only [go_sem,simprocAttr,hxs_1,hxs_2,hxs_3]
    refine kA hK51 ?_
    obtain ⟨r_10,hr_10,hm⟩:=zb hm
    refine Wp.seqR fun K52 hK52=>?_
    simp only [go_sem,simprocAttr,hxs_1,hxs_2,hxs_3]
    try refine ⟨sd,?_⟩
    refine Rg.callX (av:=?av53) (g:=true) (fun hg=>zeQ s_3 _ hr_10) (by simp only [go_sem,simprocAttr,hxs_1,hxs_2,hxs_3]; exact Is.mk) (by simp only [go_sem,simprocAttr,hxs_1,hxs_2,hxs_3]; exact Is.mk) (by simp only [go_sem,simprocAttr,hxs_1,hxs_2,hxs_3]; exact Is.mk) (by simp only [go_sem,simprocAttr,hxs_1,hxs_2,hxs_3]) (by simp only [go_sem,simprocAttr,hxs_1,hxs_2,hxs_3]; exact Is.mk) ?cont53
    intro hv53
    simp only [go_sem,simprocAttr,hxs_1,hxs_2,hxs_3]
    refine kA hK52 ?_
    refine Wp.seqW fun K54 hK54 hW54=>?_
    refine Wp.seqR fun K55 hK55=>?_
    simp only [go_sem,simprocAttr,hxs_1,hxs_2,hxs_3]
    refine kA hK55 ?_
    refine cM hm (fun hc56 hm=>?_) (fun hc56 hm=>?_)
    ·refine Wp.seqR fun K57 hK57=>?_
     simp only [go_sem,simprocAttr,hxs_1,hxs_2,hxs_3]
     refine kA hK57 ?_
     refine Wp.ret ?_
     refine zc ?_
     cases hm
     simp only [go_sem,simprocAttr,hxs_1,hxs_2,hxs_3]
     try exact se3
    ·refine Wp.skip ?_
     refine hK54 _ _ ?_
     refine Wp.region fun K58 hK58=>?_
     simp only [go_sem,simprocAttr,hxs_1,hxs_2,hxs_3]
     refine kA hK58 ?_
     refine hK50 _ _ ?_
     refine Wp.region fun K59 hK59=>?_
     simp only [go_sem,simprocAttr,hxs_1,hxs_2,hxs_3]
     refine kA hK59 ?_
     simp only [zl,zi,↓reduceIte]
     try simp only [WpL]
     refine Wp.seqR fun K60 hK60=>?_
     simp only [go_sem,simprocAttr,hxs_1,hxs_2,hxs_3]
     refine kA hK60 ?_
     refine Wp.seqW fun K61 hK61 hW61=>?_
     refine Wp.cond rfl ⟨⟩ (fun hc62=>?_) (fun hc62=>?_)
     ·cases hc62
     refine Wp.exit ?_
     refine hW11 _ _ _ _ ?_ (hcut11 (r_8.1,r_9.1,r_10.1) hm)
     simp only [go_sem,simprocAttr,hxs_1,hxs_2,hxs_3]
     try exact se3
theorem ze2 (s_1:Str) (z:api_Version × Bool) (hm:za3 s_1=some z):Does Tryz.prog 89 [.p (.s s_1)] [] (fun r X=>r=.tup [.agg [.p (.i .i64 z.1.Major),.p (.i .i64 z.1.Minor),.p (.i .i64 z.1.Patch),.p (.s z.1.Early)],.p (.b z.2)]∧X=[]):=by
 unfold za3 at hm
 refine dW 0 22 [.cell 2 27,.tmp 3] Tryz.func89 fun B=>?_
 refine qS ?_
 refine Wp.seqW fun K2 hK2 hW2=>?_
 refine qS ?_
 refine cM hm (fun hc4 hm=>?_) (fun hc4 hm=>?_)
 ·refine qS ?_
  refine Wp.ret ?_
  refine zc ?_
  cases hm
  exact zn
 ·refine Wp.skip ?_
  refine hK2 _ _ ?_
  obtain ⟨r_2,hr_2,hm⟩:=zb hm
  refine Wp.seqR fun K6 hK6=>?_
  simp only [go_sem,simprocAttr]
  try refine ⟨sd,?_⟩
  refine Rg.callX (av:=?av7) (g:=true) (fun hg=>ok_ver_Parse s_1 _ hr_2) si si si sg si ?cont7
  intro hv7
  simp only [go_sem,simprocAttr]
  refine kA hK6 ?_
  refine Wp.seqD (plan:=pl [(0,none),(1,none),(2,none),(3,none),(4,none),(5,none),(6,none),(7,none),(8,some [4,5,6,7]),(9,none)]) (by kernel_rfl) rfl (by kernel_rfl) fun K8 hK8=>?_
  simp only [go_sem,simprocAttr]
  refine kA hK8 ?_
  refine Wp.ret ?_
  refine zc ?_
  cases hm
  exact zn
theorem zjJ (s_4:Str) (z:Int × Int) (hm:zdV s_4=some z):Does Tryz.prog 121 [.p (.s s_4)] [] (fun r X=>r=.tup [.p (.i .u8 z.1),.p (.i .i64 z.2)]∧X=[]):=by
 unfold zdV at hm
 refine dW 0 61 [.tmp 2,.tmp 3] Tryz.func121 fun B=>?_
 refine qS ?_
 refine Wp.seqW fun K2 hK2 hW2=>?_
 refine Wp.block ?_
 refine qS ?_
 refine cM hm (fun hc4 hm=>?_) (fun hc4 hm=>?_)
 ·refine qS ?_
  refine Wp.ret ?_
  refine zc ?_
  cases hm
  exact zn
 ·obtain ⟨c_1,hbc_1,hxc_1,hm⟩:=zai hm
  replace hxc_1:((s_4.getD 0 0).toNat:Int)=c_1:=hxc_1
  refine Wp.seqR fun K6 hK6=>?_
  simp only [go_sem,simprocAttr,hxc_1]
  refine kA hK6 ?_
  refine cM hm (fun hc7 hm=>?_) (fun hc7 hm=>?_)
  ·refine Wp.seqR fun K8 hK8=>?_
   simp only [go_sem,simprocAttr,hxc_1]
   refine kA hK8 ?_
   refine Wp.ret ?_
   refine zc ?_
   cases hm
   simp only [go_sem,simprocAttr,hxc_1]
   try exact se3
  ·refine Wp.seqR fun K9 hK9=>?_
   simp only [go_sem,simprocAttr,hxc_1]
   refine kA hK9 ?_
   refine cM hm (fun hc10 hm=>?_) (fun hc10 hm=>?_)
   ·refine Wp.seqR fun K11 hK11=>?_
    simp only [go_sem,simprocAttr,hxc_1]
    refine kA hK11 ?_
    refine Wp.ret ?_
    refine zc ?_
    cases hm
    simp only [go_sem,simprocAttr,hxc_1]
    try exact se3
   ·refine Wp.seqR fun K12 hK12=>?_
    simp only [go_sem,simprocAttr,hxc_1]
    refine kA hK12 ?_
    refine cM hm (fun hc13 hm=>?_) (fun hc13 hm=>?_)
    ·refine Wp.seqR fun K14 hK14=>?_
     simp only [go_sem,simprocAttr,hxc_1]
     refine kA hK14 ?_
     refine Wp.ret ?_
     refine zc ?_
     cases hm
     simp only [go_sem,simprocAttr,hxc_1]
     try exact se3
    ·refine Wp.skip ?_
     refine hK2 _ _ ?_
     obtain ⟨c_2,hbc_2,hxc_2,hm⟩:=zai hm
     replace hxc_2:((s_4.getD 1 0).toNat:Int)=c_2:=hxc_2
     obtain ⟨r_5,hr_5,hm⟩:=zb hm
     obtain ⟨c_3,hbc_3,hxc_3,hm⟩:=zai hm
     replace hxc_3:((s_4.getD 2 0).toNat:Int)=c_3:=hxc_3
     obtain ⟨r_6,hr_6,hm⟩:=zb hm
     refine Wp.seqD (plan:=pl [(0,none),(1,none),(2,none),(3,none),(4,none),(5,none),(6,none),(7,none)]) (by kernel_rfl) rfl (by kernel_rfl) fun K15 hK15=>?_
     simp only [go_sem,simprocAttr,hxc_1,hxc_2,hxc_3]
     try refine ⟨sd,?_⟩
     refine Dr.callF (av:=?av16) (g:=true) (o:=?o16) (fun hg=>zbX ([48,49,50,51,52,53,54,55,56,57,97,98,99,100,101,102]:Str) c_2 _ hr_5) (by simp only [go_sem,simprocAttr,hxc_1,hxc_2,hxc_3]; exact Is.mk) (by simp only [go_sem,simprocAttr,hxc_1,hxc_2,hxc_3]; exact Is.mk) (by simp only [go_sem,simprocAttr,hxc_1,hxc_2,hxc_3]; exact Is.mk) (by simp only [go_sem,simprocAttr,hxc_1,hxc_2,hxc_3]; exact Is.mk) (by simp only [go_sem,simprocAttr,hxc_1,hxc_2,hxc_3]) (by simp only [go_sem,simprocAttr,hxc_1,hxc_2,hxc_3]; exact Is.mk) ?cont16
     simp only [go_sem,simprocAttr,hxc_1,hxc_2,hxc_3]
     try refine ⟨sd,?_⟩
     refine Dr.callF (av:=?av17) (g:=true) (o:=?o17) (fun hg=>zbX ([48,49,50,51,52,53,54,55,56,57,97,98,99,100,101,102]:Str) c_3 _ hr_6) (by simp only [go_sem,simprocAttr,hxc_1,hxc_2,hxc_3]; exact Is.mk) (by simp only [go_sem,simprocAttr,hxc_1,hxc_2,hxc_3]; exact Is.mk) (by simp only [go_sem,simprocAttr,hxc_1,hxc_2,hxc_3]; exact Is.mk) (by simp only [go_sem,simprocAttr,hxc_1,hxc_2,hxc_3]; exact Is.mk) (by simp only [go_sem,simprocAttr,hxc_1,hxc_2,hxc_3]) (by simp only [go_sem,simprocAttr,hxc_1,hxc_2,hxc_3]; exact Is.mk) ?cont17
     simp only [go_sem,simprocAttr,hxc_1,hxc_2,hxc_3]
     refine kA hK15 ?_
     refine Wp.seqW fun K18 hK18 hW18=>?_
     refine Wp.seqR fun K19 hK19=>?_
     simp only [go_sem,simprocAttr,hxc_1,hxc_2,hxc_3]
     refine kA hK19 ?_
     refine cM hm (fun hc20 hm=>?_) (fun hc20 hm=>?_)
     ·refine Wp.seqR fun K21 hK21=>?_
      simp only [go_sem,simprocAttr,hxc_1,hxc_2,hxc_3]
      refine kA hK21 ?_
      refine Wp.ret ?_
      refine zc ?_
      cases hm
      simp only [go_sem,simprocAttr,hxc_1,hxc_2,hxc_3]
      try exact se3
     ·refine Wp.skip ?_
      refine hK18 _ _ ?_
      refine Wp.seqR fun K22 hK22=>?_
      simp only [go_sem,simprocAttr,hxc_1,hxc_2,hxc_3]
      refine kA hK22 ?_
      refine Wp.seqW fun K23 hK23 hW23=>?_
      refine Wp.seqR fun K24 hK24=>?_
      simp only [go_sem,simprocAttr,hxc_1,hxc_2,hxc_3]
      refine kA hK24 ?_
      refine cM hm (fun hc25 hm=>?_) (fun hc25 hm=>?_)
      ·refine Wp.seqR fun K26 hK26=>?_
       simp only [go_sem,simprocAttr,hxc_1,hxc_2,hxc_3]
       refine kA hK26 ?_
       refine Wp.ret ?_
       refine zc ?_
       cases hm
       simp only [go_sem,simprocAttr,hxc_1,hxc_2,hxc_3]
       try exact se3
      ·refine Wp.skip ?_
       refine hK23 _ _ ?_
       refine Wp.seqR fun K27 hK27=>?_
       simp only [go_sem,simprocAttr,hxc_1,hxc_2,hxc_3]
       refine kA hK27 ?_
       refine Wp.ret ?_
       refine zc ?_
       cases hm
       simp only [go_sem,simprocAttr,hxc_1,hxc_2,hxc_3]
       try exact se3
theorem ziR (s_2:Str) (z:Str × Int) (hm:zct s_2=some z):Does Tryz.prog 90 [.p (.s s_2)] [] (fun r X=>r=.tup [.p (.s z.1),.p (.i .i64 z.2)]∧X=[]):=by
 unfold zct at hm
 refine dW 0 74 [.tmp 2,.tmp 3] Tryz.func90 fun B=>?_
 refine qS ?_
 refine Wp.seqW fun K2 hK2 hW2=>?_
 obtain ⟨c_8,hm⟩:=zf hm
 obtain ⟨c_9,hm⟩:=zf hm
 refine Wp.seqR fun K3 hK3=>?_
 simp only [go_sem,simprocAttr]
 refine kA hK3 ?_
 refine cM hm (fun hc4 hm=>?_) (fun hc4 hm=>?_)
 ·refine qS ?_
  refine Wp.ret ?_
  refine zc ?_
  cases hm
  exact zn
 ·refine Wp.skip ?_
  refine hK2 _ _ ?_
  obtain ⟨c_10,hm⟩:=zf hm
  refine Wp.seqR fun K6 hK6=>?_
  simp only [go_sem,simprocAttr]
  refine kA hK6 ?_
  obtain ⟨c_11,hm⟩:=zf hm
  refine Wp.seqR fun K7 hK7=>?_
  simp only [go_sem,simprocAttr]
  refine kA hK7 ?_
  refine Wp.seqW fun K8 hK8 hW8=>?_
  obtain ⟨k_3,hk_3,hm⟩:=zk hm
  have hcut8:∀ s,k_3 s=some z→K8 [(4,.buf 0)] [.buf 5 1 (List.map zab s)]:=by
   intro o0_12 hs
   have hm:=hk_3 _ hs
   clear hs
   try dsimp only at hm
   try dsimp only
   refine hK8 _ _ ?_
   refine qS ?_
   refine Wp.ret ?_
   refine zc ?_
   cases hm
   exact zn
  clear hK8 hk_3
  refine qS ?_
  refine Wp.block ?_
  obtain ⟨k_7,hk_7,hm⟩:=zB hm
  refine Wp.loopN (fun s=>[(0,.p (.s (List.take ((IntKind.i64.wrap ((s_2.length:Int) - 1)).toNat - 1) (List.drop 1 s_2)))),(4,.buf 0),(5,.p (.i .i64 s.1))]) (fun s=>[.buf 5 1 (List.map zab s.2)]) ?_ hm ?_
  ·
   exact zn
  clear hm
  intro s nx_13 hm
  obtain ⟨i_4,o0_6⟩:=s
  try dsimp only at hm
  try dsimp only
  refine Wp.seqW fun K11 hK11 hW11=>?_
  refine qS ?_
  refine cM hm (fun hc13 hm=>?_) (fun hc13 hm=>?_)
  ·refine Wp.skip ?_
   refine hK11 _ _ ?_
   refine Wp.seqW fun K14 hK14 hW14=>?_
   refine Wp.block ?_
   obtain ⟨c_1,hbc_1,hxc_1,hm⟩:=zai hm
   replace hxc_1:(((List.take ((IntKind.i64.wrap ((s_2.length:Int) - 1)).toNat - 1) (List.drop 1 s_2)).getD i_4.toNat 0).toNat:Int)=c_1:=hxc_1
   refine Wp.seqR fun K15 hK15=>?_
   simp only [go_sem,simprocAttr,hxc_1]
   refine kA hK15 ?_
   refine Wp.seqW fun K16 hK16 hW16=>?_
   refine Wp.seqR fun K17 hK17=>?_
   simp only [go_sem,simprocAttr,hxc_1]
   refine kA hK17 ?_
   refine cM hm (fun hc18 hm=>?_) (fun hc18 hm=>?_)
   ·refine Wp.seqR fun K19 hK19=>?_
    simp only [go_sem,simprocAttr,hxc_1]
    refine kA hK19 ?_
    refine Wp.ret ?_
    refine zc ?_
    cases hm
    simp only [go_sem,simprocAttr,hxc_1]
    try exact se3
   ·refine Wp.skip ?_
    refine hK16 _ _ ?_
    refine Wp.seqW fun K20 hK20 hW20=>?_
    refine Wp.seqR fun K21 hK21=>?_
    simp only [go_sem,simprocAttr,hxc_1]
    refine kA hK21 ?_
    refine cM hm (fun hc22 hm=>?_) (fun hc22 hm=>?_)
    ·obtain ⟨c_14,hm⟩:=zf hm
     obtain ⟨r_5,hr_5,hm⟩:=zb hm
     refine Wp.seqR fun K23 hK23=>?_
     simp only [go_sem,simprocAttr,hxc_1]
     try refine ⟨sL,?_⟩
     refine Rg.callX (av:=?av24) (g:=true) (fun hg=>zjJ (List.drop ((IntKind.i64.wrap (i_4+1)).toNat) (List.take ((IntKind.i64.wrap ((s_2.length:Int) - 1)).toNat - 1) (List.drop 1 s_2))) _ hr_5) (by simp only [go_sem,simprocAttr,hxc_1]; exact Is.mk) (by simp only [go_sem,simprocAttr,hxc_1]; exact Is.mk) (by simp only [go_sem,simprocAttr,hxc_1]; exact Is.mk) (by simp only [go_sem,simprocAttr,hxc_1]) (by simp only [go_sem,simprocAttr,hxc_1]; exact Is.mk) ?cont24
     intro hv24
     simp only [go_sem,simprocAttr,hxc_1]
     refine kA hK23 ?_
     refine Wp.seqW fun K25 hK25 hW25=>?_
     refine Wp.seqR fun K26 hK26=>?_
     simp only [go_sem,simprocAttr,hxc_1]
     refine kA hK26 ?_
     refine cM hm (fun hc27 hm=>?_) (fun hc27 hm=>?_)
     ·refine Wp.seqR fun K28 hK28=>?_
      simp only [go_sem,simprocAttr,hxc_1]
      refine kA hK28 ?_
      refine Wp.ret ?_
      refine zc ?_
      cases hm
      simp only [go_sem,simprocAttr,hxc_1]
      try exact se3
     ·refine Wp.skip ?_
      refine hK25 _ _ ?_
      refine Wp.region fun K29 hK29=>?_
      simp only [go_sem,simprocAttr,hxc_1]
      refine kA hK29 ?_
      refine hK20 _ _ ?_
      obtain ⟨c_15,hm⟩:=zf hm
      refine Wp.region fun K30 hK30=>?_
      simp only [go_sem,simprocAttr,hxc_1]
      refine kA hK30 ?_
      refine hK14 _ _ ?_
      refine Wp.region fun K31 hK31=>?_
      simp only [go_sem,simprocAttr,hxc_1]
      refine kA hK31 ?_
      simp only [zl,zi,↓reduceIte]
      refine ⟨(IntKind.i64.wrap ((IntKind.i64.wrap (i_4+r_5.2))+1),o0_6++[r_5.1]),hm,?_⟩
      simp only [go_sem,simprocAttr,hxc_1]
      try exact se3
    ·refine Wp.skip ?_
     refine hK20 _ _ ?_
     obtain ⟨c_16,hm⟩:=zf hm
     refine Wp.region fun K32 hK32=>?_
     simp only [go_sem,simprocAttr,hxc_1]
     refine kA hK32 ?_
     refine hK14 _ _ ?_
     refine Wp.region fun K33 hK33=>?_
     simp only [go_sem,simprocAttr,hxc_1]
     refine kA hK33 ?_
     simp only [zl,zi,↓reduceIte]
     refine ⟨(IntKind.i64.wrap (i_4+1),o0_6++[c_1]),hm,?_⟩
     simp only [go_sem,simprocAttr,hxc_1]
     try exact se3
  ·refine Wp.exit ?_
   simp only [zl,zi,↓reduceIte]
   have hm:=hk_7 _ hm
   try dsimp only at hm
   refine hW8 _ _ _ _ ?_ (hcut8 o0_6 hm)
   exact zn
theorem zgS (line_12:Str) (z:api_Record × Int) (hm:zbN line_12=some z):Does Tryz.prog 47 [.p (.s line_12)] [] (fun r X=>r=.tup [.agg [.p (.i .i64 z.1.Time),.p (.i .i64 z.1.Kind),.p (.s z.1.Pack),.p (.i .i64 z.1.From.Major),.p (.i .i64 z.1.From.Minor),.p (.i .i64 z.1.From.Patch),.p (.s z.1.From.Early),.p (.i .i64 z.1.To.Major),.p (.i .i64 z.1.To.Minor),.p (.i .i64 z.1.To.Patch),.p (.s z.1.To.Early),.p (.i .i64 z.1.Result),.p (.s z.1.Note)],.p (.i .i64 z.2)]∧X=[]):=by
 unfold zbN at hm
 refine dW 0 130 [.cell 2 30,.tmp 3] Tryz.func47 fun B=>?_
 refine qS ?_
 obtain ⟨r_7,hr_7,hm⟩:=zb hm
 refine Wp.seqR fun K2 hK2=>?_
 simp only [go_sem,simprocAttr]
 try refine ⟨sd,?_⟩
 refine Rg.callF (av:=?av3) (zes line_12 ([32]:Str) 7 _ hr_7) si si sg ?cont3
 intro hv3
 simp only [go_sem,simprocAttr]
 refine kA hK2 ?_
 refine Wp.seqW fun K4 hK4 hW4=>?_
 obtain ⟨c_26,hm⟩:=zf hm
 have hr_20:=zg0 (l:=r_7) (e:=ecS) (d:=[]) (i:=2)
 simp only [ecS,List.map_nil] at hr_20
 refine Wp.seqR fun K5 hK5=>?_
 simp only [go_sem,simprocAttr,hr_20]
 refine kA hK5 ?_
 refine cM hm (fun hc6 hm=>?_) (fun hc6 hm=>?_)
 ·refine qS ?_
  refine Wp.ret ?_
  refine zc ?_
  cases hm
  exact zn
 ·refine Wp.skip ?_
  refine hK4 _ _ ?_
  obtain ⟨s_1,hbs_1,hxs_1,hys_1,hm⟩:=zZ hm
  replace hxs_1:∀ d,(List.map ecS r_7).getD 2 d=ecS s_1:=hxs_1 ecS
  refine Wp.seqR fun K8 hK8=>?_
  simp only [go_sem,simprocAttr,hxs_1]
  refine kA hK8 ?_
  refine Wp.seqW fun K9 hK9 hW9=>?_
  obtain ⟨k_11,hk_11,hm⟩:=zk hm
  have hcut9:∀ s,k_11 s=some z→K9 [(2,.ptr 0 0),(4,.p (.l (List.map ecS r_7))),(5,.ptr 1 0)] [.cells 30 [.p (.i .i64 0),.p (.i .i64 0),.p (.s []),.p (.i .i64 0),.p (.i .i64 0),.p (.i .i64 0),.p (.s []),.p (.i .i64 0),.p (.i .i64 0),.p (.i .i64 0),.p (.s []),.p (.i .i64 0),.p (.s [])],.cells 30 [.p (.i .i64 0),.p (.i .i64 s),.p (.s s_1),.p (.i .i64 0),.p (.i .i64 0),.p (.i .i64 0),.p (.s []),.p (.i .i64 0),.p (.i .i64 0),.p (.i .i64 0),.p (.s []),.p (.i .i64 0),.p (.s [])]]:=by
   intro o1_1_25 hs
   have hm:=hk_11 _ hs
   clear hs
   try dsimp only at hm
   try dsimp only
   refine hK9 _ _ ?_
   obtain ⟨s_2,hbs_2,hxs_2,hys_2,hm⟩:=zZ hm
   replace hxs_2:∀ d,(List.map ecS r_7).getD 0 d=ecS s_2:=hxs_2 ecS
   obtain ⟨r_13,hr_13,hm⟩:=zb hm
   refine Wp.seqR fun K10 hK10=>?_
   simp only [go_sem,simprocAttr,hxs_1,hxs_2]
   try refine ⟨sd,?_⟩
   refine Rg.callX (av:=?av11) (g:=true) (fun hg=>zgR s_2 _ hr_13) (by simp only [go_sem,simprocAttr,hxs_1,hxs_2]; exact Is.mk) (by simp only [go_sem,simprocAttr,hxs_1,hxs_2]; exact Is.mk) (by simp only [go_sem,simprocAttr,hxs_1,hxs_2]; exact Is.mk) (by simp only [go_sem,simprocAttr,hxs_1,hxs_2]) (by simp only [go_sem,simprocAttr,hxs_1,hxs_2]; exact Is.mk) ?cont11
   intro hv11
   simp only [go_sem,simprocAttr,hxs_1,hxs_2]
   refine kA hK10 ?_
   obtain ⟨s_3,hbs_3,hxs_3,hys_3,hm⟩:=zZ hm
   replace hxs_3:∀ d,(List.map ecS r_7).getD 3 d=ecS s_3:=hxs_3 ecS
   obtain ⟨r_14,hr_14,hm⟩:=zb hm
   refine Wp.seqR fun K12 hK12=>?_
   simp only [go_sem,simprocAttr,hxs_1,hxs_2,hxs_3]
   try refine ⟨sd,?_⟩
   refine Rg.callX (av:=?av13) (g:=true) (fun hg=>ze2 s_3 _ hr_14) (by simp only [go_sem,simprocAttr,hxs_1,hxs_2,hxs_3]; exact Is.mk) (by simp only [go_sem,simprocAttr,hxs_1,hxs_2,hxs_3]; exact Is.mk) (by simp only [go_sem,simprocAttr,hxs_1,hxs_2,hxs_3]; exact Is.mk) (by simp only [go_sem,simprocAttr,hxs_1,hxs_2,hxs_3]) (by simp only [go_sem,simprocAttr,hxs_1,hxs_2,hxs_3]; exact Is.mk) ?cont13
   intro hv13
   simp only [go_sem,simprocAttr,hxs_1,hxs_2,hxs_3]
   refine kA hK12 ?_
   obtain ⟨s_4,hbs_4,hxs_4,hys_4,hm⟩:=zZ hm
   replace hxs_4:∀ d,(List.map ecS r_7).getD 4 d=ecS s_4:=hxs_4 ecS
   obtain ⟨r_15,hr_15,hm⟩:=zb hm
   refine Wp.seqR fun K14 hK14=>?_
   simp only [go_sem,simprocAttr,hxs_1,hxs_2,hxs_3,hxs_4]
   try refine ⟨sd,?_⟩
   refine Rg.callX (av:=?av15) (g:=true) (fun hg=>ze2 s_4 _ hr_15) (by simp only [go_sem,simprocAttr,hxs_1,hxs_2,hxs_3,hxs_4]; exact Is.mk) (by simp only [go_sem,simprocAttr,hxs_1,hxs_2,hxs_3,hxs_4]; exact Is.mk) (by simp only [go_sem,simprocAttr,hxs_1,hxs_2,hxs_3,hxs_4]; exact Is.mk) (by simp only [go_sem,simprocAttr,hxs_1,hxs_2,hxs_3,hxs_4]) (by simp only [go_sem,simprocAttr,hxs_1,hxs_2,hxs_3,hxs_4]; exact Is.mk) ?cont15
   intro hv15
   simp only [go_sem,simprocAttr,hxs_1,hxs_2,hxs_3,hxs_4]
   refine kA hK14 ?_
   obtain ⟨s_5,hbs_5,hxs_5,hys_5,hm⟩:=zZ hm
   replace hxs_5:∀ d,(List.map ecS r_7).getD 5 d=ecS s_5:=hxs_5 ecS
   obtain ⟨r_16,hr_16,hm⟩:=zb hm
   refine Wp.seqR fun K16 hK16=>?_
   simp only [go_sem,simprocAttr,hxs_1,hxs_2,hxs_3,hxs_4,hxs_5]
   try refine ⟨sd,?_⟩
   refine Rg.callX (av:=?av17) (g:=true) (fun hg=>zgR s_5 _ hr_16) (by simp only [go_sem,simprocAttr,hxs_1,hxs_2,hxs_3,hxs_4,hxs_5]; exact Is.mk) (by simp only [go_sem,simprocAttr,hxs_1,hxs_2,hxs_3,hxs_4,hxs_5]; exact Is.mk) (by simp only [go_sem,simprocAttr,hxs_1,hxs_2,hxs_3,hxs_4,hxs_5]; exact Is.mk) (by simp only [go_sem,simprocAttr,hxs_1,hxs_2,hxs_3,hxs_4,hxs_5]) (by simp only [go_sem,simprocAttr,hxs_1,hxs_2,hxs_3,hxs_4,hxs_5]; exact Is.mk) ?cont17
   intro hv17
   simp only [go_sem,simprocAttr,hxs_1,hxs_2,hxs_3,hxs_4,hxs_5]
   refine kA hK16 ?_
   obtain ⟨s_6,hbs_6,hxs_6,hys_6,hm⟩:=zZ hm
   replace hxs_6:∀ d,(List.map ecS r_7).getD 6 d=ecS s_6:=hxs_6 ecS
   obtain ⟨r_17,hr_17,hm⟩:=zb hm
   refine Wp.seqR fun K18 hK18=>?_
   simp only [go_sem,simprocAttr,hxs_1,hxs_2,hxs_3,hxs_4,hxs_5,hxs_6]
   try refine ⟨sd,?_⟩
   refine Rg.callX (av:=?av19) (g:=true) (fun hg=>ziR s_6 _ hr_17) (by simp only [go_sem,simprocAttr,hxs_1,hxs_2,hxs_3,hxs_4,hxs_5,hxs_6]; exact Is.mk) (by simp only [go_sem,simprocAttr,hxs_1,hxs_2,hxs_3,hxs_4,hxs_5,hxs_6]; exact Is.mk) (by simp only [go_sem,simprocAttr,hxs_1,hxs_2,hxs_3,hxs_4,hxs_5,hxs_6]; exact Is.mk) (by simp only [go_sem,simprocAttr,hxs_1,hxs_2,hxs_3,hxs_4,hxs_5,hxs_6]) (by simp only [go_sem,simprocAttr,hxs_1,hxs_2,hxs_3,hxs_4,hxs_5,hxs_6]; exact Is.mk) ?cont19
   intro hv19
   simp only [go_sem,simprocAttr,hxs_1,hxs_2,hxs_3,hxs_4,hxs_5,hxs_6]
   refine kA hK18 ?_
   refine Wp.seqW fun K20 hK20 hW20=>?_
   refine Wp.seqR fun K21 hK21=>?_
   simp only [go_sem,simprocAttr,hxs_1,hxs_2,hxs_3,hxs_4,hxs_5,hxs_6]
   refine kA hK21 ?_
   refine cM hm (fun hc22 hm=>?_) (fun hc22 hm=>?_)
   ·refine Wp.seqR fun K23 hK23=>?_
    simp only [go_sem,simprocAttr,hxs_1,hxs_2,hxs_3,hxs_4,hxs_5,hxs_6]
    refine kA hK23 ?_
    refine Wp.ret ?_
    refine zc ?_
    cases hm
    simp only [go_sem,simprocAttr,hxs_1,hxs_2,hxs_3,hxs_4,hxs_5,hxs_6]
    try exact se3
   ·refine Wp.skip ?_
    refine hK20 _ _ ?_
    refine Wp.seqD (plan:=pl [(0,none),(1,none),(2,none),(3,none),(4,none),(5,none),(6,some [1,2,3,4]),(7,none),(8,some [2,3,4]),(9,none),(10,some [3,4]),(11,none),(12,some [4]),(13,none),(14,some [])]) (by kernel_rfl) rfl (by kernel_rfl) fun K24 hK24=>?_
    simp only [go_sem,simprocAttr,hxs_1,hxs_2,hxs_3,hxs_4,hxs_5,hxs_6]
    refine kA hK24 ?_
    refine Wp.seqW fun K25 hK25 hW25=>?_
    obtain ⟨r_21,hr_21,hm⟩:=zb hm
    refine Wp.seqR fun K26 hK26=>?_
    simp only [go_sem,simprocAttr,hxs_1,hxs_2,hxs_3,hxs_4,hxs_5,hxs_6]
    try refine ⟨sd,?_⟩
    refine Rg.callX (av:=?av27) (g:=true) (fun hg=>zed (api_Record.mk r_13.1 o1_1_25 s_1 r_14.1 r_15.1 r_16.1 r_17.1) _ hr_21) (by simp only [go_sem,simprocAttr,hxs_1,hxs_2,hxs_3,hxs_4,hxs_5,hxs_6]; exact Is.mk) (by simp only [go_sem,simprocAttr,hxs_1,hxs_2,hxs_3,hxs_4,hxs_5,hxs_6]; exact Is.mk) (by simp only [go_sem,simprocAttr,hxs_1,hxs_2,hxs_3,hxs_4,hxs_5,hxs_6]; exact Is.mk) (by simp only [go_sem,simprocAttr,hxs_1,hxs_2,hxs_3,hxs_4,hxs_5,hxs_6]) (by simp only [go_sem,simprocAttr,hxs_1,hxs_2,hxs_3,hxs_4,hxs_5,hxs_6]; exact Is.mk) ?cont27
    intro hv27
    simp only [go_sem,simprocAttr,hxs_1,hxs_2,hxs_3,hxs_4,hxs_5,hxs_6]
    refine kA hK26 ?_
    refine Wp.seqR fun K28 hK28=>?_
    simp only [go_sem,simprocAttr,hxs_1,hxs_2,hxs_3,hxs_4,hxs_5,hxs_6]
    refine kA hK28 ?_
    refine cM hm (fun hc29 hm=>?_) (fun hc29 hm=>?_)
    ·refine Wp.seqR fun K30 hK30=>?_
     simp only [go_sem,simprocAttr,hxs_1,hxs_2,hxs_3,hxs_4,hxs_5,hxs_6]
     refine kA hK30 ?_
     refine Wp.ret ?_
     refine zc ?_
     cases hm
     simp only [go_sem,simprocAttr,hxs_1,hxs_2,hxs_3,hxs_4,hxs_5,hxs_6]
     try exact se3
    ·refine Wp.skip ?_
     refine hK25 _ _ ?_
     refine Wp.seqR fun K31 hK31=>?_
     simp only [go_sem,simprocAttr,hxs_1,hxs_2,hxs_3,hxs_4,hxs_5,hxs_6]
     refine kA hK31 ?_
     refine Wp.ret ?_
     refine zc ?_
     cases hm
     simp only [go_sem,simprocAttr,hxs_1,hxs_2,hxs_3,hxs_4,hxs_5,hxs_6]
     try exact se3
  clear hK9 hk_11
  obtain ⟨r_9,hr_9,hm⟩:=zb hm
  refine Wp.seqR fun K32 hK32=>?_
  simp only [go_sem,simprocAttr,hxs_1]
  try refine ⟨sd,?_⟩
  refine Rg.callF (av:=?av33) (ze3  _ hr_9) (by simp only [go_sem,simprocAttr,hxs_1]; exact Is.mk) (by simp only [go_sem,simprocAttr,hxs_1]; exact Is.mk) (by simp only [go_sem,simprocAttr,hxs_1]) ?cont33
  intro hv33
  simp only [go_sem,simprocAttr,hxs_1]
  refine kA hK32 ?_
  refine Wp.block ?_
  obtain ⟨k_22,hk_22,hm⟩:=zT hm
  refine Wp.fact 35 fun hl_18=>?_
  replace hl_18:r_9.length≤274877906944:=by
   simp only [go_sem,simprocAttr,List.length_map] at hl_18
   omega
  refine Wp.forL (fun i_10 s=>[(2,.ptr 0 0),(4,.p (.l (List.map ecS r_7))),(5,.ptr 1 0),(35,.p (.l (List.map ecS r_9))),(36,.p (.i .i64 (r_9.length:Int))),(37,.p (.i .i64 (i_10:Int)))]) (fun i_10 s=>[.cells 30 [.p (.i .i64 0),.p (.i .i64 0),.p (.s []),.p (.i .i64 0),.p (.i .i64 0),.p (.i .i64 0),.p (.s []),.p (.i .i64 0),.p (.i .i64 0),.p (.i .i64 0),.p (.s []),.p (.i .i64 0),.p (.s [])],.cells 30 [.p (.i .i64 0),.p (.i .i64 s),.p (.s s_1),.p (.i .i64 0),.p (.i .i64 0),.p (.i .i64 0),.p (.s []),.p (.i .i64 0),.p (.i .i64 0),.p (.i .i64 0),.p (.s []),.p (.i .i64 0),.p (.s [])]]) ?_ hm ?_
  ·
   simp only [go_sem,simprocAttr,hxs_1]
   try exact se3
  clear hm
  intro i_10 o1_1_23 hii_10 hm
  try dsimp only at hm
  try dsimp only
  refine Wp.seqR fun K34 hK34=>?_
  simp only [go_sem,simprocAttr,hxs_1]
  refine kA hK34 ?_
  refine Wp.seqW fun K35 hK35 hW35=>?_
  refine Wp.cond rfl ⟨⟩ (fun hc35=>?_) (fun hc35=>?_)
  rotate_left
  ·refine Wp.exit ?_
   have hm:=hk_22 _ (zaf hm (zbc (by first | exact hc35 | simpa using hc35)))
   try dsimp only at hm
   refine hW9 _ _ _ _ ?_ (hcut9 o1_1_23 hm)
   simp only [go_sem,simprocAttr,hxs_1]
   try exact se3
  have hlt35:=zbb (by first | exact hc35 | simpa using hc35)
  have hw35:=zR hlt35 hl_18
  obtain ⟨s_8,nx_19,hxs_8,hys_8,hnx_19,hm⟩:=zS hm hlt35
  replace hxs_8:=hxs_8 ecS
  refine Wp.skip ?_
  simp only [zl]
  refine hK35 _ _ ?_
  refine Wp.seqW fun K36 hK36 hW36=>?_
  refine Wp.block ?_
  refine Wp.seqR fun K37 hK37=>?_
  simp only [go_sem,simprocAttr,hxs_1,hw35,hxs_8]
  refine kA hK37 ?_
  obtain ⟨c_27,hm⟩:=zf hm
  have hr_24:=zg0 (l:=r_7) (e:=ecS) (d:=[]) (i:=1)
  simp only [ecS,List.map_nil] at hr_24
  refine Wp.seqR fun K38 hK38=>?_
  simp only [go_sem,simprocAttr,hxs_1,hw35,hxs_8,hr_24]
  refine kA hK38 ?_
  refine cM hm (fun hc39 hm=>?_) (fun hc39 hm=>?_)
  ·refine Wp.region fun K40 hK40=>?_
   simp only [go_sem,simprocAttr,hxs_1,hw35,hxs_8]
   refine kA hK40 ?_
   refine hK36 _ _ ?_
   refine Wp.region fun K41 hK41=>?_
   simp only [go_sem,simprocAttr,hxs_1,hw35,hxs_8]
   refine kA hK41 ?_
   simp only [zl,zi,↓reduceIte]
   refine ⟨(i_10:Int),hlt35,hnx_19 _ hm,?_⟩
   simp only [go_sem,simprocAttr,hxs_1,hw35,hxs_8]
   try exact se3
  ·refine Wp.skip ?_
   refine hK36 _ _ ?_
   refine Wp.region fun K42 hK42=>?_
   simp only [go_sem,simprocAttr,hxs_1,hw35,hxs_8]
   refine kA hK42 ?_
   simp only [zl,zi,↓reduceIte]
   refine ⟨o1_1_23,hlt35,hnx_19 _ hm,?_⟩
   simp only [go_sem,simprocAttr,hxs_1,hw35,hxs_8]
   try exact se3
end Go.Proofs.YtmnohdgjkcjdeaaGreatDoor
