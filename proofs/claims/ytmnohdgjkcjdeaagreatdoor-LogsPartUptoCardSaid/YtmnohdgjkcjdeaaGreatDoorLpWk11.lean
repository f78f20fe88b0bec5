/- That the code does what the models say (part 11). -/
import Derived.Test.YtmnohdgjkcjdeaaGreatDoorLpWk0
import Derived.Test.YtmnohdgjkcjdeaaGreatDoorLpWk1
import Derived.Test.YtmnohdgjkcjdeaaGreatDoorLpWk2
import Derived.Test.YtmnohdgjkcjdeaaGreatDoorLpWk5
import Derived.Test.YtmnohdgjkcjdeaaGreatDoorLpWk6
set_option linter.unusedSimpArgs false
set_option linter.unusedVariables false
open Go.Proofs Go.Shelf
namespace Go.Proofs.YtmnohdgjkcjdeaaGreatDoor
open Go.Vc Go.Md
set_option maxRecDepth 100000
set_option maxHeartbeats 4000000
theorem ok_R_Unquote (s_5:Str) (z:Str × Int) (hm:zdY s_5=some z):Does Tryz.prog 96 [.p (.s s_5)] [] (fun r X=>r=.tup [.p (.s z.1),.p (.i .i64 z.2)]∧X=[]):=by
 unfold zdY at hm
 refine dW 0 107 [.tmp 2,.tmp 3] Tryz.func96 fun B=>?_
 refine qS ?_
 refine Wp.seqW fun K2 hK2 hW2=>?_
 obtain ⟨c_12,hm⟩:=zf hm
 obtain ⟨c_13,hm⟩:=zf hm
 refine Wp.seqR fun K3 hK3=>?_
 simp only [go_sem,simprocAttr]
 refine kA hK3 ?_
 refine cM hm (fun hc4 hm=>?_) (fun hc4 hm=>?_)
 ·refine qS ?_
  refine Wp.ret ?_
  refine zc ?_
  cases hm
  exact zn
 ·refine Wp.skip ?_
  refine hK2 _ _ ?_
  refine qS ?_
  refine Wp.seqW fun K7 hK7 hW7=>?_
  obtain ⟨k_6,hk_6,hm⟩:=zk hm
  have hcut7:∀ s,k_6 s=some z→K7 [(0,.p (.s s_5)),(4,.buf 0)] [.buf 5 1 (List.map zab s)]:=by
   intro o0_11 hs
   have hm:=hk_6 _ hs
   clear hs
   try dsimp only at hm
   try dsimp only
   refine hK7 _ _ ?_
   refine Wp.seqW fun K8 hK8 hW8=>?_
   obtain ⟨r_9,hr_9,hm⟩:=zb hm
   refine Wp.seqR fun K9 hK9=>?_
   simp only [go_sem,simprocAttr]
   try refine ⟨sd,?_⟩
   refine Rg.callX (av:=?av10) (g:=true) (fun hg=>zj7 (Go.Vc.strOf o0_11) _ hr_9) si si si sg si ?cont10
   intro hv10
   simp only [go_sem,simprocAttr]
   refine kA hK9 ?_
   refine cM hm (fun hc11 hm=>?_) (fun hc11 hm=>?_)
   ·refine qS ?_
    refine Wp.ret ?_
    refine zc ?_
    cases hm
    exact zn
   ·refine Wp.skip ?_
    refine hK8 _ _ ?_
    refine qS ?_
    refine Wp.ret ?_
    refine zc ?_
    cases hm
    exact zn
  clear hK7 hk_6
  obtain ⟨c_14,hm⟩:=zf hm
  refine Wp.seqR fun K14 hK14=>?_
  simp only [go_sem,simprocAttr]
  refine kA hK14 ?_
  refine Wp.block ?_
  refine Wp.adoptF 4 5 1 rfl ?_
  simp only [go_sem,simprocAttr]
  obtain ⟨k_10,hk_10,hm⟩:=zB hm
  refine Wp.loopN (fun s=>[(0,.p (.s s_5)),(4,.buf 0),(5,.p (.s s.1))]) (fun s=>[.buf 5 1 (List.map zab s.2)]) ?_ hm ?_
  ·
   exact zn
  clear hm
  intro s nx_15 hm
  obtain ⟨b_3,o0_4⟩:=s
  try dsimp only at hm
  try dsimp only
  refine Wp.seqW fun K15 hK15 hW15=>?_
  refine qS ?_
  refine cM hm (fun hc17 hm=>?_) (fun hc17 hm=>?_)
  ·refine Wp.skip ?_
   refine hK15 _ _ ?_
   refine Wp.block ?_
   refine Wp.seqW fun K18 hK18 hW18=>?_
   obtain ⟨c_1,hbc_1,hxc_1,hm⟩:=zai hm
   replace hxc_1:((b_3.getD 0 0).toNat:Int)=c_1:=hxc_1
   refine Wp.seqR fun K19 hK19=>?_
   simp only [go_sem,simprocAttr,hxc_1]
   refine kA hK19 ?_
   refine cM hm (fun hc20 hm=>?_) (fun hc20 hm=>?_)
   ·obtain ⟨c_16,hm⟩:=zf hm
    refine Wp.seqR fun K21 hK21=>?_
    simp only [go_sem,simprocAttr,hxc_1]
    refine kA hK21 ?_
    obtain ⟨c_17,hm⟩:=zf hm
    refine Wp.seqR fun K22 hK22=>?_
    simp only [go_sem,simprocAttr,hxc_1]
    refine kA hK22 ?_
    refine Wp.exit ?_
    simp only [zl,zi,↓reduceIte]
    refine ⟨(List.drop 1 b_3,o0_4++[c_1]),hm,?_⟩
    simp only [go_sem,simprocAttr,hxc_1]
    try exact se3
   ·refine Wp.skip ?_
    refine hK18 _ _ ?_
    refine Wp.block ?_
    obtain ⟨c_18,hm⟩:=zf hm
    obtain ⟨c_19,hm⟩:=zf hm
    refine Wp.seqR fun K23 hK23=>?_
    simp only [go_sem,simprocAttr,hxc_1]
    refine kA hK23 ?_
    refine cM hm (fun hc24 hm=>?_) (fun hc24 hm=>?_)
    ·obtain ⟨c_2,hbc_2,hxc_2,hm⟩:=zai hm
     replace hxc_2:((b_3.getD 1 0).toNat:Int)=c_2:=hxc_2
     obtain ⟨c_20,hm⟩:=zf hm
     refine Wp.seqR fun K25 hK25=>?_
     simp only [go_sem,simprocAttr,hxc_1,hxc_2]
     refine kA hK25 ?_
     obtain ⟨c_21,hm⟩:=zf hm
     refine Wp.region fun K26 hK26=>?_
     simp only [go_sem,simprocAttr,hxc_1,hxc_2]
     refine kA hK26 ?_
     simp only [zl,zi,↓reduceIte]
     refine ⟨(List.drop 2 b_3,o0_4++[c_2]),hm,?_⟩
     simp only [go_sem,simprocAttr,hxc_1,hxc_2]
     try exact se3
    ·obtain ⟨c_22,hm⟩:=zf hm
     refine Wp.seqR fun K27 hK27=>?_
     simp only [go_sem,simprocAttr,hxc_1]
     refine kA hK27 ?_
     refine cM hm (fun hc28 hm=>?_) (fun hc28 hm=>?_)
     ·obtain ⟨c_23,hm⟩:=zf hm
      refine Wp.seqR fun K29 hK29=>?_
      simp only [go_sem,simprocAttr,hxc_1]
      refine kA hK29 ?_
      obtain ⟨c_24,hm⟩:=zf hm
      refine Wp.region fun K30 hK30=>?_
      simp only [go_sem,simprocAttr,hxc_1]
      refine kA hK30 ?_
      simp only [zl,zi,↓reduceIte]
      refine ⟨(List.drop 2 b_3,o0_4++[10]),hm,?_⟩
      simp only [go_sem,simprocAttr,hxc_1]
      try exact se3
     ·obtain ⟨c_25,hm⟩:=zf hm
      refine Wp.seqR fun K31 hK31=>?_
      simp only [go_sem,simprocAttr,hxc_1]
      refine kA hK31 ?_
      refine cM hm (fun hc32 hm=>?_) (fun hc32 hm=>?_)
      ·obtain ⟨c_26,hm⟩:=zf hm
       obtain ⟨r_7,hr_7,hm⟩:=zb hm
       obtain ⟨c_27,hm⟩:=zf hm
       obtain ⟨r_8,hr_8,hm⟩:=zb hm
       refine Wp.seqD (plan:=pl [(0,none),(1,none),(2,none),(3,none),(4,none),(5,none),(6,none),(7,none),(8,none)]) (by kernel_rfl) rfl (by kernel_rfl) fun K33 hK33=>?_
       simp only [go_sem,simprocAttr,hxc_1]
       try refine ⟨sL,?_⟩
       refine Dr.callF (av:=?av34) (g:=true) (o:=?o34) (fun hg=>zcc ([48,49,50,51,52,53,54,55,56,57,97,98,99,100,101,102]:Str) (List.take (3 - 2) (List.drop 2 b_3)) _ hr_7) (by simp only [go_sem,simprocAttr,hxc_1]; exact Is.mk) (by simp only [go_sem,simprocAttr,hxc_1]; exact Is.mk) (by simp only [go_sem,simprocAttr,hxc_1]; exact Is.mk) (by simp only [go_sem,simprocAttr,hxc_1]; exact Is.mk) (by simp only [go_sem,simprocAttr,hxc_1]) (by simp only [go_sem,simprocAttr,hxc_1]; exact Is.mk) ?cont34
       simp only [go_sem,simprocAttr,hxc_1]
       try refine ⟨sL,?_⟩
       refine Dr.callF (av:=?av35) (g:=true) (o:=?o35) (fun hg=>zcc ([48,49,50,51,52,53,54,55,56,57,97,98,99,100,101,102]:Str) (List.take (4 - 3) (List.drop 3 b_3)) _ hr_8) (by simp only [go_sem,simprocAttr,hxc_1]; exact Is.mk) (by simp only [go_sem,simprocAttr,hxc_1]; exact Is.mk) (by simp only [go_sem,simprocAttr,hxc_1]; exact Is.mk) (by simp only [go_sem,simprocAttr,hxc_1]; exact Is.mk) (by simp only [go_sem,simprocAttr,hxc_1]) (by simp only [go_sem,simprocAttr,hxc_1]; exact Is.mk) ?cont35
       simp only [go_sem,simprocAttr,hxc_1]
       refine kA hK33 ?_
       obtain ⟨c_28,hm⟩:=zf hm
       refine Wp.seqR fun K36 hK36=>?_
       simp only [go_sem,simprocAttr,hxc_1]
       refine kA hK36 ?_
       obtain ⟨c_29,hm⟩:=zf hm
       refine Wp.region fun K37 hK37=>?_
       simp only [go_sem,simprocAttr,hxc_1]
       refine kA hK37 ?_
       simp only [zl,zi,↓reduceIte]
       refine ⟨(List.drop 4 b_3,o0_4++[IntKind.u8.wrap (IntKind.i64.wrap ((IntKind.i64.wrap (r_7 * 16))+r_8))]),hm,?_⟩
       simp only [go_sem,simprocAttr,hxc_1]
       try exact se3
      ·refine Wp.seqR fun K38 hK38=>?_
       simp only [go_sem,simprocAttr,hxc_1]
       refine kA hK38 ?_
       refine Wp.ret ?_
       refine zc ?_
       cases hm
       simp only [go_sem,simprocAttr,hxc_1]
       try exact se3
  ·refine Wp.exit ?_
   simp only [zl,zi,↓reduceIte]
   have hm:=hk_10 _ hm
   try dsimp only at hm
   refine hW7 _ _ _ _ ?_ (hcut7 o0_4 hm)
   exact zn
theorem zgp (s_1:Str) (most_2:Int) (z:Int × Bool) (hm:zc6 s_1 most_2=some z):Does Tryz.prog 126 [.p (.s s_1),.p (.i .i64 most_2)] [] (fun r X=>r=.tup [.p (.i .i64 z.1),.p (.b z.2)]∧X=[]):=by
 unfold zc6 at hm
 refine dW 0 39 [.tmp 4,.tmp 5] Tryz.func126 fun B=>?_
 refine qS ?_
 refine Wp.seqW fun K2 hK2 hW2=>?_
 obtain ⟨r_3,hr_3,hm⟩:=z7 hm
 obtain ⟨c_5,hm⟩:=zf hm
 refine Wp.seqR fun K3 hK3=>?_
 simp only [go_sem,simprocAttr]
 try refine ⟨sL,?_⟩
 refine Rg.callX (av:=?av4) (g:=!((decide (s_1=[])) || (decide (most_2 < (s_1.length:Int))))) (fun hg=>ziU s_1 ([48,49,50,51,52,53,54,55,56,57]:Str) _ (hr_3 hg)) si si si sg si ?cont4
 intro hv4
 simp only [go_sem,simprocAttr]
 refine kA hK3 ?_
 refine cM hm (fun hc5 hm=>?_) (fun hc5 hm=>?_)
 ·refine qS ?_
  refine Wp.ret ?_
  refine zc ?_
  cases hm
  exact zn
 ·refine Wp.skip ?_
  refine hK2 _ _ ?_
  obtain ⟨r_4,hr_4,hm⟩:=zb hm
  refine Wp.seqR fun K7 hK7=>?_
  simp only [go_sem,simprocAttr]
  try refine ⟨sd,?_⟩
  refine Rg.callF (av:=?av8) (zbi s_1 _ hr_4) si si sg ?cont8
  intro hv8
  simp only [go_sem,simprocAttr]
  refine kA hK7 ?_
  refine Wp.seqD (plan:=pl [(0,none),(1,none),(2,none),(3,none),(4,none)]) (by kernel_rfl) rfl (by kernel_rfl) fun K9 hK9=>?_
  simp only [go_sem,simprocAttr]
  refine kA hK9 ?_
  refine Wp.ret ?_
  refine zc ?_
  cases hm
  exact zn
theorem zce (s_7:Str) (z:api_Version × Int) (hm:zV s_7=some z):Does Tryz.prog 97 [.p (.s s_7)] [] (fun r X=>r=.tup [.agg [.p (.i .i64 z.1.Major),.p (.i .i64 z.1.Minor),.p (.i .i64 z.1.Patch),.p (.s z.1.Early)],.p (.i .i64 z.2)]∧X=[]):=by
 unfold zV at hm
 refine dW 0 67 [.cell 2 27,.tmp 3] Tryz.func97 fun B=>?_
 refine qS ?_
 obtain ⟨r_4,hr_4,hm⟩:=zb hm
 refine Wp.seqR fun K2 hK2=>?_
 simp only [go_sem,simprocAttr]
 try refine ⟨sd,?_⟩
 refine Rg.callX (av:=?av3) (g:=true) (fun hg=>zek s_7 ([45]:Str) _ hr_4) si si si sg si ?cont3
 intro hv3
 simp only [go_sem,simprocAttr]
 refine kA hK2 ?_
 obtain ⟨r_5,hr_5,hm⟩:=zb hm
 refine Wp.seqR fun K4 hK4=>?_
 simp only [go_sem,simprocAttr]
 try refine ⟨sd,?_⟩
 refine Rg.callF (av:=?av5) (zak r_4.1 ([46]:Str) _ hr_5) si si sg ?cont5
 intro hv5
 simp only [go_sem,simprocAttr]
 refine kA hK4 ?_
 refine Wp.seqW fun K6 hK6 hW6=>?_
 refine qS ?_
 refine cM hm (fun hc8 hm=>?_) (fun hc8 hm=>?_)
 ·refine qS ?_
  refine Wp.ret ?_
  refine zc ?_
  cases hm
  exact zn
 ·refine Wp.skip ?_
  refine hK6 _ _ ?_
  refine qS ?_
  refine Wp.seqW fun K11 hK11 hW11=>?_
  obtain ⟨k_6,hk_6,hm⟩:=zk hm
  have hcut11:∀ s,k_6 s=some z→K11 [(2,.ptr 0 0),(5,.p (.s r_4.2.1)),(8,.ptr 1 0)] [.cells 27 [.p (.i .i64 0),.p (.i .i64 0),.p (.i .i64 0),.p (.s [])],.cells 147 [.p (.i .i64 s.1),.p (.i .i64 s.2.1),.p (.i .i64 s.2.2)]]:=by
   intro s hs
   have hm:=hk_6 _ hs
   clear hs
   obtain ⟨o1_0_12,o1_1_13,o1_2_14⟩:=s
   try dsimp only at hm
   try dsimp only
   refine hK11 _ _ ?_
   refine qS ?_
   refine Wp.seqW fun K13 hK13 hW13=>?_
   obtain ⟨r_11,hr_11,hm⟩:=zb hm
   refine Wp.seqR fun K14 hK14=>?_
   simp only [go_sem,simprocAttr]
   try refine ⟨sd,?_⟩
   refine Rg.callX (av:=?av15) (g:=true) (fun hg=>zbk [(api_Version.mk o1_0_12 o1_1_13 o1_2_14 r_4.2.1)] _ hr_11) si si si sg si ?cont15
   intro hv15
   simp only [go_sem,simprocAttr]
   refine kA hK14 ?_
   refine qS ?_
   refine cM hm (fun hc17 hm=>?_) (fun hc17 hm=>?_)
   ·refine qS ?_
    refine Wp.ret ?_
    refine zc ?_
    cases hm
    exact zn
   ·refine Wp.skip ?_
    refine hK13 _ _ ?_
    refine qS ?_
    refine Wp.ret ?_
    refine zc ?_
    cases hm
    exact zn
  clear hK11 hk_6
  refine qS ?_
  refine Wp.block ?_
  refine Wp.loopK 9 ?_
  simp only [WpL]
  refine qS ?_
  refine Wp.seqW fun K22 hK22 hW22=>?_
  refine Wp.cond rfl ⟨⟩ (fun hc23=>?_) (fun hc23=>?_)
  rotate_left
  ·cases hc23
  refine Wp.skip ?_
  refine hK22 _ _ ?_
  refine Wp.seqW fun K24 hK24 hW24=>?_
  refine Wp.block ?_
  refine qS ?_
  obtain ⟨s_1,hbs_1,hxs_1,hys_1,hm⟩:=zZ hm
  replace hxs_1:∀ d,(List.map ecS r_5).getD 0 d=ecS s_1:=hxs_1 ecS
  obtain ⟨r_8,hr_8,hm⟩:=zb hm
  refine Wp.seqR fun K26 hK26=>?_
  simp only [go_sem,simprocAttr,hxs_1]
  try refine ⟨sd,?_⟩
  refine Rg.callX (av:=?av27) (g:=true) (fun hg=>zgp s_1 9 _ hr_8) (by simp only [go_sem,simprocAttr,hxs_1]; exact Is.mk) (by simp only [go_sem,simprocAttr,hxs_1]; exact Is.mk) (by simp only [go_sem,simprocAttr,hxs_1]; exact Is.mk) (by simp only [go_sem,simprocAttr,hxs_1]) (by simp only [go_sem,simprocAttr,hxs_1]; exact Is.mk) ?cont27
  intro hv27
  simp only [go_sem,simprocAttr,hxs_1]
  refine kA hK26 ?_
  refine Wp.seqW fun K28 hK28 hW28=>?_
  refine Wp.seqR fun K29 hK29=>?_
  simp only [go_sem,simprocAttr,hxs_1]
  refine kA hK29 ?_
  refine cM hm (fun hc30 hm=>?_) (fun hc30 hm=>?_)
  ·refine Wp.seqR fun K31 hK31=>?_
   simp only [go_sem,simprocAttr,hxs_1]
   refine kA hK31 ?_
   refine Wp.ret ?_
   refine zc ?_
   cases hm
   simp only [go_sem,simprocAttr,hxs_1]
   try exact se3
  ·refine Wp.skip ?_
   refine hK28 _ _ ?_
   refine Wp.region fun K32 hK32=>?_
   simp only [go_sem,simprocAttr,hxs_1]
   refine kA hK32 ?_
   refine hK24 _ _ ?_
   refine Wp.region fun K33 hK33=>?_
   simp only [go_sem,simprocAttr,hxs_1]
   refine kA hK33 ?_
   simp only [zl,zi,↓reduceIte]
   try simp only [WpL]
   refine Wp.seqR fun K34 hK34=>?_
   simp only [go_sem,simprocAttr,hxs_1]
   refine kA hK34 ?_
   refine Wp.seqW fun K35 hK35 hW35=>?_
   refine Wp.cond rfl ⟨⟩ (fun hc36=>?_) (fun hc36=>?_)
   rotate_left
   ·cases hc36
   refine Wp.skip ?_
   refine hK35 _ _ ?_
   refine Wp.seqW fun K37 hK37 hW37=>?_
   refine Wp.block ?_
   refine Wp.seqR fun K38 hK38=>?_
   simp only [go_sem,simprocAttr,hxs_1]
   refine kA hK38 ?_
   obtain ⟨s_2,hbs_2,hxs_2,hys_2,hm⟩:=zZ hm
   replace hxs_2:∀ d,(List.map ecS r_5).getD 1 d=ecS s_2:=hxs_2 ecS
   obtain ⟨r_9,hr_9,hm⟩:=zb hm
   refine Wp.seqR fun K39 hK39=>?_
   simp only [go_sem,simprocAttr,hxs_1,hxs_2]
   try refine ⟨sd,?_⟩
   refine Rg.callX (av:=?av40) (g:=true) (fun hg=>zgp s_2 9 _ hr_9) (by simp only [go_sem,simprocAttr,hxs_1,hxs_2]; exact Is.mk) (by simp only [go_sem,simprocAttr,hxs_1,hxs_2]; exact Is.mk) (by simp only [go_sem,simprocAttr,hxs_1,hxs_2]; exact Is.mk) (by simp only [go_sem,simprocAttr,hxs_1,hxs_2]) (by simp only [go_sem,simprocAttr,hxs_1,hxs_2]; exact Is.mk) ?cont40
   intro hv40
   simp only [go_sem,simprocAttr,hxs_1,hxs_2]
   refine kA hK39 ?_
   refine Wp.seqW fun K41 hK41 hW41=>?_
   refine Wp.seqR fun K42 hK42=>?_
   simp only [go_sem,simprocAttr,hxs_1,hxs_2]
   refine kA hK42 ?_
   refine cM hm (fun hc43 hm=>?_) (fun hc43 hm=>?_)
   ·refine Wp.seqR fun K44 hK44=>?_
    simp only [go_sem,simprocAttr,hxs_1,hxs_2]
    refine kA hK44 ?_
    refine Wp.ret ?_
    refine zc ?_
    cases hm
    simp only [go_sem,simprocAttr,hxs_1,hxs_2]
    try exact se3
   ·refine Wp.skip ?_
    refine hK41 _ _ ?_
    refine Wp.region fun K45 hK45=>?_
    simp only [go_sem,simprocAttr,hxs_1,hxs_2]
    refine kA hK45 ?_
    refine hK37 _ _ ?_
    refine Wp.region fun K46 hK46=>?_
    simp only [go_sem,simprocAttr,hxs_1,hxs_2]
    refine kA hK46 ?_
    simp only [zl,zi,↓reduceIte]
    try simp only [WpL]
    refine Wp.seqR fun K47 hK47=>?_
    simp only [go_sem,simprocAttr,hxs_1,hxs_2]
    refine kA hK47 ?_
    refine Wp.seqW fun K48 hK48 hW48=>?_
    refine Wp.cond rfl ⟨⟩ (fun hc49=>?_) (fun hc49=>?_)
    rotate_left
    ·cases hc49
    refine Wp.skip ?_
    refine hK48 _ _ ?_
    refine Wp.seqW fun K50 hK50 hW50=>?_
    refine Wp.block ?_
    refine Wp.seqR fun K51 hK51=>?_
    simp only [go_sem,simprocAttr,hxs_1,hxs_2]
    refine kA hK51 ?_
    obtain ⟨s_3,hbs_3,hxs_3,hys_3,hm⟩:=zZ hm
    replace hxs_3:∀ d,(List.map ecS r_5).getD 2 d=ecS s_3:=hxs_3 ecS
    obtain ⟨r_10,hr_10,hm⟩:=zb hm
    refine Wp.seqR fun K52 hK52=>?_
    simp only [go_sem,simprocAttr,hxs_1,hxs_2,hxs_3]
    try refine ⟨sd,?_⟩
    refine Rg.callX (av:=?av53) (g:=true) (fun hg=>zgp s_3 9 _ hr_10) (by simp only [go_sem,simprocAttr,hxs_1,hxs_2,hxs_3]; exact Is.mk) (by simp only [go_sem,simprocAttr,hxs_1,hxs_2,hxs_3]; exact Is.mk) (by simp only [go_sem,simprocAttr,hxs_1,hxs_2,hxs_3]; exact Is.mk) (by simp only [go_sem,simprocAttr,hxs_1,hxs_2,hxs_3]) (by simp only [go_sem,simprocAttr,hxs_1,hxs_2,hxs_3]; exact Is.mk) ?cont53
    intro hv53
    simp only [go_sem,simprocAttr,hxs_1,hxs_2,hxs_3]
    refine kA hK52 ?_
    refine Wp.seqW fun K54 hK54 hW54=>?_
    refine Wp.seqR fun K55 hK55=>?_
    simp only [go_sem,simprocAttr,hxs_1,hxs_2,hxs_3]
    refine kA hK55 ?_
    refine cM hm (fun hc56 hm=>?_) (fun hc56 hm=>?_)
    ·refine Wp.seqR fun K57 hK57=>?_
     simp only [go_sem,simprocAttr,hxs_1,hxs_2,hxs_3]
     refine kA hK57 ?_
     refine Wp.ret ?_
     refine zc ?_
     cases hm
     simp only [go_sem,simprocAttr,hxs_1,hxs_2,hxs_3]
     try exact se3
    ·refine Wp.skip ?_
     refine hK54 _ _ ?_
     refine Wp.region fun K58 hK58=>?_
     simp only [go_sem,simprocAttr,hxs_1,hxs_2,hxs_3]
     refine kA hK58 ?_
     refine hK50 _ _ ?_
     refine Wp.region fun K59 hK59=>?_
     simp only [go_sem,simprocAttr,hxs_1,hxs_2,hxs_3]
     refine kA hK59 ?_
     simp only [zl,zi,↓reduceIte]
     try simp only [WpL]
     refine Wp.seqR fun K60 hK60=>?_
     simp only [go_sem,simprocAttr,hxs_1,hxs_2,hxs_3]
     refine kA hK60 ?_
     refine Wp.seqW fun K61 hK61 hW61=>?_
     refine Wp.cond rfl ⟨⟩ (fun hc62=>?_) (fun hc62=>?_)
     ·cases hc62
     refine Wp.exit ?_
     refine hW11 _ _ _ _ ?_ (hcut11 (r_8.1,r_9.1,r_10.1) hm)
     simp only [go_sem,simprocAttr,hxs_1,hxs_2,hxs_3]
     try exact se3
end Go.Proofs.YtmnohdgjkcjdeaaGreatDoor
