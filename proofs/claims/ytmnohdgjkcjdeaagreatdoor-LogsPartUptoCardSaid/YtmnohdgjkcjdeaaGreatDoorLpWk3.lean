/- That the code does what the models say (part 3). -/
import Derived.Test.YtmnohdgjkcjdeaaGreatDoorLpWk0
import Derived.Test.YtmnohdgjkcjdeaaGreatDoorLpWk1
import Derived.Test.YtmnohdgjkcjdeaaGreatDoorLpWk2
set_option linter.unusedSimpArgs false
set_option linter.unusedVariables false
open Go.Proofs Go.Shelf
namespace Go.Proofs.YtmnohdgjkcjdeaaGreatDoor
open Go.Vc Go.Md
set_option maxRecDepth 100000
set_option maxHeartbeats 4000000
theorem zf4 (s_2:Str) (most_3:Int) (z:Bool) (hm:zcP s_2 most_3=some z):Does Tryz.prog 57 [.p (.s s_2),.p (.i .i64 most_3),.fn 60 []] [] (fun r X=>r=.p (.b z)∧X=[]):=by
 unfold zcP at hm
 refine dW 0 28 [.tmp 6] Tryz.func57 fun B=>?_
 refine qS ?_
 refine Wp.seqW fun K2 hK2 hW2=>?_
 obtain ⟨k_4,hk_4,hm⟩:=zk hm
 have hcut2:∀ s,k_4 s=some z→K2 [(0,.p (.s s_2)),(1,.p (.i .i64 most_3))] []:=by
  intro s hs
  have hm:=hk_4 _ hs
  clear hs
  try dsimp only at hm
  try dsimp only
  refine hK2 _ _ ?_
  refine qS ?_
  refine Wp.ret ?_
  refine zc ?_
  cases hm
  exact zn
 clear hK2 hk_4
 refine qS ?_
 refine Wp.block ?_
 obtain ⟨k_7,hk_7,hm⟩:=zT hm
 refine Wp.fact 0 fun hl_6=>?_
 replace hl_6:s_2.length≤274877906944:=by
  simp only [go_sem,simprocAttr,List.length_map] at hl_6
  omega
 refine Wp.forL (fun i_5 s=>[(0,.p (.s s_2)),(1,.p (.i .i64 most_3)),(2,.fn 60 []),(7,.p (.i .i64 (i_5:Int)))]) (fun i_5 s=>[]) ?_ hm ?_
 ·
  exact zn
 clear hm
 intro i_5 s hii_5 hm
 try dsimp only at hm
 try dsimp only
 refine Wp.seqW fun K5 hK5 hW5=>?_
 refine qS ?_
 refine Wp.cond rfl ⟨⟩ (fun hc5=>?_) (fun hc5=>?_)
 rotate_left
 ·refine Wp.exit ?_
  have hm:=hk_7 _ (zaf hm (zbc (by first | exact hc5 | simpa using hc5)))
  try dsimp only at hm
  refine hW2 _ _ _ _ ?_ (hcut2 () hm)
  exact zn
 have hlt5:=zbb (by first | exact hc5 | simpa using hc5)
 have hw5:=zR hlt5 hl_6
 obtain ⟨c_1,nx_8,hxc_1,hyc_1,hnx_8,hm⟩:=zS hm hlt5
 clear hxc_1
 refine Wp.skip ?_
 simp only [zl]
 refine hK5 _ _ ?_
 refine Wp.seqW fun K7 hK7 hW7=>?_
 refine Wp.block ?_
 obtain ⟨r_9,hr_9,hm⟩:=zb hm
 refine Wp.seqR fun K8 hK8=>?_
 simp only [go_sem,simprocAttr,hw5,hyc_1]
 try refine ⟨sd,?_⟩
 refine Rg.callX (av:=?av9) (g:=true) (fun hg=>zej (c_1.toNat:Int) _ hr_9) (by simp only [go_sem,simprocAttr,hw5,hyc_1]; exact Is.mk) (by simp only [go_sem,simprocAttr,hw5,hyc_1]; exact Is.mk) (by simp only [go_sem,simprocAttr,hw5,hyc_1]; exact Is.mk) (by simp only [go_sem,simprocAttr,hw5,hyc_1]) (by simp only [go_sem,simprocAttr,hw5,hyc_1]; exact Is.mk) ?cont9
 intro hv9
 simp only [go_sem,simprocAttr,hw5,hyc_1]
 refine kA hK8 ?_
 refine cM hm (fun hc10 hm=>?_) (fun hc10 hm=>?_)
 ·refine Wp.seqR fun K11 hK11=>?_
  simp only [go_sem,simprocAttr,hw5,hyc_1]
  refine kA hK11 ?_
  refine Wp.ret ?_
  refine zc ?_
  cases hm
  simp only [go_sem,simprocAttr,hw5,hyc_1]
  try exact se3
 ·refine Wp.skip ?_
  refine hK7 _ _ ?_
  refine Wp.region fun K12 hK12=>?_
  simp only [go_sem,simprocAttr,hw5,hyc_1]
  refine kA hK12 ?_
  simp only [zl,zi,↓reduceIte]
  refine ⟨(),hlt5,hnx_8 _ hm,?_⟩
  simp only [go_sem,simprocAttr,hw5,hyc_1]
  try exact se3
theorem zdf (s_1:Str) (z:Bool) (hm:zbp s_1=some z):Does Tryz.prog 147 [.p (.s s_1)] [] (fun r X=>r=.p (.b z)∧X=[]):=by
 unfold zbp at hm
 refine dW 0 5 [.tmp 2] Tryz.func147 fun B=>?_
 refine qS ?_
 obtain ⟨r_2,hr_2,hm⟩:=zb hm
 refine Wp.seqR fun K2 hK2=>?_
 simp only [go_sem,simprocAttr]
 try refine ⟨sd,?_⟩
 refine Rg.callX (av:=?av3) (g:=true) (fun hg=>zf4 s_1 10 _ hr_2) si si si sg si ?cont3
 intro hv3
 simp only [go_sem,simprocAttr]
 refine kA hK2 ?_
 refine Wp.ret ?_
 refine zc ?_
 cases hm
 exact zn
theorem zjE (s_2:Str) (z:Bool) (hm:zdJ s_2=some z):Does Tryz.prog 108 [.p (.s s_2)] [] (fun r X=>r=.p (.b z)∧X=[]):=by
 unfold zdJ at hm
 refine dW 0 32 [.tmp 2] Tryz.func108 fun B=>?_
 refine qS ?_
 refine Wp.seqW fun K2 hK2 hW2=>?_
 obtain ⟨k_4,hk_4,hm⟩:=zk hm
 have hcut2:∀ s,k_4 s=some z→K2 [(0,.p (.s s_2))] []:=by
  intro s hs
  have hm:=hk_4 _ hs
  clear hs
  try dsimp only at hm
  try dsimp only
  refine hK2 _ _ ?_
  refine qS ?_
  refine Wp.ret ?_
  refine zc ?_
  cases hm
  exact zn
 clear hK2 hk_4
 obtain ⟨r_3,hr_3,hm⟩:=zb hm
 refine Wp.seqR fun K4 hK4=>?_
 simp only [go_sem,simprocAttr]
 try refine ⟨sd,?_⟩
 refine Rg.callF (av:=?av5) (zak s_2 ([46]:Str) _ hr_3) si si sg ?cont5
 intro hv5
 simp only [go_sem,simprocAttr]
 refine kA hK4 ?_
 refine Wp.block ?_
 obtain ⟨k_8,hk_8,hm⟩:=zT hm
 refine Wp.fact 6 fun hl_6=>?_
 replace hl_6:r_3.length≤274877906944:=by
  simp only [go_sem,simprocAttr,List.length_map] at hl_6
  omega
 refine Wp.forL (fun i_5 s=>[(0,.p (.s s_2)),(6,.p (.l (List.map ecS r_3))),(7,.p (.i .i64 (r_3.length:Int))),(8,.p (.i .i64 (i_5:Int)))]) (fun i_5 s=>[]) ?_ hm ?_
 ·
  exact zn
 clear hm
 intro i_5 s hii_5 hm
 try dsimp only at hm
 try dsimp only
 refine qS ?_
 refine Wp.seqW fun K7 hK7 hW7=>?_
 refine Wp.cond rfl ⟨⟩ (fun hc7=>?_) (fun hc7=>?_)
 rotate_left
 ·refine Wp.exit ?_
  have hm:=hk_8 _ (zaf hm (zbc (by first | exact hc7 | simpa using hc7)))
  try dsimp only at hm
  refine hW2 _ _ _ _ ?_ (hcut2 () hm)
  exact zn
 have hlt7:=zbb (by first | exact hc7 | simpa using hc7)
 have hw7:=zR hlt7 hl_6
 obtain ⟨s_1,nx_9,hxs_1,hys_1,hnx_9,hm⟩:=zS hm hlt7
 replace hxs_1:=hxs_1 ecS
 refine Wp.skip ?_
 simp only [zl]
 refine hK7 _ _ ?_
 refine Wp.seqW fun K8 hK8 hW8=>?_
 refine Wp.block ?_
 refine Wp.seqR fun K9 hK9=>?_
 simp only [go_sem,simprocAttr,hw7,hxs_1]
 refine kA hK9 ?_
 obtain ⟨r_7,hr_7,hm⟩:=zb hm
 obtain ⟨r_10,hr_10,hm⟩:=z7 hm
 obtain ⟨c_11,hm⟩:=zf hm
 refine Wp.seqR fun K10 hK10=>?_
 simp only [go_sem,simprocAttr,hw7,hxs_1]
 try refine ⟨sL,?_⟩
 refine Rg.callX (av:=?av11) (g:=true) (fun hg=>zjG s_1 10 _ hr_7) (by simp only [go_sem,simprocAttr,hw7,hxs_1]; exact Is.mk) (by simp only [go_sem,simprocAttr,hw7,hxs_1]; exact Is.mk) (by simp only [go_sem,simprocAttr,hw7,hxs_1]; exact Is.mk) (by simp only [go_sem,simprocAttr,hw7,hxs_1]) (by simp only [go_sem,simprocAttr,hw7,hxs_1]; exact Is.mk) ?cont11
 intro hv11
 simp only [go_sem,simprocAttr,hw7,hxs_1]
 try refine ⟨sL,?_⟩
 refine Rg.callX (av:=?av12) (g:=!(!r_7)) (fun hg=>zdf s_1 _ (hr_10 hg)) (by simp only [go_sem,simprocAttr,hw7,hxs_1]; exact Is.mk) (by simp only [go_sem,simprocAttr,hw7,hxs_1]; exact Is.mk) (by simp only [go_sem,simprocAttr,hw7,hxs_1]; exact Is.mk) (by simp only [go_sem,simprocAttr,hw7,hxs_1]) (by simp only [go_sem,simprocAttr,hw7,hxs_1]; exact Is.mk) ?cont12
 intro hv12
 simp only [go_sem,simprocAttr,hw7,hxs_1]
 refine kA hK10 ?_
 refine cM hm (fun hc13 hm=>?_) (fun hc13 hm=>?_)
 ·refine Wp.seqR fun K14 hK14=>?_
  simp only [go_sem,simprocAttr,hw7,hxs_1]
  refine kA hK14 ?_
  refine Wp.ret ?_
  refine zc ?_
  cases hm
  simp only [go_sem,simprocAttr,hw7,hxs_1]
  try exact se3
 ·refine Wp.skip ?_
  refine hK8 _ _ ?_
  refine Wp.region fun K15 hK15=>?_
  simp only [go_sem,simprocAttr,hw7,hxs_1]
  refine kA hK15 ?_
  simp only [zl,zi,↓reduceIte]
  refine ⟨(),hlt7,hnx_9 _ hm,?_⟩
  simp only [go_sem,simprocAttr,hw7,hxs_1]
  try exact se3
theorem zea (v_1:api_Version) (z:Int) (hm:zc8 v_1=some z):Does Tryz.prog 69 [.agg [.p (.i .i64 v_1.Major),.p (.i .i64 v_1.Minor),.p (.i .i64 v_1.Patch),.p (.s v_1.Early)]] [] (fun r X=>r=.p (.i .i64 z)∧X=[]):=by
 unfold zc8 at hm
 refine dW 0 27 [.tmp 2] Tryz.func69 fun B=>?_
 refine qS ?_
 refine Wp.seqW fun K2 hK2 hW2=>?_
 obtain ⟨k_2,hk_2,hm⟩:=zk hm
 have hcut2:∀ s,k_2 s=some z→K2 [(1,.ptr 0 0)] [.cells 27 [.p (.i .i64 v_1.Major),.p (.i .i64 v_1.Minor),.p (.i .i64 v_1.Patch),.p (.s v_1.Early)]]:=by
  intro s hs
  have hm:=hk_2 _ hs
  clear hs
  try dsimp only at hm
  try dsimp only
  refine hK2 _ _ ?_
  refine Wp.seqW fun K3 hK3 hW3=>?_
  obtain ⟨r_3,hr_3,hm⟩:=z7 hm
  refine Wp.seqR fun K4 hK4=>?_
  simp only [go_sem,simprocAttr]
  try refine ⟨sd,?_⟩
  refine Rg.callX (av:=?av5) (g:=!decide (v_1.Early=[])) (fun hg=>zjE v_1.Early _ (hr_3 hg)) si si si sg si ?cont5
  intro hv5
  simp only [go_sem,simprocAttr]
  refine kA hK4 ?_
  refine cM hm (fun hc6 hm=>?_) (fun hc6 hm=>?_)
  ·refine qS ?_
   refine Wp.ret ?_
   refine zc ?_
   cases hm
   exact zn
  ·refine Wp.skip ?_
   refine hK3 _ _ ?_
   refine qS ?_
   refine Wp.ret ?_
   refine zc ?_
   cases hm
   exact zn
 clear hK2 hk_2
 refine qS ?_
 refine Wp.block ?_
 refine Wp.loopK 9 ?_
 simp only [WpL]
 refine qS ?_
 refine Wp.seqW fun K11 hK11 hW11=>?_
 refine Wp.cond rfl ⟨⟩ (fun hc12=>?_) (fun hc12=>?_)
 rotate_left
 ·cases hc12
 refine Wp.skip ?_
 refine hK11 _ _ ?_
 refine Wp.seqW fun K13 hK13 hW13=>?_
 refine Wp.block ?_
 refine qS ?_
 obtain ⟨r_4,hr_4,hm⟩:=zb hm
 refine Wp.seqR fun K15 hK15=>?_
 simp only [go_sem,simprocAttr]
 try refine ⟨sd,?_⟩
 refine Rg.callX (av:=?av16) (g:=true) (fun hg=>zeh v_1.Major 0 999999 _ hr_4) si si si sg si ?cont16
 intro hv16
 simp only [go_sem,simprocAttr]
 refine kA hK15 ?_
 refine cM hm (fun hc17 hm=>?_) (fun hc17 hm=>?_)
 ·refine qS ?_
  refine Wp.ret ?_
  refine zc ?_
  cases hm
  exact zn
 ·refine Wp.skip ?_
  refine hK13 _ _ ?_
  refine qR ?_
  simp only [zl,zi,↓reduceIte]
  try simp only [WpL]
  refine qS ?_
  refine Wp.seqW fun K21 hK21 hW21=>?_
  refine Wp.cond rfl ⟨⟩ (fun hc22=>?_) (fun hc22=>?_)
  rotate_left
  ·cases hc22
  refine Wp.skip ?_
  refine hK21 _ _ ?_
  refine Wp.seqW fun K23 hK23 hW23=>?_
  refine Wp.block ?_
  refine qS ?_
  obtain ⟨r_5,hr_5,hm⟩:=zb hm
  refine Wp.seqR fun K25 hK25=>?_
  simp only [go_sem,simprocAttr]
  try refine ⟨sd,?_⟩
  refine Rg.callX (av:=?av26) (g:=true) (fun hg=>zeh v_1.Minor 0 999999 _ hr_5) si si si sg si ?cont26
  intro hv26
  simp only [go_sem,simprocAttr]
  refine kA hK25 ?_
  refine cM hm (fun hc27 hm=>?_) (fun hc27 hm=>?_)
  ·refine qS ?_
   refine Wp.ret ?_
   refine zc ?_
   cases hm
   exact zn
  ·refine Wp.skip ?_
   refine hK23 _ _ ?_
   refine qR ?_
   simp only [zl,zi,↓reduceIte]
   try simp only [WpL]
   refine qS ?_
   refine Wp.seqW fun K31 hK31 hW31=>?_
   refine Wp.cond rfl ⟨⟩ (fun hc32=>?_) (fun hc32=>?_)
   rotate_left
   ·cases hc32
   refine Wp.skip ?_
   refine hK31 _ _ ?_
   refine Wp.seqW fun K33 hK33 hW33=>?_
   refine Wp.block ?_
   refine qS ?_
   obtain ⟨r_6,hr_6,hm⟩:=zb hm
   refine Wp.seqR fun K35 hK35=>?_
   simp only [go_sem,simprocAttr]
   try refine ⟨sd,?_⟩
   refine Rg.callX (av:=?av36) (g:=true) (fun hg=>zeh v_1.Patch 0 999999 _ hr_6) si si si sg si ?cont36
   intro hv36
   simp only [go_sem,simprocAttr]
   refine kA hK35 ?_
   refine cM hm (fun hc37 hm=>?_) (fun hc37 hm=>?_)
   ·refine qS ?_
    refine Wp.ret ?_
    refine zc ?_
    cases hm
    exact zn
   ·refine Wp.skip ?_
    refine hK33 _ _ ?_
    refine qR ?_
    simp only [zl,zi,↓reduceIte]
    try simp only [WpL]
    refine qS ?_
    refine Wp.seqW fun K41 hK41 hW41=>?_
    refine Wp.cond rfl ⟨⟩ (fun hc42=>?_) (fun hc42=>?_)
    ·cases hc42
    refine Wp.exit ?_
    refine hW2 _ _ _ _ ?_ (hcut2 () hm)
    exact zn
theorem ok_log_uses (kind_1:Int) (z:Bool × Bool) (hm:zgV kind_1=some z):Does Tryz.prog 70 [.p (.i .i64 kind_1)] [] (fun r X=>r=.tup [.p (.b z.1),.p (.b z.2)]∧X=[]):=by
 unfold zgV at hm
 refine dW 0 10 [.tmp 2,.tmp 3] Tryz.func70 fun B=>?_
 refine qS ?_
 refine Wp.seqW fun K2 hK2 hW2=>?_
 refine qS ?_
 refine Wp.block ?_
 refine Wp.seqW fun K4 hK4 hW4=>?_
 obtain ⟨k_2,hk_2,hm⟩:=zk hm
 have hcut4:∀ s,k_2 s=some z→K4 [(4,.p (.i .i64 kind_1)),(5,.p (.b s))] []:=by
  intro t5_3 hs
  have hm:=hk_2 _ hs
  clear hs
  try dsimp only at hm
  try dsimp only
  refine hK4 _ _ ?_
  refine cM hm (fun hc5 hm=>?_) (fun hc5 hm=>?_)
  ·refine qS ?_
   refine Wp.ret ?_
   refine zc ?_
   cases hm
   exact zn
  ·refine qS ?_
   refine cM hm (fun hc8 hm=>?_) (fun hc8 hm=>?_)
   ·refine qS ?_
    refine Wp.ret ?_
    refine zc ?_
    cases hm
    exact zn
   ·refine Wp.skip ?_
    refine hK2 _ _ ?_
    refine qS ?_
    refine Wp.ret ?_
    refine zc ?_
    cases hm
    exact zn
 clear hK4 hk_2
 refine qS ?_
 refine cM hm (fun hc12 hm=>?_) (fun hc12 hm=>?_)
 ·refine Wp.skip ?_
  refine hW4 _ _ _ _ ?_ (hcut4 (decide (kind_1=2)) hm)
  exact zn
 ·refine qR ?_
  refine hW4 _ _ _ _ ?_ (hcut4 (decide (kind_1=3)) hm)
  exact zn
theorem zgm (a_1:Str) (b_2:Str) (z:Int) (hm:zbr a_1 b_2=some z):Does Tryz.prog 148 [.p (.s a_1),.p (.s b_2)] [] (fun r X=>r=.p (.i .i64 z)∧X=[]):=by
 unfold zbr at hm
 refine dW 0 33 [.tmp 4] Tryz.func148 fun B=>?_
 refine qS ?_
 obtain ⟨r_4,hr_4,hm⟩:=zb hm
 obtain ⟨r_5,hr_5,hm⟩:=zb hm
 refine Wp.seqR fun K2 hK2=>?_
 simp only [go_sem,simprocAttr]
 try refine ⟨sd,?_⟩
 refine Rg.callX (av:=?av3) (g:=true) (fun hg=>zdf a_1 _ hr_4) si si si sg si ?cont3
 intro hv3
 simp only [go_sem,simprocAttr]
 try refine ⟨sd,?_⟩
 refine Rg.callX (av:=?av4) (g:=true) (fun hg=>zdf b_2 _ hr_5) si si si sg si ?cont4
 intro hv4
 simp only [go_sem,simprocAttr]
 refine kA hK2 ?_
 refine Wp.seqW fun K5 hK5 hW5=>?_
 obtain ⟨k_3,hk_3,hm⟩:=zk hm
 have hcut5:∀ s,k_3 s=some z→K5 [(0,.p (.s a_1)),(1,.p (.s b_2))] []:=by
  intro s hs
  have hm:=hk_3 _ hs
  clear hs
  try dsimp only at hm
  try dsimp only
  refine hK5 _ _ ?_
  obtain ⟨r_6,hr_6,hm⟩:=zb hm
  refine Wp.seqR fun K6 hK6=>?_
  simp only [go_sem,simprocAttr]
  try refine ⟨sd,?_⟩
  refine Rg.callX (av:=?av7) (g:=true) (fun hg=>zeb a_1 b_2 _ hr_6) si si si sg si ?cont7
  intro hv7
  simp only [go_sem,simprocAttr]
  refine kA hK6 ?_
  refine Wp.ret ?_
  refine zc ?_
  cases hm
  exact zn
 clear hK5 hk_3
 refine Wp.block ?_
 refine qS ?_
 refine cM hm (fun hc9 hm=>?_) (fun hc9 hm=>?_)
 ·refine qS ?_
  refine cM hm (fun hc11 hm=>?_) (fun hc11 hm=>?_)
  ·obtain ⟨r_7,hr_7,hm⟩:=zb hm
   refine Wp.seqR fun K12 hK12=>?_
   simp only [go_sem,simprocAttr]
   try refine ⟨sd,?_⟩
   refine Rg.callX (av:=?av13) (g:=true) (fun hg=>zQ (a_1.length:Int) (b_2.length:Int) _ hr_7) si si si sg si ?cont13
   intro hv13
   simp only [go_sem,simprocAttr]
   refine kA hK12 ?_
   refine Wp.ret ?_
   refine zc ?_
   cases hm
   exact zn
  ·refine Wp.skip ?_
   refine hW5 _ _ _ _ ?_ (hcut5 () hm)
   exact zn
 ·refine qS ?_
  refine cM hm (fun hc15 hm=>?_) (fun hc15 hm=>?_)
  ·refine qS ?_
   refine Wp.ret ?_
   refine zc ?_
   cases hm
   exact zn
  ·refine qS ?_
   refine cM hm (fun hc18 hm=>?_) (fun hc18 hm=>?_)
   ·refine qS ?_
    refine Wp.ret ?_
    refine zc ?_
    cases hm
    exact zn
   ·refine Wp.skip ?_
    refine hW5 _ _ _ _ ?_ (hcut5 () hm)
    exact zn
theorem zgn (a_6:Str) (b_7:Str) (z:Int) (hm:zbs a_6 b_7=some z):Does Tryz.prog 109 [.p (.s a_6),.p (.s b_7)] [] (fun r X=>r=.p (.i .i64 z)∧X=[]):=by
 unfold zbs at hm
 refine dW 0 49 [.tmp 4] Tryz.func109 fun B=>?_
 refine qS ?_
 refine Wp.seqW fun K2 hK2 hW2=>?_
 refine Wp.block ?_
 refine qS ?_
 refine cM hm (fun hc4 hm=>?_) (fun hc4 hm=>?_)
 ·refine qS ?_
  refine Wp.ret ?_
  refine zc ?_
  cases hm
  exact zn
 ·refine qS ?_
  refine cM hm (fun hc7 hm=>?_) (fun hc7 hm=>?_)
  ·refine qS ?_
   refine Wp.ret ?_
   refine zc ?_
   cases hm
   exact zn
  ·refine qS ?_
   refine cM hm (fun hc10 hm=>?_) (fun hc10 hm=>?_)
   ·refine qS ?_
    refine Wp.ret ?_
    refine zc ?_
    cases hm
    exact zn
   ·refine Wp.skip ?_
    refine hK2 _ _ ?_
    obtain ⟨r_3,hr_3,hm⟩:=zb hm
    obtain ⟨r_4,hr_4,hm⟩:=zb hm
    refine Wp.seqR fun K12 hK12=>?_
    simp only [go_sem,simprocAttr]
    try refine ⟨sd,?_⟩
    refine Rg.callF (av:=?av13) (zak a_6 ([46]:Str) _ hr_3) si si sg ?cont13
    intro hv13
    simp only [go_sem,simprocAttr]
    try refine ⟨sd,?_⟩
    refine Rg.callF (av:=?av14) (zak b_7 ([46]:Str) _ hr_4) si si sg ?cont14
    intro hv14
    simp only [go_sem,simprocAttr]
    refine kA hK12 ?_
    refine Wp.seqW fun K15 hK15 hW15=>?_
    obtain ⟨k_5,hk_5,hm⟩:=zk hm
    have hcut15:∀ s,k_5 s=some z→K15 [(5,.p (.l (List.map ecS r_3))),(6,.p (.l (List.map ecS r_4)))] []:=by
     intro s hs
     have hm:=hk_5 _ hs
     clear hs
     try dsimp only at hm
     try dsimp only
     refine hK15 _ _ ?_
     obtain ⟨r_9,hr_9,hm⟩:=zb hm
     refine Wp.seqR fun K16 hK16=>?_
     simp only [go_sem,simprocAttr]
     try refine ⟨sd,?_⟩
     refine Rg.callX (av:=?av17) (g:=true) (fun hg=>zQ (r_3.length:Int) (r_4.length:Int) _ hr_9) si si si sg si ?cont17
     intro hv17
     simp only [go_sem,simprocAttr]
     refine kA hK16 ?_
     refine Wp.ret ?_
     refine zc ?_
     cases hm
     exact zn
    clear hK15 hk_5
    refine qS ?_
    refine Wp.block ?_
    obtain ⟨k_10,hk_10,hm⟩:=zB hm
    refine Wp.loopN (fun s=>[(5,.p (.l (List.map ecS r_3))),(6,.p (.l (List.map ecS r_4))),(27,.p (.i .i64 (min (r_3.length:Int) (r_4.length:Int)))),(28,.p (.i .i64 s))]) (fun s=>[]) ?_ hm ?_
    ·
     exact zn
    clear hm
    intro t28_8 nx_12 hm
    try dsimp only at hm
    try dsimp only
    refine qS ?_
    refine Wp.seqW fun K20 hK20 hW20=>?_
    refine cM hm (fun hc21 hm=>?_) (fun hc21 hm=>?_)
    ·refine Wp.skip ?_
     refine hK20 _ _ ?_
     refine Wp.seqW fun K22 hK22 hW22=>?_
     refine Wp.block ?_
     refine qS ?_
     obtain ⟨s_1,hbs_1,hxs_1,hys_1,hm⟩:=zZ hm
     replace hxs_1:∀ d,(List.map ecS r_3).getD t28_8.toNat d=ecS s_1:=hxs_1 ecS
     obtain ⟨s_2,hbs_2,hxs_2,hys_2,hm⟩:=zZ hm
     replace hxs_2:∀ d,(List.map ecS r_4).getD t28_8.toNat d=ecS s_2:=hxs_2 ecS
     obtain ⟨r_11,hr_11,hm⟩:=zb hm
     refine Wp.seqD (plan:=pl [(0,none),(1,none),(2,none),(3,none),(4,none),(5,none),(6,none),(7,none),(8,none),(9,none)]) (by kernel_rfl) rfl (by kernel_rfl) fun K24 hK24=>?_
     simp only [go_sem,simprocAttr,hxs_1,hxs_2]
     try refine ⟨sd,?_⟩
     refine Dr.callF (av:=?av25) (g:=true) (o:=?o25) (fun hg=>zgm s_1 s_2 _ hr_11) (by simp only [go_sem,simprocAttr,hxs_1,hxs_2]; exact Is.mk) (by simp only [go_sem,simprocAttr,hxs_1,hxs_2]; exact Is.mk) (by simp only [go_sem,simprocAttr,hxs_1,hxs_2]; exact Is.mk) (by simp only [go_sem,simprocAttr,hxs_1,hxs_2]; exact Is.mk) (by simp only [go_sem,simprocAttr,hxs_1,hxs_2]) (by simp only [go_sem,simprocAttr,hxs_1,hxs_2]; exact Is.mk) ?cont25
     simp only [go_sem,simprocAttr,hxs_1,hxs_2]
     refine kA hK24 ?_
     refine Wp.seqR fun K26 hK26=>?_
     simp only [go_sem,simprocAttr,hxs_1,hxs_2]
     refine kA hK26 ?_
     refine cM hm (fun hc27 hm=>?_) (fun hc27 hm=>?_)
     ·refine Wp.seqR fun K28 hK28=>?_
      simp only [go_sem,simprocAttr,hxs_1,hxs_2]
      refine kA hK28 ?_
      refine Wp.ret ?_
      refine zc ?_
      cases hm
      simp only [go_sem,simprocAttr,hxs_1,hxs_2]
      try exact se3
     ·refine Wp.skip ?_
      refine hK22 _ _ ?_
      refine Wp.region fun K29 hK29=>?_
      simp only [go_sem,simprocAttr,hxs_1,hxs_2]
      refine kA hK29 ?_
      simp only [zl,zi,↓reduceIte]
      refine ⟨IntKind.i64.wrap (t28_8+1),hm,?_⟩
      simp only [go_sem,simprocAttr,hxs_1,hxs_2]
      try exact se3
    ·refine Wp.exit ?_
     simp only [zl,zi,↓reduceIte]
     have hm:=hk_10 _ hm
     try dsimp only at hm
     refine hW15 _ _ _ _ ?_ (hcut15 () hm)
     exact zn
theorem ok_ver_Order (a_1:api_Version) (b_2:api_Version) (z:Int) (hm:zff a_1 b_2=some z):Does Tryz.prog 71 [.agg [.p (.i .i64 a_1.Major),.p (.i .i64 a_1.Minor),.p (.i .i64 a_1.Patch),.p (.s a_1.Early)],.agg [.p (.i .i64 b_2.Major),.p (.i .i64 b_2.Minor),.p (.i .i64 b_2.Patch),.p (.s b_2.Early)]] [] (fun r X=>r=.p (.i .i64 z)∧X=[]):=by
 unfold zff at hm
 refine dW 0 27 [.tmp 4] Tryz.func71 fun B=>?_
 refine qS ?_
 obtain ⟨r_3,hr_3,hm⟩:=zb hm
 obtain ⟨r_4,hr_4,hm⟩:=zb hm
 obtain ⟨r_5,hr_5,hm⟩:=zb hm
 obtain ⟨r_6,hr_6,hm⟩:=zb hm
 obtain ⟨r_7,hr_7,hm⟩:=zb hm
 refine Wp.seqD (plan:=pl [(0,none),(1,none),(2,none),(3,none),(4,none),(5,none),(6,none),(7,none),(8,none),(9,none),(10,none),(11,none),(12,none),(13,none),(14,none),(15,none),(16,none),(17,none),(18,none),(19,none),(20,some []),(21,none),(22,none)]) (by kernel_rfl) rfl (by kernel_rfl) fun K2 hK2=>?_
 simp only [go_sem,simprocAttr]
 try refine ⟨sd,?_⟩
 refine Dr.callF (av:=?av3) (g:=true) (o:=?o3) (fun hg=>zQ a_1.Major b_2.Major _ hr_3) si si si si sg si ?cont3
 simp only [go_sem,simprocAttr]
 try refine ⟨sd,?_⟩
 refine Dr.callF (av:=?av4) (g:=true) (o:=?o4) (fun hg=>zQ a_1.Minor b_2.Minor _ hr_4) si si si si sg si ?cont4
 simp only [go_sem,simprocAttr]
 try refine ⟨sd,?_⟩
 refine Dr.callF (av:=?av5) (g:=true) (o:=?o5) (fun hg=>zQ a_1.Patch b_2.Patch _ hr_5) si si si si sg si ?cont5
 simp only [go_sem,simprocAttr]
 try refine ⟨sd,?_⟩
 refine Dr.callF (av:=?av6) (g:=true) (o:=?o6) (fun hg=>zgn a_1.Early b_2.Early _ hr_6) si si si si sg si ?cont6
 simp only [go_sem,simprocAttr]
 try refine ⟨sd,?_⟩
 refine Dr.callF (av:=?av7) (g:=true) (o:=?o7) (fun hg=>zgT [r_3,r_4,r_5,r_6] _ hr_7) si si si si sg si ?cont7
 simp only [go_sem,simprocAttr]
 refine kA hK2 ?_
 refine Wp.ret ?_
 refine zc ?_
 cases hm
 exact zn
theorem zhZ (c_1:Int) (z:Bool) (hm:zdl c_1=some z):Does Tryz.prog 110 [.p (.i .u8 c_1)] [] (fun r X=>r=.p (.b z)∧X=[]):=by
 unfold zdl at hm
 refine dW 0 9 [.tmp 2] Tryz.func110 fun B=>?_
 refine qS ?_
 refine qS ?_
 refine Wp.ret ?_
 refine zc ?_
 cases hm
 exact zn
theorem zjF (s_2:Str) (most_3:Int) (z:Bool) (hm:zeL s_2 most_3=some z):Does Tryz.prog 57 [.p (.s s_2),.p (.i .i64 most_3),.fn 110 []] [] (fun r X=>r=.p (.b z)∧X=[]):=by
 unfold zeL at hm
 refine dW 0 28 [.tmp 6] Tryz.func57 fun B=>?_
 refine qS ?_
 refine Wp.seqW fun K2 hK2 hW2=>?_
 obtain ⟨k_4,hk_4,hm⟩:=zk hm
 have hcut2:∀ s,k_4 s=some z→K2 [(0,.p (.s s_2)),(1,.p (.i .i64 most_3))] []:=by
  intro s hs
  have hm:=hk_4 _ hs
  clear hs
  try dsimp only at hm
  try dsimp only
  refine hK2 _ _ ?_
  refine qS ?_
  refine Wp.ret ?_
  refine zc ?_
  cases hm
  exact zn
 clear hK2 hk_4
 refine qS ?_
 refine Wp.block ?_
 obtain ⟨k_7,hk_7,hm⟩:=zT hm
 refine Wp.fact 0 fun hl_6=>?_
 replace hl_6:s_2.length≤274877906944:=by
  simp only [go_sem,simprocAttr,List.length_map] at hl_6
  omega
 refine Wp.forL (fun i_5 s=>[(0,.p (.s s_2)),(1,.p (.i .i64 most_3)),(2,.fn 110 []),(7,.p (.i .i64 (i_5:Int)))]) (fun i_5 s=>[]) ?_ hm ?_
 ·
  exact zn
 clear hm
 intro i_5 s hii_5 hm
 try dsimp only at hm
 try dsimp only
 refine Wp.seqW fun K5 hK5 hW5=>?_
 refine qS ?_
 refine Wp.cond rfl ⟨⟩ (fun hc5=>?_) (fun hc5=>?_)
 rotate_left
 ·refine Wp.exit ?_
  have hm:=hk_7 _ (zaf hm (zbc (by first | exact hc5 | simpa using hc5)))
  try dsimp only at hm
  refine hW2 _ _ _ _ ?_ (hcut2 () hm)
  exact zn
 have hlt5:=zbb (by first | exact hc5 | simpa using hc5)
 have hw5:=zR hlt5 hl_6
 obtain ⟨c_1,nx_8,hxc_1,hyc_1,hnx_8,hm⟩:=zS hm hlt5
 clear hxc_1
 refine Wp.skip ?_
 simp only [zl]
 refine hK5 _ _ ?_
 refine Wp.seqW fun K7 hK7 hW7=>?_
 refine Wp.block ?_
 obtain ⟨r_9,hr_9,hm⟩:=zb hm
 refine Wp.seqR fun K8 hK8=>?_
 simp only [go_sem,simprocAttr,hw5,hyc_1]
 try refine ⟨sd,?_⟩
 refine Rg.callX (av:=?av9) (g:=true) (fun hg=>zhZ (c_1.toNat:Int) _ hr_9) (by simp only [go_sem,simprocAttr,hw5,hyc_1]; exact Is.mk) (by simp only [go_sem,simprocAttr,hw5,hyc_1]; exact Is.mk) (by simp only [go_sem,simprocAttr,hw5,hyc_1]; exact Is.mk) (by simp only [go_sem,simprocAttr,hw5,hyc_1]) (by simp only [go_sem,simprocAttr,hw5,hyc_1]; exact Is.mk) ?cont9
 intro hv9
 simp only [go_sem,simprocAttr,hw5,hyc_1]
 refine kA hK8 ?_
 refine cM hm (fun hc10 hm=>?_) (fun hc10 hm=>?_)
 ·refine Wp.seqR fun K11 hK11=>?_
  simp only [go_sem,simprocAttr,hw5,hyc_1]
  refine kA hK11 ?_
  refine Wp.ret ?_
  refine zc ?_
  cases hm
  simp only [go_sem,simprocAttr,hw5,hyc_1]
  try exact se3
 ·refine Wp.skip ?_
  refine hK7 _ _ ?_
  refine Wp.region fun K12 hK12=>?_
  simp only [go_sem,simprocAttr,hw5,hyc_1]
  refine kA hK12 ?_
  simp only [zl,zi,↓reduceIte]
  refine ⟨(),hlt5,hnx_8 _ hm,?_⟩
  simp only [go_sem,simprocAttr,hw5,hyc_1]
  try exact se3
theorem zjI (s_1:Str) (z:Bool) (hm:zdL s_1=some z):Does Tryz.prog 72 [.p (.s s_1)] [] (fun r X=>r=.p (.b z)∧X=[]):=by
 unfold zdL at hm
 refine dW 0 9 [.tmp 2] Tryz.func72 fun B=>?_
 refine qS ?_
 obtain ⟨r_2,hr_2,hm⟩:=z7 hm
 refine Wp.seqR fun K2 hK2=>?_
 simp only [go_sem,simprocAttr]
 try refine ⟨sd,?_⟩
 refine Rg.callX (av:=?av3) (g:=!(decide (s_1=[]))) (fun hg=>zjF s_1 1000 _ (hr_2 hg)) si si si sg si ?cont3
 intro hv3
 simp only [go_sem,simprocAttr]
 refine kA hK2 ?_
 refine Wp.ret ?_
 refine zc ?_
 cases hm
 exact zn
theorem zed (r_1:api_Record) (z:Int) (hm:zaU r_1=some z):Does Tryz.prog 35 [.agg [.p (.i .i64 r_1.Time),.p (.i .i64 r_1.Kind),.p (.s r_1.Pack),.p (.i .i64 r_1.From.Major),.p (.i .i64 r_1.From.Minor),.p (.i .i64 r_1.From.Patch),.p (.s r_1.From.Early),.p (.i .i64 r_1.To.Major),.p (.i .i64 r_1.To.Minor),.p (.i .i64 r_1.To.Patch),.p (.s r_1.To.Early),.p (.i .i64 r_1.Result),.p (.s r_1.Note)]] [] (fun r X=>r=.p (.i .i64 z)∧X=[]):=by
 unfold zaU at hm
 refine dW 0 94 [.tmp 2] Tryz.func35 fun B=>?_
 refine qS ?_
 refine Wp.seqW fun K2 hK2 hW2=>?_
 refine Wp.block ?_
 obtain ⟨r_3,hr_3,hm⟩:=zb hm
 refine Wp.seqR fun K3 hK3=>?_
 simp only [go_sem,simprocAttr]
 try refine ⟨sd,?_⟩
 refine Rg.callX (av:=?av4) (g:=true) (fun hg=>zel r_1.Time 0 1099511627776 _ hr_3) si si si sg si ?cont4
 intro hv4
 simp only [go_sem,simprocAttr]
 refine kA hK3 ?_
 refine cM hm (fun hc5 hm=>?_) (fun hc5 hm=>?_)
 ·refine qS ?_
  refine Wp.ret ?_
  refine zc ?_
  cases hm
  exact zn
 ·obtain ⟨r_4,hr_4,hm⟩:=zb hm
  refine Wp.seqR fun K7 hK7=>?_
  simp only [go_sem,simprocAttr]
  try refine ⟨sd,?_⟩
  refine Rg.callX (av:=?av8) (g:=true) (fun hg=>zel r_1.Kind 1 6 _ hr_4) si si si sg si ?cont8
  intro hv8
  simp only [go_sem,simprocAttr]
  refine kA hK7 ?_
  refine cM hm (fun hc9 hm=>?_) (fun hc9 hm=>?_)
  ·refine qS ?_
   refine Wp.ret ?_
   refine zc ?_
   cases hm
   exact zn
  ·obtain ⟨r_5,hr_5,hm⟩:=zb hm
   refine Wp.seqR fun K11 hK11=>?_
   simp only [go_sem,simprocAttr]
   try refine ⟨sd,?_⟩
   refine Rg.callX (av:=?av12) (g:=true) (fun hg=>zgP r_1.Pack _ hr_5) si si si sg si ?cont12
   intro hv12
   simp only [go_sem,simprocAttr]
   refine kA hK11 ?_
   refine cM hm (fun hc13 hm=>?_) (fun hc13 hm=>?_)
   ·refine qS ?_
    refine Wp.ret ?_
    refine zc ?_
    cases hm
    exact zn
   ·refine Wp.skip ?_
    refine hK2 _ _ ?_
    refine Wp.seqW fun K15 hK15 hW15=>?_
    obtain ⟨k_2,hk_2,hm⟩:=zk hm
    have hcut15:∀ s,k_2 s=some z→K15 [(1,.ptr 0 0)] [.cells 30 [.p (.i .i64 r_1.Time),.p (.i .i64 r_1.Kind),.p (.s r_1.Pack),.p (.i .i64 r_1.From.Major),.p (.i .i64 r_1.From.Minor),.p (.i .i64 r_1.From.Patch),.p (.s r_1.From.Early),.p (.i .i64 r_1.To.Major),.p (.i .i64 r_1.To.Minor),.p (.i .i64 r_1.To.Patch),.p (.s r_1.To.Early),.p (.i .i64 r_1.Result),.p (.s r_1.Note)]]:=by
     intro s hs
     have hm:=hk_2 _ hs
     clear hs
     try dsimp only at hm
     try dsimp only
     refine hK15 _ _ ?_
     obtain ⟨r_6,hr_6,hm⟩:=zb hm
     refine Wp.seqR fun K16 hK16=>?_
     simp only [go_sem,simprocAttr]
     try refine ⟨sd,?_⟩
     refine Rg.callX (av:=?av17) (g:=true) (fun hg=>ok_log_uses r_1.Kind _ hr_6) si si si sg si ?cont17
     intro hv17
     simp only [go_sem,simprocAttr]
     refine kA hK16 ?_
     refine qS ?_
     refine Wp.seqW fun K19 hK19 hW19=>?_
     refine qS ?_
     refine cM hm (fun hc21 hm=>?_) (fun hc21 hm=>?_)
     ·refine qS ?_
      refine Wp.ret ?_
      refine zc ?_
      cases hm
      exact zn
     ·refine Wp.skip ?_
      refine hK19 _ _ ?_
      obtain ⟨r_7,hr_7,hm⟩:=zb hm
      refine Wp.seqR fun K23 hK23=>?_
      simp only [go_sem,simprocAttr]
      try refine ⟨sd,?_⟩
      refine Rg.callX (av:=?av24) (g:=true) (fun hg=>ok_ver_Order r_1.From r_1.To _ hr_7) si si si sg si ?cont24
      intro hv24
      simp only [go_sem,simprocAttr]
      refine kA hK23 ?_
      refine Wp.seqW fun K25 hK25 hW25=>?_
      refine Wp.block ?_
      refine qS ?_
      refine cM hm (fun hc27 hm=>?_) (fun hc27 hm=>?_)
      ·refine qS ?_
       refine Wp.ret ?_
       refine zc ?_
       cases hm
       exact zn
      ·obtain ⟨r_8,hr_8,hm⟩:=zb hm
       refine Wp.seqR fun K29 hK29=>?_
       simp only [go_sem,simprocAttr]
       try refine ⟨sd,?_⟩
       refine Rg.callX (av:=?av30) (g:=true) (fun hg=>zel r_1.Result 0 18 _ hr_8) si si si sg si ?cont30
       intro hv30
       simp only [go_sem,simprocAttr]
       refine kA hK29 ?_
       refine cM hm (fun hc31 hm=>?_) (fun hc31 hm=>?_)
       ·refine qS ?_
        refine Wp.ret ?_
        refine zc ?_
        cases hm
        exact zn
       ·obtain ⟨r_9,hr_9,hm⟩:=zb hm
        refine Wp.seqR fun K33 hK33=>?_
        simp only [go_sem,simprocAttr]
        try refine ⟨sd,?_⟩
        refine Rg.callX (av:=?av34) (g:=true) (fun hg=>zjI r_1.Note _ hr_9) si si si sg si ?cont34
        intro hv34
        simp only [go_sem,simprocAttr]
        refine kA hK33 ?_
        refine cM hm (fun hc35 hm=>?_) (fun hc35 hm=>?_)
        ·refine qS ?_
         refine Wp.ret ?_
         refine zc ?_
         cases hm
         exact zn
        ·refine Wp.skip ?_
         refine hK25 _ _ ?_
         refine qS ?_
         refine Wp.ret ?_
         refine zc ?_
         cases hm
         exact zn
    clear hK15 hk_2
    refine qS ?_
    refine Wp.block ?_
    refine Wp.loopK 9 ?_
    simp only [WpL]
    refine qS ?_
    refine Wp.seqW fun K40 hK40 hW40=>?_
    refine Wp.cond rfl ⟨⟩ (fun hc41=>?_) (fun hc41=>?_)
    rotate_left
    ·cases hc41
    refine Wp.skip ?_
    refine hK40 _ _ ?_
    refine Wp.seqW fun K42 hK42 hW42=>?_
    refine Wp.block ?_
    refine qS ?_
    obtain ⟨r_10,hr_10,hm⟩:=zb hm
    refine Wp.seqR fun K44 hK44=>?_
    simp only [go_sem,simprocAttr]
    try refine ⟨sd,?_⟩
    refine Rg.callX (av:=?av45) (g:=true) (fun hg=>zea r_1.From _ hr_10) si si si sg si ?cont45
    intro hv45
    simp only [go_sem,simprocAttr]
    refine kA hK44 ?_
    refine qS ?_
    refine cM hm (fun hc47 hm=>?_) (fun hc47 hm=>?_)
    ·refine qS ?_
     refine Wp.ret ?_
     refine zc ?_
     cases hm
     exact zn
    ·refine Wp.skip ?_
     refine hK42 _ _ ?_
     refine qR ?_
     simp only [zl,zi,↓reduceIte]
     try simp only [WpL]
     refine qS ?_
     refine Wp.seqW fun K51 hK51 hW51=>?_
     refine Wp.cond rfl ⟨⟩ (fun hc52=>?_) (fun hc52=>?_)
     rotate_left
     ·cases hc52
     refine Wp.skip ?_
     refine hK51 _ _ ?_
     refine Wp.seqW fun K53 hK53 hW53=>?_
     refine Wp.block ?_
     refine qS ?_
     obtain ⟨r_11,hr_11,hm⟩:=zb hm
     refine Wp.seqR fun K55 hK55=>?_
     simp only [go_sem,simprocAttr]
     try refine ⟨sd,?_⟩
     refine Rg.callX (av:=?av56) (g:=true) (fun hg=>zea r_1.To _ hr_11) si si si sg si ?cont56
     intro hv56
     simp only [go_sem,simprocAttr]
     refine kA hK55 ?_
     refine qS ?_
     refine cM hm (fun hc58 hm=>?_) (fun hc58 hm=>?_)
     ·refine qS ?_
      refine Wp.ret ?_
      refine zc ?_
      cases hm
      exact zn
     ·refine Wp.skip ?_
      refine hK53 _ _ ?_
      refine qR ?_
      simp only [zl,zi,↓reduceIte]
      try simp only [WpL]
      refine qS ?_
      refine Wp.seqW fun K62 hK62 hW62=>?_
      refine Wp.cond rfl ⟨⟩ (fun hc63=>?_) (fun hc63=>?_)
      ·cases hc63
      refine Wp.exit ?_
      refine hW15 _ _ _ _ ?_ (hcut15 () hm)
      exact zn
theorem zfp (r_1:api_Record) (o0_1_5:Int) (m1_3:List (Str × log_had)) (z:Int) (hm:za4 r_1 o0_1_5 m1_3=some z):Does Tryz.prog 36 [.ptr 0 0,.agg [.p (.i .i64 r_1.Time),.p (.i .i64 r_1.Kind),.p (.s r_1.Pack),.p (.i .i64 r_1.From.Major),.p (.i .i64 r_1.From.Minor),.p (.i .i64 r_1.From.Patch),.p (.s r_1.From.Early),.p (.i .i64 r_1.To.Major),.p (.i .i64 r_1.To.Minor),.p (.i .i64 r_1.To.Patch),.p (.s r_1.To.Early),.p (.i .i64 r_1.Result),.p (.s r_1.Note)]] [.cells 99 [.mp 1,.p (.i .i64 o0_1_5)],.mp true (zcN Dt.s zm m1_3)] (fun r X=>r=.p (.i .i64 z)∧X=[.cells 99 [.mp 1,.p (.i .i64 o0_1_5)],.mp true (zcN Dt.s zm m1_3)]):=by
 unfold za4 at hm
 refine dW 2 55 [.tmp 4] Tryz.func36 fun B=>?_
 refine qS ?_
 refine Wp.seqW fun K2 hK2 hW2=>?_
 refine Wp.seqD (plan:=pl [(0,none),(1,none),(2,none),(3,none),(4,none),(5,none),(6,none)]) (by kernel_rfl) rfl (by kernel_rfl) fun K3 hK3=>?_
 simp only [go_sem,simprocAttr]
 refine kA hK3 ?_
 refine cM hm (fun hc4 hm=>?_) (fun hc4 hm=>?_)
 ·refine qS ?_
  refine Wp.ret ?_
  refine zc ?_
  cases hm
  exact zn
 ·refine Wp.skip ?_
  refine hK2 _ _ ?_
  obtain ⟨q_2,hq_4,hm⟩:=ze hm
  have hq_4d:=zke (e:=zm) keq_s m1_3 r_1.Pack (log_had.mk (api_Version.mk 0 0 0 []) 0)
  have hq_4s:=zkd (e:=zm) keq_s m1_3 r_1.Pack
  simp only [hq_4,zm,List.map_nil] at hq_4d hq_4s
  refine Wp.seqD (plan:=pl [(0,none),(1,none),(2,none),(3,none),(4,none),(5,none),(6,none),(7,none),(8,none),(9,none),(10,some [0,1,2,3,4,5,6,7,8,9]),(11,some [9]),(12,none)]) (by kernel_rfl) rfl (by kernel_rfl) fun K6 hK6=>?_
  simp only [go_sem,simprocAttr,hq_4d,hq_4s]
  refine kA hK6 ?_
  refine qS ?_
  refine Wp.seqW fun K8 hK8 hW8=>?_
  obtain ⟨k_6,hk_6,hm⟩:=zk hm
  have hcut8:∀ s,k_6 s=some z→K8 [(7,.p (.b s))] [.cells 99 [.mp 1,.p (.i .i64 o0_1_5)],.mp true (zcN Dt.s zm m1_3)]:=by
   intro bad_8 hs
   have hm:=hk_6 _ hs
   clear hs
   try dsimp only at hm
   try dsimp only
   refine hK8 _ _ ?_
   refine Wp.seqW fun K9 hK9 hW9=>?_
   refine qS ?_
   refine cM hm (fun hc11 hm=>?_) (fun hc11 hm=>?_)
   ·refine qS ?_
    refine Wp.ret ?_
    refine zc ?_
    cases hm
    exact zn
   ·refine Wp.skip ?_
    refine hK9 _ _ ?_
    refine qS ?_
    refine Wp.ret ?_
    refine zc ?_
    cases hm
    exact zn
  clear hK8 hk_6
  refine qS ?_
  refine Wp.block ?_
  refine qS ?_
  refine cM hm (fun hc16 hm=>?_) (fun hc16 hm=>?_)
  ·refine qR ?_
   refine hW8 _ _ _ _ ?_ (hcut8 q_2.isSome hm)
   exact zn
  ·refine Wp.seqW fun K18 hK18 hW18=>?_
   obtain ⟨k_7,hk_7,hm⟩:=zk hm
   have hcut18:∀ s,k_7 s=some z→K18 [(3,.ptr 2 0),(5,.ptr 3 0),(6,.p (.b q_2.isSome)),(7,.p (.b false)),(26,.p (.i .i64 r_1.Kind)),(30,.p (.b s))] [.cells 99 [.mp 1,.p (.i .i64 o0_1_5)],.mp true (zcN Dt.s zm m1_3),.cells 30 [.p (.i .i64 r_1.Time),.p (.i .i64 r_1.Kind),.p (.s r_1.Pack),.p (.i .i64 r_1.From.Major),.p (.i .i64 r_1.From.Minor),.p (.i .i64 r_1.From.Patch),.p (.s r_1.From.Early),.p (.i .i64 r_1.To.Major),.p (.i .i64 r_1.To.Minor),.p (.i .i64 r_1.To.Patch),.p (.s r_1.To.Early),.p (.i .i64 r_1.Result),.p (.s r_1.Note)],.cells 114 [.p (.i .i64 (((q_2.getD (log_had.mk (api_Version.mk 0 0 0 []) 0)).v).Major)),.p (.i .i64 (((q_2.getD (log_had.mk (api_Version.mk 0 0 0 []) 0)).v).Minor)),.p (.i .i64 (((q_2.getD (log_had.mk (api_Version.mk 0 0 0 []) 0)).v).Patch)),.p (.s (((q_2.getD (log_had.mk (api_Version.mk 0 0 0 []) 0)).v).Early)),.p (.i .i64 ((q_2.getD (log_had.mk (api_Version.mk 0 0 0 []) 0)).since))]]:=by
    intro t30_9 hs
    have hm:=hk_7 _ hs
    clear hs
    try dsimp only at hm
    try dsimp only
    refine hK18 _ _ ?_
    refine cM hm (fun hc19 hm=>?_) (fun hc19 hm=>?_)
    ·refine qR ?_
     refine hW8 _ _ _ _ ?_ (hcut8 ((!q_2.isSome) || (!((decide ((((q_2.getD (log_had.mk (api_Version.mk 0 0 0 []) 0)).v).Major)=r_1.From.Major)) && ((decide ((((q_2.getD (log_had.mk (api_Version.mk 0 0 0 []) 0)).v).Minor)=r_1.From.Minor)) && ((decide ((((q_2.getD (log_had.mk (api_Version.mk 0 0 0 []) 0)).v).Patch)=r_1.From.Patch)) && (decide ((((q_2.getD (log_had.mk (api_Version.mk 0 0 0 []) 0)).v).Early)=r_1.From.Early))))))) hm)
     exact zn
    ·refine qS ?_
     refine cM hm (fun hc22 hm=>?_) (fun hc22 hm=>?_)
     ·refine qR ?_
      refine hW8 _ _ _ _ ?_ (hcut8 ((!q_2.isSome) || (!((decide ((((q_2.getD (log_had.mk (api_Version.mk 0 0 0 []) 0)).v).Major)=r_1.To.Major)) && ((decide ((((q_2.getD (log_had.mk (api_Version.mk 0 0 0 []) 0)).v).Minor)=r_1.To.Minor)) && ((decide ((((q_2.getD (log_had.mk (api_Version.mk 0 0 0 []) 0)).v).Patch)=r_1.To.Patch)) && (decide ((((q_2.getD (log_had.mk (api_Version.mk 0 0 0 []) 0)).v).Early)=r_1.To.Early))))))) hm)
      exact zn
     ·refine Wp.skip ?_
      refine hW8 _ _ _ _ ?_ (hcut8 false hm)
      exact zn
   clear hK18 hk_7
   refine qS ?_
   refine cM hm (fun hc25 hm=>?_) (fun hc25 hm=>?_)
   ·refine Wp.skip ?_
    refine hW18 _ _ _ _ ?_ (hcut18 (decide (r_1.Kind=2)) hm)
    exact zn
   ·refine qS ?_
    refine cM hm (fun hc27 hm=>?_) (fun hc27 hm=>?_)
    ·refine Wp.skip ?_
     refine hW18 _ _ _ _ ?_ (hcut18 (decide (r_1.Kind=3)) hm)
     exact zn
    ·refine qR ?_
     refine hW18 _ _ _ _ ?_ (hcut18 (decide (r_1.Kind=4)) hm)
     exact zn
theorem zac (n:Int) (z:Str) (hm:strconv_Itoa n=some z):Does Tryz.prog 73 [.p (.i .i64 n)] [] (fun r X=>r=.p (.s z)∧X=[]):=by
 obtain ⟨⟨h1,h2⟩,h⟩:=zf hm
 cases h
 exact Does.itoa Tryz.itoaL ⟨_,Tryz.func73,by kernel_rfl,by kernel_rfl⟩ (b:=3) (by kernel_rfl) (tab_3.trans (by rw [show tabL_3=Go.Lib.pow10Tab by decide +kernel])) n h1 h2
theorem ze3  (z:List Str) (hm:zdu=some z):Does Tryz.prog 74 [] [] (fun r X=>r=.p (.l (List.map ecS z))∧X=[]):=by
 unfold zdu at hm
 refine dW 0 2 [.tmp 0] Tryz.func74 fun B=>?_
 refine qS ?_
 refine qS ?_
 refine Wp.ret ?_
 refine zgJ ?_
 cases hm
 exact zn
theorem ok_ver_text (v_1:api_Version) (z:Str) (hm:zfC v_1=some z):Does Tryz.prog 150 [.agg [.p (.i .i64 v_1.Major),.p (.i .i64 v_1.Minor),.p (.i .i64 v_1.Patch),.p (.s v_1.Early)]] [] (fun r X=>r=.p (.s z)∧X=[]):=by
 unfold zfC at hm
 refine dW 0 26 [.tmp 2] Tryz.func150 fun B=>?_
 refine qS ?_
 obtain ⟨r_2,hr_2,hm⟩:=zb hm
 obtain ⟨c_5,hm⟩:=zf hm
 obtain ⟨r_3,hr_3,hm⟩:=zb hm
 obtain ⟨c_6,hm⟩:=zf hm
 obtain ⟨c_7,hm⟩:=zf hm
 obtain ⟨r_4,hr_4,hm⟩:=zb hm
 obtain ⟨c_8,hm⟩:=zf hm
 refine Wp.seqD (plan:=pl [(0,none),(1,none),(2,none),(3,none),(4,none),(5,none),(6,none),(7,none),(8,none),(9,none),(10,none),(11,none),(12,none),(13,none)]) (by kernel_rfl) rfl (by kernel_rfl) fun K2 hK2=>?_
 simp only [go_sem,simprocAttr]
 try refine ⟨sL,?_⟩
 refine Dr.callF (av:=?av3) (g:=true) (o:=?o3) (fun hg=>zac v_1.Major _ hr_2) si si si si sg si ?cont3
 simp only [go_sem,simprocAttr]
 try refine ⟨sL,?_⟩
 refine Dr.callF (av:=?av4) (g:=true) (o:=?o4) (fun hg=>zac v_1.Minor _ hr_3) si si si si sg si ?cont4
 simp only [go_sem,simprocAttr]
 try refine ⟨sL,?_⟩
 refine Dr.callF (av:=?av5) (g:=true) (o:=?o5) (fun hg=>zac v_1.Patch _ hr_4) si si si si sg si ?cont5
 simp only [go_sem,simprocAttr]
 refine kA hK2 ?_
 refine Wp.seqW fun K6 hK6 hW6=>?_
 refine qS ?_
 refine cM hm (fun hc8 hm=>?_) (fun hc8 hm=>?_)
 ·obtain ⟨c_9,hm⟩:=zf hm
  obtain ⟨c_10,hm⟩:=zf hm
  refine Wp.region fun K9 hK9=>?_
  simp only [go_sem,simprocAttr]
  refine kA hK9 ?_
  refine hK6 _ _ ?_
  refine qS ?_
  refine Wp.ret ?_
  refine zc ?_
  cases hm
  exact zn
 ·refine Wp.skip ?_
  refine hK6 _ _ ?_
  refine qS ?_
  refine Wp.ret ?_
  refine zc ?_
  cases hm
  exact zn
theorem ok_ver_Print (v_1:api_Version) (z:Str × Int) (hm:zfd v_1=some z):Does Tryz.prog 112 [.agg [.p (.i .i64 v_1.Major),.p (.i .i64 v_1.Minor),.p (.i .i64 v_1.Patch),.p (.s v_1.Early)]] [] (fun r X=>r=.tup [.p (.s z.1),.p (.i .i64 z.2)]∧X=[]):=by
 unfold zfd at hm
 refine dW 0 12 [.tmp 2,.tmp 3] Tryz.func112 fun B=>?_
 refine qS ?_
 refine Wp.seqW fun K2 hK2 hW2=>?_
 obtain ⟨r_2,hr_2,hm⟩:=zb hm
 refine Wp.seqR fun K3 hK3=>?_
 simp only [go_sem,simprocAttr]
 try refine ⟨sd,?_⟩
 refine Rg.callX (av:=?av4) (g:=true) (fun hg=>zea v_1 _ hr_2) si si si sg si ?cont4
 intro hv4
 simp only [go_sem,simprocAttr]
 refine kA hK3 ?_
 refine qS ?_
 refine cM hm (fun hc6 hm=>?_) (fun hc6 hm=>?_)
 ·refine qS ?_
  refine Wp.ret ?_
  refine zc ?_
  cases hm
  exact zn
 ·refine Wp.skip ?_
  refine hK2 _ _ ?_
  obtain ⟨r_3,hr_3,hm⟩:=zb hm
  refine Wp.seqR fun K8 hK8=>?_
  simp only [go_sem,simprocAttr]
  try refine ⟨sd,?_⟩
  refine Rg.callX (av:=?av9) (g:=true) (fun hg=>ok_ver_text v_1 _ hr_3) si si si sg si ?cont9
  intro hv9
  simp only [go_sem,simprocAttr]
  refine kA hK8 ?_
  refine Wp.ret ?_
  refine zc ?_
  cases hm
  exact zn
theorem zec (v_1:api_Version) (z:Str) (hm:zbl v_1=some z):Does Tryz.prog 75 [.agg [.p (.i .i64 v_1.Major),.p (.i .i64 v_1.Minor),.p (.i .i64 v_1.Patch),.p (.s v_1.Early)]] [] (fun r X=>r=.p (.s z)∧X=[]):=by
 unfold zbl at hm
 refine dW 0 14 [.tmp 2] Tryz.func75 fun B=>?_
 refine qS ?_
 refine Wp.seqW fun K2 hK2 hW2=>?_
 refine qS ?_
 refine cM hm (fun hc4 hm=>?_) (fun hc4 hm=>?_)
 ·refine qS ?_
  refine Wp.ret ?_
  refine zc ?_
  cases hm
  exact zn
 ·refine Wp.skip ?_
  refine hK2 _ _ ?_
  obtain ⟨r_2,hr_2,hm⟩:=zb hm
  refine Wp.seqR fun K6 hK6=>?_
  simp only [go_sem,simprocAttr]
  try refine ⟨sd,?_⟩
  refine Rg.callX (av:=?av7) (g:=true) (fun hg=>ok_ver_Print v_1 _ hr_2) si si si sg si ?cont7
  intro hv7
  simp only [go_sem,simprocAttr]
  refine kA hK6 ?_
  refine qS ?_
  refine Wp.ret ?_
  refine zc ?_
  cases hm
  exact zn
end Go.Proofs.YtmnohdgjkcjdeaaGreatDoor
