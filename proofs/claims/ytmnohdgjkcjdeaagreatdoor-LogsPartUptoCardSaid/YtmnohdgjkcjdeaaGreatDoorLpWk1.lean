/- That the code does what the models say (part 1). -/
import Derived.Test.YtmnohdgjkcjdeaaGreatDoorLpWk0
set_option linter.unusedSimpArgs false
set_option linter.unusedVariables false
open Go.Proofs Go.Shelf
namespace Go.Proofs.YtmnohdgjkcjdeaaGreatDoor
open Go.Vc Go.Md
set_option maxRecDepth 100000
set_option maxHeartbeats 4000000
theorem zei (c_1:Int) (z:Bool) (hm:zbH c_1=some z):Does Tryz.prog 59 [.p (.i .u8 c_1)] [] (fun r X=>r=.p (.b z)∧X=[]):=by
 unfold zbH at hm
 refine dW 0 9 [.tmp 2] Tryz.func59 fun B=>?_
 refine qS ?_
 refine qS ?_
 refine Wp.ret ?_
 refine zc ?_
 cases hm
 exact fse1
theorem zej (c_1:Int) (z:Bool) (hm:zci c_1=some z):Does Tryz.prog 60 [.p (.i .u8 c_1)] [] (fun r X=>r=.p (.b z)∧X=[]):=by
 unfold zci at hm
 refine dW 0 9 [.tmp 2] Tryz.func60 fun B=>?_
 refine qS ?_
 refine qS ?_
 refine Wp.ret ?_
 refine zc ?_
 cases hm
 exact fse1
theorem ziN (c_1:Int) (z:Bool) (hm:zc7 c_1=some z):Does Tryz.prog 58 [.p (.i .u8 c_1)] [] (fun r X=>r=.p (.b z)∧X=[]):=by
 unfold zc7 at hm
 refine dW 0 17 [.tmp 2] Tryz.func58 fun B=>?_
 refine qS ?_
 obtain ⟨r_2,hr_2,hm⟩:=zb hm
 obtain ⟨r_3,hr_3,hm⟩:=z7 hm
 refine Wp.seqR fun K2 hK2=>?_
 simp only [go_sem,simprocAttr]
 try refine ⟨sd,?_⟩
 refine Rg.callX (av:=?av3) (g:=true) (fun hg=>zei c_1 _ hr_2) si si si sg si ?cont3
 intro hv3
 simp only [go_sem,simprocAttr]
 try refine ⟨sd,?_⟩
 refine Rg.callX (av:=?av4) (g:=!r_2) (fun hg=>zej c_1 _ (hr_3 hg)) si si si sg si ?cont4
 intro hv4
 simp only [go_sem,simprocAttr]
 refine kA hK2 ?_
 refine Wp.ret ?_
 refine zc ?_
 cases hm
 exact fse1
theorem zjH (s_2:Str) (most_3:Int) (z:Bool) (hm:zeM s_2 most_3=some z):Does Tryz.prog 57 [.p (.s s_2),.p (.i .i64 most_3),.fn 58 []] [] (fun r X=>r=.p (.b z)∧X=[]):=by
 unfold zeM at hm
 refine dW 0 28 [.tmp 6] Tryz.func57 fun B=>?_
 refine qS ?_
 refine Wp.seqW fun K2 hK2 hW2=>?_
 obtain ⟨k_4,hk_4,hm⟩:=zk hm
 have hcut2:∀ s,k_4 s=some z→K2 [(0,.p (.s s_2)),(1,.p (.i .i64 most_3))] []:=by
  intro s hs
  have hm:=hk_4 _ hs
  clear hs
  try dsimp only at hm
  try dsimp only
  refine hK2 _ _ ?_
  refine qS ?_
  refine Wp.ret ?_
  refine zc ?_
  cases hm
  exact fse1
 clear hK2 hk_4
 refine qS ?_
 refine Wp.block ?_
 obtain ⟨k_7,hk_7,hm⟩:=zT hm
 refine Wp.fact 0 fun hl_6=>?_
 replace hl_6:s_2.length≤274877906944:=by
  simp only [go_sem,simprocAttr,List.length_map] at hl_6
  omega
 refine Wp.forL (fun i_5 s=>[(0,.p (.s s_2)),(1,.p (.i .i64 most_3)),(2,.fn 58 []),(7,.p (.i .i64 (i_5:Int)))]) (fun i_5 s=>[]) ?_ hm ?_
 ·
  exact fse1
 clear hm
 intro i_5 s hii_5 hm
 try dsimp only at hm
 try dsimp only
 refine Wp.seqW fun K5 hK5 hW5=>?_
 refine qS ?_
 refine Wp.cond rfl ⟨⟩ (fun hc5=>?_) (fun hc5=>?_)
 rotate_left
 ·refine Wp.exit ?_
  have hm:=hk_7 _ (zaf hm (zbc (by first | exact hc5 | simpa using hc5)))
  try dsimp only at hm
  refine hW2 _ _ _ _ ?_ (hcut2 () hm)
  exact fse1
 have hlt5:=zbb (by first | exact hc5 | simpa using hc5)
 have hw5:=zR hlt5 hl_6
 obtain ⟨c_1,nx_8,hxc_1,hyc_1,hnx_8,hm⟩:=zS hm hlt5
 clear hxc_1
 refine Wp.skip ?_
 simp only [zl]
 refine hK5 _ _ ?_
 refine Wp.seqW fun K7 hK7 hW7=>?_
 refine Wp.block ?_
 obtain ⟨r_9,hr_9,hm⟩:=zb hm
 refine Wp.seqR fun K8 hK8=>?_
 simp only [go_sem,simprocAttr,hw5,hyc_1]
 try refine ⟨sd,?_⟩
 refine Rg.callX (av:=?av9) (g:=true) (fun hg=>ziN (c_1.toNat:Int) _ hr_9) (by simp only [go_sem,simprocAttr,hw5,hyc_1]; exact Is.mk) (by simp only [go_sem,simprocAttr,hw5,hyc_1]; exact Is.mk) (by simp only [go_sem,simprocAttr,hw5,hyc_1]; exact Is.mk) (by simp only [go_sem,simprocAttr,hw5,hyc_1]) (by simp only [go_sem,simprocAttr,hw5,hyc_1]; exact Is.mk) ?cont9
 intro hv9
 simp only [go_sem,simprocAttr,hw5,hyc_1]
 refine kA hK8 ?_
 refine cM hm (fun hc10 hm=>?_) (fun hc10 hm=>?_)
 ·refine Wp.seqR fun K11 hK11=>?_
  simp only [go_sem,simprocAttr,hw5,hyc_1]
  refine kA hK11 ?_
  refine Wp.ret ?_
  refine zc ?_
  cases hm
  simp only [go_sem,simprocAttr,hw5,hyc_1]
  try exact se1
 ·refine Wp.skip ?_
  refine hK7 _ _ ?_
  refine Wp.region fun K12 hK12=>?_
  simp only [go_sem,simprocAttr,hw5,hyc_1]
  refine kA hK12 ?_
  simp only [zl,zi,↓reduceIte]
  refine ⟨(),hlt5,hnx_8 _ hm,?_⟩
  simp only [go_sem,simprocAttr,hw5,hyc_1]
  try exact se1
theorem zgP (s_1:Str) (z:Bool) (hm:zdz s_1=some z):Does Tryz.prog 26 [.p (.s s_1)] [] (fun r X=>r=.p (.b z)∧X=[]):=by
 unfold zdz at hm
 refine dW 0 10 [.tmp 2] Tryz.func26 fun B=>?_
 refine qS ?_
 obtain ⟨r_2,hr_2,hm⟩:=zb hm
 obtain ⟨c_4,hm⟩:=zf hm
 obtain ⟨r_3,hr_3,hm⟩:=z7 hm
 refine Wp.seqR fun K2 hK2=>?_
 simp only [go_sem,simprocAttr]
 try refine ⟨sL,?_⟩
 refine Rg.callX (av:=?av3) (g:=true) (fun hg=>zjH s_1 40 _ hr_2) si si si sg si ?cont3
 intro hv3
 simp only [go_sem,simprocAttr]
 try refine ⟨sL,?_⟩
 refine Rg.callX (av:=?av4) (g:=r_2) (fun hg=>zei ((s_1.getD 0 0).toNat:Int) _ (hr_3 hg)) si si si sg si ?cont4
 intro hv4
 simp only [go_sem,simprocAttr]
 refine kA hK2 ?_
 refine Wp.ret ?_
 refine zc ?_
 cases hm
 exact fse1
theorem zkV  (z:Bool) (hm:zeH=some z):Does Tryz.prog 7 [] [] (fun r X=>r=.p (.b z)∧X=[]):=by
 unfold zeH at hm
 refine dW 0 2 [.tmp 0] Tryz.func7 fun B=>?_
 refine qS ?_
 obtain ⟨r_1,hr_1,hm⟩:=zb hm
 refine Wp.seqR fun K2 hK2=>?_
 simp only [go_sem,simprocAttr]
 try refine ⟨sd,?_⟩
 refine Rg.callX (av:=?av3) (g:=true) (fun hg=>zgP ([97]:Str) _ hr_1) si si si sg si ?cont3
 intro hv3
 simp only [go_sem,simprocAttr]
 refine kA hK2 ?_
 refine Wp.ret ?_
 refine zc ?_
 cases hm
 exact fse1
theorem ziP  (z:(List (Str × log_had)) × Int) (hm:zfs=some z):Does Tryz.prog 27 [] [] (fun r X=>r=.ptr 1 0∧X=[.mp true (zcN Dt.s zm z.1),.cells 99 [.mp 0,.p (.i .i64 z.2)]]):=by
 unfold zfs at hm
 refine dW 2 4 [.tmp 0] Tryz.func27 fun B=>?_
 refine qS ?_
 refine qS ?_
 refine Wp.ret ?_
 refine zc ?_
 cases hm
 exact zb7
theorem ok_log_New  (z:(List (Str × log_had)) × Int × Str) (hm:zk3=some z):Does Tryz.prog 8 [] [] (fun r X=>r=.ptr 2 0∧X=[.mp true (zcN Dt.s zm z.1),.cells 99 [.mp 0,.p (.i .i64 z.2.1)],.cells 63 [.nils,.nils,.p (.s z.2.2),.ptr 1 0]]):=by
 unfold zk3 at hm
 refine dW 3 4 [.tmp 0] Tryz.func8 fun B=>?_
 refine qS ?_
 obtain ⟨r_1,hr_1,hm⟩:=zb hm
 refine Wp.seqR fun K2 hK2=>?_
 simp only [go_sem,simprocAttr]
 try refine ⟨sd,?_⟩
 refine Rg.callO (av:=?av3) [] (ziP  _ hr_1) si si si sg sg ?cont3
 rintro _ _ ⟨rfl,rfl⟩ hv3
 simp only [go_sem,simprocAttr]
 refine kA hK2 ?_
 refine Wp.ret ?_
 refine zc ?_
 cases hm
 exact zb7
theorem zeu (bad_1:Bool) (e_2:Int) (z:Int) (hm:zgb bad_1 e_2=some z):Does Tryz.prog 29 [.p (.b bad_1),.p (.i .i64 e_2)] [] (fun r X=>r=.p (.i .i64 z)∧X=[]):=by
 unfold zgb at hm
 refine dW 0 7 [.tmp 4] Tryz.func29 fun B=>?_
 refine qS ?_
 refine Wp.seqW fun K2 hK2 hW2=>?_
 refine qS ?_
 refine cM hm (fun hc4 hm=>?_) (fun hc4 hm=>?_)
 ·refine qS ?_
  refine Wp.ret ?_
  refine zc ?_
  cases hm
  exact zb7
 ·refine Wp.skip ?_
  refine hK2 _ _ ?_
  refine qS ?_
  refine Wp.ret ?_
  refine zc ?_
  cases hm
  exact zb7
theorem ok_R_IsName (s_2:Str) (z:Bool) (hm:zg9 s_2=some z):Does Tryz.prog 30 [.p (.s s_2)] [] (fun r X=>r=.p (.b z)∧X=[]):=by
 unfold zg9 at hm
 refine dW 0 54 [.tmp 2] Tryz.func30 fun B=>?_
 refine qS ?_
 refine Wp.seqW fun K2 hK2 hW2=>?_
 obtain ⟨k_3,hk_3,hm⟩:=zk hm
 have hcut2:∀ s,k_3 s=some z→K2 [(0,.p (.s s_2))] []:=by
  intro s hs
  have hm:=hk_3 _ hs
  clear hs
  try dsimp only at hm
  try dsimp only
  refine hK2 _ _ ?_
  refine qS ?_
  refine Wp.ret ?_
  refine zc ?_
  cases hm
  exact zb7
 clear hK2 hk_3
 refine qS ?_
 refine Wp.block ?_
 obtain ⟨k_6,hk_6,hm⟩:=zT hm
 refine Wp.fact 0 fun hl_5=>?_
 replace hl_5:s_2.length≤274877906944:=by
  simp only [go_sem,simprocAttr,List.length_map] at hl_5
  omega
 refine Wp.forL (fun i_4 s=>[(0,.p (.s s_2)),(7,.p (.i .i64 (s_2.length:Int))),(8,.p (.i .i64 (i_4:Int)))]) (fun i_4 s=>[]) ?_ hm ?_
 ·
  exact zb7
 clear hm
 intro i_4 s hii_4 hm
 try dsimp only at hm
 try dsimp only
 refine qS ?_
 refine Wp.seqW fun K6 hK6 hW6=>?_
 refine Wp.cond rfl ⟨⟩ (fun hc6=>?_) (fun hc6=>?_)
 rotate_left
 ·refine Wp.exit ?_
  have hm:=hk_6 _ (zaf hm (zbc (by first | exact hc6 | simpa using hc6)))
  try dsimp only at hm
  refine hW2 _ _ _ _ ?_ (hcut2 () hm)
  exact zb7
 have hlt6:=zbb (by first | exact hc6 | simpa using hc6)
 have hw6:=zR hlt6 hl_5
 obtain ⟨c_1,nx_7,hxc_1,hyc_1,hnx_7,hm⟩:=zS hm hlt6
 clear hxc_1
 refine Wp.skip ?_
 simp only [zl]
 refine hK6 _ _ ?_
 refine Wp.seqW fun K7 hK7 hW7=>?_
 refine Wp.block ?_
 refine Wp.seqR fun K8 hK8=>?_
 simp only [go_sem,simprocAttr,hw6,hyc_1]
 refine kA hK8 ?_
 refine Wp.seqR fun K9 hK9=>?_
 simp only [go_sem,simprocAttr,hw6,hyc_1]
 refine kA hK9 ?_
 refine Wp.seqR fun K10 hK10=>?_
 simp only [go_sem,simprocAttr,hw6,hyc_1]
 refine kA hK10 ?_
 refine Wp.seqR fun K11 hK11=>?_
 simp only [go_sem,simprocAttr,hw6,hyc_1]
 refine kA hK11 ?_
 refine cM hm (fun hc12 hm=>?_) (fun hc12 hm=>?_)
 ·refine Wp.seqR fun K13 hK13=>?_
  simp only [go_sem,simprocAttr,hw6,hyc_1]
  refine kA hK13 ?_
  refine Wp.ret ?_
  refine zc ?_
  cases hm
  simp only [go_sem,simprocAttr,hw6,hyc_1]
  try exact se2
 ·refine Wp.skip ?_
  refine hK7 _ _ ?_
  refine Wp.region fun K14 hK14=>?_
  simp only [go_sem,simprocAttr,hw6,hyc_1]
  refine kA hK14 ?_
  simp only [zl,zi,↓reduceIte]
  refine ⟨(),hlt6,hnx_7 _ hm,?_⟩
  simp only [go_sem,simprocAttr,hw6,hyc_1]
  try exact se2
theorem zfF (l_2:List Int) (z:Int) (hm:zgA l_2=some z):Does Tryz.prog 28 [.p (.l (List.map zaK l_2))] [] (fun r X=>r=.p (.i .i64 z)∧X=[]):=by
 unfold zgA at hm
 refine dW 0 15 [.tmp 2] Tryz.func28 fun B=>?_
 refine qS ?_
 refine Wp.seqW fun K2 hK2 hW2=>?_
 obtain ⟨k_3,hk_3,hm⟩:=zk hm
 have hcut2:∀ s,k_3 s=some z→K2 [] []:=by
  intro s hs
  have hm:=hk_3 _ hs
  clear hs
  try dsimp only at hm
  try dsimp only
  refine hK2 _ _ ?_
  refine qS ?_
  refine Wp.ret ?_
  refine zc ?_
  cases hm
  exact zb7
 clear hK2 hk_3
 refine qS ?_
 refine Wp.block ?_
 obtain ⟨k_6,hk_6,hm⟩:=zT hm
 refine Wp.fact 5 fun hl_5=>?_
 replace hl_5:l_2.length≤274877906944:=by
  simp only [go_sem,simprocAttr,List.length_map] at hl_5
  omega
 refine Wp.forL (fun i_4 s=>[(5,.p (.l (List.map zaK l_2))),(6,.p (.i .i64 (l_2.length:Int))),(7,.p (.i .i64 (i_4:Int)))]) (fun i_4 s=>[]) ?_ hm ?_
 ·
  exact zb7
 clear hm
 intro i_4 s hii_4 hm
 try dsimp only at hm
 try dsimp only
 refine qS ?_
 refine Wp.seqW fun K6 hK6 hW6=>?_
 refine Wp.cond rfl ⟨⟩ (fun hc6=>?_) (fun hc6=>?_)
 rotate_left
 ·refine Wp.exit ?_
  have hm:=hk_6 _ (zaf hm (zbc (by first | exact hc6 | simpa using hc6)))
  try dsimp only at hm
  refine hW2 _ _ _ _ ?_ (hcut2 () hm)
  exact zb7
 have hlt6:=zbb (by first | exact hc6 | simpa using hc6)
 have hw6:=zR hlt6 hl_5
 obtain ⟨e_1,nx_7,hxe_1,hye_1,hnx_7,hm⟩:=zS hm hlt6
 replace hxe_1:=hxe_1 zaK
 refine Wp.skip ?_
 simp only [zl]
 refine hK6 _ _ ?_
 refine Wp.seqW fun K7 hK7 hW7=>?_
 refine Wp.block ?_
 refine Wp.seqR fun K8 hK8=>?_
 simp only [go_sem,simprocAttr,hw6,hxe_1]
 refine kA hK8 ?_
 refine Wp.seqR fun K9 hK9=>?_
 simp only [go_sem,simprocAttr,hw6,hxe_1]
 refine kA hK9 ?_
 refine cM hm (fun hc10 hm=>?_) (fun hc10 hm=>?_)
 ·refine Wp.seqR fun K11 hK11=>?_
  simp only [go_sem,simprocAttr,hw6,hxe_1]
  refine kA hK11 ?_
  refine Wp.ret ?_
  refine zc ?_
  cases hm
  simp only [go_sem,simprocAttr,hw6,hxe_1]
  try exact se2
 ·refine Wp.skip ?_
  refine hK7 _ _ ?_
  refine Wp.region fun K12 hK12=>?_
  simp only [go_sem,simprocAttr,hw6,hxe_1]
  refine kA hK12 ?_
  simp only [zl,zi,↓reduceIte]
  refine ⟨(),hlt6,hnx_7 _ hm,?_⟩
  simp only [go_sem,simprocAttr,hw6,hxe_1]
  try exact se2
theorem ok_R_In (n_1:Int) (low_2:Int) (high_3:Int) (z:Bool) (hm:R_In n_1 low_2 high_3=some z):Does Tryz.prog 61 [.p (.i .i64 n_1),.p (.i .i64 low_2),.p (.i .i64 high_3)] [] (fun r X=>r=.p (.b z)∧X=[]):=by
 unfold R_In at hm
 refine dW 0 15 [.tmp 6] Tryz.func61 fun B=>?_
 refine qS ?_
 refine qS ?_
 refine Wp.ret ?_
 refine zc ?_
 cases hm
 exact zb7
theorem za2 (s_1:Str) (c_2:Int) (z:Int) (hm:zN s_1 c_2=some z):Does Tryz.prog 159 [.p (.s s_1),.p (.i .u8 c_2)] [] (fun r X=>r=.p (.i .i64 z)∧X=[]):=by
 unfold zN at hm
 refine dW 0 8 [.tmp 4] Tryz.func159 fun B=>?_
 refine qS ?_
 have hb_3:=ixByte_bd s_1 c_2
 refine Wp.seqR fun K2 hK2=>?_
 simp only [go_sem,simprocAttr]
 try refine ⟨sd,?_⟩
 refine Rg.callN (av:=?av3) (g:=true) (fun hg=>nv_182 s_1 c_2) si si si sg si ?cont3
 intro hv3
 simp only [go_sem,simprocAttr]
 refine kA hK2 ?_
 refine Wp.ret ?_
 refine zc ?_
 cases hm
 exact zb7
theorem zbu (s_2:Str) (substr_3:Str) (z:Int) (hm:zU s_2 substr_3=some z):Does Tryz.prog 119 [.p (.s s_2),.p (.s substr_3)] [] (fun r X=>r=.p (.i .i64 z)∧X=[]):=by
 unfold zU at hm
 refine dW 0 143 [.tmp 4] Tryz.func119 fun B=>?_
 refine qS ?_
 refine qS ?_
 refine Wp.seqW fun K3 hK3 hW3=>?_
 refine Wp.block ?_
 refine qS ?_
 refine cM hm (fun hc5 hm=>?_) (fun hc5 hm=>?_)
 ·refine qS ?_
  refine Wp.ret ?_
  refine zc ?_
  cases hm
  exact zb7
 ·refine qS ?_
  refine cM hm (fun hc8 hm=>?_) (fun hc8 hm=>?_)
  ·obtain ⟨c_1,hbc_1,hxc_1,hm⟩:=zai hm
   replace hxc_1:((substr_3.getD 0 0).toNat:Int)=c_1:=hxc_1
   obtain ⟨r_4,hr_4,hm⟩:=zb hm
   refine Wp.seqR fun K9 hK9=>?_
   simp only [go_sem,simprocAttr,hxc_1]
   try refine ⟨sd,?_⟩
   refine Rg.callX (av:=?av10) (g:=true) (fun hg=>za2 s_2 c_1 _ hr_4) (by simp only [go_sem,simprocAttr,hxc_1]; exact Is.mk) (by simp only [go_sem,simprocAttr,hxc_1]; exact Is.mk) (by simp only [go_sem,simprocAttr,hxc_1]; exact Is.mk) (by simp only [go_sem,simprocAttr,hxc_1]) (by simp only [go_sem,simprocAttr,hxc_1]; exact Is.mk) ?cont10
   intro hv10
   simp only [go_sem,simprocAttr,hxc_1]
   refine kA hK9 ?_
   refine Wp.ret ?_
   refine zc ?_
   cases hm
   simp only [go_sem,simprocAttr,hxc_1]
   try exact se2
  ·refine qS ?_
   refine cM hm (fun hc12 hm=>?_) (fun hc12 hm=>?_)
   ·refine qS ?_
    refine Wp.ret ?_
    refine zc ?_
    cases hm
    exact zb7
   ·cases hm
theorem zcc (s_1:Str) (substr_2:Str) (z:Int) (hm:zaZ s_1 substr_2=some z):Does Tryz.prog 125 [.p (.s s_1),.p (.s substr_2)] [] (fun r X=>r=.p (.i .i64 z)∧X=[]):=by
 unfold zaZ at hm
 refine dW 0 8 [.tmp 4] Tryz.func125 fun B=>?_
 refine qS ?_
 obtain ⟨r_3,hr_3,hm⟩:=zb hm
 refine Wp.seqR fun K2 hK2=>?_
 simp only [go_sem,simprocAttr]
 try refine ⟨sd,?_⟩
 refine Rg.callX (av:=?av3) (g:=true) (fun hg=>zbu s_1 substr_2 _ hr_3) si si si sg si ?cont3
 intro hv3
 simp only [go_sem,simprocAttr]
 refine kA hK2 ?_
 refine Wp.ret ?_
 refine zc ?_
 cases hm
 exact zb7
theorem zh0 (s_3:Str) (substr_2:Str) (z:Int) (hm:zcw s_3 substr_2=some z):Does Tryz.prog 131 [.p (.s s_3),.p (.s substr_2)] [] (fun r X=>r=.p (.i .i64 z)∧X=[]):=by
 unfold zcw at hm
 refine dW 0 34 [.tmp 4] Tryz.func131 fun B=>?_
 refine qS ?_
 refine Wp.seqW fun K2 hK2 hW2=>?_
 refine qS ?_
 refine cM hm (fun hc4 hm=>?_) (fun hc4 hm=>?_)
 ·cases hm
 ·refine Wp.skip ?_
  refine hK2 _ _ ?_
  refine Wp.seqW fun K5 hK5 hW5=>?_
  refine qS ?_
  refine cM hm (fun hc7 hm=>?_) (fun hc7 hm=>?_)
  ·obtain ⟨c_1,hbc_1,hxc_1,hm⟩:=zai hm
   replace hxc_1:((substr_2.getD 0 0).toNat:Int)=c_1:=hxc_1
   have hb_8:=zkq s_3 c_1
   refine Wp.seqR fun K8 hK8=>?_
   simp only [go_sem,simprocAttr,hxc_1]
   try refine ⟨sd,?_⟩
   refine Rg.callN (av:=?av9) (g:=true) (fun hg=>nv_170 s_3 c_1) (by simp only [go_sem,simprocAttr,hxc_1]; exact Is.mk) (by simp only [go_sem,simprocAttr,hxc_1]; exact Is.mk) (by simp only [go_sem,simprocAttr,hxc_1]; exact Is.mk) (by simp only [go_sem,simprocAttr,hxc_1]) (by simp only [go_sem,simprocAttr,hxc_1]; exact Is.mk) ?cont9
   intro hv9
   simp only [go_sem,simprocAttr,hxc_1]
   refine kA hK8 ?_
   refine Wp.ret ?_
   refine zc ?_
   cases hm
   simp only [go_sem,simprocAttr,hxc_1]
   try exact se2
  ·refine Wp.skip ?_
   refine hK5 _ _ ?_
   refine qS ?_
   refine Wp.block ?_
   obtain ⟨k_6,hk_6,hm⟩:=zB hm
   refine Wp.loopN (fun s=>[(0,.p (.s s.1)),(1,.p (.s substr_2)),(4,.p (.i .i64 0)),(5,.p (.i .i64 s.2))]) (fun s=>[]) ?_ hm ?_
   ·
    exact zb7
   clear hm
   intro s nx_9 hm
   obtain ⟨s_5,n_7⟩:=s
   try dsimp only at hm
   try dsimp only
   refine Wp.block ?_
   obtain ⟨r_4,hr_4,hm⟩:=zb hm
   refine Wp.seqR fun K11 hK11=>?_
   simp only [go_sem,simprocAttr]
   try refine ⟨sd,?_⟩
   refine Rg.callX (av:=?av12) (g:=true) (fun hg=>zcc s_5 substr_2 _ hr_4) si si si sg si ?cont12
   intro hv12
   simp only [go_sem,simprocAttr]
   refine kA hK11 ?_
   refine Wp.seqW fun K13 hK13 hW13=>?_
   refine qS ?_
   refine cM hm (fun hc15 hm=>?_) (fun hc15 hm=>?_)
   ·refine qS ?_
    refine Wp.ret ?_
    refine zc ?_
    cases hm
    exact zb7
   ·refine Wp.skip ?_
    refine hK13 _ _ ?_
    refine qS ?_
    obtain ⟨c_10,hm⟩:=zf hm
    refine Wp.region fun K18 hK18=>?_
    simp only [go_sem,simprocAttr]
    refine kA hK18 ?_
    simp only [zl,zi,↓reduceIte]
    refine ⟨(List.drop ((IntKind.i64.wrap (r_4+(substr_2.length:Int))).toNat) s_5,IntKind.i64.wrap (n_7+1)),hm,?_⟩
    exact zb7
theorem zdP (s_2:Str) (sep_1:Str) (sepSave_3:Int) (n_9:Int) (z:List Str) (hm:zav s_2 sep_1 sepSave_3 n_9=some z):Does Tryz.prog 100 [.p (.s s_2),.p (.s sep_1),.p (.i .i64 sepSave_3),.p (.i .i64 n_9)] [] (fun r X=>r=.p (.l (List.map ecS z))∧X=[]):=by
 unfold zav at hm
 refine dW 0 66 [.tmp 8] Tryz.func100 fun B=>?_
 refine qS ?_
 refine Wp.seqW fun K2 hK2 hW2=>?_
 refine qS ?_
 refine cM hm (fun hc4 hm=>?_) (fun hc4 hm=>?_)
 ·refine qS ?_
  refine Wp.ret ?_
  simp only [zl,zi]
  refine zgJ ?_
  cases hm
  exact zb7
 ·refine Wp.skip ?_
  refine hK2 _ _ ?_
  refine Wp.seqW fun K6 hK6 hW6=>?_
  refine qS ?_
  refine cM hm (fun hc8 hm=>?_) (fun hc8 hm=>?_)
  ·cases hm
  ·refine Wp.skip ?_
   refine hK6 _ _ ?_
   refine Wp.seqW fun K9 hK9 hW9=>?_
   obtain ⟨k_5,hk_5,hm⟩:=zk hm
   have hcut9:∀ s,k_5 s=some z→K9 [(0,.p (.s s_2)),(1,.p (.s sep_1)),(2,.p (.i .i64 sepSave_3)),(3,.p (.i .i64 s))] []:=by
    intro n_13 hs
    have hm:=hk_5 _ hs
    clear hs
    try dsimp only at hm
    try dsimp only
    refine hK9 _ _ ?_
    refine qS ?_
    obtain ⟨c_14,hm⟩:=zf hm
    refine Wp.seqR fun K11 hK11=>?_
    simp only [go_sem,simprocAttr]
    refine kA hK11 ?_
    refine qS ?_
    refine qS ?_
    refine Wp.seqW fun K14 hK14 hW14=>?_
    obtain ⟨k_6,hk_6,hm⟩:=zk hm
    have hcut14:∀ s,k_6 s=some z→K14 [(0,.p (.s s.1)),(9,.buf 0),(10,.p (.i .i64 s.2.1))] [.buf 9 1 (List.map ecS s.2.2)]:=by
     intro s hs
     have hm:=hk_6 _ hs
     clear hs
     obtain ⟨s_15,i_16,o0_17⟩:=s
     try dsimp only at hm
     try dsimp only
     refine hK14 _ _ ?_
     obtain ⟨c_18,hm⟩:=zf hm
     refine Wp.seqR fun K15 hK15=>?_
     simp only [go_sem,simprocAttr]
     refine kA hK15 ?_
     refine Wp.freeze 0 (by simp only [go_sem,simprocAttr]; exact Is.mk) (by first | (simp only [go_sem,simprocAttr]; done) | (simp only [go_sem,simprocAttr]; omega)) ?_
     simp only [go_sem,simprocAttr]
     obtain ⟨c_19,hm⟩:=zf hm
     refine Wp.seqR fun K16 hK16=>?_
     simp only [go_sem,simprocAttr]
     refine kA hK16 ?_
     refine Wp.ret ?_
     refine zc ?_
     cases hm
     exact zb7
    clear hK14 hk_6
    refine Wp.block ?_
    obtain ⟨k_10,hk_10,hm⟩:=zB hm
    refine Wp.loopN (fun s=>[(0,.p (.s s.1)),(1,.p (.s sep_1)),(2,.p (.i .i64 sepSave_3)),(3,.p (.i .i64 (IntKind.i64.wrap ((min n_13 (IntKind.i64.wrap ((s_2.length:Int)+1))) - 1)))),(9,.buf 0),(10,.p (.i .i64 s.2.1))]) (fun s=>[.buf 9 1 (List.map ecS s.2.2)]) ?_ hm ?_
    ·
     exact zb7
    clear hm
    intro s nx_20 hm
    obtain ⟨s_4,i_7,o0_11⟩:=s
    try dsimp only at hm
    try dsimp only
    refine Wp.seqW fun K17 hK17 hW17=>?_
    refine qS ?_
    refine cM hm (fun hc19 hm=>?_) (fun hc19 hm=>?_)
    ·refine Wp.skip ?_
     refine hK17 _ _ ?_
     refine Wp.block ?_
     obtain ⟨r_8,hr_8,hm⟩:=zb hm
     refine Wp.seqR fun K20 hK20=>?_
     simp only [go_sem,simprocAttr]
     try refine ⟨sd,?_⟩
     refine Rg.callX (av:=?av21) (g:=true) (fun hg=>zcc s_4 sep_1 _ hr_8) si si si sg si ?cont21
     intro hv21
     simp only [go_sem,simprocAttr]
     refine kA hK20 ?_
     refine Wp.seqW fun K22 hK22 hW22=>?_
     refine qS ?_
     refine cM hm (fun hc24 hm=>?_) (fun hc24 hm=>?_)
     ·refine Wp.exit ?_
      simp only [zl,zi,↓reduceIte]
      have hm:=hk_10 _ hm
      try dsimp only at hm
      refine hW14 _ _ _ _ ?_ (hcut14 (s_4,i_7,o0_11) hm)
      exact zb7
     ·refine Wp.skip ?_
      refine hK22 _ _ ?_
      obtain ⟨c_21,hm⟩:=zf hm
      obtain ⟨c_22,hm⟩:=zf hm
      refine Wp.seqR fun K25 hK25=>?_
      simp only [go_sem,simprocAttr]
      refine kA hK25 ?_
      obtain ⟨c_23,hm⟩:=zf hm
      refine Wp.seqR fun K26 hK26=>?_
      simp only [go_sem,simprocAttr]
      refine kA hK26 ?_
      refine qR ?_
      simp only [zl,zi,↓reduceIte]
      refine ⟨(List.drop ((IntKind.i64.wrap (r_8+(sep_1.length:Int))).toNat) s_4,IntKind.i64.wrap (i_7+1),List.set o0_11 i_7.toNat (List.take ((IntKind.i64.wrap (r_8+sepSave_3)).toNat) s_4)),hm,?_⟩
      exact zb7
    ·refine Wp.exit ?_
     simp only [zl,zi,↓reduceIte]
     have hm:=hk_10 _ hm
     try dsimp only at hm
     refine hW14 _ _ _ _ ?_ (hcut14 (s_4,i_7,o0_11) hm)
     exact zb7
   clear hK9 hk_5
   refine qS ?_
   refine cM hm (fun hc29 hm=>?_) (fun hc29 hm=>?_)
   ·obtain ⟨r_12,hr_12,hm⟩:=zb hm
    refine Wp.region fun K30 hK30=>?_
    simp only [go_sem,simprocAttr]
    try refine ⟨sd,?_⟩
    refine Rg.callX (av:=?av31) (g:=true) (fun hg=>zh0 s_2 sep_1 _ hr_12) si si si sg si ?cont31
    intro hv31
    simp only [go_sem,simprocAttr]
    refine kA hK30 ?_
    refine hW9 _ _ _ _ ?_ (hcut9 (IntKind.i64.wrap (r_12+1)) hm)
    exact zb7
   ·refine Wp.skip ?_
    refine hW9 _ _ _ _ ?_ (hcut9 n_9 hm)
    exact zb7
theorem zak (s_1:Str) (sep_2:Str) (z:List Str) (hm:zae s_1 sep_2=some z):Does Tryz.prog 62 [.p (.s s_1),.p (.s sep_2)] [] (fun r X=>r=.p (.l (List.map ecS z))∧X=[]):=by
 unfold zae at hm
 refine dW 0 8 [.tmp 4] Tryz.func62 fun B=>?_
 refine qS ?_
 obtain ⟨r_3,hr_3,hm⟩:=zb hm
 refine Wp.seqR fun K2 hK2=>?_
 simp only [go_sem,simprocAttr]
 try refine ⟨sd,?_⟩
 refine Rg.callF (av:=?av3) (zdP s_1 sep_2 0 (-1) _ hr_3) si si sg ?cont3
 intro hv3
 simp only [go_sem,simprocAttr]
 refine kA hK2 ?_
 refine Wp.ret ?_
 refine zc ?_
 cases hm
 exact zb7
theorem ziO (s cut z:Str) (hm:zfi s cut=some z):Does Tryz.prog 101 [.p (.s s),.p (.s cut)] [] (fun r X=>r=.p (.s z)∧X=[]):=by
 obtain ⟨⟨h1,h2⟩,h⟩:=zf hm
 cases h
 exact Does.trim Tryz.trimL (by kernel_rfl) ⟨_,Tryz.func101,by kernel_rfl,by kernel_rfl⟩ s cut (by omega) (fun c hc=>of_decide_eq_true (List.all_eq_true.1 h2 c hc))
theorem zbX (s_1:Str) (c_2:Int) (z:Int) (hm:zaA s_1 c_2=some z):Does Tryz.prog 139 [.p (.s s_1),.p (.i .u8 c_2)] [] (fun r X=>r=.p (.i .i64 z)∧X=[]):=by
 unfold zaA at hm
 refine dW 0 8 [.tmp 4] Tryz.func139 fun B=>?_
 refine qS ?_
 obtain ⟨r_3,hr_3,hm⟩:=zb hm
 refine Wp.seqR fun K2 hK2=>?_
 simp only [go_sem,simprocAttr]
 try refine ⟨sd,?_⟩
 refine Rg.callX (av:=?av3) (g:=true) (fun hg=>za2 s_1 c_2 _ hr_3) si si si sg si ?cont3
 intro hv3
 simp only [go_sem,simprocAttr]
 refine kA hK2 ?_
 refine Wp.ret ?_
 refine zc ?_
 cases hm
 exact zb7
theorem ok_R_inner (s_2:Str) (bytes_3:Str) (z:Bool) (hm:zjy s_2 bytes_3=some z):Does Tryz.prog 102 [.p (.s s_2),.p (.s bytes_3)] [] (fun r X=>r=.p (.b z)∧X=[]):=by
 unfold zjy at hm
 refine dW 0 18 [.tmp 4] Tryz.func102 fun B=>?_
 refine qS ?_
 refine Wp.seqW fun K2 hK2 hW2=>?_
 obtain ⟨k_4,hk_4,hm⟩:=zk hm
 have hcut2:∀ s,k_4 s=some z→K2 [] []:=by
  intro s hs
  have hm:=hk_4 _ hs
  clear hs
  try dsimp only at hm
  try dsimp only
  refine hK2 _ _ ?_
  refine qS ?_
  refine Wp.ret ?_
  refine zc ?_
  cases hm
  exact zb7
 clear hK2 hk_4
 refine qS ?_
 refine Wp.block ?_
 obtain ⟨k_7,hk_7,hm⟩:=zT hm
 refine Wp.fact 0 fun hl_6=>?_
 replace hl_6:s_2.length≤274877906944:=by
  simp only [go_sem,simprocAttr,List.length_map] at hl_6
  omega
 refine Wp.forL (fun i_5 s=>[(0,.p (.s s_2)),(1,.p (.s bytes_3)),(7,.p (.i .i64 (s_2.length:Int))),(8,.p (.i .i64 (i_5:Int)))]) (fun i_5 s=>[]) ?_ hm ?_
 ·
  exact zb7
 clear hm
 intro i_5 s hii_5 hm
 try dsimp only at hm
 try dsimp only
 refine qS ?_
 refine Wp.seqW fun K6 hK6 hW6=>?_
 refine Wp.cond rfl ⟨⟩ (fun hc6=>?_) (fun hc6=>?_)
 rotate_left
 ·refine Wp.exit ?_
  have hm:=hk_7 _ (zaf hm (zbc (by first | exact hc6 | simpa using hc6)))
  try dsimp only at hm
  refine hW2 _ _ _ _ ?_ (hcut2 () hm)
  exact zb7
 have hlt6:=zbb (by first | exact hc6 | simpa using hc6)
 have hw6:=zR hlt6 hl_6
 obtain ⟨c_1,nx_8,hxc_1,hyc_1,hnx_8,hm⟩:=zS hm hlt6
 clear hxc_1
 refine Wp.skip ?_
 simp only [zl]
 refine hK6 _ _ ?_
 refine Wp.seqW fun K7 hK7 hW7=>?_
 refine Wp.block ?_
 refine Wp.seqR fun K8 hK8=>?_
 simp only [go_sem,simprocAttr,hw6,hyc_1]
 refine kA hK8 ?_
 obtain ⟨r_9,hr_9,hm⟩:=zb hm
 refine Wp.seqR fun K9 hK9=>?_
 simp only [go_sem,simprocAttr,hw6,hyc_1]
 try refine ⟨sd,?_⟩
 refine Rg.callX (av:=?av10) (g:=true) (fun hg=>zbX bytes_3 (c_1.toNat:Int) _ hr_9) (by simp only [go_sem,simprocAttr,hw6,hyc_1]; exact Is.mk) (by simp only [go_sem,simprocAttr,hw6,hyc_1]; exact Is.mk) (by simp only [go_sem,simprocAttr,hw6,hyc_1]; exact Is.mk) (by simp only [go_sem,simprocAttr,hw6,hyc_1]) (by simp only [go_sem,simprocAttr,hw6,hyc_1]; exact Is.mk) ?cont10
 intro hv10
 simp only [go_sem,simprocAttr,hw6,hyc_1]
 refine kA hK9 ?_
 refine cM hm (fun hc11 hm=>?_) (fun hc11 hm=>?_)
 ·refine Wp.seqR fun K12 hK12=>?_
  simp only [go_sem,simprocAttr,hw6,hyc_1]
  refine kA hK12 ?_
  refine Wp.ret ?_
  refine zc ?_
  cases hm
  simp only [go_sem,simprocAttr,hw6,hyc_1]
  try exact se2
 ·refine Wp.skip ?_
  refine hK7 _ _ ?_
  refine Wp.region fun K13 hK13=>?_
  simp only [go_sem,simprocAttr,hw6,hyc_1]
  refine kA hK13 ?_
  simp only [zl,zi,↓reduceIte]
  refine ⟨(),hlt6,hnx_8 _ hm,?_⟩
  simp only [go_sem,simprocAttr,hw6,hyc_1]
  try exact se2
theorem ziU (s_1:Str) (bytes_2:Str) (z:Bool) (hm:R_Of s_1 bytes_2=some z):Does Tryz.prog 63 [.p (.s s_1),.p (.s bytes_2)] [] (fun r X=>r=.p (.b z)∧X=[]):=by
 unfold R_Of at hm
 refine dW 0 14 [.tmp 4] Tryz.func63 fun B=>?_
 refine qS ?_
 obtain ⟨r_3,hr_3,hm⟩:=zb hm
 obtain ⟨r_4,hr_4,hm⟩:=z7 hm
 refine Wp.seqR fun K2 hK2=>?_
 simp only [go_sem,simprocAttr]
 try refine ⟨sd,?_⟩
 refine Rg.callX (av:=?av3) (g:=true) (fun hg=>ziO s_1 bytes_2 _ hr_3) si si si sg si ?cont3
 intro hv3
 simp only [go_sem,simprocAttr]
 try refine ⟨sd,?_⟩
 refine Rg.callX (av:=?av4) (g:=decide (r_3=[])) (fun hg=>ok_R_inner s_1 bytes_2 _ (hr_4 hg)) si si si sg si ?cont4
 intro hv4
 simp only [go_sem,simprocAttr]
 refine kA hK2 ?_
 refine Wp.ret ?_
 refine zc ?_
 cases hm
 exact zb7
theorem zbk (l_4:List api_Version) (z:Int) (hm:zba l_4=some z):Does Tryz.prog 31 [.p (.l (List.map zo l_4))] [] (fun r X=>r=.p (.i .i64 z)∧X=[]):=by
 unfold zba at hm
 refine dW 0 74 [.tmp 2] Tryz.func31 fun B=>?_
 refine qS ?_
 refine Wp.seqW fun K2 hK2 hW2=>?_
 obtain ⟨k_7,hk_7,hm⟩:=zk hm
 have hcut2:∀ s,k_7 s=some z→K2 [] []:=by
  intro s hs
  have hm:=hk_7 _ hs
  clear hs
  try dsimp only at hm
  try dsimp only
  refine hK2 _ _ ?_
  refine qS ?_
  refine Wp.ret ?_
  refine zc ?_
  cases hm
  exact zb7
 clear hK2 hk_7
 refine qS ?_
 refine Wp.block ?_
 obtain ⟨k_15,hk_15,hm⟩:=zT hm
 refine Wp.fact 9 fun hl_12=>?_
 replace hl_12:l_4.length≤274877906944:=by
  simp only [go_sem,simprocAttr,List.length_map] at hl_12
  omega
 refine Wp.forL (fun i_5 s=>[(9,.p (.l (List.map zo l_4))),(10,.p (.i .i64 (l_4.length:Int))),(11,.p (.i .i64 (i_5:Int)))]) (fun i_5 s=>[]) ?_ hm ?_
 ·
  exact zb7
 clear hm
 intro i_5 s hii_5 hm
 try dsimp only at hm
 try dsimp only
 refine qS ?_
 refine Wp.seqW fun K6 hK6 hW6=>?_
 refine Wp.cond rfl ⟨⟩ (fun hc6=>?_) (fun hc6=>?_)
 rotate_left
 ·refine Wp.exit ?_
  have hm:=hk_15 _ (zaf hm (zbc (by first | exact hc6 | simpa using hc6)))
  try dsimp only at hm
  refine hW2 _ _ _ _ ?_ (hcut2 () hm)
  exact zb7
 have hlt6:=zbb (by first | exact hc6 | simpa using hc6)
 have hw6:=zR hlt6 hl_12
 obtain ⟨v_1,nx_16,hxv_1,hyv_1,hnx_16,hm⟩:=zS hm hlt6
 replace hxv_1:=hxv_1 zo
 refine Wp.skip ?_
 simp only [zl]
 refine hK6 _ _ ?_
 refine Wp.seqW fun K7 hK7 hW7=>?_
 obtain ⟨k_8,hk_8,hm⟩:=zk hm
 have hcut7:∀ s,k_8 s=some z→K7 [(9,.p (.l (List.map zo l_4))),(10,.p (.i .i64 (l_4.length:Int))),(11,.p (.i .i64 (i_5:Int)))] []:=by
  intro s hs
  have hm:=hk_8 _ hs
  clear hs
  try dsimp only at hm
  try dsimp only
  refine hK7 _ _ ?_
  refine Wp.region fun K8 hK8=>?_
  simp only [go_sem,simprocAttr,hw6,hxv_1]
  refine kA hK8 ?_
  simp only [zl,zi,↓reduceIte]
  refine ⟨(),hlt6,hnx_16 _ hm,?_⟩
  simp only [go_sem,simprocAttr,hw6,hxv_1]
  try exact se2
 clear hK7 hk_8
 refine Wp.block ?_
 refine Wp.seqR fun K9 hK9=>?_
 simp only [go_sem,simprocAttr,hw6,hxv_1]
 refine kA hK9 ?_
 refine Wp.seqW fun K10 hK10 hW10=>?_
 obtain ⟨k_9,hk_9,hm⟩:=zk hm
 have hcut10:∀ s,k_9 s=some z→K10 [(4,.ptr 0 0),(9,.p (.l (List.map zo l_4))),(10,.p (.i .i64 (l_4.length:Int))),(11,.p (.i .i64 (i_5:Int)))] [.cells 27 [.p (.i .i64 v_1.Major),.p (.i .i64 v_1.Minor),.p (.i .i64 v_1.Patch),.p (.s v_1.Early)]]:=by
  intro s hs
  have hm:=hk_9 _ hs
  clear hs
  try dsimp only at hm
  try dsimp only
  refine hK10 _ _ ?_
  refine Wp.seqW fun K11 hK11 hW11=>?_
  refine Wp.seqR fun K12 hK12=>?_
  simp only [go_sem,simprocAttr,hw6,hxv_1]
  refine kA hK12 ?_
  refine cM hm (fun hc13 hm=>?_) (fun hc13 hm=>?_)
  ·refine Wp.exit ?_
   refine hW7 _ _ _ _ ?_ (hcut7 () hm)
   simp only [go_sem,simprocAttr,hw6,hxv_1]
   try exact se2
  ·refine Wp.skip ?_
   refine hK11 _ _ ?_
   refine Wp.seqW fun K14 hK14 hW14=>?_
   refine Wp.seqR fun K15 hK15=>?_
   simp only [go_sem,simprocAttr,hw6,hxv_1]
   refine kA hK15 ?_
   refine cM hm (fun hc16 hm=>?_) (fun hc16 hm=>?_)
   ·refine Wp.seqR fun K17 hK17=>?_
    simp only [go_sem,simprocAttr,hw6,hxv_1]
    refine kA hK17 ?_
    refine Wp.ret ?_
    refine zc ?_
    cases hm
    simp only [go_sem,simprocAttr,hw6,hxv_1]
    try exact se2
   ·refine Wp.skip ?_
    refine hK14 _ _ ?_
    obtain ⟨r_6,hr_6,hm⟩:=zb hm
    refine Wp.seqR fun K18 hK18=>?_
    simp only [go_sem,simprocAttr,hw6,hxv_1]
    try refine ⟨sd,?_⟩
    refine Rg.callF (av:=?av19) (zak v_1.Early ([46]:Str) _ hr_6) (by simp only [go_sem,simprocAttr,hw6,hxv_1]; exact Is.mk) (by simp only [go_sem,simprocAttr,hw6,hxv_1]; exact Is.mk) (by simp only [go_sem,simprocAttr,hw6,hxv_1]) ?cont19
    intro hv19
    simp only [go_sem,simprocAttr,hw6,hxv_1]
    refine kA hK18 ?_
    refine Wp.block ?_
    obtain ⟨k_17,hk_17,hm⟩:=zT hm
    refine Wp.fact 40 fun hl_13=>?_
    replace hl_13:r_6.length≤274877906944:=by
     simp only [go_sem,simprocAttr,List.length_map] at hl_13
     omega
    refine Wp.forL (fun i_10 s=>[(9,.p (.l (List.map zo l_4))),(10,.p (.i .i64 (l_4.length:Int))),(11,.p (.i .i64 (i_5:Int))),(40,.p (.l (List.map ecS r_6))),(41,.p (.i .i64 (r_6.length:Int))),(42,.p (.i .i64 (i_10:Int)))]) (fun i_10 s=>[.cells 27 [.p (.i .i64 v_1.Major),.p (.i .i64 v_1.Minor),.p (.i .i64 v_1.Patch),.p (.s v_1.Early)]]) ?_ hm ?_
    ·
     simp only [go_sem,simprocAttr,hw6,hxv_1]
     try exact se2
    clear hm
    intro i_10 s hii_10 hm
    try dsimp only at hm
    try dsimp only
    refine Wp.seqR fun K20 hK20=>?_
    simp only [go_sem,simprocAttr,hw6,hxv_1]
    refine kA hK20 ?_
    refine Wp.seqW fun K21 hK21 hW21=>?_
    refine Wp.cond rfl ⟨⟩ (fun hc21=>?_) (fun hc21=>?_)
    rotate_left
    ·refine Wp.exit ?_
     have hm:=hk_17 _ (zaf hm (zbc (by first | exact hc21 | simpa using hc21)))
     try dsimp only at hm
     refine hW7 _ _ _ _ ?_ (hcut7 () hm)
     simp only [go_sem,simprocAttr,hw6,hxv_1]
     try exact se2
    have hlt21:=zbb (by first | exact hc21 | simpa using hc21)
    have hw21:=zR hlt21 hl_13
    obtain ⟨s_2,nx_18,hxs_2,hys_2,hnx_18,hm⟩:=zS hm hlt21
    replace hxs_2:=hxs_2 ecS
    refine Wp.skip ?_
    simp only [zl]
    refine hK21 _ _ ?_
    refine Wp.seqW fun K22 hK22 hW22=>?_
    refine Wp.block ?_
    refine Wp.seqR fun K23 hK23=>?_
    simp only [go_sem,simprocAttr,hw6,hxv_1,hw21,hxs_2]
    refine kA hK23 ?_
    obtain ⟨r_14,hr_14,hm⟩:=z7 hm
    obtain ⟨r_19,hr_19,hm⟩:=z7 hm
    obtain ⟨c_24,hm⟩:=zf hm
    refine Wp.seqR fun K24 hK24=>?_
    simp only [go_sem,simprocAttr,hw6,hxv_1,hw21,hxs_2]
    try refine ⟨sL,?_⟩
    refine Rg.callX (av:=?av25) (g:=!((decide (s_2=[])) || (decide (10 < (s_2.length:Int))))) (fun hg=>ziU s_2 ([97,98,99,100,101,102,103,104,105,106,107,108,109,110,111,112,113,114,115,116,117,118,119,120,121,122,48,49,50,51,52,53,54,55,56,57]:Str) _ (hr_14 hg)) (by simp only [go_sem,simprocAttr,hw6,hxv_1,hw21,hxs_2]; exact Is.mk) (by simp only [go_sem,simprocAttr,hw6,hxv_1,hw21,hxs_2]; exact Is.mk) (by simp only [go_sem,simprocAttr,hw6,hxv_1,hw21,hxs_2]; exact Is.mk) (by simp only [go_sem,simprocAttr,hw6,hxv_1,hw21,hxs_2]) (by simp only [go_sem,simprocAttr,hw6,hxv_1,hw21,hxs_2]; exact Is.mk) ?cont25
    intro hv25
    simp only [go_sem,simprocAttr,hw6,hxv_1,hw21,hxs_2]
    try refine ⟨sL,?_⟩
    refine Rg.callX (av:=?av26) (g:=!(((decide (s_2=[])) || (decide (10 < (s_2.length:Int)))) || (!r_14))) (fun hg=>ziU s_2 ([48,49,50,51,52,53,54,55,56,57]:Str) _ (hr_19 hg)) (by simp only [go_sem,simprocAttr,hw6,hxv_1,hw21,hxs_2]; exact Is.mk) (by simp only [go_sem,simprocAttr,hw6,hxv_1,hw21,hxs_2]; exact Is.mk) (by simp only [go_sem,simprocAttr,hw6,hxv_1,hw21,hxs_2]; exact Is.mk) (by simp only [go_sem,simprocAttr,hw6,hxv_1,hw21,hxs_2]) (by simp only [go_sem,simprocAttr,hw6,hxv_1,hw21,hxs_2]; exact Is.mk) ?cont26
    intro hv26
    simp only [go_sem,simprocAttr,hw6,hxv_1,hw21,hxs_2]
    refine kA hK24 ?_
    refine cM hm (fun hc27 hm=>?_) (fun hc27 hm=>?_)
    ·refine Wp.seqR fun K28 hK28=>?_
     simp only [go_sem,simprocAttr,hw6,hxv_1,hw21,hxs_2]
     refine kA hK28 ?_
     refine Wp.ret ?_
     refine zc ?_
     cases hm
     simp only [go_sem,simprocAttr,hw6,hxv_1,hw21,hxs_2]
     try exact se2
    ·refine Wp.skip ?_
     refine hK22 _ _ ?_
     refine Wp.region fun K29 hK29=>?_
     simp only [go_sem,simprocAttr,hw6,hxv_1,hw21,hxs_2]
     refine kA hK29 ?_
     simp only [zl,zi,↓reduceIte]
     refine ⟨(),hlt21,hnx_18 _ hm,?_⟩
     simp only [go_sem,simprocAttr,hw6,hxv_1,hw21,hxs_2]
     try exact se2
 clear hK10 hk_9
 refine Wp.seqR fun K30 hK30=>?_
 simp only [go_sem,simprocAttr,hw6,hxv_1]
 refine kA hK30 ?_
 refine Wp.block ?_
 obtain ⟨k_20,hk_20,hm⟩:=zT hm
 refine Wp.fact 21 fun hl_21=>?_
 replace hl_21:[v_1.Major,v_1.Minor,v_1.Patch].length≤274877906944:=Nat.le_of_ble_eq_true rfl
 refine Wp.forL (fun i_11 s=>[(4,.ptr 0 0),(9,.p (.l (List.map zo l_4))),(10,.p (.i .i64 (l_4.length:Int))),(11,.p (.i .i64 (i_5:Int))),(21,.full (List.map zaK [v_1.Major,v_1.Minor,v_1.Patch])),(22,.p (.i .i64 ([v_1.Major,v_1.Minor,v_1.Patch].length:Int))),(23,.p (.i .i64 (i_11:Int)))]) (fun i_11 s=>[.cells 27 [.p (.i .i64 v_1.Major),.p (.i .i64 v_1.Minor),.p (.i .i64 v_1.Patch),.p (.s v_1.Early)]]) ?_ hm ?_
 ·
  simp only [go_sem,simprocAttr,hw6,hxv_1]
  try exact se2
 clear hm
 intro i_11 s hii_11 hm
 try dsimp only at hm
 try dsimp only
 refine Wp.seqR fun K31 hK31=>?_
 simp only [go_sem,simprocAttr,hw6,hxv_1]
 refine kA hK31 ?_
 refine Wp.seqW fun K32 hK32 hW32=>?_
 refine Wp.cond rfl ⟨⟩ (fun hc32=>?_) (fun hc32=>?_)
 rotate_left
 ·refine Wp.exit ?_
  have hm:=hk_20 _ (zaf hm (zbc (by first | exact hc32 | simpa using hc32)))
  try dsimp only at hm
  refine hW10 _ _ _ _ ?_ (hcut10 () hm)
  simp only [go_sem,simprocAttr,hw6,hxv_1]
  try exact se2
 have hlt32:=zbb (by first | exact hc32 | simpa using hc32)
 have hw32:=zR hlt32 hl_21
 obtain ⟨n_3,nx_22,hxn_3,hyn_3,hnx_22,hm⟩:=zS hm hlt32
 replace hxn_3:=hxn_3 zaK
 simp only [List.map_cons,List.map_nil,zaK] at hxn_3
 refine Wp.skip ?_
 simp only [zl]
 refine hK32 _ _ ?_
 refine Wp.seqW fun K33 hK33 hW33=>?_
 refine Wp.block ?_
 refine Wp.seqR fun K34 hK34=>?_
 simp only [go_sem,simprocAttr,hw6,hxv_1,hw32,hxn_3]
 refine kA hK34 ?_
 obtain ⟨r_23,hr_23,hm⟩:=zb hm
 refine Wp.seqR fun K35 hK35=>?_
 simp only [go_sem,simprocAttr,hw6,hxv_1,hw32,hxn_3]
 try refine ⟨sd,?_⟩
 refine Rg.callX (av:=?av36) (g:=true) (fun hg=>ok_R_In n_3 0 999999 _ hr_23) (by simp only [go_sem,simprocAttr,hw6,hxv_1,hw32,hxn_3]; exact Is.mk) (by simp only [go_sem,simprocAttr,hw6,hxv_1,hw32,hxn_3]; exact Is.mk) (by simp only [go_sem,simprocAttr,hw6,hxv_1,hw32,hxn_3]; exact Is.mk) (by simp only [go_sem,simprocAttr,hw6,hxv_1,hw32,hxn_3]) (by simp only [go_sem,simprocAttr,hw6,hxv_1,hw32,hxn_3]; exact Is.mk) ?cont36
 intro hv36
 simp only [go_sem,simprocAttr,hw6,hxv_1,hw32,hxn_3]
 refine kA hK35 ?_
 refine cM hm (fun hc37 hm=>?_) (fun hc37 hm=>?_)
 ·refine Wp.seqR fun K38 hK38=>?_
  simp only [go_sem,simprocAttr,hw6,hxv_1,hw32,hxn_3]
  refine kA hK38 ?_
  refine Wp.ret ?_
  refine zc ?_
  cases hm
  simp only [go_sem,simprocAttr,hw6,hxv_1,hw32,hxn_3]
  try exact se2
 ·refine Wp.skip ?_
  refine hK33 _ _ ?_
  refine Wp.region fun K39 hK39=>?_
  simp only [go_sem,simprocAttr,hw6,hxv_1,hw32,hxn_3]
  refine kA hK39 ?_
  simp only [zl,zi,↓reduceIte]
  refine ⟨(),hlt32,hnx_22 _ hm,?_⟩
  simp only [go_sem,simprocAttr,hw6,hxv_1,hw32,hxn_3]
  try exact se2
theorem ze4 (x_1:Int) (z:Bool) (hm:zcJ x_1=some z):Does Tryz.prog 103 [.p (.i .i64 x_1)] [] (fun r X=>r=.p (.b z)∧X=[]):=by
 unfold zcJ at hm
 refine dW 0 6 [.tmp 2] Tryz.func103 fun B=>?_
 refine qS ?_
 refine qS ?_
 refine Wp.ret ?_
 refine zc ?_
 cases hm
 exact zb7
theorem zQ (x_1:Int) (y_2:Int) (z:Int) (hm:zL x_1 y_2=some z):Does Tryz.prog 65 [.p (.i .i64 x_1),.p (.i .i64 y_2)] [] (fun r X=>r=.p (.i .i64 z)∧X=[]):=by
 unfold zL at hm
 refine dW 0 20 [.tmp 4] Tryz.func65 fun B=>?_
 refine qS ?_
 obtain ⟨r_3,hr_3,hm⟩:=zb hm
 refine Wp.seqR fun K2 hK2=>?_
 simp only [go_sem,simprocAttr]
 try refine ⟨sd,?_⟩
 refine Rg.callX (av:=?av3) (g:=true) (fun hg=>ze4 x_1 _ hr_3) si si si sg si ?cont3
 intro hv3
 simp only [go_sem,simprocAttr]
 refine kA hK2 ?_
 obtain ⟨r_4,hr_4,hm⟩:=zb hm
 refine Wp.seqR fun K4 hK4=>?_
 simp only [go_sem,simprocAttr]
 try refine ⟨sd,?_⟩
 refine Rg.callX (av:=?av5) (g:=true) (fun hg=>ze4 y_2 _ hr_4) si si si sg si ?cont5
 intro hv5
 simp only [go_sem,simprocAttr]
 refine kA hK4 ?_
 refine Wp.seqW fun K6 hK6 hW6=>?_
 refine qS ?_
 refine cM hm (fun hc8 hm=>?_) (fun hc8 hm=>?_)
 ·refine Wp.seqW fun K9 hK9 hW9=>?_
  refine qS ?_
  refine cM hm (fun hc11 hm=>?_) (fun hc11 hm=>?_)
  ·refine qS ?_
   refine Wp.ret ?_
   refine zc ?_
   cases hm
   exact zb7
  ·refine Wp.skip ?_
   refine hK9 _ _ ?_
   refine qS ?_
   refine Wp.ret ?_
   refine zc ?_
   cases hm
   exact zb7
 ·refine Wp.skip ?_
  refine hK6 _ _ ?_
  refine Wp.seqW fun K14 hK14 hW14=>?_
  refine qS ?_
  refine cM hm (fun hc16 hm=>?_) (fun hc16 hm=>?_)
  ·refine qS ?_
   refine Wp.ret ?_
   refine zc ?_
   cases hm
   exact zb7
  ·refine Wp.skip ?_
   refine hK14 _ _ ?_
   refine Wp.seqW fun K18 hK18 hW18=>?_
   refine qS ?_
   refine cM hm (fun hc20 hm=>?_) (fun hc20 hm=>?_)
   ·refine qS ?_
    refine Wp.ret ?_
    refine zc ?_
    cases hm
    exact zb7
   ·refine Wp.skip ?_
    refine hK18 _ _ ?_
    refine Wp.seqW fun K22 hK22 hW22=>?_
    refine qS ?_
    refine cM hm (fun hc24 hm=>?_) (fun hc24 hm=>?_)
    ·refine qS ?_
     refine Wp.ret ?_
     refine zc ?_
     cases hm
     exact zb7
    ·refine Wp.skip ?_
     refine hK22 _ _ ?_
     refine qS ?_
     refine Wp.ret ?_
     refine zc ?_
     cases hm
     exact zb7
end Go.Proofs.YtmnohdgjkcjdeaaGreatDoor
