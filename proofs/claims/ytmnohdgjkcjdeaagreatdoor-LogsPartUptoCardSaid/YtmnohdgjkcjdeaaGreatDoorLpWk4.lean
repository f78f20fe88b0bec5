/- That the code does what the models say (part 4). -/
import Derived.Test.YtmnohdgjkcjdeaaGreatDoorLpWk0
import Derived.Test.YtmnohdgjkcjdeaaGreatDoorLpWk3
set_option linter.unusedSimpArgs false
set_option linter.unusedVariables false
open Go.Proofs Go.Shelf
namespace Go.Proofs.YtmnohdgjkcjdeaaGreatDoor
open Go.Vc Go.Md
set_option maxRecDepth 100000
set_option maxHeartbeats 4000000
theorem zkT (s_6:Str) (z:Str) (hm:zeB s_6=some z):Does Tryz.prog 76 [.p (.s s_6)] [] (fun r X=>r=.p (.s z)∧X=[]):=by
 unfold zeB at hm
 refine dW 0 63 [.tmp 2] Tryz.func76 fun B=>?_
 refine qS ?_
 obtain ⟨c_11,hm⟩:=zf hm
 refine Wp.seqR fun K2 hK2=>?_
 simp only [go_sem,simprocAttr]
 refine kA hK2 ?_
 obtain ⟨c_12,hm⟩:=zf hm
 refine Wp.seqR fun K3 hK3=>?_
 simp only [go_sem,simprocAttr]
 refine kA hK3 ?_
 refine Wp.seqW fun K4 hK4 hW4=>?_
 obtain ⟨k_7,hk_7,hm⟩:=zk hm
 have hcut4:∀ s,k_7 s=some z→K4 [(3,.buf 0)] [.buf 5 1 (List.map zab s)]:=by
  intro o0_13 hs
  have hm:=hk_7 _ hs
  clear hs
  try dsimp only at hm
  try dsimp only
  refine hK4 _ _ ?_
  obtain ⟨c_14,hm⟩:=zf hm
  refine Wp.seqR fun K5 hK5=>?_
  simp only [go_sem,simprocAttr]
  refine kA hK5 ?_
  refine Wp.ret ?_
  refine zc ?_
  cases hm
  exact zn
 clear hK4 hk_7
 refine qS ?_
 refine Wp.block ?_
 obtain ⟨k_10,hk_10,hm⟩:=zT hm
 refine Wp.fact 0 fun hl_9=>?_
 replace hl_9:s_6.length≤274877906944:=by
  simp only [go_sem,simprocAttr,List.length_map] at hl_9
  omega
 refine Wp.forL (fun i_8 s=>[(0,.p (.s s_6)),(3,.buf 0),(4,.p (.i .i64 (i_8:Int)))]) (fun i_8 s=>[.buf 5 1 (List.map zab s)]) ?_ hm ?_
 ·
  exact zn
 clear hm
 intro i_8 o0_4 hii_8 hm
 try dsimp only at hm
 try dsimp only
 refine Wp.seqW fun K7 hK7 hW7=>?_
 refine qS ?_
 refine Wp.cond rfl ⟨⟩ (fun hc7=>?_) (fun hc7=>?_)
 rotate_left
 ·refine Wp.exit ?_
  have hm:=hk_10 _ (zaf hm (zbc (by first | exact hc7 | simpa using hc7)))
  try dsimp only at hm
  refine hW4 _ _ _ _ ?_ (hcut4 o0_4 hm)
  exact zn
 have hlt7:=zbb (by first | exact hc7 | simpa using hc7)
 have hw7:=zR hlt7 hl_9
 obtain ⟨c_1,nx_5,hxc_1,hyc_1,hnx_5,hm⟩:=zS hm hlt7
 clear hxc_1
 refine Wp.skip ?_
 simp only [zl]
 refine hK7 _ _ ?_
 refine Wp.seqW fun K9 hK9 hW9=>?_
 refine Wp.block ?_
 refine Wp.seqR fun K10 hK10=>?_
 simp only [go_sem,simprocAttr,hw7,hyc_1]
 refine kA hK10 ?_
 refine Wp.block ?_
 refine Wp.seqR fun K11 hK11=>?_
 simp only [go_sem,simprocAttr,hw7,hyc_1]
 refine kA hK11 ?_
 refine cM hm (fun hc12 hm=>?_) (fun hc12 hm=>?_)
 ·obtain ⟨c_15,hm⟩:=zf hm
  refine Wp.region fun K13 hK13=>?_
  simp only [go_sem,simprocAttr,hw7,hyc_1]
  refine kA hK13 ?_
  refine hK9 _ _ ?_
  refine Wp.region fun K14 hK14=>?_
  simp only [go_sem,simprocAttr,hw7,hyc_1]
  refine kA hK14 ?_
  simp only [zl,zi,↓reduceIte]
  refine ⟨o0_4++[92,(c_1.toNat:Int)],hlt7,hnx_5 _ hm,?_⟩
  simp only [go_sem,simprocAttr,hw7,hyc_1]
  try exact se3
 ·refine Wp.seqR fun K15 hK15=>?_
  simp only [go_sem,simprocAttr,hw7,hyc_1]
  refine kA hK15 ?_
  refine cM hm (fun hc16 hm=>?_) (fun hc16 hm=>?_)
  ·obtain ⟨c_16,hm⟩:=zf hm
   refine Wp.region fun K17 hK17=>?_
   simp only [go_sem,simprocAttr,hw7,hyc_1]
   refine kA hK17 ?_
   refine hK9 _ _ ?_
   refine Wp.region fun K18 hK18=>?_
   simp only [go_sem,simprocAttr,hw7,hyc_1]
   refine kA hK18 ?_
   simp only [zl,zi,↓reduceIte]
   refine ⟨o0_4++[92,110],hlt7,hnx_5 _ hm,?_⟩
   simp only [go_sem,simprocAttr,hw7,hyc_1]
   try exact se3
  ·refine Wp.seqR fun K19 hK19=>?_
   simp only [go_sem,simprocAttr,hw7,hyc_1]
   refine kA hK19 ?_
   refine cM hm (fun hc20 hm=>?_) (fun hc20 hm=>?_)
   ·obtain ⟨c_2,hbc_2,hxc_2,hm⟩:=zai hm
    replace hxc_2:((([48,49,50,51,52,53,54,55,56,57,97,98,99,100,101,102]:Str).getD ((Int.fdiv (c_1.toNat:Int) (2 ^ (shI .u8 4))).toNat) 0).toNat:Int)=c_2:=hxc_2
    obtain ⟨c_3,hbc_3,hxc_3,hm⟩:=zai hm
    replace hxc_3:((([48,49,50,51,52,53,54,55,56,57,97,98,99,100,101,102]:Str).getD ((zaz .and .u8 (c_1.toNat:Int) 15).toNat) 0).toNat:Int)=c_3:=hxc_3
    obtain ⟨c_17,hm⟩:=zf hm
    refine Wp.regD (plan:=pl [(0,none),(1,none),(2,none),(3,none),(4,none),(5,none),(6,none),(7,some [0]),(8,some []),(9,none)]) (by kernel_rfl) rfl (by kernel_rfl) fun K21 hK21=>?_
    simp only [go_sem,simprocAttr,hw7,hyc_1,hxc_2,hxc_3]
    refine kA hK21 ?_
    refine hK9 _ _ ?_
    refine Wp.region fun K22 hK22=>?_
    simp only [go_sem,simprocAttr,hw7,hyc_1,hxc_2,hxc_3]
    refine kA hK22 ?_
    simp only [zl,zi,↓reduceIte]
    refine ⟨o0_4++[92,120,c_2,c_3],hlt7,hnx_5 _ hm,?_⟩
    simp only [go_sem,simprocAttr,hw7,hyc_1,hxc_2,hxc_3]
    try exact se3
   ·obtain ⟨c_18,hm⟩:=zf hm
    refine Wp.region fun K23 hK23=>?_
    simp only [go_sem,simprocAttr,hw7,hyc_1]
    refine kA hK23 ?_
    refine hK9 _ _ ?_
    refine Wp.region fun K24 hK24=>?_
    simp only [go_sem,simprocAttr,hw7,hyc_1]
    refine kA hK24 ?_
    simp only [zl,zi,↓reduceIte]
    refine ⟨o0_4++[(c_1.toNat:Int)],hlt7,hnx_5 _ hm,?_⟩
    simp only [go_sem,simprocAttr,hw7,hyc_1]
    try exact se3
theorem zcB (n:Int) (o0:Str) (z:Unit) (hm:zaN n o0=some z):Does Tryz.prog 84 [.ptr 0 0,.p (.i .i64 n)] [.cells 75 [.np 0,.buf 1],.sb 5 o0] (fun r X=>r=.tup []∧X=[.cells 75 [.np 0,.buf 1],.sb 5 o0]):=by
 obtain ⟨h,-⟩:=zf hm
 obtain ⟨k,rfl⟩:=Int.eq_ofNat_of_zero_le h.1
 exact Does.grow growLay growExt k o0 (by omega)
theorem zcW (o1_1:Str) (z:Unit) (hm:zbF o1_1=some z):Does Tryz.prog 83 [.ptr 0 0] [.cells 75 [.nil,.buf 1],.sb 5 o1_1] (fun r X=>r=.tup []∧X=[.cells 75 [.ptr 0 0,.buf 1],.sb 5 o1_1]):=by
 unfold zbF at hm
 refine dW 2 20 [] Tryz.func83 fun B=>?_
 refine qS ?_
 refine Wp.cond rfl ⟨⟩ (fun hc2=>?_) (fun hc2=>?_)
 rotate_left
 ·cases hc2
 refine Wp.region fun K3 hK3=>?_
 simp only [go_sem,simprocAttr]
 try refine ⟨sd,?_⟩
 refine Rg.callI (v:=?av4) (g:=true) nvi_117 si si sg ?cont4
 simp only [go_sem,simprocAttr]
 refine kA hK3 ?_
 refine zaJ ?_
 cases hm
 exact zn
theorem zcV (o1_1:Str) (z:Unit) (hm:zbE o1_1=some z):Does Tryz.prog 83 [.ptr 0 0] [.cells 75 [.ptr 0 0,.buf 1],.sb 5 o1_1] (fun r X=>r=.tup []∧X=[.cells 75 [.ptr 0 0,.buf 1],.sb 5 o1_1]):=by
 unfold zbE at hm
 refine dW 2 20 [] Tryz.func83 fun B=>?_
 refine qS ?_
 refine Wp.cond rfl ⟨⟩ (fun hc2=>?_) (fun hc2=>?_)
 ·cases hc2
 refine qS ?_
 refine Wp.cond rfl ⟨⟩ (fun hc4=>?_) (fun hc4=>?_)
 ·cases hc4
 refine Wp.skip ?_
 refine zaJ ?_
 cases hm
 exact zn
theorem zcU (o0:Str) (z:Unit) (hm:zaQ o0=some z):Does Tryz.prog 83 [.ptr 0 0] [.cells 75 [.np 0,.buf 1],.sb 5 o0] (fun r X=>r=.tup []∧X=[.cells 75 [.np 0,.buf 1],.sb 5 o0]) :=
 Does.np (zcW o0 () rfl) (zcV o0 () rfl)
theorem zE (s_2:Str) (o1_1:Str) (z:Int × Str) (hm:zh s_2 o1_1=some z):Does Tryz.prog 42 [.ptr 0 0,.p (.s s_2)] [.cells 75 [.np 0,.buf 1],.sb 5 o1_1] (fun r X=>r=.tup [.p (.i .i64 z.1),.raw .nilIface]∧X=[.cells 75 [.np 0,.buf 1],.sb 5 z.2]):=by
 unfold zh at hm
 refine dW 2 19 [.tmp 4,.tmp 5] Tryz.func42 fun B=>?_
 refine qS ?_
 obtain ⟨r_3,hr_3,hm⟩:=zb hm
 refine Wp.seqR fun K2 hK2=>?_
 simp only [go_sem,simprocAttr]
 try refine ⟨sd,?_⟩
 refine Rg.callO (av:=?av3) [0,1] (zcU o1_1 _ hr_3) si si si sg sg ?cont3
 rintro _ _ ⟨rfl,rfl⟩ hv3
 simp only [go_sem,simprocAttr]
 refine kA hK2 ?_
 obtain ⟨c_4,hm⟩:=zf hm
 refine Wp.seqR fun K4 hK4=>?_
 simp only [go_sem,simprocAttr]
 refine kA hK4 ?_
 refine qS ?_
 refine Wp.ret ?_
 refine zc ?_
 cases hm
 exact zn
theorem zam (o1_1:Str) (z:Str) (hm:zA o1_1=some z):Does Tryz.prog 43 [.ptr 0 0] [.cells 75 [.np 0,.buf 1],.sb 5 o1_1] (fun r X=>r=.p (.s z)∧X=[.cells 75 [.np 0,.buf 1],.sb 5 o1_1]):=by
 unfold zA at hm
 refine dW 2 14 [.tmp 2] Tryz.func43 fun B=>?_
 refine qS ?_
 refine Wp.seqD (plan:=pl [(0,none),(1,none),(2,none),(3,none),(5,none),(6,none),(7,none),(8,none),(9,none),(4,some [5,6,7,8,9]),(10,some []),(11,none)]) (by kernel_rfl) rfl (by kernel_rfl) fun K2 hK2=>?_
 simp only [go_sem,simprocAttr]
 refine kA hK2 ?_
 refine Wp.ret ?_
 refine zc ?_
 cases hm
 exact zn
theorem zfm (elems_3:List Str) (sep_5:Str) (z:Str) (hm:zbJ elems_3 sep_5=some z):Does Tryz.prog 44 [.p (.l (List.map ecS elems_3)),.p (.s sep_5)] [] (fun r X=>r=.p (.s z)∧X=[]):=by
 unfold zbJ at hm
 refine dW 0 75 [.tmp 4] Tryz.func44 fun B=>?_
 refine qS ?_
 refine Wp.seqW fun K2 hK2 hW2=>?_
 refine qS ?_
 refine Wp.block ?_
 refine qS ?_
 refine cM hm (fun hc5 hm=>?_) (fun hc5 hm=>?_)
 ·refine qS ?_
  refine Wp.ret ?_
  refine zc ?_
  cases hm
  exact zn
 ·refine qS ?_
  refine cM hm (fun hc8 hm=>?_) (fun hc8 hm=>?_)
  ·obtain ⟨s_6,hbs_6,hxs_6,hys_6,hm⟩:=zZ hm
   replace hxs_6:∀ d,(List.map ecS elems_3).getD 0 d=ecS s_6:=hxs_6 ecS
   refine Wp.seqR fun K9 hK9=>?_
   simp only [go_sem,simprocAttr,hxs_6]
   refine kA hK9 ?_
   refine Wp.ret ?_
   refine zc ?_
   cases hm
   simp only [go_sem,simprocAttr,hxs_6]
   try exact se3
  ·refine Wp.skip ?_
   refine hK2 _ _ ?_
   refine qS ?_
   refine Wp.seqW fun K11 hK11 hW11=>?_
   obtain ⟨k_7,hk_7,hm⟩:=zk hm
   have hcut11:∀ s,k_7 s=some z→K11 [(0,.p (.l (List.map ecS elems_3))),(1,.p (.s sep_5)),(5,.p (.i .i64 s))] []:=by
    intro n_27 hs
    have hm:=hk_7 _ hs
    clear hs
    try dsimp only at hm
    try dsimp only
    refine hK11 _ _ ?_
    refine Wp.seqW fun K12 hK12 hW12=>?_
    obtain ⟨k_8,hk_8,hm⟩:=zk hm
    have hcut12:∀ s,k_8 s=some z→K12 [(0,.p (.l (List.map ecS elems_3))),(1,.p (.s sep_5)),(5,.p (.i .i64 s))] []:=by
     intro n_25 hs
     have hm:=hk_8 _ hs
     clear hs
     try dsimp only at hm
     try dsimp only
     refine hK12 _ _ ?_
     refine qS ?_
     refine Wp.adoptB 0 5 rfl ?_
     simp only [go_sem,simprocAttr]
     obtain ⟨r_16,hr_16,hm⟩:=zb hm
     refine Wp.seqR fun K14 hK14=>?_
     simp only [go_sem,simprocAttr]
     try refine ⟨sd,?_⟩
     refine Rg.callO (av:=?av15) [0,1] (zcB n_25 [] _ hr_16) si si si sg sg ?cont15
     rintro _ _ ⟨rfl,rfl⟩ hv15
     simp only [go_sem,simprocAttr]
     refine kA hK14 ?_
     obtain ⟨s_1,hbs_1,hxs_1,hys_1,hm⟩:=zZ hm
     replace hxs_1:∀ d,(List.map ecS elems_3).getD 0 d=ecS s_1:=hxs_1 ecS
     obtain ⟨r_17,hr_17,hm⟩:=zb hm
     refine Wp.seqR fun K16 hK16=>?_
     simp only [go_sem,simprocAttr,hxs_1]
     try refine ⟨sd,?_⟩
     refine Rg.callO (av:=?av17) [0,1] (zE s_1 [] _ hr_17) (by simp only [go_sem,simprocAttr,hxs_1]; exact Is.mk) (by simp only [go_sem,simprocAttr,hxs_1]; exact Is.mk) (by simp only [go_sem,simprocAttr,hxs_1]; exact Is.mk) (by simp only [go_sem,simprocAttr,hxs_1]) (by simp only [go_sem,simprocAttr,hxs_1]) ?cont17
     rintro _ _ ⟨rfl,rfl⟩ hv17
     simp only [go_sem,simprocAttr,hxs_1]
     refine kA hK16 ?_
     refine Wp.seqW fun K18 hK18 hW18=>?_
     obtain ⟨k_9,hk_9,hm⟩:=zk hm
     have hcut18:∀ s,k_9 s=some z→K18 [(8,.ptr 0 0)] [.cells 75 [.np 0,.buf 1],.sb 5 s]:=by
      intro o1_26 hs
      have hm:=hk_9 _ hs
      clear hs
      try dsimp only at hm
      try dsimp only
      refine hK18 _ _ ?_
      obtain ⟨r_18,hr_18,hm⟩:=zb hm
      refine Wp.seqR fun K19 hK19=>?_
      simp only [go_sem,simprocAttr,hxs_1]
      try refine ⟨sd,?_⟩
      refine Rg.callO (av:=?av20) [0,1] (zam o1_26 _ hr_18) (by simp only [go_sem,simprocAttr,hxs_1]; exact Is.mk) (by simp only [go_sem,simprocAttr,hxs_1]; exact Is.mk) (by simp only [go_sem,simprocAttr,hxs_1]; exact Is.mk) (by simp only [go_sem,simprocAttr,hxs_1]) (by simp only [go_sem,simprocAttr,hxs_1]) ?cont20
      rintro _ _ ⟨rfl,rfl⟩ hv20
      simp only [go_sem,simprocAttr,hxs_1]
      refine kA hK19 ?_
      refine Wp.ret ?_
      refine zc ?_
      cases hm
      simp only [go_sem,simprocAttr,hxs_1]
      try exact se3
     clear hK18 hk_9
     obtain ⟨c_28,hm⟩:=zf hm
     refine Wp.seqR fun K21 hK21=>?_
     simp only [go_sem,simprocAttr,hxs_1]
     refine kA hK21 ?_
     refine Wp.block ?_
     obtain ⟨k_19,hk_19,hm⟩:=zT hm
     refine Wp.fact 63 fun hl_12=>?_
     replace hl_12:(List.drop 1 elems_3).length≤274877906944:=by
      simp only [go_sem,simprocAttr,List.length_map] at hl_12
      omega
     refine Wp.forL (fun i_10 s=>[(1,.p (.s sep_5)),(8,.ptr 0 0),(63,.p (.l (List.map ecS (List.drop 1 elems_3)))),(64,.p (.i .i64 ((List.drop 1 elems_3).length:Int))),(65,.p (.i .i64 (i_10:Int)))]) (fun i_10 s=>[.cells 75 [.np 0,.buf 1],.sb 5 s]) ?_ hm ?_
     ·
      simp only [go_sem,simprocAttr,hxs_1]
      try exact se3
     clear hm
     intro i_10 o1_20 hii_10 hm
     try dsimp only at hm
     try dsimp only
     refine Wp.seqR fun K22 hK22=>?_
     simp only [go_sem,simprocAttr,hxs_1]
     refine kA hK22 ?_
     refine Wp.seqW fun K23 hK23 hW23=>?_
     refine Wp.cond rfl ⟨⟩ (fun hc23=>?_) (fun hc23=>?_)
     rotate_left
     ·refine Wp.exit ?_
      have hm:=hk_19 _ (zaf hm (zbc (by first | exact hc23 | simpa using hc23)))
      try dsimp only at hm
      refine hW18 _ _ _ _ ?_ (hcut18 o1_20 hm)
      simp only [go_sem,simprocAttr,hxs_1]
      try exact se3
     have hlt23:=zbb (by first | exact hc23 | simpa using hc23)
     have hw23:=zR hlt23 hl_12
     obtain ⟨s_2,nx_21,hxs_2,hys_2,hnx_21,hm⟩:=zS hm hlt23
     replace hxs_2:=hxs_2 ecS
     refine Wp.skip ?_
     simp only [zl]
     refine hK23 _ _ ?_
     refine Wp.seqW fun K24 hK24 hW24=>?_
     refine Wp.block ?_
     refine Wp.seqR fun K25 hK25=>?_
     simp only [go_sem,simprocAttr,hxs_1,hw23,hxs_2]
     refine kA hK25 ?_
     obtain ⟨r_13,hr_13,hm⟩:=zb hm
     refine Wp.seqR fun K26 hK26=>?_
     simp only [go_sem,simprocAttr,hxs_1,hw23,hxs_2]
     try refine ⟨sd,?_⟩
     refine Rg.callO (av:=?av27) [0,1] (zE sep_5 o1_20 _ hr_13) (by simp only [go_sem,simprocAttr,hxs_1,hw23,hxs_2]; exact Is.mk) (by simp only [go_sem,simprocAttr,hxs_1,hw23,hxs_2]; exact Is.mk) (by simp only [go_sem,simprocAttr,hxs_1,hw23,hxs_2]; exact Is.mk) (by simp only [go_sem,simprocAttr,hxs_1,hw23,hxs_2]) (by simp only [go_sem,simprocAttr,hxs_1,hw23,hxs_2]) ?cont27
     rintro _ _ ⟨rfl,rfl⟩ hv27
     simp only [go_sem,simprocAttr,hxs_1,hw23,hxs_2]
     refine kA hK26 ?_
     obtain ⟨r_14,hr_14,hm⟩:=zb hm
     refine Wp.region fun K28 hK28=>?_
     simp only [go_sem,simprocAttr,hxs_1,hw23,hxs_2]
     try refine ⟨sd,?_⟩
     refine Rg.callO (av:=?av29) [0,1] (zE s_2 r_13.2 _ hr_14) (by simp only [go_sem,simprocAttr,hxs_1,hw23,hxs_2]; exact Is.mk) (by simp only [go_sem,simprocAttr,hxs_1,hw23,hxs_2]; exact Is.mk) (by simp only [go_sem,simprocAttr,hxs_1,hw23,hxs_2]; exact Is.mk) (by simp only [go_sem,simprocAttr,hxs_1,hw23,hxs_2]) (by simp only [go_sem,simprocAttr,hxs_1,hw23,hxs_2]) ?cont29
     rintro _ _ ⟨rfl,rfl⟩ hv29
     simp only [go_sem,simprocAttr,hxs_1,hw23,hxs_2]
     refine kA hK28 ?_
     refine hK24 _ _ ?_
     refine Wp.region fun K30 hK30=>?_
     simp only [go_sem,simprocAttr,hxs_1,hw23,hxs_2]
     refine kA hK30 ?_
     simp only [zl,zi,↓reduceIte]
     refine ⟨r_14.2,hlt23,hnx_21 _ hm,?_⟩
     simp only [go_sem,simprocAttr,hxs_1,hw23,hxs_2]
     try exact se3
    clear hK12 hk_8
    refine qS ?_
    refine Wp.block ?_
    obtain ⟨k_22,hk_22,hm⟩:=zT hm
    refine Wp.fact 0 fun hl_15=>?_
    replace hl_15:elems_3.length≤274877906944:=by
     simp only [go_sem,simprocAttr,List.length_map] at hl_15
     omega
    refine Wp.forL (fun i_11 s=>[(0,.p (.l (List.map ecS elems_3))),(1,.p (.s sep_5)),(5,.p (.i .i64 s)),(39,.p (.l (List.map ecS elems_3))),(40,.p (.i .i64 (elems_3.length:Int))),(41,.p (.i .i64 (i_11:Int)))]) (fun i_11 s=>[]) ?_ hm ?_
    ·
     exact zn
    clear hm
    intro i_11 n_23 hii_11 hm
    try dsimp only at hm
    try dsimp only
    refine qS ?_
    refine Wp.seqW fun K33 hK33 hW33=>?_
    refine Wp.cond rfl ⟨⟩ (fun hc33=>?_) (fun hc33=>?_)
    rotate_left
    ·refine Wp.exit ?_
     have hm:=hk_22 _ (zaf hm (zbc (by first | exact hc33 | simpa using hc33)))
     try dsimp only at hm
     refine hW12 _ _ _ _ ?_ (hcut12 n_23 hm)
     exact zn
    have hlt33:=zbb (by first | exact hc33 | simpa using hc33)
    have hw33:=zR hlt33 hl_15
    obtain ⟨s_4,nx_24,hxs_4,hys_4,hnx_24,hm⟩:=zS hm hlt33
    replace hxs_4:=hxs_4 ecS
    refine Wp.skip ?_
    simp only [zl]
    refine hK33 _ _ ?_
    refine Wp.seqW fun K34 hK34 hW34=>?_
    refine Wp.block ?_
    refine Wp.seqR fun K35 hK35=>?_
    simp only [go_sem,simprocAttr,hw33,hxs_4]
    refine kA hK35 ?_
    refine Wp.seqW fun K36 hK36 hW36=>?_
    refine Wp.seqR fun K37 hK37=>?_
    simp only [go_sem,simprocAttr,hw33,hxs_4]
    refine kA hK37 ?_
    refine cM hm (fun hc38 hm=>?_) (fun hc38 hm=>?_)
    ·cases hm
    ·refine Wp.skip ?_
     refine hK36 _ _ ?_
     refine Wp.region fun K39 hK39=>?_
     simp only [go_sem,simprocAttr,hw33,hxs_4]
     refine kA hK39 ?_
     refine hK34 _ _ ?_
     refine Wp.region fun K40 hK40=>?_
     simp only [go_sem,simprocAttr,hw33,hxs_4]
     refine kA hK40 ?_
     simp only [zl,zi,↓reduceIte]
     refine ⟨IntKind.i64.wrap (n_23+(s_4.length:Int)),hlt33,hnx_24 _ hm,?_⟩
     simp only [go_sem,simprocAttr,hw33,hxs_4]
     try exact se3
   clear hK11 hk_7
   refine qS ?_
   refine cM hm (fun hc42 hm=>?_) (fun hc42 hm=>?_)
   ·refine Wp.seqW fun K43 hK43 hW43=>?_
    obtain ⟨c_29,hm⟩:=zf hm
    refine Wp.seqR fun K44 hK44=>?_
    simp only [go_sem,simprocAttr]
    refine kA hK44 ?_
    refine cM hm (fun hc45 hm=>?_) (fun hc45 hm=>?_)
    ·cases hm
    ·refine Wp.skip ?_
     refine hK43 _ _ ?_
     refine qR ?_
     refine hW11 _ _ _ _ ?_ (hcut11 (IntKind.i64.wrap (0+(IntKind.i64.wrap ((sep_5.length:Int) * (IntKind.i64.wrap ((elems_3.length:Int) - 1)))))) hm)
     exact zn
   ·refine Wp.skip ?_
    refine hW11 _ _ _ _ ?_ (hcut11 0 hm)
    exact zn
theorem zhn (r_2:api_Record) (z:Str) (hm:zb5 r_2=some z):Does Tryz.prog 37 [.agg [.p (.i .i64 r_2.Time),.p (.i .i64 r_2.Kind),.p (.s r_2.Pack),.p (.i .i64 r_2.From.Major),.p (.i .i64 r_2.From.Minor),.p (.i .i64 r_2.From.Patch),.p (.s r_2.From.Early),.p (.i .i64 r_2.To.Major),.p (.i .i64 r_2.To.Minor),.p (.i .i64 r_2.To.Patch),.p (.s r_2.To.Early),.p (.i .i64 r_2.Result),.p (.s r_2.Note)]] [] (fun r X=>r=.p (.s z)∧X=[]):=by
 unfold zb5 at hm
 refine dW 0 27 [.tmp 2] Tryz.func37 fun B=>?_
 refine qS ?_
 obtain ⟨r_3,hr_3,hm⟩:=zb hm
 obtain ⟨r_4,hr_4,hm⟩:=zb hm
 obtain ⟨s_1,hbs_1,hxs_1,hys_1,hm⟩:=zZ hm
 replace hxs_1:∀ d,(List.map ecS r_4).getD r_2.Kind.toNat d=ecS s_1:=hxs_1 ecS
 obtain ⟨r_5,hr_5,hm⟩:=zb hm
 obtain ⟨r_6,hr_6,hm⟩:=zb hm
 obtain ⟨r_7,hr_7,hm⟩:=zb hm
 obtain ⟨r_8,hr_8,hm⟩:=zb hm
 obtain ⟨r_9,hr_9,hm⟩:=zb hm
 refine Wp.seqD (plan:=pl [(0,none),(1,none),(2,none),(4,none),(5,none),(8,none),(9,none),(10,none),(11,none),(13,none),(14,none),(16,none),(17,none),(19,none),(20,none),(3,some [4,5,8,9,10,11,13,14,16,17,19,20]),(6,none),(7,none),(12,none),(15,none),(18,none),(21,none),(22,some []),(23,none),(24,none)]) (by kernel_rfl) rfl (by kernel_rfl) fun K2 hK2=>?_
 simp only [go_sem,simprocAttr,hxs_1]
 try refine ⟨sd,?_⟩
 refine Dr.callF (av:=?av3) (g:=true) (o:=?o3) (fun hg=>zac r_2.Time _ hr_3) (by simp only [go_sem,simprocAttr,hxs_1]; exact Is.mk) (by simp only [go_sem,simprocAttr,hxs_1]; exact Is.mk) (by simp only [go_sem,simprocAttr,hxs_1]; exact Is.mk) (by simp only [go_sem,simprocAttr,hxs_1]; exact Is.mk) (by simp only [go_sem,simprocAttr,hxs_1]) (by simp only [go_sem,simprocAttr,hxs_1]; exact Is.mk) ?cont3
 simp only [go_sem,simprocAttr,hxs_1]
 try refine ⟨sd,?_⟩
 refine Dr.of_br (Br.callR (av:=?av4) (g:=true) (o:=?o4) [] (fun hg=>ze3  _ hr_4) (by simp only [go_sem,simprocAttr,hxs_1]; exact Is.mk) (by simp only [go_sem,simprocAttr,hxs_1]; exact Is.mk) (by simp only [go_sem,simprocAttr,hxs_1]; exact Is.mk) (by simp only [go_sem,simprocAttr,hxs_1]; exact Is.mk) (by simp only [go_sem,simprocAttr,hxs_1]; exact Is.mk) (by simp only [go_sem,simprocAttr,hxs_1]) (by simp only [go_sem,simprocAttr,hxs_1]) (by simp only [go_sem,simprocAttr,hxs_1]) ?hag4 ?cont4)
 case hag4=>first | (simp only [go_sem,simprocAttr,hxs_1]; done) | (simp only [go_sem,simprocAttr,hxs_1]; exact sd)
 simp only [go_sem,simprocAttr,hxs_1]
 try refine ⟨sd,?_⟩
 refine Dr.callF (av:=?av5) (g:=true) (o:=?o5) (fun hg=>zec r_2.From _ hr_5) (by simp only [go_sem,simprocAttr,hxs_1]; exact Is.mk) (by simp only [go_sem,simprocAttr,hxs_1]; exact Is.mk) (by simp only [go_sem,simprocAttr,hxs_1]; exact Is.mk) (by simp only [go_sem,simprocAttr,hxs_1]; exact Is.mk) (by simp only [go_sem,simprocAttr,hxs_1]) (by simp only [go_sem,simprocAttr,hxs_1]; exact Is.mk) ?cont5
 simp only [go_sem,simprocAttr,hxs_1]
 try refine ⟨sd,?_⟩
 refine Dr.callF (av:=?av6) (g:=true) (o:=?o6) (fun hg=>zec r_2.To _ hr_6) (by simp only [go_sem,simprocAttr,hxs_1]; exact Is.mk) (by simp only [go_sem,simprocAttr,hxs_1]; exact Is.mk) (by simp only [go_sem,simprocAttr,hxs_1]; exact Is.mk) (by simp only [go_sem,simprocAttr,hxs_1]; exact Is.mk) (by simp only [go_sem,simprocAttr,hxs_1]) (by simp only [go_sem,simprocAttr,hxs_1]; exact Is.mk) ?cont6
 simp only [go_sem,simprocAttr,hxs_1]
 try refine ⟨sd,?_⟩
 refine Dr.callF (av:=?av7) (g:=true) (o:=?o7) (fun hg=>zac r_2.Result _ hr_7) (by simp only [go_sem,simprocAttr,hxs_1]; exact Is.mk) (by simp only [go_sem,simprocAttr,hxs_1]; exact Is.mk) (by simp only [go_sem,simprocAttr,hxs_1]; exact Is.mk) (by simp only [go_sem,simprocAttr,hxs_1]; exact Is.mk) (by simp only [go_sem,simprocAttr,hxs_1]) (by simp only [go_sem,simprocAttr,hxs_1]; exact Is.mk) ?cont7
 simp only [go_sem,simprocAttr,hxs_1]
 try refine ⟨sd,?_⟩
 refine Dr.callF (av:=?av8) (g:=true) (o:=?o8) (fun hg=>zkT r_2.Note _ hr_8) (by simp only [go_sem,simprocAttr,hxs_1]; exact Is.mk) (by simp only [go_sem,simprocAttr,hxs_1]; exact Is.mk) (by simp only [go_sem,simprocAttr,hxs_1]; exact Is.mk) (by simp only [go_sem,simprocAttr,hxs_1]; exact Is.mk) (by simp only [go_sem,simprocAttr,hxs_1]) (by simp only [go_sem,simprocAttr,hxs_1]; exact Is.mk) ?cont8
 simp only [go_sem,simprocAttr,hxs_1]
 try refine ⟨sd,?_⟩
 refine Dr.callF (av:=?av9) (g:=true) (o:=?o9) (fun hg=>zfm [r_3,s_1,r_2.Pack,r_5,r_6,r_7,r_8] ([32]:Str) _ hr_9) (by simp only [go_sem,simprocAttr,hxs_1]; exact Is.mk) (by simp only [go_sem,simprocAttr,hxs_1]; exact Is.mk) (by simp only [go_sem,simprocAttr,hxs_1]; exact Is.mk) (by simp only [go_sem,simprocAttr,hxs_1]; exact Is.mk) (by simp only [go_sem,simprocAttr,hxs_1]) (by simp only [go_sem,simprocAttr,hxs_1]; exact Is.mk) ?cont9
 simp only [go_sem,simprocAttr,hxs_1]
 refine kA hK2 ?_
 refine Wp.ret ?_
 refine zc ?_
 cases hm
 simp only [go_sem,simprocAttr,hxs_1]
 try exact se3
theorem zdq (text_3:Str) (z:Str) (hm:zdC text_3=some z):Does Tryz.prog 38 [.p (.s text_3)] [] (fun r X=>r=.p (.s z)∧X=[]):=by
 unfold zdC at hm
 refine dW 0 39 [.tmp 2] Tryz.func38 fun B=>?_
 refine qS ?_
 refine qS ?_
 refine Wp.seqW fun K3 hK3 hW3=>?_
 obtain ⟨k_4,hk_4,hm⟩:=zk hm
 have hcut3:∀ s,k_4 s=some z→K3 [(3,.p (.i .u64 s))] []:=by
  intro n_9 hs
  have hm:=hk_4 _ hs
  clear hs
  try dsimp only at hm
  try dsimp only
  refine hK3 _ _ ?_
  refine qS ?_
  refine Wp.seqW fun K5 hK5 hW5=>?_
  obtain ⟨k_5,hk_5,hm⟩:=zk hm
  have hcut5:∀ s,k_5 s=some z→K5 [(5,.buf 0)] [.buf 5 1 (List.map zab s)]:=by
   intro o0_15 hs
   have hm:=hk_5 _ hs
   clear hs
   try dsimp only at hm
   try dsimp only
   refine hK5 _ _ ?_
   refine qS ?_
   refine Wp.ret ?_
   refine zc ?_
   cases hm
   exact zn
  clear hK5 hk_5
  refine qS ?_
  refine Wp.block ?_
  obtain ⟨k_10,hk_10,hm⟩:=zB hm
  refine Wp.loopN (fun s=>[(3,.p (.i .u64 n_9)),(5,.buf 0),(22,.p (.i .i64 ((List.replicate 16 0).length:Int))),(23,.p (.i .i64 s.1))]) (fun s=>[.buf 5 1 (List.map zab s.2)]) ?_ hm ?_
  ·
   exact zn
  clear hm
  intro s nx_16 hm
  obtain ⟨t23_7,o0_11⟩:=s
  try dsimp only at hm
  try dsimp only
  refine qS ?_
  refine Wp.seqW fun K9 hK9 hW9=>?_
  refine cM hm (fun hc10 hm=>?_) (fun hc10 hm=>?_)
  ·refine Wp.skip ?_
   refine hK9 _ _ ?_
   refine Wp.seqW fun K11 hK11 hW11=>?_
   refine Wp.block ?_
   refine qS ?_
   obtain ⟨c_17,hm⟩:=zf hm
   obtain ⟨c_1,hbc_1,hxc_1,hm⟩:=zai hm
   replace hxc_1:((([48,49,50,51,52,53,54,55,56,57,97,98,99,100,101,102]:Str).getD ((zaz .and .u64 (Int.fdiv n_9 (2 ^ (shI .u64 (IntKind.i64.wrap (60 - (IntKind.i64.wrap (4 * t23_7))))))) 15).toNat) 0).toNat:Int)=c_1:=hxc_1
   obtain ⟨c_18,hm⟩:=zf hm
   refine Wp.region fun K13 hK13=>?_
   simp only [go_sem,simprocAttr,hxc_1]
   refine kA hK13 ?_
   refine hK11 _ _ ?_
   refine Wp.region fun K14 hK14=>?_
   simp only [go_sem,simprocAttr,hxc_1]
   refine kA hK14 ?_
   simp only [zl,zi,↓reduceIte]
   refine ⟨(IntKind.i64.wrap (t23_7+1),List.set o0_11 t23_7.toNat c_1),hm,?_⟩
   simp only [go_sem,simprocAttr,hxc_1]
   try exact se3
  ·refine Wp.exit ?_
   simp only [zl,zi,↓reduceIte]
   have hm:=hk_10 _ hm
   try dsimp only at hm
   refine hW5 _ _ _ _ ?_ (hcut5 o0_11 hm)
   exact zn
 clear hK3 hk_4
 refine qS ?_
 refine Wp.block ?_
 obtain ⟨k_12,hk_12,hm⟩:=zT hm
 refine Wp.fact 0 fun hl_8=>?_
 replace hl_8:text_3.length≤274877906944:=by
  simp only [go_sem,simprocAttr,List.length_map] at hl_8
  omega
 refine Wp.forL (fun i_6 s=>[(0,.p (.s text_3)),(3,.p (.i .u64 s)),(4,.p (.i .i64 (i_6:Int)))]) (fun i_6 s=>[]) ?_ hm ?_
 ·
  exact zn
 clear hm
 intro i_6 n_13 hii_6 hm
 try dsimp only at hm
 try dsimp only
 refine Wp.seqW fun K16 hK16 hW16=>?_
 refine qS ?_
 refine Wp.cond rfl ⟨⟩ (fun hc16=>?_) (fun hc16=>?_)
 rotate_left
 ·refine Wp.exit ?_
  have hm:=hk_12 _ (zaf hm (zbc (by first | exact hc16 | simpa using hc16)))
  try dsimp only at hm
  refine hW3 _ _ _ _ ?_ (hcut3 n_13 hm)
  exact zn
 have hlt16:=zbb (by first | exact hc16 | simpa using hc16)
 have hw16:=zR hlt16 hl_8
 obtain ⟨c_2,nx_14,hxc_2,hyc_2,hnx_14,hm⟩:=zS hm hlt16
 clear hxc_2
 refine Wp.skip ?_
 simp only [zl]
 refine hK16 _ _ ?_
 refine Wp.seqW fun K18 hK18 hW18=>?_
 refine Wp.block ?_
 refine Wp.region fun K19 hK19=>?_
 simp only [go_sem,simprocAttr,hw16,hyc_2]
 refine kA hK19 ?_
 refine hK18 _ _ ?_
 refine Wp.region fun K20 hK20=>?_
 simp only [go_sem,simprocAttr,hw16,hyc_2]
 refine kA hK20 ?_
 simp only [zl,zi,↓reduceIte]
 refine ⟨IntKind.u64.wrap ((zaz .xor .u64 n_13 (IntKind.u64.wrap (c_2.toNat:Int))) * 1099511628211),hlt16,hnx_14 _ hm,?_⟩
 simp only [go_sem,simprocAttr,hw16,hyc_2]
 try exact se3
theorem zgo (r_1:api_Record) (o0_1_4:Int) (m1_2:List (Str × log_had)) (z:Int × (List (Str × log_had))) (hm:zbv r_1 o0_1_4 m1_2=some z):Does Tryz.prog 39 [.ptr 0 0,.agg [.p (.i .i64 r_1.Time),.p (.i .i64 r_1.Kind),.p (.s r_1.Pack),.p (.i .i64 r_1.From.Major),.p (.i .i64 r_1.From.Minor),.p (.i .i64 r_1.From.Patch),.p (.s r_1.From.Early),.p (.i .i64 r_1.To.Major),.p (.i .i64 r_1.To.Minor),.p (.i .i64 r_1.To.Patch),.p (.s r_1.To.Early),.p (.i .i64 r_1.Result),.p (.s r_1.Note)]] [.cells 99 [.mp 1,.p (.i .i64 o0_1_4)],.mp true (zcN Dt.s zm m1_2)] (fun r X=>r=.tup []∧X=[.cells 99 [.mp 1,.p (.i .i64 z.1)],.mp true (zcN Dt.s zm z.2)]):=by
 unfold zbv at hm
 refine dW 2 37 [] Tryz.func39 fun B=>?_
 refine qS ?_
 refine qS ?_
 refine Wp.seqW fun K3 hK3 hW3=>?_
 refine qS ?_
 refine cM hm (fun hc5 hm=>?_) (fun hc5 hm=>?_)
 ·refine Wp.ret ?_
  refine zc ?_
  cases hm
  exact zn
 ·refine Wp.skip ?_
  refine hK3 _ _ ?_
  refine qS ?_
  refine Wp.block ?_
  refine Wp.seqW fun K7 hK7 hW7=>?_
  obtain ⟨k_3,hk_3,hm⟩:=zk hm
  have hcut7:∀ s,k_3 s=some z→K7 [(0,.ptr 0 0),(3,.ptr 2 0),(13,.p (.i .i64 r_1.Kind)),(14,.p (.b s))] [.cells 99 [.mp 1,.p (.i .i64 r_1.Time)],.mp true (zcN Dt.s zm m1_2),.cells 30 [.p (.i .i64 r_1.Time),.p (.i .i64 r_1.Kind),.p (.s r_1.Pack),.p (.i .i64 r_1.From.Major),.p (.i .i64 r_1.From.Minor),.p (.i .i64 r_1.From.Patch),.p (.s r_1.From.Early),.p (.i .i64 r_1.To.Major),.p (.i .i64 r_1.To.Minor),.p (.i .i64 r_1.To.Patch),.p (.s r_1.To.Early),.p (.i .i64 r_1.Result),.p (.s r_1.Note)]]:=by
   intro t14_7 hs
   have hm:=hk_3 _ hs
   clear hs
   try dsimp only at hm
   try dsimp only
   refine hK7 _ _ ?_
   refine cM hm (fun hc8 hm=>?_) (fun hc8 hm=>?_)
   ·obtain ⟨c_8,hm⟩:=zf hm
    have hp_5:=zkZ (e:=zm) keq_s m1_2 r_1.Pack (log_had.mk r_1.To r_1.Time)
    simp only [zm] at hp_5
    refine Wp.regD (plan:=pl [(0,none),(1,none),(2,none),(3,none),(4,none),(5,none),(6,none),(7,none),(8,none),(9,none),(10,none),(11,some [])]) (by kernel_rfl) rfl (by kernel_rfl) fun K9 hK9=>?_
    simp only [go_sem,simprocAttr,hp_5]
    refine kA hK9 ?_
    simp only [zl,zi,↓reduceIte]
    refine zaJ ?_
    cases hm
    exact zn
   ·refine qS ?_
    refine cM hm (fun hc11 hm=>?_) (fun hc11 hm=>?_)
    ·have hp_6:=zk0 (e:=zm) keq_s m1_2 r_1.Pack
     refine Wp.regD (plan:=pl [(0,none),(1,none),(2,none),(3,none),(4,none),(5,none),(6,some [])]) (by kernel_rfl) rfl (by kernel_rfl) fun K12 hK12=>?_
     simp only [go_sem,simprocAttr,hp_6]
     refine kA hK12 ?_
     simp only [zl,zi,↓reduceIte]
     refine zaJ ?_
     cases hm
     exact zn
    ·refine Wp.skip ?_
     simp only [zl,zi,↓reduceIte]
     refine zaJ ?_
     cases hm
     exact zn
  clear hK7 hk_3
  refine qS ?_
  refine cM hm (fun hc14 hm=>?_) (fun hc14 hm=>?_)
  ·refine Wp.skip ?_
   refine hW7 _ _ _ _ ?_ (hcut7 (decide (r_1.Kind=1)) hm)
   exact zn
  ·refine qS ?_
   refine cM hm (fun hc16 hm=>?_) (fun hc16 hm=>?_)
   ·refine Wp.skip ?_
    refine hW7 _ _ _ _ ?_ (hcut7 (decide (r_1.Kind=2)) hm)
    exact zn
   ·refine qR ?_
    refine hW7 _ _ _ _ ?_ (hcut7 (decide (r_1.Kind=3)) hm)
    exact zn
theorem zho (r_1:api_Record) (o0_2_4:Str) (o1_6:List api_Record) (o2_7:List Str) (o3_1_2:Int) (m4_3:List (Str × log_had)) (z:Int × Str × List api_Record × List Str × Int × (List (Str × log_had))) (hm:zb6 r_1 o0_2_4 o1_6 o2_7 o3_1_2 m4_3=some z):Does Tryz.prog 12 [.ptr 0 0,.agg [.p (.i .i64 r_1.Time),.p (.i .i64 r_1.Kind),.p (.s r_1.Pack),.p (.i .i64 r_1.From.Major),.p (.i .i64 r_1.From.Minor),.p (.i .i64 r_1.From.Patch),.p (.s r_1.From.Early),.p (.i .i64 r_1.To.Major),.p (.i .i64 r_1.To.Minor),.p (.i .i64 r_1.To.Patch),.p (.s r_1.To.Early),.p (.i .i64 r_1.Result),.p (.s r_1.Note)]] [.cells 63 [.buf 1,.buf 2,.p (.s o0_2_4),.ptr 3 0],.buf 30 13 (List.map za o1_6),.buf 9 1 (List.map ecS o2_7),.cells 99 [.mp 4,.p (.i .i64 o3_1_2)],.mp true (zcN Dt.s zm m4_3)] (fun r X=>r=.p (.i .i64 z.1)∧X=[.cells 63 [.buf 1,.buf 2,.p (.s z.2.1),.ptr 3 0],.buf 30 13 (List.map za z.2.2.1),.buf 9 1 (List.map ecS z.2.2.2.1),.cells 99 [.mp 4,.p (.i .i64 z.2.2.2.2.1)],.mp true (zcN Dt.s zm z.2.2.2.2.2)]):=by
 unfold zb6 at hm
 refine dW 5 76 [.tmp 4] Tryz.func12 fun B=>?_
 refine qS ?_
 refine Wp.seqW fun K2 hK2 hW2=>?_
 obtain ⟨r_8,hr_8,hm⟩:=zb hm
 refine Wp.seqR fun K3 hK3=>?_
 simp only [go_sem,simprocAttr]
 try refine ⟨sd,?_⟩
 refine Rg.callX (av:=?av4) (g:=true) (fun hg=>zed r_1 _ hr_8) si si si sg si ?cont4
 intro hv4
 simp only [go_sem,simprocAttr]
 refine kA hK3 ?_
 refine qS ?_
 refine cM hm (fun hc6 hm=>?_) (fun hc6 hm=>?_)
 ·refine qS ?_
  refine Wp.ret ?_
  refine zc ?_
  cases hm
  exact zn
 ·refine Wp.skip ?_
  refine hK2 _ _ ?_
  obtain ⟨r_9,hr_9,hm⟩:=zb hm
  refine Wp.seqD (plan:=pl [(0,none),(1,none),(2,none),(3,none),(4,none),(5,some []),(6,none)]) (by kernel_rfl) rfl (by kernel_rfl) fun K8 hK8=>?_
  simp only [go_sem,simprocAttr]
  try refine ⟨sd,?_⟩
  refine Dr.of_br (Br.callR (av:=?av9) (g:=true) (o:=?o9) [3,4] (fun hg=>zfp r_1 o3_1_2 m4_3 _ hr_9) si si si si si sg sg sg sg ?cont9)
  simp only [go_sem,simprocAttr]
  refine kA hK8 ?_
  refine Wp.seqW fun K10 hK10 hW10=>?_
  refine qS ?_
  refine cM hm (fun hc12 hm=>?_) (fun hc12 hm=>?_)
  ·refine qS ?_
   refine Wp.ret ?_
   refine zc ?_
   cases hm
   exact zn
  ·refine Wp.skip ?_
   refine hK10 _ _ ?_
   refine Wp.seqW fun K14 hK14 hW14=>?_
   refine qS ?_
   refine cM hm (fun hc16 hm=>?_) (fun hc16 hm=>?_)
   ·refine qS ?_
    refine Wp.ret ?_
    refine zc ?_
    cases hm
    exact zn
   ·refine Wp.skip ?_
    refine hK14 _ _ ?_
    refine Wp.seqW fun K18 hK18 hW18=>?_
    refine qS ?_
    refine cM hm (fun hc20 hm=>?_) (fun hc20 hm=>?_)
    ·refine qS ?_
     refine Wp.ret ?_
     refine zc ?_
     cases hm
     exact zn
    ·refine Wp.skip ?_
     refine hK18 _ _ ?_
     obtain ⟨r_5,hr_5,hm⟩:=zb hm
     refine Wp.seqR fun K22 hK22=>?_
     simp only [go_sem,simprocAttr]
     try refine ⟨sd,?_⟩
     refine Rg.callX (av:=?av23) (g:=true) (fun hg=>zhn r_1 _ hr_5) si si si sg si ?cont23
     intro hv23
     simp only [go_sem,simprocAttr]
     refine kA hK22 ?_
     obtain ⟨c_12,hm⟩:=zf hm
     obtain ⟨r_10,hr_10,hm⟩:=zb hm
     refine Wp.seqR fun K24 hK24=>?_
     simp only [go_sem,simprocAttr]
     try refine ⟨sL,?_⟩
     refine Rg.callX (av:=?av25) (g:=true) (fun hg=>zdq (o0_2_4++r_5) _ hr_10) si si si sg si ?cont25
     intro hv25
     simp only [go_sem,simprocAttr]
     refine kA hK24 ?_
     obtain ⟨c_13,hm⟩:=zf hm
     refine Wp.seqD (plan:=pl [(0,none),(1,none),(2,none),(3,none),(4,none),(5,none),(6,some [0,1,2,3,4]),(7,some [0]),(8,none),(9,none),(10,some [])]) (by kernel_rfl) rfl (by kernel_rfl) fun K26 hK26=>?_
     simp only [go_sem,simprocAttr]
     refine kA hK26 ?_
     obtain ⟨c_14,hm⟩:=zf hm
     obtain ⟨c_15,hm⟩:=zf hm
     obtain ⟨c_16,hm⟩:=zf hm
     obtain ⟨c_17,hm⟩:=zf hm
     refine Wp.seqD (plan:=pl [(0,none),(1,none),(2,none),(3,none),(4,none),(5,none),(6,none),(7,none),(8,none),(9,none),(10,none),(11,none),(12,none),(13,some [0,1,2,3,4]),(14,some [0]),(15,none),(16,none),(17,some [])]) (by kernel_rfl) rfl (by kernel_rfl) fun K27 hK27=>?_
     simp only [go_sem,simprocAttr]
     refine kA hK27 ?_
     obtain ⟨r_11,hr_11,hm⟩:=zb hm
     refine Wp.seqD (plan:=pl [(0,none),(1,none),(2,none),(3,none),(4,none),(5,some [])]) (by kernel_rfl) rfl (by kernel_rfl) fun K28 hK28=>?_
     simp only [go_sem,simprocAttr]
     try refine ⟨sd,?_⟩
     refine Dr.of_br (Br.callE (av:=?av29) (o:=?o29) [3,4] (zgo r_1 o3_1_2 m4_3 _ hr_11) si si si si si sg sg sg sg ?cont29)
     simp only [go_sem,simprocAttr]
     refine kA hK28 ?_
     refine qS ?_
     refine Wp.ret ?_
     refine zc ?_
     cases hm
     exact zn
theorem ze5  (z:List Str) (hm:zdy=some z):Does Tryz.prog 79 [] [] (fun r X=>r=.p (.l (List.map ecS z))∧X=[]):=by
 unfold zdy at hm
 refine dW 0 2 [.tmp 0] Tryz.func79 fun B=>?_
 refine qS ?_
 refine qS ?_
 refine Wp.ret ?_
 refine zgJ ?_
 cases hm
 exact zn
theorem zh2 (v_1:api_Version) (z:Str) (hm:zcM v_1=some z):Does Tryz.prog 78 [.agg [.p (.i .i64 v_1.Major),.p (.i .i64 v_1.Minor),.p (.i .i64 v_1.Patch),.p (.s v_1.Early)]] [] (fun r X=>r=.p (.s z)∧X=[]):=by
 unfold zcM at hm
 refine dW 0 26 [.tmp 2] Tryz.func78 fun B=>?_
 refine qS ?_
 obtain ⟨r_2,hr_2,hm⟩:=zb hm
 obtain ⟨c_5,hm⟩:=zf hm
 obtain ⟨r_3,hr_3,hm⟩:=zb hm
 obtain ⟨c_6,hm⟩:=zf hm
 obtain ⟨c_7,hm⟩:=zf hm
 obtain ⟨r_4,hr_4,hm⟩:=zb hm
 obtain ⟨c_8,hm⟩:=zf hm
 refine Wp.seqD (plan:=pl [(0,none),(1,none),(2,none),(3,none),(4,none),(5,none),(6,none),(7,none),(8,none),(9,none),(10,none),(11,none),(12,none),(13,none)]) (by kernel_rfl) rfl (by kernel_rfl) fun K2 hK2=>?_
 simp only [go_sem,simprocAttr]
 try refine ⟨sL,?_⟩
 refine Dr.callF (av:=?av3) (g:=true) (o:=?o3) (fun hg=>zac v_1.Major _ hr_2) si si si si sg si ?cont3
 simp only [go_sem,simprocAttr]
 try refine ⟨sL,?_⟩
 refine Dr.callF (av:=?av4) (g:=true) (o:=?o4) (fun hg=>zac v_1.Minor _ hr_3) si si si si sg si ?cont4
 simp only [go_sem,simprocAttr]
 try refine ⟨sL,?_⟩
 refine Dr.callF (av:=?av5) (g:=true) (o:=?o5) (fun hg=>zac v_1.Patch _ hr_4) si si si si sg si ?cont5
 simp only [go_sem,simprocAttr]
 refine kA hK2 ?_
 refine Wp.seqW fun K6 hK6 hW6=>?_
 refine qS ?_
 refine cM hm (fun hc8 hm=>?_) (fun hc8 hm=>?_)
 ·obtain ⟨c_9,hm⟩:=zf hm
  obtain ⟨c_10,hm⟩:=zf hm
  refine Wp.region fun K9 hK9=>?_
  simp only [go_sem,simprocAttr]
  refine kA hK9 ?_
  refine hK6 _ _ ?_
  refine qS ?_
  refine Wp.ret ?_
  refine zc ?_
  cases hm
  exact zn
 ·refine Wp.skip ?_
  refine hK6 _ _ ?_
  refine qS ?_
  refine Wp.ret ?_
  refine zc ?_
  cases hm
  exact zn
theorem zew (v_1:api_Version) (z:Str) (hm:zbA v_1=some z):Does Tryz.prog 77 [.agg [.p (.i .i64 v_1.Major),.p (.i .i64 v_1.Minor),.p (.i .i64 v_1.Patch),.p (.s v_1.Early)]] [] (fun r X=>r=.p (.s z)∧X=[]):=by
 unfold zbA at hm
 refine dW 0 8 [.tmp 2] Tryz.func77 fun B=>?_
 refine qS ?_
 refine Wp.seqW fun K2 hK2 hW2=>?_
 refine qS ?_
 refine cM hm (fun hc4 hm=>?_) (fun hc4 hm=>?_)
 ·refine qS ?_
  refine Wp.ret ?_
  refine zc ?_
  cases hm
  exact zn
 ·refine Wp.skip ?_
  refine hK2 _ _ ?_
  obtain ⟨r_2,hr_2,hm⟩:=zb hm
  refine Wp.seqR fun K6 hK6=>?_
  simp only [go_sem,simprocAttr]
  try refine ⟨sd,?_⟩
  refine Rg.callX (av:=?av7) (g:=true) (fun hg=>zh2 v_1 _ hr_2) si si si sg si ?cont7
  intro hv7
  simp only [go_sem,simprocAttr]
  refine kA hK6 ?_
  refine Wp.ret ?_
  refine zc ?_
  cases hm
  exact zn
end Go.Proofs.YtmnohdgjkcjdeaaGreatDoor
