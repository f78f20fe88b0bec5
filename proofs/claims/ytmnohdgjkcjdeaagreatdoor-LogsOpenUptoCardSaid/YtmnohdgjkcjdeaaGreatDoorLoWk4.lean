/- That the code does what the models say (part 4). -/
import Derived.Test.YtmnohdgjkcjdeaaGreatDoorLoWk0
import Derived.Test.YtmnohdgjkcjdeaaGreatDoorLoWk3
set_option linter.unusedSimpArgs false
set_option linter.unusedVariables false
open Go.Proofs Go.Shelf
namespace Go.Proofs.YtmnohdgjkcjdeaaGreatDoor
open Go.Vc Go.Md
set_option maxRecDepth 100000
set_option maxHeartbeats 4000000
theorem ok_disk_Quote (s_1:Str) (z:Str) (hm:zeA s_1=some z):Does Tryz.prog 76 [.p (.s s_1)] [] (fun r X=>r=.p (.s z)∧X=[]):=by
 unfold zeA at hm
 refine dW 0 63 [.tmp 2] Tryz.func76 fun B=>?_
 refine qS ?_
 obtain ⟨c_2,hm⟩:=zf hm
 refine Wp.seqR fun K2 hK2=>?_
 simp only [go_sem,simprocAttr]
 refine kA hK2 ?_
 obtain ⟨c_3,hm⟩:=zf hm
 refine Wp.seqR fun K3 hK3=>?_
 simp only [go_sem,simprocAttr]
 refine kA hK3 ?_
 refine Wp.seqW fun K4 hK4 hW4=>?_
 obtain ⟨k_33,hk_33,hm⟩:=zl hm
 have hcut4:∀ s,k_33 s=some z→K4 [(3,.buf 0)] [.buf 5 1 (List.map zac s)]:=by
  intro o0_32 hs
  have hm:=hk_33 _ hs
  clear hs
  try dsimp only at hm
  try dsimp only
  refine hK4 _ _ ?_
  obtain ⟨c_34,hm⟩:=zf hm
  refine Wp.seqR fun K5 hK5=>?_
  simp only [go_sem,simprocAttr]
  refine kA hK5 ?_
  refine Wp.ret ?_
  refine zc ?_
  cases hm
  exact zm
 clear hK4 hk_33
 refine qS ?_
 refine Wp.block ?_
 obtain ⟨k_52,hk_52,hm⟩:=zQ hm
 refine Wp.fact 0 fun hl_55=>?_
 replace hl_55:s_1.length≤274877906944:=by
  simp only [go_sem,simprocAttr,List.length_map] at hl_55
  omega
 refine Wp.forL (fun i_54 s=>[(0,.p (.s s_1)),(3,.buf 0),(4,.p (.i .i64 (i_54:Int)))]) (fun i_54 s=>[.buf 5 1 (List.map zac s)]) ?_ hm ?_
 ·
  exact zm
 clear hm
 intro i_54 o0_44 hii_54 hm
 try dsimp only at hm
 try dsimp only
 refine Wp.seqW fun K7 hK7 hW7=>?_
 refine qS ?_
 refine Wp.cond rfl ⟨⟩ (fun hc7=>?_) (fun hc7=>?_)
 rotate_left
 ·refine Wp.exit ?_
  have hm:=hk_52 _ (zae hm (zbd (by first | exact hc7 | simpa using hc7)))
  try dsimp only at hm
  refine hW4 _ _ _ _ ?_ (hcut4 o0_44 hm)
  exact zm
 have hlt7:=zbc (by first | exact hc7 | simpa using hc7)
 have hw7:=zO hlt7 hl_55
 obtain ⟨c_56,nx_53,hxc_56,hyc_56,hnx_53,hm⟩:=zP hm hlt7
 clear hxc_56
 refine Wp.skip ?_
 simp only [zk]
 refine hK7 _ _ ?_
 refine Wp.seqW fun K9 hK9 hW9=>?_
 refine Wp.block ?_
 refine Wp.seqR fun K10 hK10=>?_
 simp only [go_sem,simprocAttr,hw7,hyc_56]
 refine kA hK10 ?_
 refine Wp.block ?_
 refine Wp.seqR fun K11 hK11=>?_
 simp only [go_sem,simprocAttr,hw7,hyc_56]
 refine kA hK11 ?_
 refine cM hm (fun hc12 hm=>?_) (fun hc12 hm=>?_)
 ·obtain ⟨c_57,hm⟩:=zf hm
  refine Wp.region fun K13 hK13=>?_
  simp only [go_sem,simprocAttr,hw7,hyc_56]
  refine kA hK13 ?_
  refine hK9 _ _ ?_
  refine Wp.region fun K14 hK14=>?_
  simp only [go_sem,simprocAttr,hw7,hyc_56]
  refine kA hK14 ?_
  simp only [zk,zi,↓reduceIte]
  refine ⟨o0_44++[92,(c_56.toNat:Int)],hlt7,hnx_53 _ hm,?_⟩
  simp only [go_sem,simprocAttr,hw7,hyc_56]
  try exact se3
 ·refine Wp.seqR fun K15 hK15=>?_
  simp only [go_sem,simprocAttr,hw7,hyc_56]
  refine kA hK15 ?_
  refine cM hm (fun hc16 hm=>?_) (fun hc16 hm=>?_)
  ·obtain ⟨c_58,hm⟩:=zf hm
   refine Wp.region fun K17 hK17=>?_
   simp only [go_sem,simprocAttr,hw7,hyc_56]
   refine kA hK17 ?_
   refine hK9 _ _ ?_
   refine Wp.region fun K18 hK18=>?_
   simp only [go_sem,simprocAttr,hw7,hyc_56]
   refine kA hK18 ?_
   simp only [zk,zi,↓reduceIte]
   refine ⟨o0_44++[92,110],hlt7,hnx_53 _ hm,?_⟩
   simp only [go_sem,simprocAttr,hw7,hyc_56]
   try exact se3
  ·refine Wp.seqR fun K19 hK19=>?_
   simp only [go_sem,simprocAttr,hw7,hyc_56]
   refine kA hK19 ?_
   refine cM hm (fun hc20 hm=>?_) (fun hc20 hm=>?_)
   ·obtain ⟨c_59,hbc_59,hxc_59,hm⟩:=zab hm
    replace hxc_59:((([48,49,50,51,52,53,54,55,56,57,97,98,99,100,101,102]:Str).getD ((Int.fdiv (c_56.toNat:Int) (2 ^ (shI .u8 4))).toNat) 0).toNat:Int)=c_59:=hxc_59
    obtain ⟨c_60,hbc_60,hxc_60,hm⟩:=zab hm
    replace hxc_60:((([48,49,50,51,52,53,54,55,56,57,97,98,99,100,101,102]:Str).getD ((zaw .and .u8 (c_56.toNat:Int) 15).toNat) 0).toNat:Int)=c_60:=hxc_60
    obtain ⟨c_61,hm⟩:=zf hm
    refine Wp.regD (plan:=pl [(0,none),(1,none),(2,none),(3,none),(4,none),(5,none),(6,none),(7,some [0]),(8,some []),(9,none)]) (by kernel_rfl) rfl (by kernel_rfl) fun K21 hK21=>?_
    simp only [go_sem,simprocAttr,hw7,hyc_56,hxc_59,hxc_60]
    refine kA hK21 ?_
    refine hK9 _ _ ?_
    refine Wp.region fun K22 hK22=>?_
    simp only [go_sem,simprocAttr,hw7,hyc_56,hxc_59,hxc_60]
    refine kA hK22 ?_
    simp only [zk,zi,↓reduceIte]
    refine ⟨o0_44++[92,120,c_59,c_60],hlt7,hnx_53 _ hm,?_⟩
    simp only [go_sem,simprocAttr,hw7,hyc_56,hxc_59,hxc_60]
    try exact se3
   ·obtain ⟨c_62,hm⟩:=zf hm
    refine Wp.region fun K23 hK23=>?_
    simp only [go_sem,simprocAttr,hw7,hyc_56]
    refine kA hK23 ?_
    refine hK9 _ _ ?_
    refine Wp.region fun K24 hK24=>?_
    simp only [go_sem,simprocAttr,hw7,hyc_56]
    refine kA hK24 ?_
    simp only [zk,zi,↓reduceIte]
    refine ⟨o0_44++[(c_56.toNat:Int)],hlt7,hnx_53 _ hm,?_⟩
    simp only [go_sem,simprocAttr,hw7,hyc_56]
    try exact se3
theorem zcz (n:Int) (o0:Str) (z:Unit) (hm:zaL n o0=some z):Does Tryz.prog 84 [.ptr 0 0,.p (.i .i64 n)] [.cells 75 [.np 0,.buf 1],.sb 5 o0] (fun r X=>r=.tup []∧X=[.cells 75 [.np 0,.buf 1],.sb 5 o0]):=by
 obtain ⟨h,-⟩:=zf hm
 obtain ⟨k,rfl⟩:=Int.eq_ofNat_of_zero_le h.1
 exact Does.grow growLay growExt k o0 (by omega)
theorem zcS (o1_1:Str) (z:Unit) (hm:zbG o1_1=some z):Does Tryz.prog 83 [.ptr 0 0] [.cells 75 [.nil,.buf 1],.sb 5 o1_1] (fun r X=>r=.tup []∧X=[.cells 75 [.ptr 0 0,.buf 1],.sb 5 o1_1]):=by
 unfold zbG at hm
 refine dW 2 20 [] Tryz.func83 fun B=>?_
 refine qS ?_
 refine Wp.cond rfl ⟨⟩ (fun hc2=>?_) (fun hc2=>?_)
 rotate_left
 ·cases hc2
 refine Wp.region fun K3 hK3=>?_
 simp only [go_sem,simprocAttr]
 try refine ⟨sd,?_⟩
 refine Rg.callI (v:=?av4) (g:=true) nvi_117 si si sg ?cont4
 simp only [go_sem,simprocAttr]
 refine kA hK3 ?_
 refine zaJ ?_
 cases hm
 exact zm
theorem zcR (o1_1:Str) (z:Unit) (hm:zbF o1_1=some z):Does Tryz.prog 83 [.ptr 0 0] [.cells 75 [.ptr 0 0,.buf 1],.sb 5 o1_1] (fun r X=>r=.tup []∧X=[.cells 75 [.ptr 0 0,.buf 1],.sb 5 o1_1]):=by
 unfold zbF at hm
 refine dW 2 20 [] Tryz.func83 fun B=>?_
 refine qS ?_
 refine Wp.cond rfl ⟨⟩ (fun hc2=>?_) (fun hc2=>?_)
 ·cases hc2
 refine qS ?_
 refine Wp.cond rfl ⟨⟩ (fun hc4=>?_) (fun hc4=>?_)
 ·cases hc4
 refine Wp.skip ?_
 refine zaJ ?_
 cases hm
 exact zm
theorem zcQ (o0:Str) (z:Unit) (hm:zaP o0=some z):Does Tryz.prog 83 [.ptr 0 0] [.cells 75 [.np 0,.buf 1],.sb 5 o0] (fun r X=>r=.tup []∧X=[.cells 75 [.np 0,.buf 1],.sb 5 o0]) :=
 Does.np (zcS o0 () rfl) (zcR o0 () rfl)
theorem zE (s_1:Str) (o1_2:Str) (z:Int × Str) (hm:zh s_1 o1_2=some z):Does Tryz.prog 42 [.ptr 0 0,.p (.s s_1)] [.cells 75 [.np 0,.buf 1],.sb 5 o1_2] (fun r X=>r=.tup [.p (.i .i64 z.1),.raw .nilIface]∧X=[.cells 75 [.np 0,.buf 1],.sb 5 z.2]):=by
 unfold zh at hm
 refine dW 2 19 [.tmp 4,.tmp 5] Tryz.func42 fun B=>?_
 refine qS ?_
 obtain ⟨r_5,hr_5,hm⟩:=zb hm
 refine Wp.seqR fun K2 hK2=>?_
 simp only [go_sem,simprocAttr]
 try refine ⟨sd,?_⟩
 refine Rg.callO (av:=?av3) [0,1] (zcQ o1_2 _ hr_5) si si si sg sg ?cont3
 rintro _ _ ⟨rfl,rfl⟩ hv3
 simp only [go_sem,simprocAttr]
 refine kA hK2 ?_
 obtain ⟨c_6,hm⟩:=zf hm
 refine Wp.seqR fun K4 hK4=>?_
 simp only [go_sem,simprocAttr]
 refine kA hK4 ?_
 refine qS ?_
 refine Wp.ret ?_
 refine zc ?_
 cases hm
 exact zm
theorem zal (o1_1:Str) (z:Str) (hm:zB o1_1=some z):Does Tryz.prog 43 [.ptr 0 0] [.cells 75 [.np 0,.buf 1],.sb 5 o1_1] (fun r X=>r=.p (.s z)∧X=[.cells 75 [.np 0,.buf 1],.sb 5 o1_1]):=by
 unfold zB at hm
 refine dW 2 14 [.tmp 2] Tryz.func43 fun B=>?_
 refine qS ?_
 refine Wp.seqD (plan:=pl [(0,none),(1,none),(2,none),(3,none),(5,none),(6,none),(7,none),(8,none),(9,none),(4,some [5,6,7,8,9]),(10,some []),(11,none)]) (by kernel_rfl) rfl (by kernel_rfl) fun K2 hK2=>?_
 simp only [go_sem,simprocAttr]
 refine kA hK2 ?_
 refine Wp.ret ?_
 refine zc ?_
 cases hm
 exact zm
theorem ok_strings_Join (elems_1:List Str) (sep_2:Str) (z:Str) (hm:zbJ elems_1 sep_2=some z):Does Tryz.prog 44 [.p (.l (List.map ecS elems_1)),.p (.s sep_2)] [] (fun r X=>r=.p (.s z)∧X=[]):=by
 unfold zbJ at hm
 refine dW 0 75 [.tmp 4] Tryz.func44 fun B=>?_
 refine qS ?_
 refine Wp.seqW fun K2 hK2 hW2=>?_
 refine qS ?_
 refine Wp.block ?_
 refine qS ?_
 refine cM hm (fun hc5 hm=>?_) (fun hc5 hm=>?_)
 ·refine qS ?_
  refine Wp.ret ?_
  refine zc ?_
  cases hm
  exact zm
 ·refine qS ?_
  refine cM hm (fun hc8 hm=>?_) (fun hc8 hm=>?_)
  ·obtain ⟨s_3,hbs_3,hxs_3,hys_3,hm⟩:=zU hm
   replace hxs_3:∀ d,(List.map ecS elems_1).getD 0 d=ecS s_3:=hxs_3 ecS
   refine Wp.seqR fun K9 hK9=>?_
   simp only [go_sem,simprocAttr,hxs_3]
   refine kA hK9 ?_
   refine Wp.ret ?_
   refine zc ?_
   cases hm
   simp only [go_sem,simprocAttr,hxs_3]
   try exact se3
  ·refine Wp.skip ?_
   refine hK2 _ _ ?_
   refine qS ?_
   refine Wp.seqW fun K11 hK11 hW11=>?_
   obtain ⟨k_6,hk_6,hm⟩:=zl hm
   have hcut11:∀ s,k_6 s=some z→K11 [(0,.p (.l (List.map ecS elems_1))),(1,.p (.s sep_2)),(5,.p (.i .i64 s))] []:=by
    intro n_5 hs
    have hm:=hk_6 _ hs
    clear hs
    try dsimp only at hm
    try dsimp only
    refine hK11 _ _ ?_
    refine Wp.seqW fun K12 hK12 hW12=>?_
    obtain ⟨k_16,hk_16,hm⟩:=zl hm
    have hcut12:∀ s,k_16 s=some z→K12 [(0,.p (.l (List.map ecS elems_1))),(1,.p (.s sep_2)),(5,.p (.i .i64 s))] []:=by
     intro n_15 hs
     have hm:=hk_16 _ hs
     clear hs
     try dsimp only at hm
     try dsimp only
     refine hK12 _ _ ?_
     refine qS ?_
     refine Wp.adoptB 0 5 rfl ?_
     simp only [go_sem,simprocAttr]
     obtain ⟨r_17,hr_17,hm⟩:=zb hm
     refine Wp.seqR fun K14 hK14=>?_
     simp only [go_sem,simprocAttr]
     try refine ⟨sd,?_⟩
     refine Rg.callO (av:=?av15) [0,1] (zcz n_15 [] _ hr_17) si si si sg sg ?cont15
     rintro _ _ ⟨rfl,rfl⟩ hv15
     simp only [go_sem,simprocAttr]
     refine kA hK14 ?_
     obtain ⟨s_18,hbs_18,hxs_18,hys_18,hm⟩:=zU hm
     replace hxs_18:∀ d,(List.map ecS elems_1).getD 0 d=ecS s_18:=hxs_18 ecS
     obtain ⟨r_19,hr_19,hm⟩:=zb hm
     refine Wp.seqR fun K16 hK16=>?_
     simp only [go_sem,simprocAttr,hxs_18]
     try refine ⟨sd,?_⟩
     refine Rg.callO (av:=?av17) [0,1] (zE s_18 [] _ hr_19) (by simp only [go_sem,simprocAttr,hxs_18]; exact Is.mk) (by simp only [go_sem,simprocAttr,hxs_18]; exact Is.mk) (by simp only [go_sem,simprocAttr,hxs_18]; exact Is.mk) (by simp only [go_sem,simprocAttr,hxs_18]) (by simp only [go_sem,simprocAttr,hxs_18]) ?cont17
     rintro _ _ ⟨rfl,rfl⟩ hv17
     simp only [go_sem,simprocAttr,hxs_18]
     refine kA hK16 ?_
     refine Wp.seqW fun K18 hK18 hW18=>?_
     obtain ⟨k_38,hk_38,hm⟩:=zl hm
     have hcut18:∀ s,k_38 s=some z→K18 [(8,.ptr 0 0)] [.cells 75 [.np 0,.buf 1],.sb 5 s]:=by
      intro o1_37 hs
      have hm:=hk_38 _ hs
      clear hs
      try dsimp only at hm
      try dsimp only
      refine hK18 _ _ ?_
      obtain ⟨r_39,hr_39,hm⟩:=zb hm
      refine Wp.seqR fun K19 hK19=>?_
      simp only [go_sem,simprocAttr,hxs_18]
      try refine ⟨sd,?_⟩
      refine Rg.callO (av:=?av20) [0,1] (zal o1_37 _ hr_39) (by simp only [go_sem,simprocAttr,hxs_18]; exact Is.mk) (by simp only [go_sem,simprocAttr,hxs_18]; exact Is.mk) (by simp only [go_sem,simprocAttr,hxs_18]; exact Is.mk) (by simp only [go_sem,simprocAttr,hxs_18]) (by simp only [go_sem,simprocAttr,hxs_18]) ?cont20
      rintro _ _ ⟨rfl,rfl⟩ hv20
      simp only [go_sem,simprocAttr,hxs_18]
      refine kA hK19 ?_
      refine Wp.ret ?_
      refine zc ?_
      cases hm
      simp only [go_sem,simprocAttr,hxs_18]
      try exact se3
     clear hK18 hk_38
     obtain ⟨c_40,hm⟩:=zf hm
     refine Wp.seqR fun K21 hK21=>?_
     simp only [go_sem,simprocAttr,hxs_18]
     refine kA hK21 ?_
     refine Wp.block ?_
     obtain ⟨k_50,hk_50,hm⟩:=zQ hm
     refine Wp.fact 63 fun hl_53=>?_
     replace hl_53:(List.drop 1 elems_1).length≤274877906944:=by
      simp only [go_sem,simprocAttr,List.length_map] at hl_53
      omega
     refine Wp.forL (fun i_52 s=>[(1,.p (.s sep_2)),(8,.ptr 0 0),(63,.p (.l (List.map ecS (List.drop 1 elems_1)))),(64,.p (.i .i64 ((List.drop 1 elems_1).length:Int))),(65,.p (.i .i64 (i_52:Int)))]) (fun i_52 s=>[.cells 75 [.np 0,.buf 1],.sb 5 s]) ?_ hm ?_
     ·
      simp only [go_sem,simprocAttr,hxs_18]
      try exact se3
     clear hm
     intro i_52 o1_46 hii_52 hm
     try dsimp only at hm
     try dsimp only
     refine Wp.seqR fun K22 hK22=>?_
     simp only [go_sem,simprocAttr,hxs_18]
     refine kA hK22 ?_
     refine Wp.seqW fun K23 hK23 hW23=>?_
     refine Wp.cond rfl ⟨⟩ (fun hc23=>?_) (fun hc23=>?_)
     rotate_left
     ·refine Wp.exit ?_
      have hm:=hk_50 _ (zae hm (zbd (by first | exact hc23 | simpa using hc23)))
      try dsimp only at hm
      refine hW18 _ _ _ _ ?_ (hcut18 o1_46 hm)
      simp only [go_sem,simprocAttr,hxs_18]
      try exact se3
     have hlt23:=zbc (by first | exact hc23 | simpa using hc23)
     have hw23:=zO hlt23 hl_53
     obtain ⟨s_54,nx_51,hxs_54,hys_54,hnx_51,hm⟩:=zP hm hlt23
     replace hxs_54:=hxs_54 ecS
     refine Wp.skip ?_
     simp only [zk]
     refine hK23 _ _ ?_
     refine Wp.seqW fun K24 hK24 hW24=>?_
     refine Wp.block ?_
     refine Wp.seqR fun K25 hK25=>?_
     simp only [go_sem,simprocAttr,hxs_18,hw23,hxs_54]
     refine kA hK25 ?_
     obtain ⟨r_55,hr_55,hm⟩:=zb hm
     refine Wp.seqR fun K26 hK26=>?_
     simp only [go_sem,simprocAttr,hxs_18,hw23,hxs_54]
     try refine ⟨sd,?_⟩
     refine Rg.callO (av:=?av27) [0,1] (zE sep_2 o1_46 _ hr_55) (by simp only [go_sem,simprocAttr,hxs_18,hw23,hxs_54]; exact Is.mk) (by simp only [go_sem,simprocAttr,hxs_18,hw23,hxs_54]; exact Is.mk) (by simp only [go_sem,simprocAttr,hxs_18,hw23,hxs_54]; exact Is.mk) (by simp only [go_sem,simprocAttr,hxs_18,hw23,hxs_54]) (by simp only [go_sem,simprocAttr,hxs_18,hw23,hxs_54]) ?cont27
     rintro _ _ ⟨rfl,rfl⟩ hv27
     simp only [go_sem,simprocAttr,hxs_18,hw23,hxs_54]
     refine kA hK26 ?_
     obtain ⟨r_56,hr_56,hm⟩:=zb hm
     refine Wp.region fun K28 hK28=>?_
     simp only [go_sem,simprocAttr,hxs_18,hw23,hxs_54]
     try refine ⟨sd,?_⟩
     refine Rg.callO (av:=?av29) [0,1] (zE s_54 r_55.2 _ hr_56) (by simp only [go_sem,simprocAttr,hxs_18,hw23,hxs_54]; exact Is.mk) (by simp only [go_sem,simprocAttr,hxs_18,hw23,hxs_54]; exact Is.mk) (by simp only [go_sem,simprocAttr,hxs_18,hw23,hxs_54]; exact Is.mk) (by simp only [go_sem,simprocAttr,hxs_18,hw23,hxs_54]) (by simp only [go_sem,simprocAttr,hxs_18,hw23,hxs_54]) ?cont29
     rintro _ _ ⟨rfl,rfl⟩ hv29
     simp only [go_sem,simprocAttr,hxs_18,hw23,hxs_54]
     refine kA hK28 ?_
     refine hK24 _ _ ?_
     refine Wp.region fun K30 hK30=>?_
     simp only [go_sem,simprocAttr,hxs_18,hw23,hxs_54]
     refine kA hK30 ?_
     simp only [zk,zi,↓reduceIte]
     refine ⟨r_56.2,hlt23,hnx_51 _ hm,?_⟩
     simp only [go_sem,simprocAttr,hxs_18,hw23,hxs_54]
     try exact se3
    clear hK12 hk_16
    refine qS ?_
    refine Wp.block ?_
    obtain ⟨k_60,hk_60,hm⟩:=zQ hm
    refine Wp.fact 0 fun hl_63=>?_
    replace hl_63:elems_1.length≤274877906944:=by
     simp only [go_sem,simprocAttr,List.length_map] at hl_63
     omega
    refine Wp.forL (fun i_62 s=>[(0,.p (.l (List.map ecS elems_1))),(1,.p (.s sep_2)),(5,.p (.i .i64 s)),(39,.p (.l (List.map ecS elems_1))),(40,.p (.i .i64 (elems_1.length:Int))),(41,.p (.i .i64 (i_62:Int)))]) (fun i_62 s=>[]) ?_ hm ?_
    ·
     exact zm
    clear hm
    intro i_62 n_57 hii_62 hm
    try dsimp only at hm
    try dsimp only
    refine qS ?_
    refine Wp.seqW fun K33 hK33 hW33=>?_
    refine Wp.cond rfl ⟨⟩ (fun hc33=>?_) (fun hc33=>?_)
    rotate_left
    ·refine Wp.exit ?_
     have hm:=hk_60 _ (zae hm (zbd (by first | exact hc33 | simpa using hc33)))
     try dsimp only at hm
     refine hW12 _ _ _ _ ?_ (hcut12 n_57 hm)
     exact zm
    have hlt33:=zbc (by first | exact hc33 | simpa using hc33)
    have hw33:=zO hlt33 hl_63
    obtain ⟨s_64,nx_61,hxs_64,hys_64,hnx_61,hm⟩:=zP hm hlt33
    replace hxs_64:=hxs_64 ecS
    refine Wp.skip ?_
    simp only [zk]
    refine hK33 _ _ ?_
    refine Wp.seqW fun K34 hK34 hW34=>?_
    refine Wp.block ?_
    refine Wp.seqR fun K35 hK35=>?_
    simp only [go_sem,simprocAttr,hw33,hxs_64]
    refine kA hK35 ?_
    refine Wp.seqW fun K36 hK36 hW36=>?_
    refine Wp.seqR fun K37 hK37=>?_
    simp only [go_sem,simprocAttr,hw33,hxs_64]
    refine kA hK37 ?_
    refine cM hm (fun hc38 hm=>?_) (fun hc38 hm=>?_)
    ·cases hm
    ·refine Wp.skip ?_
     refine hK36 _ _ ?_
     refine Wp.region fun K39 hK39=>?_
     simp only [go_sem,simprocAttr,hw33,hxs_64]
     refine kA hK39 ?_
     refine hK34 _ _ ?_
     refine Wp.region fun K40 hK40=>?_
     simp only [go_sem,simprocAttr,hw33,hxs_64]
     refine kA hK40 ?_
     simp only [zk,zi,↓reduceIte]
     refine ⟨IntKind.i64.wrap (n_57+(s_64.length:Int)),hlt33,hnx_61 _ hm,?_⟩
     simp only [go_sem,simprocAttr,hw33,hxs_64]
     try exact se3
   clear hK11 hk_6
   refine qS ?_
   refine cM hm (fun hc42 hm=>?_) (fun hc42 hm=>?_)
   ·refine Wp.seqW fun K43 hK43 hW43=>?_
    obtain ⟨c_65,hm⟩:=zf hm
    refine Wp.seqR fun K44 hK44=>?_
    simp only [go_sem,simprocAttr]
    refine kA hK44 ?_
    refine cM hm (fun hc45 hm=>?_) (fun hc45 hm=>?_)
    ·cases hm
    ·refine Wp.skip ?_
     refine hK43 _ _ ?_
     refine qR ?_
     refine hW11 _ _ _ _ ?_ (hcut11 (IntKind.i64.wrap (0+(IntKind.i64.wrap ((sep_2.length:Int) * (IntKind.i64.wrap ((elems_1.length:Int) - 1)))))) hm)
     exact zm
   ·refine Wp.skip ?_
    refine hW11 _ _ _ _ ?_ (hcut11 0 hm)
    exact zm
theorem ok_log_recordText (r_1:api_Record) (z:Str) (hm:zb3 r_1=some z):Does Tryz.prog 37 [.agg [.p (.i .i64 r_1.Time),.p (.i .i64 r_1.Kind),.p (.s r_1.Pack),.p (.i .i64 r_1.From.Major),.p (.i .i64 r_1.From.Minor),.p (.i .i64 r_1.From.Patch),.p (.s r_1.From.Early),.p (.i .i64 r_1.To.Major),.p (.i .i64 r_1.To.Minor),.p (.i .i64 r_1.To.Patch),.p (.s r_1.To.Early),.p (.i .i64 r_1.Result),.p (.s r_1.Note)]] [] (fun r X=>r=.p (.s z)∧X=[]):=by
 unfold zb3 at hm
 refine dW 0 27 [.tmp 2] Tryz.func37 fun B=>?_
 refine qS ?_
 obtain ⟨r_4,hr_4,hm⟩:=zb hm
 obtain ⟨r_5,hr_5,hm⟩:=zb hm
 obtain ⟨s_6,hbs_6,hxs_6,hys_6,hm⟩:=zU hm
 replace hxs_6:∀ d,(List.map ecS r_5).getD r_1.Kind.toNat d=ecS s_6:=hxs_6 ecS
 obtain ⟨r_7,hr_7,hm⟩:=zb hm
 obtain ⟨r_8,hr_8,hm⟩:=zb hm
 obtain ⟨r_9,hr_9,hm⟩:=zb hm
 obtain ⟨r_10,hr_10,hm⟩:=zb hm
 obtain ⟨r_11,hr_11,hm⟩:=zb hm
 refine Wp.seqD (plan:=pl [(0,none),(1,none),(2,none),(4,none),(5,none),(8,none),(9,none),(10,none),(11,none),(13,none),(14,none),(16,none),(17,none),(19,none),(20,none),(3,some [4,5,8,9,10,11,13,14,16,17,19,20]),(6,none),(7,none),(12,none),(15,none),(18,none),(21,none),(22,some []),(23,none),(24,none)]) (by kernel_rfl) rfl (by kernel_rfl) fun K2 hK2=>?_
 simp only [go_sem,simprocAttr,hxs_6]
 try refine ⟨sd,?_⟩
 refine Dr.callF (av:=?av3) (g:=true) (o:=?o3) (fun hg=>z8 r_1.Time _ hr_4) (by simp only [go_sem,simprocAttr,hxs_6]; exact Is.mk) (by simp only [go_sem,simprocAttr,hxs_6]; exact Is.mk) (by simp only [go_sem,simprocAttr,hxs_6]; exact Is.mk) (by simp only [go_sem,simprocAttr,hxs_6]; exact Is.mk) (by simp only [go_sem,simprocAttr,hxs_6]) (by simp only [go_sem,simprocAttr,hxs_6]; exact Is.mk) ?cont3
 simp only [go_sem,simprocAttr,hxs_6]
 try refine ⟨sd,?_⟩
 refine Dr.of_br (Br.callR (av:=?av4) (g:=true) (o:=?o4) [] (fun hg=>ok_log_kindWords  _ hr_5) (by simp only [go_sem,simprocAttr,hxs_6]; exact Is.mk) (by simp only [go_sem,simprocAttr,hxs_6]; exact Is.mk) (by simp only [go_sem,simprocAttr,hxs_6]; exact Is.mk) (by simp only [go_sem,simprocAttr,hxs_6]; exact Is.mk) (by simp only [go_sem,simprocAttr,hxs_6]; exact Is.mk) (by simp only [go_sem,simprocAttr,hxs_6]) (by simp only [go_sem,simprocAttr,hxs_6]) (by simp only [go_sem,simprocAttr,hxs_6]) ?hag4 ?cont4)
 case hag4=>first | (simp only [go_sem,simprocAttr,hxs_6]; done) | (simp only [go_sem,simprocAttr,hxs_6]; exact sd)
 simp only [go_sem,simprocAttr,hxs_6]
 try refine ⟨sd,?_⟩
 refine Dr.callF (av:=?av5) (g:=true) (o:=?o5) (fun hg=>zea r_1.From _ hr_7) (by simp only [go_sem,simprocAttr,hxs_6]; exact Is.mk) (by simp only [go_sem,simprocAttr,hxs_6]; exact Is.mk) (by simp only [go_sem,simprocAttr,hxs_6]; exact Is.mk) (by simp only [go_sem,simprocAttr,hxs_6]; exact Is.mk) (by simp only [go_sem,simprocAttr,hxs_6]) (by simp only [go_sem,simprocAttr,hxs_6]; exact Is.mk) ?cont5
 simp only [go_sem,simprocAttr,hxs_6]
 try refine ⟨sd,?_⟩
 refine Dr.callF (av:=?av6) (g:=true) (o:=?o6) (fun hg=>zea r_1.To _ hr_8) (by simp only [go_sem,simprocAttr,hxs_6]; exact Is.mk) (by simp only [go_sem,simprocAttr,hxs_6]; exact Is.mk) (by simp only [go_sem,simprocAttr,hxs_6]; exact Is.mk) (by simp only [go_sem,simprocAttr,hxs_6]; exact Is.mk) (by simp only [go_sem,simprocAttr,hxs_6]) (by simp only [go_sem,simprocAttr,hxs_6]; exact Is.mk) ?cont6
 simp only [go_sem,simprocAttr,hxs_6]
 try refine ⟨sd,?_⟩
 refine Dr.callF (av:=?av7) (g:=true) (o:=?o7) (fun hg=>z8 r_1.Result _ hr_9) (by simp only [go_sem,simprocAttr,hxs_6]; exact Is.mk) (by simp only [go_sem,simprocAttr,hxs_6]; exact Is.mk) (by simp only [go_sem,simprocAttr,hxs_6]; exact Is.mk) (by simp only [go_sem,simprocAttr,hxs_6]; exact Is.mk) (by simp only [go_sem,simprocAttr,hxs_6]) (by simp only [go_sem,simprocAttr,hxs_6]; exact Is.mk) ?cont7
 simp only [go_sem,simprocAttr,hxs_6]
 try refine ⟨sd,?_⟩
 refine Dr.callF (av:=?av8) (g:=true) (o:=?o8) (fun hg=>ok_disk_Quote r_1.Note _ hr_10) (by simp only [go_sem,simprocAttr,hxs_6]; exact Is.mk) (by simp only [go_sem,simprocAttr,hxs_6]; exact Is.mk) (by simp only [go_sem,simprocAttr,hxs_6]; exact Is.mk) (by simp only [go_sem,simprocAttr,hxs_6]; exact Is.mk) (by simp only [go_sem,simprocAttr,hxs_6]) (by simp only [go_sem,simprocAttr,hxs_6]; exact Is.mk) ?cont8
 simp only [go_sem,simprocAttr,hxs_6]
 try refine ⟨sd,?_⟩
 refine Dr.callF (av:=?av9) (g:=true) (o:=?o9) (fun hg=>ok_strings_Join [r_4,s_6,r_1.Pack,r_7,r_8,r_9,r_10] ([32]:Str) _ hr_11) (by simp only [go_sem,simprocAttr,hxs_6]; exact Is.mk) (by simp only [go_sem,simprocAttr,hxs_6]; exact Is.mk) (by simp only [go_sem,simprocAttr,hxs_6]; exact Is.mk) (by simp only [go_sem,simprocAttr,hxs_6]; exact Is.mk) (by simp only [go_sem,simprocAttr,hxs_6]) (by simp only [go_sem,simprocAttr,hxs_6]; exact Is.mk) ?cont9
 simp only [go_sem,simprocAttr,hxs_6]
 refine kA hK2 ?_
 refine Wp.ret ?_
 refine zc ?_
 cases hm
 simp only [go_sem,simprocAttr,hxs_6]
 try exact se3
theorem zdo (text_1:Str) (z:Str) (hm:zdB text_1=some z):Does Tryz.prog 38 [.p (.s text_1)] [] (fun r X=>r=.p (.s z)∧X=[]):=by
 unfold zdB at hm
 refine dW 0 39 [.tmp 2] Tryz.func38 fun B=>?_
 refine qS ?_
 refine qS ?_
 refine Wp.seqW fun K3 hK3 hW3=>?_
 obtain ⟨k_11,hk_11,hm⟩:=zl hm
 have hcut3:∀ s,k_11 s=some z→K3 [(3,.p (.i .u64 s))] []:=by
  intro n_10 hs
  have hm:=hk_11 _ hs
  clear hs
  try dsimp only at hm
  try dsimp only
  refine hK3 _ _ ?_
  refine qS ?_
  refine Wp.seqW fun K5 hK5 hW5=>?_
  obtain ⟨k_27,hk_27,hm⟩:=zl hm
  have hcut5:∀ s,k_27 s=some z→K5 [(5,.buf 0)] [.buf 5 1 (List.map zac s)]:=by
   intro o0_26 hs
   have hm:=hk_27 _ hs
   clear hs
   try dsimp only at hm
   try dsimp only
   refine hK5 _ _ ?_
   refine qS ?_
   refine Wp.ret ?_
   refine zc ?_
   cases hm
   exact zm
  clear hK5 hk_27
  refine qS ?_
  refine Wp.block ?_
  obtain ⟨k_37,hk_37,hm⟩:=zF hm
  refine Wp.loopN (fun s=>[(3,.p (.i .u64 n_10)),(5,.buf 0),(22,.p (.i .i64 ((List.replicate 16 0).length:Int))),(23,.p (.i .i64 s.1))]) (fun s=>[.buf 5 1 (List.map zac s.2)]) ?_ hm ?_
  ·
   exact zm
  clear hm
  intro s nx_38 hm
  obtain ⟨t23_32,o0_33⟩:=s
  try dsimp only at hm
  try dsimp only
  refine qS ?_
  refine Wp.seqW fun K9 hK9 hW9=>?_
  refine cM hm (fun hc10 hm=>?_) (fun hc10 hm=>?_)
  ·refine Wp.skip ?_
   refine hK9 _ _ ?_
   refine Wp.seqW fun K11 hK11 hW11=>?_
   refine Wp.block ?_
   refine qS ?_
   obtain ⟨c_39,hm⟩:=zf hm
   obtain ⟨c_40,hbc_40,hxc_40,hm⟩:=zab hm
   replace hxc_40:((([48,49,50,51,52,53,54,55,56,57,97,98,99,100,101,102]:Str).getD ((zaw .and .u64 (Int.fdiv n_10 (2 ^ (shI .u64 (IntKind.i64.wrap (60 - (IntKind.i64.wrap (4 * t23_32))))))) 15).toNat) 0).toNat:Int)=c_40:=hxc_40
   obtain ⟨c_41,hm⟩:=zf hm
   refine Wp.region fun K13 hK13=>?_
   simp only [go_sem,simprocAttr,hxc_40]
   refine kA hK13 ?_
   refine hK11 _ _ ?_
   refine Wp.region fun K14 hK14=>?_
   simp only [go_sem,simprocAttr,hxc_40]
   refine kA hK14 ?_
   simp only [zk,zi,↓reduceIte]
   refine ⟨(IntKind.i64.wrap (t23_32+1),List.set o0_33 t23_32.toNat c_40),hm,?_⟩
   simp only [go_sem,simprocAttr,hxc_40]
   try exact se3
  ·refine Wp.exit ?_
   simp only [zk,zi,↓reduceIte]
   have hm:=hk_37 _ hm
   try dsimp only at hm
   refine hW5 _ _ _ _ ?_ (hcut5 o0_33 hm)
   exact zm
 clear hK3 hk_11
 refine qS ?_
 refine Wp.block ?_
 obtain ⟨k_45,hk_45,hm⟩:=zQ hm
 refine Wp.fact 0 fun hl_48=>?_
 replace hl_48:text_1.length≤274877906944:=by
  simp only [go_sem,simprocAttr,List.length_map] at hl_48
  omega
 refine Wp.forL (fun i_47 s=>[(0,.p (.s text_1)),(3,.p (.i .u64 s)),(4,.p (.i .i64 (i_47:Int)))]) (fun i_47 s=>[]) ?_ hm ?_
 ·
  exact zm
 clear hm
 intro i_47 n_42 hii_47 hm
 try dsimp only at hm
 try dsimp only
 refine Wp.seqW fun K16 hK16 hW16=>?_
 refine qS ?_
 refine Wp.cond rfl ⟨⟩ (fun hc16=>?_) (fun hc16=>?_)
 rotate_left
 ·refine Wp.exit ?_
  have hm:=hk_45 _ (zae hm (zbd (by first | exact hc16 | simpa using hc16)))
  try dsimp only at hm
  refine hW3 _ _ _ _ ?_ (hcut3 n_42 hm)
  exact zm
 have hlt16:=zbc (by first | exact hc16 | simpa using hc16)
 have hw16:=zO hlt16 hl_48
 obtain ⟨c_49,nx_46,hxc_49,hyc_49,hnx_46,hm⟩:=zP hm hlt16
 clear hxc_49
 refine Wp.skip ?_
 simp only [zk]
 refine hK16 _ _ ?_
 refine Wp.seqW fun K18 hK18 hW18=>?_
 refine Wp.block ?_
 refine Wp.region fun K19 hK19=>?_
 simp only [go_sem,simprocAttr,hw16,hyc_49]
 refine kA hK19 ?_
 refine hK18 _ _ ?_
 refine Wp.region fun K20 hK20=>?_
 simp only [go_sem,simprocAttr,hw16,hyc_49]
 refine kA hK20 ?_
 simp only [zk,zi,↓reduceIte]
 refine ⟨IntKind.u64.wrap ((zaw .xor .u64 n_42 (IntKind.u64.wrap (c_49.toNat:Int))) * 1099511628211),hlt16,hnx_46 _ hm,?_⟩
 simp only [go_sem,simprocAttr,hw16,hyc_49]
 try exact se3
theorem ok_log_table_add_i1 (r_1:api_Record) (o0_1_2:Int) (m1_3:List (Str × log_had)) (z:Int × (List (Str × log_had))) (hm:zbx r_1 o0_1_2 m1_3=some z):Does Tryz.prog 39 [.ptr 0 0,.agg [.p (.i .i64 r_1.Time),.p (.i .i64 r_1.Kind),.p (.s r_1.Pack),.p (.i .i64 r_1.From.Major),.p (.i .i64 r_1.From.Minor),.p (.i .i64 r_1.From.Patch),.p (.s r_1.From.Early),.p (.i .i64 r_1.To.Major),.p (.i .i64 r_1.To.Minor),.p (.i .i64 r_1.To.Patch),.p (.s r_1.To.Early),.p (.i .i64 r_1.Result),.p (.s r_1.Note)]] [.cells 99 [.mp 1,.p (.i .i64 o0_1_2)],.mp true (zcY Dt.s zq m1_3)] (fun r X=>r=.tup []∧X=[.cells 99 [.mp 1,.p (.i .i64 z.1)],.mp true (zcY Dt.s zq z.2)]):=by
 unfold zbx at hm
 refine dW 2 37 [] Tryz.func39 fun B=>?_
 refine qS ?_
 refine qS ?_
 refine Wp.seqW fun K3 hK3 hW3=>?_
 refine qS ?_
 refine cM hm (fun hc5 hm=>?_) (fun hc5 hm=>?_)
 ·refine Wp.ret ?_
  refine zc ?_
  cases hm
  exact zm
 ·refine Wp.skip ?_
  refine hK3 _ _ ?_
  refine qS ?_
  refine Wp.block ?_
  refine Wp.seqW fun K7 hK7 hW7=>?_
  obtain ⟨k_10,hk_10,hm⟩:=zl hm
  have hcut7:∀ s,k_10 s=some z→K7 [(0,.ptr 0 0),(3,.ptr 2 0),(13,.p (.i .i64 r_1.Kind)),(14,.p (.b s))] [.cells 99 [.mp 1,.p (.i .i64 r_1.Time)],.mp true (zcY Dt.s zq m1_3),.cells 30 [.p (.i .i64 r_1.Time),.p (.i .i64 r_1.Kind),.p (.s r_1.Pack),.p (.i .i64 r_1.From.Major),.p (.i .i64 r_1.From.Minor),.p (.i .i64 r_1.From.Patch),.p (.s r_1.From.Early),.p (.i .i64 r_1.To.Major),.p (.i .i64 r_1.To.Minor),.p (.i .i64 r_1.To.Patch),.p (.s r_1.To.Early),.p (.i .i64 r_1.Result),.p (.s r_1.Note)]]:=by
   intro t14_9 hs
   have hm:=hk_10 _ hs
   clear hs
   try dsimp only at hm
   try dsimp only
   refine hK7 _ _ ?_
   refine cM hm (fun hc8 hm=>?_) (fun hc8 hm=>?_)
   ·obtain ⟨c_12,hm⟩:=zf hm
    have hp_11:=mset_enc (e:=zq) keq_s m1_3 r_1.Pack (log_had.mk r_1.To r_1.Time)
    simp only [zq] at hp_11
    refine Wp.regD (plan:=pl [(0,none),(1,none),(2,none),(3,none),(4,none),(5,none),(6,none),(7,none),(8,none),(9,none),(10,none),(11,some [])]) (by kernel_rfl) rfl (by kernel_rfl) fun K9 hK9=>?_
    simp only [go_sem,simprocAttr,hp_11]
    refine kA hK9 ?_
    simp only [zk,zi,↓reduceIte]
    refine zaJ ?_
    cases hm
    exact zm
   ·refine qS ?_
    refine cM hm (fun hc11 hm=>?_) (fun hc11 hm=>?_)
    ·have hp_13:=mdel_enc (e:=zq) keq_s m1_3 r_1.Pack
     refine Wp.regD (plan:=pl [(0,none),(1,none),(2,none),(3,none),(4,none),(5,none),(6,some [])]) (by kernel_rfl) rfl (by kernel_rfl) fun K12 hK12=>?_
     simp only [go_sem,simprocAttr,hp_13]
     refine kA hK12 ?_
     simp only [zk,zi,↓reduceIte]
     refine zaJ ?_
     cases hm
     exact zm
    ·refine Wp.skip ?_
     simp only [zk,zi,↓reduceIte]
     refine zaJ ?_
     cases hm
     exact zm
  clear hK7 hk_10
  refine qS ?_
  refine cM hm (fun hc14 hm=>?_) (fun hc14 hm=>?_)
  ·refine Wp.skip ?_
   refine hW7 _ _ _ _ ?_ (hcut7 (decide (r_1.Kind=1)) hm)
   exact zm
  ·refine qS ?_
   refine cM hm (fun hc16 hm=>?_) (fun hc16 hm=>?_)
   ·refine Wp.skip ?_
    refine hW7 _ _ _ _ ?_ (hcut7 (decide (r_1.Kind=2)) hm)
    exact zm
   ·refine qR ?_
    refine hW7 _ _ _ _ ?_ (hcut7 (decide (r_1.Kind=3)) hm)
    exact zm
theorem ok_log_Log_Add_i1 (r_1:api_Record) (o0_2_2:Str) (o1_3:List api_Record) (o2_4:List Str) (o3_1_5:Int) (m4_6:List (Str × log_had)) (z:Int × Str × List api_Record × List Str × Int × (List (Str × log_had))) (hm:zb4 r_1 o0_2_2 o1_3 o2_4 o3_1_5 m4_6=some z):Does Tryz.prog 12 [.ptr 0 0,.agg [.p (.i .i64 r_1.Time),.p (.i .i64 r_1.Kind),.p (.s r_1.Pack),.p (.i .i64 r_1.From.Major),.p (.i .i64 r_1.From.Minor),.p (.i .i64 r_1.From.Patch),.p (.s r_1.From.Early),.p (.i .i64 r_1.To.Major),.p (.i .i64 r_1.To.Minor),.p (.i .i64 r_1.To.Patch),.p (.s r_1.To.Early),.p (.i .i64 r_1.Result),.p (.s r_1.Note)]] [.cells 63 [.buf 1,.buf 2,.p (.s o0_2_2),.ptr 3 0],.buf 30 13 (List.map za o1_3),.buf 9 1 (List.map ecS o2_4),.cells 99 [.mp 4,.p (.i .i64 o3_1_5)],.mp true (zcY Dt.s zq m4_6)] (fun r X=>r=.p (.i .i64 z.1)∧X=[.cells 63 [.buf 1,.buf 2,.p (.s z.2.1),.ptr 3 0],.buf 30 13 (List.map za z.2.2.1),.buf 9 1 (List.map ecS z.2.2.2.1),.cells 99 [.mp 4,.p (.i .i64 z.2.2.2.2.1)],.mp true (zcY Dt.s zq z.2.2.2.2.2)]):=by
 unfold zb4 at hm
 refine dW 5 76 [.tmp 4] Tryz.func12 fun B=>?_
 refine qS ?_
 refine Wp.seqW fun K2 hK2 hW2=>?_
 obtain ⟨r_20,hr_20,hm⟩:=zb hm
 refine Wp.seqR fun K3 hK3=>?_
 simp only [go_sem,simprocAttr]
 try refine ⟨sd,?_⟩
 refine Rg.callX (av:=?av4) (g:=true) (fun hg=>zeb r_1 _ hr_20) si si si sg si ?cont4
 intro hv4
 simp only [go_sem,simprocAttr]
 refine kA hK3 ?_
 refine qS ?_
 refine cM hm (fun hc6 hm=>?_) (fun hc6 hm=>?_)
 ·refine qS ?_
  refine Wp.ret ?_
  refine zc ?_
  cases hm
  exact zm
 ·refine Wp.skip ?_
  refine hK2 _ _ ?_
  obtain ⟨r_21,hr_21,hm⟩:=zb hm
  refine Wp.seqD (plan:=pl [(0,none),(1,none),(2,none),(3,none),(4,none),(5,some []),(6,none)]) (by kernel_rfl) rfl (by kernel_rfl) fun K8 hK8=>?_
  simp only [go_sem,simprocAttr]
  try refine ⟨sd,?_⟩
  refine Dr.of_br (Br.callR (av:=?av9) (g:=true) (o:=?o9) [3,4] (fun hg=>ok_log_table_fault_i1 r_1 o3_1_5 m4_6 _ hr_21) si si si si si sg sg sg sg ?cont9)
  simp only [go_sem,simprocAttr]
  refine kA hK8 ?_
  refine Wp.seqW fun K10 hK10 hW10=>?_
  refine qS ?_
  refine cM hm (fun hc12 hm=>?_) (fun hc12 hm=>?_)
  ·refine qS ?_
   refine Wp.ret ?_
   refine zc ?_
   cases hm
   exact zm
  ·refine Wp.skip ?_
   refine hK10 _ _ ?_
   refine Wp.seqW fun K14 hK14 hW14=>?_
   refine qS ?_
   refine cM hm (fun hc16 hm=>?_) (fun hc16 hm=>?_)
   ·refine qS ?_
    refine Wp.ret ?_
    refine zc ?_
    cases hm
    exact zm
   ·refine Wp.skip ?_
    refine hK14 _ _ ?_
    refine Wp.seqW fun K18 hK18 hW18=>?_
    refine qS ?_
    refine cM hm (fun hc20 hm=>?_) (fun hc20 hm=>?_)
    ·refine qS ?_
     refine Wp.ret ?_
     refine zc ?_
     cases hm
     exact zm
    ·refine Wp.skip ?_
     refine hK18 _ _ ?_
     obtain ⟨r_22,hr_22,hm⟩:=zb hm
     refine Wp.seqR fun K22 hK22=>?_
     simp only [go_sem,simprocAttr]
     try refine ⟨sd,?_⟩
     refine Rg.callX (av:=?av23) (g:=true) (fun hg=>ok_log_recordText r_1 _ hr_22) si si si sg si ?cont23
     intro hv23
     simp only [go_sem,simprocAttr]
     refine kA hK22 ?_
     obtain ⟨c_23,hm⟩:=zf hm
     obtain ⟨r_24,hr_24,hm⟩:=zb hm
     refine Wp.seqR fun K24 hK24=>?_
     simp only [go_sem,simprocAttr]
     try refine ⟨sL,?_⟩
     refine Rg.callX (av:=?av25) (g:=true) (fun hg=>zdo (o0_2_2++r_22) _ hr_24) si si si sg si ?cont25
     intro hv25
     simp only [go_sem,simprocAttr]
     refine kA hK24 ?_
     obtain ⟨c_25,hm⟩:=zf hm
     refine Wp.seqD (plan:=pl [(0,none),(1,none),(2,none),(3,none),(4,none),(5,none),(6,some [0,1,2,3,4]),(7,some [0]),(8,none),(9,none),(10,some [])]) (by kernel_rfl) rfl (by kernel_rfl) fun K26 hK26=>?_
     simp only [go_sem,simprocAttr]
     refine kA hK26 ?_
     obtain ⟨c_26,hm⟩:=zf hm
     obtain ⟨c_27,hm⟩:=zf hm
     obtain ⟨c_28,hm⟩:=zf hm
     obtain ⟨c_29,hm⟩:=zf hm
     refine Wp.seqD (plan:=pl [(0,none),(1,none),(2,none),(3,none),(4,none),(5,none),(6,none),(7,none),(8,none),(9,none),(10,none),(11,none),(12,none),(13,some [0,1,2,3,4]),(14,some [0]),(15,none),(16,none),(17,some [])]) (by kernel_rfl) rfl (by kernel_rfl) fun K27 hK27=>?_
     simp only [go_sem,simprocAttr]
     refine kA hK27 ?_
     obtain ⟨r_30,hr_30,hm⟩:=zb hm
     refine Wp.seqD (plan:=pl [(0,none),(1,none),(2,none),(3,none),(4,none),(5,some [])]) (by kernel_rfl) rfl (by kernel_rfl) fun K28 hK28=>?_
     simp only [go_sem,simprocAttr]
     try refine ⟨sd,?_⟩
     refine Dr.of_br (Br.callE (av:=?av29) (o:=?o29) [3,4] (ok_log_table_add_i1 r_1 o3_1_5 m4_6 _ hr_30) si si si si si sg sg sg sg ?cont29)
     simp only [go_sem,simprocAttr]
     refine kA hK28 ?_
     refine qS ?_
     refine Wp.ret ?_
     refine zc ?_
     cases hm
     exact zm
theorem ok_R_recordWords  (z:List Str) (hm:zdx=some z):Does Tryz.prog 79 [] [] (fun r X=>r=.p (.l (List.map ecS z))∧X=[]):=by
 unfold zdx at hm
 refine dW 0 2 [.tmp 0] Tryz.func79 fun B=>?_
 refine qS ?_
 refine qS ?_
 refine Wp.ret ?_
 refine retQ_retE ?_
 cases hm
 exact zm
theorem ok_R_VersionText (v_1:api_Version) (z:Str) (hm:zcJ v_1=some z):Does Tryz.prog 78 [.agg [.p (.i .i64 v_1.Major),.p (.i .i64 v_1.Minor),.p (.i .i64 v_1.Patch),.p (.s v_1.Early)]] [] (fun r X=>r=.p (.s z)∧X=[]):=by
 unfold zcJ at hm
 refine dW 0 26 [.tmp 2] Tryz.func78 fun B=>?_
 refine qS ?_
 obtain ⟨r_2,hr_2,hm⟩:=zb hm
 obtain ⟨c_3,hm⟩:=zf hm
 obtain ⟨r_4,hr_4,hm⟩:=zb hm
 obtain ⟨c_5,hm⟩:=zf hm
 obtain ⟨c_6,hm⟩:=zf hm
 obtain ⟨r_7,hr_7,hm⟩:=zb hm
 obtain ⟨c_8,hm⟩:=zf hm
 refine Wp.seqD (plan:=pl [(0,none),(1,none),(2,none),(3,none),(4,none),(5,none),(6,none),(7,none),(8,none),(9,none),(10,none),(11,none),(12,none),(13,none)]) (by kernel_rfl) rfl (by kernel_rfl) fun K2 hK2=>?_
 simp only [go_sem,simprocAttr]
 try refine ⟨sL,?_⟩
 refine Dr.callF (av:=?av3) (g:=true) (o:=?o3) (fun hg=>z8 v_1.Major _ hr_2) si si si si sg si ?cont3
 simp only [go_sem,simprocAttr]
 try refine ⟨sL,?_⟩
 refine Dr.callF (av:=?av4) (g:=true) (o:=?o4) (fun hg=>z8 v_1.Minor _ hr_4) si si si si sg si ?cont4
 simp only [go_sem,simprocAttr]
 try refine ⟨sL,?_⟩
 refine Dr.callF (av:=?av5) (g:=true) (o:=?o5) (fun hg=>z8 v_1.Patch _ hr_7) si si si si sg si ?cont5
 simp only [go_sem,simprocAttr]
 refine kA hK2 ?_
 refine Wp.seqW fun K6 hK6 hW6=>?_
 refine qS ?_
 refine cM hm (fun hc8 hm=>?_) (fun hc8 hm=>?_)
 ·obtain ⟨c_9,hm⟩:=zf hm
  obtain ⟨c_10,hm⟩:=zf hm
  refine Wp.region fun K9 hK9=>?_
  simp only [go_sem,simprocAttr]
  refine kA hK9 ?_
  refine hK6 _ _ ?_
  refine qS ?_
  refine Wp.ret ?_
  refine zc ?_
  cases hm
  exact zm
 ·refine Wp.skip ?_
  refine hK6 _ _ ?_
  refine qS ?_
  refine Wp.ret ?_
  refine zc ?_
  cases hm
  exact zm
theorem zeu (v_1:api_Version) (z:Str) (hm:zbC v_1=some z):Does Tryz.prog 77 [.agg [.p (.i .i64 v_1.Major),.p (.i .i64 v_1.Minor),.p (.i .i64 v_1.Patch),.p (.s v_1.Early)]] [] (fun r X=>r=.p (.s z)∧X=[]):=by
 unfold zbC at hm
 refine dW 0 8 [.tmp 2] Tryz.func77 fun B=>?_
 refine qS ?_
 refine Wp.seqW fun K2 hK2 hW2=>?_
 refine qS ?_
 refine cM hm (fun hc4 hm=>?_) (fun hc4 hm=>?_)
 ·refine qS ?_
  refine Wp.ret ?_
  refine zc ?_
  cases hm
  exact zm
 ·refine Wp.skip ?_
  refine hK2 _ _ ?_
  obtain ⟨r_2,hr_2,hm⟩:=zb hm
  refine Wp.seqR fun K6 hK6=>?_
  simp only [go_sem,simprocAttr]
  try refine ⟨sd,?_⟩
  refine Rg.callX (av:=?av7) (g:=true) (fun hg=>ok_R_VersionText v_1 _ hr_2) si si si sg si ?cont7
  intro hv7
  simp only [go_sem,simprocAttr]
  refine kA hK6 ?_
  refine Wp.ret ?_
  refine zc ?_
  cases hm
  exact zm
end Go.Proofs.YtmnohdgjkcjdeaaGreatDoor
