/- That the code does what the models say (part 2). -/
import Derived.Test.YtmnohdgjkcjdeaaGreatDoorLpWk0
import Derived.Test.YtmnohdgjkcjdeaaGreatDoorLpWk1
set_option linter.unusedSimpArgs false
set_option linter.unusedVariables false
open Go.Proofs Go.Shelf
namespace Go.Proofs.YtmnohdgjkcjdeaaGreatDoor
open Go.Vc Go.Md
set_option maxRecDepth 100000
set_option maxHeartbeats 4000000
theorem zgT (vals_2:List Int) (z:Int) (hm:zdE vals_2=some z):Does Tryz.prog 64 [.p (.l (List.map zaK vals_2))] [] (fun r X=>r=.p (.i .i64 z)∧X=[]):=by
 unfold zdE at hm
 refine dW 0 18 [.tmp 2] Tryz.func64 fun B=>?_
 refine qS ?_
 refine qS ?_
 refine Wp.seqW fun K3 hK3 hW3=>?_
 obtain ⟨k_3,hk_3,hm⟩:=zk hm
 have hcut3:∀ s,k_3 s=some z→K3 [(3,.p (.i .i64 0))] []:=by
  intro s hs
  have hm:=hk_3 _ hs
  clear hs
  try dsimp only at hm
  try dsimp only
  refine hK3 _ _ ?_
  refine qS ?_
  refine Wp.ret ?_
  refine zc ?_
  cases hm
  exact zb7
 clear hK3 hk_3
 refine qS ?_
 refine Wp.block ?_
 obtain ⟨k_6,hk_6,hm⟩:=zT hm
 refine Wp.fact 6 fun hl_5=>?_
 replace hl_5:vals_2.length≤274877906944:=by
  simp only [go_sem,simprocAttr,List.length_map] at hl_5
  omega
 refine Wp.forL (fun i_4 s=>[(3,.p (.i .i64 0)),(6,.p (.l (List.map zaK vals_2))),(7,.p (.i .i64 (vals_2.length:Int))),(8,.p (.i .i64 (i_4:Int)))]) (fun i_4 s=>[]) ?_ hm ?_
 ·
  exact zb7
 clear hm
 intro i_4 s hii_4 hm
 try dsimp only at hm
 try dsimp only
 refine qS ?_
 refine Wp.seqW fun K7 hK7 hW7=>?_
 refine Wp.cond rfl ⟨⟩ (fun hc7=>?_) (fun hc7=>?_)
 rotate_left
 ·refine Wp.exit ?_
  have hm:=hk_6 _ (zaf hm (zbc (by first | exact hc7 | simpa using hc7)))
  try dsimp only at hm
  refine hW3 _ _ _ _ ?_ (hcut3 () hm)
  exact zb7
 have hlt7:=zbb (by first | exact hc7 | simpa using hc7)
 have hw7:=zR hlt7 hl_5
 obtain ⟨n_1,nx_7,hxn_1,hyn_1,hnx_7,hm⟩:=zS hm hlt7
 replace hxn_1:=hxn_1 zaK
 refine Wp.skip ?_
 simp only [zl]
 refine hK7 _ _ ?_
 refine Wp.seqW fun K8 hK8 hW8=>?_
 refine Wp.block ?_
 refine Wp.seqR fun K9 hK9=>?_
 simp only [go_sem,simprocAttr,hw7,hxn_1]
 refine kA hK9 ?_
 refine Wp.seqR fun K10 hK10=>?_
 simp only [go_sem,simprocAttr,hw7,hxn_1]
 refine kA hK10 ?_
 refine cM hm (fun hc11 hm=>?_) (fun hc11 hm=>?_)
 ·refine Wp.seqR fun K12 hK12=>?_
  simp only [go_sem,simprocAttr,hw7,hxn_1]
  refine kA hK12 ?_
  refine Wp.ret ?_
  refine zc ?_
  cases hm
  simp only [go_sem,simprocAttr,hw7,hxn_1]
  try exact se2
 ·refine Wp.skip ?_
  refine hK8 _ _ ?_
  refine Wp.region fun K13 hK13=>?_
  simp only [go_sem,simprocAttr,hw7,hxn_1]
  refine kA hK13 ?_
  simp only [zl,zi,↓reduceIte]
  refine ⟨(),hlt7,hnx_7 _ hm,?_⟩
  simp only [go_sem,simprocAttr,hw7,hxn_1]
  try exact se2
theorem zbi (s:Str) (z:Int × Bool) (hm:zaw s=some z):Does Tryz.prog 66 [.p (.s s)] [] (fun r X=>r=.tup [.p (.i .i64 z.1),.er z.2]∧X=[]):=by
 cases hm
 exact Does.atoiA Tryz.atoiE ifc_1 ifc_2 ⟨_,Tryz.func66,by kernel_rfl,by kernel_rfl⟩ s
theorem zcD (a_1:Str) (b_2:Str) (z:Int) (hm:zaH a_1 b_2=some z):Does Tryz.prog 106 [.p (.s a_1),.p (.s b_2)] [] (fun r X=>r=.p (.i .i64 z)∧X=[]):=by
 unfold zaH at hm
 refine dW 0 8 [.tmp 4] Tryz.func106 fun B=>?_
 refine qS ?_
 have hb_3:=cmpB_bd a_1 b_2
 refine Wp.seqR fun K2 hK2=>?_
 simp only [go_sem,simprocAttr]
 try refine ⟨sd,?_⟩
 refine Rg.callN (av:=?av3) (g:=true) (fun hg=>nv_145 a_1 b_2) si si si sg si ?cont3
 intro hv3
 simp only [go_sem,simprocAttr]
 refine kA hK2 ?_
 refine Wp.ret ?_
 refine zc ?_
 cases hm
 exact zb7
theorem zeb (a_1:Str) (b_2:Str) (z:Int) (hm:zbK a_1 b_2=some z):Does Tryz.prog 67 [.p (.s a_1),.p (.s b_2)] [] (fun r X=>r=.p (.i .i64 z)∧X=[]):=by
 unfold zbK at hm
 refine dW 0 8 [.tmp 4] Tryz.func67 fun B=>?_
 refine qS ?_
 obtain ⟨r_3,hr_3,hm⟩:=zb hm
 refine Wp.seqR fun K2 hK2=>?_
 simp only [go_sem,simprocAttr]
 try refine ⟨sd,?_⟩
 refine Rg.callX (av:=?av3) (g:=true) (fun hg=>zcD a_1 b_2 _ hr_3) si si si sg si ?cont3
 intro hv3
 simp only [go_sem,simprocAttr]
 refine kA hK2 ?_
 refine Wp.ret ?_
 refine zc ?_
 cases hm
 exact zb7
theorem zjK (a_3:api_Version) (b_4:api_Version) (z:Int) (hm:zdZ a_3 b_4=some z):Does Tryz.prog 32 [.agg [.p (.i .i64 a_3.Major),.p (.i .i64 a_3.Minor),.p (.i .i64 a_3.Patch),.p (.s a_3.Early)],.agg [.p (.i .i64 b_4.Major),.p (.i .i64 b_4.Minor),.p (.i .i64 b_4.Patch),.p (.s b_4.Early)]] [] (fun r X=>r=.p (.i .i64 z)∧X=[]):=by
 unfold zdZ at hm
 refine dW 0 123 [.tmp 4] Tryz.func32 fun B=>?_
 refine qS ?_
 refine Wp.seqW fun K2 hK2 hW2=>?_
 obtain ⟨r_10,hr_10,hm⟩:=zb hm
 obtain ⟨r_11,hr_11,hm⟩:=zb hm
 obtain ⟨r_12,hr_12,hm⟩:=zb hm
 obtain ⟨r_17,hr_17,hm⟩:=zb hm
 refine Wp.seqD (plan:=pl [(0,none),(1,none),(2,none),(3,none),(4,none),(5,none),(6,none),(7,none),(8,none),(9,none),(10,none),(11,none),(12,none),(13,none),(14,none),(15,some []),(16,none),(17,none)]) (by kernel_rfl) rfl (by kernel_rfl) fun K3 hK3=>?_
 simp only [go_sem,simprocAttr]
 try refine ⟨sd,?_⟩
 refine Dr.callF (av:=?av4) (g:=true) (o:=?o4) (fun hg=>zQ a_3.Major b_4.Major _ hr_10) si si si si sg si ?cont4
 simp only [go_sem,simprocAttr]
 try refine ⟨sd,?_⟩
 refine Dr.callF (av:=?av5) (g:=true) (o:=?o5) (fun hg=>zQ a_3.Minor b_4.Minor _ hr_11) si si si si sg si ?cont5
 simp only [go_sem,simprocAttr]
 try refine ⟨sd,?_⟩
 refine Dr.callF (av:=?av6) (g:=true) (o:=?o6) (fun hg=>zQ a_3.Patch b_4.Patch _ hr_12) si si si si sg si ?cont6
 simp only [go_sem,simprocAttr]
 try refine ⟨sd,?_⟩
 refine Dr.callF (av:=?av7) (g:=true) (o:=?o7) (fun hg=>zgT [r_10,r_11,r_12] _ hr_17) si si si si sg si ?cont7
 simp only [go_sem,simprocAttr]
 refine kA hK3 ?_
 refine qS ?_
 refine cM hm (fun hc9 hm=>?_) (fun hc9 hm=>?_)
 ·refine qS ?_
  refine Wp.ret ?_
  refine zc ?_
  cases hm
  exact zb7
 ·refine Wp.skip ?_
  refine hK2 _ _ ?_
  refine Wp.seqW fun K11 hK11 hW11=>?_
  refine qS ?_
  refine cM hm (fun hc13 hm=>?_) (fun hc13 hm=>?_)
  ·obtain ⟨r_18,hr_18,hm⟩:=zb hm
   refine Wp.seqR fun K14 hK14=>?_
   simp only [go_sem,simprocAttr]
   try refine ⟨sd,?_⟩
   refine Rg.callX (av:=?av15) (g:=true) (fun hg=>zQ (min 1 (b_4.Early.length:Int)) (min 1 (a_3.Early.length:Int)) _ hr_18) si si si sg si ?cont15
   intro hv15
   simp only [go_sem,simprocAttr]
   refine kA hK14 ?_
   refine Wp.ret ?_
   refine zc ?_
   cases hm
   exact zb7
  ·refine Wp.skip ?_
   refine hK11 _ _ ?_
   obtain ⟨r_5,hr_5,hm⟩:=zb hm
   obtain ⟨r_6,hr_6,hm⟩:=zb hm
   refine Wp.seqD (plan:=pl [(0,none),(1,none),(3,none),(4,none),(2,some [3,4]),(5,some []),(6,none),(7,none)]) (by kernel_rfl) rfl (by kernel_rfl) fun K16 hK16=>?_
   simp only [go_sem,simprocAttr]
   try refine ⟨sd,?_⟩
   refine Dr.of_br (Br.callR (av:=?av17) (g:=true) (o:=?o17) [] (fun hg=>zak a_3.Early ([46]:Str) _ hr_5) si si si si si sg sg sg sg ?cont17)
   simp only [go_sem,simprocAttr]
   try refine ⟨sd,?_⟩
   refine Dr.of_br (Br.callR (av:=?av18) (g:=true) (o:=?o18) [] (fun hg=>zak b_4.Early ([46]:Str) _ hr_6) si si si si si sg sg sg sg ?cont18)
   simp only [go_sem,simprocAttr]
   refine kA hK16 ?_
   refine Wp.seqW fun K19 hK19 hW19=>?_
   obtain ⟨k_7,hk_7,hm⟩:=zk hm
   have hcut19:∀ s,k_7 s=some z→K19 [(6,.p (.l (List.map ecS r_5))),(7,.p (.l (List.map ecS r_6)))] []:=by
    intro s hs
    have hm:=hk_7 _ hs
    clear hs
    try dsimp only at hm
    try dsimp only
    refine hK19 _ _ ?_
    obtain ⟨r_19,hr_19,hm⟩:=zb hm
    refine Wp.seqR fun K20 hK20=>?_
    simp only [go_sem,simprocAttr]
    try refine ⟨sd,?_⟩
    refine Rg.callX (av:=?av21) (g:=true) (fun hg=>zQ (r_5.length:Int) (r_6.length:Int) _ hr_19) si si si sg si ?cont21
    intro hv21
    simp only [go_sem,simprocAttr]
    refine kA hK20 ?_
    refine Wp.ret ?_
    refine zc ?_
    cases hm
    exact zb7
   clear hK19 hk_7
   refine qS ?_
   refine Wp.block ?_
   obtain ⟨k_20,hk_20,hm⟩:=zB hm
   refine Wp.loopN (fun s=>[(6,.p (.l (List.map ecS r_5))),(7,.p (.l (List.map ecS r_6))),(63,.p (.i .i64 (min (r_5.length:Int) (r_6.length:Int)))),(64,.p (.i .i64 s))]) (fun s=>[]) ?_ hm ?_
   ·
    exact zb7
   clear hm
   intro t64_8 nx_23 hm
   try dsimp only at hm
   try dsimp only
   refine qS ?_
   refine Wp.seqW fun K24 hK24 hW24=>?_
   refine cM hm (fun hc25 hm=>?_) (fun hc25 hm=>?_)
   ·refine Wp.skip ?_
    refine hK24 _ _ ?_
    refine Wp.seqW fun K26 hK26 hW26=>?_
    refine Wp.block ?_
    refine qS ?_
    obtain ⟨s_1,hbs_1,hxs_1,hys_1,hm⟩:=zZ hm
    replace hxs_1:∀ d,(List.map ecS r_5).getD t64_8.toNat d=ecS s_1:=hxs_1 ecS
    obtain ⟨r_21,hr_21,hm⟩:=zb hm
    obtain ⟨s_2,hbs_2,hxs_2,hys_2,hm⟩:=zZ hm
    replace hxs_2:∀ d,(List.map ecS r_6).getD t64_8.toNat d=ecS s_2:=hxs_2 ecS
    obtain ⟨r_22,hr_22,hm⟩:=zb hm
    refine Wp.seqD (plan:=pl [(0,none),(1,none),(2,none),(3,none),(4,none),(5,none),(6,none),(7,none),(8,none),(9,none),(10,none),(11,none)]) (by kernel_rfl) rfl (by kernel_rfl) fun K28 hK28=>?_
    simp only [go_sem,simprocAttr,hxs_1,hxs_2]
    try refine ⟨sd,?_⟩
    refine Dr.callF (av:=?av29) (g:=true) (o:=?o29) (fun hg=>ziU s_1 ([48,49,50,51,52,53,54,55,56,57]:Str) _ hr_21) (by simp only [go_sem,simprocAttr,hxs_1,hxs_2]; exact Is.mk) (by simp only [go_sem,simprocAttr,hxs_1,hxs_2]; exact Is.mk) (by simp only [go_sem,simprocAttr,hxs_1,hxs_2]; exact Is.mk) (by simp only [go_sem,simprocAttr,hxs_1,hxs_2]; exact Is.mk) (by simp only [go_sem,simprocAttr,hxs_1,hxs_2]) (by simp only [go_sem,simprocAttr,hxs_1,hxs_2]; exact Is.mk) ?cont29
    simp only [go_sem,simprocAttr,hxs_1,hxs_2]
    try refine ⟨sd,?_⟩
    refine Dr.callF (av:=?av30) (g:=true) (o:=?o30) (fun hg=>ziU s_2 ([48,49,50,51,52,53,54,55,56,57]:Str) _ hr_22) (by simp only [go_sem,simprocAttr,hxs_1,hxs_2]; exact Is.mk) (by simp only [go_sem,simprocAttr,hxs_1,hxs_2]; exact Is.mk) (by simp only [go_sem,simprocAttr,hxs_1,hxs_2]; exact Is.mk) (by simp only [go_sem,simprocAttr,hxs_1,hxs_2]; exact Is.mk) (by simp only [go_sem,simprocAttr,hxs_1,hxs_2]) (by simp only [go_sem,simprocAttr,hxs_1,hxs_2]; exact Is.mk) ?cont30
    simp only [go_sem,simprocAttr,hxs_1,hxs_2]
    refine kA hK28 ?_
    obtain ⟨r_13,hr_13,hm⟩:=zb hm
    refine Wp.seqR fun K31 hK31=>?_
    simp only [go_sem,simprocAttr,hxs_1,hxs_2]
    try refine ⟨sd,?_⟩
    refine Rg.callF (av:=?av32) (zbi s_1 _ hr_13) (by simp only [go_sem,simprocAttr,hxs_1,hxs_2]; exact Is.mk) (by simp only [go_sem,simprocAttr,hxs_1,hxs_2]; exact Is.mk) (by simp only [go_sem,simprocAttr,hxs_1,hxs_2]) ?cont32
    intro hv32
    simp only [go_sem,simprocAttr,hxs_1,hxs_2]
    refine kA hK31 ?_
    obtain ⟨r_14,hr_14,hm⟩:=zb hm
    refine Wp.seqR fun K33 hK33=>?_
    simp only [go_sem,simprocAttr,hxs_1,hxs_2]
    try refine ⟨sd,?_⟩
    refine Rg.callF (av:=?av34) (zbi s_2 _ hr_14) (by simp only [go_sem,simprocAttr,hxs_1,hxs_2]; exact Is.mk) (by simp only [go_sem,simprocAttr,hxs_1,hxs_2]; exact Is.mk) (by simp only [go_sem,simprocAttr,hxs_1,hxs_2]) ?cont34
    intro hv34
    simp only [go_sem,simprocAttr,hxs_1,hxs_2]
    refine kA hK33 ?_
    obtain ⟨r_15,hr_15,hm⟩:=zb hm
    refine Wp.seqD (plan:=pl [(0,none),(1,none),(2,none),(3,none),(4,none),(5,none),(6,none),(7,none),(8,none),(9,none)]) (by kernel_rfl) rfl (by kernel_rfl) fun K35 hK35=>?_
    simp only [go_sem,simprocAttr,hxs_1,hxs_2]
    try refine ⟨sd,?_⟩
    refine Dr.callF (av:=?av36) (g:=true) (o:=?o36) (fun hg=>zeb s_1 s_2 _ hr_15) (by simp only [go_sem,simprocAttr,hxs_1,hxs_2]; exact Is.mk) (by simp only [go_sem,simprocAttr,hxs_1,hxs_2]; exact Is.mk) (by simp only [go_sem,simprocAttr,hxs_1,hxs_2]; exact Is.mk) (by simp only [go_sem,simprocAttr,hxs_1,hxs_2]; exact Is.mk) (by simp only [go_sem,simprocAttr,hxs_1,hxs_2]) (by simp only [go_sem,simprocAttr,hxs_1,hxs_2]; exact Is.mk) ?cont36
    simp only [go_sem,simprocAttr,hxs_1,hxs_2]
    refine kA hK35 ?_
    refine Wp.seqW fun K37 hK37 hW37=>?_
    obtain ⟨k_9,hk_9,hm⟩:=zk hm
    have hcut37:∀ s,k_9 s=some z→K37 [(6,.p (.l (List.map ecS r_5))),(7,.p (.l (List.map ecS r_6))),(15,.p (.i .i64 s)),(63,.p (.i .i64 (min (r_5.length:Int) (r_6.length:Int)))),(64,.p (.i .i64 t64_8))] []:=by
     intro c_24 hs
     have hm:=hk_9 _ hs
     clear hs
     try dsimp only at hm
     try dsimp only
     refine hK37 _ _ ?_
     refine Wp.seqR fun K38 hK38=>?_
     simp only [go_sem,simprocAttr,hxs_1,hxs_2]
     refine kA hK38 ?_
     refine cM hm (fun hc39 hm=>?_) (fun hc39 hm=>?_)
     ·refine Wp.seqR fun K40 hK40=>?_
      simp only [go_sem,simprocAttr,hxs_1,hxs_2]
      refine kA hK40 ?_
      refine Wp.ret ?_
      refine zc ?_
      cases hm
      simp only [go_sem,simprocAttr,hxs_1,hxs_2]
      try exact se2
     ·refine Wp.skip ?_
      refine hK26 _ _ ?_
      refine Wp.region fun K41 hK41=>?_
      simp only [go_sem,simprocAttr,hxs_1,hxs_2]
      refine kA hK41 ?_
      simp only [zl,zi,↓reduceIte]
      refine ⟨IntKind.i64.wrap (t64_8+1),hm,?_⟩
      simp only [go_sem,simprocAttr,hxs_1,hxs_2]
      try exact se2
    clear hK37 hk_9
    refine Wp.block ?_
    refine Wp.seqR fun K42 hK42=>?_
    simp only [go_sem,simprocAttr,hxs_1,hxs_2]
    refine kA hK42 ?_
    refine cM hm (fun hc43 hm=>?_) (fun hc43 hm=>?_)
    ·obtain ⟨r_16,hr_16,hm⟩:=zb hm
     refine Wp.region fun K44 hK44=>?_
     simp only [go_sem,simprocAttr,hxs_1,hxs_2]
     try refine ⟨sd,?_⟩
     refine Rg.callX (av:=?av45) (g:=true) (fun hg=>zQ r_13.1 r_14.1 _ hr_16) (by simp only [go_sem,simprocAttr,hxs_1,hxs_2]; exact Is.mk) (by simp only [go_sem,simprocAttr,hxs_1,hxs_2]; exact Is.mk) (by simp only [go_sem,simprocAttr,hxs_1,hxs_2]; exact Is.mk) (by simp only [go_sem,simprocAttr,hxs_1,hxs_2]) (by simp only [go_sem,simprocAttr,hxs_1,hxs_2]; exact Is.mk) ?cont45
     intro hv45
     simp only [go_sem,simprocAttr,hxs_1,hxs_2]
     refine kA hK44 ?_
     refine hW37 _ _ _ _ ?_ (hcut37 r_16 hm)
     simp only [go_sem,simprocAttr,hxs_1,hxs_2]
     try exact se2
    ·refine Wp.seqR fun K46 hK46=>?_
     simp only [go_sem,simprocAttr,hxs_1,hxs_2]
     refine kA hK46 ?_
     refine cM hm (fun hc47 hm=>?_) (fun hc47 hm=>?_)
     ·refine Wp.region fun K48 hK48=>?_
      simp only [go_sem,simprocAttr,hxs_1,hxs_2]
      refine kA hK48 ?_
      refine hW37 _ _ _ _ ?_ (hcut37 (-1) hm)
      simp only [go_sem,simprocAttr,hxs_1,hxs_2]
      try exact se2
     ·refine Wp.seqR fun K49 hK49=>?_
      simp only [go_sem,simprocAttr,hxs_1,hxs_2]
      refine kA hK49 ?_
      refine cM hm (fun hc50 hm=>?_) (fun hc50 hm=>?_)
      ·refine Wp.region fun K51 hK51=>?_
       simp only [go_sem,simprocAttr,hxs_1,hxs_2]
       refine kA hK51 ?_
       refine hW37 _ _ _ _ ?_ (hcut37 1 hm)
       simp only [go_sem,simprocAttr,hxs_1,hxs_2]
       try exact se2
      ·refine Wp.skip ?_
       refine hW37 _ _ _ _ ?_ (hcut37 r_15 hm)
       simp only [go_sem,simprocAttr,hxs_1,hxs_2]
       try exact se2
   ·refine Wp.exit ?_
    simp only [zl,zi,↓reduceIte]
    have hm:=hk_20 _ hm
    try dsimp only at hm
    refine hW19 _ _ _ _ ?_ (hcut19 () hm)
    exact zb7
theorem ok_R_IsValue (s_2:Str) (z:Bool) (hm:zfz s_2=some z):Does Tryz.prog 33 [.p (.s s_2)] [] (fun r X=>r=.p (.b z)∧X=[]):=by
 unfold zfz at hm
 refine dW 0 23 [.tmp 2] Tryz.func33 fun B=>?_
 refine qS ?_
 refine Wp.seqW fun K2 hK2 hW2=>?_
 obtain ⟨k_3,hk_3,hm⟩:=zk hm
 have hcut2:∀ s,k_3 s=some z→K2 [(0,.p (.s s_2))] []:=by
  intro s hs
  have hm:=hk_3 _ hs
  clear hs
  try dsimp only at hm
  try dsimp only
  refine hK2 _ _ ?_
  refine qS ?_
  refine Wp.ret ?_
  refine zc ?_
  cases hm
  exact zb7
 clear hK2 hk_3
 refine qS ?_
 refine Wp.block ?_
 obtain ⟨k_6,hk_6,hm⟩:=zT hm
 refine Wp.fact 0 fun hl_5=>?_
 replace hl_5:s_2.length≤274877906944:=by
  simp only [go_sem,simprocAttr,List.length_map] at hl_5
  omega
 refine Wp.forL (fun i_4 s=>[(0,.p (.s s_2)),(5,.p (.i .i64 (s_2.length:Int))),(6,.p (.i .i64 (i_4:Int)))]) (fun i_4 s=>[]) ?_ hm ?_
 ·
  exact zb7
 clear hm
 intro i_4 s hii_4 hm
 try dsimp only at hm
 try dsimp only
 refine qS ?_
 refine Wp.seqW fun K6 hK6 hW6=>?_
 refine Wp.cond rfl ⟨⟩ (fun hc6=>?_) (fun hc6=>?_)
 rotate_left
 ·refine Wp.exit ?_
  have hm:=hk_6 _ (zaf hm (zbc (by first | exact hc6 | simpa using hc6)))
  try dsimp only at hm
  refine hW2 _ _ _ _ ?_ (hcut2 () hm)
  exact zb7
 have hlt6:=zbb (by first | exact hc6 | simpa using hc6)
 have hw6:=zR hlt6 hl_5
 obtain ⟨c_1,nx_7,hxc_1,hyc_1,hnx_7,hm⟩:=zS hm hlt6
 clear hxc_1
 refine Wp.skip ?_
 simp only [zl]
 refine hK6 _ _ ?_
 refine Wp.seqW fun K7 hK7 hW7=>?_
 refine Wp.block ?_
 refine Wp.seqR fun K8 hK8=>?_
 simp only [go_sem,simprocAttr,hw6,hyc_1]
 refine kA hK8 ?_
 refine Wp.seqR fun K9 hK9=>?_
 simp only [go_sem,simprocAttr,hw6,hyc_1]
 refine kA hK9 ?_
 refine cM hm (fun hc10 hm=>?_) (fun hc10 hm=>?_)
 ·refine Wp.seqR fun K11 hK11=>?_
  simp only [go_sem,simprocAttr,hw6,hyc_1]
  refine kA hK11 ?_
  refine Wp.ret ?_
  refine zc ?_
  cases hm
  simp only [go_sem,simprocAttr,hw6,hyc_1]
  try exact se2
 ·refine Wp.skip ?_
  refine hK7 _ _ ?_
  refine Wp.region fun K12 hK12=>?_
  simp only [go_sem,simprocAttr,hw6,hyc_1]
  refine kA hK12 ?_
  simp only [zl,zi,↓reduceIte]
  refine ⟨(),hlt6,hnx_7 _ hm,?_⟩
  simp only [go_sem,simprocAttr,hw6,hyc_1]
  try exact se2
theorem zcd (r_1:api_Record) (z:Int) (hm:zaT r_1=some z):Does Tryz.prog 9 [.agg [.p (.i .i64 r_1.Time),.p (.i .i64 r_1.Kind),.p (.s r_1.Pack),.p (.i .i64 r_1.From.Major),.p (.i .i64 r_1.From.Minor),.p (.i .i64 r_1.From.Patch),.p (.s r_1.From.Early),.p (.i .i64 r_1.To.Major),.p (.i .i64 r_1.To.Minor),.p (.i .i64 r_1.To.Patch),.p (.s r_1.To.Early),.p (.i .i64 r_1.Result),.p (.s r_1.Note)]] [] (fun r X=>r=.p (.i .i64 z)∧X=[]):=by
 unfold zaT at hm
 refine dW 0 122 [.tmp 2] Tryz.func9 fun B=>?_
 refine qS ?_
 obtain ⟨r_6,hr_6,hm⟩:=zb hm
 obtain ⟨r_7,hr_7,hm⟩:=zb hm
 obtain ⟨r_8,hr_8,hm⟩:=zb hm
 obtain ⟨r_9,hr_9,hm⟩:=zb hm
 obtain ⟨r_4,hr_4,hm⟩:=zb hm
 refine Wp.seqD (plan:=pl [(0,none),(1,none),(2,none),(3,none),(4,none),(5,none),(6,none),(7,none),(8,none),(9,none),(10,none),(11,none),(12,none),(13,none),(14,none),(15,none),(16,none),(17,none),(18,none),(19,none),(20,none),(21,none),(22,none),(23,some []),(24,none),(25,none)]) (by kernel_rfl) rfl (by kernel_rfl) fun K2 hK2=>?_
 simp only [go_sem,simprocAttr]
 try refine ⟨sd,?_⟩
 refine Dr.callF (av:=?av3) (g:=true) (o:=?o3) (fun hg=>zeu ((decide (r_1.Time < 0)) || (decide (1099511627776 < r_1.Time))) 3 _ hr_6) si si si si sg si ?cont3
 simp only [go_sem,simprocAttr]
 try refine ⟨sd,?_⟩
 refine Dr.callF (av:=?av4) (g:=true) (o:=?o4) (fun hg=>zeu ((decide (r_1.Kind < 1)) || (decide (6 < r_1.Kind))) 1 _ hr_7) si si si si sg si ?cont4
 simp only [go_sem,simprocAttr]
 try refine ⟨sd,?_⟩
 refine Dr.callF (av:=?av5) (g:=true) (o:=?o5) (fun hg=>ok_R_IsName r_1.Pack _ hr_8) si si si si sg si ?cont5
 simp only [go_sem,simprocAttr]
 try refine ⟨sd,?_⟩
 refine Dr.callF (av:=?av6) (g:=true) (o:=?o6) (fun hg=>zeu (!r_8) 5 _ hr_9) si si si si sg si ?cont6
 simp only [go_sem,simprocAttr]
 try refine ⟨sd,?_⟩
 refine Dr.callF (av:=?av7) (g:=true) (o:=?o7) (fun hg=>zfF [r_6,r_7,r_9] _ hr_4) si si si si sg si ?cont7
 simp only [go_sem,simprocAttr]
 refine kA hK2 ?_
 refine Wp.seqW fun K8 hK8 hW8=>?_
 obtain ⟨k_10,hk_10,hm⟩:=zk hm
 have hcut8:∀ s,k_10 s=some z→K8 [(1,.ptr 0 0),(3,.p (.i .i64 s))] [.cells 30 [.p (.i .i64 r_1.Time),.p (.i .i64 r_1.Kind),.p (.s r_1.Pack),.p (.i .i64 r_1.From.Major),.p (.i .i64 r_1.From.Minor),.p (.i .i64 r_1.From.Patch),.p (.s r_1.From.Early),.p (.i .i64 r_1.To.Major),.p (.i .i64 r_1.To.Minor),.p (.i .i64 r_1.To.Patch),.p (.s r_1.To.Early),.p (.i .i64 r_1.Result),.p (.s r_1.Note)]]:=by
  intro e_17 hs
  have hm:=hk_10 _ hs
  clear hs
  try dsimp only at hm
  try dsimp only
  refine hK8 _ _ ?_
  refine Wp.seqW fun K9 hK9 hW9=>?_
  refine qS ?_
  refine cM hm (fun hc11 hm=>?_) (fun hc11 hm=>?_)
  ·refine qS ?_
   refine Wp.ret ?_
   refine zc ?_
   cases hm
   exact zb7
  ·refine Wp.skip ?_
   refine hK9 _ _ ?_
   refine qS ?_
   refine qS ?_
   refine qS ?_
   refine Wp.seqW fun K16 hK16 hW16=>?_
   refine qS ?_
   refine cM hm (fun hc18 hm=>?_) (fun hc18 hm=>?_)
   ·refine qS ?_
    refine Wp.ret ?_
    refine zc ?_
    cases hm
    exact zb7
   ·refine Wp.skip ?_
    refine hK16 _ _ ?_
    obtain ⟨r_11,hr_11,hm⟩:=zb hm
    refine Wp.seqR fun K20 hK20=>?_
    simp only [go_sem,simprocAttr]
    try refine ⟨sd,?_⟩
    refine Rg.callX (av:=?av21) (g:=true) (fun hg=>zjK r_1.From r_1.To _ hr_11) si si si sg si ?cont21
    intro hv21
    simp only [go_sem,simprocAttr]
    refine kA hK20 ?_
    obtain ⟨r_12,hr_12,hm⟩:=zb hm
    obtain ⟨r_13,hr_13,hm⟩:=zb hm
    obtain ⟨r_14,hr_14,hm⟩:=zb hm
    obtain ⟨r_15,hr_15,hm⟩:=zb hm
    obtain ⟨r_16,hr_16,hm⟩:=zb hm
    refine Wp.seqD (plan:=pl [(0,none),(1,none),(2,none),(3,none),(4,none),(5,none),(6,none),(7,none),(8,none),(9,none),(10,none),(11,none),(12,none),(13,none),(14,none),(15,none),(16,none),(17,none),(18,none),(19,none),(20,none),(21,none),(22,none),(23,none),(24,none),(25,none),(26,none),(27,none),(28,none),(29,none),(30,none),(31,some []),(32,none),(33,none)]) (by kernel_rfl) rfl (by kernel_rfl) fun K22 hK22=>?_
    simp only [go_sem,simprocAttr]
    try refine ⟨sd,?_⟩
    refine Dr.callF (av:=?av23) (g:=true) (o:=?o23) (fun hg=>zeu (((decide (r_1.Kind=2)) && (decide (0≤r_11))) || ((decide (r_1.Kind=3)) && (decide (r_11≤0)))) 11 _ hr_12) si si si si sg si ?cont23
    simp only [go_sem,simprocAttr]
    try refine ⟨sd,?_⟩
    refine Dr.callF (av:=?av24) (g:=true) (o:=?o24) (fun hg=>zeu ((decide (r_1.Result < 0)) || (decide (18 < r_1.Result))) 3 _ hr_13) si si si si sg si ?cont24
    simp only [go_sem,simprocAttr]
    try refine ⟨sd,?_⟩
    refine Dr.callF (av:=?av25) (g:=true) (o:=?o25) (fun hg=>ok_R_IsValue r_1.Note _ hr_14) si si si si sg si ?cont25
    simp only [go_sem,simprocAttr]
    try refine ⟨sd,?_⟩
    refine Dr.callF (av:=?av26) (g:=true) (o:=?o26) (fun hg=>zeu (!r_14) 2 _ hr_15) si si si si sg si ?cont26
    simp only [go_sem,simprocAttr]
    try refine ⟨sd,?_⟩
    refine Dr.callF (av:=?av27) (g:=true) (o:=?o27) (fun hg=>zfF [r_12,r_13,r_15] _ hr_16) si si si si sg si ?cont27
    simp only [go_sem,simprocAttr]
    refine kA hK22 ?_
    refine Wp.ret ?_
    refine zc ?_
    cases hm
    exact zb7
 clear hK8 hk_10
 refine qS ?_
 refine cM hm (fun hc29 hm=>?_) (fun hc29 hm=>?_)
 ·obtain ⟨r_2,hr_2,hm⟩:=zb hm
  obtain ⟨r_3,hr_3,hm⟩:=zb hm
  obtain ⟨r_5,hr_5,hm⟩:=zb hm
  refine Wp.regDW (plan:=(.rd 0 (.rd 1 (.rd 4 (.rd 5 (.fk 2 [4,5] (.rd 3 (.ef 6 [0,1,3] (.rd 7 (.ef 8 [] (.rd 9 (.rd 10 .nil)))))) 6 [0,1] (.ef 2 [4,5] (.rd 3 (.rd 7 (.ef 8 [] (.rd 9 (.rd 10 .nil)))))))))))) (by kernel_rfl) rfl (by kernel_rfl) fun K30 hK30 hW30=>?_
  suffices hcont30:K30 [(0,.agg [.p (.i .i64 r_1.Time),.p (.i .i64 r_1.Kind),.p (.s r_1.Pack),.p (.i .i64 r_1.From.Major),.p (.i .i64 r_1.From.Minor),.p (.i .i64 r_1.From.Patch),.p (.s r_1.From.Early),.p (.i .i64 r_1.To.Major),.p (.i .i64 r_1.To.Minor),.p (.i .i64 r_1.To.Patch),.p (.s r_1.To.Early),.p (.i .i64 r_1.Result),.p (.s r_1.Note)]),(1,.ptr 0 0),(2,.p (.i .i64 0)),(3,.p (.i .i64 r_5)),(8,.ptr 0 0),(9,.p (.i .i64 r_1.Time)),(10,.p (.b (decide (r_1.Time < 0)))),(11,.p (.b (decide (r_1.Time < 0)))),(15,.p (.b ((decide (r_1.Time < 0)) || (decide (1099511627776 < r_1.Time))))),(16,.p (.i .i64 r_6)),(17,.ptr 0 1),(18,.p (.i .i64 r_1.Kind)),(19,.p (.b (decide (r_1.Kind < 1)))),(20,.p (.b (decide (r_1.Kind < 1)))),(24,.p (.b ((decide (r_1.Kind < 1)) || (decide (6 < r_1.Kind))))),(25,.p (.i .i64 r_7)),(26,.ptr 0 2),(27,.p (.s r_1.Pack)),(28,.p (.b r_8)),(29,.p (.b (!r_8))),(30,.p (.i .i64 r_9)),(31,.full (List.map zaK [r_6,r_7,r_9])),(32,.p (.i .i64 r_4)),(33,.p (.i .i64 r_4)),(34,.p (.b (decide (r_4=0)))),(35,.ptr 0 3),(36,.agg [.p (.i .i64 r_1.From.Major),.p (.i .i64 r_1.From.Minor),.p (.i .i64 r_1.From.Patch),.p (.s r_1.From.Early)]),(37,.full (List.map zo [r_1.From])),(38,.p (.i .i64 r_2)),(39,.ptr 0 7),(40,.agg [.p (.i .i64 r_1.To.Major),.p (.i .i64 r_1.To.Minor),.p (.i .i64 r_1.To.Patch),.p (.s r_1.To.Early)]),(41,.full (List.map zo [r_1.To])),(42,.p (.i .i64 r_3)),(43,.full (List.map zaK [r_2,r_3])),(44,.p (.i .i64 r_5))] [.cells 30 [.p (.i .i64 r_1.Time),.p (.i .i64 r_1.Kind),.p (.s r_1.Pack),.p (.i .i64 r_1.From.Major),.p (.i .i64 r_1.From.Minor),.p (.i .i64 r_1.From.Patch),.p (.s r_1.From.Early),.p (.i .i64 r_1.To.Major),.p (.i .i64 r_1.To.Minor),.p (.i .i64 r_1.To.Patch),.p (.s r_1.To.Early),.p (.i .i64 r_1.Result),.p (.s r_1.Note)]] by
   simp only [go_sem,simprocAttr]
   try refine ⟨sd,?_⟩
   refine Dr.fk ?_ ?_
   ·
    refine Br.run (o:=?o31) si si ?cont31
    simp only [go_sem,simprocAttr]
    try refine ⟨sd,?_⟩
    refine Dr.callF (av:=?av32) (g:=true) (o:=?o32) (fun hg=>zbk [r_1.From] _ hr_2) si si si si sg si ?cont32
    simp only [go_sem,simprocAttr]
    try refine ⟨sd,?_⟩
    refine Dr.callF (av:=?av33) (g:=true) (o:=?o33) (fun hg=>zbk [r_1.To] _ hr_3) si si si si sg si ?cont33
    simp only [go_sem,simprocAttr]
    try refine ⟨sd,?_⟩
    refine Dr.callF (av:=?av34) (g:=true) (o:=?o34) (fun hg=>zfF [r_2,r_3] _ hr_5) si si si si sg si ?cont34
    simp only [go_sem,simprocAttr]
    first | refine hW30 _ _ _ _ ?_ hcont30 | refine ⟨sd,hW30 _ _ _ _ ?_ hcont30⟩
    exact zb7
   ·
    refine Br.run (o:=?o35) si si ?cont35
    simp only [go_sem,simprocAttr]
    try refine ⟨sd,?_⟩
    refine Dr.callF (av:=?av36) (g:=true) (o:=?o36) (fun hg=>zbk [r_1.From] _ hr_2) si si si si sg si ?cont36
    simp only [go_sem,simprocAttr]
    try refine ⟨sd,?_⟩
    refine Dr.callF (av:=?av37) (g:=true) (o:=?o37) (fun hg=>zbk [r_1.To] _ hr_3) si si si si sg si ?cont37
    simp only [go_sem,simprocAttr]
    try refine ⟨sd,?_⟩
    refine Dr.callF (av:=?av38) (g:=true) (o:=?o38) (fun hg=>zfF [r_2,r_3] _ hr_5) si si si si sg si ?cont38
    simp only [go_sem,simprocAttr]
    first | refine hW30 _ _ _ _ ?_ hcont30 | refine ⟨sd,hW30 _ _ _ _ ?_ hcont30⟩
    exact zb7
  refine hK30 _ _ ?_
  refine hW8 _ _ _ _ ?_ (hcut8 r_5 hm)
  exact zb7
 ·refine Wp.skip ?_
  refine hW8 _ _ _ _ ?_ (hcut8 r_4 hm)
  exact zb7
theorem z8 (s_1:List api_Record) (z:List api_Record) (hm:zx s_1=some z):Does Tryz.prog 11 [.p (.l (List.map za s_1))] [] (fun r X=>r=.buf 0∧X=[.buf 30 13 (List.map za z)]):=by
 unfold zx at hm
 refine dW 1 8 [.tmp 2] Tryz.func11 fun B=>?_
 refine qS ?_
 refine Wp.seqW fun K2 hK2 hW2=>?_
 refine Wp.seqR fun K3 hK3=>?_
 simp only [go_sem,simprocAttr]
 try refine ⟨sd,?_⟩
 refine Rg.isnil (rows:=?rows4) (e:=?e4) (esz:=?esz4) (eb:=?eb4) (ez:=?ez4) Is.mk Is.mk sg sg si si ?cont4
 intro b_2 hb_3
 replace hm:=anyOf_elim hm b_2 (fun h=>List.map_eq_nil_iff.1 (hb_3 h))
 try dsimp only at hm
 simp only [go_sem,simprocAttr]
 refine kA hK3 ?_
 refine cM hm (fun hc5 hm=>?_) (fun hc5 hm=>?_)
 ·refine qS ?_
  refine Wp.adopt 2 30 13 rfl ?_
  simp only [go_sem,simprocAttr]
  refine Wp.ret ?_
  refine zc ?_
  cases hm
  exact zb7
 ·refine Wp.skip ?_
  refine hK2 _ _ ?_
  obtain ⟨c_4,hm⟩:=zf hm
  refine Wp.seqR fun K7 hK7=>?_
  simp only [go_sem,simprocAttr]
  refine kA hK7 ?_
  refine Wp.ret ?_
  refine zc ?_
  cases hm
  exact zb7
theorem zdr (r_1:api_Record) (m0_2:List (Str × api_Had)) (z:Bool × (List (Str × api_Had))) (hm:zdH r_1 m0_2=some z):Does Tryz.prog 34 [.mp 0,.agg [.p (.i .i64 r_1.Time),.p (.i .i64 r_1.Kind),.p (.s r_1.Pack),.p (.i .i64 r_1.From.Major),.p (.i .i64 r_1.From.Minor),.p (.i .i64 r_1.From.Patch),.p (.s r_1.From.Early),.p (.i .i64 r_1.To.Major),.p (.i .i64 r_1.To.Minor),.p (.i .i64 r_1.To.Patch),.p (.s r_1.To.Early),.p (.i .i64 r_1.Result),.p (.s r_1.Note)]] [.mp true (zcN Dt.s zF m0_2)] (fun r X=>r=.p (.b z.1)∧X=[.mp true (zcN Dt.s zF z.2)]):=by
 unfold zdH at hm
 refine dW 1 67 [.tmp 4] Tryz.func34 fun B=>?_
 refine qS ?_
 obtain ⟨q_3,hq_4,hm⟩:=ze hm
 have hq_4d:=zke (e:=zF) keq_s m0_2 r_1.Pack (api_Had.mk [] (api_Version.mk 0 0 0 []) 0)
 have hq_4s:=zkd (e:=zF) keq_s m0_2 r_1.Pack
 simp only [hq_4,zF,List.map_nil] at hq_4d hq_4s
 refine Wp.seqR fun K2 hK2=>?_
 simp only [go_sem,simprocAttr,hq_4d,hq_4s]
 refine kA hK2 ?_
 refine Wp.seqW fun K3 hK3 hW3=>?_
 obtain ⟨k_5,hk_5,hm⟩:=zk hm
 have hcut3:∀ s,k_5 s=some z→K3 [(0,.mp 0),(3,.ptr 1 0)] [.mp true (zcN Dt.s zF m0_2),.cells 30 [.p (.i .i64 r_1.Time),.p (.i .i64 r_1.Kind),.p (.s r_1.Pack),.p (.i .i64 r_1.From.Major),.p (.i .i64 r_1.From.Minor),.p (.i .i64 r_1.From.Patch),.p (.s r_1.From.Early),.p (.i .i64 r_1.To.Major),.p (.i .i64 r_1.To.Minor),.p (.i .i64 r_1.To.Patch),.p (.s r_1.To.Early),.p (.i .i64 r_1.Result),.p (.s r_1.Note)]]:=by
  intro s hs
  have hm:=hk_5 _ hs
  clear hs
  try dsimp only at hm
  try dsimp only
  refine hK3 _ _ ?_
  refine Wp.seqW fun K4 hK4 hW4=>?_
  refine qS ?_
  refine cM hm (fun hc6 hm=>?_) (fun hc6 hm=>?_)
  ·refine qS ?_
   refine Wp.ret ?_
   refine zc ?_
   cases hm
   exact zn
  ·refine Wp.skip ?_
   refine hK4 _ _ ?_
   refine Wp.seqW fun K8 hK8 hW8=>?_
   refine qS ?_
   refine Wp.block ?_
   refine Wp.seqW fun K10 hK10 hW10=>?_
   obtain ⟨k_6,hk_6,hm⟩:=zk hm
   have hcut10:∀ s,k_6 s=some z→K10 [(0,.mp 0),(3,.ptr 1 0),(47,.p (.i .i64 r_1.Kind)),(48,.p (.b s))] [.mp true (zcN Dt.s zF m0_2),.cells 30 [.p (.i .i64 r_1.Time),.p (.i .i64 r_1.Kind),.p (.s r_1.Pack),.p (.i .i64 r_1.From.Major),.p (.i .i64 r_1.From.Minor),.p (.i .i64 r_1.From.Patch),.p (.s r_1.From.Early),.p (.i .i64 r_1.To.Major),.p (.i .i64 r_1.To.Minor),.p (.i .i64 r_1.To.Patch),.p (.s r_1.To.Early),.p (.i .i64 r_1.Result),.p (.s r_1.Note)]]:=by
    intro t48_10 hs
    have hm:=hk_6 _ hs
    clear hs
    try dsimp only at hm
    try dsimp only
    refine hK10 _ _ ?_
    refine cM hm (fun hc11 hm=>?_) (fun hc11 hm=>?_)
    ·obtain ⟨c_11,hm⟩:=zf hm
     have hp_8:=zkZ (e:=zF) keq_s m0_2 r_1.Pack (api_Had.mk r_1.Pack r_1.To r_1.Time)
     simp only [zF] at hp_8
     refine Wp.region fun K12 hK12=>?_
     simp only [go_sem,simprocAttr,hp_8]
     refine kA hK12 ?_
     refine hK8 _ _ ?_
     refine qS ?_
     refine Wp.ret ?_
     refine zc ?_
     cases hm
     exact zn
    ·refine qS ?_
     refine cM hm (fun hc15 hm=>?_) (fun hc15 hm=>?_)
     ·have hp_9:=zk0 (e:=zF) keq_s m0_2 r_1.Pack
      refine Wp.region fun K16 hK16=>?_
      simp only [go_sem,simprocAttr,hp_9]
      refine kA hK16 ?_
      refine hK8 _ _ ?_
      refine qS ?_
      refine Wp.ret ?_
      refine zc ?_
      cases hm
      exact zn
     ·refine Wp.skip ?_
      refine hK8 _ _ ?_
      refine qS ?_
      refine Wp.ret ?_
      refine zc ?_
      cases hm
      exact zn
   clear hK10 hk_6
   refine qS ?_
   refine cM hm (fun hc20 hm=>?_) (fun hc20 hm=>?_)
   ·refine Wp.skip ?_
    refine hW10 _ _ _ _ ?_ (hcut10 (decide (r_1.Kind=1)) hm)
    exact zn
   ·refine qS ?_
    refine cM hm (fun hc22 hm=>?_) (fun hc22 hm=>?_)
    ·refine Wp.skip ?_
     refine hW10 _ _ _ _ ?_ (hcut10 (decide (r_1.Kind=2)) hm)
     exact zn
    ·refine qR ?_
     refine hW10 _ _ _ _ ?_ (hcut10 (decide (r_1.Kind=3)) hm)
     exact zn
 clear hK3 hk_5
 refine qS ?_
 refine Wp.block ?_
 refine qS ?_
 refine cM hm (fun hc26 hm=>?_) (fun hc26 hm=>?_)
 ·refine qS ?_
  refine cM hm (fun hc28 hm=>?_) (fun hc28 hm=>?_)
  ·refine qS ?_
   refine Wp.ret ?_
   refine zc ?_
   cases hm
   exact zn
  ·refine Wp.skip ?_
   refine hW3 _ _ _ _ ?_ (hcut3 () hm)
   exact zn
 ·refine qS ?_
  refine cM hm (fun hc31 hm=>?_) (fun hc31 hm=>?_)
  ·refine qS ?_
   refine cM hm (fun hc33 hm=>?_) (fun hc33 hm=>?_)
   ·refine qS ?_
    refine Wp.ret ?_
    refine zc ?_
    cases hm
    exact zn
   ·refine Wp.skip ?_
    refine hW3 _ _ _ _ ?_ (hcut3 () hm)
    exact zn
  ·refine Wp.seqW fun K35 hK35 hW35=>?_
   obtain ⟨k_7,hk_7,hm⟩:=zk hm
   have hcut35:∀ s,k_7 s=some z→K35 [(0,.mp 0),(3,.ptr 1 0),(5,.ptr 2 0),(6,.p (.b q_3.isSome)),(30,.p (.b s))] [.mp true (zcN Dt.s zF m0_2),.cells 30 [.p (.i .i64 r_1.Time),.p (.i .i64 r_1.Kind),.p (.s r_1.Pack),.p (.i .i64 r_1.From.Major),.p (.i .i64 r_1.From.Minor),.p (.i .i64 r_1.From.Patch),.p (.s r_1.From.Early),.p (.i .i64 r_1.To.Major),.p (.i .i64 r_1.To.Minor),.p (.i .i64 r_1.To.Patch),.p (.s r_1.To.Early),.p (.i .i64 r_1.Result),.p (.s r_1.Note)],.cells 57 [.p (.s ((q_3.getD (api_Had.mk [] (api_Version.mk 0 0 0 []) 0)).Pack)),.p (.i .i64 (((q_3.getD (api_Had.mk [] (api_Version.mk 0 0 0 []) 0)).Version).Major)),.p (.i .i64 (((q_3.getD (api_Had.mk [] (api_Version.mk 0 0 0 []) 0)).Version).Minor)),.p (.i .i64 (((q_3.getD (api_Had.mk [] (api_Version.mk 0 0 0 []) 0)).Version).Patch)),.p (.s (((q_3.getD (api_Had.mk [] (api_Version.mk 0 0 0 []) 0)).Version).Early)),.p (.i .i64 ((q_3.getD (api_Had.mk [] (api_Version.mk 0 0 0 []) 0)).Since))]]:=by
    intro t30_12 hs
    have hm:=hk_7 _ hs
    clear hs
    try dsimp only at hm
    try dsimp only
    refine hK35 _ _ ?_
    refine cM hm (fun hc36 hm=>?_) (fun hc36 hm=>?_)
    ·refine qS ?_
     refine cM hm (fun hc38 hm=>?_) (fun hc38 hm=>?_)
     ·refine qS ?_
      refine Wp.ret ?_
      refine zc ?_
      cases hm
      exact zn
     ·refine Wp.skip ?_
      refine hW3 _ _ _ _ ?_ (hcut3 () hm)
      exact zn
    ·refine Wp.skip ?_
     refine hW3 _ _ _ _ ?_ (hcut3 () hm)
     exact zn
   clear hK35 hk_7
   refine qS ?_
   refine cM hm (fun hc41 hm=>?_) (fun hc41 hm=>?_)
   ·refine Wp.skip ?_
    refine hW35 _ _ _ _ ?_ (hcut35 (decide (r_1.Kind=2)) hm)
    exact zn
   ·refine qS ?_
    refine cM hm (fun hc43 hm=>?_) (fun hc43 hm=>?_)
    ·refine Wp.skip ?_
     refine hW35 _ _ _ _ ?_ (hcut35 (decide (r_1.Kind=3)) hm)
     exact zn
    ·refine qR ?_
     refine hW35 _ _ _ _ ?_ (hcut35 (decide (r_1.Kind=4)) hm)
     exact zn
theorem zev (l_2:List api_Record) (z:Int) (hm:zca l_2=some z):Does Tryz.prog 10 [.p (.l (List.map za l_2))] [] (fun r X=>r=.p (.i .i64 z)∧X=[]):=by
 unfold zca at hm
 refine dW 0 49 [.tmp 2] Tryz.func10 fun B=>?_
 refine qS ?_
 refine Wp.seqW fun K2 hK2 hW2=>?_
 refine qS ?_
 refine cM hm (fun hc4 hm=>?_) (fun hc4 hm=>?_)
 ·refine qS ?_
  refine Wp.ret ?_
  refine zc ?_
  cases hm
  exact zb7
 ·refine Wp.skip ?_
  refine hK2 _ _ ?_
  refine qS ?_
  refine Wp.seqW fun K7 hK7 hW7=>?_
  obtain ⟨k_5,hk_5,hm⟩:=zk hm
  have hcut7:∀ s,k_5 s=some z→K7 [] []:=by
   intro s hs
   have hm:=hk_5 _ hs
   clear hs
   try dsimp only at hm
   try dsimp only
   refine hK7 _ _ ?_
   refine qS ?_
   refine Wp.ret ?_
   refine zc ?_
   cases hm
   exact zn
  clear hK7 hk_5
  refine qS ?_
  refine Wp.block ?_
  obtain ⟨k_10,hk_10,hm⟩:=zT hm
  refine Wp.fact 0 fun hl_8=>?_
  replace hl_8:l_2.length≤274877906944:=by
   simp only [go_sem,simprocAttr,List.length_map] at hl_8
   omega
  refine Wp.forL (fun i_3 s=>[(0,.p (.l (List.map za l_2))),(3,.mp 0),(11,.p (.l (List.map za l_2))),(12,.p (.i .i64 (l_2.length:Int))),(13,.p (.i .i64 (i_3:Int)))]) (fun i_3 s=>[.mp true (zcN Dt.s zF s)]) ?_ hm ?_
  ·
   exact zn
  clear hm
  intro i_3 m0_11 hii_3 hm
  try dsimp only at hm
  try dsimp only
  refine qS ?_
  refine Wp.seqW fun K11 hK11 hW11=>?_
  refine Wp.cond rfl ⟨⟩ (fun hc11=>?_) (fun hc11=>?_)
  rotate_left
  ·refine Wp.exit ?_
   have hm:=hk_10 _ (zaf hm (zbc (by first | exact hc11 | simpa using hc11)))
   try dsimp only at hm
   refine hW7 _ _ _ _ ?_ (hcut7 () hm)
   exact zn
  have hlt11:=zbb (by first | exact hc11 | simpa using hc11)
  have hw11:=zR hlt11 hl_8
  obtain ⟨r_1,nx_12,hxr_1,hyr_1,hnx_12,hm⟩:=zS hm hlt11
  replace hxr_1:=hxr_1 za
  refine Wp.skip ?_
  simp only [zl]
  refine hK11 _ _ ?_
  refine Wp.seqW fun K12 hK12 hW12=>?_
  refine Wp.block ?_
  refine Wp.seqR fun K13 hK13=>?_
  simp only [go_sem,simprocAttr,hw11,hxr_1]
  refine kA hK13 ?_
  obtain ⟨r_9,hr_9,hm⟩:=zb hm
  refine Wp.seqR fun K14 hK14=>?_
  simp only [go_sem,simprocAttr,hw11,hxr_1]
  try refine ⟨sd,?_⟩
  refine Rg.callX (av:=?av15) (g:=true) (fun hg=>zcd r_1 _ hr_9) (by simp only [go_sem,simprocAttr,hw11,hxr_1]; exact Is.mk) (by simp only [go_sem,simprocAttr,hw11,hxr_1]; exact Is.mk) (by simp only [go_sem,simprocAttr,hw11,hxr_1]; exact Is.mk) (by simp only [go_sem,simprocAttr,hw11,hxr_1]) (by simp only [go_sem,simprocAttr,hw11,hxr_1]; exact Is.mk) ?cont15
  intro hv15
  simp only [go_sem,simprocAttr,hw11,hxr_1]
  refine kA hK14 ?_
  refine Wp.seqW fun K16 hK16 hW16=>?_
  obtain ⟨k_6,hk_6,hm⟩:=zk hm
  have hcut16:∀ s,k_6 s=some z→K16 [(0,.p (.l (List.map za l_2))),(3,.mp 0),(5,.ptr 1 0),(6,.p (.i .i64 s)),(11,.p (.l (List.map za l_2))),(12,.p (.i .i64 (l_2.length:Int))),(13,.p (.i .i64 (i_3:Int)))] [.mp true (zcN Dt.s zF m0_11),.cells 30 [.p (.i .i64 r_1.Time),.p (.i .i64 r_1.Kind),.p (.s r_1.Pack),.p (.i .i64 r_1.From.Major),.p (.i .i64 r_1.From.Minor),.p (.i .i64 r_1.From.Patch),.p (.s r_1.From.Early),.p (.i .i64 r_1.To.Major),.p (.i .i64 r_1.To.Minor),.p (.i .i64 r_1.To.Patch),.p (.s r_1.To.Early),.p (.i .i64 r_1.Result),.p (.s r_1.Note)]]:=by
   intro e_13 hs
   have hm:=hk_6 _ hs
   clear hs
   try dsimp only at hm
   try dsimp only
   refine hK16 _ _ ?_
   refine Wp.seqW fun K17 hK17 hW17=>?_
   obtain ⟨k_7,hk_7,hm⟩:=zk hm
   have hcut17:∀ s,k_7 s=some z→K17 [(0,.p (.l (List.map za l_2))),(3,.mp 0),(6,.p (.i .i64 s.1)),(11,.p (.l (List.map za l_2))),(12,.p (.i .i64 (l_2.length:Int))),(13,.p (.i .i64 (i_3:Int)))] [.mp true (zcN Dt.s zF s.2)]:=by
    intro s hs
    have hm:=hk_7 _ hs
    clear hs
    obtain ⟨e_16,m0_15⟩:=s
    try dsimp only at hm
    try dsimp only
    refine hK17 _ _ ?_
    refine Wp.seqR fun K18 hK18=>?_
    simp only [go_sem,simprocAttr,hw11,hxr_1]
    refine kA hK18 ?_
    refine cM hm (fun hc19 hm=>?_) (fun hc19 hm=>?_)
    ·refine Wp.seqR fun K20 hK20=>?_
     simp only [go_sem,simprocAttr,hw11,hxr_1]
     refine kA hK20 ?_
     refine Wp.ret ?_
     refine zc ?_
     cases hm
     simp only [go_sem,simprocAttr,hw11,hxr_1]
     try exact se3
    ·refine Wp.skip ?_
     refine hK12 _ _ ?_
     refine Wp.region fun K21 hK21=>?_
     simp only [go_sem,simprocAttr,hw11,hxr_1]
     refine kA hK21 ?_
     simp only [zl,zi,↓reduceIte]
     refine ⟨m0_15,hlt11,hnx_12 _ hm,?_⟩
     simp only [go_sem,simprocAttr,hw11,hxr_1]
     try exact se3
   clear hK17 hk_7
   obtain ⟨r_4,hr_4,hr_4d,hm⟩:=zgw hm
   refine Wp.seqR fun K22 hK22=>?_
   simp only [go_sem,simprocAttr,hw11,hxr_1]
   try refine ⟨sd,?_⟩
   refine Rg.callGO (av:=?av23) (g:=decide (e_13=0)) [0] (fun hg=>zdr r_1 m0_11 _ (hr_4 hg)) (fun hg=>by obtain rfl:=hr_4d hg; rfl) (by simp only [go_sem,simprocAttr,hw11,hxr_1]; exact Is.mk) (by simp only [go_sem,simprocAttr,hw11,hxr_1]; exact Is.mk) (by simp only [go_sem,simprocAttr,hw11,hxr_1]; exact Is.mk) (by simp only [go_sem,simprocAttr,hw11,hxr_1]; exact Is.mk) (by simp only [go_sem,simprocAttr,hw11,hxr_1]) (by simp only [go_sem,simprocAttr,hw11,hxr_1]) ?cont23
   simp only [go_sem,simprocAttr,hw11,hxr_1]
   refine kA hK22 ?_
   refine cM hm (fun hc24 hm=>?_) (fun hc24 hm=>?_)
   ·refine Wp.region fun K25 hK25=>?_
    simp only [go_sem,simprocAttr,hw11,hxr_1]
    refine kA hK25 ?_
    refine hW17 _ _ _ _ ?_ (hcut17 (12,r_4.2) hm)
    simp only [go_sem,simprocAttr,hw11,hxr_1]
    try exact se3
   ·refine Wp.skip ?_
    refine hW17 _ _ _ _ ?_ (hcut17 (e_13,r_4.2) hm)
    simp only [go_sem,simprocAttr,hw11,hxr_1]
    try exact se3
  clear hK16 hk_6
  obtain ⟨c_17,hm⟩:=zf hm
  have hr_14:=zg0 (l:=l_2) (e:=za) (d:=(api_Record.mk 0 0 [] (api_Version.mk 0 0 0 []) (api_Version.mk 0 0 0 []) 0 [])) (i:=(IntKind.i64.wrap ((i_3:Int) - 1)).toNat)
  simp only [za,List.map_nil] at hr_14
  refine Wp.seqD (plan:=pl [(0,none),(1,none),(2,none),(3,none),(4,none),(5,none),(6,none),(7,none),(8,none),(9,none),(10,none),(11,none),(12,none),(13,none),(14,none),(15,none),(16,none)]) (by kernel_rfl) rfl (by kernel_rfl) fun K26 hK26=>?_
  simp only [go_sem,simprocAttr,hw11,hxr_1,hr_14]
  refine kA hK26 ?_
  refine cM hm (fun hc27 hm=>?_) (fun hc27 hm=>?_)
  ·refine Wp.region fun K28 hK28=>?_
   simp only [go_sem,simprocAttr,hw11,hxr_1]
   refine kA hK28 ?_
   refine hW16 _ _ _ _ ?_ (hcut16 7 hm)
   simp only [go_sem,simprocAttr,hw11,hxr_1]
   try exact se3
  ·refine Wp.skip ?_
   refine hW16 _ _ _ _ ?_ (hcut16 r_9 hm)
   simp only [go_sem,simprocAttr,hw11,hxr_1]
   try exact se3
theorem zel (n_1:Int) (low_2:Int) (high_3:Int) (z:Bool) (hm:zcZ n_1 low_2 high_3=some z):Does Tryz.prog 68 [.p (.i .i64 n_1),.p (.i .i64 low_2),.p (.i .i64 high_3)] [] (fun r X=>r=.p (.b z)∧X=[]):=by
 unfold zcZ at hm
 refine dW 0 15 [.tmp 6] Tryz.func68 fun B=>?_
 refine qS ?_
 refine qS ?_
 refine Wp.ret ?_
 refine zc ?_
 cases hm
 exact zn
theorem zeh (n_1:Int) (low_2:Int) (high_3:Int) (z:Bool) (hm:zch n_1 low_2 high_3=some z):Does Tryz.prog 107 [.p (.i .i64 n_1),.p (.i .i64 low_2),.p (.i .i64 high_3)] [] (fun r X=>r=.p (.b z)∧X=[]):=by
 unfold zch at hm
 refine dW 0 15 [.tmp 6] Tryz.func107 fun B=>?_
 refine qS ?_
 refine qS ?_
 refine Wp.ret ?_
 refine zc ?_
 cases hm
 exact zn
theorem zhY (c_1:Int) (z:Bool) (hm:zcv c_1=some z):Does Tryz.prog 146 [.p (.i .u8 c_1)] [] (fun r X=>r=.p (.b z)∧X=[]):=by
 unfold zcv at hm
 refine dW 0 9 [.tmp 2] Tryz.func146 fun B=>?_
 refine qS ?_
 obtain ⟨r_2,hr_2,hm⟩:=zb hm
 obtain ⟨r_3,hr_3,hm⟩:=z7 hm
 refine Wp.seqR fun K2 hK2=>?_
 simp only [go_sem,simprocAttr]
 try refine ⟨sd,?_⟩
 refine Rg.callX (av:=?av3) (g:=true) (fun hg=>zei c_1 _ hr_2) si si si sg si ?cont3
 intro hv3
 simp only [go_sem,simprocAttr]
 try refine ⟨sd,?_⟩
 refine Rg.callX (av:=?av4) (g:=!r_2) (fun hg=>zej c_1 _ (hr_3 hg)) si si si sg si ?cont4
 intro hv4
 simp only [go_sem,simprocAttr]
 refine kA hK2 ?_
 refine Wp.ret ?_
 refine zc ?_
 cases hm
 exact zn
theorem zjG (s_2:Str) (most_3:Int) (z:Bool) (hm:zdK s_2 most_3=some z):Does Tryz.prog 57 [.p (.s s_2),.p (.i .i64 most_3),.fn 146 []] [] (fun r X=>r=.p (.b z)∧X=[]):=by
 unfold zdK at hm
 refine dW 0 28 [.tmp 6] Tryz.func57 fun B=>?_
 refine qS ?_
 refine Wp.seqW fun K2 hK2 hW2=>?_
 obtain ⟨k_4,hk_4,hm⟩:=zk hm
 have hcut2:∀ s,k_4 s=some z→K2 [(0,.p (.s s_2)),(1,.p (.i .i64 most_3))] []:=by
  intro s hs
  have hm:=hk_4 _ hs
  clear hs
  try dsimp only at hm
  try dsimp only
  refine hK2 _ _ ?_
  refine qS ?_
  refine Wp.ret ?_
  refine zc ?_
  cases hm
  exact zn
 clear hK2 hk_4
 refine qS ?_
 refine Wp.block ?_
 obtain ⟨k_7,hk_7,hm⟩:=zT hm
 refine Wp.fact 0 fun hl_6=>?_
 replace hl_6:s_2.length≤274877906944:=by
  simp only [go_sem,simprocAttr,List.length_map] at hl_6
  omega
 refine Wp.forL (fun i_5 s=>[(0,.p (.s s_2)),(1,.p (.i .i64 most_3)),(2,.fn 146 []),(7,.p (.i .i64 (i_5:Int)))]) (fun i_5 s=>[]) ?_ hm ?_
 ·
  exact zn
 clear hm
 intro i_5 s hii_5 hm
 try dsimp only at hm
 try dsimp only
 refine Wp.seqW fun K5 hK5 hW5=>?_
 refine qS ?_
 refine Wp.cond rfl ⟨⟩ (fun hc5=>?_) (fun hc5=>?_)
 rotate_left
 ·refine Wp.exit ?_
  have hm:=hk_7 _ (zaf hm (zbc (by first | exact hc5 | simpa using hc5)))
  try dsimp only at hm
  refine hW2 _ _ _ _ ?_ (hcut2 () hm)
  exact zn
 have hlt5:=zbb (by first | exact hc5 | simpa using hc5)
 have hw5:=zR hlt5 hl_6
 obtain ⟨c_1,nx_8,hxc_1,hyc_1,hnx_8,hm⟩:=zS hm hlt5
 clear hxc_1
 refine Wp.skip ?_
 simp only [zl]
 refine hK5 _ _ ?_
 refine Wp.seqW fun K7 hK7 hW7=>?_
 refine Wp.block ?_
 obtain ⟨r_9,hr_9,hm⟩:=zb hm
 refine Wp.seqR fun K8 hK8=>?_
 simp only [go_sem,simprocAttr,hw5,hyc_1]
 try refine ⟨sd,?_⟩
 refine Rg.callX (av:=?av9) (g:=true) (fun hg=>zhY (c_1.toNat:Int) _ hr_9) (by simp only [go_sem,simprocAttr,hw5,hyc_1]; exact Is.mk) (by simp only [go_sem,simprocAttr,hw5,hyc_1]; exact Is.mk) (by simp only [go_sem,simprocAttr,hw5,hyc_1]; exact Is.mk) (by simp only [go_sem,simprocAttr,hw5,hyc_1]) (by simp only [go_sem,simprocAttr,hw5,hyc_1]; exact Is.mk) ?cont9
 intro hv9
 simp only [go_sem,simprocAttr,hw5,hyc_1]
 refine kA hK8 ?_
 refine cM hm (fun hc10 hm=>?_) (fun hc10 hm=>?_)
 ·refine Wp.seqR fun K11 hK11=>?_
  simp only [go_sem,simprocAttr,hw5,hyc_1]
  refine kA hK11 ?_
  refine Wp.ret ?_
  refine zc ?_
  cases hm
  simp only [go_sem,simprocAttr,hw5,hyc_1]
  try exact se3
 ·refine Wp.skip ?_
  refine hK7 _ _ ?_
  refine Wp.region fun K12 hK12=>?_
  simp only [go_sem,simprocAttr,hw5,hyc_1]
  refine kA hK12 ?_
  simp only [zl,zi,↓reduceIte]
  refine ⟨(),hlt5,hnx_8 _ hm,?_⟩
  simp only [go_sem,simprocAttr,hw5,hyc_1]
  try exact se3
end Go.Proofs.YtmnohdgjkcjdeaaGreatDoor
