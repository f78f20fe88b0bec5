/- That the code does what the models say (part 5). -/
import Derived.Test.YtmnohdgjkcjdeaaGreatDoorLpWk0
import Derived.Test.YtmnohdgjkcjdeaaGreatDoorLpWk3
import Derived.Test.YtmnohdgjkcjdeaaGreatDoorLpWk4
set_option linter.unusedSimpArgs false
set_option linter.unusedVariables false
open Go.Proofs Go.Shelf
namespace Go.Proofs.YtmnohdgjkcjdeaaGreatDoor
open Go.Vc Go.Md
set_option maxRecDepth 100000
set_option maxHeartbeats 4000000
theorem zj7 (s_3:Str) (z:Str) (hm:zhB s_3=some z):Does Tryz.prog 80 [.p (.s s_3)] [] (fun r X=>r=.p (.s z)∧X=[]):=by
 unfold zhB at hm
 refine dW 0 67 [.tmp 2] Tryz.func80 fun B=>?_
 refine qS ?_
 refine qS ?_
 refine Wp.seqW fun K3 hK3 hW3=>?_
 obtain ⟨k_6,hk_6,hm⟩:=zk hm
 have hcut3:∀ s,k_6 s=some z→K3 [(3,.p (.s s))] []:=by
  intro out_9 hs
  have hm:=hk_6 _ hs
  clear hs
  try dsimp only at hm
  try dsimp only
  refine hK3 _ _ ?_
  obtain ⟨c_10,hm⟩:=zf hm
  refine Wp.seqR fun K4 hK4=>?_
  simp only [go_sem,simprocAttr]
  refine kA hK4 ?_
  refine Wp.ret ?_
  refine zc ?_
  cases hm
  exact zn
 clear hK3 hk_6
 refine qS ?_
 refine Wp.block ?_
 obtain ⟨k_8,hk_8,hm⟩:=zT hm
 refine Wp.fact 0 fun hl_7=>?_
 replace hl_7:s_3.length≤274877906944:=by
  simp only [go_sem,simprocAttr,List.length_map] at hl_7
  omega
 refine Wp.forL (fun i_2 s=>[(0,.p (.s s_3)),(3,.p (.s s)),(7,.p (.i .i64 (s_3.length:Int))),(8,.p (.i .i64 (i_2:Int)))]) (fun i_2 s=>[]) ?_ hm ?_
 ·
  exact zn
 clear hm
 intro i_2 out_4 hii_2 hm
 try dsimp only at hm
 try dsimp only
 refine qS ?_
 refine Wp.seqW fun K7 hK7 hW7=>?_
 refine Wp.cond rfl ⟨⟩ (fun hc7=>?_) (fun hc7=>?_)
 rotate_left
 ·refine Wp.exit ?_
  have hm:=hk_8 _ (zaf hm (zbc (by first | exact hc7 | simpa using hc7)))
  try dsimp only at hm
  refine hW3 _ _ _ _ ?_ (hcut3 out_4 hm)
  exact zn
 have hlt7:=zbb (by first | exact hc7 | simpa using hc7)
 have hw7:=zR hlt7 hl_7
 obtain ⟨c_1,nx_5,hxc_1,hyc_1,hnx_5,hm⟩:=zS hm hlt7
 clear hxc_1
 refine Wp.skip ?_
 simp only [zl]
 refine hK7 _ _ ?_
 refine Wp.seqW fun K8 hK8 hW8=>?_
 refine Wp.block ?_
 refine Wp.seqR fun K9 hK9=>?_
 simp only [go_sem,simprocAttr,hw7,hyc_1]
 refine kA hK9 ?_
 refine Wp.seqR fun K10 hK10=>?_
 simp only [go_sem,simprocAttr,hw7,hyc_1]
 refine kA hK10 ?_
 refine Wp.block ?_
 refine Wp.seqR fun K11 hK11=>?_
 simp only [go_sem,simprocAttr,hw7,hyc_1]
 refine kA hK11 ?_
 refine cM hm (fun hc12 hm=>?_) (fun hc12 hm=>?_)
 ·obtain ⟨c_11,hm⟩:=zf hm
  obtain ⟨c_12,hm⟩:=zf hm
  obtain ⟨c_13,hm⟩:=zf hm
  refine Wp.region fun K13 hK13=>?_
  simp only [go_sem,simprocAttr,hw7,hyc_1]
  refine kA hK13 ?_
  refine hK8 _ _ ?_
  refine Wp.region fun K14 hK14=>?_
  simp only [go_sem,simprocAttr,hw7,hyc_1]
  refine kA hK14 ?_
  simp only [zl,zi,↓reduceIte]
  refine ⟨out_4++(([92]:Str)++(List.take ((IntKind.i64.wrap ((i_2:Int)+1)).toNat - i_2) (List.drop i_2 s_3))),hlt7,hnx_5 _ hm,?_⟩
  simp only [go_sem,simprocAttr,hw7,hyc_1]
  try exact se3
 ·refine Wp.seqR fun K15 hK15=>?_
  simp only [go_sem,simprocAttr,hw7,hyc_1]
  refine kA hK15 ?_
  refine cM hm (fun hc16 hm=>?_) (fun hc16 hm=>?_)
  ·obtain ⟨c_14,hm⟩:=zf hm
   refine Wp.region fun K17 hK17=>?_
   simp only [go_sem,simprocAttr,hw7,hyc_1]
   refine kA hK17 ?_
   refine hK8 _ _ ?_
   refine Wp.region fun K18 hK18=>?_
   simp only [go_sem,simprocAttr,hw7,hyc_1]
   refine kA hK18 ?_
   simp only [zl,zi,↓reduceIte]
   refine ⟨out_4++([92,110]:Str),hlt7,hnx_5 _ hm,?_⟩
   simp only [go_sem,simprocAttr,hw7,hyc_1]
   try exact se3
  ·refine Wp.seqR fun K19 hK19=>?_
   simp only [go_sem,simprocAttr,hw7,hyc_1]
   refine kA hK19 ?_
   refine cM hm (fun hc20 hm=>?_) (fun hc20 hm=>?_)
   ·obtain ⟨c_15,hm⟩:=zf hm
    obtain ⟨c_16,hm⟩:=zf hm
    obtain ⟨c_17,hm⟩:=zf hm
    obtain ⟨c_18,hm⟩:=zf hm
    obtain ⟨c_19,hm⟩:=zf hm
    refine Wp.regD (plan:=pl [(0,none),(1,none),(2,none),(3,none),(4,none),(5,none),(6,none),(7,none),(8,none),(9,none),(10,none),(11,none),(12,none),(13,none),(14,none),(15,none),(16,none)]) (by kernel_rfl) rfl (by kernel_rfl) fun K21 hK21=>?_
    simp only [go_sem,simprocAttr,hw7,hyc_1]
    refine kA hK21 ?_
    refine hK8 _ _ ?_
    refine Wp.region fun K22 hK22=>?_
    simp only [go_sem,simprocAttr,hw7,hyc_1]
    refine kA hK22 ?_
    simp only [zl,zi,↓reduceIte]
    refine ⟨out_4++((([92,120]:Str)++(List.take ((IntKind.u8.wrap ((Int.fdiv (c_1.toNat:Int) (2 ^ (shI .u8 4)))+1)).toNat - (Int.fdiv (c_1.toNat:Int) (2 ^ (shI .u8 4))).toNat) (List.drop ((Int.fdiv (c_1.toNat:Int) (2 ^ (shI .u8 4))).toNat) ([48,49,50,51,52,53,54,55,56,57,97,98,99,100,101,102]:Str))))++(List.take ((IntKind.u8.wrap ((zaz .and .u8 (c_1.toNat:Int) 15)+1)).toNat - (zaz .and .u8 (c_1.toNat:Int) 15).toNat) (List.drop ((zaz .and .u8 (c_1.toNat:Int) 15).toNat) ([48,49,50,51,52,53,54,55,56,57,97,98,99,100,101,102]:Str)))),hlt7,hnx_5 _ hm,?_⟩
    simp only [go_sem,simprocAttr,hw7,hyc_1]
    try exact se3
   ·obtain ⟨c_20,hm⟩:=zf hm
    obtain ⟨c_21,hm⟩:=zf hm
    refine Wp.region fun K23 hK23=>?_
    simp only [go_sem,simprocAttr,hw7,hyc_1]
    refine kA hK23 ?_
    refine hK8 _ _ ?_
    refine Wp.region fun K24 hK24=>?_
    simp only [go_sem,simprocAttr,hw7,hyc_1]
    refine kA hK24 ?_
    simp only [zl,zi,↓reduceIte]
    refine ⟨out_4++(List.take ((IntKind.i64.wrap ((i_2:Int)+1)).toNat - i_2) (List.drop i_2 s_3)),hlt7,hnx_5 _ hm,?_⟩
    simp only [go_sem,simprocAttr,hw7,hyc_1]
    try exact se3
theorem ziS (r_2:api_Record) (z:Str) (hm:zdd r_2=some z):Does Tryz.prog 40 [.agg [.p (.i .i64 r_2.Time),.p (.i .i64 r_2.Kind),.p (.s r_2.Pack),.p (.i .i64 r_2.From.Major),.p (.i .i64 r_2.From.Minor),.p (.i .i64 r_2.From.Patch),.p (.s r_2.From.Early),.p (.i .i64 r_2.To.Major),.p (.i .i64 r_2.To.Minor),.p (.i .i64 r_2.To.Patch),.p (.s r_2.To.Early),.p (.i .i64 r_2.Result),.p (.s r_2.Note)]] [] (fun r X=>r=.p (.s z)∧X=[]):=by
 unfold zdd at hm
 refine dW 0 30 [.tmp 2] Tryz.func40 fun B=>?_
 refine qS ?_
 refine qS ?_
 obtain ⟨r_3,hr_3,hm⟩:=zb hm
 obtain ⟨r_4,hr_4,hm⟩:=zb hm
 obtain ⟨s_1,hbs_1,hxs_1,hys_1,hm⟩:=zZ hm
 replace hxs_1:∀ d,(List.map ecS r_4).getD r_2.Kind.toNat d=ecS s_1:=hxs_1 ecS
 obtain ⟨r_5,hr_5,hm⟩:=zb hm
 obtain ⟨r_6,hr_6,hm⟩:=zb hm
 obtain ⟨r_7,hr_7,hm⟩:=zb hm
 obtain ⟨r_8,hr_8,hm⟩:=zb hm
 obtain ⟨r_9,hr_9,hm⟩:=zb hm
 refine Wp.seqD (plan:=pl [(0,none),(1,none),(2,none),(4,none),(5,none),(8,none),(9,none),(10,none),(11,none),(12,none),(14,none),(15,none),(16,none),(18,none),(19,none),(21,none),(22,none),(3,some [4,5,8,9,10,11,12,14,15,16,18,19,21,22]),(6,none),(7,none),(13,none),(17,none),(20,none),(23,none),(24,some []),(25,none),(26,none)]) (by kernel_rfl) rfl (by kernel_rfl) fun K3 hK3=>?_
 simp only [go_sem,simprocAttr,hxs_1]
 try refine ⟨sd,?_⟩
 refine Dr.callF (av:=?av4) (g:=true) (o:=?o4) (fun hg=>zac r_2.Time _ hr_3) (by simp only [go_sem,simprocAttr,hxs_1]; exact Is.mk) (by simp only [go_sem,simprocAttr,hxs_1]; exact Is.mk) (by simp only [go_sem,simprocAttr,hxs_1]; exact Is.mk) (by simp only [go_sem,simprocAttr,hxs_1]; exact Is.mk) (by simp only [go_sem,simprocAttr,hxs_1]) (by simp only [go_sem,simprocAttr,hxs_1]; exact Is.mk) ?cont4
 simp only [go_sem,simprocAttr,hxs_1]
 try refine ⟨sd,?_⟩
 refine Dr.of_br (Br.callR (av:=?av5) (g:=true) (o:=?o5) [] (fun hg=>ze5  _ hr_4) (by simp only [go_sem,simprocAttr,hxs_1]; exact Is.mk) (by simp only [go_sem,simprocAttr,hxs_1]; exact Is.mk) (by simp only [go_sem,simprocAttr,hxs_1]; exact Is.mk) (by simp only [go_sem,simprocAttr,hxs_1]; exact Is.mk) (by simp only [go_sem,simprocAttr,hxs_1]; exact Is.mk) (by simp only [go_sem,simprocAttr,hxs_1]) (by simp only [go_sem,simprocAttr,hxs_1]) (by simp only [go_sem,simprocAttr,hxs_1]) ?hag5 ?cont5)
 case hag5=>first | (simp only [go_sem,simprocAttr,hxs_1]; done) | (simp only [go_sem,simprocAttr,hxs_1]; exact sd)
 simp only [go_sem,simprocAttr,hxs_1]
 try refine ⟨sd,?_⟩
 refine Dr.callF (av:=?av6) (g:=true) (o:=?o6) (fun hg=>zew r_2.From _ hr_5) (by simp only [go_sem,simprocAttr,hxs_1]; exact Is.mk) (by simp only [go_sem,simprocAttr,hxs_1]; exact Is.mk) (by simp only [go_sem,simprocAttr,hxs_1]; exact Is.mk) (by simp only [go_sem,simprocAttr,hxs_1]; exact Is.mk) (by simp only [go_sem,simprocAttr,hxs_1]) (by simp only [go_sem,simprocAttr,hxs_1]; exact Is.mk) ?cont6
 simp only [go_sem,simprocAttr,hxs_1]
 try refine ⟨sd,?_⟩
 refine Dr.callF (av:=?av7) (g:=true) (o:=?o7) (fun hg=>zew r_2.To _ hr_6) (by simp only [go_sem,simprocAttr,hxs_1]; exact Is.mk) (by simp only [go_sem,simprocAttr,hxs_1]; exact Is.mk) (by simp only [go_sem,simprocAttr,hxs_1]; exact Is.mk) (by simp only [go_sem,simprocAttr,hxs_1]; exact Is.mk) (by simp only [go_sem,simprocAttr,hxs_1]) (by simp only [go_sem,simprocAttr,hxs_1]; exact Is.mk) ?cont7
 simp only [go_sem,simprocAttr,hxs_1]
 try refine ⟨sd,?_⟩
 refine Dr.callF (av:=?av8) (g:=true) (o:=?o8) (fun hg=>zac r_2.Result _ hr_7) (by simp only [go_sem,simprocAttr,hxs_1]; exact Is.mk) (by simp only [go_sem,simprocAttr,hxs_1]; exact Is.mk) (by simp only [go_sem,simprocAttr,hxs_1]; exact Is.mk) (by simp only [go_sem,simprocAttr,hxs_1]; exact Is.mk) (by simp only [go_sem,simprocAttr,hxs_1]) (by simp only [go_sem,simprocAttr,hxs_1]; exact Is.mk) ?cont8
 simp only [go_sem,simprocAttr,hxs_1]
 try refine ⟨sd,?_⟩
 refine Dr.callF (av:=?av9) (g:=true) (o:=?o9) (fun hg=>zj7 r_2.Note _ hr_8) (by simp only [go_sem,simprocAttr,hxs_1]; exact Is.mk) (by simp only [go_sem,simprocAttr,hxs_1]; exact Is.mk) (by simp only [go_sem,simprocAttr,hxs_1]; exact Is.mk) (by simp only [go_sem,simprocAttr,hxs_1]; exact Is.mk) (by simp only [go_sem,simprocAttr,hxs_1]) (by simp only [go_sem,simprocAttr,hxs_1]; exact Is.mk) ?cont9
 simp only [go_sem,simprocAttr,hxs_1]
 try refine ⟨sd,?_⟩
 refine Dr.callF (av:=?av10) (g:=true) (o:=?o10) (fun hg=>zfm [r_3,s_1,r_2.Pack,r_5,r_6,r_7,r_8] ([32]:Str) _ hr_9) (by simp only [go_sem,simprocAttr,hxs_1]; exact Is.mk) (by simp only [go_sem,simprocAttr,hxs_1]; exact Is.mk) (by simp only [go_sem,simprocAttr,hxs_1]; exact Is.mk) (by simp only [go_sem,simprocAttr,hxs_1]; exact Is.mk) (by simp only [go_sem,simprocAttr,hxs_1]) (by simp only [go_sem,simprocAttr,hxs_1]; exact Is.mk) ?cont10
 simp only [go_sem,simprocAttr,hxs_1]
 refine kA hK3 ?_
 refine Wp.ret ?_
 refine zc ?_
 cases hm
 simp only [go_sem,simprocAttr,hxs_1]
 try exact se3
theorem zcO (x_1:Int) (z:Bool) (hm:zal x_1=some z):Does Tryz.prog 180 [.p (.i .i64 x_1)] [] (fun r X=>r=.p (.b z)∧X=[]):=by
 unfold zal at hm
 refine dW 0 8 [.tmp 2] Tryz.func180 fun B=>?_
 refine qS ?_
 refine qS ?_
 refine Wp.ret ?_
 refine zc ?_
 cases hm
 exact zn
theorem zdp (x_1:Int) (z:Int) (hm:za9 x_1=some z):Does Tryz.prog 201 [.p (.i .u64 x_1)] [] (fun r X=>r=.p (.i .i64 z)∧X=[]):=by
 unfold za9 at hm
 refine dW 0 14 [.tmp 2] Tryz.func201 fun B=>?_
 refine qS ?_
 refine Wp.seqW fun K2 hK2 hW2=>?_
 refine qS ?_
 refine cM hm (fun hc4 hm=>?_) (fun hc4 hm=>?_)
 ·refine qS ?_
  refine Wp.ret ?_
  refine zc ?_
  cases hm
  exact zn
 ·refine Wp.skip ?_
  refine hK2 _ _ ?_
  obtain ⟨c_2,hm⟩:=zf hm
  refine Wp.seqR fun K6 hK6=>?_
  simp only [go_sem,simprocAttr]
  refine kA hK6 ?_
  refine Wp.ret ?_
  refine zc ?_
  cases hm
  exact zn
theorem zd3 (x_1:Int) (z:Int) (hm:zaS x_1=some z):Does Tryz.prog 181 [.p (.i .u64 x_1)] [] (fun r X=>r=.p (.i .i64 z)∧X=[]):=by
 unfold zaS at hm
 refine dW 0 8 [.tmp 2] Tryz.func181 fun B=>?_
 refine qS ?_
 refine Wp.seqW fun K2 hK2 hW2=>?_
 refine Wp.cond rfl ⟨⟩ (fun hc3=>?_) (fun hc3=>?_)
 ·cases hc3
 refine Wp.skip ?_
 refine hK2 _ _ ?_
 obtain ⟨r_2,hr_2,hm⟩:=zb hm
 refine Wp.seqR fun K4 hK4=>?_
 simp only [go_sem,simprocAttr]
 try refine ⟨sd,?_⟩
 refine Rg.callX (av:=?av5) (g:=true) (fun hg=>zdp x_1 _ hr_2) si si si sg si ?cont5
 intro hv5
 simp only [go_sem,simprocAttr]
 refine kA hK4 ?_
 refine Wp.ret ?_
 refine zc ?_
 cases hm
 exact zn
theorem zda (dst_2:List Int) (u_9:Int) (base_1:Int) (neg_4:Bool) (append__3:Bool) (z:List Int × Str) (hm:zad dst_2 u_9 base_1 neg_4 append__3=some z):Does Tryz.prog 154 [.p (.l (List.map zab dst_2)),.p (.i .u64 u_9),.p (.i .i64 base_1),.p (.b neg_4),.p (.b append__3)] [] (fun r X=>r=.tup [.p (.l (List.map zab z.1)),.p (.s z.2)]∧X=[]):=by
 unfold zad at hm
 refine dW 0 102 [.tmp 10,.tmp 11] Tryz.func154 fun B=>?_
 refine qS ?_
 refine Wp.seqW fun K2 hK2 hW2=>?_
 obtain ⟨k_10,hk_10,hm⟩:=zk hm
 have hcut2:∀ s,k_10 s=some z→K2 [(0,.p (.l (List.map zab dst_2))),(1,.p (.i .u64 u_9)),(2,.p (.i .i64 base_1)),(3,.p (.b neg_4)),(4,.p (.b append__3)),(10,.nils),(11,.p (.s []))] []:=by
  intro s hs
  have hm:=hk_10 _ hs
  clear hs
  try dsimp only at hm
  try dsimp only
  refine hK2 _ _ ?_
  refine qS ?_
  refine qS ?_
  refine Wp.seqW fun K5 hK5 hW5=>?_
  obtain ⟨k_11,hk_11,hm⟩:=zk hm
  have hcut5:∀ s,k_11 s=some z→K5 [(0,.p (.l (List.map zab dst_2))),(1,.p (.i .u64 s)),(2,.p (.i .i64 base_1)),(3,.p (.b neg_4)),(4,.p (.b append__3)),(10,.nils),(11,.p (.s [])),(12,.ptr 0 0),(13,.p (.i .i64 65))] [.buf 202 1 (List.map zab (List.replicate 65 0))]:=by
   intro u_34 hs
   have hm:=hk_11 _ hs
   clear hs
   try dsimp only at hm
   try dsimp only
   refine hK5 _ _ ?_
   refine Wp.seqW fun K6 hK6 hW6=>?_
   obtain ⟨k_12,hk_12,hm⟩:=zk hm
   have hcut6:∀ s,k_12 s=some z→K6 [(0,.p (.l (List.map zab dst_2))),(3,.p (.b neg_4)),(4,.p (.b append__3)),(10,.nils),(11,.p (.s [])),(12,.ptr 0 0),(13,.p (.i .i64 s.1))] [.buf 202 1 (List.map zab s.2)]:=by
    intro s hs
    have hm:=hk_12 _ hs
    clear hs
    obtain ⟨i_18,o0_22⟩:=s
    try dsimp only at hm
    try dsimp only
    refine hK6 _ _ ?_
    refine Wp.seqW fun K7 hK7 hW7=>?_
    obtain ⟨k_13,hk_13,hm⟩:=zk hm
    have hcut7:∀ s,k_13 s=some z→K7 [(0,.p (.l (List.map zab dst_2))),(4,.p (.b append__3)),(10,.nils),(11,.p (.s [])),(12,.ptr 0 0),(13,.p (.i .i64 s.1))] [.buf 202 1 (List.map zab s.2)]:=by
     intro s hs
     have hm:=hk_13 _ hs
     clear hs
     obtain ⟨i_35,o0_36⟩:=s
     try dsimp only at hm
     try dsimp only
     refine hK7 _ _ ?_
     refine Wp.seqW fun K8 hK8 hW8=>?_
     refine qS ?_
     refine cM hm (fun hc10 hm=>?_) (fun hc10 hm=>?_)
     ·obtain ⟨c_37,hm⟩:=zf hm
      cases hm
     ·refine Wp.skip ?_
      refine hK8 _ _ ?_
      obtain ⟨c_38,hm⟩:=zf hm
      refine Wp.seqR fun K11 hK11=>?_
      simp only [go_sem,simprocAttr]
      refine kA hK11 ?_
      refine Wp.ret ?_
      refine zgJ ?_
      cases hm
      exact zn
    clear hK7 hk_13
    refine qS ?_
    refine cM hm (fun hc13 hm=>?_) (fun hc13 hm=>?_)
    ·refine qS ?_
     obtain ⟨c_39,hm⟩:=zf hm
     refine Wp.region fun K15 hK15=>?_
     simp only [go_sem,simprocAttr]
     refine kA hK15 ?_
     refine hW7 _ _ _ _ ?_ (hcut7 (IntKind.i64.wrap (i_18 - 1),List.set o0_22 ((IntKind.i64.wrap (i_18 - 1)).toNat) 45) hm)
     exact zn
    ·refine Wp.skip ?_
     refine hW7 _ _ _ _ ?_ (hcut7 (i_18,o0_22) hm)
     exact zn
   clear hK6 hk_12
   obtain ⟨r_23,hr_23,hm⟩:=zb hm
   refine Wp.seqR fun K16 hK16=>?_
   simp only [go_sem,simprocAttr]
   try refine ⟨sd,?_⟩
   refine Rg.callX (av:=?av17) (g:=true) (fun hg=>zcO base_1 _ hr_23) si si si sg si ?cont17
   intro hv17
   simp only [go_sem,simprocAttr]
   refine kA hK16 ?_
   refine cM hm (fun hc18 hm=>?_) (fun hc18 hm=>?_)
   ·obtain ⟨r_14,hr_14,hm⟩:=zb hm
    refine Wp.seqR fun K19 hK19=>?_
    simp only [go_sem,simprocAttr]
    try refine ⟨sd,?_⟩
    refine Rg.callX (av:=?av20) (g:=true) (fun hg=>zd3 (IntKind.u64.wrap base_1) _ hr_14) si si si sg si ?cont20
    intro hv20
    simp only [go_sem,simprocAttr]
    refine kA hK19 ?_
    refine qS ?_
    refine qS ?_
    refine Wp.seqW fun K23 hK23 hW23=>?_
    obtain ⟨k_15,hk_15,hm⟩:=zk hm
    have hcut23:∀ s,k_15 s=some z→K23 [(0,.p (.l (List.map zab dst_2))),(1,.p (.i .u64 s.1)),(3,.p (.b neg_4)),(4,.p (.b append__3)),(10,.nils),(11,.p (.s [])),(12,.ptr 0 0),(13,.p (.i .i64 s.2.1))] [.buf 202 1 (List.map zab s.2.2)]:=by
     intro s hs
     have hm:=hk_15 _ hs
     clear hs
     obtain ⟨u_30,i_24,o0_31⟩:=s
     try dsimp only at hm
     try dsimp only
     refine hK23 _ _ ?_
     refine qS ?_
     obtain ⟨c_7,hbc_7,hxc_7,hm⟩:=zai hm
     replace hxc_7:((([48,49,50,51,52,53,54,55,56,57,97,98,99,100,101,102,103,104,105,106,107,108,109,110,111,112,113,114,115,116,117,118,119,120,121,122]:Str).getD u_30.toNat 0).toNat:Int)=c_7:=hxc_7
     obtain ⟨c_40,hm⟩:=zf hm
     refine Wp.region fun K25 hK25=>?_
     simp only [go_sem,simprocAttr,hxc_7]
     refine kA hK25 ?_
     refine hW6 _ _ _ _ ?_ (hcut6 (IntKind.i64.wrap (i_24 - 1),List.set o0_31 ((IntKind.i64.wrap (i_24 - 1)).toNat) c_7) hm)
     simp only [go_sem,simprocAttr,hxc_7]
     try exact se3
    clear hK23 hk_15
    refine Wp.block ?_
    obtain ⟨k_25,hk_25,hm⟩:=zB hm
    refine Wp.loopN (fun s=>[(0,.p (.l (List.map zab dst_2))),(1,.p (.i .u64 s.1)),(3,.p (.b neg_4)),(4,.p (.b append__3)),(10,.nils),(11,.p (.s [])),(12,.ptr 0 0),(13,.p (.i .i64 s.2.1)),(14,.p (.i .u64 (IntKind.u64.wrap r_14))),(15,.p (.i .u64 (IntKind.u64.wrap base_1))),(16,.p (.i .u64 (IntKind.u64.wrap ((IntKind.u64.wrap base_1) - 1))))]) (fun s=>[.buf 202 1 (List.map zab s.2.2)]) ?_ hm ?_
    ·
     exact zn
    clear hm
    intro s nx_41 hm
    obtain ⟨u_19,i_20,o0_26⟩:=s
    try dsimp only at hm
    try dsimp only
    refine Wp.seqW fun K26 hK26 hW26=>?_
    refine qS ?_
    refine cM hm (fun hc28 hm=>?_) (fun hc28 hm=>?_)
    ·refine Wp.skip ?_
     refine hK26 _ _ ?_
     refine Wp.block ?_
     refine qS ?_
     obtain ⟨c_5,hbc_5,hxc_5,hm⟩:=zai hm
     replace hxc_5:((([48,49,50,51,52,53,54,55,56,57,97,98,99,100,101,102,103,104,105,106,107,108,109,110,111,112,113,114,115,116,117,118,119,120,121,122]:Str).getD ((zaz .and .u64 u_19 (IntKind.u64.wrap ((IntKind.u64.wrap base_1) - 1))).toNat) 0).toNat:Int)=c_5:=hxc_5
     obtain ⟨c_42,hm⟩:=zf hm
     refine Wp.seqR fun K30 hK30=>?_
     simp only [go_sem,simprocAttr,hxc_5]
     refine kA hK30 ?_
     obtain ⟨c_43,hm⟩:=zf hm
     refine Wp.region fun K31 hK31=>?_
     simp only [go_sem,simprocAttr,hxc_5]
     refine kA hK31 ?_
     simp only [zl,zi,↓reduceIte]
     refine ⟨(Int.fdiv u_19 (2 ^ (shI .u64 (IntKind.u64.wrap r_14))),IntKind.i64.wrap (i_20 - 1),List.set o0_26 ((IntKind.i64.wrap (i_20 - 1)).toNat) c_5),hm,?_⟩
     simp only [go_sem,simprocAttr,hxc_5]
     try exact se3
    ·refine Wp.exit ?_
     simp only [zl,zi,↓reduceIte]
     have hm:=hk_25 _ hm
     try dsimp only at hm
     refine hW23 _ _ _ _ ?_ (hcut23 (u_19,i_20,o0_26) hm)
     exact zn
   ·refine qS ?_
    refine Wp.seqW fun K33 hK33 hW33=>?_
    obtain ⟨k_16,hk_16,hm⟩:=zk hm
    have hcut33:∀ s,k_16 s=some z→K33 [(0,.p (.l (List.map zab dst_2))),(1,.p (.i .u64 s.1)),(3,.p (.b neg_4)),(4,.p (.b append__3)),(10,.nils),(11,.p (.s [])),(12,.ptr 0 0),(13,.p (.i .i64 s.2.1))] [.buf 202 1 (List.map zab s.2.2)]:=by
     intro s hs
     have hm:=hk_16 _ hs
     clear hs
     obtain ⟨u_32,i_27,o0_33⟩:=s
     try dsimp only at hm
     try dsimp only
     refine hK33 _ _ ?_
     refine qS ?_
     obtain ⟨c_8,hbc_8,hxc_8,hm⟩:=zai hm
     replace hxc_8:((([48,49,50,51,52,53,54,55,56,57,97,98,99,100,101,102,103,104,105,106,107,108,109,110,111,112,113,114,115,116,117,118,119,120,121,122]:Str).getD u_32.toNat 0).toNat:Int)=c_8:=hxc_8
     obtain ⟨c_44,hm⟩:=zf hm
     refine Wp.region fun K35 hK35=>?_
     simp only [go_sem,simprocAttr,hxc_8]
     refine kA hK35 ?_
     refine hW6 _ _ _ _ ?_ (hcut6 (IntKind.i64.wrap (i_27 - 1),List.set o0_33 ((IntKind.i64.wrap (i_27 - 1)).toNat) c_8) hm)
     simp only [go_sem,simprocAttr,hxc_8]
     try exact se3
    clear hK33 hk_16
    refine Wp.block ?_
    obtain ⟨k_28,hk_28,hm⟩:=zB hm
    refine Wp.loopN (fun s=>[(0,.p (.l (List.map zab dst_2))),(1,.p (.i .u64 s.1)),(3,.p (.b neg_4)),(4,.p (.b append__3)),(10,.nils),(11,.p (.s [])),(12,.ptr 0 0),(13,.p (.i .i64 s.2.1)),(17,.p (.i .u64 (IntKind.u64.wrap base_1)))]) (fun s=>[.buf 202 1 (List.map zab s.2.2)]) ?_ hm ?_
    ·
     exact zn
    clear hm
    intro s nx_45 hm
    obtain ⟨u_17,i_21,o0_29⟩:=s
    try dsimp only at hm
    try dsimp only
    refine Wp.seqW fun K36 hK36 hW36=>?_
    refine qS ?_
    refine cM hm (fun hc38 hm=>?_) (fun hc38 hm=>?_)
    ·refine Wp.skip ?_
     refine hK36 _ _ ?_
     refine Wp.block ?_
     refine qS ?_
     obtain ⟨c_46,hm⟩:=zf hm
     refine Wp.seqR fun K40 hK40=>?_
     simp only [go_sem,simprocAttr]
     refine kA hK40 ?_
     obtain ⟨c_6,hbc_6,hxc_6,hm⟩:=zai hm
     replace hxc_6:((([48,49,50,51,52,53,54,55,56,57,97,98,99,100,101,102,103,104,105,106,107,108,109,110,111,112,113,114,115,116,117,118,119,120,121,122]:Str).getD ((IntKind.u64.wrap (u_17 - (IntKind.u64.wrap ((IntKind.u64.wrap (Int.tdiv u_17 (IntKind.u64.wrap base_1))) * (IntKind.u64.wrap base_1))))).toNat) 0).toNat:Int)=c_6:=hxc_6
     obtain ⟨c_47,hm⟩:=zf hm
     refine Wp.seqR fun K41 hK41=>?_
     simp only [go_sem,simprocAttr,hxc_6]
     refine kA hK41 ?_
     refine Wp.region fun K42 hK42=>?_
     simp only [go_sem,simprocAttr,hxc_6]
     refine kA hK42 ?_
     simp only [zl,zi,↓reduceIte]
     refine ⟨(IntKind.u64.wrap (Int.tdiv u_17 (IntKind.u64.wrap base_1)),IntKind.i64.wrap (i_21 - 1),List.set o0_29 ((IntKind.i64.wrap (i_21 - 1)).toNat) c_6),hm,?_⟩
     simp only [go_sem,simprocAttr,hxc_6]
     try exact se3
    ·refine Wp.exit ?_
     simp only [zl,zi,↓reduceIte]
     have hm:=hk_28 _ hm
     try dsimp only at hm
     refine hW33 _ _ _ _ ?_ (hcut33 (u_17,i_21,o0_29) hm)
     exact zn
  clear hK5 hk_11
  refine qS ?_
  refine cM hm (fun hc44 hm=>?_) (fun hc44 hm=>?_)
  ·refine qR ?_
   refine hW5 _ _ _ _ ?_ (hcut5 (IntKind.u64.wrap (-u_9)) hm)
   exact zn
  ·refine Wp.skip ?_
   refine hW5 _ _ _ _ ?_ (hcut5 u_9 hm)
   exact zn
 clear hK2 hk_10
 refine qS ?_
 refine cM hm (fun hc47 hm=>?_) (fun hc47 hm=>?_)
 ·cases hm
 ·refine Wp.skip ?_
  refine hW2 _ _ _ _ ?_ (hcut2 () hm)
  exact zn
theorem zdb (i_1:Int) (base_2:Int) (z:Str) (hm:zas i_1 base_2=some z):Does Tryz.prog 113 [.p (.i .u64 i_1),.p (.i .i64 base_2)] [] (fun r X=>r=.p (.s z)∧X=[]):=by
 unfold zas at hm
 refine dW 0 32 [.tmp 4] Tryz.func113 fun B=>?_
 refine qS ?_
 refine Wp.seqW fun K2 hK2 hW2=>?_
 refine qS ?_
 refine cM hm (fun hc4 hm=>?_) (fun hc4 hm=>?_)
 ·refine Wp.seqW fun K5 hK5 hW5=>?_
  refine qS ?_
  refine cM hm (fun hc7 hm=>?_) (fun hc7 hm=>?_)
  ·cases hm
  ·refine Wp.skip ?_
   refine hK5 _ _ ?_
   refine qS ?_
   cases hm
 ·refine Wp.skip ?_
  refine hK2 _ _ ?_
  obtain ⟨r_3,hr_3,hm⟩:=zb hm
  refine Wp.seqR fun K9 hK9=>?_
  simp only [go_sem,simprocAttr]
  try refine ⟨sd,?_⟩
  refine Rg.callF (av:=?av10) (zda [] i_1 base_2 false false _ hr_3) si si sg ?cont10
  intro hv10
  simp only [go_sem,simprocAttr]
  refine kA hK9 ?_
  refine qS ?_
  refine Wp.ret ?_
  refine zc ?_
  cases hm
  exact zn
theorem zfn (i_1:Int) (base_2:Int) (z:Str) (hm:za0 i_1 base_2=some z):Does Tryz.prog 81 [.p (.i .u64 i_1),.p (.i .i64 base_2)] [] (fun r X=>r=.p (.s z)∧X=[]):=by
 unfold za0 at hm
 refine dW 0 8 [.tmp 4] Tryz.func81 fun B=>?_
 refine qS ?_
 obtain ⟨r_3,hr_3,hm⟩:=zb hm
 refine Wp.seqR fun K2 hK2=>?_
 simp only [go_sem,simprocAttr]
 try refine ⟨sd,?_⟩
 refine Rg.callX (av:=?av3) (g:=true) (fun hg=>zdb i_1 base_2 _ hr_3) si si si sg si ?cont3
 intro hv3
 simp only [go_sem,simprocAttr]
 refine kA hK2 ?_
 refine Wp.ret ?_
 refine zc ?_
 cases hm
 exact zn
theorem zgQ (x_1:Int) (y_2:Int) (z:Int × Int) (hm:zdR x_1 y_2=some z):Does Tryz.prog 156 [.p (.i .u64 x_1),.p (.i .u64 y_2)] [] (fun r X=>r=.tup [.p (.i .u64 z.1),.p (.i .u64 z.2)]∧X=[]):=by
 unfold zdR at hm
 refine dW 0 51 [.tmp 4,.tmp 5] Tryz.func156 fun B=>?_
 refine qS ?_
 refine qS ?_
 refine qS ?_
 refine qS ?_
 refine qS ?_
 refine qS ?_
 refine qS ?_
 refine qS ?_
 refine qS ?_
 refine qS ?_
 refine qS ?_
 refine qS ?_
 refine Wp.ret ?_
 refine zc ?_
 cases hm
 exact zn
theorem zh1 (x_1:Int) (y_2:Int) (z:Int × Int) (hm:zds x_1 y_2=some z):Does Tryz.prog 114 [.p (.i .u64 x_1),.p (.i .u64 y_2)] [] (fun r X=>r=.tup [.p (.i .u64 z.1),.p (.i .u64 z.2)]∧X=[]):=by
 unfold zds at hm
 refine dW 0 30 [.tmp 4,.tmp 5] Tryz.func114 fun B=>?_
 refine qS ?_
 refine Wp.seqW fun K2 hK2 hW2=>?_
 refine Wp.cond rfl ⟨⟩ (fun hc3=>?_) (fun hc3=>?_)
 ·cases hc3
 refine Wp.skip ?_
 refine hK2 _ _ ?_
 obtain ⟨r_3,hr_3,hm⟩:=zb hm
 refine Wp.seqR fun K4 hK4=>?_
 simp only [go_sem,simprocAttr]
 try refine ⟨sd,?_⟩
 refine Rg.callX (av:=?av5) (g:=true) (fun hg=>zgQ x_1 y_2 _ hr_3) si si si sg si ?cont5
 intro hv5
 simp only [go_sem,simprocAttr]
 refine kA hK4 ?_
 refine qS ?_
 refine Wp.ret ?_
 refine zc ?_
 cases hm
 exact zn
theorem zcC (s_1:Str) (prefix_2:Str) (z:Bool) (hm:zaG s_1 prefix_2=some z):Does Tryz.prog 157 [.p (.s s_1),.p (.s prefix_2)] [] (fun r X=>r=.p (.b z)∧X=[]):=by
 unfold zaG at hm
 refine dW 0 18 [.tmp 4] Tryz.func157 fun B=>?_
 refine qS ?_
 obtain ⟨c_3,hm⟩:=zf hm
 refine Wp.seqR fun K2 hK2=>?_
 simp only [go_sem,simprocAttr]
 refine kA hK2 ?_
 refine Wp.ret ?_
 refine zc ?_
 cases hm
 exact zn
theorem zaO (s_1:Str) (prefix_2:Str) (z:Bool) (hm:z6 s_1 prefix_2=some z):Does Tryz.prog 115 [.p (.s s_1),.p (.s prefix_2)] [] (fun r X=>r=.p (.b z)∧X=[]):=by
 unfold z6 at hm
 refine dW 0 8 [.tmp 4] Tryz.func115 fun B=>?_
 refine qS ?_
 obtain ⟨r_3,hr_3,hm⟩:=zb hm
 refine Wp.seqR fun K2 hK2=>?_
 simp only [go_sem,simprocAttr]
 try refine ⟨sd,?_⟩
 refine Rg.callX (av:=?av3) (g:=true) (fun hg=>zcC s_1 prefix_2 _ hr_3) si si si sg si ?cont3
 intro hv3
 simp only [go_sem,simprocAttr]
 refine kA hK2 ?_
 refine Wp.ret ?_
 refine zc ?_
 cases hm
 exact zn
theorem za8 (o1_1:Str) (z:Int) (hm:zay o1_1=some z):Does Tryz.prog 116 [.ptr 0 0] [.cells 75 [.np 0,.buf 1],.sb 5 o1_1] (fun r X=>r=.p (.i .i64 z)∧X=[.cells 75 [.np 0,.buf 1],.sb 5 o1_1]):=by
 unfold zay at hm
 refine dW 2 8 [.tmp 2] Tryz.func116 fun B=>?_
 refine qS ?_
 refine qS ?_
 refine Wp.ret ?_
 refine zc ?_
 cases hm
 exact zn
end Go.Proofs.YtmnohdgjkcjdeaaGreatDoor
