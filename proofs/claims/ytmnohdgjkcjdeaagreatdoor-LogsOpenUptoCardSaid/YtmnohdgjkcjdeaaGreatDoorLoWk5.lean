/- That the code does what the models say (part 5). -/
import Derived.Test.YtmnohdgjkcjdeaaGreatDoorLoWk0
import Derived.Test.YtmnohdgjkcjdeaaGreatDoorLoWk3
import Derived.Test.YtmnohdgjkcjdeaaGreatDoorLoWk4
set_option linter.unusedSimpArgs false
set_option linter.unusedVariables false
open Go.Proofs Go.Shelf
namespace Go.Proofs.YtmnohdgjkcjdeaaGreatDoor
open Go.Vc Go.Md
set_option maxRecDepth 100000
set_option maxHeartbeats 4000000
theorem ok_R_Quote (s_1:Str) (z:Str) (hm:R_Quote s_1=some z):Does Tryz.prog 80 [.p (.s s_1)] [] (fun r X=>r=.p (.s z)∧X=[]):=by
 unfold R_Quote at hm
 refine dW 0 67 [.tmp 2] Tryz.func80 fun B=>?_
 refine qS ?_
 refine qS ?_
 refine Wp.seqW fun K3 hK3 hW3=>?_
 obtain ⟨k_33,hk_33,hm⟩:=zl hm
 have hcut3:∀ s,k_33 s=some z→K3 [(3,.p (.s s))] []:=by
  intro out_32 hs
  have hm:=hk_33 _ hs
  clear hs
  try dsimp only at hm
  try dsimp only
  refine hK3 _ _ ?_
  obtain ⟨c_34,hm⟩:=zf hm
  refine Wp.seqR fun K4 hK4=>?_
  simp only [go_sem,simprocAttr]
  refine kA hK4 ?_
  refine Wp.ret ?_
  refine zc ?_
  cases hm
  exact zm
 clear hK3 hk_33
 refine qS ?_
 refine Wp.block ?_
 obtain ⟨k_49,hk_49,hm⟩:=zQ hm
 refine Wp.fact 0 fun hl_52=>?_
 replace hl_52:s_1.length≤274877906944:=by
  simp only [go_sem,simprocAttr,List.length_map] at hl_52
  omega
 refine Wp.forL (fun i_51 s=>[(0,.p (.s s_1)),(3,.p (.s s)),(7,.p (.i .i64 (s_1.length:Int))),(8,.p (.i .i64 (i_51:Int)))]) (fun i_51 s=>[]) ?_ hm ?_
 ·
  exact zm
 clear hm
 intro i_51 out_35 hii_51 hm
 try dsimp only at hm
 try dsimp only
 refine qS ?_
 refine Wp.seqW fun K7 hK7 hW7=>?_
 refine Wp.cond rfl ⟨⟩ (fun hc7=>?_) (fun hc7=>?_)
 rotate_left
 ·refine Wp.exit ?_
  have hm:=hk_49 _ (zae hm (zbd (by first | exact hc7 | simpa using hc7)))
  try dsimp only at hm
  refine hW3 _ _ _ _ ?_ (hcut3 out_35 hm)
  exact zm
 have hlt7:=zbc (by first | exact hc7 | simpa using hc7)
 have hw7:=zO hlt7 hl_52
 obtain ⟨c_53,nx_50,hxc_53,hyc_53,hnx_50,hm⟩:=zP hm hlt7
 clear hxc_53
 refine Wp.skip ?_
 simp only [zk]
 refine hK7 _ _ ?_
 refine Wp.seqW fun K8 hK8 hW8=>?_
 refine Wp.block ?_
 refine Wp.seqR fun K9 hK9=>?_
 simp only [go_sem,simprocAttr,hw7,hyc_53]
 refine kA hK9 ?_
 refine Wp.seqR fun K10 hK10=>?_
 simp only [go_sem,simprocAttr,hw7,hyc_53]
 refine kA hK10 ?_
 refine Wp.block ?_
 refine Wp.seqR fun K11 hK11=>?_
 simp only [go_sem,simprocAttr,hw7,hyc_53]
 refine kA hK11 ?_
 refine cM hm (fun hc12 hm=>?_) (fun hc12 hm=>?_)
 ·obtain ⟨c_54,hm⟩:=zf hm
  obtain ⟨c_55,hm⟩:=zf hm
  obtain ⟨c_56,hm⟩:=zf hm
  refine Wp.region fun K13 hK13=>?_
  simp only [go_sem,simprocAttr,hw7,hyc_53]
  refine kA hK13 ?_
  refine hK8 _ _ ?_
  refine Wp.region fun K14 hK14=>?_
  simp only [go_sem,simprocAttr,hw7,hyc_53]
  refine kA hK14 ?_
  simp only [zk,zi,↓reduceIte]
  refine ⟨out_35++(([92]:Str)++(List.take ((IntKind.i64.wrap ((i_51:Int)+1)).toNat - i_51) (List.drop i_51 s_1))),hlt7,hnx_50 _ hm,?_⟩
  simp only [go_sem,simprocAttr,hw7,hyc_53]
  try exact se3
 ·refine Wp.seqR fun K15 hK15=>?_
  simp only [go_sem,simprocAttr,hw7,hyc_53]
  refine kA hK15 ?_
  refine cM hm (fun hc16 hm=>?_) (fun hc16 hm=>?_)
  ·obtain ⟨c_57,hm⟩:=zf hm
   refine Wp.region fun K17 hK17=>?_
   simp only [go_sem,simprocAttr,hw7,hyc_53]
   refine kA hK17 ?_
   refine hK8 _ _ ?_
   refine Wp.region fun K18 hK18=>?_
   simp only [go_sem,simprocAttr,hw7,hyc_53]
   refine kA hK18 ?_
   simp only [zk,zi,↓reduceIte]
   refine ⟨out_35++([92,110]:Str),hlt7,hnx_50 _ hm,?_⟩
   simp only [go_sem,simprocAttr,hw7,hyc_53]
   try exact se3
  ·refine Wp.seqR fun K19 hK19=>?_
   simp only [go_sem,simprocAttr,hw7,hyc_53]
   refine kA hK19 ?_
   refine cM hm (fun hc20 hm=>?_) (fun hc20 hm=>?_)
   ·obtain ⟨c_58,hm⟩:=zf hm
    obtain ⟨c_59,hm⟩:=zf hm
    obtain ⟨c_60,hm⟩:=zf hm
    obtain ⟨c_61,hm⟩:=zf hm
    obtain ⟨c_62,hm⟩:=zf hm
    refine Wp.regD (plan:=pl [(0,none),(1,none),(2,none),(3,none),(4,none),(5,none),(6,none),(7,none),(8,none),(9,none),(10,none),(11,none),(12,none),(13,none),(14,none),(15,none),(16,none)]) (by kernel_rfl) rfl (by kernel_rfl) fun K21 hK21=>?_
    simp only [go_sem,simprocAttr,hw7,hyc_53]
    refine kA hK21 ?_
    refine hK8 _ _ ?_
    refine Wp.region fun K22 hK22=>?_
    simp only [go_sem,simprocAttr,hw7,hyc_53]
    refine kA hK22 ?_
    simp only [zk,zi,↓reduceIte]
    refine ⟨out_35++((([92,120]:Str)++(List.take ((IntKind.u8.wrap ((Int.fdiv (c_53.toNat:Int) (2 ^ (shI .u8 4)))+1)).toNat - (Int.fdiv (c_53.toNat:Int) (2 ^ (shI .u8 4))).toNat) (List.drop ((Int.fdiv (c_53.toNat:Int) (2 ^ (shI .u8 4))).toNat) ([48,49,50,51,52,53,54,55,56,57,97,98,99,100,101,102]:Str))))++(List.take ((IntKind.u8.wrap ((zaw .and .u8 (c_53.toNat:Int) 15)+1)).toNat - (zaw .and .u8 (c_53.toNat:Int) 15).toNat) (List.drop ((zaw .and .u8 (c_53.toNat:Int) 15).toNat) ([48,49,50,51,52,53,54,55,56,57,97,98,99,100,101,102]:Str)))),hlt7,hnx_50 _ hm,?_⟩
    simp only [go_sem,simprocAttr,hw7,hyc_53]
    try exact se3
   ·obtain ⟨c_63,hm⟩:=zf hm
    obtain ⟨c_64,hm⟩:=zf hm
    refine Wp.region fun K23 hK23=>?_
    simp only [go_sem,simprocAttr,hw7,hyc_53]
    refine kA hK23 ?_
    refine hK8 _ _ ?_
    refine Wp.region fun K24 hK24=>?_
    simp only [go_sem,simprocAttr,hw7,hyc_53]
    refine kA hK24 ?_
    simp only [zk,zi,↓reduceIte]
    refine ⟨out_35++(List.take ((IntKind.i64.wrap ((i_51:Int)+1)).toNat - i_51) (List.drop i_51 s_1)),hlt7,hnx_50 _ hm,?_⟩
    simp only [go_sem,simprocAttr,hw7,hyc_53]
    try exact se3
theorem ok_R_RecordText (r_1:api_Record) (z:Str) (hm:zdb r_1=some z):Does Tryz.prog 40 [.agg [.p (.i .i64 r_1.Time),.p (.i .i64 r_1.Kind),.p (.s r_1.Pack),.p (.i .i64 r_1.From.Major),.p (.i .i64 r_1.From.Minor),.p (.i .i64 r_1.From.Patch),.p (.s r_1.From.Early),.p (.i .i64 r_1.To.Major),.p (.i .i64 r_1.To.Minor),.p (.i .i64 r_1.To.Patch),.p (.s r_1.To.Early),.p (.i .i64 r_1.Result),.p (.s r_1.Note)]] [] (fun r X=>r=.p (.s z)∧X=[]):=by
 unfold zdb at hm
 refine dW 0 30 [.tmp 2] Tryz.func40 fun B=>?_
 refine qS ?_
 refine qS ?_
 obtain ⟨r_4,hr_4,hm⟩:=zb hm
 obtain ⟨r_5,hr_5,hm⟩:=zb hm
 obtain ⟨s_6,hbs_6,hxs_6,hys_6,hm⟩:=zU hm
 replace hxs_6:∀ d,(List.map ecS r_5).getD r_1.Kind.toNat d=ecS s_6:=hxs_6 ecS
 obtain ⟨r_7,hr_7,hm⟩:=zb hm
 obtain ⟨r_8,hr_8,hm⟩:=zb hm
 obtain ⟨r_9,hr_9,hm⟩:=zb hm
 obtain ⟨r_10,hr_10,hm⟩:=zb hm
 obtain ⟨r_11,hr_11,hm⟩:=zb hm
 refine Wp.seqD (plan:=pl [(0,none),(1,none),(2,none),(4,none),(5,none),(8,none),(9,none),(10,none),(11,none),(12,none),(14,none),(15,none),(16,none),(18,none),(19,none),(21,none),(22,none),(3,some [4,5,8,9,10,11,12,14,15,16,18,19,21,22]),(6,none),(7,none),(13,none),(17,none),(20,none),(23,none),(24,some []),(25,none),(26,none)]) (by kernel_rfl) rfl (by kernel_rfl) fun K3 hK3=>?_
 simp only [go_sem,simprocAttr,hxs_6]
 try refine ⟨sd,?_⟩
 refine Dr.callF (av:=?av4) (g:=true) (o:=?o4) (fun hg=>z8 r_1.Time _ hr_4) (by simp only [go_sem,simprocAttr,hxs_6]; exact Is.mk) (by simp only [go_sem,simprocAttr,hxs_6]; exact Is.mk) (by simp only [go_sem,simprocAttr,hxs_6]; exact Is.mk) (by simp only [go_sem,simprocAttr,hxs_6]; exact Is.mk) (by simp only [go_sem,simprocAttr,hxs_6]) (by simp only [go_sem,simprocAttr,hxs_6]; exact Is.mk) ?cont4
 simp only [go_sem,simprocAttr,hxs_6]
 try refine ⟨sd,?_⟩
 refine Dr.of_br (Br.callR (av:=?av5) (g:=true) (o:=?o5) [] (fun hg=>ok_R_recordWords  _ hr_5) (by simp only [go_sem,simprocAttr,hxs_6]; exact Is.mk) (by simp only [go_sem,simprocAttr,hxs_6]; exact Is.mk) (by simp only [go_sem,simprocAttr,hxs_6]; exact Is.mk) (by simp only [go_sem,simprocAttr,hxs_6]; exact Is.mk) (by simp only [go_sem,simprocAttr,hxs_6]; exact Is.mk) (by simp only [go_sem,simprocAttr,hxs_6]) (by simp only [go_sem,simprocAttr,hxs_6]) (by simp only [go_sem,simprocAttr,hxs_6]) ?hag5 ?cont5)
 case hag5=>first | (simp only [go_sem,simprocAttr,hxs_6]; done) | (simp only [go_sem,simprocAttr,hxs_6]; exact sd)
 simp only [go_sem,simprocAttr,hxs_6]
 try refine ⟨sd,?_⟩
 refine Dr.callF (av:=?av6) (g:=true) (o:=?o6) (fun hg=>zeu r_1.From _ hr_7) (by simp only [go_sem,simprocAttr,hxs_6]; exact Is.mk) (by simp only [go_sem,simprocAttr,hxs_6]; exact Is.mk) (by simp only [go_sem,simprocAttr,hxs_6]; exact Is.mk) (by simp only [go_sem,simprocAttr,hxs_6]; exact Is.mk) (by simp only [go_sem,simprocAttr,hxs_6]) (by simp only [go_sem,simprocAttr,hxs_6]; exact Is.mk) ?cont6
 simp only [go_sem,simprocAttr,hxs_6]
 try refine ⟨sd,?_⟩
 refine Dr.callF (av:=?av7) (g:=true) (o:=?o7) (fun hg=>zeu r_1.To _ hr_8) (by simp only [go_sem,simprocAttr,hxs_6]; exact Is.mk) (by simp only [go_sem,simprocAttr,hxs_6]; exact Is.mk) (by simp only [go_sem,simprocAttr,hxs_6]; exact Is.mk) (by simp only [go_sem,simprocAttr,hxs_6]; exact Is.mk) (by simp only [go_sem,simprocAttr,hxs_6]) (by simp only [go_sem,simprocAttr,hxs_6]; exact Is.mk) ?cont7
 simp only [go_sem,simprocAttr,hxs_6]
 try refine ⟨sd,?_⟩
 refine Dr.callF (av:=?av8) (g:=true) (o:=?o8) (fun hg=>z8 r_1.Result _ hr_9) (by simp only [go_sem,simprocAttr,hxs_6]; exact Is.mk) (by simp only [go_sem,simprocAttr,hxs_6]; exact Is.mk) (by simp only [go_sem,simprocAttr,hxs_6]; exact Is.mk) (by simp only [go_sem,simprocAttr,hxs_6]; exact Is.mk) (by simp only [go_sem,simprocAttr,hxs_6]) (by simp only [go_sem,simprocAttr,hxs_6]; exact Is.mk) ?cont8
 simp only [go_sem,simprocAttr,hxs_6]
 try refine ⟨sd,?_⟩
 refine Dr.callF (av:=?av9) (g:=true) (o:=?o9) (fun hg=>ok_R_Quote r_1.Note _ hr_10) (by simp only [go_sem,simprocAttr,hxs_6]; exact Is.mk) (by simp only [go_sem,simprocAttr,hxs_6]; exact Is.mk) (by simp only [go_sem,simprocAttr,hxs_6]; exact Is.mk) (by simp only [go_sem,simprocAttr,hxs_6]; exact Is.mk) (by simp only [go_sem,simprocAttr,hxs_6]) (by simp only [go_sem,simprocAttr,hxs_6]; exact Is.mk) ?cont9
 simp only [go_sem,simprocAttr,hxs_6]
 try refine ⟨sd,?_⟩
 refine Dr.callF (av:=?av10) (g:=true) (o:=?o10) (fun hg=>ok_strings_Join [r_4,s_6,r_1.Pack,r_7,r_8,r_9,r_10] ([32]:Str) _ hr_11) (by simp only [go_sem,simprocAttr,hxs_6]; exact Is.mk) (by simp only [go_sem,simprocAttr,hxs_6]; exact Is.mk) (by simp only [go_sem,simprocAttr,hxs_6]; exact Is.mk) (by simp only [go_sem,simprocAttr,hxs_6]; exact Is.mk) (by simp only [go_sem,simprocAttr,hxs_6]) (by simp only [go_sem,simprocAttr,hxs_6]; exact Is.mk) ?cont10
 simp only [go_sem,simprocAttr,hxs_6]
 refine kA hK3 ?_
 refine Wp.ret ?_
 refine zc ?_
 cases hm
 simp only [go_sem,simprocAttr,hxs_6]
 try exact se3
theorem zcK (x_1:Int) (z:Bool) (hm:zak x_1=some z):Does Tryz.prog 180 [.p (.i .i64 x_1)] [] (fun r X=>r=.p (.b z)∧X=[]):=by
 unfold zak at hm
 refine dW 0 8 [.tmp 2] Tryz.func180 fun B=>?_
 refine qS ?_
 refine qS ?_
 refine Wp.ret ?_
 refine zc ?_
 cases hm
 exact zm
theorem zdn (x_1:Int) (z:Int) (hm:zba x_1=some z):Does Tryz.prog 201 [.p (.i .u64 x_1)] [] (fun r X=>r=.p (.i .i64 z)∧X=[]):=by
 unfold zba at hm
 refine dW 0 14 [.tmp 2] Tryz.func201 fun B=>?_
 refine qS ?_
 refine Wp.seqW fun K2 hK2 hW2=>?_
 refine qS ?_
 refine cM hm (fun hc4 hm=>?_) (fun hc4 hm=>?_)
 ·refine qS ?_
  refine Wp.ret ?_
  refine zc ?_
  cases hm
  exact zm
 ·refine Wp.skip ?_
  refine hK2 _ _ ?_
  obtain ⟨c_2,hm⟩:=zf hm
  refine Wp.seqR fun K6 hK6=>?_
  simp only [go_sem,simprocAttr]
  refine kA hK6 ?_
  refine Wp.ret ?_
  refine zc ?_
  cases hm
  exact zm
theorem zd1 (x_1:Int) (z:Int) (hm:zaR x_1=some z):Does Tryz.prog 181 [.p (.i .u64 x_1)] [] (fun r X=>r=.p (.i .i64 z)∧X=[]):=by
 unfold zaR at hm
 refine dW 0 8 [.tmp 2] Tryz.func181 fun B=>?_
 refine qS ?_
 refine Wp.seqW fun K2 hK2 hW2=>?_
 refine Wp.cond rfl ⟨⟩ (fun hc3=>?_) (fun hc3=>?_)
 ·cases hc3
 refine Wp.skip ?_
 refine hK2 _ _ ?_
 obtain ⟨r_2,hr_2,hm⟩:=zb hm
 refine Wp.seqR fun K4 hK4=>?_
 simp only [go_sem,simprocAttr]
 try refine ⟨sd,?_⟩
 refine Rg.callX (av:=?av5) (g:=true) (fun hg=>zdn x_1 _ hr_2) si si si sg si ?cont5
 intro hv5
 simp only [go_sem,simprocAttr]
 refine kA hK4 ?_
 refine Wp.ret ?_
 refine zc ?_
 cases hm
 exact zm
theorem zc8 (dst_1:List Int) (u_2:Int) (base_3:Int) (neg_4:Bool) (append__5:Bool) (z:List Int × Str) (hm:zaa dst_1 u_2 base_3 neg_4 append__5=some z):Does Tryz.prog 154 [.p (.l (List.map zac dst_1)),.p (.i .u64 u_2),.p (.i .i64 base_3),.p (.b neg_4),.p (.b append__5)] [] (fun r X=>r=.tup [.p (.l (List.map zac z.1)),.p (.s z.2)]∧X=[]):=by
 unfold zaa at hm
 refine dW 0 102 [.tmp 10,.tmp 11] Tryz.func154 fun B=>?_
 refine qS ?_
 refine Wp.seqW fun K2 hK2 hW2=>?_
 obtain ⟨k_6,hk_6,hm⟩:=zl hm
 have hcut2:∀ s,k_6 s=some z→K2 [(0,.p (.l (List.map zac dst_1))),(1,.p (.i .u64 u_2)),(2,.p (.i .i64 base_3)),(3,.p (.b neg_4)),(4,.p (.b append__5)),(10,.nils),(11,.p (.s []))] []:=by
  intro s hs
  have hm:=hk_6 _ hs
  clear hs
  try dsimp only at hm
  try dsimp only
  refine hK2 _ _ ?_
  refine qS ?_
  refine qS ?_
  refine Wp.seqW fun K5 hK5 hW5=>?_
  obtain ⟨k_8,hk_8,hm⟩:=zl hm
  have hcut5:∀ s,k_8 s=some z→K5 [(0,.p (.l (List.map zac dst_1))),(1,.p (.i .u64 s)),(2,.p (.i .i64 base_3)),(3,.p (.b neg_4)),(4,.p (.b append__5)),(10,.nils),(11,.p (.s [])),(12,.ptr 0 0),(13,.p (.i .i64 65))] [.buf 202 1 (List.map zac (List.replicate 65 0))]:=by
   intro u_7 hs
   have hm:=hk_8 _ hs
   clear hs
   try dsimp only at hm
   try dsimp only
   refine hK5 _ _ ?_
   refine Wp.seqW fun K6 hK6 hW6=>?_
   obtain ⟨k_89,hk_89,hm⟩:=zl hm
   have hcut6:∀ s,k_89 s=some z→K6 [(0,.p (.l (List.map zac dst_1))),(3,.p (.b neg_4)),(4,.p (.b append__5)),(10,.nils),(11,.p (.s [])),(12,.ptr 0 0),(13,.p (.i .i64 s.1))] [.buf 202 1 (List.map zac s.2)]:=by
    intro s hs
    have hm:=hk_89 _ hs
    clear hs
    obtain ⟨i_87,o0_88⟩:=s
    try dsimp only at hm
    try dsimp only
    refine hK6 _ _ ?_
    refine Wp.seqW fun K7 hK7 hW7=>?_
    obtain ⟨k_93,hk_93,hm⟩:=zl hm
    have hcut7:∀ s,k_93 s=some z→K7 [(0,.p (.l (List.map zac dst_1))),(4,.p (.b append__5)),(10,.nils),(11,.p (.s [])),(12,.ptr 0 0),(13,.p (.i .i64 s.1))] [.buf 202 1 (List.map zac s.2)]:=by
     intro s hs
     have hm:=hk_93 _ hs
     clear hs
     obtain ⟨i_91,o0_92⟩:=s
     try dsimp only at hm
     try dsimp only
     refine hK7 _ _ ?_
     refine Wp.seqW fun K8 hK8 hW8=>?_
     refine qS ?_
     refine cM hm (fun hc10 hm=>?_) (fun hc10 hm=>?_)
     ·obtain ⟨c_94,hm⟩:=zf hm
      cases hm
     ·refine Wp.skip ?_
      refine hK8 _ _ ?_
      obtain ⟨c_95,hm⟩:=zf hm
      refine Wp.seqR fun K11 hK11=>?_
      simp only [go_sem,simprocAttr]
      refine kA hK11 ?_
      refine Wp.ret ?_
      refine retQ_retE ?_
      cases hm
      exact zm
    clear hK7 hk_93
    refine qS ?_
    refine cM hm (fun hc13 hm=>?_) (fun hc13 hm=>?_)
    ·refine qS ?_
     obtain ⟨c_96,hm⟩:=zf hm
     refine Wp.region fun K15 hK15=>?_
     simp only [go_sem,simprocAttr]
     refine kA hK15 ?_
     refine hW7 _ _ _ _ ?_ (hcut7 (IntKind.i64.wrap (i_87 - 1),List.set o0_88 ((IntKind.i64.wrap (i_87 - 1)).toNat) 45) hm)
     exact zm
    ·refine Wp.skip ?_
     refine hW7 _ _ _ _ ?_ (hcut7 (i_87,o0_88) hm)
     exact zm
   clear hK6 hk_89
   obtain ⟨r_97,hr_97,hm⟩:=zb hm
   refine Wp.seqR fun K16 hK16=>?_
   simp only [go_sem,simprocAttr]
   try refine ⟨sd,?_⟩
   refine Rg.callX (av:=?av17) (g:=true) (fun hg=>zcK base_3 _ hr_97) si si si sg si ?cont17
   intro hv17
   simp only [go_sem,simprocAttr]
   refine kA hK16 ?_
   refine cM hm (fun hc18 hm=>?_) (fun hc18 hm=>?_)
   ·obtain ⟨r_98,hr_98,hm⟩:=zb hm
    refine Wp.seqR fun K19 hK19=>?_
    simp only [go_sem,simprocAttr]
    try refine ⟨sd,?_⟩
    refine Rg.callX (av:=?av20) (g:=true) (fun hg=>zd1 (IntKind.u64.wrap base_3) _ hr_98) si si si sg si ?cont20
    intro hv20
    simp only [go_sem,simprocAttr]
    refine kA hK19 ?_
    refine qS ?_
    refine qS ?_
    refine Wp.seqW fun K23 hK23 hW23=>?_
    obtain ⟨k_118,hk_118,hm⟩:=zl hm
    have hcut23:∀ s,k_118 s=some z→K23 [(0,.p (.l (List.map zac dst_1))),(1,.p (.i .u64 s.1)),(3,.p (.b neg_4)),(4,.p (.b append__5)),(10,.nils),(11,.p (.s [])),(12,.ptr 0 0),(13,.p (.i .i64 s.2.1))] [.buf 202 1 (List.map zac s.2.2)]:=by
     intro s hs
     have hm:=hk_118 _ hs
     clear hs
     obtain ⟨u_115,i_116,o0_117⟩:=s
     try dsimp only at hm
     try dsimp only
     refine hK23 _ _ ?_
     refine qS ?_
     obtain ⟨c_119,hbc_119,hxc_119,hm⟩:=zab hm
     replace hxc_119:((([48,49,50,51,52,53,54,55,56,57,97,98,99,100,101,102,103,104,105,106,107,108,109,110,111,112,113,114,115,116,117,118,119,120,121,122]:Str).getD u_115.toNat 0).toNat:Int)=c_119:=hxc_119
     obtain ⟨c_120,hm⟩:=zf hm
     refine Wp.region fun K25 hK25=>?_
     simp only [go_sem,simprocAttr,hxc_119]
     refine kA hK25 ?_
     refine hW6 _ _ _ _ ?_ (hcut6 (IntKind.i64.wrap (i_116 - 1),List.set o0_117 ((IntKind.i64.wrap (i_116 - 1)).toNat) c_119) hm)
     simp only [go_sem,simprocAttr,hxc_119]
     try exact se3
    clear hK23 hk_118
    refine Wp.block ?_
    obtain ⟨k_132,hk_132,hm⟩:=zF hm
    refine Wp.loopN (fun s=>[(0,.p (.l (List.map zac dst_1))),(1,.p (.i .u64 s.1)),(3,.p (.b neg_4)),(4,.p (.b append__5)),(10,.nils),(11,.p (.s [])),(12,.ptr 0 0),(13,.p (.i .i64 s.2.1)),(14,.p (.i .u64 (IntKind.u64.wrap r_98))),(15,.p (.i .u64 (IntKind.u64.wrap base_3))),(16,.p (.i .u64 (IntKind.u64.wrap ((IntKind.u64.wrap base_3) - 1))))]) (fun s=>[.buf 202 1 (List.map zac s.2.2)]) ?_ hm ?_
    ·
     exact zm
    clear hm
    intro s nx_133 hm
    obtain ⟨u_126,i_127,o0_128⟩:=s
    try dsimp only at hm
    try dsimp only
    refine Wp.seqW fun K26 hK26 hW26=>?_
    refine qS ?_
    refine cM hm (fun hc28 hm=>?_) (fun hc28 hm=>?_)
    ·refine Wp.skip ?_
     refine hK26 _ _ ?_
     refine Wp.block ?_
     refine qS ?_
     obtain ⟨c_134,hbc_134,hxc_134,hm⟩:=zab hm
     replace hxc_134:((([48,49,50,51,52,53,54,55,56,57,97,98,99,100,101,102,103,104,105,106,107,108,109,110,111,112,113,114,115,116,117,118,119,120,121,122]:Str).getD ((zaw .and .u64 u_126 (IntKind.u64.wrap ((IntKind.u64.wrap base_3) - 1))).toNat) 0).toNat:Int)=c_134:=hxc_134
     obtain ⟨c_135,hm⟩:=zf hm
     refine Wp.seqR fun K30 hK30=>?_
     simp only [go_sem,simprocAttr,hxc_134]
     refine kA hK30 ?_
     obtain ⟨c_136,hm⟩:=zf hm
     refine Wp.region fun K31 hK31=>?_
     simp only [go_sem,simprocAttr,hxc_134]
     refine kA hK31 ?_
     simp only [zk,zi,↓reduceIte]
     refine ⟨(Int.fdiv u_126 (2 ^ (shI .u64 (IntKind.u64.wrap r_98))),IntKind.i64.wrap (i_127 - 1),List.set o0_128 ((IntKind.i64.wrap (i_127 - 1)).toNat) c_134),hm,?_⟩
     simp only [go_sem,simprocAttr,hxc_134]
     try exact se3
    ·refine Wp.exit ?_
     simp only [zk,zi,↓reduceIte]
     have hm:=hk_132 _ hm
     try dsimp only at hm
     refine hW23 _ _ _ _ ?_ (hcut23 (u_126,i_127,o0_128) hm)
     exact zm
   ·refine qS ?_
    refine Wp.seqW fun K33 hK33 hW33=>?_
    obtain ⟨k_156,hk_156,hm⟩:=zl hm
    have hcut33:∀ s,k_156 s=some z→K33 [(0,.p (.l (List.map zac dst_1))),(1,.p (.i .u64 s.1)),(3,.p (.b neg_4)),(4,.p (.b append__5)),(10,.nils),(11,.p (.s [])),(12,.ptr 0 0),(13,.p (.i .i64 s.2.1))] [.buf 202 1 (List.map zac s.2.2)]:=by
     intro s hs
     have hm:=hk_156 _ hs
     clear hs
     obtain ⟨u_153,i_154,o0_155⟩:=s
     try dsimp only at hm
     try dsimp only
     refine hK33 _ _ ?_
     refine qS ?_
     obtain ⟨c_157,hbc_157,hxc_157,hm⟩:=zab hm
     replace hxc_157:((([48,49,50,51,52,53,54,55,56,57,97,98,99,100,101,102,103,104,105,106,107,108,109,110,111,112,113,114,115,116,117,118,119,120,121,122]:Str).getD u_153.toNat 0).toNat:Int)=c_157:=hxc_157
     obtain ⟨c_158,hm⟩:=zf hm
     refine Wp.region fun K35 hK35=>?_
     simp only [go_sem,simprocAttr,hxc_157]
     refine kA hK35 ?_
     refine hW6 _ _ _ _ ?_ (hcut6 (IntKind.i64.wrap (i_154 - 1),List.set o0_155 ((IntKind.i64.wrap (i_154 - 1)).toNat) c_157) hm)
     simp only [go_sem,simprocAttr,hxc_157]
     try exact se3
    clear hK33 hk_156
    refine Wp.block ?_
    obtain ⟨k_170,hk_170,hm⟩:=zF hm
    refine Wp.loopN (fun s=>[(0,.p (.l (List.map zac dst_1))),(1,.p (.i .u64 s.1)),(3,.p (.b neg_4)),(4,.p (.b append__5)),(10,.nils),(11,.p (.s [])),(12,.ptr 0 0),(13,.p (.i .i64 s.2.1)),(17,.p (.i .u64 (IntKind.u64.wrap base_3)))]) (fun s=>[.buf 202 1 (List.map zac s.2.2)]) ?_ hm ?_
    ·
     exact zm
    clear hm
    intro s nx_171 hm
    obtain ⟨u_164,i_165,o0_166⟩:=s
    try dsimp only at hm
    try dsimp only
    refine Wp.seqW fun K36 hK36 hW36=>?_
    refine qS ?_
    refine cM hm (fun hc38 hm=>?_) (fun hc38 hm=>?_)
    ·refine Wp.skip ?_
     refine hK36 _ _ ?_
     refine Wp.block ?_
     refine qS ?_
     obtain ⟨c_172,hm⟩:=zf hm
     refine Wp.seqR fun K40 hK40=>?_
     simp only [go_sem,simprocAttr]
     refine kA hK40 ?_
     obtain ⟨c_173,hbc_173,hxc_173,hm⟩:=zab hm
     replace hxc_173:((([48,49,50,51,52,53,54,55,56,57,97,98,99,100,101,102,103,104,105,106,107,108,109,110,111,112,113,114,115,116,117,118,119,120,121,122]:Str).getD ((IntKind.u64.wrap (u_164 - (IntKind.u64.wrap ((IntKind.u64.wrap (Int.tdiv u_164 (IntKind.u64.wrap base_3))) * (IntKind.u64.wrap base_3))))).toNat) 0).toNat:Int)=c_173:=hxc_173
     obtain ⟨c_174,hm⟩:=zf hm
     refine Wp.seqR fun K41 hK41=>?_
     simp only [go_sem,simprocAttr,hxc_173]
     refine kA hK41 ?_
     refine Wp.region fun K42 hK42=>?_
     simp only [go_sem,simprocAttr,hxc_173]
     refine kA hK42 ?_
     simp only [zk,zi,↓reduceIte]
     refine ⟨(IntKind.u64.wrap (Int.tdiv u_164 (IntKind.u64.wrap base_3)),IntKind.i64.wrap (i_165 - 1),List.set o0_166 ((IntKind.i64.wrap (i_165 - 1)).toNat) c_173),hm,?_⟩
     simp only [go_sem,simprocAttr,hxc_173]
     try exact se3
    ·refine Wp.exit ?_
     simp only [zk,zi,↓reduceIte]
     have hm:=hk_170 _ hm
     try dsimp only at hm
     refine hW33 _ _ _ _ ?_ (hcut33 (u_164,i_165,o0_166) hm)
     exact zm
  clear hK5 hk_8
  refine qS ?_
  refine cM hm (fun hc44 hm=>?_) (fun hc44 hm=>?_)
  ·refine qR ?_
   refine hW5 _ _ _ _ ?_ (hcut5 (IntKind.u64.wrap (-u_2)) hm)
   exact zm
  ·refine Wp.skip ?_
   refine hW5 _ _ _ _ ?_ (hcut5 u_2 hm)
   exact zm
 clear hK2 hk_6
 refine qS ?_
 refine cM hm (fun hc47 hm=>?_) (fun hc47 hm=>?_)
 ·cases hm
 ·refine Wp.skip ?_
  refine hW2 _ _ _ _ ?_ (hcut2 () hm)
  exact zm
theorem zc9 (i_1:Int) (base_2:Int) (z:Str) (hm:zaq i_1 base_2=some z):Does Tryz.prog 113 [.p (.i .u64 i_1),.p (.i .i64 base_2)] [] (fun r X=>r=.p (.s z)∧X=[]):=by
 unfold zaq at hm
 refine dW 0 32 [.tmp 4] Tryz.func113 fun B=>?_
 refine qS ?_
 refine Wp.seqW fun K2 hK2 hW2=>?_
 refine qS ?_
 refine cM hm (fun hc4 hm=>?_) (fun hc4 hm=>?_)
 ·refine Wp.seqW fun K5 hK5 hW5=>?_
  refine qS ?_
  refine cM hm (fun hc7 hm=>?_) (fun hc7 hm=>?_)
  ·cases hm
  ·refine Wp.skip ?_
   refine hK5 _ _ ?_
   refine qS ?_
   cases hm
 ·refine Wp.skip ?_
  refine hK2 _ _ ?_
  obtain ⟨r_3,hr_3,hm⟩:=zb hm
  refine Wp.seqR fun K9 hK9=>?_
  simp only [go_sem,simprocAttr]
  try refine ⟨sd,?_⟩
  refine Rg.callF (av:=?av10) (zc8 [] i_1 base_2 false false _ hr_3) si si sg ?cont10
  intro hv10
  simp only [go_sem,simprocAttr]
  refine kA hK9 ?_
  refine qS ?_
  refine Wp.ret ?_
  refine zc ?_
  cases hm
  exact zm
theorem ok_strconv_FormatUint (i_1:Int) (base_2:Int) (z:Str) (hm:za1 i_1 base_2=some z):Does Tryz.prog 81 [.p (.i .u64 i_1),.p (.i .i64 base_2)] [] (fun r X=>r=.p (.s z)∧X=[]):=by
 unfold za1 at hm
 refine dW 0 8 [.tmp 4] Tryz.func81 fun B=>?_
 refine qS ?_
 obtain ⟨r_3,hr_3,hm⟩:=zb hm
 refine Wp.seqR fun K2 hK2=>?_
 simp only [go_sem,simprocAttr]
 try refine ⟨sd,?_⟩
 refine Rg.callX (av:=?av3) (g:=true) (fun hg=>zc9 i_1 base_2 _ hr_3) si si si sg si ?cont3
 intro hv3
 simp only [go_sem,simprocAttr]
 refine kA hK2 ?_
 refine Wp.ret ?_
 refine zc ?_
 cases hm
 exact zm
theorem ok_math_bits_Mul64 (x_1:Int) (y_2:Int) (z:Int × Int) (hm:zdQ x_1 y_2=some z):Does Tryz.prog 156 [.p (.i .u64 x_1),.p (.i .u64 y_2)] [] (fun r X=>r=.tup [.p (.i .u64 z.1),.p (.i .u64 z.2)]∧X=[]):=by
 unfold zdQ at hm
 refine dW 0 51 [.tmp 4,.tmp 5] Tryz.func156 fun B=>?_
 refine qS ?_
 refine qS ?_
 refine qS ?_
 refine qS ?_
 refine qS ?_
 refine qS ?_
 refine qS ?_
 refine qS ?_
 refine qS ?_
 refine qS ?_
 refine qS ?_
 refine qS ?_
 refine Wp.ret ?_
 refine zc ?_
 cases hm
 exact zm
theorem ok_math_bits_Mul (x_1:Int) (y_2:Int) (z:Int × Int) (hm:zdq x_1 y_2=some z):Does Tryz.prog 114 [.p (.i .u64 x_1),.p (.i .u64 y_2)] [] (fun r X=>r=.tup [.p (.i .u64 z.1),.p (.i .u64 z.2)]∧X=[]):=by
 unfold zdq at hm
 refine dW 0 30 [.tmp 4,.tmp 5] Tryz.func114 fun B=>?_
 refine qS ?_
 refine Wp.seqW fun K2 hK2 hW2=>?_
 refine Wp.cond rfl ⟨⟩ (fun hc3=>?_) (fun hc3=>?_)
 ·cases hc3
 refine Wp.skip ?_
 refine hK2 _ _ ?_
 obtain ⟨r_3,hr_3,hm⟩:=zb hm
 refine Wp.seqR fun K4 hK4=>?_
 simp only [go_sem,simprocAttr]
 try refine ⟨sd,?_⟩
 refine Rg.callX (av:=?av5) (g:=true) (fun hg=>ok_math_bits_Mul64 x_1 y_2 _ hr_3) si si si sg si ?cont5
 intro hv5
 simp only [go_sem,simprocAttr]
 refine kA hK4 ?_
 refine qS ?_
 refine Wp.ret ?_
 refine zc ?_
 cases hm
 exact zm
theorem zcA (s_1:Str) (prefix_2:Str) (z:Bool) (hm:zaF s_1 prefix_2=some z):Does Tryz.prog 157 [.p (.s s_1),.p (.s prefix_2)] [] (fun r X=>r=.p (.b z)∧X=[]):=by
 unfold zaF at hm
 refine dW 0 18 [.tmp 4] Tryz.func157 fun B=>?_
 refine qS ?_
 obtain ⟨c_3,hm⟩:=zf hm
 refine Wp.seqR fun K2 hK2=>?_
 simp only [go_sem,simprocAttr]
 refine kA hK2 ?_
 refine Wp.ret ?_
 refine zc ?_
 cases hm
 exact zm
theorem zaM (s_1:Str) (prefix_2:Str) (z:Bool) (hm:zZ s_1 prefix_2=some z):Does Tryz.prog 115 [.p (.s s_1),.p (.s prefix_2)] [] (fun r X=>r=.p (.b z)∧X=[]):=by
 unfold zZ at hm
 refine dW 0 8 [.tmp 4] Tryz.func115 fun B=>?_
 refine qS ?_
 obtain ⟨r_3,hr_3,hm⟩:=zb hm
 refine Wp.seqR fun K2 hK2=>?_
 simp only [go_sem,simprocAttr]
 try refine ⟨sd,?_⟩
 refine Rg.callX (av:=?av3) (g:=true) (fun hg=>zcA s_1 prefix_2 _ hr_3) si si si sg si ?cont3
 intro hv3
 simp only [go_sem,simprocAttr]
 refine kA hK2 ?_
 refine Wp.ret ?_
 refine zc ?_
 cases hm
 exact zm
theorem za9 (o1_1:Str) (z:Int) (hm:zax o1_1=some z):Does Tryz.prog 116 [.ptr 0 0] [.cells 75 [.np 0,.buf 1],.sb 5 o1_1] (fun r X=>r=.p (.i .i64 z)∧X=[.cells 75 [.np 0,.buf 1],.sb 5 o1_1]):=by
 unfold zax at hm
 refine dW 2 8 [.tmp 2] Tryz.func116 fun B=>?_
 refine qS ?_
 refine qS ?_
 refine Wp.ret ?_
 refine zc ?_
 cases hm
 exact zm
end Go.Proofs.YtmnohdgjkcjdeaaGreatDoor
