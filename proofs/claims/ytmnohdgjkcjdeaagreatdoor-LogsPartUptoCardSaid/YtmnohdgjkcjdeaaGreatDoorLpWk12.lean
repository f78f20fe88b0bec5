/- That the code does what the models say (part 12). -/
import Derived.Test.YtmnohdgjkcjdeaaGreatDoorLpWk0
import Derived.Test.YtmnohdgjkcjdeaaGreatDoorLpWk2
import Derived.Test.YtmnohdgjkcjdeaaGreatDoorLpWk4
import Derived.Test.YtmnohdgjkcjdeaaGreatDoorLpWk6
import Derived.Test.YtmnohdgjkcjdeaaGreatDoorLpWk10
import Derived.Test.YtmnohdgjkcjdeaaGreatDoorLpWk11
set_option linter.unusedSimpArgs false
set_option linter.unusedVariables false
open Go.Proofs Go.Shelf
namespace Go.Proofs.YtmnohdgjkcjdeaaGreatDoor
open Go.Vc Go.Md
set_option maxRecDepth 100000
set_option maxHeartbeats 4000000
theorem ziT (s_20:Str) (z:api_Record × Int) (hm:zbR s_20=some z):Does Tryz.prog 52 [.p (.s s_20)] [] (fun r X=>r=.tup [.agg [.p (.i .i64 z.1.Time),.p (.i .i64 z.1.Kind),.p (.s z.1.Pack),.p (.i .i64 z.1.From.Major),.p (.i .i64 z.1.From.Minor),.p (.i .i64 z.1.From.Patch),.p (.s z.1.From.Early),.p (.i .i64 z.1.To.Major),.p (.i .i64 z.1.To.Minor),.p (.i .i64 z.1.To.Patch),.p (.s z.1.To.Early),.p (.i .i64 z.1.Result),.p (.s z.1.Note)],.p (.i .i64 z.2)]∧X=[]):=by
 unfold zbR at hm
 refine dW 0 125 [.cell 2 30,.tmp 3] Tryz.func52 fun B=>?_
 refine qS ?_
 refine qS ?_
 obtain ⟨r_11,hr_11,hm⟩:=zb hm
 refine Wp.seqR fun K3 hK3=>?_
 simp only [go_sem,simprocAttr]
 try refine ⟨sd,?_⟩
 refine Rg.callF (av:=?av4) (zes s_20 ([32]:Str) 7 _ hr_11) si si sg ?cont4
 intro hv4
 simp only [go_sem,simprocAttr]
 refine kA hK3 ?_
 refine Wp.seqW fun K5 hK5 hW5=>?_
 refine qS ?_
 refine cM hm (fun hc7 hm=>?_) (fun hc7 hm=>?_)
 ·obtain ⟨r_23,hr_23,hm⟩:=zb hm
  refine Wp.seqR fun K8 hK8=>?_
  simp only [go_sem,simprocAttr]
  try refine ⟨sd,?_⟩
  refine Rg.callX (av:=?av9) (g:=true) (fun hg=>zcX 8 _ hr_23) si si si sg si ?cont9
  intro hv9
  simp only [go_sem,simprocAttr]
  refine kA hK8 ?_
  refine Wp.ret ?_
  refine zc ?_
  cases hm
  exact zn
 ·refine Wp.skip ?_
  refine hK5 _ _ ?_
  refine qS ?_
  refine qS ?_
  obtain ⟨s_2,hbs_2,hxs_2,hys_2,hm⟩:=zZ hm
  replace hxs_2:∀ d,(List.map ecS r_11).getD 0 d=ecS s_2:=hxs_2 ecS
  obtain ⟨r_15,hr_15,hm⟩:=zb hm
  obtain ⟨s_3,hbs_3,hxs_3,hys_3,hm⟩:=zZ hm
  replace hxs_3:∀ d,(List.map ecS r_11).getD 1 d=ecS s_3:=hxs_3 ecS
  obtain ⟨s_1,hbs_1,hxs_1,hys_1,hm⟩:=zZ hm
  replace hxs_1:∀ d,(List.map ecS r_11).getD 2 d=ecS s_1:=hxs_1 ecS
  obtain ⟨r_21,hr_21,hm⟩:=zb hm
  obtain ⟨r_16,hr_16,hm⟩:=zb hm
  refine Wp.seqD (plan:=pl [(0,none),(1,none),(2,none),(3,none),(4,none),(6,none),(7,none),(8,none),(10,none),(11,none),(12,none),(5,some [6,7,8,10,11,12]),(9,none),(13,none),(14,some []),(15,none),(16,some []),(17,none),(18,some [])]) (by kernel_rfl) rfl (by kernel_rfl) fun K12 hK12=>?_
  simp only [go_sem,simprocAttr,hxs_2,hxs_3,hxs_1]
  try refine ⟨sd,?_⟩
  refine Dr.callF (av:=?av13) (g:=true) (o:=?o13) (fun hg=>zex s_2 _ hr_15) (by simp only [go_sem,simprocAttr,hxs_2,hxs_3,hxs_1]; exact Is.mk) (by simp only [go_sem,simprocAttr,hxs_2,hxs_3,hxs_1]; exact Is.mk) (by simp only [go_sem,simprocAttr,hxs_2,hxs_3,hxs_1]; exact Is.mk) (by simp only [go_sem,simprocAttr,hxs_2,hxs_3,hxs_1]; exact Is.mk) (by simp only [go_sem,simprocAttr,hxs_2,hxs_3,hxs_1]) (by simp only [go_sem,simprocAttr,hxs_2,hxs_3,hxs_1]; exact Is.mk) ?cont13
  simp only [go_sem,simprocAttr,hxs_2,hxs_3,hxs_1]
  try refine ⟨sd,?_⟩
  refine Dr.of_br (Br.callR (av:=?av14) (g:=true) (o:=?o14) [] (fun hg=>ze5  _ hr_21) (by simp only [go_sem,simprocAttr,hxs_2,hxs_3,hxs_1]; exact Is.mk) (by simp only [go_sem,simprocAttr,hxs_2,hxs_3,hxs_1]; exact Is.mk) (by simp only [go_sem,simprocAttr,hxs_2,hxs_3,hxs_1]; exact Is.mk) (by simp only [go_sem,simprocAttr,hxs_2,hxs_3,hxs_1]; exact Is.mk) (by simp only [go_sem,simprocAttr,hxs_2,hxs_3,hxs_1]; exact Is.mk) (by simp only [go_sem,simprocAttr,hxs_2,hxs_3,hxs_1]) (by simp only [go_sem,simprocAttr,hxs_2,hxs_3,hxs_1]) (by simp only [go_sem,simprocAttr,hxs_2,hxs_3,hxs_1]) ?hag14 ?cont14)
  case hag14=>first | (simp only [go_sem,simprocAttr,hxs_2,hxs_3,hxs_1]; done) | (simp only [go_sem,simprocAttr,hxs_2,hxs_3,hxs_1]; exact sd)
  simp only [go_sem,simprocAttr,hxs_2,hxs_3,hxs_1]
  try refine ⟨sd,?_⟩
  refine Dr.callF (av:=?av15) (g:=true) (o:=?o15) (fun hg=>zdg r_21 s_3 _ hr_16) (by simp only [go_sem,simprocAttr,hxs_2,hxs_3,hxs_1]; exact Is.mk) (by simp only [go_sem,simprocAttr,hxs_2,hxs_3,hxs_1]; exact Is.mk) (by simp only [go_sem,simprocAttr,hxs_2,hxs_3,hxs_1]; exact Is.mk) (by simp only [go_sem,simprocAttr,hxs_2,hxs_3,hxs_1]; exact Is.mk) (by simp only [go_sem,simprocAttr,hxs_2,hxs_3,hxs_1]) (by simp only [go_sem,simprocAttr,hxs_2,hxs_3,hxs_1]; exact Is.mk) ?cont15
  simp only [go_sem,simprocAttr,hxs_2,hxs_3,hxs_1]
  refine kA hK12 ?_
  obtain ⟨s_4,hbs_4,hxs_4,hys_4,hm⟩:=zZ hm
  replace hxs_4:∀ d,(List.map ecS r_11).getD 5 d=ecS s_4:=hxs_4 ecS
  obtain ⟨r_17,hr_17,hm⟩:=zb hm
  refine Wp.seqR fun K16 hK16=>?_
  simp only [go_sem,simprocAttr,hxs_2,hxs_3,hxs_1,hxs_4]
  try refine ⟨sd,?_⟩
  refine Rg.callX (av:=?av17) (g:=true) (fun hg=>zex s_4 _ hr_17) (by simp only [go_sem,simprocAttr,hxs_2,hxs_3,hxs_1,hxs_4]; exact Is.mk) (by simp only [go_sem,simprocAttr,hxs_2,hxs_3,hxs_1,hxs_4]; exact Is.mk) (by simp only [go_sem,simprocAttr,hxs_2,hxs_3,hxs_1,hxs_4]; exact Is.mk) (by simp only [go_sem,simprocAttr,hxs_2,hxs_3,hxs_1,hxs_4]) (by simp only [go_sem,simprocAttr,hxs_2,hxs_3,hxs_1,hxs_4]; exact Is.mk) ?cont17
  intro hv17
  simp only [go_sem,simprocAttr,hxs_2,hxs_3,hxs_1,hxs_4]
  refine kA hK16 ?_
  refine Wp.seqR fun K18 hK18=>?_
  simp only [go_sem,simprocAttr,hxs_2,hxs_3,hxs_1,hxs_4]
  refine kA hK18 ?_
  obtain ⟨s_5,hbs_5,hxs_5,hys_5,hm⟩:=zZ hm
  replace hxs_5:∀ d,(List.map ecS r_11).getD 6 d=ecS s_5:=hxs_5 ecS
  obtain ⟨r_18,hr_18,hm⟩:=zb hm
  refine Wp.seqR fun K19 hK19=>?_
  simp only [go_sem,simprocAttr,hxs_2,hxs_3,hxs_1,hxs_4,hxs_5]
  try refine ⟨sd,?_⟩
  refine Rg.callX (av:=?av20) (g:=true) (fun hg=>ok_R_Unquote s_5 _ hr_18) (by simp only [go_sem,simprocAttr,hxs_2,hxs_3,hxs_1,hxs_4,hxs_5]; exact Is.mk) (by simp only [go_sem,simprocAttr,hxs_2,hxs_3,hxs_1,hxs_4,hxs_5]; exact Is.mk) (by simp only [go_sem,simprocAttr,hxs_2,hxs_3,hxs_1,hxs_4,hxs_5]; exact Is.mk) (by simp only [go_sem,simprocAttr,hxs_2,hxs_3,hxs_1,hxs_4,hxs_5]) (by simp only [go_sem,simprocAttr,hxs_2,hxs_3,hxs_1,hxs_4,hxs_5]; exact Is.mk) ?cont20
  intro hv20
  simp only [go_sem,simprocAttr,hxs_2,hxs_3,hxs_1,hxs_4,hxs_5]
  refine kA hK19 ?_
  refine Wp.seqR fun K21 hK21=>?_
  simp only [go_sem,simprocAttr,hxs_2,hxs_3,hxs_1,hxs_4,hxs_5]
  refine kA hK21 ?_
  refine Wp.seqR fun K22 hK22=>?_
  simp only [go_sem,simprocAttr,hxs_2,hxs_3,hxs_1,hxs_4,hxs_5]
  refine kA hK22 ?_
  refine Wp.seqW fun K23 hK23 hW23=>?_
  obtain ⟨k_19,hk_19,hm⟩:=zk hm
  have hcut23:∀ s,k_19 s=some z→K23 [(2,.ptr 0 0),(4,.fn 93 []),(6,.ptr 1 0),(11,.p (.b s.1))] [.cells 30 [.p (.i .i64 0),.p (.i .i64 0),.p (.s []),.p (.i .i64 0),.p (.i .i64 0),.p (.i .i64 0),.p (.s []),.p (.i .i64 0),.p (.i .i64 0),.p (.i .i64 0),.p (.s []),.p (.i .i64 0),.p (.s [])],.cells 30 [.p (.i .i64 r_15),.p (.i .i64 r_16),.p (.s s_1),.p (.i .i64 s.2.1),.p (.i .i64 s.2.2.1),.p (.i .i64 s.2.2.2.1),.p (.s s.2.2.2.2.1),.p (.i .i64 s.2.2.2.2.2.1),.p (.i .i64 s.2.2.2.2.2.2.1),.p (.i .i64 s.2.2.2.2.2.2.2.1),.p (.s s.2.2.2.2.2.2.2.2),.p (.i .i64 r_17),.p (.s r_18.1)]]:=by
   intro s hs
   have hm:=hk_19 _ hs
   clear hs
   obtain ⟨ok_34,o1_3_26,o1_4_27,o1_5_28,o1_6_29,o1_7_30,o1_8_31,o1_9_32,o1_10_33⟩:=s
   try dsimp only at hm
   try dsimp only
   refine hK23 _ _ ?_
   refine Wp.seqW fun K24 hK24 hW24=>?_
   refine Wp.seqR fun K25 hK25=>?_
   simp only [go_sem,simprocAttr,hxs_2,hxs_3,hxs_1,hxs_4,hxs_5]
   refine kA hK25 ?_
   refine cM hm (fun hc26 hm=>?_) (fun hc26 hm=>?_)
   ·obtain ⟨r_24,hr_24,hm⟩:=zb hm
    refine Wp.seqR fun K27 hK27=>?_
    simp only [go_sem,simprocAttr,hxs_2,hxs_3,hxs_1,hxs_4,hxs_5]
    try refine ⟨sd,?_⟩
    refine Rg.callX (av:=?av28) (g:=true) (fun hg=>zcX 8 _ hr_24) (by simp only [go_sem,simprocAttr,hxs_2,hxs_3,hxs_1,hxs_4,hxs_5]; exact Is.mk) (by simp only [go_sem,simprocAttr,hxs_2,hxs_3,hxs_1,hxs_4,hxs_5]; exact Is.mk) (by simp only [go_sem,simprocAttr,hxs_2,hxs_3,hxs_1,hxs_4,hxs_5]; exact Is.mk) (by simp only [go_sem,simprocAttr,hxs_2,hxs_3,hxs_1,hxs_4,hxs_5]) (by simp only [go_sem,simprocAttr,hxs_2,hxs_3,hxs_1,hxs_4,hxs_5]; exact Is.mk) ?cont28
    intro hv28
    simp only [go_sem,simprocAttr,hxs_2,hxs_3,hxs_1,hxs_4,hxs_5]
    refine kA hK27 ?_
    refine Wp.ret ?_
    refine zc ?_
    cases hm
    simp only [go_sem,simprocAttr,hxs_2,hxs_3,hxs_1,hxs_4,hxs_5]
    try exact se3
   ·refine Wp.skip ?_
    refine hK24 _ _ ?_
    refine Wp.seqW fun K29 hK29 hW29=>?_
    obtain ⟨r_22,hr_22,hm⟩:=zb hm
    refine Wp.seqR fun K30 hK30=>?_
    simp only [go_sem,simprocAttr,hxs_2,hxs_3,hxs_1,hxs_4,hxs_5]
    try refine ⟨sd,?_⟩
    refine Rg.callX (av:=?av31) (g:=true) (fun hg=>zcd (api_Record.mk r_15 r_16 s_1 (api_Version.mk o1_3_26 o1_4_27 o1_5_28 o1_6_29) (api_Version.mk o1_7_30 o1_8_31 o1_9_32 o1_10_33) r_17 r_18.1) _ hr_22) (by simp only [go_sem,simprocAttr,hxs_2,hxs_3,hxs_1,hxs_4,hxs_5]; exact Is.mk) (by simp only [go_sem,simprocAttr,hxs_2,hxs_3,hxs_1,hxs_4,hxs_5]; exact Is.mk) (by simp only [go_sem,simprocAttr,hxs_2,hxs_3,hxs_1,hxs_4,hxs_5]; exact Is.mk) (by simp only [go_sem,simprocAttr,hxs_2,hxs_3,hxs_1,hxs_4,hxs_5]) (by simp only [go_sem,simprocAttr,hxs_2,hxs_3,hxs_1,hxs_4,hxs_5]; exact Is.mk) ?cont31
    intro hv31
    simp only [go_sem,simprocAttr,hxs_2,hxs_3,hxs_1,hxs_4,hxs_5]
    refine kA hK30 ?_
    refine Wp.seqR fun K32 hK32=>?_
    simp only [go_sem,simprocAttr,hxs_2,hxs_3,hxs_1,hxs_4,hxs_5]
    refine kA hK32 ?_
    refine cM hm (fun hc33 hm=>?_) (fun hc33 hm=>?_)
    ·obtain ⟨r_25,hr_25,hm⟩:=zb hm
     refine Wp.seqR fun K34 hK34=>?_
     simp only [go_sem,simprocAttr,hxs_2,hxs_3,hxs_1,hxs_4,hxs_5]
     try refine ⟨sd,?_⟩
     refine Rg.callX (av:=?av35) (g:=true) (fun hg=>zcX r_22 _ hr_25) (by simp only [go_sem,simprocAttr,hxs_2,hxs_3,hxs_1,hxs_4,hxs_5]; exact Is.mk) (by simp only [go_sem,simprocAttr,hxs_2,hxs_3,hxs_1,hxs_4,hxs_5]; exact Is.mk) (by simp only [go_sem,simprocAttr,hxs_2,hxs_3,hxs_1,hxs_4,hxs_5]; exact Is.mk) (by simp only [go_sem,simprocAttr,hxs_2,hxs_3,hxs_1,hxs_4,hxs_5]) (by simp only [go_sem,simprocAttr,hxs_2,hxs_3,hxs_1,hxs_4,hxs_5]; exact Is.mk) ?cont35
     intro hv35
     simp only [go_sem,simprocAttr,hxs_2,hxs_3,hxs_1,hxs_4,hxs_5]
     refine kA hK34 ?_
     refine Wp.ret ?_
     refine zc ?_
     cases hm
     simp only [go_sem,simprocAttr,hxs_2,hxs_3,hxs_1,hxs_4,hxs_5]
     try exact se3
    ·refine Wp.skip ?_
     refine hK29 _ _ ?_
     refine Wp.seqR fun K36 hK36=>?_
     simp only [go_sem,simprocAttr,hxs_2,hxs_3,hxs_1,hxs_4,hxs_5]
     refine kA hK36 ?_
     refine Wp.ret ?_
     refine zc ?_
     cases hm
     simp only [go_sem,simprocAttr,hxs_2,hxs_3,hxs_1,hxs_4,hxs_5]
     try exact se3
  clear hK23 hk_19
  refine Wp.seqR fun K37 hK37=>?_
  simp only [go_sem,simprocAttr,hxs_2,hxs_3,hxs_1,hxs_4,hxs_5]
  refine kA hK37 ?_
  refine Wp.block ?_
  refine Wp.loopK 9 ?_
  simp only [WpL]
  refine Wp.seqR fun K38 hK38=>?_
  simp only [go_sem,simprocAttr,hxs_2,hxs_3,hxs_1,hxs_4,hxs_5]
  refine kA hK38 ?_
  refine Wp.seqW fun K39 hK39 hW39=>?_
  refine Wp.cond rfl ⟨⟩ (fun hc40=>?_) (fun hc40=>?_)
  rotate_left
  ·cases hc40
  refine Wp.skip ?_
  refine hK39 _ _ ?_
  refine Wp.seqW fun K41 hK41 hW41=>?_
  refine Wp.block ?_
  refine Wp.seqR fun K42 hK42=>?_
  simp only [go_sem,simprocAttr,hxs_2,hxs_3,hxs_1,hxs_4,hxs_5]
  refine kA hK42 ?_
  refine Wp.seqW fun K43 hK43 hW43=>?_
  obtain ⟨s_6,hbs_6,hxs_6,hys_6,hm⟩:=zZ hm
  replace hxs_6:∀ d,(List.map ecS r_11).getD 3 d=ecS s_6:=hxs_6 ecS
  refine Wp.seqR fun K44 hK44=>?_
  simp only [go_sem,simprocAttr,hxs_2,hxs_3,hxs_1,hxs_4,hxs_5,hxs_6]
  refine kA hK44 ?_
  refine cM hm (fun hc45 hm=>?_) (fun hc45 hm=>?_)
  ·refine Wp.exit ?_
   refine hK41 _ _ ?_
   refine Wp.region fun K46 hK46=>?_
   simp only [go_sem,simprocAttr,hxs_2,hxs_3,hxs_1,hxs_4,hxs_5,hxs_6]
   refine kA hK46 ?_
   simp only [zl,zi,↓reduceIte]
   try simp only [WpL]
   refine Wp.seqR fun K47 hK47=>?_
   simp only [go_sem,simprocAttr,hxs_2,hxs_3,hxs_1,hxs_4,hxs_5,hxs_6]
   refine kA hK47 ?_
   refine Wp.seqW fun K48 hK48 hW48=>?_
   refine Wp.cond rfl ⟨⟩ (fun hc49=>?_) (fun hc49=>?_)
   rotate_left
   ·cases hc49
   refine Wp.skip ?_
   refine hK48 _ _ ?_
   refine Wp.seqW fun K50 hK50 hW50=>?_
   refine Wp.block ?_
   refine Wp.seqR fun K51 hK51=>?_
   simp only [go_sem,simprocAttr,hxs_2,hxs_3,hxs_1,hxs_4,hxs_5,hxs_6]
   refine kA hK51 ?_
   refine Wp.seqW fun K52 hK52 hW52=>?_
   obtain ⟨s_7,hbs_7,hxs_7,hys_7,hm⟩:=zZ hm
   replace hxs_7:∀ d,(List.map ecS r_11).getD 4 d=ecS s_7:=hxs_7 ecS
   refine Wp.seqR fun K53 hK53=>?_
   simp only [go_sem,simprocAttr,hxs_2,hxs_3,hxs_1,hxs_4,hxs_5,hxs_6,hxs_7]
   refine kA hK53 ?_
   refine cM hm (fun hc54 hm=>?_) (fun hc54 hm=>?_)
   ·refine Wp.exit ?_
    refine hK50 _ _ ?_
    refine Wp.region fun K55 hK55=>?_
    simp only [go_sem,simprocAttr,hxs_2,hxs_3,hxs_1,hxs_4,hxs_5,hxs_6,hxs_7]
    refine kA hK55 ?_
    simp only [zl,zi,↓reduceIte]
    try simp only [WpL]
    refine Wp.seqR fun K56 hK56=>?_
    simp only [go_sem,simprocAttr,hxs_2,hxs_3,hxs_1,hxs_4,hxs_5,hxs_6,hxs_7]
    refine kA hK56 ?_
    refine Wp.seqW fun K57 hK57 hW57=>?_
    refine Wp.cond rfl ⟨⟩ (fun hc58=>?_) (fun hc58=>?_)
    ·cases hc58
    refine Wp.exit ?_
    refine hW23 _ _ _ _ ?_ (hcut23 (((((decide (0≤r_15)) && (decide (0 < r_16))) && (decide (0≤r_17))) && (decide (r_18.2=0))),0,0,0,[],0,0,0,[]) hm)
    simp only [go_sem,simprocAttr,hxs_2,hxs_3,hxs_1,hxs_4,hxs_5,hxs_6,hxs_7]
    try exact se3
   ·refine Wp.skip ?_
    refine hK52 _ _ ?_
    obtain ⟨r_12,hr_12,hm⟩:=zb hm
    refine Wp.seqR fun K59 hK59=>?_
    simp only [go_sem,simprocAttr,hxs_2,hxs_3,hxs_1,hxs_4,hxs_5,hxs_6,hxs_7]
    try refine ⟨sd,?_⟩
    refine Rg.callX (av:=?av60) (g:=true) (fun hg=>zce s_7 _ hr_12) (by simp only [go_sem,simprocAttr,hxs_2,hxs_3,hxs_1,hxs_4,hxs_5,hxs_6,hxs_7]; exact Is.mk) (by simp only [go_sem,simprocAttr,hxs_2,hxs_3,hxs_1,hxs_4,hxs_5,hxs_6,hxs_7]; exact Is.mk) (by simp only [go_sem,simprocAttr,hxs_2,hxs_3,hxs_1,hxs_4,hxs_5,hxs_6,hxs_7]; exact Is.mk) (by simp only [go_sem,simprocAttr,hxs_2,hxs_3,hxs_1,hxs_4,hxs_5,hxs_6,hxs_7]) (by simp only [go_sem,simprocAttr,hxs_2,hxs_3,hxs_1,hxs_4,hxs_5,hxs_6,hxs_7]; exact Is.mk) ?cont60
    intro hv60
    simp only [go_sem,simprocAttr,hxs_2,hxs_3,hxs_1,hxs_4,hxs_5,hxs_6,hxs_7]
    refine kA hK59 ?_
    refine Wp.seqW fun K61 hK61 hW61=>?_
    refine Wp.seqR fun K62 hK62=>?_
    simp only [go_sem,simprocAttr,hxs_2,hxs_3,hxs_1,hxs_4,hxs_5,hxs_6,hxs_7]
    refine kA hK62 ?_
    refine cM hm (fun hc63 hm=>?_) (fun hc63 hm=>?_)
    ·refine Wp.region fun K64 hK64=>?_
     simp only [go_sem,simprocAttr,hxs_2,hxs_3,hxs_1,hxs_4,hxs_5,hxs_6,hxs_7]
     refine kA hK64 ?_
     refine hK61 _ _ ?_
     refine Wp.region fun K65 hK65=>?_
     simp only [go_sem,simprocAttr,hxs_2,hxs_3,hxs_1,hxs_4,hxs_5,hxs_6,hxs_7]
     refine kA hK65 ?_
     refine hK50 _ _ ?_
     refine Wp.region fun K66 hK66=>?_
     simp only [go_sem,simprocAttr,hxs_2,hxs_3,hxs_1,hxs_4,hxs_5,hxs_6,hxs_7]
     refine kA hK66 ?_
     simp only [zl,zi,↓reduceIte]
     try simp only [WpL]
     refine Wp.seqR fun K67 hK67=>?_
     simp only [go_sem,simprocAttr,hxs_2,hxs_3,hxs_1,hxs_4,hxs_5,hxs_6,hxs_7]
     refine kA hK67 ?_
     refine Wp.seqW fun K68 hK68 hW68=>?_
     refine Wp.cond rfl ⟨⟩ (fun hc69=>?_) (fun hc69=>?_)
     ·cases hc69
     refine Wp.exit ?_
     refine hW23 _ _ _ _ ?_ (hcut23 (false,0,0,0,[],r_12.1.Major,r_12.1.Minor,r_12.1.Patch,r_12.1.Early) hm)
     simp only [go_sem,simprocAttr,hxs_2,hxs_3,hxs_1,hxs_4,hxs_5,hxs_6,hxs_7]
     try exact se3
    ·refine Wp.skip ?_
     refine hK61 _ _ ?_
     refine Wp.region fun K70 hK70=>?_
     simp only [go_sem,simprocAttr,hxs_2,hxs_3,hxs_1,hxs_4,hxs_5,hxs_6,hxs_7]
     refine kA hK70 ?_
     refine hK50 _ _ ?_
     refine Wp.region fun K71 hK71=>?_
     simp only [go_sem,simprocAttr,hxs_2,hxs_3,hxs_1,hxs_4,hxs_5,hxs_6,hxs_7]
     refine kA hK71 ?_
     simp only [zl,zi,↓reduceIte]
     try simp only [WpL]
     refine Wp.seqR fun K72 hK72=>?_
     simp only [go_sem,simprocAttr,hxs_2,hxs_3,hxs_1,hxs_4,hxs_5,hxs_6,hxs_7]
     refine kA hK72 ?_
     refine Wp.seqW fun K73 hK73 hW73=>?_
     refine Wp.cond rfl ⟨⟩ (fun hc74=>?_) (fun hc74=>?_)
     ·cases hc74
     refine Wp.exit ?_
     refine hW23 _ _ _ _ ?_ (hcut23 (((((decide (0≤r_15)) && (decide (0 < r_16))) && (decide (0≤r_17))) && (decide (r_18.2=0))),0,0,0,[],r_12.1.Major,r_12.1.Minor,r_12.1.Patch,r_12.1.Early) hm)
     simp only [go_sem,simprocAttr,hxs_2,hxs_3,hxs_1,hxs_4,hxs_5,hxs_6,hxs_7]
     try exact se3
  ·refine Wp.skip ?_
   refine hK43 _ _ ?_
   obtain ⟨r_10,hr_10,hm⟩:=zb hm
   refine Wp.seqR fun K75 hK75=>?_
   simp only [go_sem,simprocAttr,hxs_2,hxs_3,hxs_1,hxs_4,hxs_5,hxs_6]
   try refine ⟨sd,?_⟩
   refine Rg.callX (av:=?av76) (g:=true) (fun hg=>zce s_6 _ hr_10) (by simp only [go_sem,simprocAttr,hxs_2,hxs_3,hxs_1,hxs_4,hxs_5,hxs_6]; exact Is.mk) (by simp only [go_sem,simprocAttr,hxs_2,hxs_3,hxs_1,hxs_4,hxs_5,hxs_6]; exact Is.mk) (by simp only [go_sem,simprocAttr,hxs_2,hxs_3,hxs_1,hxs_4,hxs_5,hxs_6]; exact Is.mk) (by simp only [go_sem,simprocAttr,hxs_2,hxs_3,hxs_1,hxs_4,hxs_5,hxs_6]) (by simp only [go_sem,simprocAttr,hxs_2,hxs_3,hxs_1,hxs_4,hxs_5,hxs_6]; exact Is.mk) ?cont76
   intro hv76
   simp only [go_sem,simprocAttr,hxs_2,hxs_3,hxs_1,hxs_4,hxs_5,hxs_6]
   refine kA hK75 ?_
   refine Wp.seqW fun K77 hK77 hW77=>?_
   refine Wp.seqR fun K78 hK78=>?_
   simp only [go_sem,simprocAttr,hxs_2,hxs_3,hxs_1,hxs_4,hxs_5,hxs_6]
   refine kA hK78 ?_
   refine cM hm (fun hc79 hm=>?_) (fun hc79 hm=>?_)
   ·refine Wp.region fun K80 hK80=>?_
    simp only [go_sem,simprocAttr,hxs_2,hxs_3,hxs_1,hxs_4,hxs_5,hxs_6]
    refine kA hK80 ?_
    refine hK77 _ _ ?_
    refine Wp.region fun K81 hK81=>?_
    simp only [go_sem,simprocAttr,hxs_2,hxs_3,hxs_1,hxs_4,hxs_5,hxs_6]
    refine kA hK81 ?_
    refine hK41 _ _ ?_
    refine Wp.region fun K82 hK82=>?_
    simp only [go_sem,simprocAttr,hxs_2,hxs_3,hxs_1,hxs_4,hxs_5,hxs_6]
    refine kA hK82 ?_
    simp only [zl,zi,↓reduceIte]
    try simp only [WpL]
    refine Wp.seqR fun K83 hK83=>?_
    simp only [go_sem,simprocAttr,hxs_2,hxs_3,hxs_1,hxs_4,hxs_5,hxs_6]
    refine kA hK83 ?_
    refine Wp.seqW fun K84 hK84 hW84=>?_
    refine Wp.cond rfl ⟨⟩ (fun hc85=>?_) (fun hc85=>?_)
    rotate_left
    ·cases hc85
    refine Wp.skip ?_
    refine hK84 _ _ ?_
    refine Wp.seqW fun K86 hK86 hW86=>?_
    refine Wp.block ?_
    refine Wp.seqR fun K87 hK87=>?_
    simp only [go_sem,simprocAttr,hxs_2,hxs_3,hxs_1,hxs_4,hxs_5,hxs_6]
    refine kA hK87 ?_
    refine Wp.seqW fun K88 hK88 hW88=>?_
    obtain ⟨s_8,hbs_8,hxs_8,hys_8,hm⟩:=zZ hm
    replace hxs_8:∀ d,(List.map ecS r_11).getD 4 d=ecS s_8:=hxs_8 ecS
    refine Wp.seqR fun K89 hK89=>?_
    simp only [go_sem,simprocAttr,hxs_2,hxs_3,hxs_1,hxs_4,hxs_5,hxs_6,hxs_8]
    refine kA hK89 ?_
    refine cM hm (fun hc90 hm=>?_) (fun hc90 hm=>?_)
    ·refine Wp.exit ?_
     refine hK86 _ _ ?_
     refine Wp.region fun K91 hK91=>?_
     simp only [go_sem,simprocAttr,hxs_2,hxs_3,hxs_1,hxs_4,hxs_5,hxs_6,hxs_8]
     refine kA hK91 ?_
     simp only [zl,zi,↓reduceIte]
     try simp only [WpL]
     refine Wp.seqR fun K92 hK92=>?_
     simp only [go_sem,simprocAttr,hxs_2,hxs_3,hxs_1,hxs_4,hxs_5,hxs_6,hxs_8]
     refine kA hK92 ?_
     refine Wp.seqW fun K93 hK93 hW93=>?_
     refine Wp.cond rfl ⟨⟩ (fun hc94=>?_) (fun hc94=>?_)
     ·cases hc94
     refine Wp.exit ?_
     refine hW23 _ _ _ _ ?_ (hcut23 (false,r_10.1.Major,r_10.1.Minor,r_10.1.Patch,r_10.1.Early,0,0,0,[]) hm)
     simp only [go_sem,simprocAttr,hxs_2,hxs_3,hxs_1,hxs_4,hxs_5,hxs_6,hxs_8]
     try exact se3
    ·refine Wp.skip ?_
     refine hK88 _ _ ?_
     obtain ⟨r_13,hr_13,hm⟩:=zb hm
     refine Wp.seqR fun K95 hK95=>?_
     simp only [go_sem,simprocAttr,hxs_2,hxs_3,hxs_1,hxs_4,hxs_5,hxs_6,hxs_8]
     try refine ⟨sd,?_⟩
     refine Rg.callX (av:=?av96) (g:=true) (fun hg=>zce s_8 _ hr_13) (by simp only [go_sem,simprocAttr,hxs_2,hxs_3,hxs_1,hxs_4,hxs_5,hxs_6,hxs_8]; exact Is.mk) (by simp only [go_sem,simprocAttr,hxs_2,hxs_3,hxs_1,hxs_4,hxs_5,hxs_6,hxs_8]; exact Is.mk) (by simp only [go_sem,simprocAttr,hxs_2,hxs_3,hxs_1,hxs_4,hxs_5,hxs_6,hxs_8]; exact Is.mk) (by simp only [go_sem,simprocAttr,hxs_2,hxs_3,hxs_1,hxs_4,hxs_5,hxs_6,hxs_8]) (by simp only [go_sem,simprocAttr,hxs_2,hxs_3,hxs_1,hxs_4,hxs_5,hxs_6,hxs_8]; exact Is.mk) ?cont96
     intro hv96
     simp only [go_sem,simprocAttr,hxs_2,hxs_3,hxs_1,hxs_4,hxs_5,hxs_6,hxs_8]
     refine kA hK95 ?_
     refine Wp.seqW fun K97 hK97 hW97=>?_
     refine Wp.seqR fun K98 hK98=>?_
     simp only [go_sem,simprocAttr,hxs_2,hxs_3,hxs_1,hxs_4,hxs_5,hxs_6,hxs_8]
     refine kA hK98 ?_
     refine cM hm (fun hc99 hm=>?_) (fun hc99 hm=>?_)
     ·refine Wp.region fun K100 hK100=>?_
      simp only [go_sem,simprocAttr,hxs_2,hxs_3,hxs_1,hxs_4,hxs_5,hxs_6,hxs_8]
      refine kA hK100 ?_
      refine hK97 _ _ ?_
      refine Wp.region fun K101 hK101=>?_
      simp only [go_sem,simprocAttr,hxs_2,hxs_3,hxs_1,hxs_4,hxs_5,hxs_6,hxs_8]
      refine kA hK101 ?_
      refine hK86 _ _ ?_
      refine Wp.region fun K102 hK102=>?_
      simp only [go_sem,simprocAttr,hxs_2,hxs_3,hxs_1,hxs_4,hxs_5,hxs_6,hxs_8]
      refine kA hK102 ?_
      simp only [zl,zi,↓reduceIte]
      try simp only [WpL]
      refine Wp.seqR fun K103 hK103=>?_
      simp only [go_sem,simprocAttr,hxs_2,hxs_3,hxs_1,hxs_4,hxs_5,hxs_6,hxs_8]
      refine kA hK103 ?_
      refine Wp.seqW fun K104 hK104 hW104=>?_
      refine Wp.cond rfl ⟨⟩ (fun hc105=>?_) (fun hc105=>?_)
      ·cases hc105
      refine Wp.exit ?_
      refine hW23 _ _ _ _ ?_ (hcut23 (false,r_10.1.Major,r_10.1.Minor,r_10.1.Patch,r_10.1.Early,r_13.1.Major,r_13.1.Minor,r_13.1.Patch,r_13.1.Early) hm)
      simp only [go_sem,simprocAttr,hxs_2,hxs_3,hxs_1,hxs_4,hxs_5,hxs_6,hxs_8]
      try exact se3
     ·refine Wp.skip ?_
      refine hK97 _ _ ?_
      refine Wp.region fun K106 hK106=>?_
      simp only [go_sem,simprocAttr,hxs_2,hxs_3,hxs_1,hxs_4,hxs_5,hxs_6,hxs_8]
      refine kA hK106 ?_
      refine hK86 _ _ ?_
      refine Wp.region fun K107 hK107=>?_
      simp only [go_sem,simprocAttr,hxs_2,hxs_3,hxs_1,hxs_4,hxs_5,hxs_6,hxs_8]
      refine kA hK107 ?_
      simp only [zl,zi,↓reduceIte]
      try simp only [WpL]
      refine Wp.seqR fun K108 hK108=>?_
      simp only [go_sem,simprocAttr,hxs_2,hxs_3,hxs_1,hxs_4,hxs_5,hxs_6,hxs_8]
      refine kA hK108 ?_
      refine Wp.seqW fun K109 hK109 hW109=>?_
      refine Wp.cond rfl ⟨⟩ (fun hc110=>?_) (fun hc110=>?_)
      ·cases hc110
      refine Wp.exit ?_
      refine hW23 _ _ _ _ ?_ (hcut23 (false,r_10.1.Major,r_10.1.Minor,r_10.1.Patch,r_10.1.Early,r_13.1.Major,r_13.1.Minor,r_13.1.Patch,r_13.1.Early) hm)
      simp only [go_sem,simprocAttr,hxs_2,hxs_3,hxs_1,hxs_4,hxs_5,hxs_6,hxs_8]
      try exact se3
   ·refine Wp.skip ?_
    refine hK77 _ _ ?_
    refine Wp.region fun K111 hK111=>?_
    simp only [go_sem,simprocAttr,hxs_2,hxs_3,hxs_1,hxs_4,hxs_5,hxs_6]
    refine kA hK111 ?_
    refine hK41 _ _ ?_
    refine Wp.region fun K112 hK112=>?_
    simp only [go_sem,simprocAttr,hxs_2,hxs_3,hxs_1,hxs_4,hxs_5,hxs_6]
    refine kA hK112 ?_
    simp only [zl,zi,↓reduceIte]
    try simp only [WpL]
    refine Wp.seqR fun K113 hK113=>?_
    simp only [go_sem,simprocAttr,hxs_2,hxs_3,hxs_1,hxs_4,hxs_5,hxs_6]
    refine kA hK113 ?_
    refine Wp.seqW fun K114 hK114 hW114=>?_
    refine Wp.cond rfl ⟨⟩ (fun hc115=>?_) (fun hc115=>?_)
    rotate_left
    ·cases hc115
    refine Wp.skip ?_
    refine hK114 _ _ ?_
    refine Wp.seqW fun K116 hK116 hW116=>?_
    refine Wp.block ?_
    refine Wp.seqR fun K117 hK117=>?_
    simp only [go_sem,simprocAttr,hxs_2,hxs_3,hxs_1,hxs_4,hxs_5,hxs_6]
    refine kA hK117 ?_
    refine Wp.seqW fun K118 hK118 hW118=>?_
    obtain ⟨s_9,hbs_9,hxs_9,hys_9,hm⟩:=zZ hm
    replace hxs_9:∀ d,(List.map ecS r_11).getD 4 d=ecS s_9:=hxs_9 ecS
    refine Wp.seqR fun K119 hK119=>?_
    simp only [go_sem,simprocAttr,hxs_2,hxs_3,hxs_1,hxs_4,hxs_5,hxs_6,hxs_9]
    refine kA hK119 ?_
    refine cM hm (fun hc120 hm=>?_) (fun hc120 hm=>?_)
    ·refine Wp.exit ?_
     refine hK116 _ _ ?_
     refine Wp.region fun K121 hK121=>?_
     simp only [go_sem,simprocAttr,hxs_2,hxs_3,hxs_1,hxs_4,hxs_5,hxs_6,hxs_9]
     refine kA hK121 ?_
     simp only [zl,zi,↓reduceIte]
     try simp only [WpL]
     refine Wp.seqR fun K122 hK122=>?_
     simp only [go_sem,simprocAttr,hxs_2,hxs_3,hxs_1,hxs_4,hxs_5,hxs_6,hxs_9]
     refine kA hK122 ?_
     refine Wp.seqW fun K123 hK123 hW123=>?_
     refine Wp.cond rfl ⟨⟩ (fun hc124=>?_) (fun hc124=>?_)
     ·cases hc124
     refine Wp.exit ?_
     refine hW23 _ _ _ _ ?_ (hcut23 (((((decide (0≤r_15)) && (decide (0 < r_16))) && (decide (0≤r_17))) && (decide (r_18.2=0))),r_10.1.Major,r_10.1.Minor,r_10.1.Patch,r_10.1.Early,0,0,0,[]) hm)
     simp only [go_sem,simprocAttr,hxs_2,hxs_3,hxs_1,hxs_4,hxs_5,hxs_6,hxs_9]
     try exact se3
    ·refine Wp.skip ?_
     refine hK118 _ _ ?_
     obtain ⟨r_14,hr_14,hm⟩:=zb hm
     refine Wp.seqR fun K125 hK125=>?_
     simp only [go_sem,simprocAttr,hxs_2,hxs_3,hxs_1,hxs_4,hxs_5,hxs_6,hxs_9]
     try refine ⟨sd,?_⟩
     refine Rg.callX (av:=?av126) (g:=true) (fun hg=>zce s_9 _ hr_14) (by simp only [go_sem,simprocAttr,hxs_2,hxs_3,hxs_1,hxs_4,hxs_5,hxs_6,hxs_9]; exact Is.mk) (by simp only [go_sem,simprocAttr,hxs_2,hxs_3,hxs_1,hxs_4,hxs_5,hxs_6,hxs_9]; exact Is.mk) (by simp only [go_sem,simprocAttr,hxs_2,hxs_3,hxs_1,hxs_4,hxs_5,hxs_6,hxs_9]; exact Is.mk) (by simp only [go_sem,simprocAttr,hxs_2,hxs_3,hxs_1,hxs_4,hxs_5,hxs_6,hxs_9]) (by simp only [go_sem,simprocAttr,hxs_2,hxs_3,hxs_1,hxs_4,hxs_5,hxs_6,hxs_9]; exact Is.mk) ?cont126
     intro hv126
     simp only [go_sem,simprocAttr,hxs_2,hxs_3,hxs_1,hxs_4,hxs_5,hxs_6,hxs_9]
     refine kA hK125 ?_
     refine Wp.seqW fun K127 hK127 hW127=>?_
     refine Wp.seqR fun K128 hK128=>?_
     simp only [go_sem,simprocAttr,hxs_2,hxs_3,hxs_1,hxs_4,hxs_5,hxs_6,hxs_9]
     refine kA hK128 ?_
     refine cM hm (fun hc129 hm=>?_) (fun hc129 hm=>?_)
     ·refine Wp.region fun K130 hK130=>?_
      simp only [go_sem,simprocAttr,hxs_2,hxs_3,hxs_1,hxs_4,hxs_5,hxs_6,hxs_9]
      refine kA hK130 ?_
      refine hK127 _ _ ?_
      refine Wp.region fun K131 hK131=>?_
      simp only [go_sem,simprocAttr,hxs_2,hxs_3,hxs_1,hxs_4,hxs_5,hxs_6,hxs_9]
      refine kA hK131 ?_
      refine hK116 _ _ ?_
      refine Wp.region fun K132 hK132=>?_
      simp only [go_sem,simprocAttr,hxs_2,hxs_3,hxs_1,hxs_4,hxs_5,hxs_6,hxs_9]
      refine kA hK132 ?_
      simp only [zl,zi,↓reduceIte]
      try simp only [WpL]
      refine Wp.seqR fun K133 hK133=>?_
      simp only [go_sem,simprocAttr,hxs_2,hxs_3,hxs_1,hxs_4,hxs_5,hxs_6,hxs_9]
      refine kA hK133 ?_
      refine Wp.seqW fun K134 hK134 hW134=>?_
      refine Wp.cond rfl ⟨⟩ (fun hc135=>?_) (fun hc135=>?_)
      ·cases hc135
      refine Wp.exit ?_
      refine hW23 _ _ _ _ ?_ (hcut23 (false,r_10.1.Major,r_10.1.Minor,r_10.1.Patch,r_10.1.Early,r_14.1.Major,r_14.1.Minor,r_14.1.Patch,r_14.1.Early) hm)
      simp only [go_sem,simprocAttr,hxs_2,hxs_3,hxs_1,hxs_4,hxs_5,hxs_6,hxs_9]
      try exact se3
     ·refine Wp.skip ?_
      refine hK127 _ _ ?_
      refine Wp.region fun K136 hK136=>?_
      simp only [go_sem,simprocAttr,hxs_2,hxs_3,hxs_1,hxs_4,hxs_5,hxs_6,hxs_9]
      refine kA hK136 ?_
      refine hK116 _ _ ?_
      refine Wp.region fun K137 hK137=>?_
      simp only [go_sem,simprocAttr,hxs_2,hxs_3,hxs_1,hxs_4,hxs_5,hxs_6,hxs_9]
      refine kA hK137 ?_
      simp only [zl,zi,↓reduceIte]
      try simp only [WpL]
      refine Wp.seqR fun K138 hK138=>?_
      simp only [go_sem,simprocAttr,hxs_2,hxs_3,hxs_1,hxs_4,hxs_5,hxs_6,hxs_9]
      refine kA hK138 ?_
      refine Wp.seqW fun K139 hK139 hW139=>?_
      refine Wp.cond rfl ⟨⟩ (fun hc140=>?_) (fun hc140=>?_)
      ·cases hc140
      refine Wp.exit ?_
      refine hW23 _ _ _ _ ?_ (hcut23 (((((decide (0≤r_15)) && (decide (0 < r_16))) && (decide (0≤r_17))) && (decide (r_18.2=0))),r_10.1.Major,r_10.1.Minor,r_10.1.Patch,r_10.1.Early,r_14.1.Major,r_14.1.Minor,r_14.1.Patch,r_14.1.Early) hm)
      simp only [go_sem,simprocAttr,hxs_2,hxs_3,hxs_1,hxs_4,hxs_5,hxs_6,hxs_9]
      try exact se3
end Go.Proofs.YtmnohdgjkcjdeaaGreatDoor
