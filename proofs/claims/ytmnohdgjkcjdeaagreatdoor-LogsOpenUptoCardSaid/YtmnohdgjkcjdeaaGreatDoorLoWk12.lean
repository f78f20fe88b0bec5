/- That the code does what the models say (part 12). -/
import Derived.Test.YtmnohdgjkcjdeaaGreatDoorLoWk0
import Derived.Test.YtmnohdgjkcjdeaaGreatDoorLoWk2
import Derived.Test.YtmnohdgjkcjdeaaGreatDoorLoWk4
import Derived.Test.YtmnohdgjkcjdeaaGreatDoorLoWk6
import Derived.Test.YtmnohdgjkcjdeaaGreatDoorLoWk10
import Derived.Test.YtmnohdgjkcjdeaaGreatDoorLoWk11
set_option linter.unusedSimpArgs false
set_option linter.unusedVariables false
open Go.Proofs Go.Shelf
namespace Go.Proofs.YtmnohdgjkcjdeaaGreatDoor
open Go.Vc Go.Md
set_option maxRecDepth 100000
set_option maxHeartbeats 4000000
theorem ok_R_ReadRecord (s_1:Str) (z:api_Record × Int) (hm:zbP s_1=some z):Does Tryz.prog 52 [.p (.s s_1)] [] (fun r X=>r=.tup [.agg [.p (.i .i64 z.1.Time),.p (.i .i64 z.1.Kind),.p (.s z.1.Pack),.p (.i .i64 z.1.From.Major),.p (.i .i64 z.1.From.Minor),.p (.i .i64 z.1.From.Patch),.p (.s z.1.From.Early),.p (.i .i64 z.1.To.Major),.p (.i .i64 z.1.To.Minor),.p (.i .i64 z.1.To.Patch),.p (.s z.1.To.Early),.p (.i .i64 z.1.Result),.p (.s z.1.Note)],.p (.i .i64 z.2)]∧X=[]):=by
 unfold zbP at hm
 refine dW 0 125 [.cell 2 30,.tmp 3] Tryz.func52 fun B=>?_
 refine qS ?_
 refine qS ?_
 obtain ⟨r_2,hr_2,hm⟩:=zb hm
 refine Wp.seqR fun K3 hK3=>?_
 simp only [go_sem,simprocAttr]
 try refine ⟨sd,?_⟩
 refine Rg.callF (av:=?av4) (zeq s_1 ([32]:Str) 7 _ hr_2) si si sg ?cont4
 intro hv4
 simp only [go_sem,simprocAttr]
 refine kA hK3 ?_
 refine Wp.seqW fun K5 hK5 hW5=>?_
 refine qS ?_
 refine cM hm (fun hc7 hm=>?_) (fun hc7 hm=>?_)
 ·obtain ⟨r_3,hr_3,hm⟩:=zb hm
  refine Wp.seqR fun K8 hK8=>?_
  simp only [go_sem,simprocAttr]
  try refine ⟨sd,?_⟩
  refine Rg.callX (av:=?av9) (g:=true) (fun hg=>zcT 8 _ hr_3) si si si sg si ?cont9
  intro hv9
  simp only [go_sem,simprocAttr]
  refine kA hK8 ?_
  refine Wp.ret ?_
  refine zc ?_
  cases hm
  exact zm
 ·refine Wp.skip ?_
  refine hK5 _ _ ?_
  refine qS ?_
  refine qS ?_
  obtain ⟨s_7,hbs_7,hxs_7,hys_7,hm⟩:=zU hm
  replace hxs_7:∀ d,(List.map ecS r_2).getD 0 d=ecS s_7:=hxs_7 ecS
  obtain ⟨r_8,hr_8,hm⟩:=zb hm
  obtain ⟨s_9,hbs_9,hxs_9,hys_9,hm⟩:=zU hm
  replace hxs_9:∀ d,(List.map ecS r_2).getD 1 d=ecS s_9:=hxs_9 ecS
  obtain ⟨s_10,hbs_10,hxs_10,hys_10,hm⟩:=zU hm
  replace hxs_10:∀ d,(List.map ecS r_2).getD 2 d=ecS s_10:=hxs_10 ecS
  obtain ⟨r_11,hr_11,hm⟩:=zb hm
  obtain ⟨r_12,hr_12,hm⟩:=zb hm
  refine Wp.seqD (plan:=pl [(0,none),(1,none),(2,none),(3,none),(4,none),(6,none),(7,none),(8,none),(10,none),(11,none),(12,none),(5,some [6,7,8,10,11,12]),(9,none),(13,none),(14,some []),(15,none),(16,some []),(17,none),(18,some [])]) (by kernel_rfl) rfl (by kernel_rfl) fun K12 hK12=>?_
  simp only [go_sem,simprocAttr,hxs_7,hxs_9,hxs_10]
  try refine ⟨sd,?_⟩
  refine Dr.callF (av:=?av13) (g:=true) (o:=?o13) (fun hg=>zev s_7 _ hr_8) (by simp only [go_sem,simprocAttr,hxs_7,hxs_9,hxs_10]; exact Is.mk) (by simp only [go_sem,simprocAttr,hxs_7,hxs_9,hxs_10]; exact Is.mk) (by simp only [go_sem,simprocAttr,hxs_7,hxs_9,hxs_10]; exact Is.mk) (by simp only [go_sem,simprocAttr,hxs_7,hxs_9,hxs_10]; exact Is.mk) (by simp only [go_sem,simprocAttr,hxs_7,hxs_9,hxs_10]) (by simp only [go_sem,simprocAttr,hxs_7,hxs_9,hxs_10]; exact Is.mk) ?cont13
  simp only [go_sem,simprocAttr,hxs_7,hxs_9,hxs_10]
  try refine ⟨sd,?_⟩
  refine Dr.of_br (Br.callR (av:=?av14) (g:=true) (o:=?o14) [] (fun hg=>ok_R_recordWords  _ hr_11) (by simp only [go_sem,simprocAttr,hxs_7,hxs_9,hxs_10]; exact Is.mk) (by simp only [go_sem,simprocAttr,hxs_7,hxs_9,hxs_10]; exact Is.mk) (by simp only [go_sem,simprocAttr,hxs_7,hxs_9,hxs_10]; exact Is.mk) (by simp only [go_sem,simprocAttr,hxs_7,hxs_9,hxs_10]; exact Is.mk) (by simp only [go_sem,simprocAttr,hxs_7,hxs_9,hxs_10]; exact Is.mk) (by simp only [go_sem,simprocAttr,hxs_7,hxs_9,hxs_10]) (by simp only [go_sem,simprocAttr,hxs_7,hxs_9,hxs_10]) (by simp only [go_sem,simprocAttr,hxs_7,hxs_9,hxs_10]) ?hag14 ?cont14)
  case hag14=>first | (simp only [go_sem,simprocAttr,hxs_7,hxs_9,hxs_10]; done) | (simp only [go_sem,simprocAttr,hxs_7,hxs_9,hxs_10]; exact sd)
  simp only [go_sem,simprocAttr,hxs_7,hxs_9,hxs_10]
  try refine ⟨sd,?_⟩
  refine Dr.callF (av:=?av15) (g:=true) (o:=?o15) (fun hg=>zdf r_11 s_9 _ hr_12) (by simp only [go_sem,simprocAttr,hxs_7,hxs_9,hxs_10]; exact Is.mk) (by simp only [go_sem,simprocAttr,hxs_7,hxs_9,hxs_10]; exact Is.mk) (by simp only [go_sem,simprocAttr,hxs_7,hxs_9,hxs_10]; exact Is.mk) (by simp only [go_sem,simprocAttr,hxs_7,hxs_9,hxs_10]; exact Is.mk) (by simp only [go_sem,simprocAttr,hxs_7,hxs_9,hxs_10]) (by simp only [go_sem,simprocAttr,hxs_7,hxs_9,hxs_10]; exact Is.mk) ?cont15
  simp only [go_sem,simprocAttr,hxs_7,hxs_9,hxs_10]
  refine kA hK12 ?_
  obtain ⟨s_13,hbs_13,hxs_13,hys_13,hm⟩:=zU hm
  replace hxs_13:∀ d,(List.map ecS r_2).getD 5 d=ecS s_13:=hxs_13 ecS
  obtain ⟨r_14,hr_14,hm⟩:=zb hm
  refine Wp.seqR fun K16 hK16=>?_
  simp only [go_sem,simprocAttr,hxs_7,hxs_9,hxs_10,hxs_13]
  try refine ⟨sd,?_⟩
  refine Rg.callX (av:=?av17) (g:=true) (fun hg=>zev s_13 _ hr_14) (by simp only [go_sem,simprocAttr,hxs_7,hxs_9,hxs_10,hxs_13]; exact Is.mk) (by simp only [go_sem,simprocAttr,hxs_7,hxs_9,hxs_10,hxs_13]; exact Is.mk) (by simp only [go_sem,simprocAttr,hxs_7,hxs_9,hxs_10,hxs_13]; exact Is.mk) (by simp only [go_sem,simprocAttr,hxs_7,hxs_9,hxs_10,hxs_13]) (by simp only [go_sem,simprocAttr,hxs_7,hxs_9,hxs_10,hxs_13]; exact Is.mk) ?cont17
  intro hv17
  simp only [go_sem,simprocAttr,hxs_7,hxs_9,hxs_10,hxs_13]
  refine kA hK16 ?_
  refine Wp.seqR fun K18 hK18=>?_
  simp only [go_sem,simprocAttr,hxs_7,hxs_9,hxs_10,hxs_13]
  refine kA hK18 ?_
  obtain ⟨s_15,hbs_15,hxs_15,hys_15,hm⟩:=zU hm
  replace hxs_15:∀ d,(List.map ecS r_2).getD 6 d=ecS s_15:=hxs_15 ecS
  obtain ⟨r_16,hr_16,hm⟩:=zb hm
  refine Wp.seqR fun K19 hK19=>?_
  simp only [go_sem,simprocAttr,hxs_7,hxs_9,hxs_10,hxs_13,hxs_15]
  try refine ⟨sd,?_⟩
  refine Rg.callX (av:=?av20) (g:=true) (fun hg=>ok_R_Unquote s_15 _ hr_16) (by simp only [go_sem,simprocAttr,hxs_7,hxs_9,hxs_10,hxs_13,hxs_15]; exact Is.mk) (by simp only [go_sem,simprocAttr,hxs_7,hxs_9,hxs_10,hxs_13,hxs_15]; exact Is.mk) (by simp only [go_sem,simprocAttr,hxs_7,hxs_9,hxs_10,hxs_13,hxs_15]; exact Is.mk) (by simp only [go_sem,simprocAttr,hxs_7,hxs_9,hxs_10,hxs_13,hxs_15]) (by simp only [go_sem,simprocAttr,hxs_7,hxs_9,hxs_10,hxs_13,hxs_15]; exact Is.mk) ?cont20
  intro hv20
  simp only [go_sem,simprocAttr,hxs_7,hxs_9,hxs_10,hxs_13,hxs_15]
  refine kA hK19 ?_
  refine Wp.seqR fun K21 hK21=>?_
  simp only [go_sem,simprocAttr,hxs_7,hxs_9,hxs_10,hxs_13,hxs_15]
  refine kA hK21 ?_
  refine Wp.seqR fun K22 hK22=>?_
  simp only [go_sem,simprocAttr,hxs_7,hxs_9,hxs_10,hxs_13,hxs_15]
  refine kA hK22 ?_
  refine Wp.seqW fun K23 hK23 hW23=>?_
  obtain ⟨k_34,hk_34,hm⟩:=zl hm
  have hcut23:∀ s,k_34 s=some z→K23 [(2,.ptr 0 0),(4,.fn 93 []),(6,.ptr 1 0),(11,.p (.b s.1))] [.cells 30 [.p (.i .i64 0),.p (.i .i64 0),.p (.s []),.p (.i .i64 0),.p (.i .i64 0),.p (.i .i64 0),.p (.s []),.p (.i .i64 0),.p (.i .i64 0),.p (.i .i64 0),.p (.s []),.p (.i .i64 0),.p (.s [])],.cells 30 [.p (.i .i64 r_8),.p (.i .i64 r_12),.p (.s s_10),.p (.i .i64 s.2.1),.p (.i .i64 s.2.2.1),.p (.i .i64 s.2.2.2.1),.p (.s s.2.2.2.2.1),.p (.i .i64 s.2.2.2.2.2.1),.p (.i .i64 s.2.2.2.2.2.2.1),.p (.i .i64 s.2.2.2.2.2.2.2.1),.p (.s s.2.2.2.2.2.2.2.2),.p (.i .i64 r_14),.p (.s r_16.1)]]:=by
   intro s hs
   have hm:=hk_34 _ hs
   clear hs
   obtain ⟨ok_25,o1_3_26,o1_4_27,o1_5_28,o1_6_29,o1_7_30,o1_8_31,o1_9_32,o1_10_33⟩:=s
   try dsimp only at hm
   try dsimp only
   refine hK23 _ _ ?_
   refine Wp.seqW fun K24 hK24 hW24=>?_
   refine Wp.seqR fun K25 hK25=>?_
   simp only [go_sem,simprocAttr,hxs_7,hxs_9,hxs_10,hxs_13,hxs_15]
   refine kA hK25 ?_
   refine cM hm (fun hc26 hm=>?_) (fun hc26 hm=>?_)
   ·obtain ⟨r_35,hr_35,hm⟩:=zb hm
    refine Wp.seqR fun K27 hK27=>?_
    simp only [go_sem,simprocAttr,hxs_7,hxs_9,hxs_10,hxs_13,hxs_15]
    try refine ⟨sd,?_⟩
    refine Rg.callX (av:=?av28) (g:=true) (fun hg=>zcT 8 _ hr_35) (by simp only [go_sem,simprocAttr,hxs_7,hxs_9,hxs_10,hxs_13,hxs_15]; exact Is.mk) (by simp only [go_sem,simprocAttr,hxs_7,hxs_9,hxs_10,hxs_13,hxs_15]; exact Is.mk) (by simp only [go_sem,simprocAttr,hxs_7,hxs_9,hxs_10,hxs_13,hxs_15]; exact Is.mk) (by simp only [go_sem,simprocAttr,hxs_7,hxs_9,hxs_10,hxs_13,hxs_15]) (by simp only [go_sem,simprocAttr,hxs_7,hxs_9,hxs_10,hxs_13,hxs_15]; exact Is.mk) ?cont28
    intro hv28
    simp only [go_sem,simprocAttr,hxs_7,hxs_9,hxs_10,hxs_13,hxs_15]
    refine kA hK27 ?_
    refine Wp.ret ?_
    refine zc ?_
    cases hm
    simp only [go_sem,simprocAttr,hxs_7,hxs_9,hxs_10,hxs_13,hxs_15]
    try exact se3
   ·refine Wp.skip ?_
    refine hK24 _ _ ?_
    refine Wp.seqW fun K29 hK29 hW29=>?_
    obtain ⟨r_36,hr_36,hm⟩:=zb hm
    refine Wp.seqR fun K30 hK30=>?_
    simp only [go_sem,simprocAttr,hxs_7,hxs_9,hxs_10,hxs_13,hxs_15]
    try refine ⟨sd,?_⟩
    refine Rg.callX (av:=?av31) (g:=true) (fun hg=>zcc (api_Record.mk r_8 r_12 s_10 (api_Version.mk o1_3_26 o1_4_27 o1_5_28 o1_6_29) (api_Version.mk o1_7_30 o1_8_31 o1_9_32 o1_10_33) r_14 r_16.1) _ hr_36) (by simp only [go_sem,simprocAttr,hxs_7,hxs_9,hxs_10,hxs_13,hxs_15]; exact Is.mk) (by simp only [go_sem,simprocAttr,hxs_7,hxs_9,hxs_10,hxs_13,hxs_15]; exact Is.mk) (by simp only [go_sem,simprocAttr,hxs_7,hxs_9,hxs_10,hxs_13,hxs_15]; exact Is.mk) (by simp only [go_sem,simprocAttr,hxs_7,hxs_9,hxs_10,hxs_13,hxs_15]) (by simp only [go_sem,simprocAttr,hxs_7,hxs_9,hxs_10,hxs_13,hxs_15]; exact Is.mk) ?cont31
    intro hv31
    simp only [go_sem,simprocAttr,hxs_7,hxs_9,hxs_10,hxs_13,hxs_15]
    refine kA hK30 ?_
    refine Wp.seqR fun K32 hK32=>?_
    simp only [go_sem,simprocAttr,hxs_7,hxs_9,hxs_10,hxs_13,hxs_15]
    refine kA hK32 ?_
    refine cM hm (fun hc33 hm=>?_) (fun hc33 hm=>?_)
    ·obtain ⟨r_37,hr_37,hm⟩:=zb hm
     refine Wp.seqR fun K34 hK34=>?_
     simp only [go_sem,simprocAttr,hxs_7,hxs_9,hxs_10,hxs_13,hxs_15]
     try refine ⟨sd,?_⟩
     refine Rg.callX (av:=?av35) (g:=true) (fun hg=>zcT r_36 _ hr_37) (by simp only [go_sem,simprocAttr,hxs_7,hxs_9,hxs_10,hxs_13,hxs_15]; exact Is.mk) (by simp only [go_sem,simprocAttr,hxs_7,hxs_9,hxs_10,hxs_13,hxs_15]; exact Is.mk) (by simp only [go_sem,simprocAttr,hxs_7,hxs_9,hxs_10,hxs_13,hxs_15]; exact Is.mk) (by simp only [go_sem,simprocAttr,hxs_7,hxs_9,hxs_10,hxs_13,hxs_15]) (by simp only [go_sem,simprocAttr,hxs_7,hxs_9,hxs_10,hxs_13,hxs_15]; exact Is.mk) ?cont35
     intro hv35
     simp only [go_sem,simprocAttr,hxs_7,hxs_9,hxs_10,hxs_13,hxs_15]
     refine kA hK34 ?_
     refine Wp.ret ?_
     refine zc ?_
     cases hm
     simp only [go_sem,simprocAttr,hxs_7,hxs_9,hxs_10,hxs_13,hxs_15]
     try exact se3
    ·refine Wp.skip ?_
     refine hK29 _ _ ?_
     refine Wp.seqR fun K36 hK36=>?_
     simp only [go_sem,simprocAttr,hxs_7,hxs_9,hxs_10,hxs_13,hxs_15]
     refine kA hK36 ?_
     refine Wp.ret ?_
     refine zc ?_
     cases hm
     simp only [go_sem,simprocAttr,hxs_7,hxs_9,hxs_10,hxs_13,hxs_15]
     try exact se3
  clear hK23 hk_34
  refine Wp.seqR fun K37 hK37=>?_
  simp only [go_sem,simprocAttr,hxs_7,hxs_9,hxs_10,hxs_13,hxs_15]
  refine kA hK37 ?_
  refine Wp.block ?_
  refine Wp.loopK 9 ?_
  simp only [WpL]
  refine Wp.seqR fun K38 hK38=>?_
  simp only [go_sem,simprocAttr,hxs_7,hxs_9,hxs_10,hxs_13,hxs_15]
  refine kA hK38 ?_
  refine Wp.seqW fun K39 hK39 hW39=>?_
  refine Wp.cond rfl ⟨⟩ (fun hc40=>?_) (fun hc40=>?_)
  rotate_left
  ·cases hc40
  refine Wp.skip ?_
  refine hK39 _ _ ?_
  refine Wp.seqW fun K41 hK41 hW41=>?_
  refine Wp.block ?_
  refine Wp.seqR fun K42 hK42=>?_
  simp only [go_sem,simprocAttr,hxs_7,hxs_9,hxs_10,hxs_13,hxs_15]
  refine kA hK42 ?_
  refine Wp.seqW fun K43 hK43 hW43=>?_
  obtain ⟨s_38,hbs_38,hxs_38,hys_38,hm⟩:=zU hm
  replace hxs_38:∀ d,(List.map ecS r_2).getD 3 d=ecS s_38:=hxs_38 ecS
  refine Wp.seqR fun K44 hK44=>?_
  simp only [go_sem,simprocAttr,hxs_7,hxs_9,hxs_10,hxs_13,hxs_15,hxs_38]
  refine kA hK44 ?_
  refine cM hm (fun hc45 hm=>?_) (fun hc45 hm=>?_)
  ·refine Wp.exit ?_
   refine hK41 _ _ ?_
   refine Wp.region fun K46 hK46=>?_
   simp only [go_sem,simprocAttr,hxs_7,hxs_9,hxs_10,hxs_13,hxs_15,hxs_38]
   refine kA hK46 ?_
   simp only [zk,zi,↓reduceIte]
   try simp only [WpL]
   refine Wp.seqR fun K47 hK47=>?_
   simp only [go_sem,simprocAttr,hxs_7,hxs_9,hxs_10,hxs_13,hxs_15,hxs_38]
   refine kA hK47 ?_
   refine Wp.seqW fun K48 hK48 hW48=>?_
   refine Wp.cond rfl ⟨⟩ (fun hc49=>?_) (fun hc49=>?_)
   rotate_left
   ·cases hc49
   refine Wp.skip ?_
   refine hK48 _ _ ?_
   refine Wp.seqW fun K50 hK50 hW50=>?_
   refine Wp.block ?_
   refine Wp.seqR fun K51 hK51=>?_
   simp only [go_sem,simprocAttr,hxs_7,hxs_9,hxs_10,hxs_13,hxs_15,hxs_38]
   refine kA hK51 ?_
   refine Wp.seqW fun K52 hK52 hW52=>?_
   obtain ⟨s_39,hbs_39,hxs_39,hys_39,hm⟩:=zU hm
   replace hxs_39:∀ d,(List.map ecS r_2).getD 4 d=ecS s_39:=hxs_39 ecS
   refine Wp.seqR fun K53 hK53=>?_
   simp only [go_sem,simprocAttr,hxs_7,hxs_9,hxs_10,hxs_13,hxs_15,hxs_38,hxs_39]
   refine kA hK53 ?_
   refine cM hm (fun hc54 hm=>?_) (fun hc54 hm=>?_)
   ·refine Wp.exit ?_
    refine hK50 _ _ ?_
    refine Wp.region fun K55 hK55=>?_
    simp only [go_sem,simprocAttr,hxs_7,hxs_9,hxs_10,hxs_13,hxs_15,hxs_38,hxs_39]
    refine kA hK55 ?_
    simp only [zk,zi,↓reduceIte]
    try simp only [WpL]
    refine Wp.seqR fun K56 hK56=>?_
    simp only [go_sem,simprocAttr,hxs_7,hxs_9,hxs_10,hxs_13,hxs_15,hxs_38,hxs_39]
    refine kA hK56 ?_
    refine Wp.seqW fun K57 hK57 hW57=>?_
    refine Wp.cond rfl ⟨⟩ (fun hc58=>?_) (fun hc58=>?_)
    ·cases hc58
    refine Wp.exit ?_
    refine hW23 _ _ _ _ ?_ (hcut23 (((((decide (0≤r_8)) && (decide (0 < r_12))) && (decide (0≤r_14))) && (decide (r_16.2=0))),0,0,0,[],0,0,0,[]) hm)
    simp only [go_sem,simprocAttr,hxs_7,hxs_9,hxs_10,hxs_13,hxs_15,hxs_38,hxs_39]
    try exact se3
   ·refine Wp.skip ?_
    refine hK52 _ _ ?_
    obtain ⟨r_40,hr_40,hm⟩:=zb hm
    refine Wp.seqR fun K59 hK59=>?_
    simp only [go_sem,simprocAttr,hxs_7,hxs_9,hxs_10,hxs_13,hxs_15,hxs_38,hxs_39]
    try refine ⟨sd,?_⟩
    refine Rg.callX (av:=?av60) (g:=true) (fun hg=>zcd s_39 _ hr_40) (by simp only [go_sem,simprocAttr,hxs_7,hxs_9,hxs_10,hxs_13,hxs_15,hxs_38,hxs_39]; exact Is.mk) (by simp only [go_sem,simprocAttr,hxs_7,hxs_9,hxs_10,hxs_13,hxs_15,hxs_38,hxs_39]; exact Is.mk) (by simp only [go_sem,simprocAttr,hxs_7,hxs_9,hxs_10,hxs_13,hxs_15,hxs_38,hxs_39]; exact Is.mk) (by simp only [go_sem,simprocAttr,hxs_7,hxs_9,hxs_10,hxs_13,hxs_15,hxs_38,hxs_39]) (by simp only [go_sem,simprocAttr,hxs_7,hxs_9,hxs_10,hxs_13,hxs_15,hxs_38,hxs_39]; exact Is.mk) ?cont60
    intro hv60
    simp only [go_sem,simprocAttr,hxs_7,hxs_9,hxs_10,hxs_13,hxs_15,hxs_38,hxs_39]
    refine kA hK59 ?_
    refine Wp.seqW fun K61 hK61 hW61=>?_
    refine Wp.seqR fun K62 hK62=>?_
    simp only [go_sem,simprocAttr,hxs_7,hxs_9,hxs_10,hxs_13,hxs_15,hxs_38,hxs_39]
    refine kA hK62 ?_
    refine cM hm (fun hc63 hm=>?_) (fun hc63 hm=>?_)
    ·refine Wp.region fun K64 hK64=>?_
     simp only [go_sem,simprocAttr,hxs_7,hxs_9,hxs_10,hxs_13,hxs_15,hxs_38,hxs_39]
     refine kA hK64 ?_
     refine hK61 _ _ ?_
     refine Wp.region fun K65 hK65=>?_
     simp only [go_sem,simprocAttr,hxs_7,hxs_9,hxs_10,hxs_13,hxs_15,hxs_38,hxs_39]
     refine kA hK65 ?_
     refine hK50 _ _ ?_
     refine Wp.region fun K66 hK66=>?_
     simp only [go_sem,simprocAttr,hxs_7,hxs_9,hxs_10,hxs_13,hxs_15,hxs_38,hxs_39]
     refine kA hK66 ?_
     simp only [zk,zi,↓reduceIte]
     try simp only [WpL]
     refine Wp.seqR fun K67 hK67=>?_
     simp only [go_sem,simprocAttr,hxs_7,hxs_9,hxs_10,hxs_13,hxs_15,hxs_38,hxs_39]
     refine kA hK67 ?_
     refine Wp.seqW fun K68 hK68 hW68=>?_
     refine Wp.cond rfl ⟨⟩ (fun hc69=>?_) (fun hc69=>?_)
     ·cases hc69
     refine Wp.exit ?_
     refine hW23 _ _ _ _ ?_ (hcut23 (false,0,0,0,[],r_40.1.Major,r_40.1.Minor,r_40.1.Patch,r_40.1.Early) hm)
     simp only [go_sem,simprocAttr,hxs_7,hxs_9,hxs_10,hxs_13,hxs_15,hxs_38,hxs_39]
     try exact se3
    ·refine Wp.skip ?_
     refine hK61 _ _ ?_
     refine Wp.region fun K70 hK70=>?_
     simp only [go_sem,simprocAttr,hxs_7,hxs_9,hxs_10,hxs_13,hxs_15,hxs_38,hxs_39]
     refine kA hK70 ?_
     refine hK50 _ _ ?_
     refine Wp.region fun K71 hK71=>?_
     simp only [go_sem,simprocAttr,hxs_7,hxs_9,hxs_10,hxs_13,hxs_15,hxs_38,hxs_39]
     refine kA hK71 ?_
     simp only [zk,zi,↓reduceIte]
     try simp only [WpL]
     refine Wp.seqR fun K72 hK72=>?_
     simp only [go_sem,simprocAttr,hxs_7,hxs_9,hxs_10,hxs_13,hxs_15,hxs_38,hxs_39]
     refine kA hK72 ?_
     refine Wp.seqW fun K73 hK73 hW73=>?_
     refine Wp.cond rfl ⟨⟩ (fun hc74=>?_) (fun hc74=>?_)
     ·cases hc74
     refine Wp.exit ?_
     refine hW23 _ _ _ _ ?_ (hcut23 (((((decide (0≤r_8)) && (decide (0 < r_12))) && (decide (0≤r_14))) && (decide (r_16.2=0))),0,0,0,[],r_40.1.Major,r_40.1.Minor,r_40.1.Patch,r_40.1.Early) hm)
     simp only [go_sem,simprocAttr,hxs_7,hxs_9,hxs_10,hxs_13,hxs_15,hxs_38,hxs_39]
     try exact se3
  ·refine Wp.skip ?_
   refine hK43 _ _ ?_
   obtain ⟨r_41,hr_41,hm⟩:=zb hm
   refine Wp.seqR fun K75 hK75=>?_
   simp only [go_sem,simprocAttr,hxs_7,hxs_9,hxs_10,hxs_13,hxs_15,hxs_38]
   try refine ⟨sd,?_⟩
   refine Rg.callX (av:=?av76) (g:=true) (fun hg=>zcd s_38 _ hr_41) (by simp only [go_sem,simprocAttr,hxs_7,hxs_9,hxs_10,hxs_13,hxs_15,hxs_38]; exact Is.mk) (by simp only [go_sem,simprocAttr,hxs_7,hxs_9,hxs_10,hxs_13,hxs_15,hxs_38]; exact Is.mk) (by simp only [go_sem,simprocAttr,hxs_7,hxs_9,hxs_10,hxs_13,hxs_15,hxs_38]; exact Is.mk) (by simp only [go_sem,simprocAttr,hxs_7,hxs_9,hxs_10,hxs_13,hxs_15,hxs_38]) (by simp only [go_sem,simprocAttr,hxs_7,hxs_9,hxs_10,hxs_13,hxs_15,hxs_38]; exact Is.mk) ?cont76
   intro hv76
   simp only [go_sem,simprocAttr,hxs_7,hxs_9,hxs_10,hxs_13,hxs_15,hxs_38]
   refine kA hK75 ?_
   refine Wp.seqW fun K77 hK77 hW77=>?_
   refine Wp.seqR fun K78 hK78=>?_
   simp only [go_sem,simprocAttr,hxs_7,hxs_9,hxs_10,hxs_13,hxs_15,hxs_38]
   refine kA hK78 ?_
   refine cM hm (fun hc79 hm=>?_) (fun hc79 hm=>?_)
   ·refine Wp.region fun K80 hK80=>?_
    simp only [go_sem,simprocAttr,hxs_7,hxs_9,hxs_10,hxs_13,hxs_15,hxs_38]
    refine kA hK80 ?_
    refine hK77 _ _ ?_
    refine Wp.region fun K81 hK81=>?_
    simp only [go_sem,simprocAttr,hxs_7,hxs_9,hxs_10,hxs_13,hxs_15,hxs_38]
    refine kA hK81 ?_
    refine hK41 _ _ ?_
    refine Wp.region fun K82 hK82=>?_
    simp only [go_sem,simprocAttr,hxs_7,hxs_9,hxs_10,hxs_13,hxs_15,hxs_38]
    refine kA hK82 ?_
    simp only [zk,zi,↓reduceIte]
    try simp only [WpL]
    refine Wp.seqR fun K83 hK83=>?_
    simp only [go_sem,simprocAttr,hxs_7,hxs_9,hxs_10,hxs_13,hxs_15,hxs_38]
    refine kA hK83 ?_
    refine Wp.seqW fun K84 hK84 hW84=>?_
    refine Wp.cond rfl ⟨⟩ (fun hc85=>?_) (fun hc85=>?_)
    rotate_left
    ·cases hc85
    refine Wp.skip ?_
    refine hK84 _ _ ?_
    refine Wp.seqW fun K86 hK86 hW86=>?_
    refine Wp.block ?_
    refine Wp.seqR fun K87 hK87=>?_
    simp only [go_sem,simprocAttr,hxs_7,hxs_9,hxs_10,hxs_13,hxs_15,hxs_38]
    refine kA hK87 ?_
    refine Wp.seqW fun K88 hK88 hW88=>?_
    obtain ⟨s_42,hbs_42,hxs_42,hys_42,hm⟩:=zU hm
    replace hxs_42:∀ d,(List.map ecS r_2).getD 4 d=ecS s_42:=hxs_42 ecS
    refine Wp.seqR fun K89 hK89=>?_
    simp only [go_sem,simprocAttr,hxs_7,hxs_9,hxs_10,hxs_13,hxs_15,hxs_38,hxs_42]
    refine kA hK89 ?_
    refine cM hm (fun hc90 hm=>?_) (fun hc90 hm=>?_)
    ·refine Wp.exit ?_
     refine hK86 _ _ ?_
     refine Wp.region fun K91 hK91=>?_
     simp only [go_sem,simprocAttr,hxs_7,hxs_9,hxs_10,hxs_13,hxs_15,hxs_38,hxs_42]
     refine kA hK91 ?_
     simp only [zk,zi,↓reduceIte]
     try simp only [WpL]
     refine Wp.seqR fun K92 hK92=>?_
     simp only [go_sem,simprocAttr,hxs_7,hxs_9,hxs_10,hxs_13,hxs_15,hxs_38,hxs_42]
     refine kA hK92 ?_
     refine Wp.seqW fun K93 hK93 hW93=>?_
     refine Wp.cond rfl ⟨⟩ (fun hc94=>?_) (fun hc94=>?_)
     ·cases hc94
     refine Wp.exit ?_
     refine hW23 _ _ _ _ ?_ (hcut23 (false,r_41.1.Major,r_41.1.Minor,r_41.1.Patch,r_41.1.Early,0,0,0,[]) hm)
     simp only [go_sem,simprocAttr,hxs_7,hxs_9,hxs_10,hxs_13,hxs_15,hxs_38,hxs_42]
     try exact se3
    ·refine Wp.skip ?_
     refine hK88 _ _ ?_
     obtain ⟨r_43,hr_43,hm⟩:=zb hm
     refine Wp.seqR fun K95 hK95=>?_
     simp only [go_sem,simprocAttr,hxs_7,hxs_9,hxs_10,hxs_13,hxs_15,hxs_38,hxs_42]
     try refine ⟨sd,?_⟩
     refine Rg.callX (av:=?av96) (g:=true) (fun hg=>zcd s_42 _ hr_43) (by simp only [go_sem,simprocAttr,hxs_7,hxs_9,hxs_10,hxs_13,hxs_15,hxs_38,hxs_42]; exact Is.mk) (by simp only [go_sem,simprocAttr,hxs_7,hxs_9,hxs_10,hxs_13,hxs_15,hxs_38,hxs_42]; exact Is.mk) (by simp only [go_sem,simprocAttr,hxs_7,hxs_9,hxs_10,hxs_13,hxs_15,hxs_38,hxs_42]; exact Is.mk) (by simp only [go_sem,simprocAttr,hxs_7,hxs_9,hxs_10,hxs_13,hxs_15,hxs_38,hxs_42]) (by simp only [go_sem,simprocAttr,hxs_7,hxs_9,hxs_10,hxs_13,hxs_15,hxs_38,hxs_42]; exact Is.mk) ?cont96
     intro hv96
     simp only [go_sem,simprocAttr,hxs_7,hxs_9,hxs_10,hxs_13,hxs_15,hxs_38,hxs_42]
     refine kA hK95 ?_
     refine Wp.seqW fun K97 hK97 hW97=>?_
     refine Wp.seqR fun K98 hK98=>?_
     simp only [go_sem,simprocAttr,hxs_7,hxs_9,hxs_10,hxs_13,hxs_15,hxs_38,hxs_42]
     refine kA hK98 ?_
     refine cM hm (fun hc99 hm=>?_) (fun hc99 hm=>?_)
     ·refine Wp.region fun K100 hK100=>?_
      simp only [go_sem,simprocAttr,hxs_7,hxs_9,hxs_10,hxs_13,hxs_15,hxs_38,hxs_42]
      refine kA hK100 ?_
      refine hK97 _ _ ?_
      refine Wp.region fun K101 hK101=>?_
      simp only [go_sem,simprocAttr,hxs_7,hxs_9,hxs_10,hxs_13,hxs_15,hxs_38,hxs_42]
      refine kA hK101 ?_
      refine hK86 _ _ ?_
      refine Wp.region fun K102 hK102=>?_
      simp only [go_sem,simprocAttr,hxs_7,hxs_9,hxs_10,hxs_13,hxs_15,hxs_38,hxs_42]
      refine kA hK102 ?_
      simp only [zk,zi,↓reduceIte]
      try simp only [WpL]
      refine Wp.seqR fun K103 hK103=>?_
      simp only [go_sem,simprocAttr,hxs_7,hxs_9,hxs_10,hxs_13,hxs_15,hxs_38,hxs_42]
      refine kA hK103 ?_
      refine Wp.seqW fun K104 hK104 hW104=>?_
      refine Wp.cond rfl ⟨⟩ (fun hc105=>?_) (fun hc105=>?_)
      ·cases hc105
      refine Wp.exit ?_
      refine hW23 _ _ _ _ ?_ (hcut23 (false,r_41.1.Major,r_41.1.Minor,r_41.1.Patch,r_41.1.Early,r_43.1.Major,r_43.1.Minor,r_43.1.Patch,r_43.1.Early) hm)
      simp only [go_sem,simprocAttr,hxs_7,hxs_9,hxs_10,hxs_13,hxs_15,hxs_38,hxs_42]
      try exact se3
     ·refine Wp.skip ?_
      refine hK97 _ _ ?_
      refine Wp.region fun K106 hK106=>?_
      simp only [go_sem,simprocAttr,hxs_7,hxs_9,hxs_10,hxs_13,hxs_15,hxs_38,hxs_42]
      refine kA hK106 ?_
      refine hK86 _ _ ?_
      refine Wp.region fun K107 hK107=>?_
      simp only [go_sem,simprocAttr,hxs_7,hxs_9,hxs_10,hxs_13,hxs_15,hxs_38,hxs_42]
      refine kA hK107 ?_
      simp only [zk,zi,↓reduceIte]
      try simp only [WpL]
      refine Wp.seqR fun K108 hK108=>?_
      simp only [go_sem,simprocAttr,hxs_7,hxs_9,hxs_10,hxs_13,hxs_15,hxs_38,hxs_42]
      refine kA hK108 ?_
      refine Wp.seqW fun K109 hK109 hW109=>?_
      refine Wp.cond rfl ⟨⟩ (fun hc110=>?_) (fun hc110=>?_)
      ·cases hc110
      refine Wp.exit ?_
      refine hW23 _ _ _ _ ?_ (hcut23 (false,r_41.1.Major,r_41.1.Minor,r_41.1.Patch,r_41.1.Early,r_43.1.Major,r_43.1.Minor,r_43.1.Patch,r_43.1.Early) hm)
      simp only [go_sem,simprocAttr,hxs_7,hxs_9,hxs_10,hxs_13,hxs_15,hxs_38,hxs_42]
      try exact se3
   ·refine Wp.skip ?_
    refine hK77 _ _ ?_
    refine Wp.region fun K111 hK111=>?_
    simp only [go_sem,simprocAttr,hxs_7,hxs_9,hxs_10,hxs_13,hxs_15,hxs_38]
    refine kA hK111 ?_
    refine hK41 _ _ ?_
    refine Wp.region fun K112 hK112=>?_
    simp only [go_sem,simprocAttr,hxs_7,hxs_9,hxs_10,hxs_13,hxs_15,hxs_38]
    refine kA hK112 ?_
    simp only [zk,zi,↓reduceIte]
    try simp only [WpL]
    refine Wp.seqR fun K113 hK113=>?_
    simp only [go_sem,simprocAttr,hxs_7,hxs_9,hxs_10,hxs_13,hxs_15,hxs_38]
    refine kA hK113 ?_
    refine Wp.seqW fun K114 hK114 hW114=>?_
    refine Wp.cond rfl ⟨⟩ (fun hc115=>?_) (fun hc115=>?_)
    rotate_left
    ·cases hc115
    refine Wp.skip ?_
    refine hK114 _ _ ?_
    refine Wp.seqW fun K116 hK116 hW116=>?_
    refine Wp.block ?_
    refine Wp.seqR fun K117 hK117=>?_
    simp only [go_sem,simprocAttr,hxs_7,hxs_9,hxs_10,hxs_13,hxs_15,hxs_38]
    refine kA hK117 ?_
    refine Wp.seqW fun K118 hK118 hW118=>?_
    obtain ⟨s_44,hbs_44,hxs_44,hys_44,hm⟩:=zU hm
    replace hxs_44:∀ d,(List.map ecS r_2).getD 4 d=ecS s_44:=hxs_44 ecS
    refine Wp.seqR fun K119 hK119=>?_
    simp only [go_sem,simprocAttr,hxs_7,hxs_9,hxs_10,hxs_13,hxs_15,hxs_38,hxs_44]
    refine kA hK119 ?_
    refine cM hm (fun hc120 hm=>?_) (fun hc120 hm=>?_)
    ·refine Wp.exit ?_
     refine hK116 _ _ ?_
     refine Wp.region fun K121 hK121=>?_
     simp only [go_sem,simprocAttr,hxs_7,hxs_9,hxs_10,hxs_13,hxs_15,hxs_38,hxs_44]
     refine kA hK121 ?_
     simp only [zk,zi,↓reduceIte]
     try simp only [WpL]
     refine Wp.seqR fun K122 hK122=>?_
     simp only [go_sem,simprocAttr,hxs_7,hxs_9,hxs_10,hxs_13,hxs_15,hxs_38,hxs_44]
     refine kA hK122 ?_
     refine Wp.seqW fun K123 hK123 hW123=>?_
     refine Wp.cond rfl ⟨⟩ (fun hc124=>?_) (fun hc124=>?_)
     ·cases hc124
     refine Wp.exit ?_
     refine hW23 _ _ _ _ ?_ (hcut23 (((((decide (0≤r_8)) && (decide (0 < r_12))) && (decide (0≤r_14))) && (decide (r_16.2=0))),r_41.1.Major,r_41.1.Minor,r_41.1.Patch,r_41.1.Early,0,0,0,[]) hm)
     simp only [go_sem,simprocAttr,hxs_7,hxs_9,hxs_10,hxs_13,hxs_15,hxs_38,hxs_44]
     try exact se3
    ·refine Wp.skip ?_
     refine hK118 _ _ ?_
     obtain ⟨r_45,hr_45,hm⟩:=zb hm
     refine Wp.seqR fun K125 hK125=>?_
     simp only [go_sem,simprocAttr,hxs_7,hxs_9,hxs_10,hxs_13,hxs_15,hxs_38,hxs_44]
     try refine ⟨sd,?_⟩
     refine Rg.callX (av:=?av126) (g:=true) (fun hg=>zcd s_44 _ hr_45) (by simp only [go_sem,simprocAttr,hxs_7,hxs_9,hxs_10,hxs_13,hxs_15,hxs_38,hxs_44]; exact Is.mk) (by simp only [go_sem,simprocAttr,hxs_7,hxs_9,hxs_10,hxs_13,hxs_15,hxs_38,hxs_44]; exact Is.mk) (by simp only [go_sem,simprocAttr,hxs_7,hxs_9,hxs_10,hxs_13,hxs_15,hxs_38,hxs_44]; exact Is.mk) (by simp only [go_sem,simprocAttr,hxs_7,hxs_9,hxs_10,hxs_13,hxs_15,hxs_38,hxs_44]) (by simp only [go_sem,simprocAttr,hxs_7,hxs_9,hxs_10,hxs_13,hxs_15,hxs_38,hxs_44]; exact Is.mk) ?cont126
     intro hv126
     simp only [go_sem,simprocAttr,hxs_7,hxs_9,hxs_10,hxs_13,hxs_15,hxs_38,hxs_44]
     refine kA hK125 ?_
     refine Wp.seqW fun K127 hK127 hW127=>?_
     refine Wp.seqR fun K128 hK128=>?_
     simp only [go_sem,simprocAttr,hxs_7,hxs_9,hxs_10,hxs_13,hxs_15,hxs_38,hxs_44]
     refine kA hK128 ?_
     refine cM hm (fun hc129 hm=>?_) (fun hc129 hm=>?_)
     ·refine Wp.region fun K130 hK130=>?_
      simp only [go_sem,simprocAttr,hxs_7,hxs_9,hxs_10,hxs_13,hxs_15,hxs_38,hxs_44]
      refine kA hK130 ?_
      refine hK127 _ _ ?_
      refine Wp.region fun K131 hK131=>?_
      simp only [go_sem,simprocAttr,hxs_7,hxs_9,hxs_10,hxs_13,hxs_15,hxs_38,hxs_44]
      refine kA hK131 ?_
      refine hK116 _ _ ?_
      refine Wp.region fun K132 hK132=>?_
      simp only [go_sem,simprocAttr,hxs_7,hxs_9,hxs_10,hxs_13,hxs_15,hxs_38,hxs_44]
      refine kA hK132 ?_
      simp only [zk,zi,↓reduceIte]
      try simp only [WpL]
      refine Wp.seqR fun K133 hK133=>?_
      simp only [go_sem,simprocAttr,hxs_7,hxs_9,hxs_10,hxs_13,hxs_15,hxs_38,hxs_44]
      refine kA hK133 ?_
      refine Wp.seqW fun K134 hK134 hW134=>?_
      refine Wp.cond rfl ⟨⟩ (fun hc135=>?_) (fun hc135=>?_)
      ·cases hc135
      refine Wp.exit ?_
      refine hW23 _ _ _ _ ?_ (hcut23 (false,r_41.1.Major,r_41.1.Minor,r_41.1.Patch,r_41.1.Early,r_45.1.Major,r_45.1.Minor,r_45.1.Patch,r_45.1.Early) hm)
      simp only [go_sem,simprocAttr,hxs_7,hxs_9,hxs_10,hxs_13,hxs_15,hxs_38,hxs_44]
      try exact se3
     ·refine Wp.skip ?_
      refine hK127 _ _ ?_
      refine Wp.region fun K136 hK136=>?_
      simp only [go_sem,simprocAttr,hxs_7,hxs_9,hxs_10,hxs_13,hxs_15,hxs_38,hxs_44]
      refine kA hK136 ?_
      refine hK116 _ _ ?_
      refine Wp.region fun K137 hK137=>?_
      simp only [go_sem,simprocAttr,hxs_7,hxs_9,hxs_10,hxs_13,hxs_15,hxs_38,hxs_44]
      refine kA hK137 ?_
      simp only [zk,zi,↓reduceIte]
      try simp only [WpL]
      refine Wp.seqR fun K138 hK138=>?_
      simp only [go_sem,simprocAttr,hxs_7,hxs_9,hxs_10,hxs_13,hxs_15,hxs_38,hxs_44]
      refine kA hK138 ?_
      refine Wp.seqW fun K139 hK139 hW139=>?_
      refine Wp.cond rfl ⟨⟩ (fun hc140=>?_) (fun hc140=>?_)
      ·cases hc140
      refine Wp.exit ?_
      refine hW23 _ _ _ _ ?_ (hcut23 (((((decide (0≤r_8)) && (decide (0 < r_12))) && (decide (0≤r_14))) && (decide (r_16.2=0))),r_41.1.Major,r_41.1.Minor,r_41.1.Patch,r_41.1.Early,r_45.1.Major,r_45.1.Minor,r_45.1.Patch,r_45.1.Early) hm)
      simp only [go_sem,simprocAttr,hxs_7,hxs_9,hxs_10,hxs_13,hxs_15,hxs_38,hxs_44]
      try exact se3
end Go.Proofs.YtmnohdgjkcjdeaaGreatDoor
