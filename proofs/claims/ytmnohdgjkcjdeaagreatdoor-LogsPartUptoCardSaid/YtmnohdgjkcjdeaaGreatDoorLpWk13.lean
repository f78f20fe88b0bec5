/- That the code does what the models say (part 13). -/
import Derived.Test.YtmnohdgjkcjdeaaGreatDoorLpWk0
import Derived.Test.YtmnohdgjkcjdeaaGreatDoorLpWk2
import Derived.Test.YtmnohdgjkcjdeaaGreatDoorLpWk6
import Derived.Test.YtmnohdgjkcjdeaaGreatDoorLpWk10
import Derived.Test.YtmnohdgjkcjdeaaGreatDoorLpWk12
set_option linter.unusedSimpArgs false
set_option linter.unusedVariables false
open Go.Proofs Go.Shelf
namespace Go.Proofs.YtmnohdgjkcjdeaaGreatDoor
open Go.Vc Go.Md
set_option maxRecDepth 100000
set_option maxHeartbeats 4000000
theorem zhJ (text_32:Str) (z:List api_Record) (hm:zeF text_32=some z):Does Tryz.prog 20 [.p (.s text_32)] [] (fun r X=>r=.p (.l (List.map za z))∧X=[]):=by
 unfold zeF at hm
 refine dW 0 95 [.tmp 2] Tryz.func20 fun B=>?_
 refine qS ?_
 refine qS ?_
 refine qS ?_
 refine qS ?_
 obtain ⟨r_22,hr_22,hm⟩:=zb hm
 refine Wp.seqR fun K5 hK5=>?_
 simp only [go_sem,simprocAttr]
 try refine ⟨sd,?_⟩
 refine Rg.callF (av:=?av6) (zkU text_32 _ hr_22) si si sg ?cont6
 intro hv6
 simp only [go_sem,simprocAttr]
 refine kA hK5 ?_
 refine Wp.seqW fun K7 hK7 hW7=>?_
 obtain ⟨k_30,hk_30,hm⟩:=zk hm
 have hcut7:∀ s,k_30 s=some z→K7 [(3,.buf 1)] [.mp true (zcN Dt.s zF s.1),.buf 30 13 (List.map za s.2)]:=by
  intro s hs
  have hm:=hk_30 _ hs
  clear hs
  obtain ⟨m0_41,o1_42⟩:=s
  try dsimp only at hm
  try dsimp only
  refine hK7 _ _ ?_
  refine qS ?_
  refine Wp.ret ?_
  refine zc ?_
  cases hm
  exact zn
 clear hK7 hk_30
 refine qS ?_
 refine Wp.block ?_
 refine Wp.adopt 3 30 13 rfl ?_
 simp only [go_sem,simprocAttr]
 obtain ⟨k_31,hk_31,hm⟩:=zT hm
 refine Wp.fact 19 fun hl_33=>?_
 replace hl_33:r_22.1.length≤274877906944:=by
  simp only [go_sem,simprocAttr,List.length_map] at hl_33
  omega
 refine Wp.forL (fun i_25 s=>[(3,.buf 1),(4,.p (.s s.1)),(5,.mp 0),(7,.p (.i .i64 r_22.2)),(19,.p (.l (List.map ecS r_22.1))),(20,.p (.i .i64 (r_22.1.length:Int))),(21,.p (.i .i64 (i_25:Int)))]) (fun i_25 s=>[.mp true (zcN Dt.s zF s.2.1),.buf 30 13 (List.map za s.2.2)]) ?_ hm ?_
 ·
  exact zn
 clear hm
 intro i_25 s hii_25 hm
 obtain ⟨sum_28,m0_29,o1_5⟩:=s
 try dsimp only at hm
 try dsimp only
 refine qS ?_
 refine Wp.seqW fun K11 hK11 hW11=>?_
 refine Wp.cond rfl ⟨⟩ (fun hc11=>?_) (fun hc11=>?_)
 rotate_left
 ·refine Wp.exit ?_
  have hm:=hk_31 _ (zaf hm (zbc (by first | exact hc11 | simpa using hc11)))
  try dsimp only at hm
  refine hW7 _ _ _ _ ?_ (hcut7 (m0_29,o1_5) hm)
  exact zn
 have hlt11:=zbb (by first | exact hc11 | simpa using hc11)
 have hw11:=zR hlt11 hl_33
 obtain ⟨s_1,nx_37,hxs_1,hys_1,hnx_37,hm⟩:=zS hm hlt11
 replace hxs_1:=hxs_1 ecS
 refine Wp.skip ?_
 simp only [zl]
 refine hK11 _ _ ?_
 refine Wp.seqW fun K12 hK12 hW12=>?_
 refine Wp.block ?_
 refine Wp.seqR fun K13 hK13=>?_
 simp only [go_sem,simprocAttr,hw11,hxs_1]
 refine kA hK13 ?_
 obtain ⟨r_7,hr_7,hm⟩:=zb hm
 refine Wp.seqR fun K14 hK14=>?_
 simp only [go_sem,simprocAttr,hw11,hxs_1]
 try refine ⟨sd,?_⟩
 refine Rg.callX (av:=?av15) (g:=true) (fun hg=>zfT s_1 ([32]:Str) _ hr_7) (by simp only [go_sem,simprocAttr,hw11,hxs_1]; exact Is.mk) (by simp only [go_sem,simprocAttr,hw11,hxs_1]; exact Is.mk) (by simp only [go_sem,simprocAttr,hw11,hxs_1]; exact Is.mk) (by simp only [go_sem,simprocAttr,hw11,hxs_1]) (by simp only [go_sem,simprocAttr,hw11,hxs_1]; exact Is.mk) ?cont15
 intro hv15
 simp only [go_sem,simprocAttr,hw11,hxs_1]
 refine kA hK14 ?_
 refine Wp.seqW fun K16 hK16 hW16=>?_
 refine Wp.seqR fun K17 hK17=>?_
 simp only [go_sem,simprocAttr,hw11,hxs_1]
 refine kA hK17 ?_
 refine cM hm (fun hc18 hm=>?_) (fun hc18 hm=>?_)
 ·refine Wp.exit ?_
  simp only [zl,zi,↓reduceIte]
  have hm:=hk_31 _ hm
  try dsimp only at hm
  refine hW7 _ _ _ _ ?_ (hcut7 (m0_29,o1_5) hm)
  simp only [go_sem,simprocAttr,hw11,hxs_1]
  try exact se3
 ·refine Wp.skip ?_
  refine hK16 _ _ ?_
  obtain ⟨c_43,hm⟩:=zf hm
  obtain ⟨r_3,hr_3,hm⟩:=zb hm
  refine Wp.seqR fun K19 hK19=>?_
  simp only [go_sem,simprocAttr,hw11,hxs_1]
  try refine ⟨sL,?_⟩
  refine Rg.callX (av:=?av20) (g:=true) (fun hg=>ziT (List.take r_7.toNat s_1) _ hr_3) (by simp only [go_sem,simprocAttr,hw11,hxs_1]; exact Is.mk) (by simp only [go_sem,simprocAttr,hw11,hxs_1]; exact Is.mk) (by simp only [go_sem,simprocAttr,hw11,hxs_1]; exact Is.mk) (by simp only [go_sem,simprocAttr,hw11,hxs_1]) (by simp only [go_sem,simprocAttr,hw11,hxs_1]; exact Is.mk) ?cont20
  intro hv20
  simp only [go_sem,simprocAttr,hw11,hxs_1]
  refine kA hK19 ?_
  refine Wp.seqW fun K21 hK21 hW21=>?_
  obtain ⟨c_44,hm⟩:=zf hm
  obtain ⟨c_45,hm⟩:=zf hm
  obtain ⟨c_46,hm⟩:=zf hm
  obtain ⟨r_12,hr_12,hm⟩:=z7 hm
  obtain ⟨c_38,hm⟩:=zf hm
  obtain ⟨r_26,hr_26,hr_26d,hm⟩:=zgw hm
  refine Wp.seqDW (plan:=pl [(0,none),(1,none),(2,none),(3,none),(4,none),(5,none),(6,none),(7,none),(8,none),(9,none),(10,none),(11,none),(12,none),(13,none),(14,none),(15,none),(16,none),(17,none),(18,none),(19,none),(20,none),(21,none),(22,none),(23,none),(24,none),(25,none),(26,none),(27,none),(28,none),(29,none),(30,none),(31,none),(32,none),(33,none),(34,none),(35,some []),(36,none),(37,none)]) (by kernel_rfl) rfl (by kernel_rfl) fun K22 hK22 hW22=>?_
  suffices hcont22:K22 [(3,.buf 1),(4,.p (.s sum_28)),(5,.mp 0),(7,.p (.i .i64 r_22.2)),(8,.p (.i .i64 (i_25:Int))),(9,.p (.s s_1)),(10,.p (.i .i64 r_7)),(11,.ptr 2 0),(12,.p (.i .i64 r_3.2)),(19,.p (.l (List.map ecS r_22.1))),(20,.p (.i .i64 (r_22.1.length:Int))),(21,.p (.i .i64 (i_25:Int))),(22,.p (.b (decide ((i_25:Int) < (r_22.1.length:Int))))),(23,.p (.i .i64 (i_25:Int))),(24,.rp [.s s_1]),(25,.p (.s s_1)),(26,.p (.s s_1)),(27,.p (.i .i64 r_7)),(28,.p (.i .i64 (i_25:Int))),(29,.p (.i .i64 r_22.2)),(30,.p (.b (decide ((i_25:Int)=r_22.2)))),(31,.p (.b (decide ((i_25:Int)=r_22.2)))),(34,.p (.b ((decide ((i_25:Int)=r_22.2)) || (decide (r_7 < 0))))),(35,.p (.b ((decide ((i_25:Int)=r_22.2)) || (decide (r_7 < 0))))),(39,.p (.b (((decide ((i_25:Int)=r_22.2)) || (decide (r_7 < 0))) || (decide ((o1_5.length:Int)=5000))))),(40,.tup [.agg [.p (.i .i64 r_3.1.Time),.p (.i .i64 r_3.1.Kind),.p (.s r_3.1.Pack),.p (.i .i64 r_3.1.From.Major),.p (.i .i64 r_3.1.From.Minor),.p (.i .i64 r_3.1.From.Patch),.p (.s r_3.1.From.Early),.p (.i .i64 r_3.1.To.Major),.p (.i .i64 r_3.1.To.Minor),.p (.i .i64 r_3.1.To.Patch),.p (.s r_3.1.To.Early),.p (.i .i64 r_3.1.Result),.p (.s r_3.1.Note)],.p (.i .i64 r_3.2)]),(41,.p (.s s_1)),(42,.p (.i .i64 r_7)),(43,.p (.s (List.take r_7.toNat s_1))),(44,.tup [.agg [.p (.i .i64 r_3.1.Time),.p (.i .i64 r_3.1.Kind),.p (.s r_3.1.Pack),.p (.i .i64 r_3.1.From.Major),.p (.i .i64 r_3.1.From.Minor),.p (.i .i64 r_3.1.From.Patch),.p (.s r_3.1.From.Early),.p (.i .i64 r_3.1.To.Major),.p (.i .i64 r_3.1.To.Minor),.p (.i .i64 r_3.1.To.Patch),.p (.s r_3.1.To.Early),.p (.i .i64 r_3.1.Result),.p (.s r_3.1.Note)],.p (.i .i64 r_3.2)]),(45,.agg [.p (.i .i64 r_3.1.Time),.p (.i .i64 r_3.1.Kind),.p (.s r_3.1.Pack),.p (.i .i64 r_3.1.From.Major),.p (.i .i64 r_3.1.From.Minor),.p (.i .i64 r_3.1.From.Patch),.p (.s r_3.1.From.Early),.p (.i .i64 r_3.1.To.Major),.p (.i .i64 r_3.1.To.Minor),.p (.i .i64 r_3.1.To.Patch),.p (.s r_3.1.To.Early),.p (.i .i64 r_3.1.Result),.p (.s r_3.1.Note)]),(46,.p (.i .i64 r_3.2)),(84,.p (.b ((((!decide (r_3.2=0)) || (!decide ((List.drop ((IntKind.i64.wrap (r_7+1)).toNat) s_1)=r_12))) || ((decide (0 < (o1_5.length:Int))) && (decide (r_3.1.Time < ((o1_5.getD ((IntKind.i64.wrap ((o1_5.length:Int) - 1)).toNat) (api_Record.mk 0 0 [] (api_Version.mk 0 0 0 []) (api_Version.mk 0 0 0 []) 0 [])).Time))))) || (!r_26.1))))] [.mp true (zcN Dt.s zF r_26.2),.buf 30 13 (List.map za o1_5),.cells 30 [.p (.i .i64 r_3.1.Time),.p (.i .i64 r_3.1.Kind),.p (.s r_3.1.Pack),.p (.i .i64 r_3.1.From.Major),.p (.i .i64 r_3.1.From.Minor),.p (.i .i64 r_3.1.From.Patch),.p (.s r_3.1.From.Early),.p (.i .i64 r_3.1.To.Major),.p (.i .i64 r_3.1.To.Minor),.p (.i .i64 r_3.1.To.Patch),.p (.s r_3.1.To.Early),.p (.i .i64 r_3.1.Result),.p (.s r_3.1.Note)]] by
   rcases Bool.eq_false_or_eq_true (decide (r_3.2=0)) with hg_2 | hg_2
   ·
    rcases Bool.eq_false_or_eq_true (decide ((List.drop ((IntKind.i64.wrap (r_7+1)).toNat) s_1)=r_12)) with hg_4 | hg_4
    ·
     rcases Bool.eq_false_or_eq_true (decide (0 < (o1_5.length:Int))) with hg_6 | hg_6
     ·
      rcases Bool.eq_false_or_eq_true (decide (r_3.1.Time < ((o1_5.getD ((IntKind.i64.wrap ((o1_5.length:Int) - 1)).toNat) (api_Record.mk 0 0 [] (api_Version.mk 0 0 0 []) (api_Version.mk 0 0 0 []) 0 [])).Time))) with hg_10 | hg_10
      ·
       have hg_23:((!((!decide (r_3.2=0)) || (!decide ((List.drop ((IntKind.i64.wrap (r_7+1)).toNat) s_1)=r_12)))) && (decide (0 < (o1_5.length:Int))))=true:=by revert hg_2 hg_4 hg_6 hg_10; generalize decide (r_3.1.Time < ((o1_5.getD ((IntKind.i64.wrap ((o1_5.length:Int) - 1)).toNat) (api_Record.mk 0 0 [] (api_Version.mk 0 0 0 []) (api_Version.mk 0 0 0 []) 0 [])).Time))=x0; generalize decide ((List.drop ((IntKind.i64.wrap (r_7+1)).toNat) s_1)=r_12)=x1; generalize decide (0 < (o1_5.length:Int))=x2; generalize decide (r_3.2=0)=x3; revert x0 x1 x2 x3; decide
       have hg_24:(!(((!decide (r_3.2=0)) || (!decide ((List.drop ((IntKind.i64.wrap (r_7+1)).toNat) s_1)=r_12))) || ((decide (0 < (o1_5.length:Int))) && (decide (r_3.1.Time < ((o1_5.getD ((IntKind.i64.wrap ((o1_5.length:Int) - 1)).toNat) (api_Record.mk 0 0 [] (api_Version.mk 0 0 0 []) (api_Version.mk 0 0 0 []) 0 [])).Time))))))=false:=by revert hg_2 hg_4 hg_6 hg_10; generalize decide (r_3.1.Time < ((o1_5.getD ((IntKind.i64.wrap ((o1_5.length:Int) - 1)).toNat) (api_Record.mk 0 0 [] (api_Version.mk 0 0 0 []) (api_Version.mk 0 0 0 []) 0 [])).Time))=x0; generalize decide ((List.drop ((IntKind.i64.wrap (r_7+1)).toNat) s_1)=r_12)=x1; generalize decide (0 < (o1_5.length:Int))=x2; generalize decide (r_3.2=0)=x3; revert x0 x1 x2 x3; decide
       have c_39:=c_38 hg_23
       try dsimp only at c_39
       have hr_27:=fun h=>zJ (l:=o1_5) (e:=za) (d:=(api_Record.mk 0 0 [] (api_Version.mk 0 0 0 []) (api_Version.mk 0 0 0 []) 0 [])) (i:=(IntKind.i64.wrap ((o1_5.length:Int) - 1)).toNat) h []
       simp only [go_sem,simprocAttr,false_implies,and_true,true_and,bad,hw11,hxs_1,hg_2,hg_4,hg_6,hg_10,hg_23,hg_24,hr_27 (by omega)]
       try refine ⟨sL,?_⟩
       refine Dr.callF (av:=?av23) (g:=!(!decide (r_3.2=0))) (o:=?o23) (fun hg=>zbV (sum_28++(List.take r_7.toNat s_1)) _ (hr_12 hg)) (by simp only [go_sem,simprocAttr,false_implies,and_true,true_and,bad,hw11,hxs_1,hg_2,hg_4,hg_6,hg_10,hg_23,hg_24,hr_27 (by omega)]; exact Is.mk) (by simp only [go_sem,simprocAttr,false_implies,and_true,true_and,bad,hw11,hxs_1,hg_2,hg_4,hg_6,hg_10,hg_23,hg_24,hr_27 (by omega)]; exact Is.mk) (by simp only [go_sem,simprocAttr,false_implies,and_true,true_and,bad,hw11,hxs_1,hg_2,hg_4,hg_6,hg_10,hg_23,hg_24,hr_27 (by omega)]; exact Is.mk) (by simp only [go_sem,simprocAttr,false_implies,and_true,true_and,bad,hw11,hxs_1,hg_2,hg_4,hg_6,hg_10,hg_23,hg_24,hr_27 (by omega)]; exact Is.mk) (by simp only [go_sem,simprocAttr,false_implies,and_true,true_and,bad,hw11,hxs_1,hg_2,hg_4,hg_6,hg_10,hg_23,hg_24,hr_27 (by omega)]) (by simp only [go_sem,simprocAttr,false_implies,and_true,true_and,bad,hw11,hxs_1,hg_2,hg_4,hg_6,hg_10,hg_23,hg_24,hr_27 (by omega)]; exact Is.mk) ?cont23
       simp only [go_sem,simprocAttr,false_implies,and_true,true_and,bad,hw11,hxs_1,hg_2,hg_4,hg_6,hg_10,hg_23,hg_24,hr_27 (by omega)]
       try refine ⟨sL,?_⟩
       obtain rfl:=hr_26d hg_24
       refine Dr.of_br (Br.skipG (o:=?o24) (v:=.top) (gw:=?gw24) (by simp only [go_sem,simprocAttr,false_implies,and_true,true_and,bad,hw11,hxs_1,hg_2,hg_4,hg_6,hg_10,hg_23,hg_24,hr_27 (by omega)]; exact Is.mk) (by simp only [go_sem,simprocAttr,false_implies,and_true,true_and,bad,hw11,hxs_1,hg_2,hg_4,hg_6,hg_10,hg_23,hg_24,hr_27 (by omega)]; exact Is.mk) (by simp only [go_sem,simprocAttr,false_implies,and_true,true_and,bad,hw11,hxs_1,hg_2,hg_4,hg_6,hg_10,hg_23,hg_24,hr_27 (by omega)]; exact Is.mk) (by simp only [go_sem,simprocAttr,false_implies,and_true,true_and,bad,hw11,hxs_1,hg_2,hg_4,hg_6,hg_10,hg_23,hg_24,hr_27 (by omega)]) ?cont24)
       simp only [go_sem,simprocAttr,false_implies,and_true,true_and,bad,hw11,hxs_1,hg_2,hg_4,hg_6,hg_10,hg_23,hg_24,hr_27 (by omega)]
       first | refine hW22 _ _ _ _ ?_ hcont22 | refine ⟨sL,hW22 _ _ _ _ ?_ hcont22⟩
       simp only [go_sem,simprocAttr,false_implies,and_true,true_and,bad,hw11,hxs_1,hg_2,hg_4,hg_6,hg_10,hg_23,hg_24,hr_27 (by omega)]
       try exact se3
      ·
       have hg_19:((!((!decide (r_3.2=0)) || (!decide ((List.drop ((IntKind.i64.wrap (r_7+1)).toNat) s_1)=r_12)))) && (decide (0 < (o1_5.length:Int))))=true:=by revert hg_2 hg_4 hg_6 hg_10; generalize decide (r_3.1.Time < ((o1_5.getD ((IntKind.i64.wrap ((o1_5.length:Int) - 1)).toNat) (api_Record.mk 0 0 [] (api_Version.mk 0 0 0 []) (api_Version.mk 0 0 0 []) 0 [])).Time))=x0; generalize decide ((List.drop ((IntKind.i64.wrap (r_7+1)).toNat) s_1)=r_12)=x1; generalize decide (0 < (o1_5.length:Int))=x2; generalize decide (r_3.2=0)=x3; revert x0 x1 x2 x3; decide
       have hg_20:(!(((!decide (r_3.2=0)) || (!decide ((List.drop ((IntKind.i64.wrap (r_7+1)).toNat) s_1)=r_12))) || ((decide (0 < (o1_5.length:Int))) && (decide (r_3.1.Time < ((o1_5.getD ((IntKind.i64.wrap ((o1_5.length:Int) - 1)).toNat) (api_Record.mk 0 0 [] (api_Version.mk 0 0 0 []) (api_Version.mk 0 0 0 []) 0 [])).Time))))))=true:=by revert hg_2 hg_4 hg_6 hg_10; generalize decide (r_3.1.Time < ((o1_5.getD ((IntKind.i64.wrap ((o1_5.length:Int) - 1)).toNat) (api_Record.mk 0 0 [] (api_Version.mk 0 0 0 []) (api_Version.mk 0 0 0 []) 0 [])).Time))=x0; generalize decide ((List.drop ((IntKind.i64.wrap (r_7+1)).toNat) s_1)=r_12)=x1; generalize decide (0 < (o1_5.length:Int))=x2; generalize decide (r_3.2=0)=x3; revert x0 x1 x2 x3; decide
       have c_40:=c_38 hg_19
       try dsimp only at c_40
       have hr_21:=fun h=>zJ (l:=o1_5) (e:=za) (d:=(api_Record.mk 0 0 [] (api_Version.mk 0 0 0 []) (api_Version.mk 0 0 0 []) 0 [])) (i:=(IntKind.i64.wrap ((o1_5.length:Int) - 1)).toNat) h []
       simp only [go_sem,simprocAttr,false_implies,and_true,true_and,bad,hw11,hxs_1,hg_2,hg_4,hg_6,hg_10,hg_19,hg_20,hr_21 (by omega)]
       try refine ⟨sL,?_⟩
       refine Dr.callF (av:=?av25) (g:=!(!decide (r_3.2=0))) (o:=?o25) (fun hg=>zbV (sum_28++(List.take r_7.toNat s_1)) _ (hr_12 hg)) (by simp only [go_sem,simprocAttr,false_implies,and_true,true_and,bad,hw11,hxs_1,hg_2,hg_4,hg_6,hg_10,hg_19,hg_20,hr_21 (by omega)]; exact Is.mk) (by simp only [go_sem,simprocAttr,false_implies,and_true,true_and,bad,hw11,hxs_1,hg_2,hg_4,hg_6,hg_10,hg_19,hg_20,hr_21 (by omega)]; exact Is.mk) (by simp only [go_sem,simprocAttr,false_implies,and_true,true_and,bad,hw11,hxs_1,hg_2,hg_4,hg_6,hg_10,hg_19,hg_20,hr_21 (by omega)]; exact Is.mk) (by simp only [go_sem,simprocAttr,false_implies,and_true,true_and,bad,hw11,hxs_1,hg_2,hg_4,hg_6,hg_10,hg_19,hg_20,hr_21 (by omega)]; exact Is.mk) (by simp only [go_sem,simprocAttr,false_implies,and_true,true_and,bad,hw11,hxs_1,hg_2,hg_4,hg_6,hg_10,hg_19,hg_20,hr_21 (by omega)]) (by simp only [go_sem,simprocAttr,false_implies,and_true,true_and,bad,hw11,hxs_1,hg_2,hg_4,hg_6,hg_10,hg_19,hg_20,hr_21 (by omega)]; exact Is.mk) ?cont25
       simp only [go_sem,simprocAttr,false_implies,and_true,true_and,bad,hw11,hxs_1,hg_2,hg_4,hg_6,hg_10,hg_19,hg_20,hr_21 (by omega)]
       try refine ⟨sL,?_⟩
       refine Dr.of_br (Br.callEG (av:=?av26) (o:=?o26) [0] (zdr r_3.1 m0_29 _ (hr_26 hg_20)) (by simp only [go_sem,simprocAttr,false_implies,and_true,true_and,bad,hw11,hxs_1,hg_2,hg_4,hg_6,hg_10,hg_19,hg_20,hr_21 (by omega)]; exact Is.mk) (by simp only [go_sem,simprocAttr,false_implies,and_true,true_and,bad,hw11,hxs_1,hg_2,hg_4,hg_6,hg_10,hg_19,hg_20,hr_21 (by omega)]; exact Is.mk) (by simp only [go_sem,simprocAttr,false_implies,and_true,true_and,bad,hw11,hxs_1,hg_2,hg_4,hg_6,hg_10,hg_19,hg_20,hr_21 (by omega)]; exact Is.mk) (by simp only [go_sem,simprocAttr,false_implies,and_true,true_and,bad,hw11,hxs_1,hg_2,hg_4,hg_6,hg_10,hg_19,hg_20,hr_21 (by omega)]; exact Is.mk) (by simp only [go_sem,simprocAttr,false_implies,and_true,true_and,bad,hw11,hxs_1,hg_2,hg_4,hg_6,hg_10,hg_19,hg_20,hr_21 (by omega)]; exact Is.mk) (by simp only [go_sem,simprocAttr,false_implies,and_true,true_and,bad,hw11,hxs_1,hg_2,hg_4,hg_6,hg_10,hg_19,hg_20,hr_21 (by omega)]) (by simp only [go_sem,simprocAttr,false_implies,and_true,true_and,bad,hw11,hxs_1,hg_2,hg_4,hg_6,hg_10,hg_19,hg_20,hr_21 (by omega)]) ?hag26 ?cont26)
       case hag26=>first | (simp only [go_sem,simprocAttr,false_implies,and_true,true_and,bad,hw11,hxs_1,hg_2,hg_4,hg_6,hg_10,hg_19,hg_20,hr_21 (by omega)]; done) | (simp only [go_sem,simprocAttr,false_implies,and_true,true_and,bad,hw11,hxs_1,hg_2,hg_4,hg_6,hg_10,hg_19,hg_20,hr_21 (by omega)]; exact sd)
       simp only [go_sem,simprocAttr,false_implies,and_true,true_and,bad,hw11,hxs_1,hg_2,hg_4,hg_6,hg_10,hg_19,hg_20,hr_21 (by omega)]
       first | refine hW22 _ _ _ _ ?_ hcont22 | refine ⟨sL,hW22 _ _ _ _ ?_ hcont22⟩
       simp only [go_sem,simprocAttr,false_implies,and_true,true_and,bad,hw11,hxs_1,hg_2,hg_4,hg_6,hg_10,hg_19,hg_20,hr_21 (by omega)]
       try exact se3
     ·
      have hg_11:((!((!decide (r_3.2=0)) || (!decide ((List.drop ((IntKind.i64.wrap (r_7+1)).toNat) s_1)=r_12)))) && (decide (0 < (o1_5.length:Int))))=false:=by revert hg_2 hg_4 hg_6; generalize decide (r_3.1.Time < ((o1_5.getD ((IntKind.i64.wrap ((o1_5.length:Int) - 1)).toNat) (api_Record.mk 0 0 [] (api_Version.mk 0 0 0 []) (api_Version.mk 0 0 0 []) 0 [])).Time))=x0; generalize decide ((List.drop ((IntKind.i64.wrap (r_7+1)).toNat) s_1)=r_12)=x1; generalize decide (0 < (o1_5.length:Int))=x2; generalize decide (r_3.2=0)=x3; revert x0 x1 x2 x3; decide
      have hg_8:(!(((!decide (r_3.2=0)) || (!decide ((List.drop ((IntKind.i64.wrap (r_7+1)).toNat) s_1)=r_12))) || ((decide (0 < (o1_5.length:Int))) && (decide (r_3.1.Time < ((o1_5.getD ((IntKind.i64.wrap ((o1_5.length:Int) - 1)).toNat) (api_Record.mk 0 0 [] (api_Version.mk 0 0 0 []) (api_Version.mk 0 0 0 []) 0 [])).Time))))))=true:=by revert hg_2 hg_4 hg_6; generalize decide (r_3.1.Time < ((o1_5.getD ((IntKind.i64.wrap ((o1_5.length:Int) - 1)).toNat) (api_Record.mk 0 0 [] (api_Version.mk 0 0 0 []) (api_Version.mk 0 0 0 []) 0 [])).Time))=x0; generalize decide ((List.drop ((IntKind.i64.wrap (r_7+1)).toNat) s_1)=r_12)=x1; generalize decide (0 < (o1_5.length:Int))=x2; generalize decide (r_3.2=0)=x3; revert x0 x1 x2 x3; decide
      rcases Nat.lt_or_ge ((IntKind.i64.wrap ((o1_5.length:Int) - 1)).toNat) o1_5.length with hi_34 | hi_34
      ·
       have hr_9:=zJ (l:=o1_5) (e:=za) (d:=(api_Record.mk 0 0 [] (api_Version.mk 0 0 0 []) (api_Version.mk 0 0 0 []) 0 [])) (i:=(IntKind.i64.wrap ((o1_5.length:Int) - 1)).toNat) hi_34 []
       simp only [go_sem,simprocAttr,false_implies,and_true,true_and,bad,hw11,hxs_1,hg_2,hg_4,hg_6,hg_11,hg_8,hr_9]
       try refine ⟨sL,?_⟩
       refine Dr.callF (av:=?av27) (g:=!(!decide (r_3.2=0))) (o:=?o27) (fun hg=>zbV (sum_28++(List.take r_7.toNat s_1)) _ (hr_12 hg)) (by simp only [go_sem,simprocAttr,false_implies,and_true,true_and,bad,hw11,hxs_1,hg_2,hg_4,hg_6,hg_11,hg_8,hr_9]; exact Is.mk) (by simp only [go_sem,simprocAttr,false_implies,and_true,true_and,bad,hw11,hxs_1,hg_2,hg_4,hg_6,hg_11,hg_8,hr_9]; exact Is.mk) (by simp only [go_sem,simprocAttr,false_implies,and_true,true_and,bad,hw11,hxs_1,hg_2,hg_4,hg_6,hg_11,hg_8,hr_9]; exact Is.mk) (by simp only [go_sem,simprocAttr,false_implies,and_true,true_and,bad,hw11,hxs_1,hg_2,hg_4,hg_6,hg_11,hg_8,hr_9]; exact Is.mk) (by simp only [go_sem,simprocAttr,false_implies,and_true,true_and,bad,hw11,hxs_1,hg_2,hg_4,hg_6,hg_11,hg_8,hr_9]) (by simp only [go_sem,simprocAttr,false_implies,and_true,true_and,bad,hw11,hxs_1,hg_2,hg_4,hg_6,hg_11,hg_8,hr_9]; exact Is.mk) ?cont27
       simp only [go_sem,simprocAttr,false_implies,and_true,true_and,bad,hw11,hxs_1,hg_2,hg_4,hg_6,hg_11,hg_8,hr_9]
       try refine ⟨sL,?_⟩
       refine Dr.of_br (Br.callEG (av:=?av28) (o:=?o28) [0] (zdr r_3.1 m0_29 _ (hr_26 hg_8)) (by simp only [go_sem,simprocAttr,false_implies,and_true,true_and,bad,hw11,hxs_1,hg_2,hg_4,hg_6,hg_11,hg_8,hr_9]; exact Is.mk) (by simp only [go_sem,simprocAttr,false_implies,and_true,true_and,bad,hw11,hxs_1,hg_2,hg_4,hg_6,hg_11,hg_8,hr_9]; exact Is.mk) (by simp only [go_sem,simprocAttr,false_implies,and_true,true_and,bad,hw11,hxs_1,hg_2,hg_4,hg_6,hg_11,hg_8,hr_9]; exact Is.mk) (by simp only [go_sem,simprocAttr,false_implies,and_true,true_and,bad,hw11,hxs_1,hg_2,hg_4,hg_6,hg_11,hg_8,hr_9]; exact Is.mk) (by simp only [go_sem,simprocAttr,false_implies,and_true,true_and,bad,hw11,hxs_1,hg_2,hg_4,hg_6,hg_11,hg_8,hr_9]; exact Is.mk) (by simp only [go_sem,simprocAttr,false_implies,and_true,true_and,bad,hw11,hxs_1,hg_2,hg_4,hg_6,hg_11,hg_8,hr_9]) (by simp only [go_sem,simprocAttr,false_implies,and_true,true_and,bad,hw11,hxs_1,hg_2,hg_4,hg_6,hg_11,hg_8,hr_9]) ?hag28 ?cont28)
       case hag28=>first | (simp only [go_sem,simprocAttr,false_implies,and_true,true_and,bad,hw11,hxs_1,hg_2,hg_4,hg_6,hg_11,hg_8,hr_9]; done) | (simp only [go_sem,simprocAttr,false_implies,and_true,true_and,bad,hw11,hxs_1,hg_2,hg_4,hg_6,hg_11,hg_8,hr_9]; exact sd)
       simp only [go_sem,simprocAttr,false_implies,and_true,true_and,bad,hw11,hxs_1,hg_2,hg_4,hg_6,hg_11,hg_8,hr_9]
       first | refine hW22 _ _ _ _ ?_ hcont22 | refine ⟨sL,hW22 _ _ _ _ ?_ hcont22⟩
       simp only [go_sem,simprocAttr,false_implies,and_true,true_and,bad,hw11,hxs_1,hg_2,hg_4,hg_6,hg_11,hg_8,hr_9]
       try exact se3
      ·
       have hr_9:(List.map za o1_5).getD ((IntKind.i64.wrap ((o1_5.length:Int) - 1)).toNat) []=[]:=by rw [List.getD_eq_getElem?_getD,List.getElem?_eq_none (by simpa using hi_34)]; rfl
       simp only [go_sem,simprocAttr,false_implies,and_true,true_and,bad,hw11,hxs_1,hg_2,hg_4,hg_6,hg_11,hg_8,hr_9]
       try refine ⟨sL,?_⟩
       refine Dr.callF (av:=?av29) (g:=!(!decide (r_3.2=0))) (o:=?o29) (fun hg=>zbV (sum_28++(List.take r_7.toNat s_1)) _ (hr_12 hg)) (by simp only [go_sem,simprocAttr,false_implies,and_true,true_and,bad,hw11,hxs_1,hg_2,hg_4,hg_6,hg_11,hg_8,hr_9]; exact Is.mk) (by simp only [go_sem,simprocAttr,false_implies,and_true,true_and,bad,hw11,hxs_1,hg_2,hg_4,hg_6,hg_11,hg_8,hr_9]; exact Is.mk) (by simp only [go_sem,simprocAttr,false_implies,and_true,true_and,bad,hw11,hxs_1,hg_2,hg_4,hg_6,hg_11,hg_8,hr_9]; exact Is.mk) (by simp only [go_sem,simprocAttr,false_implies,and_true,true_and,bad,hw11,hxs_1,hg_2,hg_4,hg_6,hg_11,hg_8,hr_9]; exact Is.mk) (by simp only [go_sem,simprocAttr,false_implies,and_true,true_and,bad,hw11,hxs_1,hg_2,hg_4,hg_6,hg_11,hg_8,hr_9]) (by simp only [go_sem,simprocAttr,false_implies,and_true,true_and,bad,hw11,hxs_1,hg_2,hg_4,hg_6,hg_11,hg_8,hr_9]; exact Is.mk) ?cont29
       simp only [go_sem,simprocAttr,false_implies,and_true,true_and,bad,hw11,hxs_1,hg_2,hg_4,hg_6,hg_11,hg_8,hr_9]
       try refine ⟨sL,?_⟩
       refine Dr.of_br (Br.callEG (av:=?av30) (o:=?o30) [0] (zdr r_3.1 m0_29 _ (hr_26 hg_8)) (by simp only [go_sem,simprocAttr,false_implies,and_true,true_and,bad,hw11,hxs_1,hg_2,hg_4,hg_6,hg_11,hg_8,hr_9]; exact Is.mk) (by simp only [go_sem,simprocAttr,false_implies,and_true,true_and,bad,hw11,hxs_1,hg_2,hg_4,hg_6,hg_11,hg_8,hr_9]; exact Is.mk) (by simp only [go_sem,simprocAttr,false_implies,and_true,true_and,bad,hw11,hxs_1,hg_2,hg_4,hg_6,hg_11,hg_8,hr_9]; exact Is.mk) (by simp only [go_sem,simprocAttr,false_implies,and_true,true_and,bad,hw11,hxs_1,hg_2,hg_4,hg_6,hg_11,hg_8,hr_9]; exact Is.mk) (by simp only [go_sem,simprocAttr,false_implies,and_true,true_and,bad,hw11,hxs_1,hg_2,hg_4,hg_6,hg_11,hg_8,hr_9]; exact Is.mk) (by simp only [go_sem,simprocAttr,false_implies,and_true,true_and,bad,hw11,hxs_1,hg_2,hg_4,hg_6,hg_11,hg_8,hr_9]) (by simp only [go_sem,simprocAttr,false_implies,and_true,true_and,bad,hw11,hxs_1,hg_2,hg_4,hg_6,hg_11,hg_8,hr_9]) ?hag30 ?cont30)
       case hag30=>first | (simp only [go_sem,simprocAttr,false_implies,and_true,true_and,bad,hw11,hxs_1,hg_2,hg_4,hg_6,hg_11,hg_8,hr_9]; done) | (simp only [go_sem,simprocAttr,false_implies,and_true,true_and,bad,hw11,hxs_1,hg_2,hg_4,hg_6,hg_11,hg_8,hr_9]; exact sd)
       simp only [go_sem,simprocAttr,false_implies,and_true,true_and,bad,hw11,hxs_1,hg_2,hg_4,hg_6,hg_11,hg_8,hr_9]
       first | refine hW22 _ _ _ _ ?_ hcont22 | refine ⟨sL,hW22 _ _ _ _ ?_ hcont22⟩
       simp only [go_sem,simprocAttr,false_implies,and_true,true_and,bad,hw11,hxs_1,hg_2,hg_4,hg_6,hg_11,hg_8,hr_9]
       try exact se3
    ·
     have hg_17:((!((!decide (r_3.2=0)) || (!decide ((List.drop ((IntKind.i64.wrap (r_7+1)).toNat) s_1)=r_12)))) && (decide (0 < (o1_5.length:Int))))=false:=by revert hg_2 hg_4; generalize decide (r_3.1.Time < ((o1_5.getD ((IntKind.i64.wrap ((o1_5.length:Int) - 1)).toNat) (api_Record.mk 0 0 [] (api_Version.mk 0 0 0 []) (api_Version.mk 0 0 0 []) 0 [])).Time))=x0; generalize decide ((List.drop ((IntKind.i64.wrap (r_7+1)).toNat) s_1)=r_12)=x1; generalize decide (0 < (o1_5.length:Int))=x2; generalize decide (r_3.2=0)=x3; revert x0 x1 x2 x3; decide
     have hg_13:(!(((!decide (r_3.2=0)) || (!decide ((List.drop ((IntKind.i64.wrap (r_7+1)).toNat) s_1)=r_12))) || ((decide (0 < (o1_5.length:Int))) && (decide (r_3.1.Time < ((o1_5.getD ((IntKind.i64.wrap ((o1_5.length:Int) - 1)).toNat) (api_Record.mk 0 0 [] (api_Version.mk 0 0 0 []) (api_Version.mk 0 0 0 []) 0 [])).Time))))))=false:=by revert hg_2 hg_4; generalize decide (r_3.1.Time < ((o1_5.getD ((IntKind.i64.wrap ((o1_5.length:Int) - 1)).toNat) (api_Record.mk 0 0 [] (api_Version.mk 0 0 0 []) (api_Version.mk 0 0 0 []) 0 [])).Time))=x0; generalize decide ((List.drop ((IntKind.i64.wrap (r_7+1)).toNat) s_1)=r_12)=x1; generalize decide (0 < (o1_5.length:Int))=x2; generalize decide (r_3.2=0)=x3; revert x0 x1 x2 x3; decide
     rcases Nat.lt_or_ge ((IntKind.i64.wrap ((o1_5.length:Int) - 1)).toNat) o1_5.length with hi_35 | hi_35
     ·
      have hr_15:=zJ (l:=o1_5) (e:=za) (d:=(api_Record.mk 0 0 [] (api_Version.mk 0 0 0 []) (api_Version.mk 0 0 0 []) 0 [])) (i:=(IntKind.i64.wrap ((o1_5.length:Int) - 1)).toNat) hi_35 []
      simp only [go_sem,simprocAttr,false_implies,and_true,true_and,bad,hw11,hxs_1,hg_2,hg_4,hg_17,hg_13,hr_15]
      try refine ⟨sL,?_⟩
      refine Dr.callF (av:=?av31) (g:=!(!decide (r_3.2=0))) (o:=?o31) (fun hg=>zbV (sum_28++(List.take r_7.toNat s_1)) _ (hr_12 hg)) (by simp only [go_sem,simprocAttr,false_implies,and_true,true_and,bad,hw11,hxs_1,hg_2,hg_4,hg_17,hg_13,hr_15]; exact Is.mk) (by simp only [go_sem,simprocAttr,false_implies,and_true,true_and,bad,hw11,hxs_1,hg_2,hg_4,hg_17,hg_13,hr_15]; exact Is.mk) (by simp only [go_sem,simprocAttr,false_implies,and_true,true_and,bad,hw11,hxs_1,hg_2,hg_4,hg_17,hg_13,hr_15]; exact Is.mk) (by simp only [go_sem,simprocAttr,false_implies,and_true,true_and,bad,hw11,hxs_1,hg_2,hg_4,hg_17,hg_13,hr_15]; exact Is.mk) (by simp only [go_sem,simprocAttr,false_implies,and_true,true_and,bad,hw11,hxs_1,hg_2,hg_4,hg_17,hg_13,hr_15]) (by simp only [go_sem,simprocAttr,false_implies,and_true,true_and,bad,hw11,hxs_1,hg_2,hg_4,hg_17,hg_13,hr_15]; exact Is.mk) ?cont31
      simp only [go_sem,simprocAttr,false_implies,and_true,true_and,bad,hw11,hxs_1,hg_2,hg_4,hg_17,hg_13,hr_15]
      try refine ⟨sL,?_⟩
      obtain rfl:=hr_26d hg_13
      refine Dr.of_br (Br.skipG (o:=?o32) (v:=.top) (gw:=?gw32) (by simp only [go_sem,simprocAttr,false_implies,and_true,true_and,bad,hw11,hxs_1,hg_2,hg_4,hg_17,hg_13,hr_15]; exact Is.mk) (by simp only [go_sem,simprocAttr,false_implies,and_true,true_and,bad,hw11,hxs_1,hg_2,hg_4,hg_17,hg_13,hr_15]; exact Is.mk) (by simp only [go_sem,simprocAttr,false_implies,and_true,true_and,bad,hw11,hxs_1,hg_2,hg_4,hg_17,hg_13,hr_15]; exact Is.mk) (by simp only [go_sem,simprocAttr,false_implies,and_true,true_and,bad,hw11,hxs_1,hg_2,hg_4,hg_17,hg_13,hr_15]) ?cont32)
      simp only [go_sem,simprocAttr,false_implies,and_true,true_and,bad,hw11,hxs_1,hg_2,hg_4,hg_17,hg_13,hr_15]
      first | refine hW22 _ _ _ _ ?_ hcont22 | refine ⟨sL,hW22 _ _ _ _ ?_ hcont22⟩
      simp only [go_sem,simprocAttr,false_implies,and_true,true_and,bad,hw11,hxs_1,hg_2,hg_4,hg_17,hg_13,hr_15]
      try exact se3
     ·
      have hr_15:(List.map za o1_5).getD ((IntKind.i64.wrap ((o1_5.length:Int) - 1)).toNat) []=[]:=by rw [List.getD_eq_getElem?_getD,List.getElem?_eq_none (by simpa using hi_35)]; rfl
      simp only [go_sem,simprocAttr,false_implies,and_true,true_and,bad,hw11,hxs_1,hg_2,hg_4,hg_17,hg_13,hr_15]
      try refine ⟨sL,?_⟩
      refine Dr.callF (av:=?av33) (g:=!(!decide (r_3.2=0))) (o:=?o33) (fun hg=>zbV (sum_28++(List.take r_7.toNat s_1)) _ (hr_12 hg)) (by simp only [go_sem,simprocAttr,false_implies,and_true,true_and,bad,hw11,hxs_1,hg_2,hg_4,hg_17,hg_13,hr_15]; exact Is.mk) (by simp only [go_sem,simprocAttr,false_implies,and_true,true_and,bad,hw11,hxs_1,hg_2,hg_4,hg_17,hg_13,hr_15]; exact Is.mk) (by simp only [go_sem,simprocAttr,false_implies,and_true,true_and,bad,hw11,hxs_1,hg_2,hg_4,hg_17,hg_13,hr_15]; exact Is.mk) (by simp only [go_sem,simprocAttr,false_implies,and_true,true_and,bad,hw11,hxs_1,hg_2,hg_4,hg_17,hg_13,hr_15]; exact Is.mk) (by simp only [go_sem,simprocAttr,false_implies,and_true,true_and,bad,hw11,hxs_1,hg_2,hg_4,hg_17,hg_13,hr_15]) (by simp only [go_sem,simprocAttr,false_implies,and_true,true_and,bad,hw11,hxs_1,hg_2,hg_4,hg_17,hg_13,hr_15]; exact Is.mk) ?cont33
      simp only [go_sem,simprocAttr,false_implies,and_true,true_and,bad,hw11,hxs_1,hg_2,hg_4,hg_17,hg_13,hr_15]
      try refine ⟨sL,?_⟩
      obtain rfl:=hr_26d hg_13
      refine Dr.of_br (Br.skipG (o:=?o34) (v:=.top) (gw:=?gw34) (by simp only [go_sem,simprocAttr,false_implies,and_true,true_and,bad,hw11,hxs_1,hg_2,hg_4,hg_17,hg_13,hr_15]; exact Is.mk) (by simp only [go_sem,simprocAttr,false_implies,and_true,true_and,bad,hw11,hxs_1,hg_2,hg_4,hg_17,hg_13,hr_15]; exact Is.mk) (by simp only [go_sem,simprocAttr,false_implies,and_true,true_and,bad,hw11,hxs_1,hg_2,hg_4,hg_17,hg_13,hr_15]; exact Is.mk) (by simp only [go_sem,simprocAttr,false_implies,and_true,true_and,bad,hw11,hxs_1,hg_2,hg_4,hg_17,hg_13,hr_15]) ?cont34)
      simp only [go_sem,simprocAttr,false_implies,and_true,true_and,bad,hw11,hxs_1,hg_2,hg_4,hg_17,hg_13,hr_15]
      first | refine hW22 _ _ _ _ ?_ hcont22 | refine ⟨sL,hW22 _ _ _ _ ?_ hcont22⟩
      simp only [go_sem,simprocAttr,false_implies,and_true,true_and,bad,hw11,hxs_1,hg_2,hg_4,hg_17,hg_13,hr_15]
      try exact se3
   ·
    have hg_18:((!((!decide (r_3.2=0)) || (!decide ((List.drop ((IntKind.i64.wrap (r_7+1)).toNat) s_1)=r_12)))) && (decide (0 < (o1_5.length:Int))))=false:=by revert hg_2; generalize decide (r_3.1.Time < ((o1_5.getD ((IntKind.i64.wrap ((o1_5.length:Int) - 1)).toNat) (api_Record.mk 0 0 [] (api_Version.mk 0 0 0 []) (api_Version.mk 0 0 0 []) 0 [])).Time))=x0; generalize decide ((List.drop ((IntKind.i64.wrap (r_7+1)).toNat) s_1)=r_12)=x1; generalize decide (0 < (o1_5.length:Int))=x2; generalize decide (r_3.2=0)=x3; revert x0 x1 x2 x3; decide
    have hg_14:(!(((!decide (r_3.2=0)) || (!decide ((List.drop ((IntKind.i64.wrap (r_7+1)).toNat) s_1)=r_12))) || ((decide (0 < (o1_5.length:Int))) && (decide (r_3.1.Time < ((o1_5.getD ((IntKind.i64.wrap ((o1_5.length:Int) - 1)).toNat) (api_Record.mk 0 0 [] (api_Version.mk 0 0 0 []) (api_Version.mk 0 0 0 []) 0 [])).Time))))))=false:=by revert hg_2; generalize decide (r_3.1.Time < ((o1_5.getD ((IntKind.i64.wrap ((o1_5.length:Int) - 1)).toNat) (api_Record.mk 0 0 [] (api_Version.mk 0 0 0 []) (api_Version.mk 0 0 0 []) 0 [])).Time))=x0; generalize decide ((List.drop ((IntKind.i64.wrap (r_7+1)).toNat) s_1)=r_12)=x1; generalize decide (0 < (o1_5.length:Int))=x2; generalize decide (r_3.2=0)=x3; revert x0 x1 x2 x3; decide
    rcases Nat.lt_or_ge ((IntKind.i64.wrap ((o1_5.length:Int) - 1)).toNat) o1_5.length with hi_36 | hi_36
    ·
     have hr_16:=zJ (l:=o1_5) (e:=za) (d:=(api_Record.mk 0 0 [] (api_Version.mk 0 0 0 []) (api_Version.mk 0 0 0 []) 0 [])) (i:=(IntKind.i64.wrap ((o1_5.length:Int) - 1)).toNat) hi_36 []
     simp only [go_sem,simprocAttr,false_implies,and_true,true_and,bad,hw11,hxs_1,hg_2,hg_18,hg_14,hr_16]
     try refine ⟨sL,?_⟩
     refine Dr.callF (av:=?av35) (g:=!(!decide (r_3.2=0))) (o:=?o35) (fun hg=>zbV (sum_28++(List.take r_7.toNat s_1)) _ (hr_12 hg)) (by simp only [go_sem,simprocAttr,false_implies,and_true,true_and,bad,hw11,hxs_1,hg_2,hg_18,hg_14,hr_16]; exact Is.mk) (by simp only [go_sem,simprocAttr,false_implies,and_true,true_and,bad,hw11,hxs_1,hg_2,hg_18,hg_14,hr_16]; exact Is.mk) (by simp only [go_sem,simprocAttr,false_implies,and_true,true_and,bad,hw11,hxs_1,hg_2,hg_18,hg_14,hr_16]; exact Is.mk) (by simp only [go_sem,simprocAttr,false_implies,and_true,true_and,bad,hw11,hxs_1,hg_2,hg_18,hg_14,hr_16]; exact Is.mk) (by simp only [go_sem,simprocAttr,false_implies,and_true,true_and,bad,hw11,hxs_1,hg_2,hg_18,hg_14,hr_16]) (by simp only [go_sem,simprocAttr,false_implies,and_true,true_and,bad,hw11,hxs_1,hg_2,hg_18,hg_14,hr_16]; exact Is.mk) ?cont35
     simp only [go_sem,simprocAttr,false_implies,and_true,true_and,bad,hw11,hxs_1,hg_2,hg_18,hg_14,hr_16]
     try refine ⟨sL,?_⟩
     obtain rfl:=hr_26d hg_14
     refine Dr.of_br (Br.skipG (o:=?o36) (v:=.top) (gw:=?gw36) (by simp only [go_sem,simprocAttr,false_implies,and_true,true_and,bad,hw11,hxs_1,hg_2,hg_18,hg_14,hr_16]; exact Is.mk) (by simp only [go_sem,simprocAttr,false_implies,and_true,true_and,bad,hw11,hxs_1,hg_2,hg_18,hg_14,hr_16]; exact Is.mk) (by simp only [go_sem,simprocAttr,false_implies,and_true,true_and,bad,hw11,hxs_1,hg_2,hg_18,hg_14,hr_16]; exact Is.mk) (by simp only [go_sem,simprocAttr,false_implies,and_true,true_and,bad,hw11,hxs_1,hg_2,hg_18,hg_14,hr_16]) ?cont36)
     simp only [go_sem,simprocAttr,false_implies,and_true,true_and,bad,hw11,hxs_1,hg_2,hg_18,hg_14,hr_16]
     first | refine hW22 _ _ _ _ ?_ hcont22 | refine ⟨sL,hW22 _ _ _ _ ?_ hcont22⟩
     simp only [go_sem,simprocAttr,false_implies,and_true,true_and,bad,hw11,hxs_1,hg_2,hg_18,hg_14,hr_16]
     try exact se3
    ·
     have hr_16:(List.map za o1_5).getD ((IntKind.i64.wrap ((o1_5.length:Int) - 1)).toNat) []=[]:=by rw [List.getD_eq_getElem?_getD,List.getElem?_eq_none (by simpa using hi_36)]; rfl
     simp only [go_sem,simprocAttr,false_implies,and_true,true_and,bad,hw11,hxs_1,hg_2,hg_18,hg_14,hr_16]
     try refine ⟨sL,?_⟩
     refine Dr.callF (av:=?av37) (g:=!(!decide (r_3.2=0))) (o:=?o37) (fun hg=>zbV (sum_28++(List.take r_7.toNat s_1)) _ (hr_12 hg)) (by simp only [go_sem,simprocAttr,false_implies,and_true,true_and,bad,hw11,hxs_1,hg_2,hg_18,hg_14,hr_16]; exact Is.mk) (by simp only [go_sem,simprocAttr,false_implies,and_true,true_and,bad,hw11,hxs_1,hg_2,hg_18,hg_14,hr_16]; exact Is.mk) (by simp only [go_sem,simprocAttr,false_implies,and_true,true_and,bad,hw11,hxs_1,hg_2,hg_18,hg_14,hr_16]; exact Is.mk) (by simp only [go_sem,simprocAttr,false_implies,and_true,true_and,bad,hw11,hxs_1,hg_2,hg_18,hg_14,hr_16]; exact Is.mk) (by simp only [go_sem,simprocAttr,false_implies,and_true,true_and,bad,hw11,hxs_1,hg_2,hg_18,hg_14,hr_16]) (by simp only [go_sem,simprocAttr,false_implies,and_true,true_and,bad,hw11,hxs_1,hg_2,hg_18,hg_14,hr_16]; exact Is.mk) ?cont37
     simp only [go_sem,simprocAttr,false_implies,and_true,true_and,bad,hw11,hxs_1,hg_2,hg_18,hg_14,hr_16]
     try refine ⟨sL,?_⟩
     obtain rfl:=hr_26d hg_14
     refine Dr.of_br (Br.skipG (o:=?o38) (v:=.top) (gw:=?gw38) (by simp only [go_sem,simprocAttr,false_implies,and_true,true_and,bad,hw11,hxs_1,hg_2,hg_18,hg_14,hr_16]; exact Is.mk) (by simp only [go_sem,simprocAttr,false_implies,and_true,true_and,bad,hw11,hxs_1,hg_2,hg_18,hg_14,hr_16]; exact Is.mk) (by simp only [go_sem,simprocAttr,false_implies,and_true,true_and,bad,hw11,hxs_1,hg_2,hg_18,hg_14,hr_16]; exact Is.mk) (by simp only [go_sem,simprocAttr,false_implies,and_true,true_and,bad,hw11,hxs_1,hg_2,hg_18,hg_14,hr_16]) ?cont38)
     simp only [go_sem,simprocAttr,false_implies,and_true,true_and,bad,hw11,hxs_1,hg_2,hg_18,hg_14,hr_16]
     first | refine hW22 _ _ _ _ ?_ hcont22 | refine ⟨sL,hW22 _ _ _ _ ?_ hcont22⟩
     simp only [go_sem,simprocAttr,false_implies,and_true,true_and,bad,hw11,hxs_1,hg_2,hg_18,hg_14,hr_16]
     try exact se3
  refine hK22 _ _ ?_
  refine cM hm (fun hc39 hm=>?_) (fun hc39 hm=>?_)
  ·refine Wp.exit ?_
   simp only [zl,zi,↓reduceIte]
   have hm:=hk_31 _ hm
   try dsimp only at hm
   refine hW7 _ _ _ _ ?_ (hcut7 (r_26.2,o1_5) hm)
   simp only [go_sem,simprocAttr,hw11,hxs_1]
   try exact se3
  ·refine Wp.skip ?_
   refine hK21 _ _ ?_
   obtain ⟨c_47,hm⟩:=zf hm
   obtain ⟨c_48,hm⟩:=zf hm
   refine Wp.regD (plan:=pl [(0,none),(1,none),(4,none),(5,none),(6,none),(7,none),(2,some [0,4,5,6,7]),(3,some [4,5,6,7]),(8,none),(9,none)]) (by kernel_rfl) rfl (by kernel_rfl) fun K40 hK40=>?_
   simp only [go_sem,simprocAttr,hw11,hxs_1]
   refine kA hK40 ?_
   refine hK12 _ _ ?_
   refine Wp.region fun K41 hK41=>?_
   simp only [go_sem,simprocAttr,hw11,hxs_1]
   refine kA hK41 ?_
   simp only [zl,zi,↓reduceIte]
   refine ⟨(List.drop ((IntKind.i64.wrap (r_7+1)).toNat) s_1,r_26.2,o1_5++[r_3.1]),hlt11,hnx_37 _ hm,?_⟩
   simp only [go_sem,simprocAttr,hw11,hxs_1]
   try exact se3
theorem zfo (n:Int) (z:Unit) (hm:zcy n=some z):Does Tryz.prog 53 [.nils,.p (.i .i64 n)] [] (fun r X=>r=.buf 0∧X=[.buf 30 13 (List.map za [])]):=by
 obtain ⟨h,-⟩:=zf hm
 obtain ⟨k,rfl⟩:=Int.eq_ofNat_of_zero_le h.1
 have hi:(Tryz.prog.info? 30).isSome=true:=by kernel_rfl
 obtain ⟨i0,hi0⟩:=Option.isSome_iff_exists.1 hi
 have e:(Tryz.prog.info? 30).map (fun i=>(i.size,i.bytes,(i.zero.map fun z=>z.cells.size)))=some (13,((Tryz.prog.info? 30).map (·.bytes)).getD 0,some 13):=by kernel_rfl
 have hb:Nat.ble (((Tryz.prog.info? 30).map (·.bytes)).getD 0) 1000000=true:=by kernel_rfl
 rw [hi0] at e hb
 simp only [Option.map_some,Option.getD_some,Option.some.injEq,Prod.mk.injEq] at e hb
 obtain ⟨e1,-,e3⟩:=e
 obtain ⟨z0,hz0,hz1⟩:=Option.map_eq_some_iff.1 e3
 have hb:=Nat.le_of_ble_eq_true hb
 have:=Does.growNil Tryz.growL hi0 hz0 (by rw [hz1,e1]) (by omega) ⟨_,Tryz.func53,by kernel_rfl,by kernel_rfl⟩ k (by omega) (Nat.le_trans (Nat.mul_le_mul (show k≤100000000 by omega) hb) (by decide))
 rw [e1] at this
 exact this
end Go.Proofs.YtmnohdgjkcjdeaaGreatDoor
