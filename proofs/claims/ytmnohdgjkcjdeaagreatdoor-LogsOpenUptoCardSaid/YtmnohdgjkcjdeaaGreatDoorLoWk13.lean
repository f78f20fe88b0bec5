/- That the code does what the models say (part 13). -/
import Derived.Test.YtmnohdgjkcjdeaaGreatDoorLoWk0
import Derived.Test.YtmnohdgjkcjdeaaGreatDoorLoWk2
import Derived.Test.YtmnohdgjkcjdeaaGreatDoorLoWk6
import Derived.Test.YtmnohdgjkcjdeaaGreatDoorLoWk10
import Derived.Test.YtmnohdgjkcjdeaaGreatDoorLoWk12
set_option linter.unusedSimpArgs false
set_option linter.unusedVariables false
open Go.Proofs Go.Shelf
namespace Go.Proofs.YtmnohdgjkcjdeaaGreatDoor
open Go.Vc Go.Md
set_option maxRecDepth 100000
set_option maxHeartbeats 4000000
theorem ok_R_OpenLog (text_1:Str) (z:List api_Record) (hm:R_OpenLog text_1=some z):Does Tryz.prog 20 [.p (.s text_1)] [] (fun r X=>r=.p (.l (List.map za z))∧X=[]):=by
 unfold R_OpenLog at hm
 refine dW 0 95 [.tmp 2] Tryz.func20 fun B=>?_
 refine qS ?_
 refine qS ?_
 refine qS ?_
 refine qS ?_
 obtain ⟨r_2,hr_2,hm⟩:=zb hm
 refine Wp.seqR fun K5 hK5=>?_
 simp only [go_sem,simprocAttr]
 try refine ⟨sd,?_⟩
 refine Rg.callF (av:=?av6) (ok_R_cutLines text_1 _ hr_2) si si sg ?cont6
 intro hv6
 simp only [go_sem,simprocAttr]
 refine kA hK5 ?_
 refine Wp.seqW fun K7 hK7 hW7=>?_
 obtain ⟨k_129,hk_129,hm⟩:=zl hm
 have hcut7:∀ s,k_129 s=some z→K7 [(3,.buf 1)] [.mp true (zcY Dt.s zH s.1),.buf 30 13 (List.map za s.2)]:=by
  intro s hs
  have hm:=hk_129 _ hs
  clear hs
  obtain ⟨m0_127,o1_128⟩:=s
  try dsimp only at hm
  try dsimp only
  refine hK7 _ _ ?_
  refine qS ?_
  refine Wp.ret ?_
  refine zc ?_
  cases hm
  exact zm
 clear hK7 hk_129
 refine qS ?_
 refine Wp.block ?_
 refine Wp.adopt 3 30 13 rfl ?_
 simp only [go_sem,simprocAttr]
 obtain ⟨k_208,hk_208,hm⟩:=zQ hm
 refine Wp.fact 19 fun hl_211=>?_
 replace hl_211:r_2.1.length≤274877906944:=by
  simp only [go_sem,simprocAttr,List.length_map] at hl_211
  omega
 refine Wp.forL (fun i_210 s=>[(3,.buf 1),(4,.p (.s s.1)),(5,.mp 0),(7,.p (.i .i64 r_2.2)),(19,.p (.l (List.map ecS r_2.1))),(20,.p (.i .i64 (r_2.1.length:Int))),(21,.p (.i .i64 (i_210:Int)))]) (fun i_210 s=>[.mp true (zcY Dt.s zH s.2.1),.buf 30 13 (List.map za s.2.2)]) ?_ hm ?_
 ·
  exact zm
 clear hm
 intro i_210 s hii_210 hm
 obtain ⟨sum_168,m0_170,o1_171⟩:=s
 try dsimp only at hm
 try dsimp only
 refine qS ?_
 refine Wp.seqW fun K11 hK11 hW11=>?_
 refine Wp.cond rfl ⟨⟩ (fun hc11=>?_) (fun hc11=>?_)
 rotate_left
 ·refine Wp.exit ?_
  have hm:=hk_208 _ (zae hm (zbd (by first | exact hc11 | simpa using hc11)))
  try dsimp only at hm
  refine hW7 _ _ _ _ ?_ (hcut7 (m0_170,o1_171) hm)
  exact zm
 have hlt11:=zbc (by first | exact hc11 | simpa using hc11)
 have hw11:=zO hlt11 hl_211
 obtain ⟨s_212,nx_209,hxs_212,hys_212,hnx_209,hm⟩:=zP hm hlt11
 replace hxs_212:=hxs_212 ecS
 refine Wp.skip ?_
 simp only [zk]
 refine hK11 _ _ ?_
 refine Wp.seqW fun K12 hK12 hW12=>?_
 refine Wp.block ?_
 refine Wp.seqR fun K13 hK13=>?_
 simp only [go_sem,simprocAttr,hw11,hxs_212]
 refine kA hK13 ?_
 obtain ⟨r_213,hr_213,hm⟩:=zb hm
 refine Wp.seqR fun K14 hK14=>?_
 simp only [go_sem,simprocAttr,hw11,hxs_212]
 try refine ⟨sd,?_⟩
 refine Rg.callX (av:=?av15) (g:=true) (fun hg=>ok_strings_LastIndex s_212 ([32]:Str) _ hr_213) (by simp only [go_sem,simprocAttr,hw11,hxs_212]; exact Is.mk) (by simp only [go_sem,simprocAttr,hw11,hxs_212]; exact Is.mk) (by simp only [go_sem,simprocAttr,hw11,hxs_212]; exact Is.mk) (by simp only [go_sem,simprocAttr,hw11,hxs_212]) (by simp only [go_sem,simprocAttr,hw11,hxs_212]; exact Is.mk) ?cont15
 intro hv15
 simp only [go_sem,simprocAttr,hw11,hxs_212]
 refine kA hK14 ?_
 refine Wp.seqW fun K16 hK16 hW16=>?_
 refine Wp.seqR fun K17 hK17=>?_
 simp only [go_sem,simprocAttr,hw11,hxs_212]
 refine kA hK17 ?_
 refine cM hm (fun hc18 hm=>?_) (fun hc18 hm=>?_)
 ·refine Wp.exit ?_
  simp only [zk,zi,↓reduceIte]
  have hm:=hk_208 _ hm
  try dsimp only at hm
  refine hW7 _ _ _ _ ?_ (hcut7 (m0_170,o1_171) hm)
  simp only [go_sem,simprocAttr,hw11,hxs_212]
  try exact se3
 ·refine Wp.skip ?_
  refine hK16 _ _ ?_
  obtain ⟨c_214,hm⟩:=zf hm
  obtain ⟨r_215,hr_215,hm⟩:=zb hm
  refine Wp.seqR fun K19 hK19=>?_
  simp only [go_sem,simprocAttr,hw11,hxs_212]
  try refine ⟨sL,?_⟩
  refine Rg.callX (av:=?av20) (g:=true) (fun hg=>ok_R_ReadRecord (List.take r_213.toNat s_212) _ hr_215) (by simp only [go_sem,simprocAttr,hw11,hxs_212]; exact Is.mk) (by simp only [go_sem,simprocAttr,hw11,hxs_212]; exact Is.mk) (by simp only [go_sem,simprocAttr,hw11,hxs_212]; exact Is.mk) (by simp only [go_sem,simprocAttr,hw11,hxs_212]) (by simp only [go_sem,simprocAttr,hw11,hxs_212]; exact Is.mk) ?cont20
  intro hv20
  simp only [go_sem,simprocAttr,hw11,hxs_212]
  refine kA hK19 ?_
  refine Wp.seqW fun K21 hK21 hW21=>?_
  obtain ⟨c_216,hm⟩:=zf hm
  obtain ⟨c_217,hm⟩:=zf hm
  obtain ⟨c_218,hm⟩:=zf hm
  obtain ⟨r_219,hr_219,hm⟩:=zR hm
  obtain ⟨c_220,hm⟩:=zf hm
  obtain ⟨r_221,hr_221,hr_221d,hm⟩:=zdX hm
  refine Wp.seqDW (plan:=pl [(0,none),(1,none),(2,none),(3,none),(4,none),(5,none),(6,none),(7,none),(8,none),(9,none),(10,none),(11,none),(12,none),(13,none),(14,none),(15,none),(16,none),(17,none),(18,none),(19,none),(20,none),(21,none),(22,none),(23,none),(24,none),(25,none),(26,none),(27,none),(28,none),(29,none),(30,none),(31,none),(32,none),(33,none),(34,none),(35,some []),(36,none),(37,none)]) (by kernel_rfl) rfl (by kernel_rfl) fun K22 hK22 hW22=>?_
  suffices hcont22:K22 [(3,.buf 1),(4,.p (.s sum_168)),(5,.mp 0),(7,.p (.i .i64 r_2.2)),(8,.p (.i .i64 (i_210:Int))),(9,.p (.s s_212)),(10,.p (.i .i64 r_213)),(11,.ptr 2 0),(12,.p (.i .i64 r_215.2)),(19,.p (.l (List.map ecS r_2.1))),(20,.p (.i .i64 (r_2.1.length:Int))),(21,.p (.i .i64 (i_210:Int))),(22,.p (.b (decide ((i_210:Int) < (r_2.1.length:Int))))),(23,.p (.i .i64 (i_210:Int))),(24,.rp [.s s_212]),(25,.p (.s s_212)),(26,.p (.s s_212)),(27,.p (.i .i64 r_213)),(28,.p (.i .i64 (i_210:Int))),(29,.p (.i .i64 r_2.2)),(30,.p (.b (decide ((i_210:Int)=r_2.2)))),(31,.p (.b (decide ((i_210:Int)=r_2.2)))),(34,.p (.b ((decide ((i_210:Int)=r_2.2)) || (decide (r_213 < 0))))),(35,.p (.b ((decide ((i_210:Int)=r_2.2)) || (decide (r_213 < 0))))),(39,.p (.b (((decide ((i_210:Int)=r_2.2)) || (decide (r_213 < 0))) || (decide ((o1_171.length:Int)=5000))))),(40,.tup [.agg [.p (.i .i64 r_215.1.Time),.p (.i .i64 r_215.1.Kind),.p (.s r_215.1.Pack),.p (.i .i64 r_215.1.From.Major),.p (.i .i64 r_215.1.From.Minor),.p (.i .i64 r_215.1.From.Patch),.p (.s r_215.1.From.Early),.p (.i .i64 r_215.1.To.Major),.p (.i .i64 r_215.1.To.Minor),.p (.i .i64 r_215.1.To.Patch),.p (.s r_215.1.To.Early),.p (.i .i64 r_215.1.Result),.p (.s r_215.1.Note)],.p (.i .i64 r_215.2)]),(41,.p (.s s_212)),(42,.p (.i .i64 r_213)),(43,.p (.s (List.take r_213.toNat s_212))),(44,.tup [.agg [.p (.i .i64 r_215.1.Time),.p (.i .i64 r_215.1.Kind),.p (.s r_215.1.Pack),.p (.i .i64 r_215.1.From.Major),.p (.i .i64 r_215.1.From.Minor),.p (.i .i64 r_215.1.From.Patch),.p (.s r_215.1.From.Early),.p (.i .i64 r_215.1.To.Major),.p (.i .i64 r_215.1.To.Minor),.p (.i .i64 r_215.1.To.Patch),.p (.s r_215.1.To.Early),.p (.i .i64 r_215.1.Result),.p (.s r_215.1.Note)],.p (.i .i64 r_215.2)]),(45,.agg [.p (.i .i64 r_215.1.Time),.p (.i .i64 r_215.1.Kind),.p (.s r_215.1.Pack),.p (.i .i64 r_215.1.From.Major),.p (.i .i64 r_215.1.From.Minor),.p (.i .i64 r_215.1.From.Patch),.p (.s r_215.1.From.Early),.p (.i .i64 r_215.1.To.Major),.p (.i .i64 r_215.1.To.Minor),.p (.i .i64 r_215.1.To.Patch),.p (.s r_215.1.To.Early),.p (.i .i64 r_215.1.Result),.p (.s r_215.1.Note)]),(46,.p (.i .i64 r_215.2)),(84,.p (.b ((((!decide (r_215.2=0)) || (!decide ((List.drop ((IntKind.i64.wrap (r_213+1)).toNat) s_212)=r_219))) || ((decide (0 < (o1_171.length:Int))) && (decide (r_215.1.Time < ((o1_171.getD ((IntKind.i64.wrap ((o1_171.length:Int) - 1)).toNat) (api_Record.mk 0 0 [] (api_Version.mk 0 0 0 []) (api_Version.mk 0 0 0 []) 0 [])).Time))))) || (!r_221.1))))] [.mp true (zcY Dt.s zH r_221.2),.buf 30 13 (List.map za o1_171),.cells 30 [.p (.i .i64 r_215.1.Time),.p (.i .i64 r_215.1.Kind),.p (.s r_215.1.Pack),.p (.i .i64 r_215.1.From.Major),.p (.i .i64 r_215.1.From.Minor),.p (.i .i64 r_215.1.From.Patch),.p (.s r_215.1.From.Early),.p (.i .i64 r_215.1.To.Major),.p (.i .i64 r_215.1.To.Minor),.p (.i .i64 r_215.1.To.Patch),.p (.s r_215.1.To.Early),.p (.i .i64 r_215.1.Result),.p (.s r_215.1.Note)]] by
   rcases Bool.eq_false_or_eq_true (decide (r_215.2=0)) with hg_222 | hg_222
   ·
    rcases Bool.eq_false_or_eq_true (decide ((List.drop ((IntKind.i64.wrap (r_213+1)).toNat) s_212)=r_219)) with hg_223 | hg_223
    ·
     rcases Bool.eq_false_or_eq_true (decide (0 < (o1_171.length:Int))) with hg_224 | hg_224
     ·
      rcases Bool.eq_false_or_eq_true (decide (r_215.1.Time < ((o1_171.getD ((IntKind.i64.wrap ((o1_171.length:Int) - 1)).toNat) (api_Record.mk 0 0 [] (api_Version.mk 0 0 0 []) (api_Version.mk 0 0 0 []) 0 [])).Time))) with hg_225 | hg_225
      ·
       have hg_226:((!((!decide (r_215.2=0)) || (!decide ((List.drop ((IntKind.i64.wrap (r_213+1)).toNat) s_212)=r_219)))) && (decide (0 < (o1_171.length:Int))))=true:=by revert hg_222 hg_223 hg_224 hg_225; generalize decide (r_215.1.Time < ((o1_171.getD ((IntKind.i64.wrap ((o1_171.length:Int) - 1)).toNat) (api_Record.mk 0 0 [] (api_Version.mk 0 0 0 []) (api_Version.mk 0 0 0 []) 0 [])).Time))=x0; generalize decide ((List.drop ((IntKind.i64.wrap (r_213+1)).toNat) s_212)=r_219)=x1; generalize decide (0 < (o1_171.length:Int))=x2; generalize decide (r_215.2=0)=x3; revert x0 x1 x2 x3; decide
       have hg_227:(!(((!decide (r_215.2=0)) || (!decide ((List.drop ((IntKind.i64.wrap (r_213+1)).toNat) s_212)=r_219))) || ((decide (0 < (o1_171.length:Int))) && (decide (r_215.1.Time < ((o1_171.getD ((IntKind.i64.wrap ((o1_171.length:Int) - 1)).toNat) (api_Record.mk 0 0 [] (api_Version.mk 0 0 0 []) (api_Version.mk 0 0 0 []) 0 [])).Time))))))=false:=by revert hg_222 hg_223 hg_224 hg_225; generalize decide (r_215.1.Time < ((o1_171.getD ((IntKind.i64.wrap ((o1_171.length:Int) - 1)).toNat) (api_Record.mk 0 0 [] (api_Version.mk 0 0 0 []) (api_Version.mk 0 0 0 []) 0 [])).Time))=x0; generalize decide ((List.drop ((IntKind.i64.wrap (r_213+1)).toNat) s_212)=r_219)=x1; generalize decide (0 < (o1_171.length:Int))=x2; generalize decide (r_215.2=0)=x3; revert x0 x1 x2 x3; decide
       have c_228:=c_220 hg_226
       try dsimp only at c_228
       have hr_229:=fun h=>zS (l:=o1_171) (e:=za) (d:=(api_Record.mk 0 0 [] (api_Version.mk 0 0 0 []) (api_Version.mk 0 0 0 []) 0 [])) (i:=(IntKind.i64.wrap ((o1_171.length:Int) - 1)).toNat) h []
       simp only [go_sem,simprocAttr,false_implies,and_true,true_and,bad,hw11,hxs_212,hg_222,hg_223,hg_224,hg_225,hg_226,hg_227,hr_229 (by omega)]
       try refine ⟨sL,?_⟩
       refine Dr.callF (av:=?av23) (g:=!(!decide (r_215.2=0))) (o:=?o23) (fun hg=>zbR (sum_168++(List.take r_213.toNat s_212)) _ (hr_219 hg)) (by simp only [go_sem,simprocAttr,false_implies,and_true,true_and,bad,hw11,hxs_212,hg_222,hg_223,hg_224,hg_225,hg_226,hg_227,hr_229 (by omega)]; exact Is.mk) (by simp only [go_sem,simprocAttr,false_implies,and_true,true_and,bad,hw11,hxs_212,hg_222,hg_223,hg_224,hg_225,hg_226,hg_227,hr_229 (by omega)]; exact Is.mk) (by simp only [go_sem,simprocAttr,false_implies,and_true,true_and,bad,hw11,hxs_212,hg_222,hg_223,hg_224,hg_225,hg_226,hg_227,hr_229 (by omega)]; exact Is.mk) (by simp only [go_sem,simprocAttr,false_implies,and_true,true_and,bad,hw11,hxs_212,hg_222,hg_223,hg_224,hg_225,hg_226,hg_227,hr_229 (by omega)]; exact Is.mk) (by simp only [go_sem,simprocAttr,false_implies,and_true,true_and,bad,hw11,hxs_212,hg_222,hg_223,hg_224,hg_225,hg_226,hg_227,hr_229 (by omega)]) (by simp only [go_sem,simprocAttr,false_implies,and_true,true_and,bad,hw11,hxs_212,hg_222,hg_223,hg_224,hg_225,hg_226,hg_227,hr_229 (by omega)]; exact Is.mk) ?cont23
       simp only [go_sem,simprocAttr,false_implies,and_true,true_and,bad,hw11,hxs_212,hg_222,hg_223,hg_224,hg_225,hg_226,hg_227,hr_229 (by omega)]
       try refine ⟨sL,?_⟩
       obtain rfl:=hr_221d hg_227
       refine Dr.of_br (Br.skipG (o:=?o24) (v:=.top) (gw:=?gw24) (by simp only [go_sem,simprocAttr,false_implies,and_true,true_and,bad,hw11,hxs_212,hg_222,hg_223,hg_224,hg_225,hg_226,hg_227,hr_229 (by omega)]; exact Is.mk) (by simp only [go_sem,simprocAttr,false_implies,and_true,true_and,bad,hw11,hxs_212,hg_222,hg_223,hg_224,hg_225,hg_226,hg_227,hr_229 (by omega)]; exact Is.mk) (by simp only [go_sem,simprocAttr,false_implies,and_true,true_and,bad,hw11,hxs_212,hg_222,hg_223,hg_224,hg_225,hg_226,hg_227,hr_229 (by omega)]; exact Is.mk) (by simp only [go_sem,simprocAttr,false_implies,and_true,true_and,bad,hw11,hxs_212,hg_222,hg_223,hg_224,hg_225,hg_226,hg_227,hr_229 (by omega)]) ?cont24)
       simp only [go_sem,simprocAttr,false_implies,and_true,true_and,bad,hw11,hxs_212,hg_222,hg_223,hg_224,hg_225,hg_226,hg_227,hr_229 (by omega)]
       first | refine hW22 _ _ _ _ ?_ hcont22 | refine ⟨sL,hW22 _ _ _ _ ?_ hcont22⟩
       simp only [go_sem,simprocAttr,false_implies,and_true,true_and,bad,hw11,hxs_212,hg_222,hg_223,hg_224,hg_225,hg_226,hg_227,hr_229 (by omega)]
       try exact se3
      ·
       have hg_230:((!((!decide (r_215.2=0)) || (!decide ((List.drop ((IntKind.i64.wrap (r_213+1)).toNat) s_212)=r_219)))) && (decide (0 < (o1_171.length:Int))))=true:=by revert hg_222 hg_223 hg_224 hg_225; generalize decide (r_215.1.Time < ((o1_171.getD ((IntKind.i64.wrap ((o1_171.length:Int) - 1)).toNat) (api_Record.mk 0 0 [] (api_Version.mk 0 0 0 []) (api_Version.mk 0 0 0 []) 0 [])).Time))=x0; generalize decide ((List.drop ((IntKind.i64.wrap (r_213+1)).toNat) s_212)=r_219)=x1; generalize decide (0 < (o1_171.length:Int))=x2; generalize decide (r_215.2=0)=x3; revert x0 x1 x2 x3; decide
       have hg_231:(!(((!decide (r_215.2=0)) || (!decide ((List.drop ((IntKind.i64.wrap (r_213+1)).toNat) s_212)=r_219))) || ((decide (0 < (o1_171.length:Int))) && (decide (r_215.1.Time < ((o1_171.getD ((IntKind.i64.wrap ((o1_171.length:Int) - 1)).toNat) (api_Record.mk 0 0 [] (api_Version.mk 0 0 0 []) (api_Version.mk 0 0 0 []) 0 [])).Time))))))=true:=by revert hg_222 hg_223 hg_224 hg_225; generalize decide (r_215.1.Time < ((o1_171.getD ((IntKind.i64.wrap ((o1_171.length:Int) - 1)).toNat) (api_Record.mk 0 0 [] (api_Version.mk 0 0 0 []) (api_Version.mk 0 0 0 []) 0 [])).Time))=x0; generalize decide ((List.drop ((IntKind.i64.wrap (r_213+1)).toNat) s_212)=r_219)=x1; generalize decide (0 < (o1_171.length:Int))=x2; generalize decide (r_215.2=0)=x3; revert x0 x1 x2 x3; decide
       have c_232:=c_220 hg_230
       try dsimp only at c_232
       have hr_233:=fun h=>zS (l:=o1_171) (e:=za) (d:=(api_Record.mk 0 0 [] (api_Version.mk 0 0 0 []) (api_Version.mk 0 0 0 []) 0 [])) (i:=(IntKind.i64.wrap ((o1_171.length:Int) - 1)).toNat) h []
       simp only [go_sem,simprocAttr,false_implies,and_true,true_and,bad,hw11,hxs_212,hg_222,hg_223,hg_224,hg_225,hg_230,hg_231,hr_233 (by omega)]
       try refine ⟨sL,?_⟩
       refine Dr.callF (av:=?av25) (g:=!(!decide (r_215.2=0))) (o:=?o25) (fun hg=>zbR (sum_168++(List.take r_213.toNat s_212)) _ (hr_219 hg)) (by simp only [go_sem,simprocAttr,false_implies,and_true,true_and,bad,hw11,hxs_212,hg_222,hg_223,hg_224,hg_225,hg_230,hg_231,hr_233 (by omega)]; exact Is.mk) (by simp only [go_sem,simprocAttr,false_implies,and_true,true_and,bad,hw11,hxs_212,hg_222,hg_223,hg_224,hg_225,hg_230,hg_231,hr_233 (by omega)]; exact Is.mk) (by simp only [go_sem,simprocAttr,false_implies,and_true,true_and,bad,hw11,hxs_212,hg_222,hg_223,hg_224,hg_225,hg_230,hg_231,hr_233 (by omega)]; exact Is.mk) (by simp only [go_sem,simprocAttr,false_implies,and_true,true_and,bad,hw11,hxs_212,hg_222,hg_223,hg_224,hg_225,hg_230,hg_231,hr_233 (by omega)]; exact Is.mk) (by simp only [go_sem,simprocAttr,false_implies,and_true,true_and,bad,hw11,hxs_212,hg_222,hg_223,hg_224,hg_225,hg_230,hg_231,hr_233 (by omega)]) (by simp only [go_sem,simprocAttr,false_implies,and_true,true_and,bad,hw11,hxs_212,hg_222,hg_223,hg_224,hg_225,hg_230,hg_231,hr_233 (by omega)]; exact Is.mk) ?cont25
       simp only [go_sem,simprocAttr,false_implies,and_true,true_and,bad,hw11,hxs_212,hg_222,hg_223,hg_224,hg_225,hg_230,hg_231,hr_233 (by omega)]
       try refine ⟨sL,?_⟩
       refine Dr.of_br (Br.callEG (av:=?av26) (o:=?o26) [0] (zdp r_215.1 m0_170 _ (hr_221 hg_231)) (by simp only [go_sem,simprocAttr,false_implies,and_true,true_and,bad,hw11,hxs_212,hg_222,hg_223,hg_224,hg_225,hg_230,hg_231,hr_233 (by omega)]; exact Is.mk) (by simp only [go_sem,simprocAttr,false_implies,and_true,true_and,bad,hw11,hxs_212,hg_222,hg_223,hg_224,hg_225,hg_230,hg_231,hr_233 (by omega)]; exact Is.mk) (by simp only [go_sem,simprocAttr,false_implies,and_true,true_and,bad,hw11,hxs_212,hg_222,hg_223,hg_224,hg_225,hg_230,hg_231,hr_233 (by omega)]; exact Is.mk) (by simp only [go_sem,simprocAttr,false_implies,and_true,true_and,bad,hw11,hxs_212,hg_222,hg_223,hg_224,hg_225,hg_230,hg_231,hr_233 (by omega)]; exact Is.mk) (by simp only [go_sem,simprocAttr,false_implies,and_true,true_and,bad,hw11,hxs_212,hg_222,hg_223,hg_224,hg_225,hg_230,hg_231,hr_233 (by omega)]; exact Is.mk) (by simp only [go_sem,simprocAttr,false_implies,and_true,true_and,bad,hw11,hxs_212,hg_222,hg_223,hg_224,hg_225,hg_230,hg_231,hr_233 (by omega)]) (by simp only [go_sem,simprocAttr,false_implies,and_true,true_and,bad,hw11,hxs_212,hg_222,hg_223,hg_224,hg_225,hg_230,hg_231,hr_233 (by omega)]) ?hag26 ?cont26)
       case hag26=>first | (simp only [go_sem,simprocAttr,false_implies,and_true,true_and,bad,hw11,hxs_212,hg_222,hg_223,hg_224,hg_225,hg_230,hg_231,hr_233 (by omega)]; done) | (simp only [go_sem,simprocAttr,false_implies,and_true,true_and,bad,hw11,hxs_212,hg_222,hg_223,hg_224,hg_225,hg_230,hg_231,hr_233 (by omega)]; exact sd)
       simp only [go_sem,simprocAttr,false_implies,and_true,true_and,bad,hw11,hxs_212,hg_222,hg_223,hg_224,hg_225,hg_230,hg_231,hr_233 (by omega)]
       first | refine hW22 _ _ _ _ ?_ hcont22 | refine ⟨sL,hW22 _ _ _ _ ?_ hcont22⟩
       simp only [go_sem,simprocAttr,false_implies,and_true,true_and,bad,hw11,hxs_212,hg_222,hg_223,hg_224,hg_225,hg_230,hg_231,hr_233 (by omega)]
       try exact se3
     ·
      have hg_234:((!((!decide (r_215.2=0)) || (!decide ((List.drop ((IntKind.i64.wrap (r_213+1)).toNat) s_212)=r_219)))) && (decide (0 < (o1_171.length:Int))))=false:=by revert hg_222 hg_223 hg_224; generalize decide (r_215.1.Time < ((o1_171.getD ((IntKind.i64.wrap ((o1_171.length:Int) - 1)).toNat) (api_Record.mk 0 0 [] (api_Version.mk 0 0 0 []) (api_Version.mk 0 0 0 []) 0 [])).Time))=x0; generalize decide ((List.drop ((IntKind.i64.wrap (r_213+1)).toNat) s_212)=r_219)=x1; generalize decide (0 < (o1_171.length:Int))=x2; generalize decide (r_215.2=0)=x3; revert x0 x1 x2 x3; decide
      have hg_235:(!(((!decide (r_215.2=0)) || (!decide ((List.drop ((IntKind.i64.wrap (r_213+1)).toNat) s_212)=r_219))) || ((decide (0 < (o1_171.length:Int))) && (decide (r_215.1.Time < ((o1_171.getD ((IntKind.i64.wrap ((o1_171.length:Int) - 1)).toNat) (api_Record.mk 0 0 [] (api_Version.mk 0 0 0 []) (api_Version.mk 0 0 0 []) 0 [])).Time))))))=true:=by revert hg_222 hg_223 hg_224; generalize decide (r_215.1.Time < ((o1_171.getD ((IntKind.i64.wrap ((o1_171.length:Int) - 1)).toNat) (api_Record.mk 0 0 [] (api_Version.mk 0 0 0 []) (api_Version.mk 0 0 0 []) 0 [])).Time))=x0; generalize decide ((List.drop ((IntKind.i64.wrap (r_213+1)).toNat) s_212)=r_219)=x1; generalize decide (0 < (o1_171.length:Int))=x2; generalize decide (r_215.2=0)=x3; revert x0 x1 x2 x3; decide
      rcases Nat.lt_or_ge ((IntKind.i64.wrap ((o1_171.length:Int) - 1)).toNat) o1_171.length with hi_236 | hi_236
      ·
       have hr_237:=zS (l:=o1_171) (e:=za) (d:=(api_Record.mk 0 0 [] (api_Version.mk 0 0 0 []) (api_Version.mk 0 0 0 []) 0 [])) (i:=(IntKind.i64.wrap ((o1_171.length:Int) - 1)).toNat) hi_236 []
       simp only [go_sem,simprocAttr,false_implies,and_true,true_and,bad,hw11,hxs_212,hg_222,hg_223,hg_224,hg_234,hg_235,hr_237]
       try refine ⟨sL,?_⟩
       refine Dr.callF (av:=?av27) (g:=!(!decide (r_215.2=0))) (o:=?o27) (fun hg=>zbR (sum_168++(List.take r_213.toNat s_212)) _ (hr_219 hg)) (by simp only [go_sem,simprocAttr,false_implies,and_true,true_and,bad,hw11,hxs_212,hg_222,hg_223,hg_224,hg_234,hg_235,hr_237]; exact Is.mk) (by simp only [go_sem,simprocAttr,false_implies,and_true,true_and,bad,hw11,hxs_212,hg_222,hg_223,hg_224,hg_234,hg_235,hr_237]; exact Is.mk) (by simp only [go_sem,simprocAttr,false_implies,and_true,true_and,bad,hw11,hxs_212,hg_222,hg_223,hg_224,hg_234,hg_235,hr_237]; exact Is.mk) (by simp only [go_sem,simprocAttr,false_implies,and_true,true_and,bad,hw11,hxs_212,hg_222,hg_223,hg_224,hg_234,hg_235,hr_237]; exact Is.mk) (by simp only [go_sem,simprocAttr,false_implies,and_true,true_and,bad,hw11,hxs_212,hg_222,hg_223,hg_224,hg_234,hg_235,hr_237]) (by simp only [go_sem,simprocAttr,false_implies,and_true,true_and,bad,hw11,hxs_212,hg_222,hg_223,hg_224,hg_234,hg_235,hr_237]; exact Is.mk) ?cont27
       simp only [go_sem,simprocAttr,false_implies,and_true,true_and,bad,hw11,hxs_212,hg_222,hg_223,hg_224,hg_234,hg_235,hr_237]
       try refine ⟨sL,?_⟩
       refine Dr.of_br (Br.callEG (av:=?av28) (o:=?o28) [0] (zdp r_215.1 m0_170 _ (hr_221 hg_235)) (by simp only [go_sem,simprocAttr,false_implies,and_true,true_and,bad,hw11,hxs_212,hg_222,hg_223,hg_224,hg_234,hg_235,hr_237]; exact Is.mk) (by simp only [go_sem,simprocAttr,false_implies,and_true,true_and,bad,hw11,hxs_212,hg_222,hg_223,hg_224,hg_234,hg_235,hr_237]; exact Is.mk) (by simp only [go_sem,simprocAttr,false_implies,and_true,true_and,bad,hw11,hxs_212,hg_222,hg_223,hg_224,hg_234,hg_235,hr_237]; exact Is.mk) (by simp only [go_sem,simprocAttr,false_implies,and_true,true_and,bad,hw11,hxs_212,hg_222,hg_223,hg_224,hg_234,hg_235,hr_237]; exact Is.mk) (by simp only [go_sem,simprocAttr,false_implies,and_true,true_and,bad,hw11,hxs_212,hg_222,hg_223,hg_224,hg_234,hg_235,hr_237]; exact Is.mk) (by simp only [go_sem,simprocAttr,false_implies,and_true,true_and,bad,hw11,hxs_212,hg_222,hg_223,hg_224,hg_234,hg_235,hr_237]) (by simp only [go_sem,simprocAttr,false_implies,and_true,true_and,bad,hw11,hxs_212,hg_222,hg_223,hg_224,hg_234,hg_235,hr_237]) ?hag28 ?cont28)
       case hag28=>first | (simp only [go_sem,simprocAttr,false_implies,and_true,true_and,bad,hw11,hxs_212,hg_222,hg_223,hg_224,hg_234,hg_235,hr_237]; done) | (simp only [go_sem,simprocAttr,false_implies,and_true,true_and,bad,hw11,hxs_212,hg_222,hg_223,hg_224,hg_234,hg_235,hr_237]; exact sd)
       simp only [go_sem,simprocAttr,false_implies,and_true,true_and,bad,hw11,hxs_212,hg_222,hg_223,hg_224,hg_234,hg_235,hr_237]
       first | refine hW22 _ _ _ _ ?_ hcont22 | refine ⟨sL,hW22 _ _ _ _ ?_ hcont22⟩
       simp only [go_sem,simprocAttr,false_implies,and_true,true_and,bad,hw11,hxs_212,hg_222,hg_223,hg_224,hg_234,hg_235,hr_237]
       try exact se3
      ·
       have hr_237:(List.map za o1_171).getD ((IntKind.i64.wrap ((o1_171.length:Int) - 1)).toNat) []=[]:=by rw [List.getD_eq_getElem?_getD,List.getElem?_eq_none (by simpa using hi_236)]; rfl
       simp only [go_sem,simprocAttr,false_implies,and_true,true_and,bad,hw11,hxs_212,hg_222,hg_223,hg_224,hg_234,hg_235,hr_237]
       try refine ⟨sL,?_⟩
       refine Dr.callF (av:=?av29) (g:=!(!decide (r_215.2=0))) (o:=?o29) (fun hg=>zbR (sum_168++(List.take r_213.toNat s_212)) _ (hr_219 hg)) (by simp only [go_sem,simprocAttr,false_implies,and_true,true_and,bad,hw11,hxs_212,hg_222,hg_223,hg_224,hg_234,hg_235,hr_237]; exact Is.mk) (by simp only [go_sem,simprocAttr,false_implies,and_true,true_and,bad,hw11,hxs_212,hg_222,hg_223,hg_224,hg_234,hg_235,hr_237]; exact Is.mk) (by simp only [go_sem,simprocAttr,false_implies,and_true,true_and,bad,hw11,hxs_212,hg_222,hg_223,hg_224,hg_234,hg_235,hr_237]; exact Is.mk) (by simp only [go_sem,simprocAttr,false_implies,and_true,true_and,bad,hw11,hxs_212,hg_222,hg_223,hg_224,hg_234,hg_235,hr_237]; exact Is.mk) (by simp only [go_sem,simprocAttr,false_implies,and_true,true_and,bad,hw11,hxs_212,hg_222,hg_223,hg_224,hg_234,hg_235,hr_237]) (by simp only [go_sem,simprocAttr,false_implies,and_true,true_and,bad,hw11,hxs_212,hg_222,hg_223,hg_224,hg_234,hg_235,hr_237]; exact Is.mk) ?cont29
       simp only [go_sem,simprocAttr,false_implies,and_true,true_and,bad,hw11,hxs_212,hg_222,hg_223,hg_224,hg_234,hg_235,hr_237]
       try refine ⟨sL,?_⟩
       refine Dr.of_br (Br.callEG (av:=?av30) (o:=?o30) [0] (zdp r_215.1 m0_170 _ (hr_221 hg_235)) (by simp only [go_sem,simprocAttr,false_implies,and_true,true_and,bad,hw11,hxs_212,hg_222,hg_223,hg_224,hg_234,hg_235,hr_237]; exact Is.mk) (by simp only [go_sem,simprocAttr,false_implies,and_true,true_and,bad,hw11,hxs_212,hg_222,hg_223,hg_224,hg_234,hg_235,hr_237]; exact Is.mk) (by simp only [go_sem,simprocAttr,false_implies,and_true,true_and,bad,hw11,hxs_212,hg_222,hg_223,hg_224,hg_234,hg_235,hr_237]; exact Is.mk) (by simp only [go_sem,simprocAttr,false_implies,and_true,true_and,bad,hw11,hxs_212,hg_222,hg_223,hg_224,hg_234,hg_235,hr_237]; exact Is.mk) (by simp only [go_sem,simprocAttr,false_implies,and_true,true_and,bad,hw11,hxs_212,hg_222,hg_223,hg_224,hg_234,hg_235,hr_237]; exact Is.mk) (by simp only [go_sem,simprocAttr,false_implies,and_true,true_and,bad,hw11,hxs_212,hg_222,hg_223,hg_224,hg_234,hg_235,hr_237]) (by simp only [go_sem,simprocAttr,false_implies,and_true,true_and,bad,hw11,hxs_212,hg_222,hg_223,hg_224,hg_234,hg_235,hr_237]) ?hag30 ?cont30)
       case hag30=>first | (simp only [go_sem,simprocAttr,false_implies,and_true,true_and,bad,hw11,hxs_212,hg_222,hg_223,hg_224,hg_234,hg_235,hr_237]; done) | (simp only [go_sem,simprocAttr,false_implies,and_true,true_and,bad,hw11,hxs_212,hg_222,hg_223,hg_224,hg_234,hg_235,hr_237]; exact sd)
       simp only [go_sem,simprocAttr,false_implies,and_true,true_and,bad,hw11,hxs_212,hg_222,hg_223,hg_224,hg_234,hg_235,hr_237]
       first | refine hW22 _ _ _ _ ?_ hcont22 | refine ⟨sL,hW22 _ _ _ _ ?_ hcont22⟩
       simp only [go_sem,simprocAttr,false_implies,and_true,true_and,bad,hw11,hxs_212,hg_222,hg_223,hg_224,hg_234,hg_235,hr_237]
       try exact se3
    ·
     have hg_238:((!((!decide (r_215.2=0)) || (!decide ((List.drop ((IntKind.i64.wrap (r_213+1)).toNat) s_212)=r_219)))) && (decide (0 < (o1_171.length:Int))))=false:=by revert hg_222 hg_223; generalize decide (r_215.1.Time < ((o1_171.getD ((IntKind.i64.wrap ((o1_171.length:Int) - 1)).toNat) (api_Record.mk 0 0 [] (api_Version.mk 0 0 0 []) (api_Version.mk 0 0 0 []) 0 [])).Time))=x0; generalize decide ((List.drop ((IntKind.i64.wrap (r_213+1)).toNat) s_212)=r_219)=x1; generalize decide (0 < (o1_171.length:Int))=x2; generalize decide (r_215.2=0)=x3; revert x0 x1 x2 x3; decide
     have hg_239:(!(((!decide (r_215.2=0)) || (!decide ((List.drop ((IntKind.i64.wrap (r_213+1)).toNat) s_212)=r_219))) || ((decide (0 < (o1_171.length:Int))) && (decide (r_215.1.Time < ((o1_171.getD ((IntKind.i64.wrap ((o1_171.length:Int) - 1)).toNat) (api_Record.mk 0 0 [] (api_Version.mk 0 0 0 []) (api_Version.mk 0 0 0 []) 0 [])).Time))))))=false:=by revert hg_222 hg_223; generalize decide (r_215.1.Time < ((o1_171.getD ((IntKind.i64.wrap ((o1_171.length:Int) - 1)).toNat) (api_Record.mk 0 0 [] (api_Version.mk 0 0 0 []) (api_Version.mk 0 0 0 []) 0 [])).Time))=x0; generalize decide ((List.drop ((IntKind.i64.wrap (r_213+1)).toNat) s_212)=r_219)=x1; generalize decide (0 < (o1_171.length:Int))=x2; generalize decide (r_215.2=0)=x3; revert x0 x1 x2 x3; decide
     rcases Nat.lt_or_ge ((IntKind.i64.wrap ((o1_171.length:Int) - 1)).toNat) o1_171.length with hi_240 | hi_240
     ·
      have hr_241:=zS (l:=o1_171) (e:=za) (d:=(api_Record.mk 0 0 [] (api_Version.mk 0 0 0 []) (api_Version.mk 0 0 0 []) 0 [])) (i:=(IntKind.i64.wrap ((o1_171.length:Int) - 1)).toNat) hi_240 []
      simp only [go_sem,simprocAttr,false_implies,and_true,true_and,bad,hw11,hxs_212,hg_222,hg_223,hg_238,hg_239,hr_241]
      try refine ⟨sL,?_⟩
      refine Dr.callF (av:=?av31) (g:=!(!decide (r_215.2=0))) (o:=?o31) (fun hg=>zbR (sum_168++(List.take r_213.toNat s_212)) _ (hr_219 hg)) (by simp only [go_sem,simprocAttr,false_implies,and_true,true_and,bad,hw11,hxs_212,hg_222,hg_223,hg_238,hg_239,hr_241]; exact Is.mk) (by simp only [go_sem,simprocAttr,false_implies,and_true,true_and,bad,hw11,hxs_212,hg_222,hg_223,hg_238,hg_239,hr_241]; exact Is.mk) (by simp only [go_sem,simprocAttr,false_implies,and_true,true_and,bad,hw11,hxs_212,hg_222,hg_223,hg_238,hg_239,hr_241]; exact Is.mk) (by simp only [go_sem,simprocAttr,false_implies,and_true,true_and,bad,hw11,hxs_212,hg_222,hg_223,hg_238,hg_239,hr_241]; exact Is.mk) (by simp only [go_sem,simprocAttr,false_implies,and_true,true_and,bad,hw11,hxs_212,hg_222,hg_223,hg_238,hg_239,hr_241]) (by simp only [go_sem,simprocAttr,false_implies,and_true,true_and,bad,hw11,hxs_212,hg_222,hg_223,hg_238,hg_239,hr_241]; exact Is.mk) ?cont31
      simp only [go_sem,simprocAttr,false_implies,and_true,true_and,bad,hw11,hxs_212,hg_222,hg_223,hg_238,hg_239,hr_241]
      try refine ⟨sL,?_⟩
      obtain rfl:=hr_221d hg_239
      refine Dr.of_br (Br.skipG (o:=?o32) (v:=.top) (gw:=?gw32) (by simp only [go_sem,simprocAttr,false_implies,and_true,true_and,bad,hw11,hxs_212,hg_222,hg_223,hg_238,hg_239,hr_241]; exact Is.mk) (by simp only [go_sem,simprocAttr,false_implies,and_true,true_and,bad,hw11,hxs_212,hg_222,hg_223,hg_238,hg_239,hr_241]; exact Is.mk) (by simp only [go_sem,simprocAttr,false_implies,and_true,true_and,bad,hw11,hxs_212,hg_222,hg_223,hg_238,hg_239,hr_241]; exact Is.mk) (by simp only [go_sem,simprocAttr,false_implies,and_true,true_and,bad,hw11,hxs_212,hg_222,hg_223,hg_238,hg_239,hr_241]) ?cont32)
      simp only [go_sem,simprocAttr,false_implies,and_true,true_and,bad,hw11,hxs_212,hg_222,hg_223,hg_238,hg_239,hr_241]
      first | refine hW22 _ _ _ _ ?_ hcont22 | refine ⟨sL,hW22 _ _ _ _ ?_ hcont22⟩
      simp only [go_sem,simprocAttr,false_implies,and_true,true_and,bad,hw11,hxs_212,hg_222,hg_223,hg_238,hg_239,hr_241]
      try exact se3
     ·
      have hr_241:(List.map za o1_171).getD ((IntKind.i64.wrap ((o1_171.length:Int) - 1)).toNat) []=[]:=by rw [List.getD_eq_getElem?_getD,List.getElem?_eq_none (by simpa using hi_240)]; rfl
      simp only [go_sem,simprocAttr,false_implies,and_true,true_and,bad,hw11,hxs_212,hg_222,hg_223,hg_238,hg_239,hr_241]
      try refine ⟨sL,?_⟩
      refine Dr.callF (av:=?av33) (g:=!(!decide (r_215.2=0))) (o:=?o33) (fun hg=>zbR (sum_168++(List.take r_213.toNat s_212)) _ (hr_219 hg)) (by simp only [go_sem,simprocAttr,false_implies,and_true,true_and,bad,hw11,hxs_212,hg_222,hg_223,hg_238,hg_239,hr_241]; exact Is.mk) (by simp only [go_sem,simprocAttr,false_implies,and_true,true_and,bad,hw11,hxs_212,hg_222,hg_223,hg_238,hg_239,hr_241]; exact Is.mk) (by simp only [go_sem,simprocAttr,false_implies,and_true,true_and,bad,hw11,hxs_212,hg_222,hg_223,hg_238,hg_239,hr_241]; exact Is.mk) (by simp only [go_sem,simprocAttr,false_implies,and_true,true_and,bad,hw11,hxs_212,hg_222,hg_223,hg_238,hg_239,hr_241]; exact Is.mk) (by simp only [go_sem,simprocAttr,false_implies,and_true,true_and,bad,hw11,hxs_212,hg_222,hg_223,hg_238,hg_239,hr_241]) (by simp only [go_sem,simprocAttr,false_implies,and_true,true_and,bad,hw11,hxs_212,hg_222,hg_223,hg_238,hg_239,hr_241]; exact Is.mk) ?cont33
      simp only [go_sem,simprocAttr,false_implies,and_true,true_and,bad,hw11,hxs_212,hg_222,hg_223,hg_238,hg_239,hr_241]
      try refine ⟨sL,?_⟩
      obtain rfl:=hr_221d hg_239
      refine Dr.of_br (Br.skipG (o:=?o34) (v:=.top) (gw:=?gw34) (by simp only [go_sem,simprocAttr,false_implies,and_true,true_and,bad,hw11,hxs_212,hg_222,hg_223,hg_238,hg_239,hr_241]; exact Is.mk) (by simp only [go_sem,simprocAttr,false_implies,and_true,true_and,bad,hw11,hxs_212,hg_222,hg_223,hg_238,hg_239,hr_241]; exact Is.mk) (by simp only [go_sem,simprocAttr,false_implies,and_true,true_and,bad,hw11,hxs_212,hg_222,hg_223,hg_238,hg_239,hr_241]; exact Is.mk) (by simp only [go_sem,simprocAttr,false_implies,and_true,true_and,bad,hw11,hxs_212,hg_222,hg_223,hg_238,hg_239,hr_241]) ?cont34)
      simp only [go_sem,simprocAttr,false_implies,and_true,true_and,bad,hw11,hxs_212,hg_222,hg_223,hg_238,hg_239,hr_241]
      first | refine hW22 _ _ _ _ ?_ hcont22 | refine ⟨sL,hW22 _ _ _ _ ?_ hcont22⟩
      simp only [go_sem,simprocAttr,false_implies,and_true,true_and,bad,hw11,hxs_212,hg_222,hg_223,hg_238,hg_239,hr_241]
      try exact se3
   ·
    have hg_242:((!((!decide (r_215.2=0)) || (!decide ((List.drop ((IntKind.i64.wrap (r_213+1)).toNat) s_212)=r_219)))) && (decide (0 < (o1_171.length:Int))))=false:=by revert hg_222; generalize decide (r_215.1.Time < ((o1_171.getD ((IntKind.i64.wrap ((o1_171.length:Int) - 1)).toNat) (api_Record.mk 0 0 [] (api_Version.mk 0 0 0 []) (api_Version.mk 0 0 0 []) 0 [])).Time))=x0; generalize decide ((List.drop ((IntKind.i64.wrap (r_213+1)).toNat) s_212)=r_219)=x1; generalize decide (0 < (o1_171.length:Int))=x2; generalize decide (r_215.2=0)=x3; revert x0 x1 x2 x3; decide
    have hg_243:(!(((!decide (r_215.2=0)) || (!decide ((List.drop ((IntKind.i64.wrap (r_213+1)).toNat) s_212)=r_219))) || ((decide (0 < (o1_171.length:Int))) && (decide (r_215.1.Time < ((o1_171.getD ((IntKind.i64.wrap ((o1_171.length:Int) - 1)).toNat) (api_Record.mk 0 0 [] (api_Version.mk 0 0 0 []) (api_Version.mk 0 0 0 []) 0 [])).Time))))))=false:=by revert hg_222; generalize decide (r_215.1.Time < ((o1_171.getD ((IntKind.i64.wrap ((o1_171.length:Int) - 1)).toNat) (api_Record.mk 0 0 [] (api_Version.mk 0 0 0 []) (api_Version.mk 0 0 0 []) 0 [])).Time))=x0; generalize decide ((List.drop ((IntKind.i64.wrap (r_213+1)).toNat) s_212)=r_219)=x1; generalize decide (0 < (o1_171.length:Int))=x2; generalize decide (r_215.2=0)=x3; revert x0 x1 x2 x3; decide
    rcases Nat.lt_or_ge ((IntKind.i64.wrap ((o1_171.length:Int) - 1)).toNat) o1_171.length with hi_244 | hi_244
    ·
     have hr_245:=zS (l:=o1_171) (e:=za) (d:=(api_Record.mk 0 0 [] (api_Version.mk 0 0 0 []) (api_Version.mk 0 0 0 []) 0 [])) (i:=(IntKind.i64.wrap ((o1_171.length:Int) - 1)).toNat) hi_244 []
     simp only [go_sem,simprocAttr,false_implies,and_true,true_and,bad,hw11,hxs_212,hg_222,hg_242,hg_243,hr_245]
     try refine ⟨sL,?_⟩
     refine Dr.callF (av:=?av35) (g:=!(!decide (r_215.2=0))) (o:=?o35) (fun hg=>zbR (sum_168++(List.take r_213.toNat s_212)) _ (hr_219 hg)) (by simp only [go_sem,simprocAttr,false_implies,and_true,true_and,bad,hw11,hxs_212,hg_222,hg_242,hg_243,hr_245]; exact Is.mk) (by simp only [go_sem,simprocAttr,false_implies,and_true,true_and,bad,hw11,hxs_212,hg_222,hg_242,hg_243,hr_245]; exact Is.mk) (by simp only [go_sem,simprocAttr,false_implies,and_true,true_and,bad,hw11,hxs_212,hg_222,hg_242,hg_243,hr_245]; exact Is.mk) (by simp only [go_sem,simprocAttr,false_implies,and_true,true_and,bad,hw11,hxs_212,hg_222,hg_242,hg_243,hr_245]; exact Is.mk) (by simp only [go_sem,simprocAttr,false_implies,and_true,true_and,bad,hw11,hxs_212,hg_222,hg_242,hg_243,hr_245]) (by simp only [go_sem,simprocAttr,false_implies,and_true,true_and,bad,hw11,hxs_212,hg_222,hg_242,hg_243,hr_245]; exact Is.mk) ?cont35
     simp only [go_sem,simprocAttr,false_implies,and_true,true_and,bad,hw11,hxs_212,hg_222,hg_242,hg_243,hr_245]
     try refine ⟨sL,?_⟩
     obtain rfl:=hr_221d hg_243
     refine Dr.of_br (Br.skipG (o:=?o36) (v:=.top) (gw:=?gw36) (by simp only [go_sem,simprocAttr,false_implies,and_true,true_and,bad,hw11,hxs_212,hg_222,hg_242,hg_243,hr_245]; exact Is.mk) (by simp only [go_sem,simprocAttr,false_implies,and_true,true_and,bad,hw11,hxs_212,hg_222,hg_242,hg_243,hr_245]; exact Is.mk) (by simp only [go_sem,simprocAttr,false_implies,and_true,true_and,bad,hw11,hxs_212,hg_222,hg_242,hg_243,hr_245]; exact Is.mk) (by simp only [go_sem,simprocAttr,false_implies,and_true,true_and,bad,hw11,hxs_212,hg_222,hg_242,hg_243,hr_245]) ?cont36)
     simp only [go_sem,simprocAttr,false_implies,and_true,true_and,bad,hw11,hxs_212,hg_222,hg_242,hg_243,hr_245]
     first | refine hW22 _ _ _ _ ?_ hcont22 | refine ⟨sL,hW22 _ _ _ _ ?_ hcont22⟩
     simp only [go_sem,simprocAttr,false_implies,and_true,true_and,bad,hw11,hxs_212,hg_222,hg_242,hg_243,hr_245]
     try exact se3
    ·
     have hr_245:(List.map za o1_171).getD ((IntKind.i64.wrap ((o1_171.length:Int) - 1)).toNat) []=[]:=by rw [List.getD_eq_getElem?_getD,List.getElem?_eq_none (by simpa using hi_244)]; rfl
     simp only [go_sem,simprocAttr,false_implies,and_true,true_and,bad,hw11,hxs_212,hg_222,hg_242,hg_243,hr_245]
     try refine ⟨sL,?_⟩
     refine Dr.callF (av:=?av37) (g:=!(!decide (r_215.2=0))) (o:=?o37) (fun hg=>zbR (sum_168++(List.take r_213.toNat s_212)) _ (hr_219 hg)) (by simp only [go_sem,simprocAttr,false_implies,and_true,true_and,bad,hw11,hxs_212,hg_222,hg_242,hg_243,hr_245]; exact Is.mk) (by simp only [go_sem,simprocAttr,false_implies,and_true,true_and,bad,hw11,hxs_212,hg_222,hg_242,hg_243,hr_245]; exact Is.mk) (by simp only [go_sem,simprocAttr,false_implies,and_true,true_and,bad,hw11,hxs_212,hg_222,hg_242,hg_243,hr_245]; exact Is.mk) (by simp only [go_sem,simprocAttr,false_implies,and_true,true_and,bad,hw11,hxs_212,hg_222,hg_242,hg_243,hr_245]; exact Is.mk) (by simp only [go_sem,simprocAttr,false_implies,and_true,true_and,bad,hw11,hxs_212,hg_222,hg_242,hg_243,hr_245]) (by simp only [go_sem,simprocAttr,false_implies,and_true,true_and,bad,hw11,hxs_212,hg_222,hg_242,hg_243,hr_245]; exact Is.mk) ?cont37
     simp only [go_sem,simprocAttr,false_implies,and_true,true_and,bad,hw11,hxs_212,hg_222,hg_242,hg_243,hr_245]
     try refine ⟨sL,?_⟩
     obtain rfl:=hr_221d hg_243
     refine Dr.of_br (Br.skipG (o:=?o38) (v:=.top) (gw:=?gw38) (by simp only [go_sem,simprocAttr,false_implies,and_true,true_and,bad,hw11,hxs_212,hg_222,hg_242,hg_243,hr_245]; exact Is.mk) (by simp only [go_sem,simprocAttr,false_implies,and_true,true_and,bad,hw11,hxs_212,hg_222,hg_242,hg_243,hr_245]; exact Is.mk) (by simp only [go_sem,simprocAttr,false_implies,and_true,true_and,bad,hw11,hxs_212,hg_222,hg_242,hg_243,hr_245]; exact Is.mk) (by simp only [go_sem,simprocAttr,false_implies,and_true,true_and,bad,hw11,hxs_212,hg_222,hg_242,hg_243,hr_245]) ?cont38)
     simp only [go_sem,simprocAttr,false_implies,and_true,true_and,bad,hw11,hxs_212,hg_222,hg_242,hg_243,hr_245]
     first | refine hW22 _ _ _ _ ?_ hcont22 | refine ⟨sL,hW22 _ _ _ _ ?_ hcont22⟩
     simp only [go_sem,simprocAttr,false_implies,and_true,true_and,bad,hw11,hxs_212,hg_222,hg_242,hg_243,hr_245]
     try exact se3
  refine hK22 _ _ ?_
  refine cM hm (fun hc39 hm=>?_) (fun hc39 hm=>?_)
  ·refine Wp.exit ?_
   simp only [zk,zi,↓reduceIte]
   have hm:=hk_208 _ hm
   try dsimp only at hm
   refine hW7 _ _ _ _ ?_ (hcut7 (r_221.2,o1_171) hm)
   simp only [go_sem,simprocAttr,hw11,hxs_212]
   try exact se3
  ·refine Wp.skip ?_
   refine hK21 _ _ ?_
   obtain ⟨c_246,hm⟩:=zf hm
   obtain ⟨c_247,hm⟩:=zf hm
   refine Wp.regD (plan:=pl [(0,none),(1,none),(4,none),(5,none),(6,none),(7,none),(2,some [0,4,5,6,7]),(3,some [4,5,6,7]),(8,none),(9,none)]) (by kernel_rfl) rfl (by kernel_rfl) fun K40 hK40=>?_
   simp only [go_sem,simprocAttr,hw11,hxs_212]
   refine kA hK40 ?_
   refine hK12 _ _ ?_
   refine Wp.region fun K41 hK41=>?_
   simp only [go_sem,simprocAttr,hw11,hxs_212]
   refine kA hK41 ?_
   simp only [zk,zi,↓reduceIte]
   refine ⟨(List.drop ((IntKind.i64.wrap (r_213+1)).toNat) s_212,r_221.2,o1_171++[r_215.1]),hlt11,hnx_209 _ hm,?_⟩
   simp only [go_sem,simprocAttr,hw11,hxs_212]
   try exact se3
end Go.Proofs.YtmnohdgjkcjdeaaGreatDoor
