/- That the code does what the models say (part 6). -/
import Derived.Test.YtkekfenkeeiigaaDoorTdWk0
import Derived.Test.YtkekfenkeeiigaaDoorTdWk1
import Derived.Test.YtkekfenkeeiigaaDoorTdWk3
import Derived.Test.YtkekfenkeeiigaaDoorTdWk4
import Derived.Test.YtkekfenkeeiigaaDoorTdWk5
set_option linter.unusedSimpArgs false
set_option linter.unusedVariables false
namespace Go.Proofs.YtkekfenkeeiigaaDoor
open Go.Vc Go.Md
set_option maxRecDepth 100000
set_option maxHeartbeats 4000000
theorem ok_delta_Best (l_1:List api_Way) (sizes_2:List Int) (from_3:Int) (to_4:Int) (z:List Int × Int × Int) (hm:delta_Best l_1 sizes_2 from_3 to_4=some z):Does Tryd.prog 31 [.p (.l (List.map enc_api_Way l_1)),.p (.l (List.map ecI_i64 sizes_2)),.p (.i .i64 from_3),.p (.i .i64 to_4)] [] (fun r X=>r=.tup [.p (.l (List.map ecI_i64 z.1)),.p (.i .i64 z.2.1),.p (.i .i64 z.2.2)]∧X=[]):=by
 unfold delta_Best at hm
 refine Does.of_wp 0 107 [.tmp 8,.tmp 9,.tmp 10] Tryd.func31 rfl (by decide) rfl rfl (Nat.le_of_ble_eq_true rfl) fun B=>?_
 refine qS ?_
 refine Wp.seqW fun K2 hK2 hW2=>?_
 obtain ⟨r_5,hr_5,hm⟩:=call_elim hm
 refine Wp.seqR fun K3 hK3=>?_
 simp only [go_sem,simprocAttr]
 try refine ⟨sd,?_⟩
 refine Rg.callX (av:=?av4) (g:=true) (fun hg=>ok_delta_CheckWays l_1 sizes_2 _ hr_5) si si si sg si ?cont4
 intro hv4
 simp only [go_sem,simprocAttr]
 first | apply hK3 | refine ⟨sd,hK3 _ _ ?_⟩
 refine qS ?_
 refine cM hm (fun hc6 hm=>?_) (fun hc6 hm=>?_)
 ·refine qS ?_
  refine Wp.ret ?_
  simp only [thenQ,blockQ]
  refine retQ_retE ?_
  cases hm
  exact fse4
 ·refine Wp.skip ?_
  refine hK2 _ _ ?_
  refine Wp.seqW fun K8 hK8 hW8=>?_
  obtain ⟨v_6,hv_7,hm⟩:=letv_elim hm
  obtain ⟨r_8,hr_8,hm⟩:=call_elim hm
  obtain ⟨r_9,hr_9,hm⟩:=callG_elim hm
  refine Wp.seqR fun K9 hK9=>?_
  simp only [go_sem,simprocAttr,hv_7]
  try refine ⟨sd,?_⟩
  refine Rg.callX (av:=?av10) (g:=true) (fun hg=>ok_delta_outside to_4 0 v_6 _ hr_8) (by simp only [go_sem,simprocAttr,hv_7]; exact Is.mk) (by simp only [go_sem,simprocAttr,hv_7]; exact Is.mk) (by simp only [go_sem,simprocAttr,hv_7]; exact Is.mk) (by simp only [go_sem,simprocAttr,hv_7]) (by simp only [go_sem,simprocAttr,hv_7]; exact Is.mk) ?cont10
  intro hv10
  simp only [go_sem,simprocAttr,hv_7]
  try refine ⟨sd,?_⟩
  refine Rg.callX (av:=?av11) (g:=!r_8) (fun hg=>ok_delta_outside from_3 (-1) v_6 _ (hr_9 hg)) (by simp only [go_sem,simprocAttr,hv_7]; exact Is.mk) (by simp only [go_sem,simprocAttr,hv_7]; exact Is.mk) (by simp only [go_sem,simprocAttr,hv_7]; exact Is.mk) (by simp only [go_sem,simprocAttr,hv_7]) (by simp only [go_sem,simprocAttr,hv_7]; exact Is.mk) ?cont11
  intro hv11
  simp only [go_sem,simprocAttr,hv_7]
  first | apply hK9 | refine ⟨sd,hK9 _ _ ?_⟩
  refine cM hm (fun hc12 hm=>?_) (fun hc12 hm=>?_)
  ·refine Wp.seqR fun K13 hK13=>?_
   simp only [go_sem,simprocAttr,hv_7]
   first | apply hK13 | refine ⟨sd,hK13 _ _ ?_⟩
   refine Wp.ret ?_
   simp only [thenQ,blockQ]
   refine retQ_retE ?_
   cases hm
   simp only [go_sem,simprocAttr,hv_7]
   try exact se4
  ·refine Wp.skip ?_
   refine hK8 _ _ ?_
   obtain ⟨c_10,hm⟩:=chk_elim hm
   obtain ⟨v_11,hv_12,hm⟩:=letv_elim hm
   have hv_12m:=congrArg (List.map enc_delta_route) hv_12
   try simp only [List.map_append,List.map_cons,List.map_nil,List.map_set,List.map_replicate,enc_delta_route] at hv_12m
   refine Wp.seqR fun K14 hK14=>?_
   simp only [go_sem,simprocAttr,hv_7,hv_12,hv_12m]
   first | apply hK14 | refine ⟨by first | exact sd | ((repeat' apply And.intro) <;> first | assumption | omega | (simp only [List.length_append,List.length_map,List.length_cons,List.length_nil,List.length_set,List.length_replicate] at c_10 ⊢; omega)),hK14 _ _ ?_⟩
   refine Wp.seqR fun K15 hK15=>?_
   simp only [go_sem,simprocAttr,hv_7,hv_12,hv_12m]
   first | apply hK15 | refine ⟨sd,hK15 _ _ ?_⟩
   refine Wp.seqR fun K16 hK16=>?_
   simp only [go_sem,simprocAttr,hv_7,hv_12,hv_12m]
   first | apply hK16 | refine ⟨sd,hK16 _ _ ?_⟩
   refine Wp.seqW fun K17 hK17 hW17=>?_
   obtain ⟨k_19,hk_19,hm⟩:=jp_elim hm
   have hcut17:∀ s,k_19 s=some z→K17 [(3,.p (.i .i64 to_4)),(12,.ptr 3 0),(14,.fn 77 [.ptr 3 0,.ptr 4 0,.ptr 1 0,.ptr 0 0])] [.cells 58 [.p (.l (List.map enc_api_Way l_1))],.cells 57 [.p (.l (List.map ecI_i64 sizes_2))],.buf 115 4 (List.map enc_delta_route s),.cells 113 [.buf 2],.cells 117 [.fn 75 [.ptr 3 0]]]:=by
    intro o2_18 hs
    have hm:=hk_19 _ hs
    clear hs
    try dsimp only at hm
    try dsimp only
    refine hK17 _ _ ?_
    refine Wp.block ?_
    obtain ⟨k_301,hk_301,hm⟩:=loopN_cont hm
    refine Wp.loopN (fun s=>[(3,.p (.i .i64 to_4)),(12,.ptr 3 0),(14,.fn 77 [.ptr 3 0,.ptr 4 0,.ptr 1 0,.ptr 0 0])]) (fun s=>[.cells 58 [.p (.l (List.map enc_api_Way l_1))],.cells 57 [.p (.l (List.map ecI_i64 sizes_2))],.buf 115 4 (List.map enc_delta_route s),.cells 113 [.buf 2],.cells 117 [.fn 75 [.ptr 3 0]]]) ?_ hm ?_
    ·
     simp only [go_sem,simprocAttr,hv_7,hv_12,hv_12m]
     try exact se5
    clear hm
    intro o2_160 nx_302 hm
    try dsimp only at hm
    try dsimp only
    refine Wp.block ?_
    refine Wp.seqR fun K18 hK18=>?_
    simp only [go_sem,simprocAttr,hv_7,hv_12,hv_12m]
    first | apply hK18 | refine ⟨sd,hK18 _ _ ?_⟩
    refine Wp.seqW fun K19 hK19 hW19=>?_
    obtain ⟨k_364,hk_364,hm⟩:=jp_elim hm
    have hcut19:∀ s,k_364 s=some z→K19 [(3,.p (.i .i64 to_4)),(12,.ptr 3 0),(14,.fn 77 [.ptr 3 0,.ptr 4 0,.ptr 1 0,.ptr 0 0]),(15,.p (.i .i64 s))] [.cells 58 [.p (.l (List.map enc_api_Way l_1))],.cells 57 [.p (.l (List.map ecI_i64 sizes_2))],.buf 115 4 (List.map enc_delta_route o2_160),.cells 113 [.buf 2],.cells 117 [.fn 75 [.ptr 3 0]]]:=by
     intro best_363 hs
     have hm:=hk_364 _ hs
     clear hs
     try dsimp only at hm
     try dsimp only
     refine hK19 _ _ ?_
     refine Wp.seqW fun K20 hK20 hW20=>?_
     refine Wp.seqR fun K21 hK21=>?_
     simp only [go_sem,simprocAttr,hv_7,hv_12,hv_12m]
     first | apply hK21 | refine ⟨sd,hK21 _ _ ?_⟩
     refine cM hm (fun hc22 hm=>?_) (fun hc22 hm=>?_)
     ·obtain ⟨c_365,hm⟩:=chk_elim hm
      obtain ⟨v_366,hv_367,hm⟩:=letv_elim hm
      obtain ⟨c_368,hm⟩:=chk_elim hm
      obtain ⟨v_369,hv_370,hm⟩:=letv_elim hm
      have hr_371:=fun h=>getD_encB (l:=o2_160) (e:=enc_delta_route) (d:=(delta_route.mk 0 [] false false)) (i:=to_4.toNat) h []
      refine Wp.seqD (plan:=pl [(0,none),(1,none),(2,none),(3,none),(4,none),(5,none),(6,none),(7,none),(8,none),(9,none),(10,none),(11,none),(12,none)]) (by kernel_rfl) rfl (by kernel_rfl) fun K23 hK23=>?_
      simp only [go_sem,simprocAttr,hv_7,hv_12,hv_12m,hv_367,hv_370,hr_371 (by omega)]
      first | apply hK23 | refine ⟨by first | exact sd | ((repeat' apply And.intro) <;> first | assumption | omega | (simp only [List.length_append,List.length_map,List.length_cons,List.length_nil,List.length_set,List.length_replicate] at c_365 c_368 ⊢; omega)),hK23 _ _ ?_⟩
      refine Wp.ret ?_
      refine retQ_ret ?_
      cases hm
      simp only [go_sem,simprocAttr,hv_7,hv_12,hv_12m,hv_367,hv_370]
      try exact se5
     ·refine Wp.skip ?_
      refine hK20 _ _ ?_
      obtain ⟨c_372,hm⟩:=chk_elim hm
      obtain ⟨v_373,hv_374,hm⟩:=letv_elim hm
      have hv_374m:=congrArg (List.map enc_delta_route) hv_374
      try simp only [List.map_append,List.map_cons,List.map_nil,List.map_set,List.map_replicate,enc_delta_route] at hv_374m
      have hr_375:=fun h=>getD_encB (l:=o2_160) (e:=enc_delta_route) (d:=(delta_route.mk 0 [] false false)) (i:=best_363.toNat) h []
      refine Wp.seqR fun K24 hK24=>?_
      simp only [go_sem,simprocAttr,hv_7,hv_12,hv_12m,hv_374,hv_374m,hr_375 (by omega)]
      first | apply hK24 | refine ⟨by first | exact sd | ((repeat' apply And.intro) <;> first | assumption | omega | (simp only [List.length_append,List.length_map,List.length_cons,List.length_nil,List.length_set,List.length_replicate] at c_372 ⊢; omega)),hK24 _ _ ?_⟩
      obtain ⟨c_376,hm⟩:=chk_elim hm
      obtain ⟨v_377,hv_378,hm⟩:=letv_elim hm
      obtain ⟨v_379,hv_380,hm⟩:=letv_elim hm
      obtain ⟨r_381,hr_381,hm⟩:=call_elim hm
      have hr_382:=fun h=>getD_encB (l:=v_373) (e:=enc_delta_route) (d:=(delta_route.mk 0 [] false false)) (i:=best_363.toNat) h []
      refine Wp.region fun K25 hK25=>?_
      simp only [go_sem,simprocAttr,hv_7,hv_12,hv_12m,hv_374,hv_374m,hv_378,hv_380,hr_382 (by omega)]
      try refine ⟨by first | exact sd | ((repeat' apply And.intro) <;> first | assumption | omega | (simp only [List.length_append,List.length_map,List.length_cons,List.length_nil,List.length_set,List.length_replicate] at c_376 ⊢; omega)),?_⟩
      refine Rg.callO (av:=?av26) [3,2,4,1,0] (ok_delta_Best_2_i1 best_363 (delta_route.mk v_377 v_379 ((v_373.getD best_363.toNat (delta_route.mk 0 [] false false)).done) ((v_373.getD best_363.toNat (delta_route.mk 0 [] false false)).any)) v_373 sizes_2 l_1 _ hr_381) (by simp only [go_sem,simprocAttr,hv_7,hv_12,hv_12m,hv_374,hv_374m,hv_378,hv_380,hr_382 (by omega)]; exact Is.mk) (by simp only [go_sem,simprocAttr,hv_7,hv_12,hv_12m,hv_374,hv_374m,hv_378,hv_380,hr_382 (by omega)]; exact Is.mk) (by simp only [go_sem,simprocAttr,hv_7,hv_12,hv_12m,hv_374,hv_374m,hv_378,hv_380,hr_382 (by omega)]; exact Is.mk) (by simp only [go_sem,simprocAttr,hv_7,hv_12,hv_12m,hv_374,hv_374m,hv_378,hv_380,hr_382 (by omega)]) (by simp only [go_sem,simprocAttr,hv_7,hv_12,hv_12m,hv_374,hv_374m,hv_378,hv_380,hr_382 (by omega)]) ?cont26
      rintro _ _ ⟨rfl,rfl⟩ hv26
      simp only [go_sem,simprocAttr,hv_7,hv_12,hv_12m,hv_374,hv_374m,hv_378,hv_380,hr_382 (by omega)]
      first | apply hK25 | refine ⟨by first | exact sd | ((repeat' apply And.intro) <;> first | assumption | omega | (simp only [List.length_append,List.length_map,List.length_cons,List.length_nil,List.length_set,List.length_replicate] at c_376 ⊢; omega)),hK25 _ _ ?_⟩
      simp only [thenQ,blockQ,↓reduceIte]
      refine ⟨r_381,hm,?_⟩
      simp only [go_sem,simprocAttr,hv_7,hv_12,hv_12m,hv_374,hv_374m,hv_378,hv_380]
      try exact se5
    clear hK19 hk_364
    refine Wp.seqR fun K27 hK27=>?_
    simp only [go_sem,simprocAttr,hv_7,hv_12,hv_12m]
    first | apply hK27 | refine ⟨sd,hK27 _ _ ?_⟩
    refine Wp.block ?_
    obtain ⟨k_412,hk_412,hm⟩:=forC_cont hm
    refine Wp.factO 2 fun hl_415=>?_
    replace hl_415:o2_160.length≤274877906944:=by
     simp only [go_sem,simprocAttr,List.length_map] at hl_415
     omega
    refine Wp.forC (fun i_414 s=>[(3,.p (.i .i64 to_4)),(12,.ptr 3 0),(14,.fn 77 [.ptr 3 0,.ptr 4 0,.ptr 1 0,.ptr 0 0]),(15,.p (.i .i64 s)),(50,.buf 2),(51,.p (.i .i64 (o2_160.length:Int))),(52,.p (.i .i64 (i_414:Int)))]) (fun i_414 s=>[.cells 58 [.p (.l (List.map enc_api_Way l_1))],.cells 57 [.p (.l (List.map ecI_i64 sizes_2))],.buf 115 4 (List.map enc_delta_route o2_160),.cells 113 [.buf 2],.cells 117 [.fn 75 [.ptr 3 0]]]) ?_ hm ?_
    ·
     simp only [go_sem,simprocAttr,hv_7,hv_12,hv_12m]
     try exact se5
    clear hm
    intro i_414 best_383 hii_414 hm
    try dsimp only at hm
    try dsimp only
    refine Wp.seqR fun K28 hK28=>?_
    simp only [go_sem,simprocAttr,hv_7,hv_12,hv_12m]
    first | apply hK28 | refine ⟨sd,hK28 _ _ ?_⟩
    refine Wp.seqW fun K29 hK29 hW29=>?_
    refine Wp.cond rfl ⟨⟩ (fun hc29=>?_) (fun hc29=>?_)
    rotate_left
    ·refine Wp.exit ?_
     have hm:=hk_412 _ (forC_end hm (ge_nat (by first | exact hc29 | simpa using hc29)))
     try dsimp only at hm
     refine hW19 _ _ _ _ ?_ (hcut19 best_383 hm)
     simp only [go_sem,simprocAttr,hv_7,hv_12,hv_12m]
     try exact se5
    have hlt29:=lt_nat (by first | exact hc29 | simpa using hc29)
    have hw29:=wrap_succ hlt29 hl_415
    obtain ⟨nx_413,hnx_413,hm⟩:=forC_step hm hlt29
    refine Wp.skip ?_
    simp only [thenQ]
    refine hK29 _ _ ?_
    refine Wp.seqW fun K30 hK30 hW30=>?_
    refine Wp.block ?_
    obtain ⟨v_417,hv_418,hm⟩:=letv_elim hm
    obtain ⟨v_419,hv_420,hm⟩:=letv_elim hm
    have hr_421:=fun h=>getD_encB (l:=o2_160) (e:=enc_delta_route) (d:=(delta_route.mk 0 [] false false)) (i:=i_414) h []
    refine Wp.seqR fun K31 hK31=>?_
    simp only [go_sem,simprocAttr,hv_7,hv_12,hv_12m,hw29,hv_418,hv_420,hr_421 (by omega)]
    first | apply hK31 | refine ⟨sd,hK31 _ _ ?_⟩
    obtain ⟨c_422,hm⟩:=chk_elim hm
    obtain ⟨v_423,hv_424,hm⟩:=letv_elim hm
    obtain ⟨v_425,hv_426,hm⟩:=letv_elim hm
    obtain ⟨r_427,hr_427,hm⟩:=callG_elim hm
    refine Wp.seqDW (plan:=pl [(0,none),(1,none),(2,none),(3,none),(4,none),(5,none),(6,none),(7,none),(8,none),(9,none),(10,none),(11,none),(12,none),(13,none),(14,none),(15,none),(16,none),(17,none),(18,none),(19,none)]) (by kernel_rfl) rfl (by kernel_rfl) fun K32 hK32 hW32=>?_
    suffices hcont32:K32 [(3,.p (.i .i64 to_4)),(12,.ptr 3 0),(14,.fn 77 [.ptr 3 0,.ptr 4 0,.ptr 1 0,.ptr 0 0]),(15,.p (.i .i64 best_383)),(16,.p (.i .i64 (i_414:Int))),(17,.ptr 5 0),(50,.buf 2),(51,.p (.i .i64 (o2_160.length:Int))),(52,.p (.i .i64 (i_414:Int))),(53,.p (.b (decide ((i_414:Int) < (o2_160.length:Int))))),(54,.p (.i .i64 (i_414:Int))),(56,.agg [.p (.i .i64 v_417),.p (.l (List.map ecI_i64 v_419)),.p (.b ((o2_160.getD i_414 (delta_route.mk 0 [] false false)).done)),.p (.b ((o2_160.getD i_414 (delta_route.mk 0 [] false false)).any))]),(76,.p (.b ((((o2_160.getD i_414 (delta_route.mk 0 [] false false)).any) && (!((o2_160.getD i_414 (delta_route.mk 0 [] false false)).done))) && ((decide (best_383 < 0)) || (decide (r_427 < 0))))))] [.cells 58 [.p (.l (List.map enc_api_Way l_1))],.cells 57 [.p (.l (List.map ecI_i64 sizes_2))],.buf 115 4 (List.map enc_delta_route o2_160),.cells 113 [.buf 2],.cells 117 [.fn 75 [.ptr 3 0]],.cells 115 [.p (.i .i64 v_417),.p (.l (List.map ecI_i64 v_419)),.p (.b ((o2_160.getD i_414 (delta_route.mk 0 [] false false)).done)),.p (.b ((o2_160.getD i_414 (delta_route.mk 0 [] false false)).any))]] by
     rcases Bool.eq_false_or_eq_true ((o2_160.getD i_414 (delta_route.mk 0 [] false false)).any) with hg_428 | hg_428
     ·
      rcases Bool.eq_false_or_eq_true ((o2_160.getD i_414 (delta_route.mk 0 [] false false)).done) with hg_429 | hg_429
      ·
       have hg_430:((((o2_160.getD i_414 (delta_route.mk 0 [] false false)).any) && (!((o2_160.getD i_414 (delta_route.mk 0 [] false false)).done))) && (!(decide (best_383 < 0))))=false:=by revert hg_428 hg_429; generalize (o2_160.getD i_414 (delta_route.mk 0 [] false false)).done=x0; generalize (o2_160.getD i_414 (delta_route.mk 0 [] false false)).any=x1; generalize decide (best_383 < 0)=x2; revert x0 x1 x2; decide
       rcases Nat.lt_or_ge best_383.toNat o2_160.length with hi_431 | hi_431
       ·
        have hr_432:=getD_encB (l:=o2_160) (e:=enc_delta_route) (d:=(delta_route.mk 0 [] false false)) (i:=best_383.toNat) hi_431 []
        simp only [go_sem,simprocAttr,false_implies,and_true,true_and,bad,hv_7,hv_12,hv_12m,hw29,hv_418,hv_420,hv_424,hv_426,hg_428,hg_429,hg_430,hr_432]
        try refine ⟨by first | exact sd | ((repeat' apply And.intro) <;> first | assumption | omega | (simp only [List.length_append,List.length_map,List.length_cons,List.length_nil,List.length_set,List.length_replicate] at c_422 ⊢; omega)),?_⟩
        refine Dr.skipG (o:=?o33) (v:=.p (.i .i64 r_427)) (gw:=?gw33) (by simp only [go_sem,simprocAttr,false_implies,and_true,true_and,bad,hv_7,hv_12,hv_12m,hw29,hv_418,hv_420,hv_424,hv_426,hg_428,hg_429,hg_430,hr_432]; exact Is.mk) (by simp only [go_sem,simprocAttr,false_implies,and_true,true_and,bad,hv_7,hv_12,hv_12m,hw29,hv_418,hv_420,hv_424,hv_426,hg_428,hg_429,hg_430,hr_432]; exact Is.mk) (by simp only [go_sem,simprocAttr,false_implies,and_true,true_and,bad,hv_7,hv_12,hv_12m,hw29,hv_418,hv_420,hv_424,hv_426,hg_428,hg_429,hg_430,hr_432]; exact Is.mk) (by simp only [go_sem,simprocAttr,false_implies,and_true,true_and,bad,hv_7,hv_12,hv_12m,hw29,hv_418,hv_420,hv_424,hv_426,hg_428,hg_429,hg_430,hr_432]) ?cont33
        simp only [go_sem,simprocAttr,false_implies,and_true,true_and,bad,hv_7,hv_12,hv_12m,hw29,hv_418,hv_420,hv_424,hv_426,hg_428,hg_429,hg_430,hr_432]
        first | refine hW32 _ _ _ _ ?_ hcont32 | refine ⟨by first | exact sd | ((repeat' apply And.intro) <;> first | assumption | omega | (simp only [List.length_append,List.length_map,List.length_cons,List.length_nil,List.length_set,List.length_replicate] at c_422 ⊢; omega)),hW32 _ _ _ _ ?_ hcont32⟩
        simp only [go_sem,simprocAttr,false_implies,and_true,true_and,bad,hv_7,hv_12,hv_12m,hw29,hv_418,hv_420,hv_424,hv_426,hg_428,hg_429,hg_430,hr_432]
        try exact se5
       ·
        have hr_432:(List.map enc_delta_route o2_160).getD best_383.toNat []=[]:=by rw [List.getD_eq_getElem?_getD,List.getElem?_eq_none (by simpa using hi_431)]; rfl
        simp only [go_sem,simprocAttr,false_implies,and_true,true_and,bad,hv_7,hv_12,hv_12m,hw29,hv_418,hv_420,hv_424,hv_426,hg_428,hg_429,hg_430,hr_432]
        try refine ⟨by first | exact sd | ((repeat' apply And.intro) <;> first | assumption | omega | (simp only [List.length_append,List.length_map,List.length_cons,List.length_nil,List.length_set,List.length_replicate] at c_422 ⊢; omega)),?_⟩
        refine Dr.skipG (o:=?o34) (v:=.p (.i .i64 r_427)) (gw:=?gw34) (by simp only [go_sem,simprocAttr,false_implies,and_true,true_and,bad,hv_7,hv_12,hv_12m,hw29,hv_418,hv_420,hv_424,hv_426,hg_428,hg_429,hg_430,hr_432]; exact Is.mk) (by simp only [go_sem,simprocAttr,false_implies,and_true,true_and,bad,hv_7,hv_12,hv_12m,hw29,hv_418,hv_420,hv_424,hv_426,hg_428,hg_429,hg_430,hr_432]; exact Is.mk) (by simp only [go_sem,simprocAttr,false_implies,and_true,true_and,bad,hv_7,hv_12,hv_12m,hw29,hv_418,hv_420,hv_424,hv_426,hg_428,hg_429,hg_430,hr_432]; exact Is.mk) (by simp only [go_sem,simprocAttr,false_implies,and_true,true_and,bad,hv_7,hv_12,hv_12m,hw29,hv_418,hv_420,hv_424,hv_426,hg_428,hg_429,hg_430,hr_432]) ?cont34
        simp only [go_sem,simprocAttr,false_implies,and_true,true_and,bad,hv_7,hv_12,hv_12m,hw29,hv_418,hv_420,hv_424,hv_426,hg_428,hg_429,hg_430,hr_432]
        first | refine hW32 _ _ _ _ ?_ hcont32 | refine ⟨by first | exact sd | ((repeat' apply And.intro) <;> first | assumption | omega | (simp only [List.length_append,List.length_map,List.length_cons,List.length_nil,List.length_set,List.length_replicate] at c_422 ⊢; omega)),hW32 _ _ _ _ ?_ hcont32⟩
        simp only [go_sem,simprocAttr,false_implies,and_true,true_and,bad,hv_7,hv_12,hv_12m,hw29,hv_418,hv_420,hv_424,hv_426,hg_428,hg_429,hg_430,hr_432]
        try exact se5
      ·
       rcases Bool.eq_false_or_eq_true (decide (best_383 < 0)) with hg_433 | hg_433
       ·
        have hg_434:((((o2_160.getD i_414 (delta_route.mk 0 [] false false)).any) && (!((o2_160.getD i_414 (delta_route.mk 0 [] false false)).done))) && (!(decide (best_383 < 0))))=false:=by revert hg_428 hg_429 hg_433; generalize (o2_160.getD i_414 (delta_route.mk 0 [] false false)).done=x0; generalize (o2_160.getD i_414 (delta_route.mk 0 [] false false)).any=x1; generalize decide (best_383 < 0)=x2; revert x0 x1 x2; decide
        rcases Nat.lt_or_ge best_383.toNat o2_160.length with hi_435 | hi_435
        ·
         have hr_436:=getD_encB (l:=o2_160) (e:=enc_delta_route) (d:=(delta_route.mk 0 [] false false)) (i:=best_383.toNat) hi_435 []
         simp only [go_sem,simprocAttr,false_implies,and_true,true_and,bad,hv_7,hv_12,hv_12m,hw29,hv_418,hv_420,hv_424,hv_426,hg_428,hg_429,hg_433,hg_434,hr_436]
         try refine ⟨by first | exact sd | ((repeat' apply And.intro) <;> first | assumption | omega | (simp only [List.length_append,List.length_map,List.length_cons,List.length_nil,List.length_set,List.length_replicate] at c_422 ⊢; omega)),?_⟩
         refine Dr.skipG (o:=?o35) (v:=.p (.i .i64 r_427)) (gw:=?gw35) (by simp only [go_sem,simprocAttr,false_implies,and_true,true_and,bad,hv_7,hv_12,hv_12m,hw29,hv_418,hv_420,hv_424,hv_426,hg_428,hg_429,hg_433,hg_434,hr_436]; exact Is.mk) (by simp only [go_sem,simprocAttr,false_implies,and_true,true_and,bad,hv_7,hv_12,hv_12m,hw29,hv_418,hv_420,hv_424,hv_426,hg_428,hg_429,hg_433,hg_434,hr_436]; exact Is.mk) (by simp only [go_sem,simprocAttr,false_implies,and_true,true_and,bad,hv_7,hv_12,hv_12m,hw29,hv_418,hv_420,hv_424,hv_426,hg_428,hg_429,hg_433,hg_434,hr_436]; exact Is.mk) (by simp only [go_sem,simprocAttr,false_implies,and_true,true_and,bad,hv_7,hv_12,hv_12m,hw29,hv_418,hv_420,hv_424,hv_426,hg_428,hg_429,hg_433,hg_434,hr_436]) ?cont35
         simp only [go_sem,simprocAttr,false_implies,and_true,true_and,bad,hv_7,hv_12,hv_12m,hw29,hv_418,hv_420,hv_424,hv_426,hg_428,hg_429,hg_433,hg_434,hr_436]
         first | refine hW32 _ _ _ _ ?_ hcont32 | refine ⟨by first | exact sd | ((repeat' apply And.intro) <;> first | assumption | omega | (simp only [List.length_append,List.length_map,List.length_cons,List.length_nil,List.length_set,List.length_replicate] at c_422 ⊢; omega)),hW32 _ _ _ _ ?_ hcont32⟩
         simp only [go_sem,simprocAttr,false_implies,and_true,true_and,bad,hv_7,hv_12,hv_12m,hw29,hv_418,hv_420,hv_424,hv_426,hg_428,hg_429,hg_433,hg_434,hr_436]
         try exact se5
        ·
         have hr_436:(List.map enc_delta_route o2_160).getD best_383.toNat []=[]:=by rw [List.getD_eq_getElem?_getD,List.getElem?_eq_none (by simpa using hi_435)]; rfl
         simp only [go_sem,simprocAttr,false_implies,and_true,true_and,bad,hv_7,hv_12,hv_12m,hw29,hv_418,hv_420,hv_424,hv_426,hg_428,hg_429,hg_433,hg_434,hr_436]
         try refine ⟨by first | exact sd | ((repeat' apply And.intro) <;> first | assumption | omega | (simp only [List.length_append,List.length_map,List.length_cons,List.length_nil,List.length_set,List.length_replicate] at c_422 ⊢; omega)),?_⟩
         refine Dr.skipG (o:=?o36) (v:=.p (.i .i64 r_427)) (gw:=?gw36) (by simp only [go_sem,simprocAttr,false_implies,and_true,true_and,bad,hv_7,hv_12,hv_12m,hw29,hv_418,hv_420,hv_424,hv_426,hg_428,hg_429,hg_433,hg_434,hr_436]; exact Is.mk) (by simp only [go_sem,simprocAttr,false_implies,and_true,true_and,bad,hv_7,hv_12,hv_12m,hw29,hv_418,hv_420,hv_424,hv_426,hg_428,hg_429,hg_433,hg_434,hr_436]; exact Is.mk) (by simp only [go_sem,simprocAttr,false_implies,and_true,true_and,bad,hv_7,hv_12,hv_12m,hw29,hv_418,hv_420,hv_424,hv_426,hg_428,hg_429,hg_433,hg_434,hr_436]; exact Is.mk) (by simp only [go_sem,simprocAttr,false_implies,and_true,true_and,bad,hv_7,hv_12,hv_12m,hw29,hv_418,hv_420,hv_424,hv_426,hg_428,hg_429,hg_433,hg_434,hr_436]) ?cont36
         simp only [go_sem,simprocAttr,false_implies,and_true,true_and,bad,hv_7,hv_12,hv_12m,hw29,hv_418,hv_420,hv_424,hv_426,hg_428,hg_429,hg_433,hg_434,hr_436]
         first | refine hW32 _ _ _ _ ?_ hcont32 | refine ⟨by first | exact sd | ((repeat' apply And.intro) <;> first | assumption | omega | (simp only [List.length_append,List.length_map,List.length_cons,List.length_nil,List.length_set,List.length_replicate] at c_422 ⊢; omega)),hW32 _ _ _ _ ?_ hcont32⟩
         simp only [go_sem,simprocAttr,false_implies,and_true,true_and,bad,hv_7,hv_12,hv_12m,hw29,hv_418,hv_420,hv_424,hv_426,hg_428,hg_429,hg_433,hg_434,hr_436]
         try exact se5
       ·
        have hg_437:((((o2_160.getD i_414 (delta_route.mk 0 [] false false)).any) && (!((o2_160.getD i_414 (delta_route.mk 0 [] false false)).done))) && (!(decide (best_383 < 0))))=true:=by revert hg_428 hg_429 hg_433; generalize (o2_160.getD i_414 (delta_route.mk 0 [] false false)).done=x0; generalize (o2_160.getD i_414 (delta_route.mk 0 [] false false)).any=x1; generalize decide (best_383 < 0)=x2; revert x0 x1 x2; decide
        have c_438:=c_422 hg_437
        try dsimp only at c_438
        have hr_439:=fun h=>getD_encB (l:=o2_160) (e:=enc_delta_route) (d:=(delta_route.mk 0 [] false false)) (i:=best_383.toNat) h []
        simp only [go_sem,simprocAttr,false_implies,and_true,true_and,bad,hv_7,hv_12,hv_12m,hw29,hv_418,hv_420,hv_424,hv_426,hg_428,hg_429,hg_433,hg_437,hr_439 (by omega)]
        try refine ⟨by first | exact sd | ((repeat' apply And.intro) <;> first | assumption | omega | (simp only [List.length_append,List.length_map,List.length_cons,List.length_nil,List.length_set,List.length_replicate] at c_422 c_438 ⊢; omega)),?_⟩
        refine Dr.callF (av:=?av37) (g:=((((o2_160.getD i_414 (delta_route.mk 0 [] false false)).any) && (!((o2_160.getD i_414 (delta_route.mk 0 [] false false)).done))) && (!(decide (best_383 < 0))))) (o:=?o37) (fun hg=>ok_delta_compareRoutes (delta_route.mk v_417 v_419 ((o2_160.getD i_414 (delta_route.mk 0 [] false false)).done) ((o2_160.getD i_414 (delta_route.mk 0 [] false false)).any)) (delta_route.mk v_423 v_425 ((o2_160.getD best_383.toNat (delta_route.mk 0 [] false false)).done) ((o2_160.getD best_383.toNat (delta_route.mk 0 [] false false)).any)) _ (hr_427 hg)) (by simp only [go_sem,simprocAttr,false_implies,and_true,true_and,bad,hv_7,hv_12,hv_12m,hw29,hv_418,hv_420,hv_424,hv_426,hg_428,hg_429,hg_433,hg_437,hr_439 (by omega)]; exact Is.mk) (by simp only [go_sem,simprocAttr,false_implies,and_true,true_and,bad,hv_7,hv_12,hv_12m,hw29,hv_418,hv_420,hv_424,hv_426,hg_428,hg_429,hg_433,hg_437,hr_439 (by omega)]; exact Is.mk) (by simp only [go_sem,simprocAttr,false_implies,and_true,true_and,bad,hv_7,hv_12,hv_12m,hw29,hv_418,hv_420,hv_424,hv_426,hg_428,hg_429,hg_433,hg_437,hr_439 (by omega)]; exact Is.mk) (by simp only [go_sem,simprocAttr,false_implies,and_true,true_and,bad,hv_7,hv_12,hv_12m,hw29,hv_418,hv_420,hv_424,hv_426,hg_428,hg_429,hg_433,hg_437,hr_439 (by omega)]; exact Is.mk) (by simp only [go_sem,simprocAttr,false_implies,and_true,true_and,bad,hv_7,hv_12,hv_12m,hw29,hv_418,hv_420,hv_424,hv_426,hg_428,hg_429,hg_433,hg_437,hr_439 (by omega)]) (by simp only [go_sem,simprocAttr,false_implies,and_true,true_and,bad,hv_7,hv_12,hv_12m,hw29,hv_418,hv_420,hv_424,hv_426,hg_428,hg_429,hg_433,hg_437,hr_439 (by omega)]; exact Is.mk) ?cont37
        simp only [go_sem,simprocAttr,false_implies,and_true,true_and,bad,hv_7,hv_12,hv_12m,hw29,hv_418,hv_420,hv_424,hv_426,hg_428,hg_429,hg_433,hg_437,hr_439 (by omega)]
        first | refine hW32 _ _ _ _ ?_ hcont32 | refine ⟨by first | exact sd | ((repeat' apply And.intro) <;> first | assumption | omega | (simp only [List.length_append,List.length_map,List.length_cons,List.length_nil,List.length_set,List.length_replicate] at c_422 c_438 ⊢; omega)),hW32 _ _ _ _ ?_ hcont32⟩
        simp only [go_sem,simprocAttr,false_implies,and_true,true_and,bad,hv_7,hv_12,hv_12m,hw29,hv_418,hv_420,hv_424,hv_426,hg_428,hg_429,hg_433,hg_437,hr_439 (by omega)]
        try exact se5
     ·
      have hg_440:((((o2_160.getD i_414 (delta_route.mk 0 [] false false)).any) && (!((o2_160.getD i_414 (delta_route.mk 0 [] false false)).done))) && (!(decide (best_383 < 0))))=false:=by revert hg_428; generalize (o2_160.getD i_414 (delta_route.mk 0 [] false false)).done=x0; generalize (o2_160.getD i_414 (delta_route.mk 0 [] false false)).any=x1; generalize decide (best_383 < 0)=x2; revert x0 x1 x2; decide
      rcases Nat.lt_or_ge best_383.toNat o2_160.length with hi_441 | hi_441
      ·
       have hr_442:=getD_encB (l:=o2_160) (e:=enc_delta_route) (d:=(delta_route.mk 0 [] false false)) (i:=best_383.toNat) hi_441 []
       simp only [go_sem,simprocAttr,false_implies,and_true,true_and,bad,hv_7,hv_12,hv_12m,hw29,hv_418,hv_420,hv_424,hv_426,hg_428,hg_440,hr_442]
       try refine ⟨by first | exact sd | ((repeat' apply And.intro) <;> first | assumption | omega | (simp only [List.length_append,List.length_map,List.length_cons,List.length_nil,List.length_set,List.length_replicate] at c_422 ⊢; omega)),?_⟩
       refine Dr.skipG (o:=?o38) (v:=.p (.i .i64 r_427)) (gw:=?gw38) (by simp only [go_sem,simprocAttr,false_implies,and_true,true_and,bad,hv_7,hv_12,hv_12m,hw29,hv_418,hv_420,hv_424,hv_426,hg_428,hg_440,hr_442]; exact Is.mk) (by simp only [go_sem,simprocAttr,false_implies,and_true,true_and,bad,hv_7,hv_12,hv_12m,hw29,hv_418,hv_420,hv_424,hv_426,hg_428,hg_440,hr_442]; exact Is.mk) (by simp only [go_sem,simprocAttr,false_implies,and_true,true_and,bad,hv_7,hv_12,hv_12m,hw29,hv_418,hv_420,hv_424,hv_426,hg_428,hg_440,hr_442]; exact Is.mk) (by simp only [go_sem,simprocAttr,false_implies,and_true,true_and,bad,hv_7,hv_12,hv_12m,hw29,hv_418,hv_420,hv_424,hv_426,hg_428,hg_440,hr_442]) ?cont38
       simp only [go_sem,simprocAttr,false_implies,and_true,true_and,bad,hv_7,hv_12,hv_12m,hw29,hv_418,hv_420,hv_424,hv_426,hg_428,hg_440,hr_442]
       first | refine hW32 _ _ _ _ ?_ hcont32 | refine ⟨by first | exact sd | ((repeat' apply And.intro) <;> first | assumption | omega | (simp only [List.length_append,List.length_map,List.length_cons,List.length_nil,List.length_set,List.length_replicate] at c_422 ⊢; omega)),hW32 _ _ _ _ ?_ hcont32⟩
       simp only [go_sem,simprocAttr,false_implies,and_true,true_and,bad,hv_7,hv_12,hv_12m,hw29,hv_418,hv_420,hv_424,hv_426,hg_428,hg_440,hr_442]
       try exact se5
      ·
       have hr_442:(List.map enc_delta_route o2_160).getD best_383.toNat []=[]:=by rw [List.getD_eq_getElem?_getD,List.getElem?_eq_none (by simpa using hi_441)]; rfl
       simp only [go_sem,simprocAttr,false_implies,and_true,true_and,bad,hv_7,hv_12,hv_12m,hw29,hv_418,hv_420,hv_424,hv_426,hg_428,hg_440,hr_442]
       try refine ⟨by first | exact sd | ((repeat' apply And.intro) <;> first | assumption | omega | (simp only [List.length_append,List.length_map,List.length_cons,List.length_nil,List.length_set,List.length_replicate] at c_422 ⊢; omega)),?_⟩
       refine Dr.skipG (o:=?o39) (v:=.p (.i .i64 r_427)) (gw:=?gw39) (by simp only [go_sem,simprocAttr,false_implies,and_true,true_and,bad,hv_7,hv_12,hv_12m,hw29,hv_418,hv_420,hv_424,hv_426,hg_428,hg_440,hr_442]; exact Is.mk) (by simp only [go_sem,simprocAttr,false_implies,and_true,true_and,bad,hv_7,hv_12,hv_12m,hw29,hv_418,hv_420,hv_424,hv_426,hg_428,hg_440,hr_442]; exact Is.mk) (by simp only [go_sem,simprocAttr,false_implies,and_true,true_and,bad,hv_7,hv_12,hv_12m,hw29,hv_418,hv_420,hv_424,hv_426,hg_428,hg_440,hr_442]; exact Is.mk) (by simp only [go_sem,simprocAttr,false_implies,and_true,true_and,bad,hv_7,hv_12,hv_12m,hw29,hv_418,hv_420,hv_424,hv_426,hg_428,hg_440,hr_442]) ?cont39
       simp only [go_sem,simprocAttr,false_implies,and_true,true_and,bad,hv_7,hv_12,hv_12m,hw29,hv_418,hv_420,hv_424,hv_426,hg_428,hg_440,hr_442]
       first | refine hW32 _ _ _ _ ?_ hcont32 | refine ⟨by first | exact sd | ((repeat' apply And.intro) <;> first | assumption | omega | (simp only [List.length_append,List.length_map,List.length_cons,List.length_nil,List.length_set,List.length_replicate] at c_422 ⊢; omega)),hW32 _ _ _ _ ?_ hcont32⟩
       simp only [go_sem,simprocAttr,false_implies,and_true,true_and,bad,hv_7,hv_12,hv_12m,hw29,hv_418,hv_420,hv_424,hv_426,hg_428,hg_440,hr_442]
       try exact se5
    refine hK32 _ _ ?_
    refine cM hm (fun hc40 hm=>?_) (fun hc40 hm=>?_)
    ·refine Wp.region fun K41 hK41=>?_
     simp only [go_sem,simprocAttr,hv_7,hv_12,hv_12m,hw29,hv_418,hv_420,hv_424,hv_426]
     first | apply hK41 | refine ⟨sd,hK41 _ _ ?_⟩
     refine hK30 _ _ ?_
     refine Wp.region fun K42 hK42=>?_
     simp only [go_sem,simprocAttr,hv_7,hv_12,hv_12m,hw29,hv_418,hv_420,hv_424,hv_426]
     first | apply hK42 | refine ⟨sd,hK42 _ _ ?_⟩
     simp only [thenQ,blockQ,↓reduceIte]
     refine ⟨(i_414:Int),hlt29,hnx_413 _ hm,?_⟩
     simp only [go_sem,simprocAttr,hv_7,hv_12,hv_12m,hw29,hv_418,hv_420,hv_424,hv_426]
     try exact se5
    ·refine Wp.skip ?_
     refine hK30 _ _ ?_
     refine Wp.region fun K43 hK43=>?_
     simp only [go_sem,simprocAttr,hv_7,hv_12,hv_12m,hw29,hv_418,hv_420,hv_424,hv_426]
     first | apply hK43 | refine ⟨sd,hK43 _ _ ?_⟩
     simp only [thenQ,blockQ,↓reduceIte]
     refine ⟨best_383,hlt29,hnx_413 _ hm,?_⟩
     simp only [go_sem,simprocAttr,hv_7,hv_12,hv_12m,hw29,hv_418,hv_420,hv_424,hv_426]
     try exact se5
   clear hK17 hk_19
   refine Wp.seqR fun K44 hK44=>?_
   simp only [go_sem,simprocAttr,hv_7,hv_12,hv_12m]
   first | apply hK44 | refine ⟨sd,hK44 _ _ ?_⟩
   refine cM hm (fun hc45 hm=>?_) (fun hc45 hm=>?_)
   ·obtain ⟨r_443,hr_443,hm⟩:=call_elim hm
    refine Wp.region fun K46 hK46=>?_
    simp only [go_sem,simprocAttr,hv_7,hv_12,hv_12m]
    try refine ⟨sd,?_⟩
    refine Rg.callO (av:=?av47) [3,2,4,1,0] (ok_delta_Best_2_i1 (-1) (delta_route.mk 0 [] false false) v_11 sizes_2 l_1 _ hr_443) (by simp only [go_sem,simprocAttr,hv_7,hv_12,hv_12m]; exact Is.mk) (by simp only [go_sem,simprocAttr,hv_7,hv_12,hv_12m]; exact Is.mk) (by simp only [go_sem,simprocAttr,hv_7,hv_12,hv_12m]; exact Is.mk) (by simp only [go_sem,simprocAttr,hv_7,hv_12,hv_12m]) (by simp only [go_sem,simprocAttr,hv_7,hv_12,hv_12m]) ?cont47
    rintro _ _ ⟨rfl,rfl⟩ hv47
    simp only [go_sem,simprocAttr,hv_7,hv_12,hv_12m]
    first | apply hK46 | refine ⟨sd,hK46 _ _ ?_⟩
    refine hW17 _ _ _ _ ?_ (hcut17 r_443 hm)
    simp only [go_sem,simprocAttr,hv_7,hv_12,hv_12m]
    try exact se5
   ·obtain ⟨c_444,hm⟩:=chk_elim hm
    obtain ⟨v_445,hv_446,hm⟩:=letv_elim hm
    have hv_446m:=congrArg (List.map enc_delta_route) hv_446
    try simp only [List.map_append,List.map_cons,List.map_nil,List.map_set,List.map_replicate,enc_delta_route] at hv_446m
    have hr_447:=fun h=>getD_encB (l:=v_11) (e:=enc_delta_route) (d:=(delta_route.mk 0 [] false false)) (i:=from_3.toNat) h []
    refine Wp.region fun K48 hK48=>?_
    simp only [go_sem,simprocAttr,hv_7,hv_12,hv_12m,hv_446,hv_446m,hr_447 (by omega)]
    first | apply hK48 | refine ⟨by first | exact sd | ((repeat' apply And.intro) <;> first | assumption | omega | (simp only [List.length_append,List.length_map,List.length_cons,List.length_nil,List.length_set,List.length_replicate] at c_444 ⊢; omega)),hK48 _ _ ?_⟩
    refine hW17 _ _ _ _ ?_ (hcut17 v_445 hm)
    simp only [go_sem,simprocAttr,hv_7,hv_12,hv_12m,hv_446,hv_446m]
    try exact se5
theorem ok_strings_Builder_copyCheck_i1 (o1_1:Str) (z:Unit) (hm:strings_Builder_copyCheck_i1 o1_1=some z):Does Tryd.prog 99 [.ptr 0 0] [.cells 81 [.nil,.buf 1],.sb 5 o1_1] (fun r X=>r=.tup []∧X=[.cells 81 [.ptr 0 0,.buf 1],.sb 5 o1_1]):=by
 unfold strings_Builder_copyCheck_i1 at hm
 refine Does.of_wp 2 20 [] Tryd.func99 rfl (by decide) rfl rfl (Nat.le_of_ble_eq_true rfl) fun B=>?_
 refine qS ?_
 refine Wp.cond rfl ⟨⟩ (fun hc2=>?_) (fun hc2=>?_)
 rotate_left
 ·cases hc2
 refine Wp.region fun K3 hK3=>?_
 simp only [go_sem,simprocAttr]
 try refine ⟨sd,?_⟩
 refine Rg.callI (v:=?av4) (g:=true) nvi_115 si si sg ?cont4
 simp only [go_sem,simprocAttr]
 first | apply hK3 | refine ⟨sd,hK3 _ _ ?_⟩
 refine retQ_normal ?_
 cases hm
 exact fse5
theorem ok_strings_Builder_copyCheck_i2 (o1_1:Str) (z:Unit) (hm:strings_Builder_copyCheck_i2 o1_1=some z):Does Tryd.prog 99 [.ptr 0 0] [.cells 81 [.ptr 0 0,.buf 1],.sb 5 o1_1] (fun r X=>r=.tup []∧X=[.cells 81 [.ptr 0 0,.buf 1],.sb 5 o1_1]):=by
 unfold strings_Builder_copyCheck_i2 at hm
 refine Does.of_wp 2 20 [] Tryd.func99 rfl (by decide) rfl rfl (Nat.le_of_ble_eq_true rfl) fun B=>?_
 refine qS ?_
 refine Wp.cond rfl ⟨⟩ (fun hc2=>?_) (fun hc2=>?_)
 ·cases hc2
 refine qS ?_
 refine Wp.cond rfl ⟨⟩ (fun hc4=>?_) (fun hc4=>?_)
 ·cases hc4
 refine Wp.skip ?_
 refine retQ_normal ?_
 cases hm
 exact fse5
theorem ok_strings_Builder_copyCheck_np (o0:Str) (z:Unit) (hm:strings_Builder_copyCheck_np o0=some z):Does Tryd.prog 99 [.ptr 0 0] [.cells 81 [.np 0,.buf 1],.sb 5 o0] (fun r X=>r=.tup []∧X=[.cells 81 [.np 0,.buf 1],.sb 5 o0]) :=
 Does.np (ok_strings_Builder_copyCheck_i1 o0 () rfl) (ok_strings_Builder_copyCheck_i2 o0 () rfl)
theorem ok_strings_Builder_WriteString_i1 (s_1:Str) (o1_2:Str) (z:Int × Str) (hm:strings_Builder_WriteString_i1 s_1 o1_2=some z):Does Tryd.prog 50 [.ptr 0 0,.p (.s s_1)] [.cells 81 [.np 0,.buf 1],.sb 5 o1_2] (fun r X=>r=.tup [.p (.i .i64 z.1),.raw .nilIface]∧X=[.cells 81 [.np 0,.buf 1],.sb 5 z.2]):=by
 unfold strings_Builder_WriteString_i1 at hm
 refine Does.of_wp 2 19 [.tmp 4,.tmp 5] Tryd.func50 rfl (by decide) rfl rfl (Nat.le_of_ble_eq_true rfl) fun B=>?_
 refine qS ?_
 obtain ⟨r_5,hr_5,hm⟩:=call_elim hm
 refine Wp.seqR fun K2 hK2=>?_
 simp only [go_sem,simprocAttr]
 try refine ⟨sd,?_⟩
 refine Rg.callO (av:=?av3) [0,1] (ok_strings_Builder_copyCheck_np o1_2 _ hr_5) si si si sg sg ?cont3
 rintro _ _ ⟨rfl,rfl⟩ hv3
 simp only [go_sem,simprocAttr]
 first | apply hK2 | refine ⟨sd,hK2 _ _ ?_⟩
 obtain ⟨c_6,hm⟩:=chk_elim hm
 refine Wp.seqR fun K4 hK4=>?_
 simp only [go_sem,simprocAttr]
 first | apply hK4 | refine ⟨by first | exact sd | ((repeat' apply And.intro) <;> first | assumption | omega | (simp only [List.length_append,List.length_map,List.length_cons,List.length_nil,List.length_set,List.length_replicate] at c_6 ⊢; omega)),hK4 _ _ ?_⟩
 refine qS ?_
 refine Wp.ret ?_
 refine retQ_ret ?_
 cases hm
 exact fse5
theorem ok_strings_Builder_String_i1 (o1_1:Str) (z:Str) (hm:strings_Builder_String_i1 o1_1=some z):Does Tryd.prog 52 [.ptr 0 0] [.cells 81 [.np 0,.buf 1],.sb 5 o1_1] (fun r X=>r=.p (.s z)∧X=[.cells 81 [.np 0,.buf 1],.sb 5 o1_1]):=by
 unfold strings_Builder_String_i1 at hm
 refine Does.of_wp 2 14 [.tmp 2] Tryd.func52 rfl (by decide) rfl rfl (Nat.le_of_ble_eq_true rfl) fun B=>?_
 refine qS ?_
 refine Wp.seqD (plan:=pl [(0,none),(1,none),(2,none),(3,none),(5,none),(6,none),(7,none),(8,none),(9,none),(4,some [5,6,7,8,9]),(10,some []),(11,none)]) (by kernel_rfl) rfl (by kernel_rfl) fun K2 hK2=>?_
 simp only [go_sem,simprocAttr]
 first | apply hK2 | refine ⟨sd,hK2 _ _ ?_⟩
 refine Wp.ret ?_
 refine retQ_ret ?_
 cases hm
 exact fse5
theorem ok_delta_Apply (a_1:Str) (d_2:api_Delta) (z:Str × Int) (hm:delta_Apply a_1 d_2=some z):Does Tryd.prog 21 [.p (.s a_1),.agg [.p (.i .i64 d_2.Old),.p (.i .i64 d_2.New),.p (.s d_2.OldSum),.p (.s d_2.NewSum),.p (.l (List.map enc_api_Piece d_2.Pieces))]] [] (fun r X=>r=.tup [.p (.s z.1),.p (.i .i64 z.2)]∧X=[]):=by
 unfold delta_Apply at hm
 refine Does.of_wp 0 57 [.tmp 4,.tmp 5] Tryd.func21 rfl (by decide) rfl rfl (Nat.le_of_ble_eq_true rfl) fun B=>?_
 refine qS ?_
 refine Wp.seqW fun K2 hK2 hW2=>?_
 obtain ⟨r_3,hr_3,hm⟩:=call_elim hm
 refine Wp.seqR fun K3 hK3=>?_
 simp only [go_sem,simprocAttr]
 try refine ⟨sd,?_⟩
 refine Rg.callX (av:=?av4) (g:=true) (fun hg=>ok_delta_Check d_2 _ hr_3) si si si sg si ?cont4
 intro hv4
 simp only [go_sem,simprocAttr]
 first | apply hK3 | refine ⟨sd,hK3 _ _ ?_⟩
 refine qS ?_
 refine cM hm (fun hc6 hm=>?_) (fun hc6 hm=>?_)
 ·refine qS ?_
  refine Wp.ret ?_
  refine retQ_ret ?_
  cases hm
  exact fse5
 ·refine Wp.skip ?_
  refine hK2 _ _ ?_
  refine Wp.seqW fun K8 hK8 hW8=>?_
  obtain ⟨r_4,hr_4,hm⟩:=callG_elim hm
  refine Wp.seqD (plan:=pl [(0,none),(1,none),(2,none),(3,none),(4,none),(5,none),(6,none),(7,none),(8,none),(9,none),(10,none),(11,none)]) (by kernel_rfl) rfl (by kernel_rfl) fun K9 hK9=>?_
  simp only [go_sem,simprocAttr]
  try refine ⟨sd,?_⟩
  refine Dr.callF (av:=?av10) (g:=!(!decide ((a_1.length:Int)=d_2.Old))) (o:=?o10) (fun hg=>ok_disk_SumOf a_1 _ (hr_4 hg)) si si si si sg si ?cont10
  simp only [go_sem,simprocAttr]
  first | apply hK9 | refine ⟨sd,hK9 _ _ ?_⟩
  refine cM hm (fun hc11 hm=>?_) (fun hc11 hm=>?_)
  ·refine qS ?_
   refine Wp.ret ?_
   refine retQ_ret ?_
   cases hm
   exact fse5
  ·refine Wp.skip ?_
   refine hK8 _ _ ?_
   refine qS ?_
   refine Wp.adoptB 1 5 rfl ?_
   simp only [go_sem,simprocAttr]
   refine Wp.seqW fun K14 hK14 hW14=>?_
   obtain ⟨k_25,hk_25,hm⟩:=jp_elim hm
   have hcut14:∀ s,k_25 s=some z→K14 [(3,.ptr 0 0),(7,.ptr 1 0)] [.cells 41 [.p (.i .i64 d_2.Old),.p (.i .i64 d_2.New),.p (.s d_2.OldSum),.p (.s d_2.NewSum),.p (.l (List.map enc_api_Piece d_2.Pieces))],.cells 81 [.np 1,.buf 2],.sb 5 s]:=by
    intro o2_24 hs
    have hm:=hk_25 _ hs
    clear hs
    try dsimp only at hm
    try dsimp only
    refine hK14 _ _ ?_
    refine Wp.seqW fun K15 hK15 hW15=>?_
    obtain ⟨r_27,hr_27,hm⟩:=call_elim hm
    obtain ⟨r_28,hr_28,hm⟩:=call_elim hm
    refine Wp.seqD (plan:=pl [(2,none),(3,none),(0,some [2,3]),(1,none),(4,none)]) (by kernel_rfl) rfl (by kernel_rfl) fun K16 hK16=>?_
    simp only [go_sem,simprocAttr]
    try refine ⟨sd,?_⟩
    refine Dr.of_br (Br.callS (av:=?av17) (o:=?o17) 2 [1,2] (ok_strings_Builder_String_i1 o2_24 _ hr_27) si si si si si sg sg sg sg ?cont17)
    simp only [go_sem,simprocAttr]
    try refine ⟨sd,?_⟩
    refine Dr.callF (av:=?av18) (g:=true) (o:=?o18) (fun hg=>ok_disk_SumOf r_27 _ hr_28) si si si si sg si ?cont18
    simp only [go_sem,simprocAttr]
    first | apply hK16 | refine ⟨sd,hK16 _ _ ?_⟩
    refine cM hm (fun hc19 hm=>?_) (fun hc19 hm=>?_)
    ·refine qS ?_
     refine Wp.ret ?_
     refine retQ_ret ?_
     cases hm
     exact fse5
    ·refine Wp.skip ?_
     refine hK15 _ _ ?_
     obtain ⟨r_29,hr_29,hm⟩:=call_elim hm
     refine Wp.seqR fun K21 hK21=>?_
     simp only [go_sem,simprocAttr]
     try refine ⟨sd,?_⟩
     refine Rg.callO (av:=?av22) [1,2] (ok_strings_Builder_String_i1 o2_24 _ hr_29) si si si sg sg ?cont22
     rintro _ _ ⟨rfl,rfl⟩ hv22
     simp only [go_sem,simprocAttr]
     first | apply hK21 | refine ⟨sd,hK21 _ _ ?_⟩
     refine Wp.ret ?_
     refine retQ_ret ?_
     cases hm
     exact fse5
   clear hK14 hk_25
   refine qS ?_
   refine Wp.block ?_
   obtain ⟨k_41,hk_41,hm⟩:=forL_cont hm
   refine Wp.fact 28 fun hl_44=>?_
   replace hl_44:d_2.Pieces.length≤274877906944:=by
    simp only [go_sem,simprocAttr,List.length_map] at hl_44
    omega
   refine Wp.forL (fun i_43 s=>[(0,.p (.s a_1)),(3,.ptr 0 0),(7,.ptr 1 0),(28,.p (.l (List.map enc_api_Piece d_2.Pieces))),(29,.p (.i .i64 (d_2.Pieces.length:Int))),(30,.p (.i .i64 (i_43:Int)))]) (fun i_43 s=>[.cells 41 [.p (.i .i64 d_2.Old),.p (.i .i64 d_2.New),.p (.s d_2.OldSum),.p (.s d_2.NewSum),.p (.l (List.map enc_api_Piece d_2.Pieces))],.cells 81 [.np 1,.buf 2],.sb 5 s]) ?_ hm ?_
   ·
    exact fse5
   clear hm
   intro i_43 o2_36 hii_43 hm
   try dsimp only at hm
   try dsimp only
   refine qS ?_
   refine Wp.seqW fun K25 hK25 hW25=>?_
   refine Wp.cond rfl ⟨⟩ (fun hc25=>?_) (fun hc25=>?_)
   rotate_left
   ·refine Wp.exit ?_
    have hm:=hk_41 _ (forL_end hm (ge_nat (by first | exact hc25 | simpa using hc25)))
    try dsimp only at hm
    refine hW14 _ _ _ _ ?_ (hcut14 o2_36 hm)
    exact fse5
   have hlt25:=lt_nat (by first | exact hc25 | simpa using hc25)
   have hw25:=wrap_succ hlt25 hl_44
   obtain ⟨p_45,nx_42,hxp_45,hyp_45,hnx_42,hm⟩:=forL_step hm hlt25
   replace hxp_45:=hxp_45 enc_api_Piece
   refine Wp.skip ?_
   simp only [thenQ]
   refine hK25 _ _ ?_
   refine Wp.seqW fun K26 hK26 hW26=>?_
   refine Wp.block ?_
   refine Wp.seqR fun K27 hK27=>?_
   simp only [go_sem,simprocAttr,hw25,hxp_45]
   first | apply hK27 | refine ⟨sd,hK27 _ _ ?_⟩
   refine Wp.seqR fun K28 hK28=>?_
   simp only [go_sem,simprocAttr,hw25,hxp_45]
   first | apply hK28 | refine ⟨sd,hK28 _ _ ?_⟩
   refine cM hm (fun hc29 hm=>?_) (fun hc29 hm=>?_)
   ·obtain ⟨r_46,hr_46,hm⟩:=call_elim hm
    refine Wp.region fun K30 hK30=>?_
    simp only [go_sem,simprocAttr,hw25,hxp_45]
    try refine ⟨sd,?_⟩
    refine Rg.callO (av:=?av31) [1,2] (ok_strings_Builder_WriteString_i1 p_45.Data o2_36 _ hr_46) (by simp only [go_sem,simprocAttr,hw25,hxp_45]; exact Is.mk) (by simp only [go_sem,simprocAttr,hw25,hxp_45]; exact Is.mk) (by simp only [go_sem,simprocAttr,hw25,hxp_45]; exact Is.mk) (by simp only [go_sem,simprocAttr,hw25,hxp_45]) (by simp only [go_sem,simprocAttr,hw25,hxp_45]) ?cont31
    rintro _ _ ⟨rfl,rfl⟩ hv31
    simp only [go_sem,simprocAttr,hw25,hxp_45]
    first | apply hK30 | refine ⟨sd,hK30 _ _ ?_⟩
    refine hK26 _ _ ?_
    refine Wp.region fun K32 hK32=>?_
    simp only [go_sem,simprocAttr,hw25,hxp_45]
    first | apply hK32 | refine ⟨sd,hK32 _ _ ?_⟩
    simp only [thenQ,blockQ,↓reduceIte]
    refine ⟨r_46.2,hlt25,hnx_42 _ hm,?_⟩
    simp only [go_sem,simprocAttr,hw25,hxp_45]
    try exact se5
   ·obtain ⟨c_47,hm⟩:=chk_elim hm
    obtain ⟨r_48,hr_48,hm⟩:=call_elim hm
    refine Wp.region fun K33 hK33=>?_
    simp only [go_sem,simprocAttr,hw25,hxp_45]
    try refine ⟨by first | exact sd | ((repeat' apply And.intro) <;> first | assumption | omega | (simp only [List.length_append,List.length_map,List.length_cons,List.length_nil,List.length_set,List.length_replicate] at c_47 ⊢; omega)),?_⟩
    refine Rg.callO (av:=?av34) [1,2] (ok_strings_Builder_WriteString_i1 (List.take ((IntKind.i64.wrap (p_45.At+p_45.Long)).toNat - p_45.At.toNat) (List.drop p_45.At.toNat a_1)) o2_36 _ hr_48) (by simp only [go_sem,simprocAttr,hw25,hxp_45]; exact Is.mk) (by simp only [go_sem,simprocAttr,hw25,hxp_45]; exact Is.mk) (by simp only [go_sem,simprocAttr,hw25,hxp_45]; exact Is.mk) (by simp only [go_sem,simprocAttr,hw25,hxp_45]) (by simp only [go_sem,simprocAttr,hw25,hxp_45]) ?cont34
    rintro _ _ ⟨rfl,rfl⟩ hv34
    simp only [go_sem,simprocAttr,hw25,hxp_45]
    first | apply hK33 | refine ⟨by first | exact sd | ((repeat' apply And.intro) <;> first | assumption | omega | (simp only [List.length_append,List.length_map,List.length_cons,List.length_nil,List.length_set,List.length_replicate] at c_47 ⊢; omega)),hK33 _ _ ?_⟩
    refine hK26 _ _ ?_
    refine Wp.region fun K35 hK35=>?_
    simp only [go_sem,simprocAttr,hw25,hxp_45]
    first | apply hK35 | refine ⟨sd,hK35 _ _ ?_⟩
    simp only [thenQ,blockQ,↓reduceIte]
    refine ⟨r_48.2,hlt25,hnx_42 _ hm,?_⟩
    simp only [go_sem,simprocAttr,hw25,hxp_45]
    try exact se5
end Go.Proofs.YtkekfenkeeiigaaDoor
