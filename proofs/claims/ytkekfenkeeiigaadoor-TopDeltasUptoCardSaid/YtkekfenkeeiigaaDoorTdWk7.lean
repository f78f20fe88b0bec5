/- That the code does what the models say (part 7). -/
import Derived.Test.YtkekfenkeeiigaaDoorTdWk0
import Derived.Test.YtkekfenkeeiigaaDoorTdWk1
import Derived.Test.YtkekfenkeeiigaaDoorTdWk3
import Derived.Test.YtkekfenkeeiigaaDoorTdWk4
import Derived.Test.YtkekfenkeeiigaaDoorTdWk6
set_option linter.unusedSimpArgs false
set_option linter.unusedVariables false
namespace Go.Proofs.YtkekfenkeeiigaaDoor
open Go.Vc Go.Md
set_option maxRecDepth 100000
set_option maxHeartbeats 4000000
theorem ok_Top_TopDeltas (versions_1:List Str) (from_2:Int) (to_3:Int) (z:Bool) (hm:Top_TopDeltas versions_1 from_2 to_3=some z):Does Tryd.prog 6 [.p (.l (List.map ecS versions_1)),.p (.i .i64 from_2),.p (.i .i64 to_3)] [] (fun r X=>r=.p (.b z)∧X=[]):=by
 unfold Top_TopDeltas at hm
 refine Does.of_wp 0 216 [.tmp 6] Tryd.func6 rfl (by decide) rfl rfl (Nat.le_of_ble_eq_true rfl) fun B=>?_
 refine qS ?_
 refine Wp.seqW fun K2 hK2 hW2=>?_
 obtain ⟨r_4,hr_4,hm⟩:=call_elim hm
 refine Wp.seqR fun K3 hK3=>?_
 simp only [go_sem,simprocAttr]
 try refine ⟨sd,?_⟩
 refine Rg.callX (av:=?av4) (g:=true) (fun hg=>ok_Top_landed  _ hr_4) si si si sg si ?cont4
 intro hv4
 simp only [go_sem,simprocAttr]
 first | apply hK3 | refine ⟨sd,hK3 _ _ ?_⟩
 refine cM hm (fun hc5 hm=>?_) (fun hc5 hm=>?_)
 ·refine qS ?_
  refine Wp.ret ?_
  refine retQ_ret ?_
  cases hm
  exact fse2
 ·refine Wp.skip ?_
  refine hK2 _ _ ?_
  obtain ⟨c_5,hm⟩:=chk_elim hm
  obtain ⟨r_6,hr_6,hm⟩:=call_elim hm
  refine Wp.seqR fun K7 hK7=>?_
  simp only [go_sem,simprocAttr]
  try refine ⟨by first | exact sd | ((repeat' apply And.intro) <;> first | assumption | omega | (simp only [List.length_append,List.length_map,List.length_cons,List.length_nil,List.length_set,List.length_replicate] at c_5 ⊢; omega)),?_⟩
  refine Rg.callO (av:=?av8) [] (ok_slices_Clone_string_string_new (List.take ((min (versions_1.length:Int) 5).toNat) versions_1) _ hr_6) si si si sg sg ?cont8
  rintro _ _ ⟨rfl,rfl⟩ hv8
  simp only [go_sem,simprocAttr]
  first | apply hK7 | refine ⟨by first | exact sd | ((repeat' apply And.intro) <;> first | assumption | omega | (simp only [List.length_append,List.length_map,List.length_cons,List.length_nil,List.length_set,List.length_replicate] at c_5 ⊢; omega)),hK7 _ _ ?_⟩
  refine qS ?_
  refine Wp.seqW fun K10 hK10 hW10=>?_
  refine qS ?_
  refine cM hm (fun hc12 hm=>?_) (fun hc12 hm=>?_)
  ·refine qS ?_
   refine Wp.ret ?_
   refine retQ_ret ?_
   cases hm
   exact fse2
  ·refine Wp.skip ?_
   refine hK10 _ _ ?_
   obtain ⟨c_7,hm⟩:=chk_elim hm
   obtain ⟨c_8,hm⟩:=chk_elim hm
   obtain ⟨c_9,hm⟩:=chk_elim hm
   obtain ⟨c_10,hm⟩:=chk_elim hm
   refine Wp.seqD (plan:=pl [(0,none),(1,none),(2,none),(3,none),(4,none),(5,none),(6,none),(7,none),(8,none),(9,none),(10,none),(11,none),(12,none),(13,none),(14,none),(15,none)]) (by kernel_rfl) rfl (by kernel_rfl) fun K14 hK14=>?_
   simp only [go_sem,simprocAttr]
   first | apply hK14 | refine ⟨by first | exact sd | ((repeat' apply And.intro) <;> first | assumption | omega | (simp only [List.length_append,List.length_map,List.length_cons,List.length_nil,List.length_set,List.length_replicate] at c_7 c_8 c_9 c_10 ⊢; omega)),hK14 _ _ ?_⟩
   refine qS ?_
   refine qS ?_
   refine qS ?_
   refine Wp.seqW fun K18 hK18 hW18=>?_
   obtain ⟨k_43,hk_43,hm⟩:=jp_elim hm
   have hcut18:∀ s,k_43 s=some z→K18 [(0,.buf 0),(1,.p (.i .i64 (Int.tmod (IntKind.i64.wrap ((Int.tmod from_2 (r_6.length:Int))+(r_6.length:Int))) (r_6.length:Int)))),(2,.p (.i .i64 (Int.tmod (IntKind.i64.wrap ((Int.tmod to_3 (r_6.length:Int))+(r_6.length:Int))) (r_6.length:Int)))),(8,.buf 2),(9,.nils),(10,.mp 1)] [.buf 9 1 (List.map ecS s.1),.mp true (encM kdk_Arr2_Int enc_api_Delta []),.buf 3 1 (List.map ecI_i64 s.2)]:=by
    intro s hs
    have hm:=hk_43 _ hs
    clear hs
    obtain ⟨o0_41,o2_42⟩:=s
    try dsimp only at hm
    try dsimp only
    refine hK18 _ _ ?_
    refine Wp.seqW fun K19 hK19 hW19=>?_
    obtain ⟨k_248,hk_248,hm⟩:=jp_elim hm
    have hcut19:∀ s,k_248 s=some z→K19 [(0,.buf 0),(1,.p (.i .i64 (Int.tmod (IntKind.i64.wrap ((Int.tmod from_2 (r_6.length:Int))+(r_6.length:Int))) (r_6.length:Int)))),(2,.p (.i .i64 (Int.tmod (IntKind.i64.wrap ((Int.tmod to_3 (r_6.length:Int))+(r_6.length:Int))) (r_6.length:Int)))),(8,.buf 2),(9,.buf 3),(10,.mp 1)] [.buf 9 1 (List.map ecS o0_41),.mp true (encM kdk_Arr2_Int enc_api_Delta s.1),.buf 3 1 (List.map ecI_i64 o2_42),.buf 63 3 (List.map enc_api_Way s.2)]:=by
     intro s hs
     have hm:=hk_248 _ hs
     clear hs
     obtain ⟨m1_246,o3_247⟩:=s
     try dsimp only at hm
     try dsimp only
     refine hK19 _ _ ?_
     refine Wp.freeze 3 (by simp only [go_sem,simprocAttr]; exact Is.mk) (by first | (simp only [go_sem,simprocAttr]; done) | (simp only [go_sem,simprocAttr]; omega)) ?_
     simp only [go_sem,simprocAttr]
     refine Wp.freeze 2 (by simp only [go_sem,simprocAttr]; exact Is.mk) (by first | (simp only [go_sem,simprocAttr]; done) | (simp only [go_sem,simprocAttr]; omega)) ?_
     simp only [go_sem,simprocAttr]
     obtain ⟨r_249,hr_249,hm⟩:=call_elim hm
     refine Wp.seqR fun K20 hK20=>?_
     simp only [go_sem,simprocAttr]
     try refine ⟨sd,?_⟩
     refine Rg.callF (av:=?av21) (ok_delta_Best o3_247 o2_42 (Int.tmod (IntKind.i64.wrap ((Int.tmod from_2 (r_6.length:Int))+(r_6.length:Int))) (r_6.length:Int)) (Int.tmod (IntKind.i64.wrap ((Int.tmod to_3 (r_6.length:Int))+(r_6.length:Int))) (r_6.length:Int)) _ hr_249) si si sg ?cont21
     intro hv21
     simp only [go_sem,simprocAttr]
     first | apply hK20 | refine ⟨sd,hK20 _ _ ?_⟩
     refine Wp.seqW fun K22 hK22 hW22=>?_
     refine qS ?_
     refine cM hm (fun hc24 hm=>?_) (fun hc24 hm=>?_)
     ·refine qS ?_
      refine Wp.ret ?_
      refine retQ_ret ?_
      cases hm
      exact fse5
     ·refine Wp.skip ?_
      refine hK22 _ _ ?_
      obtain ⟨c_250,hm⟩:=chk_elim hm
      have hr_251:=fun h=>getD_encB (l:=o0_41) (e:=ecS) (d:=[]) (i:=(Int.tmod (IntKind.i64.wrap ((Int.tmod from_2 (r_6.length:Int))+(r_6.length:Int))) (r_6.length:Int)).toNat) h []
      refine Wp.seqR fun K26 hK26=>?_
      simp only [go_sem,simprocAttr,hr_251 (by omega)]
      first | apply hK26 | refine ⟨by first | exact sd | ((repeat' apply And.intro) <;> first | assumption | omega | (simp only [List.length_append,List.length_map,List.length_cons,List.length_nil,List.length_set,List.length_replicate] at c_250 ⊢; omega)),hK26 _ _ ?_⟩
      refine Wp.seqW fun K27 hK27 hW27=>?_
      obtain ⟨k_283,hk_283,hm⟩:=jp_elim hm
      have hcut27:∀ s,k_283 s=some z→K27 [(0,.buf 0),(2,.p (.i .i64 (Int.tmod (IntKind.i64.wrap ((Int.tmod to_3 (r_6.length:Int))+(r_6.length:Int))) (r_6.length:Int)))),(21,.p (.i .i64 r_249.2.1)),(23,.p (.s s.1)),(24,.p (.i .i64 s.2.1)),(25,.p (.i .i64 s.2.2))] [.buf 9 1 (List.map ecS o0_41)]:=by
       intro s hs
       have hm:=hk_283 _ hs
       clear hs
       obtain ⟨text_280,at_281,sum_282⟩:=s
       try dsimp only at hm
       try dsimp only
       refine hK27 _ _ ?_
       obtain ⟨c_284,hm⟩:=chk_elim hm
       have hr_285:=fun h=>getD_encB (l:=o0_41) (e:=ecS) (d:=[]) (i:=(Int.tmod (IntKind.i64.wrap ((Int.tmod to_3 (r_6.length:Int))+(r_6.length:Int))) (r_6.length:Int)).toNat) h []
       refine Wp.seqR fun K28 hK28=>?_
       simp only [go_sem,simprocAttr,hr_285 (by omega)]
       first | apply hK28 | refine ⟨by first | exact sd | ((repeat' apply And.intro) <;> first | assumption | omega | (simp only [List.length_append,List.length_map,List.length_cons,List.length_nil,List.length_set,List.length_replicate] at c_284 ⊢; omega)),hK28 _ _ ?_⟩
       refine Wp.ret ?_
       refine retQ_ret ?_
       cases hm
       exact fse5
      clear hK27 hk_283
      refine qS ?_
      refine Wp.block ?_
      obtain ⟨k_300,hk_300,hm⟩:=forL_cont hm
      refine Wp.fact 150 fun hl_303=>?_
      replace hl_303:r_249.1.length≤274877906944:=by
       simp only [go_sem,simprocAttr,List.length_map] at hl_303
       omega
      refine Wp.forL (fun i_302 s=>[(0,.buf 0),(2,.p (.i .i64 (Int.tmod (IntKind.i64.wrap ((Int.tmod to_3 (r_6.length:Int))+(r_6.length:Int))) (r_6.length:Int)))),(8,.p (.l (List.map ecI_i64 o2_42))),(10,.mp 1),(21,.p (.i .i64 r_249.2.1)),(23,.p (.s s.1)),(24,.p (.i .i64 s.2.1)),(25,.p (.i .i64 s.2.2)),(150,.p (.l (List.map ecI_i64 r_249.1))),(151,.p (.i .i64 (r_249.1.length:Int))),(152,.p (.i .i64 (i_302:Int)))]) (fun i_302 s=>[.buf 9 1 (List.map ecS o0_41),.mp true (encM kdk_Arr2_Int enc_api_Delta m1_246),.gone,.gone]) ?_ hm ?_
      ·
       exact fse5
      clear hm
      intro i_302 s hii_302 hm
      obtain ⟨text_286,at_287,sum_288⟩:=s
      try dsimp only at hm
      try dsimp only
      refine qS ?_
      refine Wp.seqW fun K31 hK31 hW31=>?_
      refine Wp.cond rfl ⟨⟩ (fun hc31=>?_) (fun hc31=>?_)
      rotate_left
      ·refine Wp.exit ?_
       have hm:=hk_300 _ (forL_end hm (ge_nat (by first | exact hc31 | simpa using hc31)))
       try dsimp only at hm
       refine hW27 _ _ _ _ ?_ (hcut27 (text_286,at_287,sum_288) hm)
       exact fse5
      have hlt31:=lt_nat (by first | exact hc31 | simpa using hc31)
      have hw31:=wrap_succ hlt31 hl_303
      obtain ⟨n_304,nx_301,hxn_304,hyn_304,hnx_301,hm⟩:=forL_step hm hlt31
      replace hxn_304:=hxn_304 ecI_i64
      refine Wp.skip ?_
      simp only [thenQ]
      refine hK31 _ _ ?_
      refine Wp.seqW fun K32 hK32 hW32=>?_
      refine Wp.block ?_
      refine Wp.seqR fun K33 hK33=>?_
      simp only [go_sem,simprocAttr,hw31,hxn_304]
      first | apply hK33 | refine ⟨sd,hK33 _ _ ?_⟩
      obtain ⟨q_305,hq_306,hm⟩:=letv_elim hm
      have hq_306d:=mlookD_enc (e:=enc_api_Delta) keq_Arr2_Int m1_246 (Arr2_Int.mk at_287 n_304) (api_Delta.mk 0 0 [] [] [])
      have hq_306s:=mlook_some (e:=enc_api_Delta) keq_Arr2_Int m1_246 (Arr2_Int.mk at_287 n_304)
      simp only [kdk_Arr2_Int,enc_Arr2_Int,hq_306,enc_api_Delta,List.map_nil] at hq_306d hq_306s
      obtain ⟨r_307,hr_307,hm⟩:=call_elim hm
      refine Wp.seqR fun K34 hK34=>?_
      simp only [go_sem,simprocAttr,hw31,hxn_304,hq_306d,hq_306s]
      try refine ⟨sd,?_⟩
      refine Rg.callX (av:=?av35) (g:=true) (fun hg=>ok_delta_Cost (q_305.getD (api_Delta.mk 0 0 [] [] [])) _ hr_307) (by simp only [go_sem,simprocAttr,hw31,hxn_304,hq_306d,hq_306s]; exact Is.mk) (by simp only [go_sem,simprocAttr,hw31,hxn_304,hq_306d,hq_306s]; exact Is.mk) (by simp only [go_sem,simprocAttr,hw31,hxn_304,hq_306d,hq_306s]; exact Is.mk) (by simp only [go_sem,simprocAttr,hw31,hxn_304,hq_306d,hq_306s]) (by simp only [go_sem,simprocAttr,hw31,hxn_304,hq_306d,hq_306s]; exact Is.mk) ?cont35
      intro hv35
      simp only [go_sem,simprocAttr,hw31,hxn_304,hq_306d,hq_306s]
      first | apply hK34 | refine ⟨sd,hK34 _ _ ?_⟩
      refine Wp.seqW fun K36 hK36 hW36=>?_
      refine Wp.seqR fun K37 hK37=>?_
      simp only [go_sem,simprocAttr,hw31,hxn_304]
      first | apply hK37 | refine ⟨sd,hK37 _ _ ?_⟩
      refine cM hm (fun hc38 hm=>?_) (fun hc38 hm=>?_)
      ·refine Wp.seqR fun K39 hK39=>?_
       simp only [go_sem,simprocAttr,hw31,hxn_304]
       first | apply hK39 | refine ⟨sd,hK39 _ _ ?_⟩
       refine Wp.ret ?_
       refine retQ_ret ?_
       cases hm
       simp only [go_sem,simprocAttr,hw31,hxn_304]
       try exact se5
      ·refine Wp.skip ?_
       refine hK36 _ _ ?_
       refine Wp.seqW fun K40 hK40 hW40=>?_
       obtain ⟨n_308,hbn_308,hxn_308,hyn_308,hm⟩:=idx_elim hm
       replace hxn_308:∀ d,(List.map ecI_i64 o2_42).getD n_304.toNat d=ecI_i64 n_308:=hxn_308 ecI_i64
       refine Wp.seqR fun K41 hK41=>?_
       simp only [go_sem,simprocAttr,hw31,hxn_304,hxn_308]
       first | apply hK41 | refine ⟨sd,hK41 _ _ ?_⟩
       refine cM hm (fun hc42 hm=>?_) (fun hc42 hm=>?_)
       ·refine Wp.seqW fun K43 hK43 hW43=>?_
        obtain ⟨q_309,hq_310,hm⟩:=letv_elim hm
        have hq_310d:=mlookD_enc (e:=enc_api_Delta) keq_Arr2_Int m1_246 (Arr2_Int.mk at_287 n_304) (api_Delta.mk 0 0 [] [] [])
        have hq_310s:=mlook_some (e:=enc_api_Delta) keq_Arr2_Int m1_246 (Arr2_Int.mk at_287 n_304)
        simp only [kdk_Arr2_Int,enc_Arr2_Int,hq_310,enc_api_Delta,List.map_nil] at hq_310d hq_310s
        obtain ⟨r_311,hr_311,hm⟩:=call_elim hm
        refine Wp.seqR fun K44 hK44=>?_
        simp only [go_sem,simprocAttr,hw31,hxn_304,hxn_308,hq_310d,hq_310s]
        try refine ⟨sd,?_⟩
        refine Rg.callX (av:=?av45) (g:=true) (fun hg=>ok_delta_Apply text_286 (q_309.getD (api_Delta.mk 0 0 [] [] [])) _ hr_311) (by simp only [go_sem,simprocAttr,hw31,hxn_304,hxn_308,hq_310d,hq_310s]; exact Is.mk) (by simp only [go_sem,simprocAttr,hw31,hxn_304,hxn_308,hq_310d,hq_310s]; exact Is.mk) (by simp only [go_sem,simprocAttr,hw31,hxn_304,hxn_308,hq_310d,hq_310s]; exact Is.mk) (by simp only [go_sem,simprocAttr,hw31,hxn_304,hxn_308,hq_310d,hq_310s]) (by simp only [go_sem,simprocAttr,hw31,hxn_304,hxn_308,hq_310d,hq_310s]; exact Is.mk) ?cont45
        intro hv45
        simp only [go_sem,simprocAttr,hw31,hxn_304,hxn_308,hq_310d,hq_310s]
        first | apply hK44 | refine ⟨sd,hK44 _ _ ?_⟩
        refine Wp.seqR fun K46 hK46=>?_
        simp only [go_sem,simprocAttr,hw31,hxn_304,hxn_308]
        first | apply hK46 | refine ⟨sd,hK46 _ _ ?_⟩
        refine cM hm (fun hc47 hm=>?_) (fun hc47 hm=>?_)
        ·refine Wp.seqR fun K48 hK48=>?_
         simp only [go_sem,simprocAttr,hw31,hxn_304,hxn_308]
         first | apply hK48 | refine ⟨sd,hK48 _ _ ?_⟩
         refine Wp.ret ?_
         refine retQ_ret ?_
         cases hm
         simp only [go_sem,simprocAttr,hw31,hxn_304,hxn_308]
         try exact se5
        ·refine Wp.skip ?_
         refine hK43 _ _ ?_
         refine Wp.region fun K49 hK49=>?_
         simp only [go_sem,simprocAttr,hw31,hxn_304,hxn_308]
         first | apply hK49 | refine ⟨sd,hK49 _ _ ?_⟩
         refine hK40 _ _ ?_
         refine Wp.region fun K50 hK50=>?_
         simp only [go_sem,simprocAttr,hw31,hxn_304,hxn_308]
         first | apply hK50 | refine ⟨sd,hK50 _ _ ?_⟩
         refine hK32 _ _ ?_
         refine Wp.region fun K51 hK51=>?_
         simp only [go_sem,simprocAttr,hw31,hxn_304,hxn_308]
         first | apply hK51 | refine ⟨sd,hK51 _ _ ?_⟩
         simp only [thenQ,blockQ,↓reduceIte]
         refine ⟨(r_311.1,n_304,IntKind.i64.wrap (sum_288+r_307.1)),hlt31,hnx_301 _ hm,?_⟩
         simp only [go_sem,simprocAttr,hw31,hxn_304,hxn_308]
         try exact se5
       ·obtain ⟨c_312,hm⟩:=chk_elim hm
        have hr_313:=fun h=>getD_encB (l:=o0_41) (e:=ecS) (d:=[]) (i:=n_304.toNat) h []
        refine Wp.seqR fun K52 hK52=>?_
        simp only [go_sem,simprocAttr,hw31,hxn_304,hxn_308,hr_313 (by omega)]
        first | apply hK52 | refine ⟨by first | exact sd | ((repeat' apply And.intro) <;> first | assumption | omega | (simp only [List.length_append,List.length_map,List.length_cons,List.length_nil,List.length_set,List.length_replicate] at c_312 ⊢; omega)),hK52 _ _ ?_⟩
        refine Wp.region fun K53 hK53=>?_
        simp only [go_sem,simprocAttr,hw31,hxn_304,hxn_308]
        first | apply hK53 | refine ⟨sd,hK53 _ _ ?_⟩
        refine hK40 _ _ ?_
        refine Wp.region fun K54 hK54=>?_
        simp only [go_sem,simprocAttr,hw31,hxn_304,hxn_308]
        first | apply hK54 | refine ⟨sd,hK54 _ _ ?_⟩
        refine hK32 _ _ ?_
        refine Wp.region fun K55 hK55=>?_
        simp only [go_sem,simprocAttr,hw31,hxn_304,hxn_308]
        first | apply hK55 | refine ⟨sd,hK55 _ _ ?_⟩
        simp only [thenQ,blockQ,↓reduceIte]
        refine ⟨((o0_41.getD n_304.toNat []),n_304,IntKind.i64.wrap (sum_288+n_308)),hlt31,hnx_301 _ hm,?_⟩
        simp only [go_sem,simprocAttr,hw31,hxn_304,hxn_308]
        try exact se5
    clear hK19 hk_248
    refine qS ?_
    refine Wp.block ?_
    refine Wp.adopt 9 63 3 rfl ?_
    simp only [go_sem,simprocAttr]
    obtain ⟨k_448,hk_448,hm⟩:=forC_cont hm
    refine Wp.factO 0 fun hl_451=>?_
    replace hl_451:o0_41.length≤274877906944:=by
     simp only [go_sem,simprocAttr,List.length_map] at hl_451
     omega
    refine Wp.forC (fun i_450 s=>[(0,.buf 0),(1,.p (.i .i64 (Int.tmod (IntKind.i64.wrap ((Int.tmod from_2 (r_6.length:Int))+(r_6.length:Int))) (r_6.length:Int)))),(2,.p (.i .i64 (Int.tmod (IntKind.i64.wrap ((Int.tmod to_3 (r_6.length:Int))+(r_6.length:Int))) (r_6.length:Int)))),(8,.buf 2),(9,.buf 3),(10,.mp 1),(86,.buf 0),(87,.p (.i .i64 (o0_41.length:Int))),(88,.p (.i .i64 (i_450:Int)))]) (fun i_450 s=>[.buf 9 1 (List.map ecS o0_41),.mp true (encM kdk_Arr2_Int enc_api_Delta s.1),.buf 3 1 (List.map ecI_i64 o2_42),.buf 63 3 (List.map enc_api_Way s.2)]) ?_ hm ?_
    ·
     exact fse5
    clear hm
    intro i_450 s hii_450 hm
    obtain ⟨m1_381,o3_382⟩:=s
    try dsimp only at hm
    try dsimp only
    refine qS ?_
    refine Wp.seqW fun K58 hK58 hW58=>?_
    refine Wp.cond rfl ⟨⟩ (fun hc58=>?_) (fun hc58=>?_)
    rotate_left
    ·refine Wp.exit ?_
     have hm:=hk_448 _ (forC_end hm (ge_nat (by first | exact hc58 | simpa using hc58)))
     try dsimp only at hm
     refine hW19 _ _ _ _ ?_ (hcut19 (m1_381,o3_382) hm)
     exact fse5
    have hlt58:=lt_nat (by first | exact hc58 | simpa using hc58)
    have hw58:=wrap_succ hlt58 hl_451
    obtain ⟨nx_449,hnx_449,hm⟩:=forC_step hm hlt58
    refine Wp.skip ?_
    simp only [thenQ]
    refine hK58 _ _ ?_
    refine Wp.seqW fun K59 hK59 hW59=>?_
    obtain ⟨k_485,hk_485,hm⟩:=jp_elim hm
    have hcut59:∀ s,k_485 s=some z→K59 [(0,.buf 0),(1,.p (.i .i64 (Int.tmod (IntKind.i64.wrap ((Int.tmod from_2 (r_6.length:Int))+(r_6.length:Int))) (r_6.length:Int)))),(2,.p (.i .i64 (Int.tmod (IntKind.i64.wrap ((Int.tmod to_3 (r_6.length:Int))+(r_6.length:Int))) (r_6.length:Int)))),(8,.buf 2),(9,.buf 3),(10,.mp 1),(86,.buf 0),(87,.p (.i .i64 (o0_41.length:Int))),(88,.p (.i .i64 (i_450:Int)))] [.buf 9 1 (List.map ecS o0_41),.mp true (encM kdk_Arr2_Int enc_api_Delta s.1),.buf 3 1 (List.map ecI_i64 o2_42),.buf 63 3 (List.map enc_api_Way s.2)]:=by
     intro s hs
     have hm:=hk_485 _ hs
     clear hs
     obtain ⟨m1_483,o3_484⟩:=s
     try dsimp only at hm
     try dsimp only
     refine hK59 _ _ ?_
     refine Wp.region fun K60 hK60=>?_
     simp only [go_sem,simprocAttr,hw58]
     first | apply hK60 | refine ⟨sd,hK60 _ _ ?_⟩
     simp only [thenQ,blockQ,↓reduceIte]
     refine ⟨(m1_483,o3_484),hlt58,hnx_449 _ hm,?_⟩
     simp only [go_sem,simprocAttr,hw58]
     try exact se5
    clear hK59 hk_485
    refine Wp.block ?_
    have hr_486:=fun h=>getD_encB (l:=o0_41) (e:=ecS) (d:=[]) (i:=i_450) h []
    refine Wp.seqR fun K61 hK61=>?_
    simp only [go_sem,simprocAttr,hw58,hr_486 (by omega)]
    first | apply hK61 | refine ⟨sd,hK61 _ _ ?_⟩
    refine Wp.seqR fun K62 hK62=>?_
    simp only [go_sem,simprocAttr,hw58]
    first | apply hK62 | refine ⟨sd,hK62 _ _ ?_⟩
    refine Wp.block ?_
    obtain ⟨k_505,hk_505,hm⟩:=forC_cont hm
    refine Wp.factO 0 fun hl_508=>?_
    replace hl_508:o0_41.length≤274877906944:=by
     simp only [go_sem,simprocAttr,List.length_map] at hl_508
     omega
    refine Wp.forC (fun i_507 s=>[(0,.buf 0),(1,.p (.i .i64 (Int.tmod (IntKind.i64.wrap ((Int.tmod from_2 (r_6.length:Int))+(r_6.length:Int))) (r_6.length:Int)))),(2,.p (.i .i64 (Int.tmod (IntKind.i64.wrap ((Int.tmod to_3 (r_6.length:Int))+(r_6.length:Int))) (r_6.length:Int)))),(8,.buf 2),(9,.buf 3),(10,.mp 1),(12,.p (.i .i64 (i_450:Int))),(13,.p (.s (o0_41.getD i_450 []))),(86,.buf 0),(87,.p (.i .i64 (o0_41.length:Int))),(88,.p (.i .i64 (i_450:Int))),(93,.buf 0),(94,.p (.i .i64 (o0_41.length:Int))),(95,.p (.i .i64 (i_507:Int)))]) (fun i_507 s=>[.buf 9 1 (List.map ecS o0_41),.mp true (encM kdk_Arr2_Int enc_api_Delta s.1),.buf 3 1 (List.map ecI_i64 o2_42),.buf 63 3 (List.map enc_api_Way s.2)]) ?_ hm ?_
    ·
     simp only [go_sem,simprocAttr,hw58]
     try exact se5
    clear hm
    intro i_507 s hii_507 hm
    obtain ⟨m1_496,o3_497⟩:=s
    try dsimp only at hm
    try dsimp only
    refine Wp.seqR fun K63 hK63=>?_
    simp only [go_sem,simprocAttr,hw58]
    first | apply hK63 | refine ⟨sd,hK63 _ _ ?_⟩
    refine Wp.seqW fun K64 hK64 hW64=>?_
    refine Wp.cond rfl ⟨⟩ (fun hc64=>?_) (fun hc64=>?_)
    rotate_left
    ·refine Wp.exit ?_
     have hm:=hk_505 _ (forC_end hm (ge_nat (by first | exact hc64 | simpa using hc64)))
     try dsimp only at hm
     refine hW59 _ _ _ _ ?_ (hcut59 (m1_496,o3_497) hm)
     simp only [go_sem,simprocAttr,hw58]
     try exact se5
    have hlt64:=lt_nat (by first | exact hc64 | simpa using hc64)
    have hw64:=wrap_succ hlt64 hl_508
    obtain ⟨nx_506,hnx_506,hm⟩:=forC_step hm hlt64
    refine Wp.skip ?_
    simp only [thenQ]
    refine hK64 _ _ ?_
    refine Wp.seqW fun K65 hK65 hW65=>?_
    refine Wp.block ?_
    have hr_510:=fun h=>getD_encB (l:=o0_41) (e:=ecS) (d:=[]) (i:=i_507) h []
    refine Wp.seqR fun K66 hK66=>?_
    simp only [go_sem,simprocAttr,hw58,hw64,hr_510 (by omega)]
    first | apply hK66 | refine ⟨sd,hK66 _ _ ?_⟩
    refine Wp.seqW fun K67 hK67 hW67=>?_
    refine Wp.seqR fun K68 hK68=>?_
    simp only [go_sem,simprocAttr,hw58,hw64]
    first | apply hK68 | refine ⟨sd,hK68 _ _ ?_⟩
    refine cM hm (fun hc69 hm=>?_) (fun hc69 hm=>?_)
    ·refine Wp.exit ?_
     refine hK65 _ _ ?_
     refine Wp.region fun K70 hK70=>?_
     simp only [go_sem,simprocAttr,hw58,hw64]
     first | apply hK70 | refine ⟨sd,hK70 _ _ ?_⟩
     simp only [thenQ,blockQ,↓reduceIte]
     refine ⟨(m1_496,o3_497),hlt64,hnx_506 _ hm,?_⟩
     simp only [go_sem,simprocAttr,hw58,hw64]
     try exact se5
    ·refine Wp.skip ?_
     refine hK67 _ _ ?_
     obtain ⟨r_511,hr_511,hm⟩:=call_elim hm
     refine Wp.seqR fun K71 hK71=>?_
     simp only [go_sem,simprocAttr,hw58,hw64]
     try refine ⟨sd,?_⟩
     refine Rg.callF (av:=?av72) (ok_delta_Make (o0_41.getD i_450 []) (o0_41.getD i_507 []) _ hr_511) (by simp only [go_sem,simprocAttr,hw58,hw64]; exact Is.mk) (by simp only [go_sem,simprocAttr,hw58,hw64]; exact Is.mk) (by simp only [go_sem,simprocAttr,hw58,hw64]) ?cont72
     intro hv72
     simp only [go_sem,simprocAttr,hw58,hw64]
     first | apply hK71 | refine ⟨sd,hK71 _ _ ?_⟩
     obtain ⟨r_512,hr_512,hm⟩:=call_elim hm
     refine Wp.seqR fun K73 hK73=>?_
     simp only [go_sem,simprocAttr,hw58,hw64]
     try refine ⟨sd,?_⟩
     refine Rg.callX (av:=?av74) (g:=true) (fun hg=>ok_delta_Cost r_511.1 _ hr_512) (by simp only [go_sem,simprocAttr,hw58,hw64]; exact Is.mk) (by simp only [go_sem,simprocAttr,hw58,hw64]; exact Is.mk) (by simp only [go_sem,simprocAttr,hw58,hw64]; exact Is.mk) (by simp only [go_sem,simprocAttr,hw58,hw64]) (by simp only [go_sem,simprocAttr,hw58,hw64]; exact Is.mk) ?cont74
     intro hv74
     simp only [go_sem,simprocAttr,hw58,hw64]
     first | apply hK73 | refine ⟨sd,hK73 _ _ ?_⟩
     refine Wp.seqW fun K75 hK75 hW75=>?_
     refine Wp.seqR fun K76 hK76=>?_
     simp only [go_sem,simprocAttr,hw58,hw64]
     first | apply hK76 | refine ⟨sd,hK76 _ _ ?_⟩
     refine cM hm (fun hc77 hm=>?_) (fun hc77 hm=>?_)
     ·refine Wp.seqR fun K78 hK78=>?_
      simp only [go_sem,simprocAttr,hw58,hw64]
      first | apply hK78 | refine ⟨sd,hK78 _ _ ?_⟩
      refine Wp.ret ?_
      refine retQ_ret ?_
      cases hm
      simp only [go_sem,simprocAttr,hw58,hw64]
      try exact se5
     ·refine Wp.skip ?_
      refine hK75 _ _ ?_
      obtain ⟨c_514,hm⟩:=chk_elim hm
      have hp_513:=mset_enc (e:=enc_api_Delta) keq_Arr2_Int m1_496 (Arr2_Int.mk (i_450:Int) (i_507:Int)) r_511.1
      simp only [kdk_Arr2_Int,enc_Arr2_Int,enc_api_Delta,List.map_nil] at hp_513
      refine Wp.seqR fun K79 hK79=>?_
      simp only [go_sem,simprocAttr,hw58,hw64,hp_513]
      first | apply hK79 | refine ⟨by first | exact sd | ((repeat' apply And.intro) <;> first | assumption | omega | (simp only [List.length_append,List.length_map,List.length_cons,List.length_nil,List.length_set,List.length_replicate] at c_514 ⊢; omega)),hK79 _ _ ?_⟩
      obtain ⟨c_515,hm⟩:=chk_elim hm
      refine Wp.region fun K80 hK80=>?_
      simp only [go_sem,simprocAttr,hw58,hw64]
      first | apply hK80 | refine ⟨by first | exact sd | ((repeat' apply And.intro) <;> first | assumption | omega | (simp only [List.length_append,List.length_map,List.length_cons,List.length_nil,List.length_set,List.length_replicate] at c_515 ⊢; omega)),hK80 _ _ ?_⟩
      refine hK65 _ _ ?_
      refine Wp.region fun K81 hK81=>?_
      simp only [go_sem,simprocAttr,hw58,hw64]
      first | apply hK81 | refine ⟨sd,hK81 _ _ ?_⟩
      simp only [thenQ,blockQ,↓reduceIte]
      refine ⟨(aset m1_496 (Arr2_Int.mk (i_450:Int) (i_507:Int)) r_511.1,o3_497++[(api_Way.mk (i_450:Int) (i_507:Int) r_512.1)]),hlt64,hnx_506 _ hm,?_⟩
      simp only [go_sem,simprocAttr,hw58,hw64]
      try exact se5
   clear hK18 hk_43
   refine qS ?_
   refine Wp.block ?_
   refine Wp.adopt 8 3 1 rfl ?_
   simp only [go_sem,simprocAttr]
   obtain ⟨k_536,hk_536,hm⟩:=loopN_cont hm
   refine Wp.loopN (fun s=>[(0,.buf 0),(1,.p (.i .i64 (Int.tmod (IntKind.i64.wrap ((Int.tmod from_2 (r_6.length:Int))+(r_6.length:Int))) (r_6.length:Int)))),(2,.p (.i .i64 (Int.tmod (IntKind.i64.wrap ((Int.tmod to_3 (r_6.length:Int))+(r_6.length:Int))) (r_6.length:Int)))),(8,.buf 2),(9,.nils),(10,.mp 1),(58,.p (.i .i64 (r_6.length:Int))),(59,.p (.i .i64 s.1))]) (fun s=>[.buf 9 1 (List.map ecS s.2.1),.mp true (encM kdk_Arr2_Int enc_api_Delta []),.buf 3 1 (List.map ecI_i64 s.2.2)]) ?_ hm ?_
   ·
    exact fse5
   clear hm
   intro s nx_537 hm
   obtain ⟨t59_525,o0_526,o2_527⟩:=s
   try dsimp only at hm
   try dsimp only
   refine qS ?_
   refine Wp.seqW fun K84 hK84 hW84=>?_
   refine cM hm (fun hc85 hm=>?_) (fun hc85 hm=>?_)
   ·refine Wp.skip ?_
    refine hK84 _ _ ?_
    refine Wp.seqW fun K86 hK86 hW86=>?_
    refine Wp.block ?_
    refine qS ?_
    obtain ⟨c_538,hm⟩:=chk_elim hm
    obtain ⟨c_539,hm⟩:=chk_elim hm
    obtain ⟨c_540,hm⟩:=chk_elim hm
    obtain ⟨c_541,hm⟩:=chk_elim hm
    have hr_542:=fun h=>getD_encB (l:=o0_526) (e:=ecS) (d:=[]) (i:=t59_525.toNat) h []
    refine Wp.seqD (plan:=pl [(0,none),(1,none),(2,none),(3,none),(4,none),(5,none),(6,none),(7,none),(8,none),(9,none),(10,none),(11,none),(12,none),(13,none),(14,some [])]) (by kernel_rfl) rfl (by kernel_rfl) fun K88 hK88=>?_
    simp only [go_sem,simprocAttr,hr_542 (by omega)]
    first | apply hK88 | refine ⟨by first | exact sd | ((repeat' apply And.intro) <;> first | assumption | omega | (simp only [List.length_append,List.length_map,List.length_cons,List.length_nil,List.length_set,List.length_replicate] at c_538 c_539 c_540 c_541 ⊢; omega)),hK88 _ _ ?_⟩
    obtain ⟨c_543,hm⟩:=chk_elim hm
    obtain ⟨c_544,hm⟩:=chk_elim hm
    have hr_545:=fun h=>getD_encB (l:=List.set o0_526 t59_525.toNat (List.take ((min ((o0_526.getD t59_525.toNat []).length:Int) 400).toNat) (o0_526.getD t59_525.toNat []))) (e:=ecS) (d:=[]) (i:=t59_525.toNat) h []
    refine Wp.region fun K89 hK89=>?_
    simp only [go_sem,simprocAttr,set_ecS,hr_545 (by first | omega | (simp only [List.length_set,List.length_append,List.length_cons,List.length_nil,List.length_replicate] at *; omega))]
    first | apply hK89 | refine ⟨by first | exact sd | ((repeat' apply And.intro) <;> first | assumption | omega | (simp only [List.length_append,List.length_map,List.length_cons,List.length_nil,List.length_set,List.length_replicate] at c_543 c_544 ⊢; omega)),hK89 _ _ ?_⟩
    refine hK86 _ _ ?_
    refine qR ?_
    simp only [thenQ,blockQ,↓reduceIte]
    refine ⟨(IntKind.i64.wrap (t59_525+1),List.set o0_526 t59_525.toNat (List.take ((min ((o0_526.getD t59_525.toNat []).length:Int) 400).toNat) (o0_526.getD t59_525.toNat [])),o2_527++[IntKind.i64.wrap ((((List.set o0_526 t59_525.toNat (List.take ((min ((o0_526.getD t59_525.toNat []).length:Int) 400).toNat) (o0_526.getD t59_525.toNat []))).getD t59_525.toNat []).length:Int)+40)]),hm,?_⟩
    exact fse5
   ·refine Wp.exit ?_
    simp only [thenQ,blockQ,↓reduceIte]
    have hm:=hk_536 _ hm
    try dsimp only at hm
    refine hW18 _ _ _ _ ?_ (hcut18 (o0_526,o2_527) hm)
    exact fse5
end Go.Proofs.YtkekfenkeeiigaaDoor
