/- That the code does what the models say (part 2). -/
import Derived.Test.YtkekfenkeeiigaaDoorTdWk0
import Derived.Test.YtkekfenkeeiigaaDoorTdWk1
set_option linter.unusedSimpArgs false
set_option linter.unusedVariables false
namespace Go.Proofs.YtkekfenkeeiigaaDoor
open Go.Vc Go.Md
set_option maxRecDepth 100000
set_option maxHeartbeats 4000000
theorem ok_delta_automaton_add_i1 (c_1:Int) (end_2:Int) (o0_1_3:Int) (o1_4:List delta_state) (z:Int × List delta_state) (hm:delta_automaton_add_i1 c_1 end_2 o0_1_3 o1_4=some z):Does Tryd.prog 105 [.ptr 0 0,.p (.i .u8 c_1),.p (.i .i64 end_2)] [.cells 141 [.buf 1,.p (.i .i64 o0_1_3)],.nst false 138 4 3 2 (List.map eN_enc_delta_state o1_4) none,.inn 157 2 (List.map iN_enc_delta_state o1_4)] (fun r X=>r=.tup []∧X=[.cells 141 [.buf 1,.p (.i .i64 z.1)],.nst false 138 4 3 2 (List.map eN_enc_delta_state z.2) none,.inn 157 2 (List.map iN_enc_delta_state z.2)]):=by
 unfold delta_automaton_add_i1 at hm
 refine Does.of_wp 3 188 [] Tryd.func105 rfl (by decide) rfl rfl (Nat.le_of_ble_eq_true rfl) fun B=>?_
 refine qS ?_
 obtain ⟨c_211,hm⟩:=chk_elim hm
 obtain ⟨v_212,hv_213,hm⟩:=letv_elim hm
 refine Wp.seqRW fun K2 hK2 hW2=>?_
 suffices hcont2:K2 [(0,.ptr 0 0),(1,.p (.i .u8 c_1)),(2,.p (.i .i64 end_2)),(6,.p (.i .i64 (o1_4.length:Int))),(11,.ptr 0 0),(12,.ptr 0 0),(13,.ptr 0 0),(14,.top),(15,.p (.i .i64 (o1_4.length:Int)))] [.cells 141 [.buf 1,.p (.i .i64 o0_1_3)],.nst false 138 4 3 2 (List.map eN_enc_delta_state v_212) none,.inn 157 2 (List.map iN_enc_delta_state v_212),.gone,.gone] by
  subst hv_213
  simp only [go_sem,simprocAttr,false_implies,and_true,true_and,bad]
  first | refine hW2 _ _ _ _ ?_ hcont2 | refine ⟨by first | exact sd | ((repeat' apply And.intro) <;> first | assumption | omega | (simp only [List.length_append,List.length_map,List.length_cons,List.length_nil,List.length_set,List.length_replicate] at c_211 ⊢; omega)),hW2 _ _ _ _ ?_ hcont2⟩
  simp only [go_sem,simprocAttr,false_implies,and_true,true_and,bad]
  try exact se3
 refine hK2 _ _ ?_
 refine Wp.seqR fun K3 hK3=>?_
 simp only [go_sem,simprocAttr,hv_213]
 first | apply hK3 | refine ⟨sd,hK3 _ _ ?_⟩
 refine Wp.seqW fun K4 hK4 hW4=>?_
 obtain ⟨k_257,hk_257,hm⟩:=jp_elim hm
 have hcut4:∀ s,k_257 s=some z→K4 [(0,.ptr 0 0),(1,.p (.i .u8 c_1)),(6,.p (.i .i64 (o1_4.length:Int))),(7,.p (.i .i64 s.1))] [.cells 141 [.buf 1,.p (.i .i64 o0_1_3)],.nst false 138 4 3 2 (List.map eN_enc_delta_state s.2) none,.inn 157 2 (List.map iN_enc_delta_state s.2)]:=by
  intro s hs
  have hm:=hk_257 _ hs
  clear hs
  obtain ⟨p_255,o1_256⟩:=s
  try dsimp only at hm
  try dsimp only
  refine hK4 _ _ ?_
  refine Wp.seqR fun K5 hK5=>?_
  simp only [go_sem,simprocAttr,hv_213]
  first | apply hK5 | refine ⟨sd,hK5 _ _ ?_⟩
  refine Wp.seqW fun K6 hK6 hW6=>?_
  refine Wp.seqR fun K7 hK7=>?_
  simp only [go_sem,simprocAttr,hv_213]
  first | apply hK7 | refine ⟨sd,hK7 _ _ ?_⟩
  refine cM hm (fun hc8 hm=>?_) (fun hc8 hm=>?_)
  ·refine Wp.ret ?_
   refine retQ_ret ?_
   cases hm
   simp only [go_sem,simprocAttr,hv_213]
   try exact se3
  ·refine Wp.skip ?_
   refine hK6 _ _ ?_
   obtain ⟨c_258,hm⟩:=chk_elim hm
   obtain ⟨r_259,hr_259,hm⟩:=call_elim hm
   have hr_260:=fun h=>getD_encB (l:=o1_256) (e:=enc_delta_state) (d:=(delta_state.mk 0 0 0 [])) (i:=p_255.toNat) h []
   refine Wp.seqR fun K9 hK9=>?_
   simp only [go_sem,simprocAttr,hv_213,hr_260 (by omega)]
   try refine ⟨by first | exact sd | ((repeat' apply And.intro) <;> first | assumption | omega | (simp only [List.length_append,List.length_map,List.length_cons,List.length_nil,List.length_set,List.length_replicate] at c_258 ⊢; omega)),?_⟩
   refine Rg.callX (av:=?av10) (g:=true) (fun hg=>ok_delta_state_next_i1 (o1_256.getD p_255.toNat (delta_state.mk 0 0 0 [])) c_1 _ hr_259) (by simp only [go_sem,simprocAttr,hv_213,hr_260 (by omega)]; exact Is.mk) (by simp only [go_sem,simprocAttr,hv_213,hr_260 (by omega)]; exact Is.mk) (by simp only [go_sem,simprocAttr,hv_213,hr_260 (by omega),List.map_append,List.map_cons,List.map_nil]; exact Is.mk) (by simp only [go_sem,simprocAttr,hv_213,hr_260 (by omega)]) (by simp only [go_sem,simprocAttr,hv_213,hr_260 (by omega)]; exact Is.mk) ?cont10
   intro hv10
   simp only [go_sem,simprocAttr,hv_213,hr_260 (by omega)]
   first | apply hK9 | refine ⟨by first | exact sd | ((repeat' apply And.intro) <;> first | assumption | omega | (simp only [List.length_append,List.length_map,List.length_cons,List.length_nil,List.length_set,List.length_replicate] at c_258 ⊢; omega)),hK9 _ _ ?_⟩
   refine Wp.seqW fun K11 hK11 hW11=>?_
   obtain ⟨c_261,hm⟩:=chk_elim hm
   obtain ⟨c_262,hm⟩:=chk_elim hm
   have hr_263:=fun h=>getD_encB (l:=o1_256) (e:=eN_enc_delta_state) (d:=(delta_state.mk 0 0 0 [])) (i:=r_259.toNat) h []
   have hr_264:=fun h=>getD_encB (l:=o1_256) (e:=eN_enc_delta_state) (d:=(delta_state.mk 0 0 0 [])) (i:=p_255.toNat) h []
   refine Wp.seqD (plan:=pl [(0,none),(1,none),(2,none),(3,none),(4,none),(5,none),(6,none),(7,none),(8,none),(9,none),(10,none),(11,none),(12,none),(13,none),(14,none),(15,none),(16,none),(17,none)]) (by kernel_rfl) rfl (by kernel_rfl) fun K12 hK12=>?_
   simp only [go_sem,simprocAttr,hv_213,hr_263 (by omega),hr_264 (by omega)]
   first | apply hK12 | refine ⟨by first | exact sd | ((repeat' apply And.intro) <;> first | assumption | omega | (simp only [List.length_append,List.length_map,List.length_cons,List.length_nil,List.length_set,List.length_replicate] at c_261 c_262 ⊢; omega)),hK12 _ _ ?_⟩
   refine cM hm (fun hc13 hm=>?_) (fun hc13 hm=>?_)
   ·obtain ⟨c_265,hm⟩:=chk_elim hm
    obtain ⟨v_268,hv_269,hm⟩:=letv_elim hm
    have hs_266:List.map iN_enc_delta_state v_268=List.map iN_enc_delta_state o1_256:=by rw [← hv_269]; exact map_set_same (f:=iN_enc_delta_state) (l:=o1_256) (d:=(delta_state.mk 0 0 0 [])) (i:=o1_4.length) (x:=(delta_state.mk ((o1_256.getD o1_4.length (delta_state.mk 0 0 0 [])).long) ((o1_256.getD o1_4.length (delta_state.mk 0 0 0 [])).end_) r_259 ((o1_256.getD o1_4.length (delta_state.mk 0 0 0 [])).edges))) (by first | omega | (simp only [List.length_set,List.length_append,List.length_cons,List.length_nil] at *; omega)) rfl
    have hs_267:(List.map eN_enc_delta_state o1_256).set o1_4.length (eN_enc_delta_state (delta_state.mk ((o1_256.getD o1_4.length (delta_state.mk 0 0 0 [])).long) ((o1_256.getD o1_4.length (delta_state.mk 0 0 0 [])).end_) r_259 ((o1_256.getD o1_4.length (delta_state.mk 0 0 0 [])).edges)))=List.map eN_enc_delta_state v_268:=by rw [← hv_269,List.map_set]
    simp only [eN_enc_delta_state] at hs_267
    refine Wp.seqRW fun K14 hK14 hW14=>?_
    suffices hcont14:K14 [(0,.ptr 0 0),(1,.p (.i .u8 c_1)),(6,.p (.i .i64 (o1_4.length:Int))),(7,.p (.i .i64 p_255)),(8,.p (.i .i64 r_259)),(62,.ptr 0 0),(63,.p (.i .i64 (o1_4.length:Int))),(64,.ptr 0 0),(65,.ptr 0 1),(66,.p (.i .i64 p_255)),(67,.p (.b (decide (p_255 < 0)))),(68,.ptr 0 0),(69,.ptr 0 0),(70,.ptr 0 0),(71,.buf 1),(72,.p (.i .i64 p_255)),(74,.p (.i .u8 c_1)),(75,.p (.i .i64 r_259)),(76,.ptr 0 0),(77,.ptr 0 0),(78,.ptr 0 0),(79,.buf 1),(80,.p (.i .i64 r_259)),(83,.p (.i .i64 ((o1_256.getD r_259.toNat (delta_state.mk 0 0 0 [])).long))),(84,.ptr 0 0),(85,.ptr 0 0),(86,.ptr 0 0),(87,.buf 1),(88,.p (.i .i64 p_255)),(91,.p (.i .i64 ((o1_256.getD p_255.toNat (delta_state.mk 0 0 0 [])).long))),(92,.p (.i .i64 (IntKind.i64.wrap (((o1_256.getD p_255.toNat (delta_state.mk 0 0 0 [])).long)+1)))),(93,.p (.b (decide (((o1_256.getD r_259.toNat (delta_state.mk 0 0 0 [])).long)=(IntKind.i64.wrap (((o1_256.getD p_255.toNat (delta_state.mk 0 0 0 [])).long)+1))))))] [.cells 141 [.buf 1,.p (.i .i64 (o1_4.length:Int))],.nst false 138 4 3 2 (List.map eN_enc_delta_state v_268) none,.inn 157 2 (List.map iN_enc_delta_state v_268)] by
     have hr_270:=fun h=>getD_encB (l:=o1_256) (e:=eN_enc_delta_state) (d:=(delta_state.mk 0 0 0 [])) (i:=o1_4.length) h []
     simp only [go_sem,simprocAttr,false_implies,and_true,true_and,bad,hv_213,hv_269,hs_266,hs_267,hr_270 (by omega)]
     first | refine hW14 _ _ _ _ ?_ hcont14 | refine ⟨by first | exact sd | ((repeat' apply And.intro) <;> first | assumption | omega | (simp only [List.length_append,List.length_map,List.length_cons,List.length_nil,List.length_set,List.length_replicate] at c_265 ⊢; omega)),hW14 _ _ _ _ ?_ hcont14⟩
     simp only [go_sem,simprocAttr,false_implies,and_true,true_and,bad,hv_213,hv_269,hs_266,hs_267,hr_270 (by omega)]
     try exact se3
    refine hK14 _ _ ?_
    refine Wp.ret ?_
    refine retQ_ret ?_
    cases hm
    simp only [go_sem,simprocAttr,hv_213,hv_269,hs_266,hs_267]
    try exact se3
   ·refine Wp.skip ?_
    refine hK11 _ _ ?_
    refine Wp.seqR fun K15 hK15=>?_
    simp only [go_sem,simprocAttr,hv_213]
    first | apply hK15 | refine ⟨sd,hK15 _ _ ?_⟩
    obtain ⟨c_271,hm⟩:=chk_elim hm
    have hr_272:=fun h=>getD_encB (l:=o1_256) (e:=eN_enc_delta_state) (d:=(delta_state.mk 0 0 0 [])) (i:=r_259.toNat) h []
    refine Wp.seqR fun K16 hK16=>?_
    simp only [go_sem,simprocAttr,hv_213,hr_272 (by omega)]
    first | apply hK16 | refine ⟨by first | exact sd | ((repeat' apply And.intro) <;> first | assumption | omega | (simp only [List.length_append,List.length_map,List.length_cons,List.length_nil,List.length_set,List.length_replicate] at c_271 ⊢; omega)),hK16 _ _ ?_⟩
    obtain ⟨c_273,hm⟩:=chk_elim hm
    obtain ⟨c_274,hm⟩:=chk_elim hm
    obtain ⟨c_275,hm⟩:=chk_elim hm
    obtain ⟨v_276,hv_277,hm⟩:=letv_elim hm
    refine Wp.seqDW (plan:=pl [(0,none),(1,none),(2,none),(3,none),(4,none),(5,none),(6,none),(7,none),(8,none),(9,none),(10,none),(11,none),(12,none),(13,none),(14,none),(15,none),(16,none),(17,none),(19,none),(20,none),(18,some [0,1,2,3,4,5,6,7,8,9,10,11,12,13,14,15,16,17,19,20]),(21,some [0,1,2,3,4,5,6,7,8,9,10,11,12,13,14,15,16,17]),(22,none),(23,some [0,1,2,3,4]),(24,some [0]),(25,none),(26,none),(27,some [])]) (by kernel_rfl) rfl (by kernel_rfl) fun K17 hK17 hW17=>?_
    suffices hcont17:K17 [(0,.ptr 0 0),(1,.p (.i .u8 c_1)),(6,.p (.i .i64 (o1_4.length:Int))),(7,.p (.i .i64 p_255)),(8,.p (.i .i64 r_259)),(9,.p (.i .i64 (o1_256.length:Int))),(10,.ptr 3 0),(62,.ptr 0 0),(63,.p (.i .i64 (o1_4.length:Int))),(64,.ptr 0 0),(65,.ptr 0 1),(66,.p (.i .i64 p_255)),(67,.p (.b (decide (p_255 < 0)))),(68,.ptr 0 0),(69,.ptr 0 0),(70,.ptr 0 0),(71,.top),(72,.p (.i .i64 p_255)),(73,.top),(74,.p (.i .u8 c_1)),(75,.p (.i .i64 r_259)),(76,.ptr 0 0),(77,.ptr 0 0),(78,.ptr 0 0),(79,.top),(80,.p (.i .i64 r_259)),(81,.top),(82,.top),(83,.p (.i .i64 ((o1_256.getD r_259.toNat (delta_state.mk 0 0 0 [])).long))),(84,.ptr 0 0),(85,.ptr 0 0),(86,.ptr 0 0),(87,.top),(88,.p (.i .i64 p_255)),(89,.top),(90,.top),(91,.p (.i .i64 ((o1_256.getD p_255.toNat (delta_state.mk 0 0 0 [])).long))),(92,.p (.i .i64 (IntKind.i64.wrap (((o1_256.getD p_255.toNat (delta_state.mk 0 0 0 [])).long)+1)))),(93,.p (.b (decide (((o1_256.getD r_259.toNat (delta_state.mk 0 0 0 [])).long)=(IntKind.i64.wrap (((o1_256.getD p_255.toNat (delta_state.mk 0 0 0 [])).long)+1)))))),(102,.ptr 0 0),(103,.ptr 0 0),(104,.ptr 0 0),(105,.top),(106,.p (.i .i64 (o1_256.length:Int))),(107,.ptr 0 0),(108,.ptr 0 0),(109,.ptr 0 0),(110,.top),(111,.p (.i .i64 r_259)),(112,.top),(113,.top)] [.cells 141 [.buf 1,.p (.i .i64 (o1_4.length:Int))],.nst false 138 4 3 2 (List.map eN_enc_delta_state v_276) none,.inn 157 2 (List.map iN_enc_delta_state v_276),.cells 138 [.p (.i .i64 ((o1_256.getD r_259.toNat (delta_state.mk 0 0 0 [])).long)),.p (.i .i64 ((o1_256.getD r_259.toNat (delta_state.mk 0 0 0 [])).end_)),.p (.i .i64 ((o1_256.getD r_259.toNat (delta_state.mk 0 0 0 [])).link)),.top],.gone,.gone,.gone] by
     have hr_278:=fun h=>getD_encB (l:=o1_256) (e:=eN_enc_delta_state) (d:=(delta_state.mk 0 0 0 [])) (i:=p_255.toNat) h []
     have hr_279:=fun h=>getD_innB (l:=o1_256) (f:=iN_enc_delta_state) (d:=(delta_state.mk 0 0 0 [])) (i:=r_259.toNat) h []
     subst hv_277
     simp only [go_sem,simprocAttr,false_implies,and_true,true_and,bad,hv_213,hr_278 (by omega),hr_279 (by omega)]
     first | refine hW17 _ _ _ _ ?_ hcont17 | refine ⟨by first | exact sd | ((repeat' apply And.intro) <;> first | assumption | omega | (simp only [List.length_append,List.length_map,List.length_cons,List.length_nil,List.length_set,List.length_replicate] at c_273 c_274 c_275 ⊢; omega)),hW17 _ _ _ _ ?_ hcont17⟩
     simp only [go_sem,simprocAttr,false_implies,and_true,true_and,bad,hv_213,hr_278 (by omega),hr_279 (by omega)]
     try exact se3
    refine hK17 _ _ ?_
    refine Wp.seqW fun K18 hK18 hW18=>?_
    obtain ⟨k_322,hk_322,hm⟩:=jp_elim hm
    have hcut18:∀ s,k_322 s=some z→K18 [(0,.ptr 0 0),(6,.p (.i .i64 (o1_4.length:Int))),(8,.p (.i .i64 r_259)),(9,.p (.i .i64 (o1_256.length:Int)))] [.cells 141 [.buf 1,.p (.i .i64 (o1_4.length:Int))],.nst false 138 4 3 2 (List.map eN_enc_delta_state s) none,.inn 157 2 (List.map iN_enc_delta_state s)]:=by
     intro o1_321 hs
     have hm:=hk_322 _ hs
     clear hs
     try dsimp only at hm
     try dsimp only
     refine hK18 _ _ ?_
     obtain ⟨c_323,hm⟩:=chk_elim hm
     obtain ⟨v_326,hv_327,hm⟩:=letv_elim hm
     have hs_324:List.map iN_enc_delta_state v_326=List.map iN_enc_delta_state o1_321:=by rw [← hv_327]; exact map_set_same (f:=iN_enc_delta_state) (l:=o1_321) (d:=(delta_state.mk 0 0 0 [])) (i:=r_259.toNat) (x:=(delta_state.mk ((o1_321.getD r_259.toNat (delta_state.mk 0 0 0 [])).long) ((o1_321.getD r_259.toNat (delta_state.mk 0 0 0 [])).end_) (o1_256.length:Int) ((o1_321.getD r_259.toNat (delta_state.mk 0 0 0 [])).edges))) (by first | omega | (simp only [List.length_set,List.length_append,List.length_cons,List.length_nil] at *; omega)) rfl
     have hs_325:(List.map eN_enc_delta_state o1_321).set r_259.toNat (eN_enc_delta_state (delta_state.mk ((o1_321.getD r_259.toNat (delta_state.mk 0 0 0 [])).long) ((o1_321.getD r_259.toNat (delta_state.mk 0 0 0 [])).end_) (o1_256.length:Int) ((o1_321.getD r_259.toNat (delta_state.mk 0 0 0 [])).edges)))=List.map eN_enc_delta_state v_326:=by rw [← hv_327,List.map_set]
     simp only [eN_enc_delta_state] at hs_325
     obtain ⟨c_328,hm⟩:=chk_elim hm
     obtain ⟨v_331,hv_332,hm⟩:=letv_elim hm
     have hs_329:List.map iN_enc_delta_state v_331=List.map iN_enc_delta_state v_326:=by rw [← hv_332]; exact map_set_same (f:=iN_enc_delta_state) (l:=v_326) (d:=(delta_state.mk 0 0 0 [])) (i:=o1_4.length) (x:=(delta_state.mk ((v_326.getD o1_4.length (delta_state.mk 0 0 0 [])).long) ((v_326.getD o1_4.length (delta_state.mk 0 0 0 [])).end_) (o1_256.length:Int) ((v_326.getD o1_4.length (delta_state.mk 0 0 0 [])).edges))) (by first | omega | (simp only [List.length_set,List.length_append,List.length_cons,List.length_nil] at *; omega)) rfl
     have hs_330:(List.map eN_enc_delta_state v_326).set o1_4.length (eN_enc_delta_state (delta_state.mk ((v_326.getD o1_4.length (delta_state.mk 0 0 0 [])).long) ((v_326.getD o1_4.length (delta_state.mk 0 0 0 [])).end_) (o1_256.length:Int) ((v_326.getD o1_4.length (delta_state.mk 0 0 0 [])).edges)))=List.map eN_enc_delta_state v_331:=by rw [← hv_332,List.map_set]
     simp only [eN_enc_delta_state] at hs_330
     refine Wp.regDW (plan:=pl [(0,none),(1,none),(2,none),(3,none),(4,none),(5,none),(6,none),(7,none),(8,none),(9,none),(10,none),(11,none),(12,none),(13,none),(14,some [9,11]),(15,none),(16,none),(17,some [])]) (by kernel_rfl) rfl (by kernel_rfl) fun K19 hK19 hW19=>?_
     suffices hcont19:K19 [(0,.ptr 0 0),(6,.p (.i .i64 (o1_4.length:Int))),(8,.p (.i .i64 r_259)),(9,.p (.i .i64 (o1_256.length:Int)))] [.cells 141 [.buf 1,.p (.i .i64 (o1_4.length:Int))],.nst false 138 4 3 2 (List.map eN_enc_delta_state v_331) none,.inn 157 2 (List.map iN_enc_delta_state v_331)] by
      have hr_333:=fun h=>getD_encB (l:=o1_321) (e:=eN_enc_delta_state) (d:=(delta_state.mk 0 0 0 [])) (i:=r_259.toNat) h []
      have hr_334:=fun h=>getD_encB (l:=v_326) (e:=eN_enc_delta_state) (d:=(delta_state.mk 0 0 0 [])) (i:=o1_4.length) h []
      simp only [go_sem,simprocAttr,false_implies,and_true,true_and,bad,hv_213,hv_277,hv_327,hs_324,hs_325,hv_332,hs_329,hs_330,hr_333 (by omega),hr_334 (by omega)]
      first | refine hW19 _ _ _ _ ?_ hcont19 | refine ⟨by first | exact sd | ((repeat' apply And.intro) <;> first | assumption | omega | (simp only [List.length_append,List.length_map,List.length_cons,List.length_nil,List.length_set,List.length_replicate] at c_323 c_328 ⊢; omega)),hW19 _ _ _ _ ?_ hcont19⟩
      simp only [go_sem,simprocAttr,false_implies,and_true,true_and,bad,hv_213,hv_277,hv_327,hs_324,hs_325,hv_332,hs_329,hs_330,hr_333 (by omega),hr_334 (by omega)]
      try exact se3
     refine hK19 _ _ ?_
     refine retQ_normal ?_
     cases hm
     simp only [go_sem,simprocAttr,hv_213,hv_277,hv_327,hs_324,hs_325,hv_332,hs_329,hs_330]
     try exact se3
    clear hK18 hk_322
    refine Wp.block ?_
    obtain ⟨k_362,hk_362,hm⟩:=loopN_cont hm
    refine Wp.loopN (fun s=>[(0,.ptr 0 0),(1,.p (.i .u8 c_1)),(6,.p (.i .i64 (o1_4.length:Int))),(7,.p (.i .i64 s.1)),(8,.p (.i .i64 r_259)),(9,.p (.i .i64 (o1_256.length:Int)))]) (fun s=>[.cells 141 [.buf 1,.p (.i .i64 (o1_4.length:Int))],.nst false 138 4 3 2 (List.map eN_enc_delta_state s.2) none,.inn 157 2 (List.map iN_enc_delta_state s.2),.cells 138 [.p (.i .i64 ((o1_256.getD r_259.toNat (delta_state.mk 0 0 0 [])).long)),.p (.i .i64 ((o1_256.getD r_259.toNat (delta_state.mk 0 0 0 [])).end_)),.p (.i .i64 ((o1_256.getD r_259.toNat (delta_state.mk 0 0 0 [])).link)),.top],.gone,.gone,.gone]) ?_ hm ?_
    ·
     simp only [go_sem,simprocAttr,hv_213,hv_277]
     try exact se3
    clear hm
    intro s nx_363 hm
    obtain ⟨p_348,o1_349⟩:=s
    try dsimp only at hm
    try dsimp only
    refine Wp.seqW fun K20 hK20 hW20=>?_
    obtain ⟨c_364,hm⟩:=chk_elim hm
    obtain ⟨r_365,hr_365,hm⟩:=callG_elim hm
    refine Wp.seqRW fun K21 hK21 hW21=>?_
    suffices hcont21:K21 [(0,.ptr 0 0),(1,.p (.i .u8 c_1)),(6,.p (.i .i64 (o1_4.length:Int))),(7,.p (.i .i64 p_348)),(8,.p (.i .i64 r_259)),(9,.p (.i .i64 (o1_256.length:Int))),(154,.p (.b ((decide (0≤p_348)) && (decide (r_365=r_259)))))] [.cells 141 [.buf 1,.p (.i .i64 (o1_4.length:Int))],.nst false 138 4 3 2 (List.map eN_enc_delta_state o1_349) none,.inn 157 2 (List.map iN_enc_delta_state o1_349),.cells 138 [.p (.i .i64 ((o1_256.getD r_259.toNat (delta_state.mk 0 0 0 [])).long)),.p (.i .i64 ((o1_256.getD r_259.toNat (delta_state.mk 0 0 0 [])).end_)),.p (.i .i64 ((o1_256.getD r_259.toNat (delta_state.mk 0 0 0 [])).link)),.top],.gone,.gone,.gone] by
     rcases Bool.eq_false_or_eq_true (decide (0≤p_348)) with hg_366 | hg_366
     ·
      have c_367:=c_364 hg_366
      try dsimp only at c_367
      have hr_368:=fun h=>getD_encB (l:=o1_349) (e:=enc_delta_state) (d:=(delta_state.mk 0 0 0 [])) (i:=p_348.toNat) h []
      simp only [go_sem,simprocAttr,false_implies,and_true,true_and,bad,hv_213,hv_277,hg_366,hr_368 (by omega)]
      try refine ⟨by first | exact sd | ((repeat' apply And.intro) <;> first | assumption | omega | (simp only [List.length_append,List.length_map,List.length_cons,List.length_nil,List.length_set,List.length_replicate] at c_364 c_367 ⊢; omega)),?_⟩
      refine Rg.callX (av:=?av22) (g:=decide (0≤p_348)) (fun hg=>ok_delta_state_next_i1 (o1_349.getD p_348.toNat (delta_state.mk 0 0 0 [])) c_1 _ (hr_365 hg)) (by simp only [go_sem,simprocAttr,false_implies,and_true,true_and,bad,hv_213,hv_277,hg_366,hr_368 (by omega)]; exact Is.mk) (by simp only [go_sem,simprocAttr,false_implies,and_true,true_and,bad,hv_213,hv_277,hg_366,hr_368 (by omega)]; exact Is.mk) (by simp only [go_sem,simprocAttr,false_implies,and_true,true_and,bad,hv_213,hv_277,hg_366,hr_368 (by omega),List.map_append,List.map_cons,List.map_nil]; exact Is.mk) (by simp only [go_sem,simprocAttr,false_implies,and_true,true_and,bad,hv_213,hv_277,hg_366,hr_368 (by omega)]) (by simp only [go_sem,simprocAttr,false_implies,and_true,true_and,bad,hv_213,hv_277,hg_366,hr_368 (by omega)]; exact Is.mk) ?cont22
      intro hv22
      simp only [go_sem,simprocAttr,false_implies,and_true,true_and,bad,hv_213,hv_277,hg_366,hr_368 (by omega)]
      first | refine hW21 _ _ _ _ ?_ hcont21 | refine ⟨by first | exact sd | ((repeat' apply And.intro) <;> first | assumption | omega | (simp only [List.length_append,List.length_map,List.length_cons,List.length_nil,List.length_set,List.length_replicate] at c_364 c_367 ⊢; omega)),hW21 _ _ _ _ ?_ hcont21⟩
      simp only [go_sem,simprocAttr,false_implies,and_true,true_and,bad,hv_213,hv_277,hg_366,hr_368 (by omega)]
      try exact se3
     ·
      rcases Nat.lt_or_ge p_348.toNat o1_349.length with hi_369 | hi_369
      ·
       have hr_370:=getD_encB (l:=o1_349) (e:=enc_delta_state) (d:=(delta_state.mk 0 0 0 [])) (i:=p_348.toNat) hi_369 []
       simp only [go_sem,simprocAttr,false_implies,and_true,true_and,bad,hv_213,hv_277,hg_366,hr_370]
       try refine ⟨by first | exact sd | ((repeat' apply And.intro) <;> first | assumption | omega | (simp only [List.length_append,List.length_map,List.length_cons,List.length_nil,List.length_set,List.length_replicate] at c_364 ⊢; omega)),?_⟩
       refine Rg.skipG (v:=.p (.i .i64 r_365)) (gw:=?gw23) (by simp only [go_sem,simprocAttr,false_implies,and_true,true_and,bad,hv_213,hv_277,hg_366,hr_370]; exact Is.mk) (by simp only [go_sem,simprocAttr,false_implies,and_true,true_and,bad,hv_213,hv_277,hg_366,hr_370]; exact Is.mk) (by simp only [go_sem,simprocAttr,false_implies,and_true,true_and,bad,hv_213,hv_277,hg_366,hr_370]) ?cont23
       simp only [go_sem,simprocAttr,false_implies,and_true,true_and,bad,hv_213,hv_277,hg_366,hr_370]
       first | refine hW21 _ _ _ _ ?_ hcont21 | refine ⟨by first | exact sd | ((repeat' apply And.intro) <;> first | assumption | omega | (simp only [List.length_append,List.length_map,List.length_cons,List.length_nil,List.length_set,List.length_replicate] at c_364 ⊢; omega)),hW21 _ _ _ _ ?_ hcont21⟩
       simp only [go_sem,simprocAttr,false_implies,and_true,true_and,bad,hv_213,hv_277,hg_366,hr_370]
       try exact se3
      ·
       have hr_370:(List.map enc_delta_state o1_349).getD p_348.toNat []=[]:=by rw [List.getD_eq_getElem?_getD,List.getElem?_eq_none (by simpa using hi_369)]; rfl
       simp only [go_sem,simprocAttr,false_implies,and_true,true_and,bad,hv_213,hv_277,hg_366,hr_370]
       try refine ⟨by first | exact sd | ((repeat' apply And.intro) <;> first | assumption | omega | (simp only [List.length_append,List.length_map,List.length_cons,List.length_nil,List.length_set,List.length_replicate] at c_364 ⊢; omega)),?_⟩
       refine Rg.skipG (v:=.p (.i .i64 r_365)) (gw:=?gw24) (by simp only [go_sem,simprocAttr,false_implies,and_true,true_and,bad,hv_213,hv_277,hg_366,hr_370]; exact Is.mk) (by simp only [go_sem,simprocAttr,false_implies,and_true,true_and,bad,hv_213,hv_277,hg_366,hr_370]; exact Is.mk) (by simp only [go_sem,simprocAttr,false_implies,and_true,true_and,bad,hv_213,hv_277,hg_366,hr_370]) ?cont24
       simp only [go_sem,simprocAttr,false_implies,and_true,true_and,bad,hv_213,hv_277,hg_366,hr_370]
       first | refine hW21 _ _ _ _ ?_ hcont21 | refine ⟨by first | exact sd | ((repeat' apply And.intro) <;> first | assumption | omega | (simp only [List.length_append,List.length_map,List.length_cons,List.length_nil,List.length_set,List.length_replicate] at c_364 ⊢; omega)),hW21 _ _ _ _ ?_ hcont21⟩
       simp only [go_sem,simprocAttr,false_implies,and_true,true_and,bad,hv_213,hv_277,hg_366,hr_370]
       try exact se3
    refine hK21 _ _ ?_
    refine cM hm (fun hc25 hm=>?_) (fun hc25 hm=>?_)
    ·refine Wp.skip ?_
     refine hK20 _ _ ?_
     refine Wp.block ?_
     refine Wp.toFixN 1 (by simp only [go_sem,simprocAttr]; exact Is.mk) (by simp only [go_sem,simprocAttr]) ?_
     simp only [go_sem,simprocAttr]
     obtain ⟨c_372,hm⟩:=chk_elim hm
     obtain ⟨r_373,hr_373,hm⟩:=call_elim hm
     refine Wp.seqR fun K26 hK26=>?_
     simp only [go_sem,simprocAttr,hv_213,hv_277]
     try refine ⟨by first | exact sd | ((repeat' apply And.intro) <;> first | assumption | omega | (simp only [List.length_append,List.length_map,List.length_cons,List.length_nil,List.length_set,List.length_replicate] at c_372 ⊢; omega)),?_⟩
     refine Rg.callO (av:=?av27) [1,2] (ok_delta_state_set_i1 p_348.toNat c_1 (o1_256.length:Int) o1_349 _ hr_373) (by simp only [go_sem,simprocAttr,hv_213,hv_277]; exact Is.mk) (by simp only [go_sem,simprocAttr,hv_213,hv_277]; exact Is.mk) (by simp only [go_sem,simprocAttr,hv_213,hv_277]; exact Is.mk) (by simp only [go_sem,simprocAttr,hv_213,hv_277]) (by simp only [go_sem,simprocAttr,hv_213,hv_277]) ?cont27
     rintro _ _ ⟨rfl,rfl⟩ hv27
     simp only [go_sem,simprocAttr,hv_213,hv_277]
     first | apply hK26 | refine ⟨by first | exact sd | ((repeat' apply And.intro) <;> first | assumption | omega | (simp only [List.length_append,List.length_map,List.length_cons,List.length_nil,List.length_set,List.length_replicate] at c_372 ⊢; omega)),hK26 _ _ ?_⟩
     refine Wp.toBufN 1 (by simp only [go_sem,simprocAttr]; exact Is.mk) (by simp only [go_sem,simprocAttr]) ?_
     simp only [go_sem,simprocAttr]
     obtain ⟨c_374,hm⟩:=chk_elim hm
     have hr_375:=fun h=>getD_encB (l:=r_373) (e:=eN_enc_delta_state) (d:=(delta_state.mk 0 0 0 [])) (i:=p_348.toNat) h []
     refine Wp.region fun K28 hK28=>?_
     simp only [go_sem,simprocAttr,hv_213,hv_277,hr_375 (by omega)]
     first | apply hK28 | refine ⟨by first | exact sd | ((repeat' apply And.intro) <;> first | assumption | omega | (simp only [List.length_append,List.length_map,List.length_cons,List.length_nil,List.length_set,List.length_replicate] at c_374 ⊢; omega)),hK28 _ _ ?_⟩
     simp only [thenQ,blockQ,↓reduceIte]
     refine ⟨((r_373.getD p_348.toNat (delta_state.mk 0 0 0 [])).link,r_373),hm,?_⟩
     simp only [go_sem,simprocAttr,hv_213,hv_277]
     try exact se3
    ·refine Wp.exit ?_
     simp only [thenQ,blockQ,↓reduceIte]
     have hm:=hk_362 _ hm
     try dsimp only at hm
     refine hW18 _ _ _ _ ?_ (hcut18 o1_349 hm)
     simp only [go_sem,simprocAttr,hv_213,hv_277]
     try exact se3
 clear hK4 hk_257
 refine Wp.block ?_
 obtain ⟨k_403,hk_403,hm⟩:=loopN_cont hm
 refine Wp.loopN (fun s=>[(0,.ptr 0 0),(1,.p (.i .u8 c_1)),(6,.p (.i .i64 (o1_4.length:Int))),(7,.p (.i .i64 s.1))]) (fun s=>[.cells 141 [.buf 1,.p (.i .i64 o0_1_3)],.nst false 138 4 3 2 (List.map eN_enc_delta_state s.2) none,.inn 157 2 (List.map iN_enc_delta_state s.2),.gone,.gone]) ?_ hm ?_
 ·
  simp only [go_sem,simprocAttr,hv_213]
  try exact se3
 clear hm
 intro s nx_404 hm
 obtain ⟨p_389,o1_390⟩:=s
 try dsimp only at hm
 try dsimp only
 refine Wp.seqW fun K29 hK29 hW29=>?_
 obtain ⟨c_405,hm⟩:=chk_elim hm
 obtain ⟨r_406,hr_406,hm⟩:=callG_elim hm
 refine Wp.seqRW fun K30 hK30 hW30=>?_
 suffices hcont30:K30 [(0,.ptr 0 0),(1,.p (.i .u8 c_1)),(6,.p (.i .i64 (o1_4.length:Int))),(7,.p (.i .i64 p_389)),(44,.p (.b ((decide (0≤p_389)) && (decide (r_406 < 0)))))] [.cells 141 [.buf 1,.p (.i .i64 o0_1_3)],.nst false 138 4 3 2 (List.map eN_enc_delta_state o1_390) none,.inn 157 2 (List.map iN_enc_delta_state o1_390),.gone,.gone] by
  rcases Bool.eq_false_or_eq_true (decide (0≤p_389)) with hg_407 | hg_407
  ·
   have c_408:=c_405 hg_407
   try dsimp only at c_408
   have hr_409:=fun h=>getD_encB (l:=o1_390) (e:=enc_delta_state) (d:=(delta_state.mk 0 0 0 [])) (i:=p_389.toNat) h []
   simp only [go_sem,simprocAttr,false_implies,and_true,true_and,bad,hv_213,hg_407,hr_409 (by omega)]
   try refine ⟨by first | exact sd | ((repeat' apply And.intro) <;> first | assumption | omega | (simp only [List.length_append,List.length_map,List.length_cons,List.length_nil,List.length_set,List.length_replicate] at c_405 c_408 ⊢; omega)),?_⟩
   refine Rg.callX (av:=?av31) (g:=decide (0≤p_389)) (fun hg=>ok_delta_state_next_i1 (o1_390.getD p_389.toNat (delta_state.mk 0 0 0 [])) c_1 _ (hr_406 hg)) (by simp only [go_sem,simprocAttr,false_implies,and_true,true_and,bad,hv_213,hg_407,hr_409 (by omega)]; exact Is.mk) (by simp only [go_sem,simprocAttr,false_implies,and_true,true_and,bad,hv_213,hg_407,hr_409 (by omega)]; exact Is.mk) (by simp only [go_sem,simprocAttr,false_implies,and_true,true_and,bad,hv_213,hg_407,hr_409 (by omega),List.map_append,List.map_cons,List.map_nil]; exact Is.mk) (by simp only [go_sem,simprocAttr,false_implies,and_true,true_and,bad,hv_213,hg_407,hr_409 (by omega)]) (by simp only [go_sem,simprocAttr,false_implies,and_true,true_and,bad,hv_213,hg_407,hr_409 (by omega)]; exact Is.mk) ?cont31
   intro hv31
   simp only [go_sem,simprocAttr,false_implies,and_true,true_and,bad,hv_213,hg_407,hr_409 (by omega)]
   first | refine hW30 _ _ _ _ ?_ hcont30 | refine ⟨by first | exact sd | ((repeat' apply And.intro) <;> first | assumption | omega | (simp only [List.length_append,List.length_map,List.length_cons,List.length_nil,List.length_set,List.length_replicate] at c_405 c_408 ⊢; omega)),hW30 _ _ _ _ ?_ hcont30⟩
   simp only [go_sem,simprocAttr,false_implies,and_true,true_and,bad,hv_213,hg_407,hr_409 (by omega)]
   try exact se3
  ·
   rcases Nat.lt_or_ge p_389.toNat o1_390.length with hi_410 | hi_410
   ·
    have hr_411:=getD_encB (l:=o1_390) (e:=enc_delta_state) (d:=(delta_state.mk 0 0 0 [])) (i:=p_389.toNat) hi_410 []
    simp only [go_sem,simprocAttr,false_implies,and_true,true_and,bad,hv_213,hg_407,hr_411]
    try refine ⟨by first | exact sd | ((repeat' apply And.intro) <;> first | assumption | omega | (simp only [List.length_append,List.length_map,List.length_cons,List.length_nil,List.length_set,List.length_replicate] at c_405 ⊢; omega)),?_⟩
    refine Rg.skipG (v:=.p (.i .i64 r_406)) (gw:=?gw32) (by simp only [go_sem,simprocAttr,false_implies,and_true,true_and,bad,hv_213,hg_407,hr_411]; exact Is.mk) (by simp only [go_sem,simprocAttr,false_implies,and_true,true_and,bad,hv_213,hg_407,hr_411]; exact Is.mk) (by simp only [go_sem,simprocAttr,false_implies,and_true,true_and,bad,hv_213,hg_407,hr_411]) ?cont32
    simp only [go_sem,simprocAttr,false_implies,and_true,true_and,bad,hv_213,hg_407,hr_411]
    first | refine hW30 _ _ _ _ ?_ hcont30 | refine ⟨by first | exact sd | ((repeat' apply And.intro) <;> first | assumption | omega | (simp only [List.length_append,List.length_map,List.length_cons,List.length_nil,List.length_set,List.length_replicate] at c_405 ⊢; omega)),hW30 _ _ _ _ ?_ hcont30⟩
    simp only [go_sem,simprocAttr,false_implies,and_true,true_and,bad,hv_213,hg_407,hr_411]
    try exact se3
   ·
    have hr_411:(List.map enc_delta_state o1_390).getD p_389.toNat []=[]:=by rw [List.getD_eq_getElem?_getD,List.getElem?_eq_none (by simpa using hi_410)]; rfl
    simp only [go_sem,simprocAttr,false_implies,and_true,true_and,bad,hv_213,hg_407,hr_411]
    try refine ⟨by first | exact sd | ((repeat' apply And.intro) <;> first | assumption | omega | (simp only [List.length_append,List.length_map,List.length_cons,List.length_nil,List.length_set,List.length_replicate] at c_405 ⊢; omega)),?_⟩
    refine Rg.skipG (v:=.p (.i .i64 r_406)) (gw:=?gw33) (by simp only [go_sem,simprocAttr,false_implies,and_true,true_and,bad,hv_213,hg_407,hr_411]; exact Is.mk) (by simp only [go_sem,simprocAttr,false_implies,and_true,true_and,bad,hv_213,hg_407,hr_411]; exact Is.mk) (by simp only [go_sem,simprocAttr,false_implies,and_true,true_and,bad,hv_213,hg_407,hr_411]) ?cont33
    simp only [go_sem,simprocAttr,false_implies,and_true,true_and,bad,hv_213,hg_407,hr_411]
    first | refine hW30 _ _ _ _ ?_ hcont30 | refine ⟨by first | exact sd | ((repeat' apply And.intro) <;> first | assumption | omega | (simp only [List.length_append,List.length_map,List.length_cons,List.length_nil,List.length_set,List.length_replicate] at c_405 ⊢; omega)),hW30 _ _ _ _ ?_ hcont30⟩
    simp only [go_sem,simprocAttr,false_implies,and_true,true_and,bad,hv_213,hg_407,hr_411]
    try exact se3
 refine hK30 _ _ ?_
 refine cM hm (fun hc34 hm=>?_) (fun hc34 hm=>?_)
 ·refine Wp.skip ?_
  refine hK29 _ _ ?_
  refine Wp.block ?_
  refine Wp.toFixN 1 (by simp only [go_sem,simprocAttr]; exact Is.mk) (by simp only [go_sem,simprocAttr]) ?_
  simp only [go_sem,simprocAttr]
  obtain ⟨c_413,hm⟩:=chk_elim hm
  obtain ⟨r_414,hr_414,hm⟩:=call_elim hm
  refine Wp.seqR fun K35 hK35=>?_
  simp only [go_sem,simprocAttr,hv_213]
  try refine ⟨by first | exact sd | ((repeat' apply And.intro) <;> first | assumption | omega | (simp only [List.length_append,List.length_map,List.length_cons,List.length_nil,List.length_set,List.length_replicate] at c_413 ⊢; omega)),?_⟩
  refine Rg.callO (av:=?av36) [1,2] (ok_delta_state_set_i1 p_389.toNat c_1 (o1_4.length:Int) o1_390 _ hr_414) (by simp only [go_sem,simprocAttr,hv_213]; exact Is.mk) (by simp only [go_sem,simprocAttr,hv_213]; exact Is.mk) (by simp only [go_sem,simprocAttr,hv_213]; exact Is.mk) (by simp only [go_sem,simprocAttr,hv_213]) (by simp only [go_sem,simprocAttr,hv_213]) ?cont36
  rintro _ _ ⟨rfl,rfl⟩ hv36
  simp only [go_sem,simprocAttr,hv_213]
  first | apply hK35 | refine ⟨by first | exact sd | ((repeat' apply And.intro) <;> first | assumption | omega | (simp only [List.length_append,List.length_map,List.length_cons,List.length_nil,List.length_set,List.length_replicate] at c_413 ⊢; omega)),hK35 _ _ ?_⟩
  refine Wp.toBufN 1 (by simp only [go_sem,simprocAttr]; exact Is.mk) (by simp only [go_sem,simprocAttr]) ?_
  simp only [go_sem,simprocAttr]
  obtain ⟨c_415,hm⟩:=chk_elim hm
  have hr_416:=fun h=>getD_encB (l:=r_414) (e:=eN_enc_delta_state) (d:=(delta_state.mk 0 0 0 [])) (i:=p_389.toNat) h []
  refine Wp.region fun K37 hK37=>?_
  simp only [go_sem,simprocAttr,hv_213,hr_416 (by omega)]
  first | apply hK37 | refine ⟨by first | exact sd | ((repeat' apply And.intro) <;> first | assumption | omega | (simp only [List.length_append,List.length_map,List.length_cons,List.length_nil,List.length_set,List.length_replicate] at c_415 ⊢; omega)),hK37 _ _ ?_⟩
  simp only [thenQ,blockQ,↓reduceIte]
  refine ⟨((r_414.getD p_389.toNat (delta_state.mk 0 0 0 [])).link,r_414),hm,?_⟩
  simp only [go_sem,simprocAttr,hv_213]
  try exact se3
 ·refine Wp.exit ?_
  simp only [thenQ,blockQ,↓reduceIte]
  have hm:=hk_403 _ hm
  try dsimp only at hm
  refine hW4 _ _ _ _ ?_ (hcut4 (p_389,o1_390) hm)
  simp only [go_sem,simprocAttr,hv_213]
  try exact se3
theorem ok_delta_newAutomaton (text_1:Str) (z:List delta_state × Int) (hm:delta_newAutomaton text_1=some z):Does Tryd.prog 64 [.p (.s text_1)] [] (fun r X=>r=.ptr 2 0∧X=[.nst false 138 4 3 1 (List.map eN_enc_delta_state z.1) none,.inn 157 2 (List.map iN_enc_delta_state z.1),.cells 141 [.buf 0,.p (.i .i64 z.2)]]):=by
 unfold delta_newAutomaton at hm
 refine Does.of_wp 3 23 [.tmp 2] Tryd.func64 rfl (by decide) rfl rfl (Nat.le_of_ble_eq_true rfl) fun B=>?_
 refine qS ?_
 obtain ⟨v_35,hv_36,hm⟩:=letv_elim hm
 refine Wp.seqRW fun K2 hK2 hW2=>?_
 suffices hcont2:K2 [(0,.p (.s text_1)),(2,.nil),(3,.ptr 2 0)] [.nst false 138 4 3 1 (List.map eN_enc_delta_state v_35) none,.inn 157 2 (List.map iN_enc_delta_state v_35),.cells 141 [.buf 0,.p (.i .i64 0)]] by
  subst hv_36
  simp only [go_sem,simprocAttr,false_implies,and_true,true_and,bad]
  first | refine hW2 _ _ _ _ ?_ hcont2 | refine ⟨sd,hW2 _ _ _ _ ?_ hcont2⟩
  simp only [go_sem,simprocAttr,false_implies,and_true,true_and,bad]
  try exact se3
 refine hK2 _ _ ?_
 refine Wp.seqW fun K3 hK3 hW3=>?_
 obtain ⟨k_53,hk_53,hm⟩:=jp_elim hm
 have hcut3:∀ s,k_53 s=some z→K3 [(3,.ptr 2 0)] [.nst false 138 4 3 1 (List.map eN_enc_delta_state s.1) none,.inn 157 2 (List.map iN_enc_delta_state s.1),.cells 141 [.buf 0,.p (.i .i64 s.2)]]:=by
  intro s hs
  have hm:=hk_53 _ hs
  clear hs
  obtain ⟨o0_51,o2_1_52⟩:=s
  try dsimp only at hm
  try dsimp only
  refine hK3 _ _ ?_
  refine Wp.seqR fun K4 hK4=>?_
  simp only [go_sem,simprocAttr,hv_36]
  first | apply hK4 | refine ⟨sd,hK4 _ _ ?_⟩
  refine Wp.ret ?_
  refine retQ_ret ?_
  cases hm
  simp only [go_sem,simprocAttr,hv_36]
  try exact se3
 clear hK3 hk_53
 refine Wp.seqR fun K5 hK5=>?_
 simp only [go_sem,simprocAttr,hv_36]
 first | apply hK5 | refine ⟨sd,hK5 _ _ ?_⟩
 refine Wp.block ?_
 obtain ⟨k_62,hk_62,hm⟩:=forL_cont hm
 refine Wp.fact 0 fun hl_65=>?_
 replace hl_65:text_1.length≤274877906944:=by
  simp only [go_sem,simprocAttr,List.length_map] at hl_65
  omega
 refine Wp.forL (fun i_64 s=>[(0,.p (.s text_1)),(3,.ptr 2 0),(4,.p (.i .i64 (i_64:Int)))]) (fun i_64 s=>[.nst false 138 4 3 1 (List.map eN_enc_delta_state s.1) none,.inn 157 2 (List.map iN_enc_delta_state s.1),.cells 141 [.buf 0,.p (.i .i64 s.2)]]) ?_ hm ?_
 ·
  simp only [go_sem,simprocAttr,hv_36]
  try exact se3
 clear hm
 intro i_64 s hii_64 hm
 obtain ⟨o0_58,o2_1_59⟩:=s
 try dsimp only at hm
 try dsimp only
 refine Wp.seqW fun K6 hK6 hW6=>?_
 refine Wp.seqR fun K7 hK7=>?_
 simp only [go_sem,simprocAttr,hv_36]
 first | apply hK7 | refine ⟨sd,hK7 _ _ ?_⟩
 refine Wp.cond rfl ⟨⟩ (fun hc6=>?_) (fun hc6=>?_)
 rotate_left
 ·refine Wp.exit ?_
  have hm:=hk_62 _ (forL_end hm (ge_nat (by first | exact hc6 | simpa using hc6)))
  try dsimp only at hm
  refine hW3 _ _ _ _ ?_ (hcut3 (o0_58,o2_1_59) hm)
  simp only [go_sem,simprocAttr,hv_36]
  try exact se3
 have hlt6:=lt_nat (by first | exact hc6 | simpa using hc6)
 have hw6:=wrap_succ hlt6 hl_65
 obtain ⟨c_66,nx_63,hxc_66,hyc_66,hnx_63,hm⟩:=forL_step hm hlt6
 clear hxc_66
 refine Wp.skip ?_
 simp only [thenQ]
 refine hK6 _ _ ?_
 refine Wp.seqW fun K8 hK8 hW8=>?_
 refine Wp.block ?_
 obtain ⟨r_67,hr_67,hm⟩:=call_elim hm
 refine Wp.region fun K9 hK9=>?_
 simp only [go_sem,simprocAttr,hv_36,hw6,hyc_66]
 try refine ⟨sd,?_⟩
 refine Rg.callO (av:=?av10) [2,0,1] (ok_delta_automaton_add_i1 (c_66.toNat:Int) (IntKind.i64.wrap ((i_64:Int)+1)) o2_1_59 o0_58 _ hr_67) (by simp only [go_sem,simprocAttr,hv_36,hw6,hyc_66]; exact Is.mk) (by simp only [go_sem,simprocAttr,hv_36,hw6,hyc_66]; exact Is.mk) (by simp only [go_sem,simprocAttr,hv_36,hw6,hyc_66]; exact Is.mk) (by simp only [go_sem,simprocAttr,hv_36,hw6,hyc_66]) (by simp only [go_sem,simprocAttr,hv_36,hw6,hyc_66]) ?cont10
 rintro _ _ ⟨rfl,rfl⟩ hv10
 simp only [go_sem,simprocAttr,hv_36,hw6,hyc_66]
 first | apply hK9 | refine ⟨sd,hK9 _ _ ?_⟩
 refine hK8 _ _ ?_
 refine Wp.region fun K11 hK11=>?_
 simp only [go_sem,simprocAttr,hv_36,hw6,hyc_66]
 first | apply hK11 | refine ⟨sd,hK11 _ _ ?_⟩
 simp only [thenQ,blockQ,↓reduceIte]
 refine ⟨(r_67.2,r_67.1),hlt6,hnx_63 _ hm,?_⟩
 simp only [go_sem,simprocAttr,hv_36,hw6,hyc_66]
 try exact se3
theorem ok_delta_automaton_longest_i1 (text_1:Str) (o0_1_2:Int) (o1_3:List delta_state) (z:Int × Int) (hm:delta_automaton_longest_i1 text_1 o0_1_2 o1_3=some z):Does Tryd.prog 65 [.ptr 0 0,.p (.s text_1)] [.cells 141 [.buf 1,.p (.i .i64 o0_1_2)],.nst false 138 4 3 2 (List.map eN_enc_delta_state o1_3) none,.inn 157 2 (List.map iN_enc_delta_state o1_3)] (fun r X=>r=.tup [.p (.i .i64 z.1),.p (.i .i64 z.2)]∧X=[.cells 141 [.buf 1,.p (.i .i64 o0_1_2)],.nst false 138 4 3 2 (List.map eN_enc_delta_state o1_3) none,.inn 157 2 (List.map iN_enc_delta_state o1_3)]):=by
 unfold delta_automaton_longest_i1 at hm
 refine Does.of_wp 3 38 [.tmp 4,.tmp 5] Tryd.func65 rfl (by decide) rfl rfl (Nat.le_of_ble_eq_true rfl) fun B=>?_
 refine qS ?_
 refine qS ?_
 refine Wp.seqW fun K3 hK3 hW3=>?_
 obtain ⟨k_47,hk_47,hm⟩:=jp_elim hm
 have hcut3:∀ s,k_47 s=some z→K3 [(0,.ptr 0 0),(5,.p (.i .i64 s.1)),(6,.p (.i .i64 s.2))] [.cells 141 [.buf 1,.p (.i .i64 o0_1_2)],.nst false 138 4 3 2 (List.map eN_enc_delta_state o1_3) none,.inn 157 2 (List.map iN_enc_delta_state o1_3)]:=by
  intro s hs
  have hm:=hk_47 _ hs
  clear hs
  obtain ⟨long_45,s_46⟩:=s
  try dsimp only at hm
  try dsimp only
  refine hK3 _ _ ?_
  obtain ⟨c_48,hm⟩:=chk_elim hm
  have hr_49:=fun h=>getD_encB (l:=o1_3) (e:=eN_enc_delta_state) (d:=(delta_state.mk 0 0 0 [])) (i:=s_46.toNat) h []
  refine Wp.seqR fun K4 hK4=>?_
  simp only [go_sem,simprocAttr,hr_49 (by omega)]
  first | apply hK4 | refine ⟨by first | exact sd | ((repeat' apply And.intro) <;> first | assumption | omega | (simp only [List.length_append,List.length_map,List.length_cons,List.length_nil,List.length_set,List.length_replicate] at c_48 ⊢; omega)),hK4 _ _ ?_⟩
  refine Wp.ret ?_
  refine retQ_ret ?_
  cases hm
  exact fse3
 clear hK3 hk_47
 refine Wp.block ?_
 obtain ⟨k_56,hk_56,hm⟩:=loopN_cont hm
 refine Wp.loopN (fun s=>[(0,.ptr 0 0),(1,.p (.s text_1)),(5,.p (.i .i64 s.1)),(6,.p (.i .i64 s.2))]) (fun s=>[.cells 141 [.buf 1,.p (.i .i64 o0_1_2)],.nst false 138 4 3 2 (List.map eN_enc_delta_state o1_3) none,.inn 157 2 (List.map iN_enc_delta_state o1_3)]) ?_ hm ?_
 ·
  exact fse3
 clear hm
 intro s nx_57 hm
 obtain ⟨long_50,s_51⟩:=s
 try dsimp only at hm
 try dsimp only
 refine Wp.seqW fun K5 hK5 hW5=>?_
 refine qS ?_
 refine cM hm (fun hc7 hm=>?_) (fun hc7 hm=>?_)
 ·refine Wp.skip ?_
  refine hK5 _ _ ?_
  refine Wp.block ?_
  obtain ⟨c_58,hm⟩:=chk_elim hm
  obtain ⟨c_59,hbc_59,hxc_59,hm⟩:=idxS_elim hm
  replace hxc_59:((text_1.getD long_50.toNat 0).toNat:Int)=c_59:=hxc_59
  obtain ⟨r_60,hr_60,hm⟩:=call_elim hm
  have hr_61:=fun h=>getD_encB (l:=o1_3) (e:=enc_delta_state) (d:=(delta_state.mk 0 0 0 [])) (i:=s_51.toNat) h []
  refine Wp.seqD (plan:=pl [(0,none),(1,none),(2,none),(3,none),(4,none),(5,none),(6,none),(7,none),(8,none),(9,none),(10,none)]) (by kernel_rfl) rfl (by kernel_rfl) fun K8 hK8=>?_
  simp only [go_sem,simprocAttr,hxc_59,hr_61 (by omega)]
  try refine ⟨by first | exact sd | ((repeat' apply And.intro) <;> first | assumption | omega | (simp only [List.length_append,List.length_map,List.length_cons,List.length_nil,List.length_set,List.length_replicate] at c_58 ⊢; omega)),?_⟩
  refine Dr.callF (av:=?av9) (g:=true) (o:=?o9) (fun hg=>ok_delta_state_next_i1 (o1_3.getD s_51.toNat (delta_state.mk 0 0 0 [])) c_59 _ hr_60) (by simp only [go_sem,simprocAttr,hxc_59,hr_61 (by omega)]; exact Is.mk) (by simp only [go_sem,simprocAttr,hxc_59,hr_61 (by omega)]; exact Is.mk) (by simp only [go_sem,simprocAttr,hxc_59,hr_61 (by omega)]; exact Is.mk) (by simp only [go_sem,simprocAttr,hxc_59,hr_61 (by omega),List.map_append,List.map_cons,List.map_nil]; exact Is.mk) (by simp only [go_sem,simprocAttr,hxc_59,hr_61 (by omega)]) (by simp only [go_sem,simprocAttr,hxc_59,hr_61 (by omega)]; exact Is.mk) ?cont9
  simp only [go_sem,simprocAttr,hxc_59,hr_61 (by omega)]
  first | apply hK8 | refine ⟨by first | exact sd | ((repeat' apply And.intro) <;> first | assumption | omega | (simp only [List.length_append,List.length_map,List.length_cons,List.length_nil,List.length_set,List.length_replicate] at c_58 ⊢; omega)),hK8 _ _ ?_⟩
  refine Wp.seqW fun K10 hK10 hW10=>?_
  refine Wp.seqR fun K11 hK11=>?_
  simp only [go_sem,simprocAttr,hxc_59]
  first | apply hK11 | refine ⟨sd,hK11 _ _ ?_⟩
  refine cM hm (fun hc12 hm=>?_) (fun hc12 hm=>?_)
  ·refine Wp.exit ?_
   simp only [thenQ,blockQ,↓reduceIte]
   have hm:=hk_56 _ hm
   try dsimp only at hm
   refine hW3 _ _ _ _ ?_ (hcut3 (long_50,s_51) hm)
   simp only [go_sem,simprocAttr,hxc_59]
   try exact se3
  ·refine Wp.skip ?_
   refine hK10 _ _ ?_
   refine Wp.seqR fun K13 hK13=>?_
   simp only [go_sem,simprocAttr,hxc_59]
   first | apply hK13 | refine ⟨sd,hK13 _ _ ?_⟩
   refine Wp.region fun K14 hK14=>?_
   simp only [go_sem,simprocAttr,hxc_59]
   first | apply hK14 | refine ⟨sd,hK14 _ _ ?_⟩
   simp only [thenQ,blockQ,↓reduceIte]
   refine ⟨(IntKind.i64.wrap (long_50+1),r_60),hm,?_⟩
   simp only [go_sem,simprocAttr,hxc_59]
   try exact se3
 ·refine Wp.exit ?_
  simp only [thenQ,blockQ,↓reduceIte]
  have hm:=hk_56 _ hm
  try dsimp only at hm
  refine hW3 _ _ _ _ ?_ (hcut3 (long_50,s_51) hm)
  exact fse3
end Go.Proofs.YtkekfenkeeiigaaDoor
