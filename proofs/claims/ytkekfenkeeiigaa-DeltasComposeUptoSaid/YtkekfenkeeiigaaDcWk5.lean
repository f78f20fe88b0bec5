/- That the code does what the models say (part 5). -/
import Derived.Test.YtkekfenkeeiigaaDcWk0
set_option linter.unusedSimpArgs false
set_option linter.unusedVariables false
open Go.Proofs Go.Shelf
namespace Go.Proofs.Ytkekfenkeeiigaa
open Go.Vc Go.Md
set_option maxRecDepth 100000
set_option maxHeartbeats 4000000
theorem ok_R_Joined (l_1:List api_Piece) (z:List api_Piece) (hm:R_Joined l_1=some z):Does Try.prog 25 [.p (.l (List.map enc_api_Piece l_1))] [] (fun r X=>r=.p (.l (List.map enc_api_Piece z))∧X=[]):=by
 unfold R_Joined at hm
 refine Does.of_wp 0 90 [.tmp 2] Try.func25 rfl (by decide) rfl rfl (Nat.le_of_ble_eq_true rfl) fun B=>?_
 refine qS ?_
 refine qS ?_
 refine Wp.seqW fun K3 hK3 hW3=>?_
 obtain ⟨k_145,hk_145,hm⟩:=jp_elim hm
 have hcut3:∀ s,k_145 s=some z→K3 [(3,.buf 0)] [.buf 42 3 (List.map enc_api_Piece s)]:=by
  intro o0_144 hs
  have hm:=hk_145 _ hs
  clear hs
  try dsimp only at hm
  try dsimp only
  refine hK3 _ _ ?_
  refine qS ?_
  refine Wp.ret ?_
  refine retQ_ret ?_
  cases hm
  exact fse3
 clear hK3 hk_145
 refine qS ?_
 refine Wp.block ?_
 refine Wp.adopt 3 42 3 rfl ?_
 simp only [go_sem,simprocAttr]
 obtain ⟨k_239,hk_239,hm⟩:=forL_cont hm
 refine Wp.fact 7 fun hl_242=>?_
 replace hl_242:l_1.length≤274877906944:=by
  simp only [go_sem,simprocAttr,List.length_map] at hl_242
  omega
 refine Wp.forL (fun i_241 s=>[(3,.buf 0),(7,.p (.l (List.map enc_api_Piece l_1))),(8,.p (.i .i64 (l_1.length:Int))),(9,.p (.i .i64 (i_241:Int)))]) (fun i_241 s=>[.buf 42 3 (List.map enc_api_Piece s)]) ?_ hm ?_
 ·
  exact fse3
 clear hm
 intro i_241 o0_193 hii_241 hm
 try dsimp only at hm
 try dsimp only
 refine qS ?_
 refine Wp.seqW fun K7 hK7 hW7=>?_
 refine Wp.cond rfl ⟨⟩ (fun hc7=>?_) (fun hc7=>?_)
 rotate_left
 ·refine Wp.exit ?_
  have hm:=hk_239 _ (forL_end hm (ge_nat (by first | exact hc7 | simpa using hc7)))
  try dsimp only at hm
  refine hW3 _ _ _ _ ?_ (hcut3 o0_193 hm)
  exact fse3
 have hlt7:=lt_nat (by first | exact hc7 | simpa using hc7)
 have hw7:=wrap_succ hlt7 hl_242
 obtain ⟨p_243,nx_240,hxp_243,hyp_243,hnx_240,hm⟩:=forL_step hm hlt7
 replace hxp_243:=hxp_243 enc_api_Piece
 refine Wp.skip ?_
 simp only [thenQ]
 refine hK7 _ _ ?_
 refine Wp.seqW fun K8 hK8 hW8=>?_
 refine Wp.block ?_
 refine Wp.seqR fun K9 hK9=>?_
 simp only [go_sem,simprocAttr,hw7,hxp_243]
 first | apply hK9 | refine ⟨sd,hK9 _ _ ?_⟩
 refine Wp.seqR fun K10 hK10=>?_
 simp only [go_sem,simprocAttr,hw7,hxp_243]
 first | apply hK10 | refine ⟨sd,hK10 _ _ ?_⟩
 refine Wp.block ?_
 obtain ⟨c_244,hm⟩:=chk_elim hm
 refine Wp.seqRW fun K11 hK11 hW11=>?_
 suffices hcont11:K11 [(3,.buf 0),(5,.ptr 1 0),(6,.p (.i .i64 (IntKind.i64.wrap ((o0_193.length:Int) - 1)))),(7,.p (.l (List.map enc_api_Piece l_1))),(8,.p (.i .i64 (l_1.length:Int))),(9,.p (.i .i64 (i_241:Int))),(10,.p (.b (decide ((i_241:Int) < (l_1.length:Int))))),(11,.rp [.i .i64 p_243.At,.i .i64 p_243.Long,.s p_243.Data]),(12,.agg [.p (.i .i64 p_243.At),.p (.i .i64 p_243.Long),.p (.s p_243.Data)]),(13,.buf 0),(14,.p (.i .i64 (o0_193.length:Int))),(15,.p (.i .i64 (IntKind.i64.wrap ((o0_193.length:Int) - 1)))),(20,.p (.b (((decide (0≤(IntKind.i64.wrap ((o0_193.length:Int) - 1)))) && (!decide (p_243.Data=[]))) && (!decide (((o0_193.getD ((IntKind.i64.wrap ((o0_193.length:Int) - 1)).toNat) (api_Piece.mk 0 0 [])).Data)=[])))))] [.buf 42 3 (List.map enc_api_Piece o0_193),.cells 42 [.p (.i .i64 p_243.At),.p (.i .i64 p_243.Long),.p (.s p_243.Data)]] by
  rcases Bool.eq_false_or_eq_true (decide (0≤(IntKind.i64.wrap ((o0_193.length:Int) - 1)))) with hg_245 | hg_245
  ·
   rcases Bool.eq_false_or_eq_true (decide (p_243.Data=[])) with hg_246 | hg_246
   ·
    have hg_247:((decide (0≤(IntKind.i64.wrap ((o0_193.length:Int) - 1)))) && (!decide (p_243.Data=[])))=false:=by revert hg_245 hg_246; generalize decide (0≤(IntKind.i64.wrap ((o0_193.length:Int) - 1)))=x0; generalize decide (p_243.Data=[])=x1; revert x0 x1; decide
    rcases Nat.lt_or_ge ((IntKind.i64.wrap ((o0_193.length:Int) - 1)).toNat) o0_193.length with hi_248 | hi_248
    ·
     have hr_249:=getD_encB (l:=o0_193) (e:=enc_api_Piece) (d:=(api_Piece.mk 0 0 [])) (i:=(IntKind.i64.wrap ((o0_193.length:Int) - 1)).toNat) hi_248 []
     simp only [go_sem,simprocAttr,false_implies,and_true,true_and,bad,hw7,hxp_243,hg_245,hg_246,hg_247,hr_249]
     first | refine hW11 _ _ _ _ ?_ hcont11 | refine ⟨by first | exact sd | ((repeat' apply And.intro) <;> first | assumption | omega | (simp only [List.length_append,List.length_map,List.length_cons,List.length_nil,List.length_set,List.length_replicate] at c_244 ⊢; omega)),hW11 _ _ _ _ ?_ hcont11⟩
     simp only [go_sem,simprocAttr,false_implies,and_true,true_and,bad,hw7,hxp_243,hg_245,hg_246,hg_247,hr_249]
     try exact se3
    ·
     have hr_249:(List.map enc_api_Piece o0_193).getD ((IntKind.i64.wrap ((o0_193.length:Int) - 1)).toNat) []=[]:=by rw [List.getD_eq_getElem?_getD,List.getElem?_eq_none (by simpa using hi_248)]; rfl
     simp only [go_sem,simprocAttr,false_implies,and_true,true_and,bad,hw7,hxp_243,hg_245,hg_246,hg_247,hr_249]
     first | refine hW11 _ _ _ _ ?_ hcont11 | refine ⟨by first | exact sd | ((repeat' apply And.intro) <;> first | assumption | omega | (simp only [List.length_append,List.length_map,List.length_cons,List.length_nil,List.length_set,List.length_replicate] at c_244 ⊢; omega)),hW11 _ _ _ _ ?_ hcont11⟩
     simp only [go_sem,simprocAttr,false_implies,and_true,true_and,bad,hw7,hxp_243,hg_245,hg_246,hg_247,hr_249]
     try exact se3
   ·
    have hg_250:((decide (0≤(IntKind.i64.wrap ((o0_193.length:Int) - 1)))) && (!decide (p_243.Data=[])))=true:=by revert hg_245 hg_246; generalize decide (0≤(IntKind.i64.wrap ((o0_193.length:Int) - 1)))=x0; generalize decide (p_243.Data=[])=x1; revert x0 x1; decide
    have c_251:=c_244 hg_250
    try dsimp only at c_251
    have hr_252:=getD_encB (l:=o0_193) (e:=enc_api_Piece) (d:=(api_Piece.mk 0 0 [])) (i:=(IntKind.i64.wrap ((o0_193.length:Int) - 1)).toNat) (by omega) []
    try simp only [hw7,Int.toNat_natCast] at hr_252
    simp only [go_sem,simprocAttr,false_implies,and_true,true_and,bad,hw7,hxp_243,hg_245,hg_246,hg_250,hr_252]
    first | refine hW11 _ _ _ _ ?_ hcont11 | refine ⟨by first | exact sd | ((repeat' apply And.intro) <;> first | assumption | omega | (simp only [List.length_append,List.length_map,List.length_cons,List.length_nil,List.length_set,List.length_replicate] at c_244 c_251 ⊢; omega)),hW11 _ _ _ _ ?_ hcont11⟩
    simp only [go_sem,simprocAttr,false_implies,and_true,true_and,bad,hw7,hxp_243,hg_245,hg_246,hg_250,hr_252]
    try exact se3
  ·
   have hg_253:((decide (0≤(IntKind.i64.wrap ((o0_193.length:Int) - 1)))) && (!decide (p_243.Data=[])))=false:=by revert hg_245; generalize decide (0≤(IntKind.i64.wrap ((o0_193.length:Int) - 1)))=x0; generalize decide (p_243.Data=[])=x1; revert x0 x1; decide
   rcases Nat.lt_or_ge ((IntKind.i64.wrap ((o0_193.length:Int) - 1)).toNat) o0_193.length with hi_254 | hi_254
   ·
    have hr_255:=getD_encB (l:=o0_193) (e:=enc_api_Piece) (d:=(api_Piece.mk 0 0 [])) (i:=(IntKind.i64.wrap ((o0_193.length:Int) - 1)).toNat) hi_254 []
    simp only [go_sem,simprocAttr,false_implies,and_true,true_and,bad,hw7,hxp_243,hg_245,hg_253,hr_255]
    first | refine hW11 _ _ _ _ ?_ hcont11 | refine ⟨by first | exact sd | ((repeat' apply And.intro) <;> first | assumption | omega | (simp only [List.length_append,List.length_map,List.length_cons,List.length_nil,List.length_set,List.length_replicate] at c_244 ⊢; omega)),hW11 _ _ _ _ ?_ hcont11⟩
    simp only [go_sem,simprocAttr,false_implies,and_true,true_and,bad,hw7,hxp_243,hg_245,hg_253,hr_255]
    try exact se3
   ·
    have hr_255:(List.map enc_api_Piece o0_193).getD ((IntKind.i64.wrap ((o0_193.length:Int) - 1)).toNat) []=[]:=by rw [List.getD_eq_getElem?_getD,List.getElem?_eq_none (by simpa using hi_254)]; rfl
    simp only [go_sem,simprocAttr,false_implies,and_true,true_and,bad,hw7,hxp_243,hg_245,hg_253,hr_255]
    first | refine hW11 _ _ _ _ ?_ hcont11 | refine ⟨by first | exact sd | ((repeat' apply And.intro) <;> first | assumption | omega | (simp only [List.length_append,List.length_map,List.length_cons,List.length_nil,List.length_set,List.length_replicate] at c_244 ⊢; omega)),hW11 _ _ _ _ ?_ hcont11⟩
    simp only [go_sem,simprocAttr,false_implies,and_true,true_and,bad,hw7,hxp_243,hg_245,hg_253,hr_255]
    try exact se3
 refine hK11 _ _ ?_
 refine cM hm (fun hc12 hm=>?_) (fun hc12 hm=>?_)
 ·obtain ⟨c_256,hm⟩:=chk_elim hm
  obtain ⟨c_257,hm⟩:=chk_elim hm
  obtain ⟨c_258,hm⟩:=chk_elim hm
  have hr_259:=getD_encB (l:=o0_193) (e:=enc_api_Piece) (d:=(api_Piece.mk 0 0 [])) (i:=(IntKind.i64.wrap ((o0_193.length:Int) - 1)).toNat) (by omega) []
  try simp only [hw7,Int.toNat_natCast] at hr_259
  refine Wp.regD (plan:=pl [(0,none),(1,none),(2,none),(3,none),(4,none),(5,none),(6,none),(7,none),(8,none),(9,none),(10,some [])]) (by kernel_rfl) rfl (by kernel_rfl) fun K13 hK13=>?_
  simp only [go_sem,simprocAttr,hw7,hxp_243,hr_259]
  first | apply hK13 | refine ⟨by first | exact sd | ((repeat' apply And.intro) <;> first | assumption | omega | (simp only [List.length_append,List.length_map,List.length_cons,List.length_nil,List.length_set,List.length_replicate] at c_256 c_257 c_258 ⊢; omega)),hK13 _ _ ?_⟩
  refine hK8 _ _ ?_
  refine Wp.region fun K14 hK14=>?_
  simp only [go_sem,simprocAttr,hw7,hxp_243]
  first | apply hK14 | refine ⟨sd,hK14 _ _ ?_⟩
  simp only [thenQ,blockQ,↓reduceIte]
  refine ⟨List.set o0_193 ((IntKind.i64.wrap ((o0_193.length:Int) - 1)).toNat) (api_Piece.mk ((o0_193.getD ((IntKind.i64.wrap ((o0_193.length:Int) - 1)).toNat) (api_Piece.mk 0 0 [])).At) ((o0_193.getD ((IntKind.i64.wrap ((o0_193.length:Int) - 1)).toNat) (api_Piece.mk 0 0 [])).Long) (((o0_193.getD ((IntKind.i64.wrap ((o0_193.length:Int) - 1)).toNat) (api_Piece.mk 0 0 [])).Data)++p_243.Data)),hlt7,hnx_240 _ hm,?_⟩
  simp only [go_sem,simprocAttr,hw7,hxp_243]
  try exact se3
 ·obtain ⟨c_260,hm⟩:=chk_elim hm
  obtain ⟨c_261,hm⟩:=chk_elim hm
  obtain ⟨c_262,hm⟩:=chk_elim hm
  refine Wp.seqDW (plan:=pl [(0,none),(1,none),(2,none),(3,none),(4,none),(5,none),(6,none),(7,none),(8,none),(9,none),(10,none),(11,none),(12,none),(13,none),(14,none),(15,none),(16,none),(17,none),(18,none),(19,none),(20,none),(21,none),(22,none),(23,none),(24,none),(25,none),(26,none),(27,none),(28,none),(29,none),(30,none),(31,none)]) (by kernel_rfl) rfl (by kernel_rfl) fun K15 hK15 hW15=>?_
  suffices hcont15:K15 [(3,.buf 0),(5,.ptr 1 0),(6,.p (.i .i64 (IntKind.i64.wrap ((o0_193.length:Int) - 1)))),(7,.p (.l (List.map enc_api_Piece l_1))),(8,.p (.i .i64 (l_1.length:Int))),(9,.p (.i .i64 (i_241:Int))),(10,.p (.b (decide ((i_241:Int) < (l_1.length:Int))))),(11,.rp [.i .i64 p_243.At,.i .i64 p_243.Long,.s p_243.Data]),(12,.agg [.p (.i .i64 p_243.At),.p (.i .i64 p_243.Long),.p (.s p_243.Data)]),(13,.buf 0),(14,.p (.i .i64 (o0_193.length:Int))),(15,.p (.i .i64 (IntKind.i64.wrap ((o0_193.length:Int) - 1)))),(20,.p (.b (((decide (0≤(IntKind.i64.wrap ((o0_193.length:Int) - 1)))) && (!decide (p_243.Data=[]))) && (!decide (((o0_193.getD ((IntKind.i64.wrap ((o0_193.length:Int) - 1)).toNat) (api_Piece.mk 0 0 [])).Data)=[]))))),(46,.p (.b ((((decide (0≤(IntKind.i64.wrap ((o0_193.length:Int) - 1)))) && (decide (p_243.Data=[]))) && (decide (((o0_193.getD ((IntKind.i64.wrap ((o0_193.length:Int) - 1)).toNat) (api_Piece.mk 0 0 [])).Data)=[]))) && (decide ((IntKind.i64.wrap (((o0_193.getD ((IntKind.i64.wrap ((o0_193.length:Int) - 1)).toNat) (api_Piece.mk 0 0 [])).At)+((o0_193.getD ((IntKind.i64.wrap ((o0_193.length:Int) - 1)).toNat) (api_Piece.mk 0 0 [])).Long)))=p_243.At)))))] [.buf 42 3 (List.map enc_api_Piece o0_193),.cells 42 [.p (.i .i64 p_243.At),.p (.i .i64 p_243.Long),.p (.s p_243.Data)]] by
   rcases Bool.eq_false_or_eq_true (decide (0≤(IntKind.i64.wrap ((o0_193.length:Int) - 1)))) with hg_263 | hg_263
   ·
    rcases Bool.eq_false_or_eq_true (decide (p_243.Data=[])) with hg_264 | hg_264
    ·
     rcases Bool.eq_false_or_eq_true (decide (((o0_193.getD ((IntKind.i64.wrap ((o0_193.length:Int) - 1)).toNat) (api_Piece.mk 0 0 [])).Data)=[])) with hg_265 | hg_265
     ·
      have hg_266:((decide (0≤(IntKind.i64.wrap ((o0_193.length:Int) - 1)))) && (decide (p_243.Data=[])))=true:=by revert hg_263 hg_264 hg_265; generalize decide (((o0_193.getD ((IntKind.i64.wrap ((o0_193.length:Int) - 1)).toNat) (api_Piece.mk 0 0 [])).Data)=[])=x0; generalize decide (0≤(IntKind.i64.wrap ((o0_193.length:Int) - 1)))=x1; generalize decide (p_243.Data=[])=x2; revert x0 x1 x2; decide
      have hg_267:(((decide (0≤(IntKind.i64.wrap ((o0_193.length:Int) - 1)))) && (decide (p_243.Data=[]))) && (decide (((o0_193.getD ((IntKind.i64.wrap ((o0_193.length:Int) - 1)).toNat) (api_Piece.mk 0 0 [])).Data)=[])))=true:=by revert hg_263 hg_264 hg_265; generalize decide (((o0_193.getD ((IntKind.i64.wrap ((o0_193.length:Int) - 1)).toNat) (api_Piece.mk 0 0 [])).Data)=[])=x0; generalize decide (0≤(IntKind.i64.wrap ((o0_193.length:Int) - 1)))=x1; generalize decide (p_243.Data=[])=x2; revert x0 x1 x2; decide
      have c_268:=c_260 hg_266
      try dsimp only at c_268
      have c_269:=c_261 hg_267
      try dsimp only at c_269
      have c_270:=c_262 hg_267
      try dsimp only at c_270
      have hr_271:=getD_encB (l:=o0_193) (e:=enc_api_Piece) (d:=(api_Piece.mk 0 0 [])) (i:=(IntKind.i64.wrap ((o0_193.length:Int) - 1)).toNat) (by omega) []
      try simp only [hw7,Int.toNat_natCast] at hr_271
      simp only [go_sem,simprocAttr,false_implies,and_true,true_and,bad,hw7,hxp_243,hg_263,hg_264,hg_265,hg_266,hg_267,hr_271]
      first | refine hW15 _ _ _ _ ?_ hcont15 | refine ⟨by first | exact sd | ((repeat' apply And.intro) <;> first | assumption | omega | (simp only [List.length_append,List.length_map,List.length_cons,List.length_nil,List.length_set,List.length_replicate] at c_260 c_261 c_262 c_268 c_269 c_270 ⊢; omega)),hW15 _ _ _ _ ?_ hcont15⟩
      simp only [go_sem,simprocAttr,false_implies,and_true,true_and,bad,hw7,hxp_243,hg_263,hg_264,hg_265,hg_266,hg_267,hr_271]
      try exact se3
     ·
      have hg_272:((decide (0≤(IntKind.i64.wrap ((o0_193.length:Int) - 1)))) && (decide (p_243.Data=[])))=true:=by revert hg_263 hg_264 hg_265; generalize decide (((o0_193.getD ((IntKind.i64.wrap ((o0_193.length:Int) - 1)).toNat) (api_Piece.mk 0 0 [])).Data)=[])=x0; generalize decide (0≤(IntKind.i64.wrap ((o0_193.length:Int) - 1)))=x1; generalize decide (p_243.Data=[])=x2; revert x0 x1 x2; decide
      have hg_273:(((decide (0≤(IntKind.i64.wrap ((o0_193.length:Int) - 1)))) && (decide (p_243.Data=[]))) && (decide (((o0_193.getD ((IntKind.i64.wrap ((o0_193.length:Int) - 1)).toNat) (api_Piece.mk 0 0 [])).Data)=[])))=false:=by revert hg_263 hg_264 hg_265; generalize decide (((o0_193.getD ((IntKind.i64.wrap ((o0_193.length:Int) - 1)).toNat) (api_Piece.mk 0 0 [])).Data)=[])=x0; generalize decide (0≤(IntKind.i64.wrap ((o0_193.length:Int) - 1)))=x1; generalize decide (p_243.Data=[])=x2; revert x0 x1 x2; decide
      have c_274:=c_260 hg_272
      try dsimp only at c_274
      have hr_275:=getD_encB (l:=o0_193) (e:=enc_api_Piece) (d:=(api_Piece.mk 0 0 [])) (i:=(IntKind.i64.wrap ((o0_193.length:Int) - 1)).toNat) (by omega) []
      try simp only [hw7,Int.toNat_natCast] at hr_275
      simp only [go_sem,simprocAttr,false_implies,and_true,true_and,bad,hw7,hxp_243,hg_263,hg_264,hg_265,hg_272,hg_273,hr_275]
      first | refine hW15 _ _ _ _ ?_ hcont15 | refine ⟨by first | exact sd | ((repeat' apply And.intro) <;> first | assumption | omega | (simp only [List.length_append,List.length_map,List.length_cons,List.length_nil,List.length_set,List.length_replicate] at c_260 c_261 c_262 c_274 ⊢; omega)),hW15 _ _ _ _ ?_ hcont15⟩
      simp only [go_sem,simprocAttr,false_implies,and_true,true_and,bad,hw7,hxp_243,hg_263,hg_264,hg_265,hg_272,hg_273,hr_275]
      try exact se3
    ·
     have hg_276:((decide (0≤(IntKind.i64.wrap ((o0_193.length:Int) - 1)))) && (decide (p_243.Data=[])))=false:=by revert hg_263 hg_264; generalize decide (((o0_193.getD ((IntKind.i64.wrap ((o0_193.length:Int) - 1)).toNat) (api_Piece.mk 0 0 [])).Data)=[])=x0; generalize decide (0≤(IntKind.i64.wrap ((o0_193.length:Int) - 1)))=x1; generalize decide (p_243.Data=[])=x2; revert x0 x1 x2; decide
     have hg_277:(((decide (0≤(IntKind.i64.wrap ((o0_193.length:Int) - 1)))) && (decide (p_243.Data=[]))) && (decide (((o0_193.getD ((IntKind.i64.wrap ((o0_193.length:Int) - 1)).toNat) (api_Piece.mk 0 0 [])).Data)=[])))=false:=by revert hg_263 hg_264; generalize decide (((o0_193.getD ((IntKind.i64.wrap ((o0_193.length:Int) - 1)).toNat) (api_Piece.mk 0 0 [])).Data)=[])=x0; generalize decide (0≤(IntKind.i64.wrap ((o0_193.length:Int) - 1)))=x1; generalize decide (p_243.Data=[])=x2; revert x0 x1 x2; decide
     rcases Nat.lt_or_ge ((IntKind.i64.wrap ((o0_193.length:Int) - 1)).toNat) o0_193.length with hi_278 | hi_278
     ·
      have hr_279:=getD_encB (l:=o0_193) (e:=enc_api_Piece) (d:=(api_Piece.mk 0 0 [])) (i:=(IntKind.i64.wrap ((o0_193.length:Int) - 1)).toNat) hi_278 []
      simp only [go_sem,simprocAttr,false_implies,and_true,true_and,bad,hw7,hxp_243,hg_263,hg_264,hg_276,hg_277,hr_279]
      first | refine hW15 _ _ _ _ ?_ hcont15 | refine ⟨by first | exact sd | ((repeat' apply And.intro) <;> first | assumption | omega | (simp only [List.length_append,List.length_map,List.length_cons,List.length_nil,List.length_set,List.length_replicate] at c_260 c_261 c_262 ⊢; omega)),hW15 _ _ _ _ ?_ hcont15⟩
      simp only [go_sem,simprocAttr,false_implies,and_true,true_and,bad,hw7,hxp_243,hg_263,hg_264,hg_276,hg_277,hr_279]
      try exact se3
     ·
      have hr_279:(List.map enc_api_Piece o0_193).getD ((IntKind.i64.wrap ((o0_193.length:Int) - 1)).toNat) []=[]:=by rw [List.getD_eq_getElem?_getD,List.getElem?_eq_none (by simpa using hi_278)]; rfl
      simp only [go_sem,simprocAttr,false_implies,and_true,true_and,bad,hw7,hxp_243,hg_263,hg_264,hg_276,hg_277,hr_279]
      first | refine hW15 _ _ _ _ ?_ hcont15 | refine ⟨by first | exact sd | ((repeat' apply And.intro) <;> first | assumption | omega | (simp only [List.length_append,List.length_map,List.length_cons,List.length_nil,List.length_set,List.length_replicate] at c_260 c_261 c_262 ⊢; omega)),hW15 _ _ _ _ ?_ hcont15⟩
      simp only [go_sem,simprocAttr,false_implies,and_true,true_and,bad,hw7,hxp_243,hg_263,hg_264,hg_276,hg_277,hr_279]
      try exact se3
   ·
    have hg_280:((decide (0≤(IntKind.i64.wrap ((o0_193.length:Int) - 1)))) && (decide (p_243.Data=[])))=false:=by revert hg_263; generalize decide (((o0_193.getD ((IntKind.i64.wrap ((o0_193.length:Int) - 1)).toNat) (api_Piece.mk 0 0 [])).Data)=[])=x0; generalize decide (0≤(IntKind.i64.wrap ((o0_193.length:Int) - 1)))=x1; generalize decide (p_243.Data=[])=x2; revert x0 x1 x2; decide
    have hg_281:(((decide (0≤(IntKind.i64.wrap ((o0_193.length:Int) - 1)))) && (decide (p_243.Data=[]))) && (decide (((o0_193.getD ((IntKind.i64.wrap ((o0_193.length:Int) - 1)).toNat) (api_Piece.mk 0 0 [])).Data)=[])))=false:=by revert hg_263; generalize decide (((o0_193.getD ((IntKind.i64.wrap ((o0_193.length:Int) - 1)).toNat) (api_Piece.mk 0 0 [])).Data)=[])=x0; generalize decide (0≤(IntKind.i64.wrap ((o0_193.length:Int) - 1)))=x1; generalize decide (p_243.Data=[])=x2; revert x0 x1 x2; decide
    rcases Nat.lt_or_ge ((IntKind.i64.wrap ((o0_193.length:Int) - 1)).toNat) o0_193.length with hi_282 | hi_282
    ·
     have hr_283:=getD_encB (l:=o0_193) (e:=enc_api_Piece) (d:=(api_Piece.mk 0 0 [])) (i:=(IntKind.i64.wrap ((o0_193.length:Int) - 1)).toNat) hi_282 []
     simp only [go_sem,simprocAttr,false_implies,and_true,true_and,bad,hw7,hxp_243,hg_263,hg_280,hg_281,hr_283]
     first | refine hW15 _ _ _ _ ?_ hcont15 | refine ⟨by first | exact sd | ((repeat' apply And.intro) <;> first | assumption | omega | (simp only [List.length_append,List.length_map,List.length_cons,List.length_nil,List.length_set,List.length_replicate] at c_260 c_261 c_262 ⊢; omega)),hW15 _ _ _ _ ?_ hcont15⟩
     simp only [go_sem,simprocAttr,false_implies,and_true,true_and,bad,hw7,hxp_243,hg_263,hg_280,hg_281,hr_283]
     try exact se3
    ·
     have hr_283:(List.map enc_api_Piece o0_193).getD ((IntKind.i64.wrap ((o0_193.length:Int) - 1)).toNat) []=[]:=by rw [List.getD_eq_getElem?_getD,List.getElem?_eq_none (by simpa using hi_282)]; rfl
     simp only [go_sem,simprocAttr,false_implies,and_true,true_and,bad,hw7,hxp_243,hg_263,hg_280,hg_281,hr_283]
     first | refine hW15 _ _ _ _ ?_ hcont15 | refine ⟨by first | exact sd | ((repeat' apply And.intro) <;> first | assumption | omega | (simp only [List.length_append,List.length_map,List.length_cons,List.length_nil,List.length_set,List.length_replicate] at c_260 c_261 c_262 ⊢; omega)),hW15 _ _ _ _ ?_ hcont15⟩
     simp only [go_sem,simprocAttr,false_implies,and_true,true_and,bad,hw7,hxp_243,hg_263,hg_280,hg_281,hr_283]
     try exact se3
  refine hK15 _ _ ?_
  refine cM hm (fun hc16 hm=>?_) (fun hc16 hm=>?_)
  ·obtain ⟨c_284,hm⟩:=chk_elim hm
   obtain ⟨c_285,hm⟩:=chk_elim hm
   have hr_286:=getD_encB (l:=o0_193) (e:=enc_api_Piece) (d:=(api_Piece.mk 0 0 [])) (i:=(IntKind.i64.wrap ((o0_193.length:Int) - 1)).toNat) (by omega) []
   try simp only [hw7,Int.toNat_natCast] at hr_286
   refine Wp.regD (plan:=pl [(0,none),(1,none),(2,none),(3,none),(4,none),(5,none),(6,none),(7,none),(8,none),(9,none),(10,some [])]) (by kernel_rfl) rfl (by kernel_rfl) fun K17 hK17=>?_
   simp only [go_sem,simprocAttr,hw7,hxp_243,hr_286]
   first | apply hK17 | refine ⟨by first | exact sd | ((repeat' apply And.intro) <;> first | assumption | omega | (simp only [List.length_append,List.length_map,List.length_cons,List.length_nil,List.length_set,List.length_replicate] at c_284 c_285 ⊢; omega)),hK17 _ _ ?_⟩
   refine hK8 _ _ ?_
   refine Wp.region fun K18 hK18=>?_
   simp only [go_sem,simprocAttr,hw7,hxp_243]
   first | apply hK18 | refine ⟨sd,hK18 _ _ ?_⟩
   simp only [thenQ,blockQ,↓reduceIte]
   refine ⟨List.set o0_193 ((IntKind.i64.wrap ((o0_193.length:Int) - 1)).toNat) (api_Piece.mk ((o0_193.getD ((IntKind.i64.wrap ((o0_193.length:Int) - 1)).toNat) (api_Piece.mk 0 0 [])).At) (IntKind.i64.wrap (((o0_193.getD ((IntKind.i64.wrap ((o0_193.length:Int) - 1)).toNat) (api_Piece.mk 0 0 [])).Long)+p_243.Long)) ((o0_193.getD ((IntKind.i64.wrap ((o0_193.length:Int) - 1)).toNat) (api_Piece.mk 0 0 [])).Data)),hlt7,hnx_240 _ hm,?_⟩
   simp only [go_sem,simprocAttr,hw7,hxp_243]
   try exact se3
  ·obtain ⟨c_287,hm⟩:=chk_elim hm
   refine Wp.region fun K19 hK19=>?_
   simp only [go_sem,simprocAttr,hw7,hxp_243]
   first | apply hK19 | refine ⟨by first | exact sd | ((repeat' apply And.intro) <;> first | assumption | omega | (simp only [List.length_append,List.length_map,List.length_cons,List.length_nil,List.length_set,List.length_replicate] at c_287 ⊢; omega)),hK19 _ _ ?_⟩
   refine hK8 _ _ ?_
   refine Wp.region fun K20 hK20=>?_
   simp only [go_sem,simprocAttr,hw7,hxp_243]
   first | apply hK20 | refine ⟨sd,hK20 _ _ ?_⟩
   simp only [thenQ,blockQ,↓reduceIte]
   refine ⟨o0_193++[p_243],hlt7,hnx_240 _ hm,?_⟩
   simp only [go_sem,simprocAttr,hw7,hxp_243]
   try exact se3
theorem ok_R_Composed (d_1:api_Delta) (e_2:api_Delta) (z:api_Delta × Int) (hm:R_Composed d_1 e_2=some z):Does Try.prog 10 [.agg [.p (.i .i64 d_1.Old),.p (.i .i64 d_1.New),.p (.s d_1.OldSum),.p (.s d_1.NewSum),.p (.l (List.map enc_api_Piece d_1.Pieces))],.agg [.p (.i .i64 e_2.Old),.p (.i .i64 e_2.New),.p (.s e_2.OldSum),.p (.s e_2.NewSum),.p (.l (List.map enc_api_Piece e_2.Pieces))]] [] (fun r X=>r=.tup [.agg [.p (.i .i64 z.1.Old),.p (.i .i64 z.1.New),.p (.s z.1.OldSum),.p (.s z.1.NewSum),.p (.l (List.map enc_api_Piece z.1.Pieces))],.p (.i .i64 z.2)]∧X=[]):=by
 unfold R_Composed at hm
 refine Does.of_wp 0 129 [.cell 4 24,.tmp 5] Try.func10 rfl (by decide) rfl rfl (Nat.le_of_ble_eq_true rfl) fun B=>?_
 refine qS ?_
 refine Wp.seqW fun K2 hK2 hW2=>?_
 refine qS ?_
 refine cM hm (fun hc4 hm=>?_) (fun hc4 hm=>?_)
 ·refine qS ?_
  refine Wp.ret ?_
  simp only [thenQ,blockQ]
  refine retQ_retE ?_
  cases hm
  exact fse2
 ·refine Wp.skip ?_
  refine hK2 _ _ ?_
  refine qS ?_
  refine Wp.seqW fun K7 hK7 hW7=>?_
  obtain ⟨k_214,hk_214,hm⟩:=jp_elim hm
  have hcut7:∀ s,k_214 s=some z→K7 [(2,.ptr 0 0),(3,.ptr 1 0),(4,.ptr 2 0),(6,.buf 3)] [.cells 24 [.p (.i .i64 d_1.Old),.p (.i .i64 d_1.New),.p (.s d_1.OldSum),.p (.s d_1.NewSum),.p (.l (List.map enc_api_Piece d_1.Pieces))],.cells 24 [.p (.i .i64 e_2.Old),.p (.i .i64 e_2.New),.p (.s e_2.OldSum),.p (.s e_2.NewSum),.p (.l (List.map enc_api_Piece e_2.Pieces))],.cells 24 [.p (.i .i64 0),.p (.i .i64 0),.p (.s []),.p (.s []),.nils],.buf 54 2 (List.map enc_outref1_origin s)]:=by
   intro o3_213 hs
   have hm:=hk_214 _ hs
   clear hs
   try dsimp only at hm
   try dsimp only
   refine hK7 _ _ ?_
   refine qS ?_
   refine Wp.seqW fun K9 hK9 hW9=>?_
   obtain ⟨k_402,hk_402,hm⟩:=jp_elim hm
   have hcut9:∀ s,k_402 s=some z→K9 [(2,.ptr 0 0),(3,.ptr 1 0),(4,.ptr 2 0),(11,.buf 4)] [.cells 24 [.p (.i .i64 d_1.Old),.p (.i .i64 d_1.New),.p (.s d_1.OldSum),.p (.s d_1.NewSum),.p (.l (List.map enc_api_Piece d_1.Pieces))],.cells 24 [.p (.i .i64 e_2.Old),.p (.i .i64 e_2.New),.p (.s e_2.OldSum),.p (.s e_2.NewSum),.p (.l (List.map enc_api_Piece e_2.Pieces))],.cells 24 [.p (.i .i64 0),.p (.i .i64 0),.p (.s []),.p (.s []),.nils],.gone,.buf 42 3 (List.map enc_api_Piece s)]:=by
    intro o4_401 hs
    have hm:=hk_402 _ hs
    clear hs
    try dsimp only at hm
    try dsimp only
    refine hK9 _ _ ?_
    refine Wp.freeze 4 (by simp only [go_sem,simprocAttr]; exact Is.mk) (by first | (simp only [go_sem,simprocAttr]; done) | (simp only [go_sem,simprocAttr]; omega)) ?_
    simp only [go_sem,simprocAttr]
    obtain ⟨r_403,hr_403,hm⟩:=call_elim hm
    refine Wp.seqR fun K10 hK10=>?_
    simp only [go_sem,simprocAttr]
    try refine ⟨sd,?_⟩
    refine Rg.callF (av:=?av11) (ok_R_Joined o4_401 _ hr_403) si si sg ?cont11
    intro hv11
    simp only [go_sem,simprocAttr]
    first | apply hK10 | refine ⟨sd,hK10 _ _ ?_⟩
    refine Wp.seqW fun K12 hK12 hW12=>?_
    refine qS ?_
    refine cM hm (fun hc14 hm=>?_) (fun hc14 hm=>?_)
    ·refine qS ?_
     refine Wp.ret ?_
     simp only [thenQ,blockQ]
     refine retQ_retE ?_
     cases hm
     exact fse3
    ·refine Wp.skip ?_
     refine hK12 _ _ ?_
     refine qS ?_
     refine Wp.ret ?_
     refine retQ_ret ?_
     cases hm
     exact fse3
   clear hK9 hk_402
   refine qS ?_
   refine Wp.block ?_
   refine Wp.adopt 11 42 3 rfl ?_
   simp only [go_sem,simprocAttr]
   refine Wp.freeze 3 (by simp only [go_sem,simprocAttr]; exact Is.mk) (by first | (simp only [go_sem,simprocAttr]; done) | (simp only [go_sem,simprocAttr]; omega)) ?_
   simp only [go_sem,simprocAttr]
   obtain ⟨k_547,hk_547,hm⟩:=forL_cont hm
   refine Wp.fact 69 fun hl_550=>?_
   replace hl_550:e_2.Pieces.length≤274877906944:=by
    simp only [go_sem,simprocAttr,List.length_map] at hl_550
    omega
   refine Wp.forL (fun i_549 s=>[(2,.ptr 0 0),(3,.ptr 1 0),(4,.ptr 2 0),(6,.p (.l (List.map enc_outref1_origin o3_213))),(11,.buf 4),(69,.p (.l (List.map enc_api_Piece e_2.Pieces))),(70,.p (.i .i64 (e_2.Pieces.length:Int))),(71,.p (.i .i64 (i_549:Int)))]) (fun i_549 s=>[.cells 24 [.p (.i .i64 d_1.Old),.p (.i .i64 d_1.New),.p (.s d_1.OldSum),.p (.s d_1.NewSum),.p (.l (List.map enc_api_Piece d_1.Pieces))],.cells 24 [.p (.i .i64 e_2.Old),.p (.i .i64 e_2.New),.p (.s e_2.OldSum),.p (.s e_2.NewSum),.p (.l (List.map enc_api_Piece e_2.Pieces))],.cells 24 [.p (.i .i64 0),.p (.i .i64 0),.p (.s []),.p (.s []),.nils],.gone,.buf 42 3 (List.map enc_api_Piece s)]) ?_ hm ?_
   ·
    exact fse3
   clear hm
   intro i_549 o4_506 hii_549 hm
   try dsimp only at hm
   try dsimp only
   refine qS ?_
   refine Wp.seqW fun K19 hK19 hW19=>?_
   refine Wp.cond rfl ⟨⟩ (fun hc19=>?_) (fun hc19=>?_)
   rotate_left
   ·refine Wp.exit ?_
    have hm:=hk_547 _ (forL_end hm (ge_nat (by first | exact hc19 | simpa using hc19)))
    try dsimp only at hm
    refine hW9 _ _ _ _ ?_ (hcut9 o4_506 hm)
    exact fse3
   have hlt19:=lt_nat (by first | exact hc19 | simpa using hc19)
   have hw19:=wrap_succ hlt19 hl_550
   obtain ⟨p_551,nx_548,hxp_551,hyp_551,hnx_548,hm⟩:=forL_step hm hlt19
   replace hxp_551:=hxp_551 enc_api_Piece
   refine Wp.skip ?_
   simp only [thenQ]
   refine hK19 _ _ ?_
   refine Wp.seqW fun K20 hK20 hW20=>?_
   obtain ⟨k_571,hk_571,hm⟩:=jp_elim hm
   have hcut20:∀ s,k_571 s=some z→K20 [(2,.ptr 0 0),(3,.ptr 1 0),(4,.ptr 2 0),(6,.p (.l (List.map enc_outref1_origin o3_213))),(11,.buf 4),(69,.p (.l (List.map enc_api_Piece e_2.Pieces))),(70,.p (.i .i64 (e_2.Pieces.length:Int))),(71,.p (.i .i64 (i_549:Int)))] [.cells 24 [.p (.i .i64 d_1.Old),.p (.i .i64 d_1.New),.p (.s d_1.OldSum),.p (.s d_1.NewSum),.p (.l (List.map enc_api_Piece d_1.Pieces))],.cells 24 [.p (.i .i64 e_2.Old),.p (.i .i64 e_2.New),.p (.s e_2.OldSum),.p (.s e_2.NewSum),.p (.l (List.map enc_api_Piece e_2.Pieces))],.cells 24 [.p (.i .i64 0),.p (.i .i64 0),.p (.s []),.p (.s []),.nils],.gone,.buf 42 3 (List.map enc_api_Piece s)]:=by
    intro o4_570 hs
    have hm:=hk_571 _ hs
    clear hs
    try dsimp only at hm
    try dsimp only
    refine hK20 _ _ ?_
    refine Wp.region fun K21 hK21=>?_
    simp only [go_sem,simprocAttr,hw19,hxp_551]
    first | apply hK21 | refine ⟨sd,hK21 _ _ ?_⟩
    simp only [thenQ,blockQ,↓reduceIte]
    refine ⟨o4_570,hlt19,hnx_548 _ hm,?_⟩
    simp only [go_sem,simprocAttr,hw19,hxp_551]
    try exact se3
   clear hK20 hk_571
   refine Wp.block ?_
   refine Wp.seqR fun K22 hK22=>?_
   simp only [go_sem,simprocAttr,hw19,hxp_551]
   first | apply hK22 | refine ⟨sd,hK22 _ _ ?_⟩
   refine Wp.seqW fun K23 hK23 hW23=>?_
   refine Wp.seqR fun K24 hK24=>?_
   simp only [go_sem,simprocAttr,hw19,hxp_551]
   first | apply hK24 | refine ⟨sd,hK24 _ _ ?_⟩
   refine cM hm (fun hc25 hm=>?_) (fun hc25 hm=>?_)
   ·obtain ⟨c_572,hm⟩:=chk_elim hm
    refine Wp.seqR fun K26 hK26=>?_
    simp only [go_sem,simprocAttr,hw19,hxp_551]
    first | apply hK26 | refine ⟨by first | exact sd | ((repeat' apply And.intro) <;> first | assumption | omega | (simp only [List.length_append,List.length_map,List.length_cons,List.length_nil,List.length_set,List.length_replicate] at c_572 ⊢; omega)),hK26 _ _ ?_⟩
    refine Wp.exit ?_
    refine hW20 _ _ _ _ ?_ (hcut20 (o4_506++[p_551]) hm)
    simp only [go_sem,simprocAttr,hw19,hxp_551]
    try exact se3
   ·refine Wp.skip ?_
    refine hK23 _ _ ?_
    obtain ⟨c_573,hm⟩:=chk_elim hm
    refine Wp.seqR fun K27 hK27=>?_
    simp only [go_sem,simprocAttr,hw19,hxp_551]
    first | apply hK27 | refine ⟨by first | exact sd | ((repeat' apply And.intro) <;> first | assumption | omega | (simp only [List.length_append,List.length_map,List.length_cons,List.length_nil,List.length_set,List.length_replicate] at c_573 ⊢; omega)),hK27 _ _ ?_⟩
    refine Wp.block ?_
    obtain ⟨k_583,hk_583,hm⟩:=forL_cont hm
    refine Wp.fact 90 fun hl_586=>?_
    replace hl_586:(List.take ((IntKind.i64.wrap (p_551.At+p_551.Long)).toNat - p_551.At.toNat) (List.drop p_551.At.toNat o3_213)).length≤274877906944:=by
     simp only [go_sem,simprocAttr,List.length_map] at hl_586
     omega
    refine Wp.forL (fun i_585 s=>[(2,.ptr 0 0),(3,.ptr 1 0),(4,.ptr 2 0),(6,.p (.l (List.map enc_outref1_origin o3_213))),(11,.buf 4),(69,.p (.l (List.map enc_api_Piece e_2.Pieces))),(70,.p (.i .i64 (e_2.Pieces.length:Int))),(71,.p (.i .i64 (i_549:Int))),(90,.p (.l (List.map enc_outref1_origin (List.take ((IntKind.i64.wrap (p_551.At+p_551.Long)).toNat - p_551.At.toNat) (List.drop p_551.At.toNat o3_213))))),(91,.p (.i .i64 ((List.take ((IntKind.i64.wrap (p_551.At+p_551.Long)).toNat - p_551.At.toNat) (List.drop p_551.At.toNat o3_213)).length:Int))),(92,.p (.i .i64 (i_585:Int)))]) (fun i_585 s=>[.cells 24 [.p (.i .i64 d_1.Old),.p (.i .i64 d_1.New),.p (.s d_1.OldSum),.p (.s d_1.NewSum),.p (.l (List.map enc_api_Piece d_1.Pieces))],.cells 24 [.p (.i .i64 e_2.Old),.p (.i .i64 e_2.New),.p (.s e_2.OldSum),.p (.s e_2.NewSum),.p (.l (List.map enc_api_Piece e_2.Pieces))],.cells 24 [.p (.i .i64 0),.p (.i .i64 0),.p (.s []),.p (.s []),.nils],.gone,.buf 42 3 (List.map enc_api_Piece s),.cells 42 [.p (.i .i64 p_551.At),.p (.i .i64 p_551.Long),.p (.s p_551.Data)]]) ?_ hm ?_
    ·
     simp only [go_sem,simprocAttr,hw19,hxp_551]
     try exact se3
    clear hm
    intro i_585 o4_579 hii_585 hm
    try dsimp only at hm
    try dsimp only
    refine Wp.seqR fun K28 hK28=>?_
    simp only [go_sem,simprocAttr,hw19,hxp_551]
    first | apply hK28 | refine ⟨sd,hK28 _ _ ?_⟩
    refine Wp.seqW fun K29 hK29 hW29=>?_
    refine Wp.cond rfl ⟨⟩ (fun hc29=>?_) (fun hc29=>?_)
    rotate_left
    ·refine Wp.exit ?_
     have hm:=hk_583 _ (forL_end hm (ge_nat (by first | exact hc29 | simpa using hc29)))
     try dsimp only at hm
     refine hW20 _ _ _ _ ?_ (hcut20 o4_579 hm)
     simp only [go_sem,simprocAttr,hw19,hxp_551]
     try exact se3
    have hlt29:=lt_nat (by first | exact hc29 | simpa using hc29)
    have hw29:=wrap_succ hlt29 hl_586
    obtain ⟨o_587,nx_584,hxo_587,hyo_587,hnx_584,hm⟩:=forL_step hm hlt29
    replace hxo_587:=hxo_587 enc_outref1_origin
    refine Wp.skip ?_
    simp only [thenQ]
    refine hK29 _ _ ?_
    refine Wp.seqW fun K30 hK30 hW30=>?_
    refine Wp.block ?_
    refine Wp.seqR fun K31 hK31=>?_
    simp only [go_sem,simprocAttr,hw19,hxp_551,hw29,hxo_587]
    first | apply hK31 | refine ⟨sd,hK31 _ _ ?_⟩
    refine Wp.seqR fun K32 hK32=>?_
    simp only [go_sem,simprocAttr,hw19,hxp_551,hw29,hxo_587]
    first | apply hK32 | refine ⟨sd,hK32 _ _ ?_⟩
    refine cM hm (fun hc33 hm=>?_) (fun hc33 hm=>?_)
    ·obtain ⟨c_588,hm⟩:=chk_elim hm
     refine Wp.region fun K34 hK34=>?_
     simp only [go_sem,simprocAttr,hw19,hxp_551,hw29,hxo_587]
     first | apply hK34 | refine ⟨by first | exact sd | ((repeat' apply And.intro) <;> first | assumption | omega | (simp only [List.length_append,List.length_map,List.length_cons,List.length_nil,List.length_set,List.length_replicate] at c_588 ⊢; omega)),hK34 _ _ ?_⟩
     refine hK30 _ _ ?_
     refine Wp.region fun K35 hK35=>?_
     simp only [go_sem,simprocAttr,hw19,hxp_551,hw29,hxo_587]
     first | apply hK35 | refine ⟨sd,hK35 _ _ ?_⟩
     simp only [thenQ,blockQ,↓reduceIte]
     refine ⟨o4_579++[(api_Piece.mk 0 0 o_587.data)],hlt29,hnx_584 _ hm,?_⟩
     simp only [go_sem,simprocAttr,hw19,hxp_551,hw29,hxo_587]
     try exact se3
    ·obtain ⟨c_589,hm⟩:=chk_elim hm
     refine Wp.region fun K36 hK36=>?_
     simp only [go_sem,simprocAttr,hw19,hxp_551,hw29,hxo_587]
     first | apply hK36 | refine ⟨by first | exact sd | ((repeat' apply And.intro) <;> first | assumption | omega | (simp only [List.length_append,List.length_map,List.length_cons,List.length_nil,List.length_set,List.length_replicate] at c_589 ⊢; omega)),hK36 _ _ ?_⟩
     refine hK30 _ _ ?_
     refine Wp.region fun K37 hK37=>?_
     simp only [go_sem,simprocAttr,hw19,hxp_551,hw29,hxo_587]
     first | apply hK37 | refine ⟨sd,hK37 _ _ ?_⟩
     simp only [thenQ,blockQ,↓reduceIte]
     refine ⟨o4_579++[(api_Piece.mk o_587.at_ 1 [])],hlt29,hnx_584 _ hm,?_⟩
     simp only [go_sem,simprocAttr,hw19,hxp_551,hw29,hxo_587]
     try exact se3
  clear hK7 hk_214
  refine qS ?_
  refine Wp.block ?_
  refine Wp.adopt 6 54 2 rfl ?_
  simp only [go_sem,simprocAttr]
  obtain ⟨k_729,hk_729,hm⟩:=forL_cont hm
  refine Wp.fact 30 fun hl_732=>?_
  replace hl_732:d_1.Pieces.length≤274877906944:=by
   simp only [go_sem,simprocAttr,List.length_map] at hl_732
   omega
  refine Wp.forL (fun i_731 s=>[(2,.ptr 0 0),(3,.ptr 1 0),(4,.ptr 2 0),(6,.buf 3),(30,.p (.l (List.map enc_api_Piece d_1.Pieces))),(31,.p (.i .i64 (d_1.Pieces.length:Int))),(32,.p (.i .i64 (i_731:Int)))]) (fun i_731 s=>[.cells 24 [.p (.i .i64 d_1.Old),.p (.i .i64 d_1.New),.p (.s d_1.OldSum),.p (.s d_1.NewSum),.p (.l (List.map enc_api_Piece d_1.Pieces))],.cells 24 [.p (.i .i64 e_2.Old),.p (.i .i64 e_2.New),.p (.s e_2.OldSum),.p (.s e_2.NewSum),.p (.l (List.map enc_api_Piece e_2.Pieces))],.cells 24 [.p (.i .i64 0),.p (.i .i64 0),.p (.s []),.p (.s []),.nils],.buf 54 2 (List.map enc_outref1_origin s)]) ?_ hm ?_
  ·
   exact fse3
  clear hm
  intro i_731 o3_660 hii_731 hm
  try dsimp only at hm
  try dsimp only
  refine qS ?_
  refine Wp.seqW fun K40 hK40 hW40=>?_
  refine Wp.cond rfl ⟨⟩ (fun hc40=>?_) (fun hc40=>?_)
  rotate_left
  ·refine Wp.exit ?_
   have hm:=hk_729 _ (forL_end hm (ge_nat (by first | exact hc40 | simpa using hc40)))
   try dsimp only at hm
   refine hW7 _ _ _ _ ?_ (hcut7 o3_660 hm)
   exact fse3
  have hlt40:=lt_nat (by first | exact hc40 | simpa using hc40)
  have hw40:=wrap_succ hlt40 hl_732
  obtain ⟨p_733,nx_730,hxp_733,hyp_733,hnx_730,hm⟩:=forL_step hm hlt40
  replace hxp_733:=hxp_733 enc_api_Piece
  refine Wp.skip ?_
  simp only [thenQ]
  refine hK40 _ _ ?_
  refine Wp.seqW fun K41 hK41 hW41=>?_
  obtain ⟨k_767,hk_767,hm⟩:=jp_elim hm
  have hcut41:∀ s,k_767 s=some z→K41 [(2,.ptr 0 0),(3,.ptr 1 0),(4,.ptr 2 0),(6,.buf 3),(30,.p (.l (List.map enc_api_Piece d_1.Pieces))),(31,.p (.i .i64 (d_1.Pieces.length:Int))),(32,.p (.i .i64 (i_731:Int)))] [.cells 24 [.p (.i .i64 d_1.Old),.p (.i .i64 d_1.New),.p (.s d_1.OldSum),.p (.s d_1.NewSum),.p (.l (List.map enc_api_Piece d_1.Pieces))],.cells 24 [.p (.i .i64 e_2.Old),.p (.i .i64 e_2.New),.p (.s e_2.OldSum),.p (.s e_2.NewSum),.p (.l (List.map enc_api_Piece e_2.Pieces))],.cells 24 [.p (.i .i64 0),.p (.i .i64 0),.p (.s []),.p (.s []),.nils],.buf 54 2 (List.map enc_outref1_origin s)]:=by
   intro o3_766 hs
   have hm:=hk_767 _ hs
   clear hs
   try dsimp only at hm
   try dsimp only
   refine hK41 _ _ ?_
   refine Wp.region fun K42 hK42=>?_
   simp only [go_sem,simprocAttr,hw40,hxp_733]
   first | apply hK42 | refine ⟨sd,hK42 _ _ ?_⟩
   simp only [thenQ,blockQ,↓reduceIte]
   refine ⟨o3_766,hlt40,hnx_730 _ hm,?_⟩
   simp only [go_sem,simprocAttr,hw40,hxp_733]
   try exact se3
  clear hK41 hk_767
  refine Wp.block ?_
  refine Wp.seqR fun K43 hK43=>?_
  simp only [go_sem,simprocAttr,hw40,hxp_733]
  first | apply hK43 | refine ⟨sd,hK43 _ _ ?_⟩
  refine Wp.seqW fun K44 hK44 hW44=>?_
  obtain ⟨k_780,hk_780,hm⟩:=jp_elim hm
  have hcut44:∀ s,k_780 s=some z→K44 [(2,.ptr 0 0),(3,.ptr 1 0),(4,.ptr 2 0),(6,.buf 3),(8,.ptr 4 0),(30,.p (.l (List.map enc_api_Piece d_1.Pieces))),(31,.p (.i .i64 (d_1.Pieces.length:Int))),(32,.p (.i .i64 (i_731:Int)))] [.cells 24 [.p (.i .i64 d_1.Old),.p (.i .i64 d_1.New),.p (.s d_1.OldSum),.p (.s d_1.NewSum),.p (.l (List.map enc_api_Piece d_1.Pieces))],.cells 24 [.p (.i .i64 e_2.Old),.p (.i .i64 e_2.New),.p (.s e_2.OldSum),.p (.s e_2.NewSum),.p (.l (List.map enc_api_Piece e_2.Pieces))],.cells 24 [.p (.i .i64 0),.p (.i .i64 0),.p (.s []),.p (.s []),.nils],.buf 54 2 (List.map enc_outref1_origin s),.cells 42 [.p (.i .i64 p_733.At),.p (.i .i64 p_733.Long),.p (.s p_733.Data)]]:=by
   intro o3_779 hs
   have hm:=hk_780 _ hs
   clear hs
   try dsimp only at hm
   try dsimp only
   refine hK44 _ _ ?_
   refine Wp.seqR fun K45 hK45=>?_
   simp only [go_sem,simprocAttr,hw40,hxp_733]
   first | apply hK45 | refine ⟨sd,hK45 _ _ ?_⟩
   refine Wp.block ?_
   obtain ⟨k_786,hk_786,hm⟩:=loopN_cont hm
   refine Wp.loopN (fun s=>[(2,.ptr 0 0),(3,.ptr 1 0),(4,.ptr 2 0),(6,.buf 3),(8,.ptr 4 0),(30,.p (.l (List.map enc_api_Piece d_1.Pieces))),(31,.p (.i .i64 (d_1.Pieces.length:Int))),(32,.p (.i .i64 (i_731:Int))),(54,.p (.i .i64 p_733.Long)),(55,.p (.i .i64 s.1))]) (fun s=>[.cells 24 [.p (.i .i64 d_1.Old),.p (.i .i64 d_1.New),.p (.s d_1.OldSum),.p (.s d_1.NewSum),.p (.l (List.map enc_api_Piece d_1.Pieces))],.cells 24 [.p (.i .i64 e_2.Old),.p (.i .i64 e_2.New),.p (.s e_2.OldSum),.p (.s e_2.NewSum),.p (.l (List.map enc_api_Piece e_2.Pieces))],.cells 24 [.p (.i .i64 0),.p (.i .i64 0),.p (.s []),.p (.s []),.nils],.buf 54 2 (List.map enc_outref1_origin s.2),.cells 42 [.p (.i .i64 p_733.At),.p (.i .i64 p_733.Long),.p (.s p_733.Data)]]) ?_ hm ?_
   ·
    simp only [go_sem,simprocAttr,hw40,hxp_733]
    try exact se3
   clear hm
   intro s nx_787 hm
   obtain ⟨t55_783,o3_784⟩:=s
   try dsimp only at hm
   try dsimp only
   refine Wp.seqR fun K46 hK46=>?_
   simp only [go_sem,simprocAttr,hw40,hxp_733]
   first | apply hK46 | refine ⟨sd,hK46 _ _ ?_⟩
   refine Wp.seqW fun K47 hK47 hW47=>?_
   refine cM hm (fun hc48 hm=>?_) (fun hc48 hm=>?_)
   ·refine Wp.skip ?_
    refine hK47 _ _ ?_
    refine Wp.seqW fun K49 hK49 hW49=>?_
    refine Wp.block ?_
    refine Wp.seqR fun K50 hK50=>?_
    simp only [go_sem,simprocAttr,hw40,hxp_733]
    first | apply hK50 | refine ⟨sd,hK50 _ _ ?_⟩
    obtain ⟨c_788,hm⟩:=chk_elim hm
    refine Wp.region fun K51 hK51=>?_
    simp only [go_sem,simprocAttr,hw40,hxp_733]
    first | apply hK51 | refine ⟨by first | exact sd | ((repeat' apply And.intro) <;> first | assumption | omega | (simp only [List.length_append,List.length_map,List.length_cons,List.length_nil,List.length_set,List.length_replicate] at c_788 ⊢; omega)),hK51 _ _ ?_⟩
    refine hK49 _ _ ?_
    refine Wp.region fun K52 hK52=>?_
    simp only [go_sem,simprocAttr,hw40,hxp_733]
    first | apply hK52 | refine ⟨sd,hK52 _ _ ?_⟩
    simp only [thenQ,blockQ,↓reduceIte]
    refine ⟨(IntKind.i64.wrap (t55_783+1),o3_784++[(outref1_origin.mk (IntKind.i64.wrap (p_733.At+t55_783)) [])]),hm,?_⟩
    simp only [go_sem,simprocAttr,hw40,hxp_733]
    try exact se3
   ·refine Wp.exit ?_
    simp only [thenQ,blockQ,↓reduceIte]
    have hm:=hk_786 _ hm
    try dsimp only at hm
    refine hW41 _ _ _ _ ?_ (hcut41 o3_784 hm)
    simp only [go_sem,simprocAttr,hw40,hxp_733]
    try exact se3
  clear hK44 hk_780
  refine Wp.seqR fun K53 hK53=>?_
  simp only [go_sem,simprocAttr,hw40,hxp_733]
  first | apply hK53 | refine ⟨sd,hK53 _ _ ?_⟩
  refine Wp.block ?_
  obtain ⟨k_796,hk_796,hm⟩:=loopN_cont hm
  refine Wp.loopN (fun s=>[(2,.ptr 0 0),(3,.ptr 1 0),(4,.ptr 2 0),(6,.buf 3),(8,.ptr 4 0),(30,.p (.l (List.map enc_api_Piece d_1.Pieces))),(31,.p (.i .i64 (d_1.Pieces.length:Int))),(32,.p (.i .i64 (i_731:Int))),(38,.p (.i .i64 (p_733.Data.length:Int))),(39,.p (.i .i64 s.1))]) (fun s=>[.cells 24 [.p (.i .i64 d_1.Old),.p (.i .i64 d_1.New),.p (.s d_1.OldSum),.p (.s d_1.NewSum),.p (.l (List.map enc_api_Piece d_1.Pieces))],.cells 24 [.p (.i .i64 e_2.Old),.p (.i .i64 e_2.New),.p (.s e_2.OldSum),.p (.s e_2.NewSum),.p (.l (List.map enc_api_Piece e_2.Pieces))],.cells 24 [.p (.i .i64 0),.p (.i .i64 0),.p (.s []),.p (.s []),.nils],.buf 54 2 (List.map enc_outref1_origin s.2),.cells 42 [.p (.i .i64 p_733.At),.p (.i .i64 p_733.Long),.p (.s p_733.Data)]]) ?_ hm ?_
  ·
   simp only [go_sem,simprocAttr,hw40,hxp_733]
   try exact se3
  clear hm
  intro s nx_797 hm
  obtain ⟨t39_792,o3_793⟩:=s
  try dsimp only at hm
  try dsimp only
  refine Wp.seqR fun K54 hK54=>?_
  simp only [go_sem,simprocAttr,hw40,hxp_733]
  first | apply hK54 | refine ⟨sd,hK54 _ _ ?_⟩
  refine Wp.seqW fun K55 hK55 hW55=>?_
  refine cM hm (fun hc56 hm=>?_) (fun hc56 hm=>?_)
  ·refine Wp.skip ?_
   refine hK55 _ _ ?_
   refine Wp.seqW fun K57 hK57 hW57=>?_
   refine Wp.block ?_
   refine Wp.seqR fun K58 hK58=>?_
   simp only [go_sem,simprocAttr,hw40,hxp_733]
   first | apply hK58 | refine ⟨sd,hK58 _ _ ?_⟩
   obtain ⟨c_798,hm⟩:=chk_elim hm
   obtain ⟨c_799,hm⟩:=chk_elim hm
   refine Wp.region fun K59 hK59=>?_
   simp only [go_sem,simprocAttr,hw40,hxp_733]
   first | apply hK59 | refine ⟨by first | exact sd | ((repeat' apply And.intro) <;> first | assumption | omega | (simp only [List.length_append,List.length_map,List.length_cons,List.length_nil,List.length_set,List.length_replicate] at c_798 c_799 ⊢; omega)),hK59 _ _ ?_⟩
   refine hK57 _ _ ?_
   refine Wp.region fun K60 hK60=>?_
   simp only [go_sem,simprocAttr,hw40,hxp_733]
   first | apply hK60 | refine ⟨sd,hK60 _ _ ?_⟩
   simp only [thenQ,blockQ,↓reduceIte]
   refine ⟨(IntKind.i64.wrap (t39_792+1),o3_793++[(outref1_origin.mk (-1) (List.take ((IntKind.i64.wrap (t39_792+1)).toNat - t39_792.toNat) (List.drop t39_792.toNat p_733.Data)))]),hm,?_⟩
   simp only [go_sem,simprocAttr,hw40,hxp_733]
   try exact se3
  ·refine Wp.exit ?_
   simp only [thenQ,blockQ,↓reduceIte]
   have hm:=hk_796 _ hm
   try dsimp only at hm
   refine hW44 _ _ _ _ ?_ (hcut44 o3_793 hm)
   simp only [go_sem,simprocAttr,hw40,hxp_733]
   try exact se3
end Go.Proofs.Ytkekfenkeeiigaa
