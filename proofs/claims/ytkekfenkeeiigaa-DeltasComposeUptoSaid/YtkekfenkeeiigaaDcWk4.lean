/- That the code does what the models say (part 4). -/
import Derived.Test.YtkekfenkeeiigaaDcWk0
import Derived.Test.YtkekfenkeeiigaaDcWk3
set_option linter.unusedSimpArgs false
set_option linter.unusedVariables false
open Go.Proofs Go.Shelf
namespace Go.Proofs.Ytkekfenkeeiigaa
open Go.Vc Go.Md
set_option maxRecDepth 100000
set_option maxHeartbeats 4000000
theorem ok_delta_Compose (d_1:api_Delta) (e_2:api_Delta) (z:api_Delta × Int) (hm:delta_Compose d_1 e_2=some z):Does Try.prog 7 [.agg [.p (.i .i64 d_1.Old),.p (.i .i64 d_1.New),.p (.s d_1.OldSum),.p (.s d_1.NewSum),.p (.l (List.map enc_api_Piece d_1.Pieces))],.agg [.p (.i .i64 e_2.Old),.p (.i .i64 e_2.New),.p (.s e_2.OldSum),.p (.s e_2.NewSum),.p (.l (List.map enc_api_Piece e_2.Pieces))]] [] (fun r X=>r=.tup [.agg [.p (.i .i64 z.1.Old),.p (.i .i64 z.1.New),.p (.s z.1.OldSum),.p (.s z.1.NewSum),.p (.l (List.map enc_api_Piece z.1.Pieces))],.p (.i .i64 z.2)]∧X=[]):=by
 unfold delta_Compose at hm
 refine Does.of_wp 0 114 [.cell 4 24,.tmp 5] Try.func7 rfl (by decide) rfl rfl (Nat.le_of_ble_eq_true rfl) fun B=>?_
 refine qS ?_
 refine Wp.seqW fun K2 hK2 hW2=>?_
 obtain ⟨k_65,hk_65,hm⟩:=jp_elim hm
 have hcut2:∀ s,k_65 s=some z→K2 [(2,.ptr 0 0),(3,.ptr 1 0),(4,.ptr 2 0)] [.cells 24 [.p (.i .i64 d_1.Old),.p (.i .i64 d_1.New),.p (.s d_1.OldSum),.p (.s d_1.NewSum),.p (.l (List.map enc_api_Piece d_1.Pieces))],.cells 24 [.p (.i .i64 e_2.Old),.p (.i .i64 e_2.New),.p (.s e_2.OldSum),.p (.s e_2.NewSum),.p (.l (List.map enc_api_Piece e_2.Pieces))],.cells 24 [.p (.i .i64 0),.p (.i .i64 0),.p (.s []),.p (.s []),.nils]]:=by
  intro s hs
  have hm:=hk_65 _ hs
  clear hs
  try dsimp only at hm
  try dsimp only
  refine hK2 _ _ ?_
  refine Wp.seqW fun K3 hK3 hW3=>?_
  refine qS ?_
  refine cM hm (fun hc5 hm=>?_) (fun hc5 hm=>?_)
  ·refine qS ?_
   refine Wp.ret ?_
   simp only [thenQ,blockQ]
   refine retQ_retE ?_
   cases hm
   exact fse2
  ·refine Wp.skip ?_
   refine hK3 _ _ ?_
   refine qS ?_
   refine Wp.seqW fun K8 hK8 hW8=>?_
   obtain ⟨k_217,hk_217,hm⟩:=jp_elim hm
   have hcut8:∀ s,k_217 s=some z→K8 [(2,.ptr 0 0),(3,.ptr 1 0),(4,.ptr 2 0),(9,.buf 3)] [.cells 24 [.p (.i .i64 d_1.Old),.p (.i .i64 d_1.New),.p (.s d_1.OldSum),.p (.s d_1.NewSum),.p (.l (List.map enc_api_Piece d_1.Pieces))],.cells 24 [.p (.i .i64 e_2.Old),.p (.i .i64 e_2.New),.p (.s e_2.OldSum),.p (.s e_2.NewSum),.p (.l (List.map enc_api_Piece e_2.Pieces))],.cells 24 [.p (.i .i64 0),.p (.i .i64 0),.p (.s []),.p (.s []),.nils],.buf 42 3 (List.map enc_api_Piece s)]:=by
    intro o3_216 hs
    have hm:=hk_217 _ hs
    clear hs
    try dsimp only at hm
    try dsimp only
    refine hK8 _ _ ?_
    refine Wp.freeze 3 (by simp only [go_sem,simprocAttr]; exact Is.mk) (by first | (simp only [go_sem,simprocAttr]; done) | (simp only [go_sem,simprocAttr]; omega)) ?_
    simp only [go_sem,simprocAttr]
    obtain ⟨r_219,hr_219,hm⟩:=call_elim hm
    refine Wp.seqDS (plan:=(.rd 0 (.rd 1 (.rd 2 (.rd 3 (.rd 4 (.rd 5 (.rd 6 (.rd 7 (.rd 8 (.fk 9 [0,1,2,3,4,5,6,7] (.rd 10 (.ef 11 [0,1,2,3,4,5,6,7,8,10] (.ef 12 [] .nil))) 11 [0,1,2,3,4,5,6,7,8] (.ef 9 [0,1,2,3,4,5,6,7] (.rd 10 (.ef 12 [] .nil)))))))))))))) (by kernel_rfl) rfl (by kernel_rfl) fun K9 hK9 hW9=>?_
    suffices hcont9:K9 [(2,.ptr 0 0),(3,.ptr 1 0),(4,.ptr 2 0),(9,.p (.l (List.map enc_api_Piece o3_216))),(18,.ptr 4 0),(97,.ptr 0 0),(98,.p (.i .i64 d_1.Old)),(99,.ptr 1 1),(100,.p (.i .i64 e_2.New)),(101,.ptr 0 2),(102,.p (.s d_1.OldSum)),(103,.ptr 1 3),(104,.p (.s e_2.NewSum)),(105,.p (.l (List.map enc_api_Piece o3_216))),(106,.p (.l (List.map enc_api_Piece r_219))),(107,.agg [.p (.i .i64 d_1.Old),.p (.i .i64 e_2.New),.p (.s d_1.OldSum),.p (.s e_2.NewSum),.p (.l (List.map enc_api_Piece r_219))])] [.cells 24 [.p (.i .i64 d_1.Old),.p (.i .i64 d_1.New),.p (.s d_1.OldSum),.p (.s d_1.NewSum),.p (.l (List.map enc_api_Piece d_1.Pieces))],.cells 24 [.p (.i .i64 e_2.Old),.p (.i .i64 e_2.New),.p (.s e_2.OldSum),.p (.s e_2.NewSum),.p (.l (List.map enc_api_Piece e_2.Pieces))],.cells 24 [.p (.i .i64 0),.p (.i .i64 0),.p (.s []),.p (.s []),.nils],.gone,.cells 24 [.p (.i .i64 d_1.Old),.p (.i .i64 e_2.New),.p (.s d_1.OldSum),.p (.s e_2.NewSum),.p (.l (List.map enc_api_Piece r_219))]] by
     simp only [go_sem,simprocAttr]
     try refine ⟨sd,?_⟩
     refine Dr.fk ?_ ?_
     ·
      refine id (Br.callR (av:=?av10) (g:=true) (o:=?o10) [] (fun hg=>ok_delta_joined o3_216 _ hr_219) si si si si si sg sg sg sg ?cont10)
      simp only [go_sem,simprocAttr]
      first | refine hW9.weak _ _ _ _ ?_ hcont9 | refine ⟨sd,hW9.weak _ _ _ _ ?_ hcont9⟩
      exact fse2
     ·
      refine Br.run (o:=?o11) si si ?cont11
      simp only [go_sem,simprocAttr]
      try refine ⟨sd,?_⟩
      refine Dr.of_br (Br.callR (av:=?av12) (g:=true) (o:=?o12) [] (fun hg=>ok_delta_joined o3_216 _ hr_219) si si si si si sg sg sg sg ?cont12)
      simp only [go_sem,simprocAttr]
      first | refine hW9.weak _ _ _ _ ?_ hcont9 | refine ⟨sd,hW9.weak _ _ _ _ ?_ hcont9⟩
      exact fse2
    refine hK9 _ _ ?_
    refine Wp.seqW fun K13 hK13 hW13=>?_
    refine qS ?_
    refine cM hm (fun hc15 hm=>?_) (fun hc15 hm=>?_)
    ·refine qS ?_
     refine Wp.ret ?_
     simp only [thenQ,blockQ]
     refine retQ_retE ?_
     cases hm
     exact fse2
    ·refine Wp.skip ?_
     refine hK13 _ _ ?_
     refine qS ?_
     refine Wp.ret ?_
     refine retQ_ret ?_
     cases hm
     exact fse2
   clear hK8 hk_217
   refine qS ?_
   refine Wp.block ?_
   refine Wp.adopt 9 42 3 rfl ?_
   simp only [go_sem,simprocAttr]
   obtain ⟨k_319,hk_319,hm⟩:=forL_cont hm
   refine Wp.fact 46 fun hl_322=>?_
   replace hl_322:e_2.Pieces.length≤274877906944:=by
    simp only [go_sem,simprocAttr,List.length_map] at hl_322
    omega
   refine Wp.forL (fun i_321 s=>[(2,.ptr 0 0),(3,.ptr 1 0),(4,.ptr 2 0),(9,.buf 3),(46,.p (.l (List.map enc_api_Piece e_2.Pieces))),(47,.p (.i .i64 (e_2.Pieces.length:Int))),(48,.p (.i .i64 (i_321:Int)))]) (fun i_321 s=>[.cells 24 [.p (.i .i64 d_1.Old),.p (.i .i64 d_1.New),.p (.s d_1.OldSum),.p (.s d_1.NewSum),.p (.l (List.map enc_api_Piece d_1.Pieces))],.cells 24 [.p (.i .i64 e_2.Old),.p (.i .i64 e_2.New),.p (.s e_2.OldSum),.p (.s e_2.NewSum),.p (.l (List.map enc_api_Piece e_2.Pieces))],.cells 24 [.p (.i .i64 0),.p (.i .i64 0),.p (.s []),.p (.s []),.nils],.buf 42 3 (List.map enc_api_Piece s)]) ?_ hm ?_
   ·
    exact fse2
   clear hm
   intro i_321 o3_270 hii_321 hm
   try dsimp only at hm
   try dsimp only
   refine qS ?_
   refine Wp.seqW fun K20 hK20 hW20=>?_
   refine Wp.cond rfl ⟨⟩ (fun hc20=>?_) (fun hc20=>?_)
   rotate_left
   ·refine Wp.exit ?_
    have hm:=hk_319 _ (forL_end hm (ge_nat (by first | exact hc20 | simpa using hc20)))
    try dsimp only at hm
    refine hW8 _ _ _ _ ?_ (hcut8 o3_270 hm)
    exact fse2
   have hlt20:=lt_nat (by first | exact hc20 | simpa using hc20)
   have hw20:=wrap_succ hlt20 hl_322
   obtain ⟨p_323,nx_320,hxp_323,hyp_323,hnx_320,hm⟩:=forL_step hm hlt20
   replace hxp_323:=hxp_323 enc_api_Piece
   refine Wp.skip ?_
   simp only [thenQ]
   refine hK20 _ _ ?_
   refine Wp.seqW fun K21 hK21 hW21=>?_
   obtain ⟨k_347,hk_347,hm⟩:=jp_elim hm
   have hcut21:∀ s,k_347 s=some z→K21 [(2,.ptr 0 0),(3,.ptr 1 0),(4,.ptr 2 0),(9,.buf 3),(46,.p (.l (List.map enc_api_Piece e_2.Pieces))),(47,.p (.i .i64 (e_2.Pieces.length:Int))),(48,.p (.i .i64 (i_321:Int)))] [.cells 24 [.p (.i .i64 d_1.Old),.p (.i .i64 d_1.New),.p (.s d_1.OldSum),.p (.s d_1.NewSum),.p (.l (List.map enc_api_Piece d_1.Pieces))],.cells 24 [.p (.i .i64 e_2.Old),.p (.i .i64 e_2.New),.p (.s e_2.OldSum),.p (.s e_2.NewSum),.p (.l (List.map enc_api_Piece e_2.Pieces))],.cells 24 [.p (.i .i64 0),.p (.i .i64 0),.p (.s []),.p (.s []),.nils],.buf 42 3 (List.map enc_api_Piece s)]:=by
    intro o3_346 hs
    have hm:=hk_347 _ hs
    clear hs
    try dsimp only at hm
    try dsimp only
    refine hK21 _ _ ?_
    refine Wp.region fun K22 hK22=>?_
    simp only [go_sem,simprocAttr,hw20,hxp_323]
    first | apply hK22 | refine ⟨sd,hK22 _ _ ?_⟩
    simp only [thenQ,blockQ,↓reduceIte]
    refine ⟨o3_346,hlt20,hnx_320 _ hm,?_⟩
    simp only [go_sem,simprocAttr,hw20,hxp_323]
    try exact se2
   clear hK21 hk_347
   refine Wp.block ?_
   refine Wp.seqR fun K23 hK23=>?_
   simp only [go_sem,simprocAttr,hw20,hxp_323]
   first | apply hK23 | refine ⟨sd,hK23 _ _ ?_⟩
   refine Wp.seqW fun K24 hK24 hW24=>?_
   refine Wp.seqR fun K25 hK25=>?_
   simp only [go_sem,simprocAttr,hw20,hxp_323]
   first | apply hK25 | refine ⟨sd,hK25 _ _ ?_⟩
   refine cM hm (fun hc26 hm=>?_) (fun hc26 hm=>?_)
   ·obtain ⟨c_348,hm⟩:=chk_elim hm
    refine Wp.seqR fun K27 hK27=>?_
    simp only [go_sem,simprocAttr,hw20,hxp_323]
    first | apply hK27 | refine ⟨by first | exact sd | ((repeat' apply And.intro) <;> first | assumption | omega | (simp only [List.length_append,List.length_map,List.length_cons,List.length_nil,List.length_set,List.length_replicate] at c_348 ⊢; omega)),hK27 _ _ ?_⟩
    refine Wp.exit ?_
    refine hW21 _ _ _ _ ?_ (hcut21 (o3_270++[p_323]) hm)
    simp only [go_sem,simprocAttr,hw20,hxp_323]
    try exact se2
   ·refine Wp.skip ?_
    refine hK24 _ _ ?_
    refine Wp.seqR fun K28 hK28=>?_
    simp only [go_sem,simprocAttr,hw20,hxp_323]
    first | apply hK28 | refine ⟨sd,hK28 _ _ ?_⟩
    refine Wp.seqR fun K29 hK29=>?_
    simp only [go_sem,simprocAttr,hw20,hxp_323]
    first | apply hK29 | refine ⟨sd,hK29 _ _ ?_⟩
    refine Wp.block ?_
    obtain ⟨k_362,hk_362,hm⟩:=forL_cont hm
    refine Wp.fact 60 fun hl_365=>?_
    replace hl_365:d_1.Pieces.length≤274877906944:=by
     simp only [go_sem,simprocAttr,List.length_map] at hl_365
     omega
    refine Wp.forL (fun i_364 s=>[(2,.ptr 0 0),(3,.ptr 1 0),(4,.ptr 2 0),(9,.buf 3),(11,.ptr 4 0),(12,.p (.i .i64 s.1)),(46,.p (.l (List.map enc_api_Piece e_2.Pieces))),(47,.p (.i .i64 (e_2.Pieces.length:Int))),(48,.p (.i .i64 (i_321:Int))),(60,.p (.l (List.map enc_api_Piece d_1.Pieces))),(61,.p (.i .i64 (d_1.Pieces.length:Int))),(62,.p (.i .i64 (i_364:Int)))]) (fun i_364 s=>[.cells 24 [.p (.i .i64 d_1.Old),.p (.i .i64 d_1.New),.p (.s d_1.OldSum),.p (.s d_1.NewSum),.p (.l (List.map enc_api_Piece d_1.Pieces))],.cells 24 [.p (.i .i64 e_2.Old),.p (.i .i64 e_2.New),.p (.s e_2.OldSum),.p (.s e_2.NewSum),.p (.l (List.map enc_api_Piece e_2.Pieces))],.cells 24 [.p (.i .i64 0),.p (.i .i64 0),.p (.s []),.p (.s []),.nils],.buf 42 3 (List.map enc_api_Piece s.2),.cells 42 [.p (.i .i64 p_323.At),.p (.i .i64 p_323.Long),.p (.s p_323.Data)]]) ?_ hm ?_
    ·
     simp only [go_sem,simprocAttr,hw20,hxp_323]
     try exact se2
    clear hm
    intro i_364 s hii_364 hm
    obtain ⟨begin_355,o3_357⟩:=s
    try dsimp only at hm
    try dsimp only
    refine Wp.seqR fun K30 hK30=>?_
    simp only [go_sem,simprocAttr,hw20,hxp_323]
    first | apply hK30 | refine ⟨sd,hK30 _ _ ?_⟩
    refine Wp.seqW fun K31 hK31 hW31=>?_
    refine Wp.cond rfl ⟨⟩ (fun hc31=>?_) (fun hc31=>?_)
    rotate_left
    ·refine Wp.exit ?_
     have hm:=hk_362 _ (forL_end hm (ge_nat (by first | exact hc31 | simpa using hc31)))
     try dsimp only at hm
     refine hW21 _ _ _ _ ?_ (hcut21 o3_357 hm)
     simp only [go_sem,simprocAttr,hw20,hxp_323]
     try exact se2
    have hlt31:=lt_nat (by first | exact hc31 | simpa using hc31)
    have hw31:=wrap_succ hlt31 hl_365
    obtain ⟨p_366,nx_363,hxp_366,hyp_366,hnx_363,hm⟩:=forL_step hm hlt31
    replace hxp_366:=hxp_366 enc_api_Piece
    refine Wp.skip ?_
    simp only [thenQ]
    refine hK31 _ _ ?_
    refine Wp.seqW fun K32 hK32 hW32=>?_
    refine Wp.block ?_
    refine Wp.seqR fun K33 hK33=>?_
    simp only [go_sem,simprocAttr,hw20,hxp_323,hw31,hxp_366]
    first | apply hK33 | refine ⟨sd,hK33 _ _ ?_⟩
    obtain ⟨r_367,hr_367,hm⟩:=call_elim hm
    refine Wp.seqR fun K34 hK34=>?_
    simp only [go_sem,simprocAttr,hw20,hxp_323,hw31,hxp_366]
    try refine ⟨sd,?_⟩
    refine Rg.callX (av:=?av35) (g:=true) (fun hg=>ok_delta_size p_366 _ hr_367) (by simp only [go_sem,simprocAttr,hw20,hxp_323,hw31,hxp_366]; exact Is.mk) (by simp only [go_sem,simprocAttr,hw20,hxp_323,hw31,hxp_366]; exact Is.mk) (by simp only [go_sem,simprocAttr,hw20,hxp_323,hw31,hxp_366]; exact Is.mk) (by simp only [go_sem,simprocAttr,hw20,hxp_323,hw31,hxp_366]) (by simp only [go_sem,simprocAttr,hw20,hxp_323,hw31,hxp_366]; exact Is.mk) ?cont35
    intro hv35
    simp only [go_sem,simprocAttr,hw20,hxp_323,hw31,hxp_366]
    first | apply hK34 | refine ⟨sd,hK34 _ _ ?_⟩
    refine Wp.seqD (plan:=pl [(0,none),(1,none),(2,none),(3,none),(4,none),(5,none),(6,none),(7,none),(8,none),(9,none),(10,none),(11,none),(12,none),(13,none),(14,none),(15,none)]) (by kernel_rfl) rfl (by kernel_rfl) fun K36 hK36=>?_
    simp only [go_sem,simprocAttr,hw20,hxp_323,hw31,hxp_366]
    first | apply hK36 | refine ⟨sd,hK36 _ _ ?_⟩
    refine Wp.seqW fun K37 hK37 hW37=>?_
    refine Wp.seqR fun K38 hK38=>?_
    simp only [go_sem,simprocAttr,hw20,hxp_323,hw31,hxp_366]
    first | apply hK38 | refine ⟨sd,hK38 _ _ ?_⟩
    refine cM hm (fun hc39 hm=>?_) (fun hc39 hm=>?_)
    ·obtain ⟨r_368,hr_368,hm⟩:=call_elim hm
     obtain ⟨c_369,hm⟩:=chk_elim hm
     refine Wp.region fun K40 hK40=>?_
     simp only [go_sem,simprocAttr,hw20,hxp_323,hw31,hxp_366]
     try refine ⟨by first | exact sd | ((repeat' apply And.intro) <;> first | assumption | omega | (simp only [List.length_append,List.length_map,List.length_cons,List.length_nil,List.length_set,List.length_replicate] at c_369 ⊢; omega)),?_⟩
     refine Rg.callX (av:=?av41) (g:=true) (fun hg=>ok_delta_part p_366 (max (IntKind.i64.wrap (p_323.At - begin_355)) 0) (min (IntKind.i64.wrap ((IntKind.i64.wrap (p_323.At+p_323.Long)) - begin_355)) r_367) _ hr_368) (by simp only [go_sem,simprocAttr,hw20,hxp_323,hw31,hxp_366]; exact Is.mk) (by simp only [go_sem,simprocAttr,hw20,hxp_323,hw31,hxp_366]; exact Is.mk) (by simp only [go_sem,simprocAttr,hw20,hxp_323,hw31,hxp_366]; exact Is.mk) (by simp only [go_sem,simprocAttr,hw20,hxp_323,hw31,hxp_366]) (by simp only [go_sem,simprocAttr,hw20,hxp_323,hw31,hxp_366]; exact Is.mk) ?cont41
     intro hv41
     simp only [go_sem,simprocAttr,hw20,hxp_323,hw31,hxp_366]
     first | apply hK40 | refine ⟨by first | exact sd | ((repeat' apply And.intro) <;> first | assumption | omega | (simp only [List.length_append,List.length_map,List.length_cons,List.length_nil,List.length_set,List.length_replicate] at c_369 ⊢; omega)),hK40 _ _ ?_⟩
     refine hK37 _ _ ?_
     refine Wp.region fun K42 hK42=>?_
     simp only [go_sem,simprocAttr,hw20,hxp_323,hw31,hxp_366]
     first | apply hK42 | refine ⟨sd,hK42 _ _ ?_⟩
     refine hK32 _ _ ?_
     refine Wp.region fun K43 hK43=>?_
     simp only [go_sem,simprocAttr,hw20,hxp_323,hw31,hxp_366]
     first | apply hK43 | refine ⟨sd,hK43 _ _ ?_⟩
     simp only [thenQ,blockQ,↓reduceIte]
     refine ⟨(IntKind.i64.wrap (begin_355+r_367),o3_357++[r_368]),hlt31,hnx_363 _ hm,?_⟩
     simp only [go_sem,simprocAttr,hw20,hxp_323,hw31,hxp_366]
     try exact se2
    ·refine Wp.skip ?_
     refine hK37 _ _ ?_
     refine Wp.region fun K44 hK44=>?_
     simp only [go_sem,simprocAttr,hw20,hxp_323,hw31,hxp_366]
     first | apply hK44 | refine ⟨sd,hK44 _ _ ?_⟩
     refine hK32 _ _ ?_
     refine Wp.region fun K45 hK45=>?_
     simp only [go_sem,simprocAttr,hw20,hxp_323,hw31,hxp_366]
     first | apply hK45 | refine ⟨sd,hK45 _ _ ?_⟩
     simp only [thenQ,blockQ,↓reduceIte]
     refine ⟨(IntKind.i64.wrap (begin_355+r_367),o3_357),hlt31,hnx_363 _ hm,?_⟩
     simp only [go_sem,simprocAttr,hw20,hxp_323,hw31,hxp_366]
     try exact se2
 clear hK2 hk_65
 refine qS ?_
 refine Wp.block ?_
 refine Wp.loopK 9 ?_
 simp only [WpL]
 refine qS ?_
 refine Wp.seqW fun K48 hK48 hW48=>?_
 refine Wp.cond rfl ⟨⟩ (fun hc49=>?_) (fun hc49=>?_)
 rotate_left
 ·cases hc49
 refine Wp.skip ?_
 refine hK48 _ _ ?_
 refine Wp.seqW fun K50 hK50 hW50=>?_
 refine Wp.block ?_
 refine qS ?_
 obtain ⟨r_430,hr_430,hm⟩:=call_elim hm
 refine Wp.seqR fun K52 hK52=>?_
 simp only [go_sem,simprocAttr]
 try refine ⟨sd,?_⟩
 refine Rg.callX (av:=?av53) (g:=true) (fun hg=>ok_delta_Check d_1 _ hr_430) si si si sg si ?cont53
 intro hv53
 simp only [go_sem,simprocAttr]
 first | apply hK52 | refine ⟨sd,hK52 _ _ ?_⟩
 refine qS ?_
 refine cM hm (fun hc55 hm=>?_) (fun hc55 hm=>?_)
 ·refine qS ?_
  refine Wp.ret ?_
  simp only [thenQ,blockQ]
  refine retQ_retE ?_
  cases hm
  exact fse2
 ·refine Wp.skip ?_
  refine hK50 _ _ ?_
  refine qR ?_
  simp only [thenQ,blockQ,↓reduceIte]
  try simp only [WpL]
  refine qS ?_
  refine Wp.seqW fun K59 hK59 hW59=>?_
  refine Wp.cond rfl ⟨⟩ (fun hc60=>?_) (fun hc60=>?_)
  rotate_left
  ·cases hc60
  refine Wp.skip ?_
  refine hK59 _ _ ?_
  refine Wp.seqW fun K61 hK61 hW61=>?_
  refine Wp.block ?_
  refine qS ?_
  obtain ⟨r_431,hr_431,hm⟩:=call_elim hm
  refine Wp.seqR fun K63 hK63=>?_
  simp only [go_sem,simprocAttr]
  try refine ⟨sd,?_⟩
  refine Rg.callX (av:=?av64) (g:=true) (fun hg=>ok_delta_Check e_2 _ hr_431) si si si sg si ?cont64
  intro hv64
  simp only [go_sem,simprocAttr]
  first | apply hK63 | refine ⟨sd,hK63 _ _ ?_⟩
  refine qS ?_
  refine cM hm (fun hc66 hm=>?_) (fun hc66 hm=>?_)
  ·refine qS ?_
   refine Wp.ret ?_
   simp only [thenQ,blockQ]
   refine retQ_retE ?_
   cases hm
   exact fse2
  ·refine Wp.skip ?_
   refine hK61 _ _ ?_
   refine qR ?_
   simp only [thenQ,blockQ,↓reduceIte]
   try simp only [WpL]
   refine qS ?_
   refine Wp.seqW fun K70 hK70 hW70=>?_
   refine Wp.cond rfl ⟨⟩ (fun hc71=>?_) (fun hc71=>?_)
   ·cases hc71
   refine Wp.exit ?_
   refine hW2 _ _ _ _ ?_ (hcut2 () hm)
   exact fse2
theorem ok_R_IsSum (s_1:Str) (z:Bool) (hm:R_IsSum s_1=some z):Does Try.prog 20 [.p (.s s_1)] [] (fun r X=>r=.p (.b z)∧X=[]):=by
 unfold R_IsSum at hm
 refine Does.of_wp 0 31 [.tmp 2] Try.func20 rfl (by decide) rfl rfl (Nat.le_of_ble_eq_true rfl) fun B=>?_
 refine qS ?_
 refine Wp.seqW fun K2 hK2 hW2=>?_
 obtain ⟨k_9,hk_9,hm⟩:=jp_elim hm
 have hcut2:∀ s,k_9 s=some z→K2 [(0,.p (.s s_1))] []:=by
  intro s hs
  have hm:=hk_9 _ hs
  clear hs
  try dsimp only at hm
  try dsimp only
  refine hK2 _ _ ?_
  refine qS ?_
  refine Wp.ret ?_
  refine retQ_ret ?_
  cases hm
  exact fse2
 clear hK2 hk_9
 refine qS ?_
 refine Wp.block ?_
 obtain ⟨k_12,hk_12,hm⟩:=forL_cont hm
 refine Wp.fact 0 fun hl_15=>?_
 replace hl_15:s_1.length≤274877906944:=by
  simp only [go_sem,simprocAttr,List.length_map] at hl_15
  omega
 refine Wp.forL (fun i_14 s=>[(0,.p (.s s_1)),(6,.p (.i .i64 (s_1.length:Int))),(7,.p (.i .i64 (i_14:Int)))]) (fun i_14 s=>[]) ?_ hm ?_
 ·
  exact fse2
 clear hm
 intro i_14 s hii_14 hm
 try dsimp only at hm
 try dsimp only
 refine qS ?_
 refine Wp.seqW fun K6 hK6 hW6=>?_
 refine Wp.cond rfl ⟨⟩ (fun hc6=>?_) (fun hc6=>?_)
 rotate_left
 ·refine Wp.exit ?_
  have hm:=hk_12 _ (forL_end hm (ge_nat (by first | exact hc6 | simpa using hc6)))
  try dsimp only at hm
  refine hW2 _ _ _ _ ?_ (hcut2 () hm)
  exact fse2
 have hlt6:=lt_nat (by first | exact hc6 | simpa using hc6)
 have hw6:=wrap_succ hlt6 hl_15
 obtain ⟨c_16,nx_13,hxc_16,hyc_16,hnx_13,hm⟩:=forL_step hm hlt6
 clear hxc_16
 refine Wp.skip ?_
 simp only [thenQ]
 refine hK6 _ _ ?_
 refine Wp.seqW fun K7 hK7 hW7=>?_
 refine Wp.block ?_
 refine Wp.seqR fun K8 hK8=>?_
 simp only [go_sem,simprocAttr,hw6,hyc_16]
 first | apply hK8 | refine ⟨sd,hK8 _ _ ?_⟩
 refine Wp.seqR fun K9 hK9=>?_
 simp only [go_sem,simprocAttr,hw6,hyc_16]
 first | apply hK9 | refine ⟨sd,hK9 _ _ ?_⟩
 refine Wp.seqR fun K10 hK10=>?_
 simp only [go_sem,simprocAttr,hw6,hyc_16]
 first | apply hK10 | refine ⟨sd,hK10 _ _ ?_⟩
 refine cM hm (fun hc11 hm=>?_) (fun hc11 hm=>?_)
 ·refine Wp.seqR fun K12 hK12=>?_
  simp only [go_sem,simprocAttr,hw6,hyc_16]
  first | apply hK12 | refine ⟨sd,hK12 _ _ ?_⟩
  refine Wp.ret ?_
  refine retQ_ret ?_
  cases hm
  simp only [go_sem,simprocAttr,hw6,hyc_16]
  try exact se2
 ·refine Wp.skip ?_
  refine hK7 _ _ ?_
  refine Wp.region fun K13 hK13=>?_
  simp only [go_sem,simprocAttr,hw6,hyc_16]
  first | apply hK13 | refine ⟨sd,hK13 _ _ ?_⟩
  simp only [thenQ,blockQ,↓reduceIte]
  refine ⟨(),hlt6,hnx_13 _ hm,?_⟩
  simp only [go_sem,simprocAttr,hw6,hyc_16]
  try exact se2
theorem ok_R_PiecesError (l_1:List api_Piece) (old_2:Int) (z:Int × Int) (hm:R_PiecesError l_1 old_2=some z):Does Try.prog 21 [.p (.l (List.map enc_api_Piece l_1)),.p (.i .i64 old_2)] [] (fun r X=>r=.tup [.p (.i .i64 z.1),.p (.i .i64 z.2)]∧X=[]):=by
 unfold R_PiecesError at hm
 refine Does.of_wp 0 73 [.tmp 4,.tmp 5] Try.func21 rfl (by decide) rfl rfl (Nat.le_of_ble_eq_true rfl) fun B=>?_
 refine qS ?_
 refine Wp.seqW fun K2 hK2 hW2=>?_
 refine qS ?_
 refine cM hm (fun hc4 hm=>?_) (fun hc4 hm=>?_)
 ·refine qS ?_
  refine Wp.ret ?_
  refine retQ_ret ?_
  cases hm
  exact fse2
 ·refine Wp.skip ?_
  refine hK2 _ _ ?_
  refine Wp.seqW fun K6 hK6 hW6=>?_
  refine qS ?_
  refine cM hm (fun hc8 hm=>?_) (fun hc8 hm=>?_)
  ·refine qS ?_
   refine Wp.ret ?_
   refine retQ_ret ?_
   cases hm
   exact fse2
  ·refine Wp.skip ?_
   refine hK6 _ _ ?_
   refine qS ?_
   refine Wp.seqW fun K11 hK11 hW11=>?_
   obtain ⟨k_12,hk_12,hm⟩:=jp_elim hm
   have hcut11:∀ s,k_12 s=some z→K11 [(6,.p (.i .i64 s))] []:=by
    intro n_11 hs
    have hm:=hk_12 _ hs
    clear hs
    try dsimp only at hm
    try dsimp only
    refine hK11 _ _ ?_
    refine Wp.seqW fun K12 hK12 hW12=>?_
    refine qS ?_
    refine cM hm (fun hc14 hm=>?_) (fun hc14 hm=>?_)
    ·refine qS ?_
     refine Wp.ret ?_
     refine retQ_ret ?_
     cases hm
     exact fse2
    ·refine Wp.skip ?_
     refine hK12 _ _ ?_
     refine qS ?_
     refine Wp.ret ?_
     refine retQ_ret ?_
     cases hm
     exact fse2
   clear hK11 hk_12
   refine qS ?_
   refine Wp.block ?_
   obtain ⟨k_16,hk_16,hm⟩:=forL_cont hm
   refine Wp.fact 18 fun hl_19=>?_
   replace hl_19:l_1.length≤274877906944:=by
    simp only [go_sem,simprocAttr,List.length_map] at hl_19
    omega
   refine Wp.forL (fun i_18 s=>[(1,.p (.i .i64 old_2)),(6,.p (.i .i64 s)),(18,.p (.l (List.map enc_api_Piece l_1))),(19,.p (.i .i64 (l_1.length:Int))),(20,.p (.i .i64 (i_18:Int)))]) (fun i_18 s=>[]) ?_ hm ?_
   ·
    exact fse2
   clear hm
   intro i_18 n_13 hii_18 hm
   try dsimp only at hm
   try dsimp only
   refine qS ?_
   refine Wp.seqW fun K19 hK19 hW19=>?_
   refine Wp.cond rfl ⟨⟩ (fun hc19=>?_) (fun hc19=>?_)
   rotate_left
   ·refine Wp.exit ?_
    have hm:=hk_16 _ (forL_end hm (ge_nat (by first | exact hc19 | simpa using hc19)))
    try dsimp only at hm
    refine hW11 _ _ _ _ ?_ (hcut11 n_13 hm)
    exact fse2
   have hlt19:=lt_nat (by first | exact hc19 | simpa using hc19)
   have hw19:=wrap_succ hlt19 hl_19
   obtain ⟨p_20,nx_17,hxp_20,hyp_20,hnx_17,hm⟩:=forL_step hm hlt19
   replace hxp_20:=hxp_20 enc_api_Piece
   refine Wp.skip ?_
   simp only [thenQ]
   refine hK19 _ _ ?_
   refine Wp.seqW fun K20 hK20 hW20=>?_
   refine Wp.block ?_
   refine Wp.seqR fun K21 hK21=>?_
   simp only [go_sem,simprocAttr,hw19,hxp_20]
   first | apply hK21 | refine ⟨sd,hK21 _ _ ?_⟩
   refine Wp.block ?_
   refine Wp.seqR fun K22 hK22=>?_
   simp only [go_sem,simprocAttr,hw19,hxp_20]
   first | apply hK22 | refine ⟨sd,hK22 _ _ ?_⟩
   refine cM hm (fun hc23 hm=>?_) (fun hc23 hm=>?_)
   ·refine Wp.seqW fun K24 hK24 hW24=>?_
    refine Wp.seqR fun K25 hK25=>?_
    simp only [go_sem,simprocAttr,hw19,hxp_20]
    first | apply hK25 | refine ⟨sd,hK25 _ _ ?_⟩
    refine cM hm (fun hc26 hm=>?_) (fun hc26 hm=>?_)
    ·refine Wp.seqR fun K27 hK27=>?_
     simp only [go_sem,simprocAttr,hw19,hxp_20]
     first | apply hK27 | refine ⟨sd,hK27 _ _ ?_⟩
     refine Wp.ret ?_
     refine retQ_ret ?_
     cases hm
     simp only [go_sem,simprocAttr,hw19,hxp_20]
     try exact se2
    ·refine Wp.skip ?_
     refine hK24 _ _ ?_
     refine Wp.region fun K28 hK28=>?_
     simp only [go_sem,simprocAttr,hw19,hxp_20]
     first | apply hK28 | refine ⟨sd,hK28 _ _ ?_⟩
     refine hK20 _ _ ?_
     refine Wp.region fun K29 hK29=>?_
     simp only [go_sem,simprocAttr,hw19,hxp_20]
     first | apply hK29 | refine ⟨sd,hK29 _ _ ?_⟩
     simp only [thenQ,blockQ,↓reduceIte]
     refine ⟨IntKind.i64.wrap (n_13+(p_20.Data.length:Int)),hlt19,hnx_17 _ hm,?_⟩
     simp only [go_sem,simprocAttr,hw19,hxp_20]
     try exact se2
   ·refine Wp.seqR fun K30 hK30=>?_
    simp only [go_sem,simprocAttr,hw19,hxp_20]
    first | apply hK30 | refine ⟨sd,hK30 _ _ ?_⟩
    refine cM hm (fun hc31 hm=>?_) (fun hc31 hm=>?_)
    ·refine Wp.seqR fun K32 hK32=>?_
     simp only [go_sem,simprocAttr,hw19,hxp_20]
     first | apply hK32 | refine ⟨sd,hK32 _ _ ?_⟩
     refine Wp.ret ?_
     refine retQ_ret ?_
     cases hm
     simp only [go_sem,simprocAttr,hw19,hxp_20]
     try exact se2
    ·refine Wp.region fun K33 hK33=>?_
     simp only [go_sem,simprocAttr,hw19,hxp_20]
     first | apply hK33 | refine ⟨sd,hK33 _ _ ?_⟩
     refine hK20 _ _ ?_
     refine Wp.region fun K34 hK34=>?_
     simp only [go_sem,simprocAttr,hw19,hxp_20]
     first | apply hK34 | refine ⟨sd,hK34 _ _ ?_⟩
     simp only [thenQ,blockQ,↓reduceIte]
     refine ⟨IntKind.i64.wrap (n_13+p_20.Long),hlt19,hnx_17 _ hm,?_⟩
     simp only [go_sem,simprocAttr,hw19,hxp_20]
     try exact se2
theorem ok_R_when (bad_1:Bool) (e_2:Int) (z:Int) (hm:R_when bad_1 e_2=some z):Does Try.prog 23 [.p (.b bad_1),.p (.i .i64 e_2)] [] (fun r X=>r=.p (.i .i64 z)∧X=[]):=by
 unfold R_when at hm
 refine Does.of_wp 0 7 [.tmp 4] Try.func23 rfl (by decide) rfl rfl (Nat.le_of_ble_eq_true rfl) fun B=>?_
 refine qS ?_
 refine Wp.seqW fun K2 hK2 hW2=>?_
 refine qS ?_
 refine cM hm (fun hc4 hm=>?_) (fun hc4 hm=>?_)
 ·refine qS ?_
  refine Wp.ret ?_
  refine retQ_ret ?_
  cases hm
  exact fse2
 ·refine Wp.skip ?_
  refine hK2 _ _ ?_
  refine qS ?_
  refine Wp.ret ?_
  refine retQ_ret ?_
  cases hm
  exact fse2
theorem ok_R_first (l_1:List Int) (z:Int) (hm:R_first l_1=some z):Does Try.prog 22 [.p (.l (List.map ecI_i64 l_1))] [] (fun r X=>r=.p (.i .i64 z)∧X=[]):=by
 unfold R_first at hm
 refine Does.of_wp 0 15 [.tmp 2] Try.func22 rfl (by decide) rfl rfl (Nat.le_of_ble_eq_true rfl) fun B=>?_
 refine qS ?_
 refine Wp.seqW fun K2 hK2 hW2=>?_
 obtain ⟨k_9,hk_9,hm⟩:=jp_elim hm
 have hcut2:∀ s,k_9 s=some z→K2 [] []:=by
  intro s hs
  have hm:=hk_9 _ hs
  clear hs
  try dsimp only at hm
  try dsimp only
  refine hK2 _ _ ?_
  refine qS ?_
  refine Wp.ret ?_
  refine retQ_ret ?_
  cases hm
  exact fse2
 clear hK2 hk_9
 refine qS ?_
 refine Wp.block ?_
 obtain ⟨k_12,hk_12,hm⟩:=forL_cont hm
 refine Wp.fact 5 fun hl_15=>?_
 replace hl_15:l_1.length≤274877906944:=by
  simp only [go_sem,simprocAttr,List.length_map] at hl_15
  omega
 refine Wp.forL (fun i_14 s=>[(5,.p (.l (List.map ecI_i64 l_1))),(6,.p (.i .i64 (l_1.length:Int))),(7,.p (.i .i64 (i_14:Int)))]) (fun i_14 s=>[]) ?_ hm ?_
 ·
  exact fse2
 clear hm
 intro i_14 s hii_14 hm
 try dsimp only at hm
 try dsimp only
 refine qS ?_
 refine Wp.seqW fun K6 hK6 hW6=>?_
 refine Wp.cond rfl ⟨⟩ (fun hc6=>?_) (fun hc6=>?_)
 rotate_left
 ·refine Wp.exit ?_
  have hm:=hk_12 _ (forL_end hm (ge_nat (by first | exact hc6 | simpa using hc6)))
  try dsimp only at hm
  refine hW2 _ _ _ _ ?_ (hcut2 () hm)
  exact fse2
 have hlt6:=lt_nat (by first | exact hc6 | simpa using hc6)
 have hw6:=wrap_succ hlt6 hl_15
 obtain ⟨e_16,nx_13,hxe_16,hye_16,hnx_13,hm⟩:=forL_step hm hlt6
 replace hxe_16:=hxe_16 ecI_i64
 refine Wp.skip ?_
 simp only [thenQ]
 refine hK6 _ _ ?_
 refine Wp.seqW fun K7 hK7 hW7=>?_
 refine Wp.block ?_
 refine Wp.seqR fun K8 hK8=>?_
 simp only [go_sem,simprocAttr,hw6,hxe_16]
 first | apply hK8 | refine ⟨sd,hK8 _ _ ?_⟩
 refine Wp.seqR fun K9 hK9=>?_
 simp only [go_sem,simprocAttr,hw6,hxe_16]
 first | apply hK9 | refine ⟨sd,hK9 _ _ ?_⟩
 refine cM hm (fun hc10 hm=>?_) (fun hc10 hm=>?_)
 ·refine Wp.seqR fun K11 hK11=>?_
  simp only [go_sem,simprocAttr,hw6,hxe_16]
  first | apply hK11 | refine ⟨sd,hK11 _ _ ?_⟩
  refine Wp.ret ?_
  refine retQ_ret ?_
  cases hm
  simp only [go_sem,simprocAttr,hw6,hxe_16]
  try exact se2
 ·refine Wp.skip ?_
  refine hK7 _ _ ?_
  refine Wp.region fun K12 hK12=>?_
  simp only [go_sem,simprocAttr,hw6,hxe_16]
  first | apply hK12 | refine ⟨sd,hK12 _ _ ?_⟩
  simp only [thenQ,blockQ,↓reduceIte]
  refine ⟨(),hlt6,hnx_13 _ hm,?_⟩
  simp only [go_sem,simprocAttr,hw6,hxe_16]
  try exact se2
theorem ok_R_DeltaError (d_1:api_Delta) (z:Int) (hm:R_DeltaError d_1=some z):Does Try.prog 8 [.agg [.p (.i .i64 d_1.Old),.p (.i .i64 d_1.New),.p (.s d_1.OldSum),.p (.s d_1.NewSum),.p (.l (List.map enc_api_Piece d_1.Pieces))]] [] (fun r X=>r=.p (.i .i64 z)∧X=[]):=by
 unfold R_DeltaError at hm
 refine Does.of_wp 0 51 [.tmp 2] Try.func8 rfl (by decide) rfl rfl (Nat.le_of_ble_eq_true rfl) fun B=>?_
 refine qS ?_
 refine Wp.seqW fun K2 hK2 hW2=>?_
 refine Wp.block ?_
 refine qS ?_
 refine cM hm (fun hc4 hm=>?_) (fun hc4 hm=>?_)
 ·refine qS ?_
  refine Wp.ret ?_
  refine retQ_ret ?_
  cases hm
  exact fse2
 ·obtain ⟨r_2,hr_2,hm⟩:=call_elim hm
  obtain ⟨r_3,hr_3,hm⟩:=callG_elim hm
  refine Wp.seqR fun K6 hK6=>?_
  simp only [go_sem,simprocAttr]
  try refine ⟨sd,?_⟩
  refine Rg.callX (av:=?av7) (g:=true) (fun hg=>ok_R_IsSum d_1.OldSum _ hr_2) si si si sg si ?cont7
  intro hv7
  simp only [go_sem,simprocAttr]
  try refine ⟨sd,?_⟩
  refine Rg.callX (av:=?av8) (g:=!(!r_2)) (fun hg=>ok_R_IsSum d_1.NewSum _ (hr_3 hg)) si si si sg si ?cont8
  intro hv8
  simp only [go_sem,simprocAttr]
  first | apply hK6 | refine ⟨sd,hK6 _ _ ?_⟩
  refine cM hm (fun hc9 hm=>?_) (fun hc9 hm=>?_)
  ·refine qS ?_
   refine Wp.ret ?_
   refine retQ_ret ?_
   cases hm
   exact fse2
  ·refine Wp.skip ?_
   refine hK2 _ _ ?_
   obtain ⟨r_4,hr_4,hm⟩:=call_elim hm
   refine Wp.seqR fun K11 hK11=>?_
   simp only [go_sem,simprocAttr]
   try refine ⟨sd,?_⟩
   refine Rg.callX (av:=?av12) (g:=true) (fun hg=>ok_R_PiecesError d_1.Pieces d_1.Old _ hr_4) si si si sg si ?cont12
   intro hv12
   simp only [go_sem,simprocAttr]
   first | apply hK11 | refine ⟨sd,hK11 _ _ ?_⟩
   obtain ⟨r_5,hr_5,hm⟩:=call_elim hm
   obtain ⟨r_6,hr_6,hm⟩:=call_elim hm
   refine Wp.seqR fun K13 hK13=>?_
   simp only [go_sem,simprocAttr]
   try refine ⟨sd,?_⟩
   refine Rg.callX (av:=?av14) (g:=true) (fun hg=>ok_R_when (!decide (r_4.1=d_1.New)) 11 _ hr_5) si si si sg si ?cont14
   intro hv14
   simp only [go_sem,simprocAttr]
   try refine ⟨sd,?_⟩
   refine Rg.callX (av:=?av15) (g:=true) (fun hg=>ok_R_first [r_4.2,r_5] _ hr_6) si si si sg si ?cont15
   intro hv15
   simp only [go_sem,simprocAttr]
   first | apply hK13 | refine ⟨sd,hK13 _ _ ?_⟩
   refine Wp.ret ?_
   refine retQ_ret ?_
   cases hm
   exact fse2
theorem ok_slices_Equal_api_Piece_api_Piece (s1_1:List api_Piece) (s2_2:List api_Piece) (z:Bool) (hm:slices_Equal_api_Piece_api_Piece s1_1 s2_2=some z):Does Try.prog 24 [.p (.l (List.map enc_api_Piece s1_1)),.p (.l (List.map enc_api_Piece s2_2))] [] (fun r X=>r=.p (.b z)∧X=[]):=by
 unfold slices_Equal_api_Piece_api_Piece at hm
 refine Does.of_wp 0 26 [.tmp 4] Try.func24 rfl (by decide) rfl rfl (Nat.le_of_ble_eq_true rfl) fun B=>?_
 refine qS ?_
 refine Wp.seqW fun K2 hK2 hW2=>?_
 refine qS ?_
 refine cM hm (fun hc4 hm=>?_) (fun hc4 hm=>?_)
 ·refine qS ?_
  refine Wp.ret ?_
  refine retQ_ret ?_
  cases hm
  exact fse2
 ·refine Wp.skip ?_
  refine hK2 _ _ ?_
  refine Wp.seqW fun K6 hK6 hW6=>?_
  obtain ⟨k_12,hk_12,hm⟩:=jp_elim hm
  have hcut6:∀ s,k_12 s=some z→K6 [] []:=by
   intro s hs
   have hm:=hk_12 _ hs
   clear hs
   try dsimp only at hm
   try dsimp only
   refine hK6 _ _ ?_
   refine qS ?_
   refine Wp.ret ?_
   refine retQ_ret ?_
   cases hm
   exact fse2
  clear hK6 hk_12
  refine qS ?_
  refine Wp.block ?_
  obtain ⟨k_16,hk_16,hm⟩:=forL_cont hm
  refine Wp.fact 0 fun hl_19=>?_
  replace hl_19:s1_1.length≤274877906944:=by
   simp only [go_sem,simprocAttr,List.length_map] at hl_19
   omega
  refine Wp.forL (fun i_18 s=>[(0,.p (.l (List.map enc_api_Piece s1_1))),(1,.p (.l (List.map enc_api_Piece s2_2))),(12,.p (.i .i64 (s1_1.length:Int))),(13,.p (.i .i64 (i_18:Int)))]) (fun i_18 s=>[]) ?_ hm ?_
  ·
   exact fse2
  clear hm
  intro i_18 s hii_18 hm
  try dsimp only at hm
  try dsimp only
  refine qS ?_
  refine Wp.seqW fun K10 hK10 hW10=>?_
  refine Wp.cond rfl ⟨⟩ (fun hc10=>?_) (fun hc10=>?_)
  rotate_left
  ·refine Wp.exit ?_
   have hm:=hk_16 _ (forL_end hm (ge_nat (by first | exact hc10 | simpa using hc10)))
   try dsimp only at hm
   refine hW6 _ _ _ _ ?_ (hcut6 () hm)
   exact fse2
  have hlt10:=lt_nat (by first | exact hc10 | simpa using hc10)
  have hw10:=wrap_succ hlt10 hl_19
  obtain ⟨p_20,nx_17,hxp_20,hyp_20,hnx_17,hm⟩:=forL_step hm hlt10
  replace hxp_20:=hxp_20 enc_api_Piece
  refine Wp.skip ?_
  simp only [thenQ]
  refine hK10 _ _ ?_
  refine Wp.seqW fun K11 hK11 hW11=>?_
  refine Wp.block ?_
  refine Wp.seqR fun K12 hK12=>?_
  simp only [go_sem,simprocAttr,hw10,hxp_20]
  first | apply hK12 | refine ⟨sd,hK12 _ _ ?_⟩
  obtain ⟨p_21,hbp_21,hxp_21,hyp_21,hm⟩:=idx_elim hm
  replace hxp_21:∀ d,(List.map enc_api_Piece s2_2).getD i_18 d=enc_api_Piece p_21:=hxp_21 enc_api_Piece
  refine Wp.seqD (plan:=pl [(0,none),(1,none),(2,none),(3,none),(4,none),(5,none),(6,none),(7,none),(8,none)]) (by kernel_rfl) rfl (by kernel_rfl) fun K13 hK13=>?_
  simp only [go_sem,simprocAttr,hw10,hxp_20,hxp_21]
  first | apply hK13 | refine ⟨sd,hK13 _ _ ?_⟩
  refine cM hm (fun hc14 hm=>?_) (fun hc14 hm=>?_)
  ·refine Wp.seqR fun K15 hK15=>?_
   simp only [go_sem,simprocAttr,hw10,hxp_20,hxp_21]
   first | apply hK15 | refine ⟨sd,hK15 _ _ ?_⟩
   refine Wp.ret ?_
   refine retQ_ret ?_
   cases hm
   simp only [go_sem,simprocAttr,hw10,hxp_20,hxp_21]
   try exact se2
  ·refine Wp.skip ?_
   refine hK11 _ _ ?_
   refine Wp.region fun K16 hK16=>?_
   simp only [go_sem,simprocAttr,hw10,hxp_20,hxp_21]
   first | apply hK16 | refine ⟨sd,hK16 _ _ ?_⟩
   simp only [thenQ,blockQ,↓reduceIte]
   refine ⟨(),hlt10,hnx_17 _ hm,?_⟩
   simp only [go_sem,simprocAttr,hw10,hxp_20,hxp_21]
   try exact se2
theorem ok_Law_sameDelta (a_1:api_Delta) (b_2:api_Delta) (z:Bool) (hm:Law_sameDelta a_1 b_2=some z):Does Try.prog 9 [.agg [.p (.i .i64 a_1.Old),.p (.i .i64 a_1.New),.p (.s a_1.OldSum),.p (.s a_1.NewSum),.p (.l (List.map enc_api_Piece a_1.Pieces))],.agg [.p (.i .i64 b_2.Old),.p (.i .i64 b_2.New),.p (.s b_2.OldSum),.p (.s b_2.NewSum),.p (.l (List.map enc_api_Piece b_2.Pieces))]] [] (fun r X=>r=.p (.b z)∧X=[]):=by
 unfold Law_sameDelta at hm
 refine Does.of_wp 0 38 [.tmp 4] Try.func9 rfl (by decide) rfl rfl (Nat.le_of_ble_eq_true rfl) fun B=>?_
 refine qS ?_
 obtain ⟨r_3,hr_3,hm⟩:=callG_elim hm
 refine Wp.seqR fun K2 hK2=>?_
 simp only [go_sem,simprocAttr]
 try refine ⟨sd,?_⟩
 refine Rg.callX (av:=?av3) (g:=((((decide (a_1.Old=b_2.Old)) && (decide (a_1.New=b_2.New))) && (decide (a_1.OldSum=b_2.OldSum))) && (decide (a_1.NewSum=b_2.NewSum)))) (fun hg=>ok_slices_Equal_api_Piece_api_Piece a_1.Pieces b_2.Pieces _ (hr_3 hg)) si si si sg si ?cont3
 intro hv3
 simp only [go_sem,simprocAttr]
 first | apply hK2 | refine ⟨sd,hK2 _ _ ?_⟩
 refine Wp.ret ?_
 refine retQ_ret ?_
 cases hm
 exact fse2
end Go.Proofs.Ytkekfenkeeiigaa
