/- That the code does what the models say (part 5). -/
import Derived.Test.YthofobeoaimclaaDoorRdWk0
import Derived.Test.YthofobeoaimclaaDoorRdWk1
import Derived.Test.YthofobeoaimclaaDoorRdWk2
import Derived.Test.YthofobeoaimclaaDoorRdWk3
import Derived.Test.YthofobeoaimclaaDoorRdWk4
set_option linter.unusedSimpArgs false
set_option linter.unusedVariables false
open Go.Proofs Go.Shelf
namespace Go.Proofs.YthofobeoaimclaaDoor
open Go.Vc Go.Md
set_option maxRecDepth 100000
set_option maxHeartbeats 4000000
theorem ok_R_Joined (l_1 : List api_Piece) (z : List api_Piece) (hm : R_Joined l_1 = some z) : Does Tryd.prog 44 [.p (.l (List.map enc_api_Piece l_1))] [] (fun r X => r = .p (.l (List.map enc_api_Piece z)) ∧ X = []) := by
 unfold R_Joined at hm
 refine Does.of_wp 0 90 [.tmp 2] Tryd.func44 rfl (by decide) rfl rfl (Nat.le_of_ble_eq_true rfl) fun B => ?_
 refine qS ?_
 refine qS ?_
 refine Wp.seqW fun K3 hK3 hW3 => ?_
 obtain ⟨k_106, hk_106, hm⟩ := jp_elim hm
 have hcut3 : ∀ s, k_106 s = some z → K3 [(3, .buf 0)] [.buf 53 3 (List.map enc_api_Piece s)] := by
  intro o0_105 hs
  have hm := hk_106 _ hs
  clear hs
  try dsimp only at hm
  try dsimp only
  refine hK3 _ _ ?_
  refine qS ?_
  refine Wp.ret ?_
  refine retQ_ret ?_
  cases hm
  exact fse1
 clear hK3 hk_106
 refine qS ?_
 refine Wp.block ?_
 refine Wp.adopt 3 53 3 rfl ?_
 simp only [go_sem, simprocAttr]
 obtain ⟨k_174, hk_174, hm⟩ := forL_cont hm
 refine Wp.fact 7 fun hl_177 => ?_
 replace hl_177 : l_1.length ≤ 274877906944 := by
  simp only [go_sem, simprocAttr, List.length_map] at hl_177
  omega
 refine Wp.forL (fun i_176 s => [(3, .buf 0), (7, .p (.l (List.map enc_api_Piece l_1))), (8, .p (.i .i64 (l_1.length : Int))), (9, .p (.i .i64 (i_176 : Int)))]) (fun i_176 s => [.buf 53 3 (List.map enc_api_Piece s)]) ?_ hm ?_
 ·
  exact fse1
 clear hm
 intro i_176 o0_141 hii_176 hm
 try dsimp only at hm
 try dsimp only
 refine qS ?_
 refine Wp.seqW fun K7 hK7 hW7 => ?_
 refine Wp.cond rfl ⟨⟩ (fun hc7 => ?_) (fun hc7 => ?_)
 rotate_left
 ·refine Wp.exit ?_
  have hm := hk_174 _ (forL_end hm (ge_nat (by first | exact hc7 | simpa using hc7)))
  try dsimp only at hm
  refine hW3 _ _ _ _ ?_ (hcut3 o0_141 hm)
  exact fse1
 have hlt7 := lt_nat (by first | exact hc7 | simpa using hc7)
 have hw7 := wrap_succ hlt7 hl_177
 obtain ⟨p_178, nx_175, hxp_178, hyp_178, hnx_175, hm⟩ := forL_step hm hlt7
 replace hxp_178 := hxp_178 enc_api_Piece
 refine Wp.skip ?_
 simp only [thenQ]
 refine hK7 _ _ ?_
 refine Wp.seqW fun K8 hK8 hW8 => ?_
 refine Wp.block ?_
 refine Wp.seqR fun K9 hK9 => ?_
 simp only [go_sem, simprocAttr, hw7, hxp_178]
 first | apply hK9 | refine ⟨sd, hK9 _ _ ?_⟩
 refine Wp.seqR fun K10 hK10 => ?_
 simp only [go_sem, simprocAttr, hw7, hxp_178]
 first | apply hK10 | refine ⟨sd, hK10 _ _ ?_⟩
 refine Wp.block ?_
 obtain ⟨c_179, hm⟩ := chk_elim hm
 refine Wp.seqRW fun K11 hK11 hW11 => ?_
 suffices hcont11 : K11 [(3, .buf 0), (5, .ptr 1 0), (6, .p (.i .i64 (IntKind.i64.wrap ((o0_141.length : Int) - 1)))), (7, .p (.l (List.map enc_api_Piece l_1))), (8, .p (.i .i64 (l_1.length : Int))), (9, .p (.i .i64 (i_176 : Int))), (10, .p (.b (decide ((i_176 : Int) < (l_1.length : Int))))), (11, .rp [.i .i64 p_178.At, .i .i64 p_178.Long, .s p_178.Data]), (12, .agg [.p (.i .i64 p_178.At), .p (.i .i64 p_178.Long), .p (.s p_178.Data)]), (13, .buf 0), (14, .p (.i .i64 (o0_141.length : Int))), (15, .p (.i .i64 (IntKind.i64.wrap ((o0_141.length : Int) - 1)))), (20, .p (.b (((decide (0 ≤ (IntKind.i64.wrap ((o0_141.length : Int) - 1)))) && (!decide (p_178.Data = []))) && (!decide (((o0_141.getD ((IntKind.i64.wrap ((o0_141.length : Int) - 1)).toNat) (api_Piece.mk 0 0 [])).Data) = []))))), (21, .p (.i .i64 (IntKind.i64.wrap ((o0_141.length : Int) - 1)))), (22, .p (.b (decide (0 ≤ (IntKind.i64.wrap ((o0_141.length : Int) - 1)))))), (23, .p (.b (decide (0 ≤ (IntKind.i64.wrap ((o0_141.length : Int) - 1)))))), (27, .p (.b ((decide (0 ≤ (IntKind.i64.wrap ((o0_141.length : Int) - 1)))) && (!decide (p_178.Data = []))))), (28, .p (.b ((decide (0 ≤ (IntKind.i64.wrap ((o0_141.length : Int) - 1)))) && (!decide (p_178.Data = []))))), (35, .p (.b (((decide (0 ≤ (IntKind.i64.wrap ((o0_141.length : Int) - 1)))) && (!decide (p_178.Data = []))) && (!decide (((o0_141.getD ((IntKind.i64.wrap ((o0_141.length : Int) - 1)).toNat) (api_Piece.mk 0 0 [])).Data) = [])))))] [.buf 53 3 (List.map enc_api_Piece o0_141), .cells 53 [.p (.i .i64 p_178.At), .p (.i .i64 p_178.Long), .p (.s p_178.Data)]] by
  rcases Bool.eq_false_or_eq_true ((decide (0 ≤ (IntKind.i64.wrap ((o0_141.length : Int) - 1)))) && (!decide (p_178.Data = []))) with hg_180 | hg_180
  ·
   have c_181 := c_179 hg_180
   have hr_182 := fun h => getD_encB (l := o0_141) (e := enc_api_Piece) (d := (api_Piece.mk 0 0 [])) (i := (IntKind.i64.wrap ((o0_141.length : Int) - 1)).toNat) h []
   simp only [go_sem, simprocAttr, false_implies, and_true, true_and, bad, hw7, hxp_178, hg_180, hr_182 (by omega)]
   first | refine hW11 _ _ _ _ ?_ hcont11 | refine ⟨by first | exact sd | ((repeat' apply And.intro) <;> first | assumption | omega | (simp only [List.length_append, List.length_map, List.length_cons, List.length_nil, List.length_set, List.length_replicate] at c_179 c_181 ⊢; omega)), hW11 _ _ _ _ ?_ hcont11⟩
   simp only [go_sem, simprocAttr, false_implies, and_true, true_and, bad, hw7, hxp_178, hg_180, hr_182 (by omega)]
   try exact se1
  ·
   rcases Nat.lt_or_ge ((IntKind.i64.wrap ((o0_141.length : Int) - 1)).toNat) o0_141.length with hi_183 | hi_183
   ·
    have hr_184 := getD_encB (l := o0_141) (e := enc_api_Piece) (d := (api_Piece.mk 0 0 [])) (i := (IntKind.i64.wrap ((o0_141.length : Int) - 1)).toNat) hi_183 []
    simp only [go_sem, simprocAttr, false_implies, and_true, true_and, bad, hw7, hxp_178, hg_180, hr_184]
    first | refine hW11 _ _ _ _ ?_ hcont11 | refine ⟨by first | exact sd | ((repeat' apply And.intro) <;> first | assumption | omega | (simp only [List.length_append, List.length_map, List.length_cons, List.length_nil, List.length_set, List.length_replicate] at c_179 ⊢; omega)), hW11 _ _ _ _ ?_ hcont11⟩
    simp only [go_sem, simprocAttr, false_implies, and_true, true_and, bad, hw7, hxp_178, hg_180, hr_184]
    try exact se1
   ·
    have hr_184 : (List.map enc_api_Piece o0_141).getD ((IntKind.i64.wrap ((o0_141.length : Int) - 1)).toNat) [] = [] := by rw [List.getD_eq_getElem?_getD, List.getElem?_eq_none (by simpa using hi_183)]; rfl
    simp only [go_sem, simprocAttr, false_implies, and_true, true_and, bad, hw7, hxp_178, hg_180, hr_184]
    first | refine hW11 _ _ _ _ ?_ hcont11 | refine ⟨by first | exact sd | ((repeat' apply And.intro) <;> first | assumption | omega | (simp only [List.length_append, List.length_map, List.length_cons, List.length_nil, List.length_set, List.length_replicate] at c_179 ⊢; omega)), hW11 _ _ _ _ ?_ hcont11⟩
    simp only [go_sem, simprocAttr, false_implies, and_true, true_and, bad, hw7, hxp_178, hg_180, hr_184]
    try exact se1
 refine hK11 _ _ ?_
 refine cM hm (fun hc12 hm => ?_) (fun hc12 hm => ?_)
 ·obtain ⟨c_185, hm⟩ := chk_elim hm
  obtain ⟨c_186, hm⟩ := chk_elim hm
  obtain ⟨c_187, hm⟩ := chk_elim hm
  have hr_188 := fun h => getD_encB (l := o0_141) (e := enc_api_Piece) (d := (api_Piece.mk 0 0 [])) (i := (IntKind.i64.wrap ((o0_141.length : Int) - 1)).toNat) h []
  refine Wp.regD (plan := [(0, none), (1, none), (2, none), (3, none), (4, none), (5, none), (6, none), (7, none), (8, none), (9, none), (10, some [])]) (by kernel_rfl) rfl (by kernel_rfl) fun K13 hK13 => ?_
  simp only [go_sem, simprocAttr, hw7, hxp_178, hr_188 (by omega)]
  first | apply hK13 | refine ⟨by first | exact sd | ((repeat' apply And.intro) <;> first | assumption | omega | (simp only [List.length_append, List.length_map, List.length_cons, List.length_nil, List.length_set, List.length_replicate] at c_185 c_186 c_187 ⊢; omega)), hK13 _ _ ?_⟩
  refine hK8 _ _ ?_
  refine Wp.region fun K14 hK14 => ?_
  simp only [go_sem, simprocAttr, hw7, hxp_178]
  first | apply hK14 | refine ⟨sd, hK14 _ _ ?_⟩
  simp only [thenQ, blockQ, ↓reduceIte]
  refine ⟨List.set o0_141 ((IntKind.i64.wrap ((o0_141.length : Int) - 1)).toNat) (api_Piece.mk ((o0_141.getD ((IntKind.i64.wrap ((o0_141.length : Int) - 1)).toNat) (api_Piece.mk 0 0 [])).At) ((o0_141.getD ((IntKind.i64.wrap ((o0_141.length : Int) - 1)).toNat) (api_Piece.mk 0 0 [])).Long) (((o0_141.getD ((IntKind.i64.wrap ((o0_141.length : Int) - 1)).toNat) (api_Piece.mk 0 0 [])).Data) ++ p_178.Data)), hlt7, hnx_175 _ hm, ?_⟩
  simp only [go_sem, simprocAttr, hw7, hxp_178]
  try exact se1
 ·obtain ⟨c_189, hm⟩ := chk_elim hm
  obtain ⟨c_190, hm⟩ := chk_elim hm
  obtain ⟨c_191, hm⟩ := chk_elim hm
  refine Wp.seqDW (plan := [(0, none), (1, none), (2, none), (3, none), (4, none), (5, none), (6, none), (7, none), (8, none), (9, none), (10, none), (11, none), (12, none), (13, none), (14, none), (15, none), (16, none), (17, none), (18, none), (19, none), (20, none), (21, none), (22, none), (23, none), (24, none), (25, none), (26, none), (27, none), (28, none), (29, none), (30, none), (31, none)]) (by kernel_rfl) rfl (by kernel_rfl) fun K15 hK15 hW15 => ?_
  suffices hcont15 : K15 [(3, .buf 0), (5, .ptr 1 0), (6, .p (.i .i64 (IntKind.i64.wrap ((o0_141.length : Int) - 1)))), (7, .p (.l (List.map enc_api_Piece l_1))), (8, .p (.i .i64 (l_1.length : Int))), (9, .p (.i .i64 (i_176 : Int))), (10, .p (.b (decide ((i_176 : Int) < (l_1.length : Int))))), (11, .rp [.i .i64 p_178.At, .i .i64 p_178.Long, .s p_178.Data]), (12, .agg [.p (.i .i64 p_178.At), .p (.i .i64 p_178.Long), .p (.s p_178.Data)]), (13, .buf 0), (14, .p (.i .i64 (o0_141.length : Int))), (15, .p (.i .i64 (IntKind.i64.wrap ((o0_141.length : Int) - 1)))), (20, .p (.b (((decide (0 ≤ (IntKind.i64.wrap ((o0_141.length : Int) - 1)))) && (!decide (p_178.Data = []))) && (!decide (((o0_141.getD ((IntKind.i64.wrap ((o0_141.length : Int) - 1)).toNat) (api_Piece.mk 0 0 [])).Data) = []))))), (21, .p (.i .i64 (IntKind.i64.wrap ((o0_141.length : Int) - 1)))), (22, .p (.b (decide (0 ≤ (IntKind.i64.wrap ((o0_141.length : Int) - 1)))))), (23, .p (.b (decide (0 ≤ (IntKind.i64.wrap ((o0_141.length : Int) - 1)))))), (27, .p (.b ((decide (0 ≤ (IntKind.i64.wrap ((o0_141.length : Int) - 1)))) && (!decide (p_178.Data = []))))), (28, .p (.b ((decide (0 ≤ (IntKind.i64.wrap ((o0_141.length : Int) - 1)))) && (!decide (p_178.Data = []))))), (35, .p (.b (((decide (0 ≤ (IntKind.i64.wrap ((o0_141.length : Int) - 1)))) && (!decide (p_178.Data = []))) && (!decide (((o0_141.getD ((IntKind.i64.wrap ((o0_141.length : Int) - 1)).toNat) (api_Piece.mk 0 0 [])).Data) = []))))), (46, .p (.b ((((decide (0 ≤ (IntKind.i64.wrap ((o0_141.length : Int) - 1)))) && (decide (p_178.Data = []))) && (decide (((o0_141.getD ((IntKind.i64.wrap ((o0_141.length : Int) - 1)).toNat) (api_Piece.mk 0 0 [])).Data) = []))) && (decide ((IntKind.i64.wrap (((o0_141.getD ((IntKind.i64.wrap ((o0_141.length : Int) - 1)).toNat) (api_Piece.mk 0 0 [])).At) + ((o0_141.getD ((IntKind.i64.wrap ((o0_141.length : Int) - 1)).toNat) (api_Piece.mk 0 0 [])).Long))) = p_178.At))))), (47, .p (.i .i64 (IntKind.i64.wrap ((o0_141.length : Int) - 1)))), (48, .p (.b (decide (0 ≤ (IntKind.i64.wrap ((o0_141.length : Int) - 1)))))), (49, .p (.b (decide (0 ≤ (IntKind.i64.wrap ((o0_141.length : Int) - 1)))))), (53, .p (.b ((decide (0 ≤ (IntKind.i64.wrap ((o0_141.length : Int) - 1)))) && (decide (p_178.Data = []))))), (54, .p (.b ((decide (0 ≤ (IntKind.i64.wrap ((o0_141.length : Int) - 1)))) && (decide (p_178.Data = []))))), (61, .p (.b (((decide (0 ≤ (IntKind.i64.wrap ((o0_141.length : Int) - 1)))) && (decide (p_178.Data = []))) && (decide (((o0_141.getD ((IntKind.i64.wrap ((o0_141.length : Int) - 1)).toNat) (api_Piece.mk 0 0 [])).Data) = []))))), (62, .p (.b (((decide (0 ≤ (IntKind.i64.wrap ((o0_141.length : Int) - 1)))) && (decide (p_178.Data = []))) && (decide (((o0_141.getD ((IntKind.i64.wrap ((o0_141.length : Int) - 1)).toNat) (api_Piece.mk 0 0 [])).Data) = []))))), (77, .p (.b ((((decide (0 ≤ (IntKind.i64.wrap ((o0_141.length : Int) - 1)))) && (decide (p_178.Data = []))) && (decide (((o0_141.getD ((IntKind.i64.wrap ((o0_141.length : Int) - 1)).toNat) (api_Piece.mk 0 0 [])).Data) = []))) && (decide ((IntKind.i64.wrap (((o0_141.getD ((IntKind.i64.wrap ((o0_141.length : Int) - 1)).toNat) (api_Piece.mk 0 0 [])).At) + ((o0_141.getD ((IntKind.i64.wrap ((o0_141.length : Int) - 1)).toNat) (api_Piece.mk 0 0 [])).Long))) = p_178.At)))))] [.buf 53 3 (List.map enc_api_Piece o0_141), .cells 53 [.p (.i .i64 p_178.At), .p (.i .i64 p_178.Long), .p (.s p_178.Data)]] by
   rcases Bool.eq_false_or_eq_true ((decide (0 ≤ (IntKind.i64.wrap ((o0_141.length : Int) - 1)))) && (decide (p_178.Data = []))) with hg_192 | hg_192
   ·
    rcases Bool.eq_false_or_eq_true (((decide (0 ≤ (IntKind.i64.wrap ((o0_141.length : Int) - 1)))) && (decide (p_178.Data = []))) && (decide (((o0_141.getD ((IntKind.i64.wrap ((o0_141.length : Int) - 1)).toNat) (api_Piece.mk 0 0 [])).Data) = []))) with hg_193 | hg_193
    ·
     have c_194 := c_189 hg_192
     have c_195 := c_190 hg_193
     have c_196 := c_191 hg_193
     have hr_197 := fun h => getD_encB (l := o0_141) (e := enc_api_Piece) (d := (api_Piece.mk 0 0 [])) (i := (IntKind.i64.wrap ((o0_141.length : Int) - 1)).toNat) h []
     simp only [go_sem, simprocAttr, false_implies, and_true, true_and, bad, hw7, hxp_178, hg_192, hg_193, hr_197 (by omega)]
     first | refine hW15 _ _ _ _ ?_ hcont15 | refine ⟨by first | exact sd | ((repeat' apply And.intro) <;> first | assumption | omega | (simp only [List.length_append, List.length_map, List.length_cons, List.length_nil, List.length_set, List.length_replicate] at c_189 c_190 c_191 c_194 c_195 c_196 ⊢; omega)), hW15 _ _ _ _ ?_ hcont15⟩
     simp only [go_sem, simprocAttr, false_implies, and_true, true_and, bad, hw7, hxp_178, hg_192, hg_193, hr_197 (by omega)]
     try exact se1
    ·
     have c_198 := c_189 hg_192
     have hr_199 := fun h => getD_encB (l := o0_141) (e := enc_api_Piece) (d := (api_Piece.mk 0 0 [])) (i := (IntKind.i64.wrap ((o0_141.length : Int) - 1)).toNat) h []
     simp only [go_sem, simprocAttr, false_implies, and_true, true_and, bad, hw7, hxp_178, hg_192, hg_193, hr_199 (by omega)]
     first | refine hW15 _ _ _ _ ?_ hcont15 | refine ⟨by first | exact sd | ((repeat' apply And.intro) <;> first | assumption | omega | (simp only [List.length_append, List.length_map, List.length_cons, List.length_nil, List.length_set, List.length_replicate] at c_189 c_190 c_191 c_198 ⊢; omega)), hW15 _ _ _ _ ?_ hcont15⟩
     simp only [go_sem, simprocAttr, false_implies, and_true, true_and, bad, hw7, hxp_178, hg_192, hg_193, hr_199 (by omega)]
     try exact se1
   ·
    rcases Bool.eq_false_or_eq_true (((decide (0 ≤ (IntKind.i64.wrap ((o0_141.length : Int) - 1)))) && (decide (p_178.Data = []))) && (decide (((o0_141.getD ((IntKind.i64.wrap ((o0_141.length : Int) - 1)).toNat) (api_Piece.mk 0 0 [])).Data) = []))) with hg_200 | hg_200
    ·
     have c_201 := c_190 hg_200
     have c_202 := c_191 hg_200
     have hr_203 := fun h => getD_encB (l := o0_141) (e := enc_api_Piece) (d := (api_Piece.mk 0 0 [])) (i := (IntKind.i64.wrap ((o0_141.length : Int) - 1)).toNat) h []
     exfalso; rw [hg_192] at hg_200; cases hg_200
    ·
     rcases Nat.lt_or_ge ((IntKind.i64.wrap ((o0_141.length : Int) - 1)).toNat) o0_141.length with hi_204 | hi_204
     ·
      have hr_205 := getD_encB (l := o0_141) (e := enc_api_Piece) (d := (api_Piece.mk 0 0 [])) (i := (IntKind.i64.wrap ((o0_141.length : Int) - 1)).toNat) hi_204 []
      simp only [go_sem, simprocAttr, false_implies, and_true, true_and, bad, hw7, hxp_178, hg_192, hg_200, hr_205]
      first | refine hW15 _ _ _ _ ?_ hcont15 | refine ⟨by first | exact sd | ((repeat' apply And.intro) <;> first | assumption | omega | (simp only [List.length_append, List.length_map, List.length_cons, List.length_nil, List.length_set, List.length_replicate] at c_189 c_190 c_191 ⊢; omega)), hW15 _ _ _ _ ?_ hcont15⟩
      simp only [go_sem, simprocAttr, false_implies, and_true, true_and, bad, hw7, hxp_178, hg_192, hg_200, hr_205]
      try exact se1
     ·
      have hr_205 : (List.map enc_api_Piece o0_141).getD ((IntKind.i64.wrap ((o0_141.length : Int) - 1)).toNat) [] = [] := by rw [List.getD_eq_getElem?_getD, List.getElem?_eq_none (by simpa using hi_204)]; rfl
      simp only [go_sem, simprocAttr, false_implies, and_true, true_and, bad, hw7, hxp_178, hg_192, hg_200, hr_205]
      first | refine hW15 _ _ _ _ ?_ hcont15 | refine ⟨by first | exact sd | ((repeat' apply And.intro) <;> first | assumption | omega | (simp only [List.length_append, List.length_map, List.length_cons, List.length_nil, List.length_set, List.length_replicate] at c_189 c_190 c_191 ⊢; omega)), hW15 _ _ _ _ ?_ hcont15⟩
      simp only [go_sem, simprocAttr, false_implies, and_true, true_and, bad, hw7, hxp_178, hg_192, hg_200, hr_205]
      try exact se1
  refine hK15 _ _ ?_
  refine cM hm (fun hc16 hm => ?_) (fun hc16 hm => ?_)
  ·obtain ⟨c_206, hm⟩ := chk_elim hm
   obtain ⟨c_207, hm⟩ := chk_elim hm
   have hr_208 := fun h => getD_encB (l := o0_141) (e := enc_api_Piece) (d := (api_Piece.mk 0 0 [])) (i := (IntKind.i64.wrap ((o0_141.length : Int) - 1)).toNat) h []
   refine Wp.regD (plan := [(0, none), (1, none), (2, none), (3, none), (4, none), (5, none), (6, none), (7, none), (8, none), (9, none), (10, some [])]) (by kernel_rfl) rfl (by kernel_rfl) fun K17 hK17 => ?_
   simp only [go_sem, simprocAttr, hw7, hxp_178, hr_208 (by omega)]
   first | apply hK17 | refine ⟨by first | exact sd | ((repeat' apply And.intro) <;> first | assumption | omega | (simp only [List.length_append, List.length_map, List.length_cons, List.length_nil, List.length_set, List.length_replicate] at c_206 c_207 ⊢; omega)), hK17 _ _ ?_⟩
   refine hK8 _ _ ?_
   refine Wp.region fun K18 hK18 => ?_
   simp only [go_sem, simprocAttr, hw7, hxp_178]
   first | apply hK18 | refine ⟨sd, hK18 _ _ ?_⟩
   simp only [thenQ, blockQ, ↓reduceIte]
   refine ⟨List.set o0_141 ((IntKind.i64.wrap ((o0_141.length : Int) - 1)).toNat) (api_Piece.mk ((o0_141.getD ((IntKind.i64.wrap ((o0_141.length : Int) - 1)).toNat) (api_Piece.mk 0 0 [])).At) (IntKind.i64.wrap (((o0_141.getD ((IntKind.i64.wrap ((o0_141.length : Int) - 1)).toNat) (api_Piece.mk 0 0 [])).Long) + p_178.Long)) ((o0_141.getD ((IntKind.i64.wrap ((o0_141.length : Int) - 1)).toNat) (api_Piece.mk 0 0 [])).Data)), hlt7, hnx_175 _ hm, ?_⟩
   simp only [go_sem, simprocAttr, hw7, hxp_178]
   try exact se1
  ·obtain ⟨c_209, hm⟩ := chk_elim hm
   refine Wp.region fun K19 hK19 => ?_
   simp only [go_sem, simprocAttr, hw7, hxp_178]
   first | apply hK19 | refine ⟨by first | exact sd | ((repeat' apply And.intro) <;> first | assumption | omega | (simp only [List.length_append, List.length_map, List.length_cons, List.length_nil, List.length_set, List.length_replicate] at c_209 ⊢; omega)), hK19 _ _ ?_⟩
   refine hK8 _ _ ?_
   refine Wp.region fun K20 hK20 => ?_
   simp only [go_sem, simprocAttr, hw7, hxp_178]
   first | apply hK20 | refine ⟨sd, hK20 _ _ ?_⟩
   simp only [thenQ, blockQ, ↓reduceIte]
   refine ⟨o0_141 ++ [p_178], hlt7, hnx_175 _ hm, ?_⟩
   simp only [go_sem, simprocAttr, hw7, hxp_178]
   try exact se1
theorem ok_R_groups (n_1 : Int) (z : Str) (hm : R_groups n_1 = some z) : Does Tryd.prog 73 [.p (.i .i64 n_1)] [] (fun r X => r = .p (.s z) ∧ X = []) := by
 unfold R_groups at hm
 refine Does.of_wp 0 22 [.tmp 2] Tryd.func73 rfl (by decide) rfl rfl (Nat.le_of_ble_eq_true rfl) fun B => ?_
 refine qS ?_
 refine qS ?_
 refine Wp.seqW fun K3 hK3 hW3 => ?_
 obtain ⟨k_10, hk_10, hm⟩ := jp_elim hm
 have hcut3 : ∀ s, k_10 s = some z → K3 [(0, .p (.i .i64 s.1)), (3, .p (.s s.2))] [] := by
  intro s hs
  have hm := hk_10 _ hs
  clear hs
  obtain ⟨n_8, out_9⟩ := s
  try dsimp only at hm
  try dsimp only
  refine hK3 _ _ ?_
  obtain ⟨c_11, hm⟩ := chk_elim hm
  refine Wp.seqR fun K4 hK4 => ?_
  simp only [go_sem, simprocAttr]
  first | apply hK4 | refine ⟨by first | exact sd | ((repeat' apply And.intro) <;> first | assumption | omega | (simp only [List.length_append, List.length_map, List.length_cons, List.length_nil, List.length_set, List.length_replicate] at c_11 ⊢; omega)), hK4 _ _ ?_⟩
  refine Wp.ret ?_
  refine retQ_ret ?_
  cases hm
  exact fse1
 clear hK3 hk_10
 refine Wp.block ?_
 obtain ⟨k_15, hk_15, hm⟩ := loopN_cont hm
 refine Wp.loopN (fun s => [(0, .p (.i .i64 s.1)), (3, .p (.s s.2))]) (fun s => []) ?_ hm ?_
 ·
  exact fse1
 clear hm
 intro s nx_16 hm
 obtain ⟨n_12, out_13⟩ := s
 try dsimp only at hm
 try dsimp only
 refine Wp.seqW fun K5 hK5 hW5 => ?_
 refine qS ?_
 refine cM hm (fun hc7 hm => ?_) (fun hc7 hm => ?_)
 ·refine Wp.skip ?_
  refine hK5 _ _ ?_
  refine Wp.block ?_
  obtain ⟨c_17, hm⟩ := chk_elim hm
  refine Wp.seqR fun K8 hK8 => ?_
  simp only [go_sem, simprocAttr]
  first | apply hK8 | refine ⟨by first | exact sd | ((repeat' apply And.intro) <;> first | assumption | omega | (simp only [List.length_append, List.length_map, List.length_cons, List.length_nil, List.length_set, List.length_replicate] at c_17 ⊢; omega)), hK8 _ _ ?_⟩
  refine qR ?_
  simp only [thenQ, blockQ, ↓reduceIte]
  refine ⟨(Int.fdiv n_12 (2 ^ (shI .i64 7)), out_13 ++ (Go.Vc.strOf [bitsI .or .u8 (IntKind.u8.wrap (bitsI .and .i64 n_12 127)) 128])), hm, ?_⟩
  exact fse1
 ·refine Wp.exit ?_
  simp only [thenQ, blockQ, ↓reduceIte]
  have hm := hk_15 _ hm
  try dsimp only at hm
  refine hW3 _ _ _ _ ?_ (hcut3 (n_12, out_13) hm)
  exact fse1
theorem ok_R_rawSum (s_1 : Str) (z : Str) (hm : R_rawSum s_1 = some z) : Does Tryd.prog 74 [.p (.s s_1)] [] (fun r X => r = .p (.s z) ∧ X = []) := by
 unfold R_rawSum at hm
 refine Does.of_wp 0 30 [.tmp 2] Tryd.func74 rfl (by decide) rfl rfl (Nat.le_of_ble_eq_true rfl) fun B => ?_
 refine qS ?_
 obtain ⟨r_2, hr_2, hm⟩ := call_elim hm
 refine Wp.seqR fun K2 hK2 => ?_
 simp only [go_sem, simprocAttr]
 try refine ⟨sd, ?_⟩
 refine Rg.callF (av := ?av3) (ok_strconv_ParseUint s_1 16 64 _ hr_2) si si sg ?cont3
 intro hv3
 simp only [go_sem, simprocAttr]
 first | apply hK2 | refine ⟨sd, hK2 _ _ ?_⟩
 refine qS ?_
 refine Wp.seqW fun K5 hK5 hW5 => ?_
 obtain ⟨k_15, hk_15, hm⟩ := jp_elim hm
 have hcut5 : ∀ s, k_15 s = some z → K5 [(5, .buf 0)] [.buf 5 1 (List.map ecI_u8 s)] := by
  intro o0_14 hs
  have hm := hk_15 _ hs
  clear hs
  try dsimp only at hm
  try dsimp only
  refine hK5 _ _ ?_
  refine qS ?_
  refine Wp.ret ?_
  refine retQ_ret ?_
  cases hm
  exact fse1
 clear hK5 hk_15
 refine qS ?_
 refine Wp.block ?_
 obtain ⟨k_23, hk_23, hm⟩ := loopN_cont hm
 refine Wp.loopN (fun s => [(3, .p (.i .u64 r_2)), (5, .buf 0), (14, .p (.i .i64 ((List.replicate 8 0).length : Int))), (15, .p (.i .i64 s.1))]) (fun s => [.buf 5 1 (List.map ecI_u8 s.2)]) ?_ hm ?_
 ·
  exact fse1
 clear hm
 intro s nx_24 hm
 obtain ⟨t15_19, o0_20⟩ := s
 try dsimp only at hm
 try dsimp only
 refine qS ?_
 refine Wp.seqW fun K9 hK9 hW9 => ?_
 refine cM hm (fun hc10 hm => ?_) (fun hc10 hm => ?_)
 ·refine Wp.skip ?_
  refine hK9 _ _ ?_
  refine Wp.seqW fun K11 hK11 hW11 => ?_
  refine Wp.block ?_
  refine qS ?_
  obtain ⟨c_25, hm⟩ := chk_elim hm
  obtain ⟨c_26, hm⟩ := chk_elim hm
  refine Wp.region fun K13 hK13 => ?_
  simp only [go_sem, simprocAttr]
  first | apply hK13 | refine ⟨by first | exact sd | ((repeat' apply And.intro) <;> first | assumption | omega | (simp only [List.length_append, List.length_map, List.length_cons, List.length_nil, List.length_set, List.length_replicate] at c_25 c_26 ⊢; omega)), hK13 _ _ ?_⟩
  refine hK11 _ _ ?_
  refine qR ?_
  simp only [thenQ, blockQ, ↓reduceIte]
  refine ⟨(IntKind.i64.wrap (t15_19 + 1), List.set o0_20 t15_19.toNat (IntKind.u8.wrap (Int.fdiv r_2 (2 ^ (shI .u64 (IntKind.i64.wrap (56 - (IntKind.i64.wrap (8 * t15_19))))))))), hm, ?_⟩
  exact fse1
 ·refine Wp.exit ?_
  simp only [thenQ, blockQ, ↓reduceIte]
  have hm := hk_23 _ hm
  try dsimp only at hm
  refine hW5 _ _ _ _ ?_ (hcut5 o0_20 hm)
  exact fse1
theorem ok_R_PrintDelta (d_1 : api_Delta) (z : Str) (hm : R_PrintDelta d_1 = some z) : Does Tryd.prog 22 [.agg [.p (.i .i64 d_1.Old), .p (.i .i64 d_1.New), .p (.s d_1.OldSum), .p (.s d_1.NewSum), .p (.l (List.map enc_api_Piece d_1.Pieces))]] [] (fun r X => r = .p (.s z) ∧ X = []) := by
 unfold R_PrintDelta at hm
 refine Does.of_wp 0 64 [.tmp 2] Tryd.func22 rfl (by decide) rfl rfl (Nat.le_of_ble_eq_true rfl) fun B => ?_
 refine qS ?_
 obtain ⟨r_2, hr_2, hm⟩ := call_elim hm
 obtain ⟨c_3, hm⟩ := chk_elim hm
 obtain ⟨r_4, hr_4, hm⟩ := call_elim hm
 obtain ⟨c_5, hm⟩ := chk_elim hm
 obtain ⟨r_6, hr_6, hm⟩ := call_elim hm
 obtain ⟨c_7, hm⟩ := chk_elim hm
 obtain ⟨r_8, hr_8, hm⟩ := call_elim hm
 obtain ⟨c_9, hm⟩ := chk_elim hm
 obtain ⟨r_10, hr_10, hm⟩ := call_elim hm
 obtain ⟨c_11, hm⟩ := chk_elim hm
 refine Wp.seqD (plan := [(0, none), (1, none), (2, none), (3, none), (4, none), (5, none), (6, none), (7, none), (8, none), (9, none), (10, none), (11, none), (12, none), (13, none), (14, none), (15, none), (16, none), (17, none), (18, none), (19, none), (20, none), (21, none)]) (by kernel_rfl) rfl (by kernel_rfl) fun K2 hK2 => ?_
 simp only [go_sem, simprocAttr]
 try refine ⟨by first | exact sd | ((repeat' apply And.intro) <;> first | assumption | omega | (simp only [List.length_append, List.length_map, List.length_cons, List.length_nil, List.length_set, List.length_replicate] at c_3 c_5 c_7 c_9 c_11 ⊢; omega)), ?_⟩
 refine Dr.callF (av := ?av3) (g := true) (o := ?o3) (fun hg => ok_R_groups d_1.Old _ hr_2) si si si si sg si ?cont3
 simp only [go_sem, simprocAttr]
 try refine ⟨by first | exact sd | ((repeat' apply And.intro) <;> first | assumption | omega | (simp only [List.length_append, List.length_map, List.length_cons, List.length_nil, List.length_set, List.length_replicate] at c_3 c_5 c_7 c_9 c_11 ⊢; omega)), ?_⟩
 refine Dr.callF (av := ?av4) (g := true) (o := ?o4) (fun hg => ok_R_groups d_1.New _ hr_4) si si si si sg si ?cont4
 simp only [go_sem, simprocAttr]
 try refine ⟨by first | exact sd | ((repeat' apply And.intro) <;> first | assumption | omega | (simp only [List.length_append, List.length_map, List.length_cons, List.length_nil, List.length_set, List.length_replicate] at c_3 c_5 c_7 c_9 c_11 ⊢; omega)), ?_⟩
 refine Dr.callF (av := ?av5) (g := true) (o := ?o5) (fun hg => ok_R_rawSum d_1.OldSum _ hr_6) si si si si sg si ?cont5
 simp only [go_sem, simprocAttr]
 try refine ⟨by first | exact sd | ((repeat' apply And.intro) <;> first | assumption | omega | (simp only [List.length_append, List.length_map, List.length_cons, List.length_nil, List.length_set, List.length_replicate] at c_3 c_5 c_7 c_9 c_11 ⊢; omega)), ?_⟩
 refine Dr.callF (av := ?av6) (g := true) (o := ?o6) (fun hg => ok_R_rawSum d_1.NewSum _ hr_8) si si si si sg si ?cont6
 simp only [go_sem, simprocAttr]
 try refine ⟨by first | exact sd | ((repeat' apply And.intro) <;> first | assumption | omega | (simp only [List.length_append, List.length_map, List.length_cons, List.length_nil, List.length_set, List.length_replicate] at c_3 c_5 c_7 c_9 c_11 ⊢; omega)), ?_⟩
 refine Dr.callF (av := ?av7) (g := true) (o := ?o7) (fun hg => ok_R_groups (d_1.Pieces.length : Int) _ hr_10) si si si si sg si ?cont7
 simp only [go_sem, simprocAttr]
 first | apply hK2 | refine ⟨by first | exact sd | ((repeat' apply And.intro) <;> first | assumption | omega | (simp only [List.length_append, List.length_map, List.length_cons, List.length_nil, List.length_set, List.length_replicate] at c_3 c_5 c_7 c_9 c_11 ⊢; omega)), hK2 _ _ ?_⟩
 refine qS ?_
 refine Wp.adoptB 1 5 rfl ?_
 simp only [go_sem, simprocAttr]
 obtain ⟨r_12, hr_12, hm⟩ := call_elim hm
 refine Wp.seqR fun K9 hK9 => ?_
 simp only [go_sem, simprocAttr]
 try refine ⟨sd, ?_⟩
 refine Rg.callO (av := ?av10) [1, 2] (ok_strings_Builder_WriteString_i1 (((((([79, 70, 68, 49] : Str) ++ r_2) ++ r_4) ++ r_6) ++ r_8) ++ r_10) [] _ hr_12) si si si sg sg ?cont10
 rintro _ _ ⟨rfl, rfl⟩ hv10
 simp only [go_sem, simprocAttr]
 first | apply hK9 | refine ⟨sd, hK9 _ _ ?_⟩
 refine Wp.seqW fun K11 hK11 hW11 => ?_
 obtain ⟨k_60, hk_60, hm⟩ := jp_elim hm
 have hcut11 : ∀ s, k_60 s = some z → K11 [(4, .ptr 1 0)] [.cells 41 [.top, .top, .top, .top, .top], .cells 86 [.np 1, .buf 2], .sb 5 s] := by
  intro o2_59 hs
  have hm := hk_60 _ hs
  clear hs
  try dsimp only at hm
  try dsimp only
  refine hK11 _ _ ?_
  obtain ⟨r_61, hr_61, hm⟩ := call_elim hm
  obtain ⟨r_62, hr_62, hm⟩ := call_elim hm
  obtain ⟨r_63, hr_63, hm⟩ := call_elim hm
  obtain ⟨r_64, hr_64, hm⟩ := call_elim hm
  obtain ⟨c_65, hm⟩ := chk_elim hm
  refine Wp.seqR fun K12 hK12 => ?_
  simp only [go_sem, simprocAttr]
  try refine ⟨by first | exact sd | ((repeat' apply And.intro) <;> first | assumption | omega | (simp only [List.length_append, List.length_map, List.length_cons, List.length_nil, List.length_set, List.length_replicate] at c_65 ⊢; omega)), ?_⟩
  refine Rg.callO (av := ?av13) [1, 2] (ok_strings_Builder_String_i1 o2_59 _ hr_61) si si si sg sg ?cont13
  rintro _ _ ⟨rfl, rfl⟩ hv13
  simp only [go_sem, simprocAttr]
  try refine ⟨by first | exact sd | ((repeat' apply And.intro) <;> first | assumption | omega | (simp only [List.length_append, List.length_map, List.length_cons, List.length_nil, List.length_set, List.length_replicate] at c_65 ⊢; omega)), ?_⟩
  refine Rg.callO (av := ?av14) [1, 2] (ok_strings_Builder_String_i1 o2_59 _ hr_62) si si si sg sg ?cont14
  rintro _ _ ⟨rfl, rfl⟩ hv14
  simp only [go_sem, simprocAttr]
  try refine ⟨by first | exact sd | ((repeat' apply And.intro) <;> first | assumption | omega | (simp only [List.length_append, List.length_map, List.length_cons, List.length_nil, List.length_set, List.length_replicate] at c_65 ⊢; omega)), ?_⟩
  refine Rg.callX (av := ?av15) (g := true) (fun hg => ok_R_SumOf r_62 _ hr_63) si si si sg si ?cont15
  intro hv15
  simp only [go_sem, simprocAttr]
  try refine ⟨by first | exact sd | ((repeat' apply And.intro) <;> first | assumption | omega | (simp only [List.length_append, List.length_map, List.length_cons, List.length_nil, List.length_set, List.length_replicate] at c_65 ⊢; omega)), ?_⟩
  refine Rg.callX (av := ?av16) (g := true) (fun hg => ok_R_rawSum r_63 _ hr_64) si si si sg si ?cont16
  intro hv16
  simp only [go_sem, simprocAttr]
  first | apply hK12 | refine ⟨by first | exact sd | ((repeat' apply And.intro) <;> first | assumption | omega | (simp only [List.length_append, List.length_map, List.length_cons, List.length_nil, List.length_set, List.length_replicate] at c_65 ⊢; omega)), hK12 _ _ ?_⟩
  refine Wp.ret ?_
  refine retQ_ret ?_
  cases hm
  exact fse1
 clear hK11 hk_60
 refine qS ?_
 refine Wp.block ?_
 obtain ⟨k_89, hk_89, hm⟩ := forL_cont hm
 refine Wp.fact 31 fun hl_92 => ?_
 replace hl_92 : d_1.Pieces.length ≤ 274877906944 := by
  simp only [go_sem, simprocAttr, List.length_map] at hl_92
  omega
 refine Wp.forL (fun i_91 s => [(4, .ptr 1 0), (31, .p (.l (List.map enc_api_Piece d_1.Pieces))), (32, .p (.i .i64 (d_1.Pieces.length : Int))), (33, .p (.i .i64 (i_91 : Int)))]) (fun i_91 s => [.cells 41 [.p (.i .i64 d_1.Old), .p (.i .i64 d_1.New), .p (.s d_1.OldSum), .p (.s d_1.NewSum), .p (.l (List.map enc_api_Piece d_1.Pieces))], .cells 86 [.np 1, .buf 2], .sb 5 s]) ?_ hm ?_
 ·
  exact fse1
 clear hm
 intro i_91 o2_78 hii_91 hm
 try dsimp only at hm
 try dsimp only
 refine qS ?_
 refine Wp.seqW fun K19 hK19 hW19 => ?_
 refine Wp.cond rfl ⟨⟩ (fun hc19 => ?_) (fun hc19 => ?_)
 rotate_left
 ·refine Wp.exit ?_
  have hm := hk_89 _ (forL_end hm (ge_nat (by first | exact hc19 | simpa using hc19)))
  try dsimp only at hm
  refine hW11 _ _ _ _ ?_ (hcut11 o2_78 hm)
  exact fse1
 have hlt19 := lt_nat (by first | exact hc19 | simpa using hc19)
 have hw19 := wrap_succ hlt19 hl_92
 obtain ⟨p_93, nx_90, hxp_93, hyp_93, hnx_90, hm⟩ := forL_step hm hlt19
 replace hxp_93 := hxp_93 enc_api_Piece
 refine Wp.skip ?_
 simp only [thenQ]
 refine hK19 _ _ ?_
 refine Wp.seqW fun K20 hK20 hW20 => ?_
 refine Wp.block ?_
 refine Wp.seqR fun K21 hK21 => ?_
 simp only [go_sem, simprocAttr, hw19, hxp_93]
 first | apply hK21 | refine ⟨sd, hK21 _ _ ?_⟩
 refine Wp.seqR fun K22 hK22 => ?_
 simp only [go_sem, simprocAttr, hw19, hxp_93]
 first | apply hK22 | refine ⟨sd, hK22 _ _ ?_⟩
 refine cM hm (fun hc23 hm => ?_) (fun hc23 hm => ?_)
 ·obtain ⟨r_94, hr_94, hm⟩ := call_elim hm
  obtain ⟨c_95, hm⟩ := chk_elim hm
  obtain ⟨c_96, hm⟩ := chk_elim hm
  obtain ⟨r_97, hr_97, hm⟩ := call_elim hm
  refine Wp.regD (plan := [(0, none), (1, none), (2, none), (3, none), (4, none), (5, none), (6, none), (7, none), (8, some [])]) (by kernel_rfl) rfl (by kernel_rfl) fun K24 hK24 => ?_
  simp only [go_sem, simprocAttr, hw19, hxp_93]
  try refine ⟨by first | exact sd | ((repeat' apply And.intro) <;> first | assumption | omega | (simp only [List.length_append, List.length_map, List.length_cons, List.length_nil, List.length_set, List.length_replicate] at c_95 c_96 ⊢; omega)), ?_⟩
  refine Dr.callF (av := ?av25) (g := true) (o := ?o25) (fun hg => ok_R_groups (p_93.Data.length : Int) _ hr_94) (by simp only [go_sem, simprocAttr, hw19, hxp_93]; exact Is.mk) (by simp only [go_sem, simprocAttr, hw19, hxp_93]; exact Is.mk) (by simp only [go_sem, simprocAttr, hw19, hxp_93]; exact Is.mk) (by simp only [go_sem, simprocAttr, hw19, hxp_93]; exact Is.mk) (by simp only [go_sem, simprocAttr, hw19, hxp_93]) (by simp only [go_sem, simprocAttr, hw19, hxp_93]; exact Is.mk) ?cont25
  simp only [go_sem, simprocAttr, hw19, hxp_93]
  try refine ⟨by first | exact sd | ((repeat' apply And.intro) <;> first | assumption | omega | (simp only [List.length_append, List.length_map, List.length_cons, List.length_nil, List.length_set, List.length_replicate] at c_95 c_96 ⊢; omega)), ?_⟩
  refine Dr.callS (av := ?av26) (o := ?o26) 2 [1, 2] (ok_strings_Builder_WriteString_i1 ((([1] : Str) ++ r_94) ++ p_93.Data) o2_78 _ hr_97) (by simp only [go_sem, simprocAttr, hw19, hxp_93]; exact Is.mk) (by simp only [go_sem, simprocAttr, hw19, hxp_93]; exact Is.mk) (by simp only [go_sem, simprocAttr, hw19, hxp_93]; exact Is.mk) (by simp only [go_sem, simprocAttr, hw19, hxp_93]; exact Is.mk) (by simp only [go_sem, simprocAttr, hw19, hxp_93]; first | exact Is.mk | (simp only [List.map_append, List.map_cons, List.map_nil, ecB, ecI_i64, ecI_u8, ecS, enc_api_Delta, enc_api_Piece]; exact Is.mk)) (by simp only [go_sem, simprocAttr, hw19, hxp_93]) (by simp only [go_sem, simprocAttr, hw19, hxp_93]) (by simp only [go_sem, simprocAttr, hw19, hxp_93]) (by simp only [go_sem, simprocAttr, hw19, hxp_93]) ?cont26
  simp only [go_sem, simprocAttr, hw19, hxp_93]
  first | apply hK24 | refine ⟨by first | exact sd | ((repeat' apply And.intro) <;> first | assumption | omega | (simp only [List.length_append, List.length_map, List.length_cons, List.length_nil, List.length_set, List.length_replicate] at c_95 c_96 ⊢; omega)), hK24 _ _ ?_⟩
  refine hK20 _ _ ?_
  refine Wp.region fun K27 hK27 => ?_
  simp only [go_sem, simprocAttr, hw19, hxp_93]
  first | apply hK27 | refine ⟨sd, hK27 _ _ ?_⟩
  simp only [thenQ, blockQ, ↓reduceIte]
  refine ⟨r_97.2, hlt19, hnx_90 _ hm, ?_⟩
  simp only [go_sem, simprocAttr, hw19, hxp_93]
  try exact se1
 ·obtain ⟨r_98, hr_98, hm⟩ := call_elim hm
  obtain ⟨c_99, hm⟩ := chk_elim hm
  obtain ⟨r_100, hr_100, hm⟩ := call_elim hm
  obtain ⟨c_101, hm⟩ := chk_elim hm
  obtain ⟨r_102, hr_102, hm⟩ := call_elim hm
  refine Wp.regD (plan := [(0, none), (1, none), (2, none), (3, none), (4, none), (5, none), (6, none), (7, none), (8, some [])]) (by kernel_rfl) rfl (by kernel_rfl) fun K28 hK28 => ?_
  simp only [go_sem, simprocAttr, hw19, hxp_93]
  try refine ⟨by first | exact sd | ((repeat' apply And.intro) <;> first | assumption | omega | (simp only [List.length_append, List.length_map, List.length_cons, List.length_nil, List.length_set, List.length_replicate] at c_99 c_101 ⊢; omega)), ?_⟩
  refine Dr.callF (av := ?av29) (g := true) (o := ?o29) (fun hg => ok_R_groups p_93.At _ hr_98) (by simp only [go_sem, simprocAttr, hw19, hxp_93]; exact Is.mk) (by simp only [go_sem, simprocAttr, hw19, hxp_93]; exact Is.mk) (by simp only [go_sem, simprocAttr, hw19, hxp_93]; exact Is.mk) (by simp only [go_sem, simprocAttr, hw19, hxp_93]; exact Is.mk) (by simp only [go_sem, simprocAttr, hw19, hxp_93]) (by simp only [go_sem, simprocAttr, hw19, hxp_93]; exact Is.mk) ?cont29
  simp only [go_sem, simprocAttr, hw19, hxp_93]
  try refine ⟨by first | exact sd | ((repeat' apply And.intro) <;> first | assumption | omega | (simp only [List.length_append, List.length_map, List.length_cons, List.length_nil, List.length_set, List.length_replicate] at c_99 c_101 ⊢; omega)), ?_⟩
  refine Dr.callF (av := ?av30) (g := true) (o := ?o30) (fun hg => ok_R_groups p_93.Long _ hr_100) (by simp only [go_sem, simprocAttr, hw19, hxp_93]; exact Is.mk) (by simp only [go_sem, simprocAttr, hw19, hxp_93]; exact Is.mk) (by simp only [go_sem, simprocAttr, hw19, hxp_93]; exact Is.mk) (by simp only [go_sem, simprocAttr, hw19, hxp_93]; exact Is.mk) (by simp only [go_sem, simprocAttr, hw19, hxp_93]) (by simp only [go_sem, simprocAttr, hw19, hxp_93]; exact Is.mk) ?cont30
  simp only [go_sem, simprocAttr, hw19, hxp_93]
  try refine ⟨by first | exact sd | ((repeat' apply And.intro) <;> first | assumption | omega | (simp only [List.length_append, List.length_map, List.length_cons, List.length_nil, List.length_set, List.length_replicate] at c_99 c_101 ⊢; omega)), ?_⟩
  refine Dr.callS (av := ?av31) (o := ?o31) 2 [1, 2] (ok_strings_Builder_WriteString_i1 ((([0] : Str) ++ r_98) ++ r_100) o2_78 _ hr_102) (by simp only [go_sem, simprocAttr, hw19, hxp_93]; exact Is.mk) (by simp only [go_sem, simprocAttr, hw19, hxp_93]; exact Is.mk) (by simp only [go_sem, simprocAttr, hw19, hxp_93]; exact Is.mk) (by simp only [go_sem, simprocAttr, hw19, hxp_93]; exact Is.mk) (by simp only [go_sem, simprocAttr, hw19, hxp_93]; first | exact Is.mk | (simp only [List.map_append, List.map_cons, List.map_nil, ecB, ecI_i64, ecI_u8, ecS, enc_api_Delta, enc_api_Piece]; exact Is.mk)) (by simp only [go_sem, simprocAttr, hw19, hxp_93]) (by simp only [go_sem, simprocAttr, hw19, hxp_93]) (by simp only [go_sem, simprocAttr, hw19, hxp_93]) (by simp only [go_sem, simprocAttr, hw19, hxp_93]) ?cont31
  simp only [go_sem, simprocAttr, hw19, hxp_93]
  first | apply hK28 | refine ⟨by first | exact sd | ((repeat' apply And.intro) <;> first | assumption | omega | (simp only [List.length_append, List.length_map, List.length_cons, List.length_nil, List.length_set, List.length_replicate] at c_99 c_101 ⊢; omega)), hK28 _ _ ?_⟩
  refine hK20 _ _ ?_
  refine Wp.region fun K32 hK32 => ?_
  simp only [go_sem, simprocAttr, hw19, hxp_93]
  first | apply hK32 | refine ⟨sd, hK32 _ _ ?_⟩
  simp only [thenQ, blockQ, ↓reduceIte]
  refine ⟨r_102.2, hlt19, hnx_90 _ hm, ?_⟩
  simp only [go_sem, simprocAttr, hw19, hxp_93]
  try exact se1
theorem ok_Law_RawDeltas (a_1 : Str) (d_2 : api_Delta) (old_3 : Int) (summed_4 : Bool) (z : Bool) (hm : Law_RawDeltas a_1 d_2 old_3 summed_4 = some z) : Does Tryd.prog 7 [.p (.s a_1), .agg [.p (.i .i64 d_2.Old), .p (.i .i64 d_2.New), .p (.s d_2.OldSum), .p (.s d_2.NewSum), .p (.l (List.map enc_api_Piece d_2.Pieces))], .p (.i .i64 old_3), .p (.b summed_4)] [] (fun r X => r = .p (.b z) ∧ X = []) := by
 unfold Law_RawDeltas at hm
 refine Does.of_wp 0 166 [.tmp 8] Tryd.func7 rfl (by decide) rfl rfl (Nat.le_of_ble_eq_true rfl) fun B => ?_
 refine qS ?_
 refine Wp.seqW fun K2 hK2 hW2 => ?_
 obtain ⟨r_5, hr_5, hm⟩ := call_elim hm
 refine Wp.seqR fun K3 hK3 => ?_
 simp only [go_sem, simprocAttr]
 try refine ⟨sd, ?_⟩
 refine Rg.callX (av := ?av4) (g := true) (fun hg => ok_Law_landed  _ hr_5) si si si sg si ?cont4
 intro hv4
 simp only [go_sem, simprocAttr]
 first | apply hK3 | refine ⟨sd, hK3 _ _ ?_⟩
 refine cM hm (fun hc5 hm => ?_) (fun hc5 hm => ?_)
 ·refine qS ?_
  refine Wp.ret ?_
  refine retQ_ret ?_
  cases hm
  exact fse1
 ·refine Wp.skip ?_
  refine hK2 _ _ ?_
  obtain ⟨r_6, hr_6, hm⟩ := call_elim hm
  refine Wp.seqR fun K7 hK7 => ?_
  simp only [go_sem, simprocAttr]
  try refine ⟨sd, ?_⟩
  refine Rg.callX (av := ?av8) (g := true) (fun hg => ok_delta_CheckSteps d_2.Pieces old_3 _ hr_6) si si si sg si ?cont8
  intro hv8
  simp only [go_sem, simprocAttr]
  first | apply hK7 | refine ⟨sd, hK7 _ _ ?_⟩
  obtain ⟨r_7, hr_7, hm⟩ := call_elim hm
  refine Wp.seqR fun K9 hK9 => ?_
  simp only [go_sem, simprocAttr]
  try refine ⟨sd, ?_⟩
  refine Rg.callX (av := ?av10) (g := true) (fun hg => ok_R_PiecesError d_2.Pieces old_3 _ hr_7) si si si sg si ?cont10
  intro hv10
  simp only [go_sem, simprocAttr]
  first | apply hK9 | refine ⟨sd, hK9 _ _ ?_⟩
  refine Wp.seqW fun K11 hK11 hW11 => ?_
  refine qS ?_
  refine cM hm (fun hc13 hm => ?_) (fun hc13 hm => ?_)
  ·refine qS ?_
   refine Wp.ret ?_
   refine retQ_ret ?_
   cases hm
   exact fse1
  ·refine Wp.skip ?_
   refine hK11 _ _ ?_
   refine Wp.seqW fun K15 hK15 hW15 => ?_
   obtain ⟨k_16, hk_16, hm⟩ := jp_elim hm
   have hcut15 : ∀ s, k_16 s = some z → K15 [(0, .p (.s a_1)), (5, .ptr 0 0)] [.cells 41 [.p (.i .i64 s.1), .p (.i .i64 s.2.1), .p (.s s.2.2.1), .p (.s s.2.2.2), .p (.l (List.map enc_api_Piece d_2.Pieces))]] := by
    intro s hs
    have hm := hk_16 _ hs
    clear hs
    obtain ⟨o0_0_12, o0_1_13, o0_2_14, o0_3_15⟩ := s
    try dsimp only at hm
    try dsimp only
    refine hK15 _ _ ?_
    obtain ⟨r_17, hr_17, hm⟩ := call_elim hm
    refine Wp.seqR fun K16 hK16 => ?_
    simp only [go_sem, simprocAttr]
    try refine ⟨sd, ?_⟩
    refine Rg.callX (av := ?av17) (g := true) (fun hg => ok_R_DeltaError (api_Delta.mk o0_0_12 o0_1_13 o0_2_14 o0_3_15 d_2.Pieces) _ hr_17) si si si sg si ?cont17
    intro hv17
    simp only [go_sem, simprocAttr]
    first | apply hK16 | refine ⟨sd, hK16 _ _ ?_⟩
    obtain ⟨r_18, hr_18, hm⟩ := call_elim hm
    refine Wp.seqR fun K18 hK18 => ?_
    simp only [go_sem, simprocAttr]
    try refine ⟨sd, ?_⟩
    refine Rg.callX (av := ?av19) (g := true) (fun hg => ok_delta_Apply a_1 (api_Delta.mk o0_0_12 o0_1_13 o0_2_14 o0_3_15 d_2.Pieces) _ hr_18) si si si sg si ?cont19
    intro hv19
    simp only [go_sem, simprocAttr]
    first | apply hK18 | refine ⟨sd, hK18 _ _ ?_⟩
    obtain ⟨r_19, hr_19, hm⟩ := call_elim hm
    refine Wp.seqR fun K20 hK20 => ?_
    simp only [go_sem, simprocAttr]
    try refine ⟨sd, ?_⟩
    refine Rg.callF (av := ?av21) (ok_delta_Tidy (api_Delta.mk o0_0_12 o0_1_13 o0_2_14 o0_3_15 d_2.Pieces) _ hr_19) si si sg ?cont21
    intro hv21
    simp only [go_sem, simprocAttr]
    first | apply hK20 | refine ⟨sd, hK20 _ _ ?_⟩
    obtain ⟨r_20, hr_20, hm⟩ := call_elim hm
    refine Wp.seqR fun K22 hK22 => ?_
    simp only [go_sem, simprocAttr]
    try refine ⟨sd, ?_⟩
    refine Rg.callX (av := ?av23) (g := true) (fun hg => ok_delta_Fresh (api_Delta.mk o0_0_12 o0_1_13 o0_2_14 o0_3_15 d_2.Pieces) _ hr_20) si si si sg si ?cont23
    intro hv23
    simp only [go_sem, simprocAttr]
    first | apply hK22 | refine ⟨sd, hK22 _ _ ?_⟩
    obtain ⟨r_21, hr_21, hm⟩ := call_elim hm
    refine Wp.seqR fun K24 hK24 => ?_
    simp only [go_sem, simprocAttr]
    try refine ⟨sd, ?_⟩
    refine Rg.callX (av := ?av25) (g := true) (fun hg => ok_delta_Cost (api_Delta.mk o0_0_12 o0_1_13 o0_2_14 o0_3_15 d_2.Pieces) _ hr_21) si si si sg si ?cont25
    intro hv25
    simp only [go_sem, simprocAttr]
    first | apply hK24 | refine ⟨sd, hK24 _ _ ?_⟩
    refine Wp.seqW fun K26 hK26 hW26 => ?_
    obtain ⟨r_22, hr_22, hm⟩ := call_elim hm
    refine Wp.seqR fun K27 hK27 => ?_
    simp only [go_sem, simprocAttr]
    try refine ⟨sd, ?_⟩
    refine Rg.callX (av := ?av28) (g := true) (fun hg => ok_delta_Check (api_Delta.mk o0_0_12 o0_1_13 o0_2_14 o0_3_15 d_2.Pieces) _ hr_22) si si si sg si ?cont28
    intro hv28
    simp only [go_sem, simprocAttr]
    first | apply hK27 | refine ⟨sd, hK27 _ _ ?_⟩
    refine cM hm (fun hc29 hm => ?_) (fun hc29 hm => ?_)
    ·refine qS ?_
     refine Wp.ret ?_
     refine retQ_ret ?_
     cases hm
     exact fse1
    ·refine Wp.skip ?_
     refine hK26 _ _ ?_
     refine Wp.seqW fun K31 hK31 hW31 => ?_
     refine qS ?_
     refine cM hm (fun hc33 hm => ?_) (fun hc33 hm => ?_)
     ·obtain ⟨r_23, hr_23, hm⟩ := callG_elim hm
      refine Wp.seqR fun K34 hK34 => ?_
      simp only [go_sem, simprocAttr]
      try refine ⟨sd, ?_⟩
      refine Rg.callX (av := ?av35) (g := ((decide (r_18.2 = r_17)) && (decide (r_18.1 = [])))) (fun hg => ok_Law_sameDelta r_19.1 (api_Delta.mk 0 0 [] [] []) _ (hr_23 hg)) si si si sg si ?cont35
      intro hv35
      simp only [go_sem, simprocAttr]
      first | apply hK34 | refine ⟨sd, hK34 _ _ ?_⟩
      refine Wp.ret ?_
      refine retQ_ret ?_
      cases hm
      exact fse1
     ·refine Wp.skip ?_
      refine hK31 _ _ ?_
      obtain ⟨r_24, hr_24, hm⟩ := call_elim hm
      refine Wp.seqR fun K36 hK36 => ?_
      simp only [go_sem, simprocAttr]
      try refine ⟨sd, ?_⟩
      refine Rg.callX (av := ?av37) (g := true) (fun hg => ok_R_Patch a_1 (api_Delta.mk o0_0_12 o0_1_13 o0_2_14 o0_3_15 d_2.Pieces) _ hr_24) si si si sg si ?cont37
      intro hv37
      simp only [go_sem, simprocAttr]
      first | apply hK36 | refine ⟨sd, hK36 _ _ ?_⟩
      refine qS ?_
      obtain ⟨r_25, hr_25, hm⟩ := call_elim hm
      refine Wp.seqR fun K39 hK39 => ?_
      simp only [go_sem, simprocAttr]
      try refine ⟨sd, ?_⟩
      refine Rg.callF (av := ?av40) (ok_R_Joined d_2.Pieces _ hr_25) si si sg ?cont40
      intro hv40
      simp only [go_sem, simprocAttr]
      first | apply hK39 | refine ⟨sd, hK39 _ _ ?_⟩
      obtain ⟨r_26, hr_26, hm⟩ := callG_elim hm
      obtain ⟨r_27, hr_27, hm⟩ := callG_elim hm
      refine Wp.seqR fun K41 hK41 => ?_
      simp only [go_sem, simprocAttr]
      try refine ⟨sd, ?_⟩
      refine Rg.callX (av := ?av42) (g := ((decide (r_18.1 = r_24.1)) && (decide (r_18.2 = r_24.2)))) (fun hg => ok_Law_sameDelta r_19.1 (api_Delta.mk o0_0_12 o0_1_13 o0_2_14 o0_3_15 r_25) _ (hr_26 hg)) si si si sg si ?cont42
      intro hv42
      simp only [go_sem, simprocAttr]
      try refine ⟨sd, ?_⟩
      refine Rg.callX (av := ?av43) (g := (((decide (r_18.1 = r_24.1)) && (decide (r_18.2 = r_24.2))) && r_26)) (fun hg => ok_R_PrintDelta (api_Delta.mk o0_0_12 o0_1_13 o0_2_14 o0_3_15 d_2.Pieces) _ (hr_27 hg)) si si si sg si ?cont43
      intro hv43
      simp only [go_sem, simprocAttr]
      first | apply hK41 | refine ⟨sd, hK41 _ _ ?_⟩
      refine Wp.ret ?_
      refine retQ_ret ?_
      cases hm
      exact fse1
   clear hK15 hk_16
   refine qS ?_
   refine cM hm (fun hc45 hm => ?_) (fun hc45 hm => ?_)
   ·obtain ⟨r_28, hr_28, hm⟩ := call_elim hm
    refine Wp.seqR fun K46 hK46 => ?_
    simp only [go_sem, simprocAttr]
    try refine ⟨sd, ?_⟩
    refine Rg.callX (av := ?av47) (g := true) (fun hg => ok_R_SumOf a_1 _ hr_28) si si si sg si ?cont47
    intro hv47
    simp only [go_sem, simprocAttr]
    first | apply hK46 | refine ⟨sd, hK46 _ _ ?_⟩
    obtain ⟨r_29, hr_29, hm⟩ := call_elim hm
    refine Wp.seqR fun K48 hK48 => ?_
    simp only [go_sem, simprocAttr]
    try refine ⟨sd, ?_⟩
    refine Rg.callX (av := ?av49) (g := true) (fun hg => ok_R_PiecesError d_2.Pieces (a_1.length : Int) _ hr_29) si si si sg si ?cont49
    intro hv49
    simp only [go_sem, simprocAttr]
    first | apply hK48 | refine ⟨sd, hK48 _ _ ?_⟩
    refine qS ?_
    refine cM hm (fun hc51 hm => ?_) (fun hc51 hm => ?_)
    ·obtain ⟨r_30, hr_30, hm⟩ := call_elim hm
     refine Wp.seqR fun K52 hK52 => ?_
     simp only [go_sem, simprocAttr]
     try refine ⟨sd, ?_⟩
     refine Rg.callX (av := ?av53) (g := true) (fun hg => ok_R_Made a_1 d_2.Pieces _ hr_30) si si si sg si ?cont53
     intro hv53
     simp only [go_sem, simprocAttr]
     first | apply hK52 | refine ⟨sd, hK52 _ _ ?_⟩
     obtain ⟨r_31, hr_31, hm⟩ := call_elim hm
     refine Wp.region fun K54 hK54 => ?_
     simp only [go_sem, simprocAttr]
     try refine ⟨sd, ?_⟩
     refine Rg.callX (av := ?av55) (g := true) (fun hg => ok_R_SumOf r_30 _ hr_31) si si si sg si ?cont55
     intro hv55
     simp only [go_sem, simprocAttr]
     first | apply hK54 | refine ⟨sd, hK54 _ _ ?_⟩
     refine hW15 _ _ _ _ ?_ (hcut15 ((a_1.length : Int), r_29.1, r_28, r_31) hm)
     exact fse1
    ·refine Wp.skip ?_
     refine hW15 _ _ _ _ ?_ (hcut15 ((a_1.length : Int), d_2.New, r_28, d_2.NewSum) hm)
     exact fse1
   ·refine Wp.skip ?_
    refine hW15 _ _ _ _ ?_ (hcut15 (d_2.Old, d_2.New, d_2.OldSum, d_2.NewSum) hm)
    exact fse1
end Go.Proofs.YthofobeoaimclaaDoor
