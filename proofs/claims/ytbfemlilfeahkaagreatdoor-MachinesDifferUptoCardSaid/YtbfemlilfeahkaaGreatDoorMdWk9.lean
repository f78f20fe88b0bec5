/- That the code does what the models say (part 9). -/
import Derived.Test.YtbfemlilfeahkaaGreatDoorMdWk0
import Derived.Test.YtbfemlilfeahkaaGreatDoorMdWk1
import Derived.Test.YtbfemlilfeahkaaGreatDoorMdWk3
import Derived.Test.YtbfemlilfeahkaaGreatDoorMdWk4
import Derived.Test.YtbfemlilfeahkaaGreatDoorMdWk5
import Derived.Test.YtbfemlilfeahkaaGreatDoorMdWk6
import Derived.Test.YtbfemlilfeahkaaGreatDoorMdWk7
import Derived.Test.YtbfemlilfeahkaaGreatDoorMdWk8
set_option linter.unusedSimpArgs false
set_option linter.unusedVariables false
open Go.Proofs Go.Shelf
namespace Go.Proofs.YtbfemlilfeahkaaGreatDoor
open Go.Vc Go.Md
set_option maxRecDepth 100000
set_option maxHeartbeats 4000000
theorem ok_R_Diff (a_1 : api_Machine) (b_2 : api_Machine) (z : List api_Change) (hm : R_Diff a_1 b_2 = some z) : Does Tryz.prog 60 [.agg [.p (.l (List.map enc_api_Setting a_1.Facts)), .p (.l (List.map enc_api_File a_1.Files)), .p (.l (List.map enc_api_Setting a_1.Settings)), .p (.l (List.map enc_api_Service a_1.Services))], .agg [.p (.l (List.map enc_api_Setting b_2.Facts)), .p (.l (List.map enc_api_File b_2.Files)), .p (.l (List.map enc_api_Setting b_2.Settings)), .p (.l (List.map enc_api_Service b_2.Services))]] [] (fun r X => r = .p (.l (List.map enc_api_Change z)) ∧ X = []) := by
 unfold R_Diff at hm
 refine Does.of_wp 0 249 [.tmp 4] Tryz.func60 rfl (by decide) rfl rfl (Nat.le_of_ble_eq_true rfl) fun B => ?_
 refine qS ?_
 obtain ⟨r_6, hr_6, hm⟩ := call_elim hm
 obtain ⟨r_7, hr_7, hm⟩ := call_elim hm
 refine Wp.seqD (plan := [(0, none), (2, none), (1, some [2]), (3, some []), (4, none), (5, none)]) (by kernel_rfl) rfl (by kernel_rfl) fun K2 hK2 => ?_
 simp only [go_sem, simprocAttr]
 try refine ⟨sd, ?_⟩
 refine Dr.callE (av := ?av3) (o := ?o3) [] (ok_R_worldOf a_1 _ hr_6) si si si si si sg sg sg sg ?cont3
 simp only [go_sem, simprocAttr]
 try refine ⟨sd, ?_⟩
 refine Dr.callE (av := ?av4) (o := ?o4) [] (ok_R_worldOf b_2 _ hr_7) si si si si si sg sg sg sg ?cont4
 simp only [go_sem, simprocAttr]
 first | apply hK2 | refine ⟨sd, hK2 _ _ ?_⟩
 refine qS ?_
 refine Wp.seqW fun K6 hK6 hW6 => ?_
 obtain ⟨k_29, hk_29, hm⟩ := jp_elim hm
 have hcut6 : ∀ s, k_29 s = some z → K6 [(5, .ptr 6 0), (6, .ptr 11 0), (7, .buf 12)] [.cells 26 [.top, .top, .top, .top], .cells 26 [.top, .top, .top, .top], .cells 26 [.top, .top, .top, .top], .mp true (encM Dt.s enc_api_File r_6.1), .mp false (encM Dt.s ecS r_6.2.1), .mp true (encM Dt.s enc_api_Service r_6.2.2.1), .cells 149 [.p (.l (List.map enc_api_Setting r_6.2.2.2)), .mp 3, .mp 4, .mp 5], .cells 26 [.top, .top, .top, .top], .mp true (encM Dt.s enc_api_File r_7.1), .mp false (encM Dt.s ecS r_7.2.1), .mp true (encM Dt.s enc_api_Service r_7.2.2.1), .cells 149 [.p (.l (List.map enc_api_Setting r_7.2.2.2)), .mp 8, .mp 9, .mp 10], .buf 72 10 (List.map enc_api_Change s)] := by
  intro o12_28 hs
  have hm := hk_29 _ hs
  clear hs
  try dsimp only at hm
  try dsimp only
  refine hK6 _ _ ?_
  refine Wp.seqW fun K7 hK7 hW7 => ?_
  obtain ⟨k_51, hk_51, hm⟩ := jp_elim hm
  have hcut7 : ∀ s, k_51 s = some z → K7 [(5, .ptr 6 0), (6, .ptr 11 0), (7, .buf 12)] [.cells 26 [.top, .top, .top, .top], .cells 26 [.top, .top, .top, .top], .cells 26 [.top, .top, .top, .top], .mp true (encM Dt.s enc_api_File r_6.1), .mp false (encM Dt.s ecS r_6.2.1), .mp true (encM Dt.s enc_api_Service r_6.2.2.1), .cells 149 [.p (.l (List.map enc_api_Setting r_6.2.2.2)), .mp 3, .mp 4, .mp 5], .cells 26 [.top, .top, .top, .top], .mp true (encM Dt.s enc_api_File r_7.1), .mp false (encM Dt.s ecS r_7.2.1), .mp true (encM Dt.s enc_api_Service r_7.2.2.1), .cells 149 [.p (.l (List.map enc_api_Setting r_7.2.2.2)), .mp 8, .mp 9, .mp 10], .buf 72 10 (List.map enc_api_Change s)] := by
   intro o12_50 hs
   have hm := hk_51 _ hs
   clear hs
   try dsimp only at hm
   try dsimp only
   refine hK7 _ _ ?_
   refine Wp.seqW fun K8 hK8 hW8 => ?_
   obtain ⟨k_73, hk_73, hm⟩ := jp_elim hm
   have hcut8 : ∀ s, k_73 s = some z → K8 [(5, .ptr 6 0), (6, .ptr 11 0), (7, .buf 12)] [.cells 26 [.top, .top, .top, .top], .cells 26 [.top, .top, .top, .top], .cells 26 [.top, .top, .top, .top], .mp true (encM Dt.s enc_api_File r_6.1), .mp false (encM Dt.s ecS r_6.2.1), .mp true (encM Dt.s enc_api_Service r_6.2.2.1), .cells 149 [.p (.l (List.map enc_api_Setting r_6.2.2.2)), .mp 3, .mp 4, .mp 5], .cells 26 [.top, .top, .top, .top], .mp true (encM Dt.s enc_api_File r_7.1), .mp false (encM Dt.s ecS r_7.2.1), .mp true (encM Dt.s enc_api_Service r_7.2.2.1), .cells 149 [.p (.l (List.map enc_api_Setting r_7.2.2.2)), .mp 8, .mp 9, .mp 10], .buf 72 10 (List.map enc_api_Change s)] := by
    intro o12_72 hs
    have hm := hk_73 _ hs
    clear hs
    try dsimp only at hm
    try dsimp only
    refine hK8 _ _ ?_
    refine Wp.seqW fun K9 hK9 hW9 => ?_
    obtain ⟨k_107, hk_107, hm⟩ := jp_elim hm
    have hcut9 : ∀ s, k_107 s = some z → K9 [(5, .ptr 6 0), (6, .ptr 11 0), (7, .buf 12)] [.cells 26 [.top, .top, .top, .top], .cells 26 [.top, .top, .top, .top], .cells 26 [.top, .top, .top, .top], .mp true (encM Dt.s enc_api_File r_6.1), .mp false (encM Dt.s ecS r_6.2.1), .mp true (encM Dt.s enc_api_Service r_6.2.2.1), .cells 149 [.p (.l (List.map enc_api_Setting r_6.2.2.2)), .mp 3, .mp 4, .mp 5], .cells 26 [.top, .top, .top, .top], .mp true (encM Dt.s enc_api_File r_7.1), .mp false (encM Dt.s ecS r_7.2.1), .mp true (encM Dt.s enc_api_Service r_7.2.2.1), .cells 149 [.p (.l (List.map enc_api_Setting r_7.2.2.2)), .mp 8, .mp 9, .mp 10], .buf 72 10 (List.map enc_api_Change s)] := by
     intro o12_106 hs
     have hm := hk_107 _ hs
     clear hs
     try dsimp only at hm
     try dsimp only
     refine hK9 _ _ ?_
     refine Wp.seqW fun K10 hK10 hW10 => ?_
     obtain ⟨k_141, hk_141, hm⟩ := jp_elim hm
     have hcut10 : ∀ s, k_141 s = some z → K10 [(5, .ptr 6 0), (6, .ptr 11 0), (7, .buf 12)] [.cells 26 [.top, .top, .top, .top], .cells 26 [.top, .top, .top, .top], .cells 26 [.top, .top, .top, .top], .mp true (encM Dt.s enc_api_File r_6.1), .mp false (encM Dt.s ecS r_6.2.1), .mp true (encM Dt.s enc_api_Service r_6.2.2.1), .cells 149 [.p (.l (List.map enc_api_Setting r_6.2.2.2)), .mp 3, .mp 4, .mp 5], .cells 26 [.top, .top, .top, .top], .mp true (encM Dt.s enc_api_File r_7.1), .mp false (encM Dt.s ecS r_7.2.1), .mp true (encM Dt.s enc_api_Service r_7.2.2.1), .cells 149 [.p (.l (List.map enc_api_Setting r_7.2.2.2)), .mp 8, .mp 9, .mp 10], .buf 72 10 (List.map enc_api_Change s)] := by
      intro o12_140 hs
      have hm := hk_141 _ hs
      clear hs
      try dsimp only at hm
      try dsimp only
      refine hK10 _ _ ?_
      refine Wp.seqW fun K11 hK11 hW11 => ?_
      obtain ⟨k_175, hk_175, hm⟩ := jp_elim hm
      have hcut11 : ∀ s, k_175 s = some z → K11 [(7, .buf 12)] [.cells 26 [.top, .top, .top, .top], .cells 26 [.top, .top, .top, .top], .cells 26 [.top, .top, .top, .top], .mp true (encM Dt.s enc_api_File r_6.1), .mp false (encM Dt.s ecS r_6.2.1), .mp true (encM Dt.s enc_api_Service r_6.2.2.1), .cells 149 [.top, .top, .top, .top], .cells 26 [.top, .top, .top, .top], .mp true (encM Dt.s enc_api_File r_7.1), .mp false (encM Dt.s ecS r_7.2.1), .mp true (encM Dt.s enc_api_Service r_7.2.2.1), .cells 149 [.top, .top, .top, .top], .buf 72 10 (List.map enc_api_Change s)] := by
       intro o12_174 hs
       have hm := hk_175 _ hs
       clear hs
       try dsimp only at hm
       try dsimp only
       refine hK11 _ _ ?_
       refine qS ?_
       refine Wp.ret ?_
       refine retQ_ret ?_
       cases hm
       exact fse4
      clear hK11 hk_175
      obtain ⟨r_176, hr_176, hm⟩ := call_elim hm
      refine Wp.seqR fun K13 hK13 => ?_
      simp only [go_sem, simprocAttr]
      try refine ⟨sd, ?_⟩
      refine Rg.callR (av := ?av14) (g := true) [10] (fun hg => ok_R_keys_api_Service_i1 r_7.2.2.1 _ hr_176) si si si si sg sg sg ?cont14
      simp only [go_sem, simprocAttr]
      first | apply hK13 | refine ⟨sd, hK13 _ _ ?_⟩
      refine Wp.block ?_
      obtain ⟨k_196, hk_196, hm⟩ := forL_cont hm
      refine Wp.fact 210 fun hl_199 => ?_
      replace hl_199 : r_176.length ≤ 274877906944 := by
       simp only [go_sem, simprocAttr, List.length_map] at hl_199
       omega
      refine Wp.forL (fun i_198 s => [(5, .ptr 6 0), (6, .ptr 11 0), (7, .buf 12), (210, .p (.l (List.map ecS r_176))), (211, .p (.i .i64 (r_176.length : Int))), (212, .p (.i .i64 (i_198 : Int)))]) (fun i_198 s => [.cells 26 [.top, .top, .top, .top], .cells 26 [.top, .top, .top, .top], .cells 26 [.top, .top, .top, .top], .mp true (encM Dt.s enc_api_File r_6.1), .mp false (encM Dt.s ecS r_6.2.1), .mp true (encM Dt.s enc_api_Service r_6.2.2.1), .cells 149 [.p (.l (List.map enc_api_Setting r_6.2.2.2)), .mp 3, .mp 4, .mp 5], .cells 26 [.top, .top, .top, .top], .mp true (encM Dt.s enc_api_File r_7.1), .mp false (encM Dt.s ecS r_7.2.1), .mp true (encM Dt.s enc_api_Service r_7.2.2.1), .cells 149 [.p (.l (List.map enc_api_Setting r_7.2.2.2)), .mp 8, .mp 9, .mp 10], .buf 72 10 (List.map enc_api_Change s)]) ?_ hm ?_
      ·
       exact fse4
      clear hm
      intro i_198 o12_187 hii_198 hm
      try dsimp only at hm
      try dsimp only
      refine qS ?_
      refine Wp.seqW fun K16 hK16 hW16 => ?_
      refine Wp.cond rfl ⟨⟩ (fun hc16 => ?_) (fun hc16 => ?_)
      rotate_left
      ·refine Wp.exit ?_
       have hm := hk_196 _ (forL_end hm (ge_nat (by first | exact hc16 | simpa using hc16)))
       try dsimp only at hm
       refine hW11 _ _ _ _ ?_ (hcut11 o12_187 hm)
       exact fse4
      have hlt16 := lt_nat (by first | exact hc16 | simpa using hc16)
      have hw16 := wrap_succ hlt16 hl_199
      obtain ⟨s_200, nx_197, hxs_200, hys_200, hnx_197, hm⟩ := forL_step hm hlt16
      replace hxs_200 := hxs_200 ecS
      refine Wp.skip ?_
      simp only [thenQ]
      refine hK16 _ _ ?_
      refine Wp.seqW fun K17 hK17 hW17 => ?_
      refine Wp.block ?_
      refine Wp.seqR fun K18 hK18 => ?_
      simp only [go_sem, simprocAttr, hw16, hxs_200]
      first | apply hK18 | refine ⟨sd, hK18 _ _ ?_⟩
      obtain ⟨q_201, hq_202, hm⟩ := letv_elim hm
      have hq_202d := mlookD_enc (e := enc_api_Service) keq_s r_6.2.2.1 s_200 (api_Service.mk [] [] false false)
      have hq_202s := mlook_some (e := enc_api_Service) keq_s r_6.2.2.1 s_200
      simp only [hq_202, enc_api_Service, List.map_nil] at hq_202d hq_202s
      refine Wp.seqR fun K19 hK19 => ?_
      simp only [go_sem, simprocAttr, hw16, hxs_200, hq_202d, hq_202s]
      first | apply hK19 | refine ⟨sd, hK19 _ _ ?_⟩
      obtain ⟨q_203, hq_204, hm⟩ := letv_elim hm
      have hq_204d := mlookD_enc (e := enc_api_Service) keq_s r_7.2.2.1 s_200 (api_Service.mk [] [] false false)
      have hq_204s := mlook_some (e := enc_api_Service) keq_s r_7.2.2.1 s_200
      simp only [hq_204, enc_api_Service, List.map_nil] at hq_204d hq_204s
      refine Wp.seqD (plan := [(0, none), (1, none), (2, none), (3, none), (4, none), (5, none), (6, none), (7, none), (8, none), (9, none), (10, none), (11, none)]) (by kernel_rfl) rfl (by kernel_rfl) fun K20 hK20 => ?_
      simp only [go_sem, simprocAttr, hw16, hxs_200, hq_204d, hq_204s]
      first | apply hK20 | refine ⟨sd, hK20 _ _ ?_⟩
      refine cM hm (fun hc21 hm => ?_) (fun hc21 hm => ?_)
      ·obtain ⟨q_205, hq_206, hm⟩ := letv_elim hm
       have hq_206d := mlookD_enc (e := enc_api_Service) keq_s r_7.2.2.1 s_200 (api_Service.mk [] [] false false)
       have hq_206s := mlook_some (e := enc_api_Service) keq_s r_7.2.2.1 s_200
       simp only [hq_206, enc_api_Service, List.map_nil] at hq_206d hq_206s
       obtain ⟨c_207, hm⟩ := chk_elim hm
       refine Wp.region fun K22 hK22 => ?_
       simp only [go_sem, simprocAttr, hw16, hxs_200, hq_206d, hq_206s]
       first | apply hK22 | refine ⟨by first | exact sd | ((repeat' apply And.intro) <;> first | assumption | omega | (simp only [List.length_append, List.length_map, List.length_cons, List.length_nil, List.length_set, List.length_replicate] at c_207 ⊢; omega)), hK22 _ _ ?_⟩
       refine hK17 _ _ ?_
       refine Wp.region fun K23 hK23 => ?_
       simp only [go_sem, simprocAttr, hw16, hxs_200]
       first | apply hK23 | refine ⟨sd, hK23 _ _ ?_⟩
       simp only [thenQ, blockQ, ↓reduceIte]
       refine ⟨o12_187 ++ [(api_Change.mk 5 (api_File.mk [] [] false) (api_Setting.mk [] []) (api_Service.mk ((q_205.getD (api_Service.mk [] [] false false)).Name) ((q_205.getD (api_Service.mk [] [] false false)).Path) ((q_205.getD (api_Service.mk [] [] false false)).Auto) ((q_205.getD (api_Service.mk [] [] false false)).On)))], hlt16, hnx_197 _ hm, ?_⟩
       simp only [go_sem, simprocAttr, hw16, hxs_200]
       try exact se4
      ·refine Wp.skip ?_
       refine hK17 _ _ ?_
       refine Wp.region fun K24 hK24 => ?_
       simp only [go_sem, simprocAttr, hw16, hxs_200]
       first | apply hK24 | refine ⟨sd, hK24 _ _ ?_⟩
       simp only [thenQ, blockQ, ↓reduceIte]
       refine ⟨o12_187, hlt16, hnx_197 _ hm, ?_⟩
       simp only [go_sem, simprocAttr, hw16, hxs_200]
       try exact se4
     clear hK10 hk_141
     obtain ⟨r_208, hr_208, hm⟩ := call_elim hm
     refine Wp.seqR fun K25 hK25 => ?_
     simp only [go_sem, simprocAttr]
     try refine ⟨sd, ?_⟩
     refine Rg.callR (av := ?av26) (g := true) [9] (fun hg => ok_R_keys_string_i1 r_7.2.1 _ hr_208) si si si si sg sg sg ?cont26
     simp only [go_sem, simprocAttr]
     first | apply hK25 | refine ⟨sd, hK25 _ _ ?_⟩
     refine Wp.block ?_
     obtain ⟨k_228, hk_228, hm⟩ := forL_cont hm
     refine Wp.fact 166 fun hl_231 => ?_
     replace hl_231 : r_208.length ≤ 274877906944 := by
      simp only [go_sem, simprocAttr, List.length_map] at hl_231
      omega
     refine Wp.forL (fun i_230 s => [(5, .ptr 6 0), (6, .ptr 11 0), (7, .buf 12), (166, .p (.l (List.map ecS r_208))), (167, .p (.i .i64 (r_208.length : Int))), (168, .p (.i .i64 (i_230 : Int)))]) (fun i_230 s => [.cells 26 [.top, .top, .top, .top], .cells 26 [.top, .top, .top, .top], .cells 26 [.top, .top, .top, .top], .mp true (encM Dt.s enc_api_File r_6.1), .mp false (encM Dt.s ecS r_6.2.1), .mp true (encM Dt.s enc_api_Service r_6.2.2.1), .cells 149 [.p (.l (List.map enc_api_Setting r_6.2.2.2)), .mp 3, .mp 4, .mp 5], .cells 26 [.top, .top, .top, .top], .mp true (encM Dt.s enc_api_File r_7.1), .mp false (encM Dt.s ecS r_7.2.1), .mp true (encM Dt.s enc_api_Service r_7.2.2.1), .cells 149 [.p (.l (List.map enc_api_Setting r_7.2.2.2)), .mp 8, .mp 9, .mp 10], .buf 72 10 (List.map enc_api_Change s)]) ?_ hm ?_
     ·
      exact fse4
     clear hm
     intro i_230 o12_219 hii_230 hm
     try dsimp only at hm
     try dsimp only
     refine qS ?_
     refine Wp.seqW fun K28 hK28 hW28 => ?_
     refine Wp.cond rfl ⟨⟩ (fun hc28 => ?_) (fun hc28 => ?_)
     rotate_left
     ·refine Wp.exit ?_
      have hm := hk_228 _ (forL_end hm (ge_nat (by first | exact hc28 | simpa using hc28)))
      try dsimp only at hm
      refine hW10 _ _ _ _ ?_ (hcut10 o12_219 hm)
      exact fse4
     have hlt28 := lt_nat (by first | exact hc28 | simpa using hc28)
     have hw28 := wrap_succ hlt28 hl_231
     obtain ⟨s_232, nx_229, hxs_232, hys_232, hnx_229, hm⟩ := forL_step hm hlt28
     replace hxs_232 := hxs_232 ecS
     refine Wp.skip ?_
     simp only [thenQ]
     refine hK28 _ _ ?_
     refine Wp.seqW fun K29 hK29 hW29 => ?_
     refine Wp.block ?_
     refine Wp.seqR fun K30 hK30 => ?_
     simp only [go_sem, simprocAttr, hw28, hxs_232]
     first | apply hK30 | refine ⟨sd, hK30 _ _ ?_⟩
     obtain ⟨q_233, hq_234, hm⟩ := letv_elim hm
     have hq_234d := mlookD_enc (e := ecS) keq_s r_6.2.1 s_232 []
     have hq_234s := mlook_some (e := ecS) keq_s r_6.2.1 s_232
     simp only [hq_234, ecS, List.map_nil] at hq_234d hq_234s
     refine Wp.seqR fun K31 hK31 => ?_
     simp only [go_sem, simprocAttr, hw28, hxs_232, hq_234d, hq_234s]
     first | apply hK31 | refine ⟨sd, hK31 _ _ ?_⟩
     obtain ⟨q_235, hq_236, hm⟩ := letv_elim hm
     have hq_236d := mlookD_enc (e := ecS) keq_s r_7.2.1 s_232 []
     have hq_236s := mlook_some (e := ecS) keq_s r_7.2.1 s_232
     simp only [hq_236, ecS, List.map_nil] at hq_236d hq_236s
     refine Wp.seqR fun K32 hK32 => ?_
     simp only [go_sem, simprocAttr, hw28, hxs_232, hq_236d, hq_236s]
     first | apply hK32 | refine ⟨sd, hK32 _ _ ?_⟩
     refine cM hm (fun hc33 hm => ?_) (fun hc33 hm => ?_)
     ·obtain ⟨q_237, hq_238, hm⟩ := letv_elim hm
      have hq_238d := mlookD_enc (e := ecS) keq_s r_7.2.1 s_232 []
      have hq_238s := mlook_some (e := ecS) keq_s r_7.2.1 s_232
      simp only [hq_238, ecS, List.map_nil] at hq_238d hq_238s
      obtain ⟨c_239, hm⟩ := chk_elim hm
      refine Wp.region fun K34 hK34 => ?_
      simp only [go_sem, simprocAttr, hw28, hxs_232, hq_238d, hq_238s]
      first | apply hK34 | refine ⟨by first | exact sd | ((repeat' apply And.intro) <;> first | assumption | omega | (simp only [List.length_append, List.length_map, List.length_cons, List.length_nil, List.length_set, List.length_replicate] at c_239 ⊢; omega)), hK34 _ _ ?_⟩
      refine hK29 _ _ ?_
      refine Wp.region fun K35 hK35 => ?_
      simp only [go_sem, simprocAttr, hw28, hxs_232]
      first | apply hK35 | refine ⟨sd, hK35 _ _ ?_⟩
      simp only [thenQ, blockQ, ↓reduceIte]
      refine ⟨o12_219 ++ [(api_Change.mk 3 (api_File.mk [] [] false) (api_Setting.mk s_232 (q_237.getD [])) (api_Service.mk [] [] false false))], hlt28, hnx_229 _ hm, ?_⟩
      simp only [go_sem, simprocAttr, hw28, hxs_232]
      try exact se4
     ·refine Wp.skip ?_
      refine hK29 _ _ ?_
      refine Wp.region fun K36 hK36 => ?_
      simp only [go_sem, simprocAttr, hw28, hxs_232]
      first | apply hK36 | refine ⟨sd, hK36 _ _ ?_⟩
      simp only [thenQ, blockQ, ↓reduceIte]
      refine ⟨o12_219, hlt28, hnx_229 _ hm, ?_⟩
      simp only [go_sem, simprocAttr, hw28, hxs_232]
      try exact se4
    clear hK9 hk_107
    obtain ⟨r_240, hr_240, hm⟩ := call_elim hm
    refine Wp.seqR fun K37 hK37 => ?_
    simp only [go_sem, simprocAttr]
    try refine ⟨sd, ?_⟩
    refine Rg.callR (av := ?av38) (g := true) [8] (fun hg => ok_R_keys_api_File_i1 r_7.1 _ hr_240) si si si si sg sg sg ?cont38
    simp only [go_sem, simprocAttr]
    first | apply hK37 | refine ⟨sd, hK37 _ _ ?_⟩
    refine Wp.block ?_
    obtain ⟨k_260, hk_260, hm⟩ := forL_cont hm
    refine Wp.fact 124 fun hl_263 => ?_
    replace hl_263 : r_240.length ≤ 274877906944 := by
     simp only [go_sem, simprocAttr, List.length_map] at hl_263
     omega
    refine Wp.forL (fun i_262 s => [(5, .ptr 6 0), (6, .ptr 11 0), (7, .buf 12), (124, .p (.l (List.map ecS r_240))), (125, .p (.i .i64 (r_240.length : Int))), (126, .p (.i .i64 (i_262 : Int)))]) (fun i_262 s => [.cells 26 [.top, .top, .top, .top], .cells 26 [.top, .top, .top, .top], .cells 26 [.top, .top, .top, .top], .mp true (encM Dt.s enc_api_File r_6.1), .mp false (encM Dt.s ecS r_6.2.1), .mp true (encM Dt.s enc_api_Service r_6.2.2.1), .cells 149 [.p (.l (List.map enc_api_Setting r_6.2.2.2)), .mp 3, .mp 4, .mp 5], .cells 26 [.top, .top, .top, .top], .mp true (encM Dt.s enc_api_File r_7.1), .mp false (encM Dt.s ecS r_7.2.1), .mp true (encM Dt.s enc_api_Service r_7.2.2.1), .cells 149 [.p (.l (List.map enc_api_Setting r_7.2.2.2)), .mp 8, .mp 9, .mp 10], .buf 72 10 (List.map enc_api_Change s)]) ?_ hm ?_
    ·
     exact fse4
    clear hm
    intro i_262 o12_251 hii_262 hm
    try dsimp only at hm
    try dsimp only
    refine qS ?_
    refine Wp.seqW fun K40 hK40 hW40 => ?_
    refine Wp.cond rfl ⟨⟩ (fun hc40 => ?_) (fun hc40 => ?_)
    rotate_left
    ·refine Wp.exit ?_
     have hm := hk_260 _ (forL_end hm (ge_nat (by first | exact hc40 | simpa using hc40)))
     try dsimp only at hm
     refine hW9 _ _ _ _ ?_ (hcut9 o12_251 hm)
     exact fse4
    have hlt40 := lt_nat (by first | exact hc40 | simpa using hc40)
    have hw40 := wrap_succ hlt40 hl_263
    obtain ⟨s_264, nx_261, hxs_264, hys_264, hnx_261, hm⟩ := forL_step hm hlt40
    replace hxs_264 := hxs_264 ecS
    refine Wp.skip ?_
    simp only [thenQ]
    refine hK40 _ _ ?_
    refine Wp.seqW fun K41 hK41 hW41 => ?_
    refine Wp.block ?_
    refine Wp.seqR fun K42 hK42 => ?_
    simp only [go_sem, simprocAttr, hw40, hxs_264]
    first | apply hK42 | refine ⟨sd, hK42 _ _ ?_⟩
    obtain ⟨q_265, hq_266, hm⟩ := letv_elim hm
    have hq_266d := mlookD_enc (e := enc_api_File) keq_s r_6.1 s_264 (api_File.mk [] [] false)
    have hq_266s := mlook_some (e := enc_api_File) keq_s r_6.1 s_264
    simp only [hq_266, enc_api_File, List.map_nil] at hq_266d hq_266s
    refine Wp.seqR fun K43 hK43 => ?_
    simp only [go_sem, simprocAttr, hw40, hxs_264, hq_266d, hq_266s]
    first | apply hK43 | refine ⟨sd, hK43 _ _ ?_⟩
    obtain ⟨q_267, hq_268, hm⟩ := letv_elim hm
    have hq_268d := mlookD_enc (e := enc_api_File) keq_s r_7.1 s_264 (api_File.mk [] [] false)
    have hq_268s := mlook_some (e := enc_api_File) keq_s r_7.1 s_264
    simp only [hq_268, enc_api_File, List.map_nil] at hq_268d hq_268s
    refine Wp.seqD (plan := [(0, none), (1, none), (2, none), (3, none), (4, none), (5, none), (6, none), (7, none), (8, none), (9, none), (10, none), (11, none)]) (by kernel_rfl) rfl (by kernel_rfl) fun K44 hK44 => ?_
    simp only [go_sem, simprocAttr, hw40, hxs_264, hq_268d, hq_268s]
    first | apply hK44 | refine ⟨sd, hK44 _ _ ?_⟩
    refine cM hm (fun hc45 hm => ?_) (fun hc45 hm => ?_)
    ·obtain ⟨q_269, hq_270, hm⟩ := letv_elim hm
     have hq_270d := mlookD_enc (e := enc_api_File) keq_s r_7.1 s_264 (api_File.mk [] [] false)
     have hq_270s := mlook_some (e := enc_api_File) keq_s r_7.1 s_264
     simp only [hq_270, enc_api_File, List.map_nil] at hq_270d hq_270s
     obtain ⟨c_271, hm⟩ := chk_elim hm
     refine Wp.region fun K46 hK46 => ?_
     simp only [go_sem, simprocAttr, hw40, hxs_264, hq_270d, hq_270s]
     first | apply hK46 | refine ⟨by first | exact sd | ((repeat' apply And.intro) <;> first | assumption | omega | (simp only [List.length_append, List.length_map, List.length_cons, List.length_nil, List.length_set, List.length_replicate] at c_271 ⊢; omega)), hK46 _ _ ?_⟩
     refine hK41 _ _ ?_
     refine Wp.region fun K47 hK47 => ?_
     simp only [go_sem, simprocAttr, hw40, hxs_264]
     first | apply hK47 | refine ⟨sd, hK47 _ _ ?_⟩
     simp only [thenQ, blockQ, ↓reduceIte]
     refine ⟨o12_251 ++ [(api_Change.mk 1 (api_File.mk ((q_269.getD (api_File.mk [] [] false)).Path) ((q_269.getD (api_File.mk [] [] false)).Data) ((q_269.getD (api_File.mk [] [] false)).Runs)) (api_Setting.mk [] []) (api_Service.mk [] [] false false))], hlt40, hnx_261 _ hm, ?_⟩
     simp only [go_sem, simprocAttr, hw40, hxs_264]
     try exact se4
    ·refine Wp.skip ?_
     refine hK41 _ _ ?_
     refine Wp.region fun K48 hK48 => ?_
     simp only [go_sem, simprocAttr, hw40, hxs_264]
     first | apply hK48 | refine ⟨sd, hK48 _ _ ?_⟩
     simp only [thenQ, blockQ, ↓reduceIte]
     refine ⟨o12_251, hlt40, hnx_261 _ hm, ?_⟩
     simp only [go_sem, simprocAttr, hw40, hxs_264]
     try exact se4
   clear hK8 hk_73
   obtain ⟨r_272, hr_272, hm⟩ := call_elim hm
   refine Wp.seqR fun K49 hK49 => ?_
   simp only [go_sem, simprocAttr]
   try refine ⟨sd, ?_⟩
   refine Rg.callR (av := ?av50) (g := true) [5] (fun hg => ok_R_keys_api_Service_i1 r_6.2.2.1 _ hr_272) si si si si sg sg sg ?cont50
   simp only [go_sem, simprocAttr]
   first | apply hK49 | refine ⟨sd, hK49 _ _ ?_⟩
   refine Wp.block ?_
   obtain ⟨k_284, hk_284, hm⟩ := forL_cont hm
   refine Wp.fact 96 fun hl_287 => ?_
   replace hl_287 : r_272.length ≤ 274877906944 := by
    simp only [go_sem, simprocAttr, List.length_map] at hl_287
    omega
   refine Wp.forL (fun i_286 s => [(5, .ptr 6 0), (6, .ptr 11 0), (7, .buf 12), (96, .p (.l (List.map ecS r_272))), (97, .p (.i .i64 (r_272.length : Int))), (98, .p (.i .i64 (i_286 : Int)))]) (fun i_286 s => [.cells 26 [.top, .top, .top, .top], .cells 26 [.top, .top, .top, .top], .cells 26 [.top, .top, .top, .top], .mp true (encM Dt.s enc_api_File r_6.1), .mp false (encM Dt.s ecS r_6.2.1), .mp true (encM Dt.s enc_api_Service r_6.2.2.1), .cells 149 [.p (.l (List.map enc_api_Setting r_6.2.2.2)), .mp 3, .mp 4, .mp 5], .cells 26 [.top, .top, .top, .top], .mp true (encM Dt.s enc_api_File r_7.1), .mp false (encM Dt.s ecS r_7.2.1), .mp true (encM Dt.s enc_api_Service r_7.2.2.1), .cells 149 [.p (.l (List.map enc_api_Setting r_7.2.2.2)), .mp 8, .mp 9, .mp 10], .buf 72 10 (List.map enc_api_Change s)]) ?_ hm ?_
   ·
    exact fse4
   clear hm
   intro i_286 o12_279 hii_286 hm
   try dsimp only at hm
   try dsimp only
   refine qS ?_
   refine Wp.seqW fun K52 hK52 hW52 => ?_
   refine Wp.cond rfl ⟨⟩ (fun hc52 => ?_) (fun hc52 => ?_)
   rotate_left
   ·refine Wp.exit ?_
    have hm := hk_284 _ (forL_end hm (ge_nat (by first | exact hc52 | simpa using hc52)))
    try dsimp only at hm
    refine hW8 _ _ _ _ ?_ (hcut8 o12_279 hm)
    exact fse4
   have hlt52 := lt_nat (by first | exact hc52 | simpa using hc52)
   have hw52 := wrap_succ hlt52 hl_287
   obtain ⟨s_288, nx_285, hxs_288, hys_288, hnx_285, hm⟩ := forL_step hm hlt52
   replace hxs_288 := hxs_288 ecS
   refine Wp.skip ?_
   simp only [thenQ]
   refine hK52 _ _ ?_
   refine Wp.seqW fun K53 hK53 hW53 => ?_
   refine Wp.block ?_
   refine Wp.seqR fun K54 hK54 => ?_
   simp only [go_sem, simprocAttr, hw52, hxs_288]
   first | apply hK54 | refine ⟨sd, hK54 _ _ ?_⟩
   obtain ⟨q_289, hq_290, hm⟩ := letv_elim hm
   have hq_290d := mlookD_enc (e := enc_api_Service) keq_s r_7.2.2.1 s_288 (api_Service.mk [] [] false false)
   have hq_290s := mlook_some (e := enc_api_Service) keq_s r_7.2.2.1 s_288
   simp only [hq_290, enc_api_Service, List.map_nil] at hq_290d hq_290s
   refine Wp.seqR fun K55 hK55 => ?_
   simp only [go_sem, simprocAttr, hw52, hxs_288, hq_290d, hq_290s]
   first | apply hK55 | refine ⟨sd, hK55 _ _ ?_⟩
   refine Wp.seqR fun K56 hK56 => ?_
   simp only [go_sem, simprocAttr, hw52, hxs_288]
   first | apply hK56 | refine ⟨sd, hK56 _ _ ?_⟩
   refine cM hm (fun hc57 hm => ?_) (fun hc57 hm => ?_)
   ·obtain ⟨c_291, hm⟩ := chk_elim hm
    refine Wp.region fun K58 hK58 => ?_
    simp only [go_sem, simprocAttr, hw52, hxs_288]
    first | apply hK58 | refine ⟨by first | exact sd | ((repeat' apply And.intro) <;> first | assumption | omega | (simp only [List.length_append, List.length_map, List.length_cons, List.length_nil, List.length_set, List.length_replicate] at c_291 ⊢; omega)), hK58 _ _ ?_⟩
    refine hK53 _ _ ?_
    refine Wp.region fun K59 hK59 => ?_
    simp only [go_sem, simprocAttr, hw52, hxs_288]
    first | apply hK59 | refine ⟨sd, hK59 _ _ ?_⟩
    simp only [thenQ, blockQ, ↓reduceIte]
    refine ⟨o12_279 ++ [(api_Change.mk 6 (api_File.mk [] [] false) (api_Setting.mk [] []) (api_Service.mk s_288 [] false false))], hlt52, hnx_285 _ hm, ?_⟩
    simp only [go_sem, simprocAttr, hw52, hxs_288]
    try exact se4
   ·refine Wp.skip ?_
    refine hK53 _ _ ?_
    refine Wp.region fun K60 hK60 => ?_
    simp only [go_sem, simprocAttr, hw52, hxs_288]
    first | apply hK60 | refine ⟨sd, hK60 _ _ ?_⟩
    simp only [thenQ, blockQ, ↓reduceIte]
    refine ⟨o12_279, hlt52, hnx_285 _ hm, ?_⟩
    simp only [go_sem, simprocAttr, hw52, hxs_288]
    try exact se4
  clear hK7 hk_51
  obtain ⟨r_292, hr_292, hm⟩ := call_elim hm
  refine Wp.seqR fun K61 hK61 => ?_
  simp only [go_sem, simprocAttr]
  try refine ⟨sd, ?_⟩
  refine Rg.callR (av := ?av62) (g := true) [4] (fun hg => ok_R_keys_string_i1 r_6.2.1 _ hr_292) si si si si sg sg sg ?cont62
  simp only [go_sem, simprocAttr]
  first | apply hK61 | refine ⟨sd, hK61 _ _ ?_⟩
  refine Wp.block ?_
  obtain ⟨k_304, hk_304, hm⟩ := forL_cont hm
  refine Wp.fact 68 fun hl_307 => ?_
  replace hl_307 : r_292.length ≤ 274877906944 := by
   simp only [go_sem, simprocAttr, List.length_map] at hl_307
   omega
  refine Wp.forL (fun i_306 s => [(5, .ptr 6 0), (6, .ptr 11 0), (7, .buf 12), (68, .p (.l (List.map ecS r_292))), (69, .p (.i .i64 (r_292.length : Int))), (70, .p (.i .i64 (i_306 : Int)))]) (fun i_306 s => [.cells 26 [.top, .top, .top, .top], .cells 26 [.top, .top, .top, .top], .cells 26 [.top, .top, .top, .top], .mp true (encM Dt.s enc_api_File r_6.1), .mp false (encM Dt.s ecS r_6.2.1), .mp true (encM Dt.s enc_api_Service r_6.2.2.1), .cells 149 [.p (.l (List.map enc_api_Setting r_6.2.2.2)), .mp 3, .mp 4, .mp 5], .cells 26 [.top, .top, .top, .top], .mp true (encM Dt.s enc_api_File r_7.1), .mp false (encM Dt.s ecS r_7.2.1), .mp true (encM Dt.s enc_api_Service r_7.2.2.1), .cells 149 [.p (.l (List.map enc_api_Setting r_7.2.2.2)), .mp 8, .mp 9, .mp 10], .buf 72 10 (List.map enc_api_Change s)]) ?_ hm ?_
  ·
   exact fse4
  clear hm
  intro i_306 o12_299 hii_306 hm
  try dsimp only at hm
  try dsimp only
  refine qS ?_
  refine Wp.seqW fun K64 hK64 hW64 => ?_
  refine Wp.cond rfl ⟨⟩ (fun hc64 => ?_) (fun hc64 => ?_)
  rotate_left
  ·refine Wp.exit ?_
   have hm := hk_304 _ (forL_end hm (ge_nat (by first | exact hc64 | simpa using hc64)))
   try dsimp only at hm
   refine hW7 _ _ _ _ ?_ (hcut7 o12_299 hm)
   exact fse4
  have hlt64 := lt_nat (by first | exact hc64 | simpa using hc64)
  have hw64 := wrap_succ hlt64 hl_307
  obtain ⟨s_308, nx_305, hxs_308, hys_308, hnx_305, hm⟩ := forL_step hm hlt64
  replace hxs_308 := hxs_308 ecS
  refine Wp.skip ?_
  simp only [thenQ]
  refine hK64 _ _ ?_
  refine Wp.seqW fun K65 hK65 hW65 => ?_
  refine Wp.block ?_
  refine Wp.seqR fun K66 hK66 => ?_
  simp only [go_sem, simprocAttr, hw64, hxs_308]
  first | apply hK66 | refine ⟨sd, hK66 _ _ ?_⟩
  obtain ⟨q_309, hq_310, hm⟩ := letv_elim hm
  have hq_310d := mlookD_enc (e := ecS) keq_s r_7.2.1 s_308 []
  have hq_310s := mlook_some (e := ecS) keq_s r_7.2.1 s_308
  simp only [hq_310, ecS, List.map_nil] at hq_310d hq_310s
  refine Wp.seqR fun K67 hK67 => ?_
  simp only [go_sem, simprocAttr, hw64, hxs_308, hq_310d, hq_310s]
  first | apply hK67 | refine ⟨sd, hK67 _ _ ?_⟩
  refine Wp.seqR fun K68 hK68 => ?_
  simp only [go_sem, simprocAttr, hw64, hxs_308]
  first | apply hK68 | refine ⟨sd, hK68 _ _ ?_⟩
  refine cM hm (fun hc69 hm => ?_) (fun hc69 hm => ?_)
  ·obtain ⟨c_311, hm⟩ := chk_elim hm
   refine Wp.region fun K70 hK70 => ?_
   simp only [go_sem, simprocAttr, hw64, hxs_308]
   first | apply hK70 | refine ⟨by first | exact sd | ((repeat' apply And.intro) <;> first | assumption | omega | (simp only [List.length_append, List.length_map, List.length_cons, List.length_nil, List.length_set, List.length_replicate] at c_311 ⊢; omega)), hK70 _ _ ?_⟩
   refine hK65 _ _ ?_
   refine Wp.region fun K71 hK71 => ?_
   simp only [go_sem, simprocAttr, hw64, hxs_308]
   first | apply hK71 | refine ⟨sd, hK71 _ _ ?_⟩
   simp only [thenQ, blockQ, ↓reduceIte]
   refine ⟨o12_299 ++ [(api_Change.mk 4 (api_File.mk [] [] false) (api_Setting.mk s_308 []) (api_Service.mk [] [] false false))], hlt64, hnx_305 _ hm, ?_⟩
   simp only [go_sem, simprocAttr, hw64, hxs_308]
   try exact se4
  ·refine Wp.skip ?_
   refine hK65 _ _ ?_
   refine Wp.region fun K72 hK72 => ?_
   simp only [go_sem, simprocAttr, hw64, hxs_308]
   first | apply hK72 | refine ⟨sd, hK72 _ _ ?_⟩
   simp only [thenQ, blockQ, ↓reduceIte]
   refine ⟨o12_299, hlt64, hnx_305 _ hm, ?_⟩
   simp only [go_sem, simprocAttr, hw64, hxs_308]
   try exact se4
 clear hK6 hk_29
 obtain ⟨r_312, hr_312, hm⟩ := call_elim hm
 refine Wp.seqR fun K73 hK73 => ?_
 simp only [go_sem, simprocAttr]
 try refine ⟨sd, ?_⟩
 refine Rg.callR (av := ?av74) (g := true) [3] (fun hg => ok_R_keys_api_File_i1 r_6.1 _ hr_312) si si si si sg sg sg ?cont74
 simp only [go_sem, simprocAttr]
 first | apply hK73 | refine ⟨sd, hK73 _ _ ?_⟩
 refine Wp.block ?_
 refine Wp.adopt 7 72 10 rfl ?_
 simp only [go_sem, simprocAttr]
 obtain ⟨k_324, hk_324, hm⟩ := forL_cont hm
 refine Wp.fact 40 fun hl_327 => ?_
 replace hl_327 : r_312.length ≤ 274877906944 := by
  simp only [go_sem, simprocAttr, List.length_map] at hl_327
  omega
 refine Wp.forL (fun i_326 s => [(5, .ptr 6 0), (6, .ptr 11 0), (7, .buf 12), (40, .p (.l (List.map ecS r_312))), (41, .p (.i .i64 (r_312.length : Int))), (42, .p (.i .i64 (i_326 : Int)))]) (fun i_326 s => [.cells 26 [.p (.l (List.map enc_api_Setting a_1.Facts)), .p (.l (List.map enc_api_File a_1.Files)), .p (.l (List.map enc_api_Setting a_1.Settings)), .p (.l (List.map enc_api_Service a_1.Services))], .cells 26 [.p (.l (List.map enc_api_Setting b_2.Facts)), .p (.l (List.map enc_api_File b_2.Files)), .p (.l (List.map enc_api_Setting b_2.Settings)), .p (.l (List.map enc_api_Service b_2.Services))], .cells 26 [.top, .top, .top, .top], .mp true (encM Dt.s enc_api_File r_6.1), .mp false (encM Dt.s ecS r_6.2.1), .mp true (encM Dt.s enc_api_Service r_6.2.2.1), .cells 149 [.p (.l (List.map enc_api_Setting r_6.2.2.2)), .mp 3, .mp 4, .mp 5], .cells 26 [.top, .top, .top, .top], .mp true (encM Dt.s enc_api_File r_7.1), .mp false (encM Dt.s ecS r_7.2.1), .mp true (encM Dt.s enc_api_Service r_7.2.2.1), .cells 149 [.p (.l (List.map enc_api_Setting r_7.2.2.2)), .mp 8, .mp 9, .mp 10], .buf 72 10 (List.map enc_api_Change s)]) ?_ hm ?_
 ·
  exact fse4
 clear hm
 intro i_326 o12_319 hii_326 hm
 try dsimp only at hm
 try dsimp only
 refine qS ?_
 refine Wp.seqW fun K76 hK76 hW76 => ?_
 refine Wp.cond rfl ⟨⟩ (fun hc76 => ?_) (fun hc76 => ?_)
 rotate_left
 ·refine Wp.exit ?_
  have hm := hk_324 _ (forL_end hm (ge_nat (by first | exact hc76 | simpa using hc76)))
  try dsimp only at hm
  refine hW6 _ _ _ _ ?_ (hcut6 o12_319 hm)
  exact fse4
 have hlt76 := lt_nat (by first | exact hc76 | simpa using hc76)
 have hw76 := wrap_succ hlt76 hl_327
 obtain ⟨s_328, nx_325, hxs_328, hys_328, hnx_325, hm⟩ := forL_step hm hlt76
 replace hxs_328 := hxs_328 ecS
 refine Wp.skip ?_
 simp only [thenQ]
 refine hK76 _ _ ?_
 refine Wp.seqW fun K77 hK77 hW77 => ?_
 refine Wp.block ?_
 refine Wp.seqR fun K78 hK78 => ?_
 simp only [go_sem, simprocAttr, hw76, hxs_328]
 first | apply hK78 | refine ⟨sd, hK78 _ _ ?_⟩
 obtain ⟨q_329, hq_330, hm⟩ := letv_elim hm
 have hq_330d := mlookD_enc (e := enc_api_File) keq_s r_7.1 s_328 (api_File.mk [] [] false)
 have hq_330s := mlook_some (e := enc_api_File) keq_s r_7.1 s_328
 simp only [hq_330, enc_api_File, List.map_nil] at hq_330d hq_330s
 refine Wp.seqR fun K79 hK79 => ?_
 simp only [go_sem, simprocAttr, hw76, hxs_328, hq_330d, hq_330s]
 first | apply hK79 | refine ⟨sd, hK79 _ _ ?_⟩
 refine Wp.seqR fun K80 hK80 => ?_
 simp only [go_sem, simprocAttr, hw76, hxs_328]
 first | apply hK80 | refine ⟨sd, hK80 _ _ ?_⟩
 refine cM hm (fun hc81 hm => ?_) (fun hc81 hm => ?_)
 ·obtain ⟨c_331, hm⟩ := chk_elim hm
  refine Wp.region fun K82 hK82 => ?_
  simp only [go_sem, simprocAttr, hw76, hxs_328]
  first | apply hK82 | refine ⟨by first | exact sd | ((repeat' apply And.intro) <;> first | assumption | omega | (simp only [List.length_append, List.length_map, List.length_cons, List.length_nil, List.length_set, List.length_replicate] at c_331 ⊢; omega)), hK82 _ _ ?_⟩
  refine hK77 _ _ ?_
  refine Wp.region fun K83 hK83 => ?_
  simp only [go_sem, simprocAttr, hw76, hxs_328]
  first | apply hK83 | refine ⟨sd, hK83 _ _ ?_⟩
  simp only [thenQ, blockQ, ↓reduceIte]
  refine ⟨o12_319 ++ [(api_Change.mk 2 (api_File.mk s_328 [] false) (api_Setting.mk [] []) (api_Service.mk [] [] false false))], hlt76, hnx_325 _ hm, ?_⟩
  simp only [go_sem, simprocAttr, hw76, hxs_328]
  try exact se4
 ·refine Wp.skip ?_
  refine hK77 _ _ ?_
  refine Wp.region fun K84 hK84 => ?_
  simp only [go_sem, simprocAttr, hw76, hxs_328]
  first | apply hK84 | refine ⟨sd, hK84 _ _ ?_⟩
  simp only [thenQ, blockQ, ↓reduceIte]
  refine ⟨o12_319, hlt76, hnx_325 _ hm, ?_⟩
  simp only [go_sem, simprocAttr, hw76, hxs_328]
  try exact se4
theorem ok_slices_Equal_api_Change_api_Change (s1_1 : List api_Change) (s2_2 : List api_Change) (z : Bool) (hm : slices_Equal_api_Change_api_Change s1_1 s2_2 = some z) : Does Tryz.prog 57 [.p (.l (List.map enc_api_Change s1_1)), .p (.l (List.map enc_api_Change s2_2))] [] (fun r X => r = .p (.b z) ∧ X = []) := by
 unfold slices_Equal_api_Change_api_Change at hm
 refine Does.of_wp 0 26 [.tmp 4] Tryz.func57 rfl (by decide) rfl rfl (Nat.le_of_ble_eq_true rfl) fun B => ?_
 refine qS ?_
 refine Wp.seqW fun K2 hK2 hW2 => ?_
 refine qS ?_
 refine cM hm (fun hc4 hm => ?_) (fun hc4 hm => ?_)
 ·refine qS ?_
  refine Wp.ret ?_
  refine retQ_ret ?_
  cases hm
  exact fse4
 ·refine Wp.skip ?_
  refine hK2 _ _ ?_
  refine Wp.seqW fun K6 hK6 hW6 => ?_
  obtain ⟨k_12, hk_12, hm⟩ := jp_elim hm
  have hcut6 : ∀ s, k_12 s = some z → K6 [] [] := by
   intro s hs
   have hm := hk_12 _ hs
   clear hs
   try dsimp only at hm
   try dsimp only
   refine hK6 _ _ ?_
   refine qS ?_
   refine Wp.ret ?_
   refine retQ_ret ?_
   cases hm
   exact fse4
  clear hK6 hk_12
  refine qS ?_
  refine Wp.block ?_
  obtain ⟨k_16, hk_16, hm⟩ := forL_cont hm
  refine Wp.fact 0 fun hl_19 => ?_
  replace hl_19 : s1_1.length ≤ 274877906944 := by
   simp only [go_sem, simprocAttr, List.length_map] at hl_19
   omega
  refine Wp.forL (fun i_18 s => [(0, .p (.l (List.map enc_api_Change s1_1))), (1, .p (.l (List.map enc_api_Change s2_2))), (12, .p (.i .i64 (s1_1.length : Int))), (13, .p (.i .i64 (i_18 : Int)))]) (fun i_18 s => []) ?_ hm ?_
  ·
   exact fse4
  clear hm
  intro i_18 s hii_18 hm
  try dsimp only at hm
  try dsimp only
  refine qS ?_
  refine Wp.seqW fun K10 hK10 hW10 => ?_
  refine Wp.cond rfl ⟨⟩ (fun hc10 => ?_) (fun hc10 => ?_)
  rotate_left
  ·refine Wp.exit ?_
   have hm := hk_16 _ (forL_end hm (ge_nat (by first | exact hc10 | simpa using hc10)))
   try dsimp only at hm
   refine hW6 _ _ _ _ ?_ (hcut6 () hm)
   exact fse4
  have hlt10 := lt_nat (by first | exact hc10 | simpa using hc10)
  have hw10 := wrap_succ hlt10 hl_19
  obtain ⟨c_20, nx_17, hxc_20, hyc_20, hnx_17, hm⟩ := forL_step hm hlt10
  replace hxc_20 := hxc_20 enc_api_Change
  refine Wp.skip ?_
  simp only [thenQ]
  refine hK10 _ _ ?_
  refine Wp.seqW fun K11 hK11 hW11 => ?_
  refine Wp.block ?_
  refine Wp.seqR fun K12 hK12 => ?_
  simp only [go_sem, simprocAttr, hw10, hxc_20]
  first | apply hK12 | refine ⟨sd, hK12 _ _ ?_⟩
  obtain ⟨c_21, hbc_21, hxc_21, hyc_21, hm⟩ := idx_elim hm
  replace hxc_21 : ∀ d, (List.map enc_api_Change s2_2).getD i_18 d = enc_api_Change c_21 := hxc_21 enc_api_Change
  refine Wp.seqD (plan := [(0, none), (1, none), (2, none), (3, none), (4, none), (5, none), (6, none), (7, none), (8, none)]) (by kernel_rfl) rfl (by kernel_rfl) fun K13 hK13 => ?_
  simp only [go_sem, simprocAttr, hw10, hxc_20, hxc_21]
  first | apply hK13 | refine ⟨sd, hK13 _ _ ?_⟩
  refine cM hm (fun hc14 hm => ?_) (fun hc14 hm => ?_)
  ·refine Wp.seqR fun K15 hK15 => ?_
   simp only [go_sem, simprocAttr, hw10, hxc_20, hxc_21]
   first | apply hK15 | refine ⟨sd, hK15 _ _ ?_⟩
   refine Wp.ret ?_
   refine retQ_ret ?_
   cases hm
   simp only [go_sem, simprocAttr, hw10, hxc_20, hxc_21]
   try exact se4
  ·refine Wp.skip ?_
   refine hK11 _ _ ?_
   refine Wp.region fun K16 hK16 => ?_
   simp only [go_sem, simprocAttr, hw10, hxc_20, hxc_21]
   first | apply hK16 | refine ⟨sd, hK16 _ _ ?_⟩
   simp only [thenQ, blockQ, ↓reduceIte]
   refine ⟨(), hlt10, hnx_17 _ hm, ?_⟩
   simp only [go_sem, simprocAttr, hw10, hxc_20, hxc_21]
   try exact se4
theorem ok_disk_Diff (a_1 : api_Machine) (b_2 : api_Machine) (z : List api_Change × Int) (hm : disk_Diff a_1 b_2 = some z) : Does Tryz.prog 58 [.agg [.p (.l (List.map enc_api_Setting a_1.Facts)), .p (.l (List.map enc_api_File a_1.Files)), .p (.l (List.map enc_api_Setting a_1.Settings)), .p (.l (List.map enc_api_Service a_1.Services))], .agg [.p (.l (List.map enc_api_Setting b_2.Facts)), .p (.l (List.map enc_api_File b_2.Files)), .p (.l (List.map enc_api_Setting b_2.Settings)), .p (.l (List.map enc_api_Service b_2.Services))]] [] (fun r X => r = .tup [.p (.l (List.map enc_api_Change z.1)), .p (.i .i64 z.2)] ∧ X = []) := by
 unfold disk_Diff at hm
 refine Does.of_wp 0 30 [.tmp 4, .tmp 5] Tryz.func58 rfl (by decide) rfl rfl (Nat.le_of_ble_eq_true rfl) fun B => ?_
 refine qS ?_
 refine Wp.seqW fun K2 hK2 hW2 => ?_
 obtain ⟨k_17, hk_17, hm⟩ := jp_elim hm
 have hcut2 : ∀ s, k_17 s = some z → K2 [(2, .ptr 0 0), (3, .ptr 1 0)] [.cells 26 [.p (.l (List.map enc_api_Setting a_1.Facts)), .p (.l (List.map enc_api_File a_1.Files)), .p (.l (List.map enc_api_Setting a_1.Settings)), .p (.l (List.map enc_api_Service a_1.Services))], .cells 26 [.p (.l (List.map enc_api_Setting b_2.Facts)), .p (.l (List.map enc_api_File b_2.Files)), .p (.l (List.map enc_api_Setting b_2.Settings)), .p (.l (List.map enc_api_Service b_2.Services))]] := by
  intro s hs
  have hm := hk_17 _ hs
  clear hs
  try dsimp only at hm
  try dsimp only
  refine hK2 _ _ ?_
  refine Wp.seqW fun K3 hK3 hW3 => ?_
  obtain ⟨r_18, hr_18, hm⟩ := call_elim hm
  refine Wp.seqR fun K4 hK4 => ?_
  simp only [go_sem, simprocAttr]
  try refine ⟨sd, ?_⟩
  refine Rg.callX (av := ?av5) (g := true) (fun hg => ok_slices_Equal_api_Setting_api_Setting a_1.Facts b_2.Facts _ hr_18) si si si sg si ?cont5
  intro hv5
  simp only [go_sem, simprocAttr]
  first | apply hK4 | refine ⟨sd, hK4 _ _ ?_⟩
  refine cM hm (fun hc6 hm => ?_) (fun hc6 hm => ?_)
  ·refine qS ?_
   refine Wp.ret ?_
   simp only [thenQ, blockQ]
   refine retQ_retE ?_
   cases hm
   exact fse4
  ·refine Wp.skip ?_
   refine hK3 _ _ ?_
   obtain ⟨r_19, hr_19, hm⟩ := call_elim hm
   refine Wp.seqR fun K8 hK8 => ?_
   simp only [go_sem, simprocAttr]
   try refine ⟨sd, ?_⟩
   refine Rg.callF (av := ?av9) (ok_disk_diff a_1 b_2 _ hr_19) si si sg ?cont9
   intro hv9
   simp only [go_sem, simprocAttr]
   first | apply hK8 | refine ⟨sd, hK8 _ _ ?_⟩
   refine Wp.ret ?_
   refine retQ_ret ?_
   cases hm
   exact fse4
 clear hK2 hk_17
 refine qS ?_
 refine Wp.block ?_
 refine Wp.loopK 9 ?_
 simp only [WpL]
 refine qS ?_
 refine Wp.seqW fun K12 hK12 hW12 => ?_
 refine Wp.cond rfl ⟨⟩ (fun hc13 => ?_) (fun hc13 => ?_)
 rotate_left
 ·cases hc13
 refine Wp.skip ?_
 refine hK12 _ _ ?_
 refine Wp.seqW fun K14 hK14 hW14 => ?_
 refine Wp.block ?_
 refine qS ?_
 obtain ⟨r_32, hr_32, hm⟩ := call_elim hm
 refine Wp.seqR fun K16 hK16 => ?_
 simp only [go_sem, simprocAttr]
 try refine ⟨sd, ?_⟩
 refine Rg.callX (av := ?av17) (g := true) (fun hg => ok_disk_Check a_1 _ hr_32) si si si sg si ?cont17
 intro hv17
 simp only [go_sem, simprocAttr]
 first | apply hK16 | refine ⟨sd, hK16 _ _ ?_⟩
 refine qS ?_
 refine cM hm (fun hc19 hm => ?_) (fun hc19 hm => ?_)
 ·refine qS ?_
  refine Wp.ret ?_
  simp only [thenQ, blockQ]
  refine retQ_retE ?_
  cases hm
  exact fse4
 ·refine Wp.skip ?_
  refine hK14 _ _ ?_
  refine qR ?_
  simp only [thenQ, blockQ, ↓reduceIte]
  try simp only [WpL]
  refine qS ?_
  refine Wp.seqW fun K23 hK23 hW23 => ?_
  refine Wp.cond rfl ⟨⟩ (fun hc24 => ?_) (fun hc24 => ?_)
  rotate_left
  ·cases hc24
  refine Wp.skip ?_
  refine hK23 _ _ ?_
  refine Wp.seqW fun K25 hK25 hW25 => ?_
  refine Wp.block ?_
  refine qS ?_
  obtain ⟨r_33, hr_33, hm⟩ := call_elim hm
  refine Wp.seqR fun K27 hK27 => ?_
  simp only [go_sem, simprocAttr]
  try refine ⟨sd, ?_⟩
  refine Rg.callX (av := ?av28) (g := true) (fun hg => ok_disk_Check b_2 _ hr_33) si si si sg si ?cont28
  intro hv28
  simp only [go_sem, simprocAttr]
  first | apply hK27 | refine ⟨sd, hK27 _ _ ?_⟩
  refine qS ?_
  refine cM hm (fun hc30 hm => ?_) (fun hc30 hm => ?_)
  ·refine qS ?_
   refine Wp.ret ?_
   simp only [thenQ, blockQ]
   refine retQ_retE ?_
   cases hm
   exact fse4
  ·refine Wp.skip ?_
   refine hK25 _ _ ?_
   refine qR ?_
   simp only [thenQ, blockQ, ↓reduceIte]
   try simp only [WpL]
   refine qS ?_
   refine Wp.seqW fun K34 hK34 hW34 => ?_
   refine Wp.cond rfl ⟨⟩ (fun hc35 => ?_) (fun hc35 => ?_)
   ·cases hc35
   refine Wp.exit ?_
   refine hW2 _ _ _ _ ?_ (hcut2 () hm)
   exact fse4
theorem ok_Law_MachinesDiffer (a_1 : api_Machine) (b_2 : api_Machine) (facts_3 : Bool) (z : Bool) (hm : Law_MachinesDiffer a_1 b_2 facts_3 = some z) : Does Tryz.prog 7 [.agg [.p (.l (List.map enc_api_Setting a_1.Facts)), .p (.l (List.map enc_api_File a_1.Files)), .p (.l (List.map enc_api_Setting a_1.Settings)), .p (.l (List.map enc_api_Service a_1.Services))], .agg [.p (.l (List.map enc_api_Setting b_2.Facts)), .p (.l (List.map enc_api_File b_2.Files)), .p (.l (List.map enc_api_Setting b_2.Settings)), .p (.l (List.map enc_api_Service b_2.Services))], .p (.b facts_3)] [] (fun r X => r = .p (.b z) ∧ X = []) := by
 unfold Law_MachinesDiffer at hm
 refine Does.of_wp 0 65 [.tmp 6] Tryz.func7 rfl (by decide) rfl rfl (Nat.le_of_ble_eq_true rfl) fun B => ?_
 refine qS ?_
 refine Wp.seqW fun K2 hK2 hW2 => ?_
 obtain ⟨r_4, hr_4, hm⟩ := call_elim hm
 refine Wp.seqR fun K3 hK3 => ?_
 simp only [go_sem, simprocAttr]
 try refine ⟨sd, ?_⟩
 refine Rg.callX (av := ?av4) (g := true) (fun hg => ok_Law_landed  _ hr_4) si si si sg si ?cont4
 intro hv4
 simp only [go_sem, simprocAttr]
 first | apply hK3 | refine ⟨sd, hK3 _ _ ?_⟩
 refine cM hm (fun hc5 hm => ?_) (fun hc5 hm => ?_)
 ·refine qS ?_
  refine Wp.ret ?_
  refine retQ_ret ?_
  cases hm
  exact fse4
 ·refine Wp.skip ?_
  refine hK2 _ _ ?_
  obtain ⟨r_8, hr_8, hm⟩ := call_elim hm
  obtain ⟨r_9, hr_9, hm⟩ := call_elim hm
  refine Wp.seqD (plan := [(0, none), (2, none), (1, some [2]), (3, some []), (4, some []), (5, some [])]) (by kernel_rfl) rfl (by kernel_rfl) fun K7 hK7 => ?_
  simp only [go_sem, simprocAttr]
  try refine ⟨sd, ?_⟩
  refine Dr.callE (av := ?av8) (o := ?o8) [] (ok_Law_fit a_1 _ hr_8) si si si si si sg sg sg sg ?cont8
  simp only [go_sem, simprocAttr]
  try refine ⟨sd, ?_⟩
  refine Dr.callE (av := ?av9) (o := ?o9) [] (ok_Law_fit b_2 _ hr_9) si si si si si sg sg sg sg ?cont9
  simp only [go_sem, simprocAttr]
  first | apply hK7 | refine ⟨sd, hK7 _ _ ?_⟩
  refine Wp.seqW fun K10 hK10 hW10 => ?_
  obtain ⟨k_11, hk_11, hm⟩ := jp_elim hm
  have hcut10 : ∀ s, k_11 s = some z → K10 [(3, .ptr 0 0), (4, .ptr 1 0)] [.cells 26 [.p (.l (List.map enc_api_Setting r_8.Facts)), .p (.l (List.map enc_api_File r_8.Files)), .p (.l (List.map enc_api_Setting r_8.Settings)), .p (.l (List.map enc_api_Service r_8.Services))], .cells 26 [.p (.l (List.map enc_api_Setting s)), .p (.l (List.map enc_api_File r_9.Files)), .p (.l (List.map enc_api_Setting r_9.Settings)), .p (.l (List.map enc_api_Service r_9.Services))]] := by
   intro o1_0_10 hs
   have hm := hk_11 _ hs
   clear hs
   try dsimp only at hm
   try dsimp only
   refine hK10 _ _ ?_
   obtain ⟨r_12, hr_12, hm⟩ := call_elim hm
   refine Wp.seqR fun K11 hK11 => ?_
   simp only [go_sem, simprocAttr]
   try refine ⟨sd, ?_⟩
   refine Rg.callF (av := ?av12) (ok_disk_Diff r_8 (api_Machine.mk o1_0_10 r_9.Files r_9.Settings r_9.Services) _ hr_12) si si sg ?cont12
   intro hv12
   simp only [go_sem, simprocAttr]
   first | apply hK11 | refine ⟨sd, hK11 _ _ ?_⟩
   refine Wp.seqW fun K13 hK13 hW13 => ?_
   obtain ⟨r_13, hr_13, hm⟩ := call_elim hm
   refine Wp.seqR fun K14 hK14 => ?_
   simp only [go_sem, simprocAttr]
   try refine ⟨sd, ?_⟩
   refine Rg.callX (av := ?av15) (g := true) (fun hg => ok_slices_Equal_api_Setting_api_Setting r_8.Facts o1_0_10 _ hr_13) si si si sg si ?cont15
   intro hv15
   simp only [go_sem, simprocAttr]
   first | apply hK14 | refine ⟨sd, hK14 _ _ ?_⟩
   refine cM hm (fun hc16 hm => ?_) (fun hc16 hm => ?_)
   ·refine qS ?_
    refine Wp.ret ?_
    refine retQ_ret ?_
    cases hm
    exact fse4
   ·refine Wp.skip ?_
    refine hK13 _ _ ?_
    obtain ⟨r_14, hr_14, hm⟩ := call_elim hm
    refine Wp.seqR fun K18 hK18 => ?_
    simp only [go_sem, simprocAttr]
    try refine ⟨sd, ?_⟩
    refine Rg.callF (av := ?av19) (ok_disk_Apply r_8 r_12.1 _ hr_14) si si sg ?cont19
    intro hv19
    simp only [go_sem, simprocAttr]
    first | apply hK18 | refine ⟨sd, hK18 _ _ ?_⟩
    obtain ⟨r_15, hr_15, hr_15d, hm⟩ := callG_elim2 hm
    obtain ⟨r_16, hr_16, hm⟩ := callG_elim hm
    obtain ⟨r_17, hr_17, hm⟩ := callG_elim hm
    refine Wp.seqR fun K20 hK20 => ?_
    simp only [go_sem, simprocAttr]
    try refine ⟨sd, ?_⟩
    refine Rg.callGO (av := ?av21) (g := decide (r_12.2 = 0)) [] (fun hg => ok_R_Diff r_8 (api_Machine.mk o1_0_10 r_9.Files r_9.Settings r_9.Services) _ (hr_15 hg)) (fun hg => by obtain rfl := hr_15d hg; rfl) si si si si sg sg ?cont21
    simp only [go_sem, simprocAttr]
    try refine ⟨sd, ?_⟩
    refine Rg.callX (av := ?av22) (g := decide (r_12.2 = 0)) (fun hg => ok_slices_Equal_api_Change_api_Change r_12.1 r_15 _ (hr_16 hg)) si si si sg si ?cont22
    intro hv22
    simp only [go_sem, simprocAttr]
    try refine ⟨sd, ?_⟩
    refine Rg.callX (av := ?av23) (g := (((decide (r_12.2 = 0)) && r_16) && (decide (r_14.2 = 0)))) (fun hg => ok_R_Same r_14.1 (api_Machine.mk o1_0_10 r_9.Files r_9.Settings r_9.Services) _ (hr_17 hg)) si si si sg si ?cont23
    intro hv23
    simp only [go_sem, simprocAttr]
    first | apply hK20 | refine ⟨sd, hK20 _ _ ?_⟩
    refine Wp.ret ?_
    refine retQ_ret ?_
    cases hm
    exact fse4
  clear hK10 hk_11
  refine qS ?_
  refine cM hm (fun hc25 hm => ?_) (fun hc25 hm => ?_)
  ·refine qR ?_
   refine hW10 _ _ _ _ ?_ (hcut10 r_8.Facts hm)
   exact fse4
  ·refine Wp.skip ?_
   refine hW10 _ _ _ _ ?_ (hcut10 r_9.Facts hm)
   exact fse4
end Go.Proofs.YtbfemlilfeahkaaGreatDoor
