/- That the code does what the models say (part 5). -/
import Derived.Test.YthmjpfooffbhhaaGreatDoorLrWk0
import Derived.Test.YthmjpfooffbhhaaGreatDoorLrWk1
import Derived.Test.YthmjpfooffbhhaaGreatDoorLrWk3
import Derived.Test.YthmjpfooffbhhaaGreatDoorLrWk4
set_option linter.unusedSimpArgs false
set_option linter.unusedVariables false
open Go.Proofs Go.Shelf
namespace Go.Proofs.YthmjpfooffbhhaaGreatDoor
open Go.Vc Go.Md
set_option maxRecDepth 100000
set_option maxHeartbeats 4000000
theorem ok_Law_could (l_1 : List api_Record) (raw_2 : Bool) (z : List api_Record) (hm : Law_could l_1 raw_2 = some z) : Does Tryz.prog 7 [.p (.l (List.map enc_api_Record l_1)), .p (.b raw_2)] [] (fun r X => r = .p (.l (List.map enc_api_Record z)) ∧ X = []) := by
 unfold Law_could at hm
 refine Does.of_wp 0 42 [.tmp 4] Tryz.func7 rfl (by decide) rfl rfl (Nat.le_of_ble_eq_true rfl) fun B => ?_
 refine qS ?_
 refine Wp.seqW fun K2 hK2 hW2 => ?_
 refine qS ?_
 refine cM hm (fun hc4 hm => ?_) (fun hc4 hm => ?_)
 ·refine qS ?_
  refine Wp.ret ?_
  refine retQ_ret ?_
  cases hm
  exact fse1
 ·refine Wp.skip ?_
  refine hK2 _ _ ?_
  obtain ⟨c_3, hm⟩ := chk_elim hm
  obtain ⟨r_4, hr_4, hm⟩ := call_elim hm
  refine Wp.seqR fun K6 hK6 => ?_
  simp only [go_sem, simprocAttr]
  try refine ⟨by first | exact sd | ((repeat' apply And.intro) <;> first | assumption | omega | (simp only [List.length_append, List.length_map, List.length_cons, List.length_nil, List.length_set, List.length_replicate] at c_3 ⊢; omega)), ?_⟩
  refine Rg.callO (av := ?av7) [] (ok_slices_Clone_api_Record_api_Record_new (List.take ((min (l_1.length : Int) 60).toNat) l_1) _ hr_4) si si si sg sg ?cont7
  rintro _ _ ⟨rfl, rfl⟩ hv7
  simp only [go_sem, simprocAttr]
  first | apply hK6 | refine ⟨by first | exact sd | ((repeat' apply And.intro) <;> first | assumption | omega | (simp only [List.length_append, List.length_map, List.length_cons, List.length_nil, List.length_set, List.length_replicate] at c_3 ⊢; omega)), hK6 _ _ ?_⟩
  refine Wp.toFix 0 (by simp only [go_sem, simprocAttr]; exact Is.mk) (by simp only [go_sem, simprocAttr]) ?_
  simp only [go_sem, simprocAttr]
  obtain ⟨r_5, hr_5, hm⟩ := call_elim hm
  refine Wp.seqR fun K8 hK8 => ?_
  simp only [go_sem, simprocAttr]
  try refine ⟨sd, ?_⟩
  refine Rg.callO (av := ?av9) [0] (ok_slices_SortStableFunc_api_Record_api_Record_i1 r_4 _ hr_5) si si si sg sg ?cont9
  rintro _ _ ⟨rfl, rfl⟩ hv9
  simp only [go_sem, simprocAttr]
  first | apply hK8 | refine ⟨sd, hK8 _ _ ?_⟩
  refine Wp.toBuf 0 (by simp only [go_sem, simprocAttr]; exact Is.mk) (by simp only [go_sem, simprocAttr]) ?_
  simp only [go_sem, simprocAttr]
  refine qS ?_
  refine Wp.seqW fun K11 hK11 hW11 => ?_
  obtain ⟨k_43, hk_43, hm⟩ := jp_elim hm
  have hcut11 : ∀ s, k_43 s = some z → K11 [(5, .buf 1)] [.gone, .buf 32 13 (List.map enc_api_Record s)] := by
   intro o1_42 hs
   have hm := hk_43 _ hs
   clear hs
   try dsimp only at hm
   try dsimp only
   refine hK11 _ _ ?_
   refine qS ?_
   refine Wp.ret ?_
   refine retQ_ret ?_
   cases hm
   exact fse2
  clear hK11 hk_43
  refine qS ?_
  refine Wp.block ?_
  refine Wp.adopt 5 32 13 rfl ?_
  simp only [go_sem, simprocAttr]
  obtain ⟨k_65, hk_65, hm⟩ := forC_cont hm
  refine Wp.factO 0 fun hl_68 => ?_
  replace hl_68 : r_5.length ≤ 274877906944 := by
   simp only [go_sem, simprocAttr, List.length_map] at hl_68
   omega
  refine Wp.forC (fun i_67 s => [(5, .buf 1), (18, .buf 0), (19, .p (.i .i64 (r_5.length : Int))), (20, .p (.i .i64 (i_67 : Int)))]) (fun i_67 s => [.buf 32 13 (List.map enc_api_Record r_5), .buf 32 13 (List.map enc_api_Record s)]) ?_ hm ?_
  ·
   exact fse2
  clear hm
  intro i_67 o1_55 hii_67 hm
  try dsimp only at hm
  try dsimp only
  refine qS ?_
  refine Wp.seqW fun K15 hK15 hW15 => ?_
  refine Wp.cond rfl ⟨⟩ (fun hc15 => ?_) (fun hc15 => ?_)
  rotate_left
  ·refine Wp.exit ?_
   have hm := hk_65 _ (forC_end hm (ge_nat (by first | exact hc15 | simpa using hc15)))
   try dsimp only at hm
   refine hW11 _ _ _ _ ?_ (hcut11 o1_55 hm)
   exact fse2
  have hlt15 := lt_nat (by first | exact hc15 | simpa using hc15)
  have hw15 := wrap_succ hlt15 hl_68
  obtain ⟨nx_66, hnx_66, hm⟩ := forC_step hm hlt15
  refine Wp.skip ?_
  simp only [thenQ]
  refine hK15 _ _ ?_
  refine Wp.seqW fun K16 hK16 hW16 => ?_
  refine Wp.block ?_
  have hr_70 := fun h => getD_encB (l := r_5) (e := enc_api_Record) (d := (api_Record.mk 0 0 [] (api_Version.mk 0 0 0 []) (api_Version.mk 0 0 0 []) 0 [])) (i := i_67) h []
  refine Wp.seqR fun K17 hK17 => ?_
  simp only [go_sem, simprocAttr, hw15, hr_70 (by omega)]
  first | apply hK17 | refine ⟨sd, hK17 _ _ ?_⟩
  obtain ⟨r_71, hr_71, hm⟩ := call_elim hm
  obtain ⟨r_72, hr_72, hm⟩ := callG_elim hm
  obtain ⟨c_73, hm⟩ := chk_elim hm
  obtain ⟨r_74, hr_74, hm⟩ := callG_elim hm
  refine Wp.seqDW (plan := (.rd 0 (.rd 1 (.rd 2 (.rd 3 (.rd 4 (.rd 6 (.fk 5 [6] (.ef 7 [4] (.ef 8 [] (.rd 9 (.rd 10 (.rd 11 .nil))))) 7 [4] (.ef 5 [6] (.ef 8 [] (.rd 9 (.rd 10 (.rd 11 .nil))))))))))))) (by kernel_rfl) rfl (by kernel_rfl) fun K18 hK18 hW18 => ?_
  suffices hcont18 : K18 [(5, .buf 1), (7, .ptr 2 0), (18, .buf 0), (19, .p (.i .i64 (r_5.length : Int))), (20, .p (.i .i64 (i_67 : Int))), (21, .p (.b (decide ((i_67 : Int) < (r_5.length : Int))))), (23, .agg [.p (.i .i64 ((r_5.getD i_67 (api_Record.mk 0 0 [] (api_Version.mk 0 0 0 []) (api_Version.mk 0 0 0 []) 0 [])).Time)), .p (.i .i64 ((r_5.getD i_67 (api_Record.mk 0 0 [] (api_Version.mk 0 0 0 []) (api_Version.mk 0 0 0 []) 0 [])).Kind)), .p (.s ((r_5.getD i_67 (api_Record.mk 0 0 [] (api_Version.mk 0 0 0 []) (api_Version.mk 0 0 0 []) 0 [])).Pack)), .p (.i .i64 (((r_5.getD i_67 (api_Record.mk 0 0 [] (api_Version.mk 0 0 0 []) (api_Version.mk 0 0 0 []) 0 [])).From).Major)), .p (.i .i64 (((r_5.getD i_67 (api_Record.mk 0 0 [] (api_Version.mk 0 0 0 []) (api_Version.mk 0 0 0 []) 0 [])).From).Minor)), .p (.i .i64 (((r_5.getD i_67 (api_Record.mk 0 0 [] (api_Version.mk 0 0 0 []) (api_Version.mk 0 0 0 []) 0 [])).From).Patch)), .p (.s (((r_5.getD i_67 (api_Record.mk 0 0 [] (api_Version.mk 0 0 0 []) (api_Version.mk 0 0 0 []) 0 [])).From).Early)), .p (.i .i64 (((r_5.getD i_67 (api_Record.mk 0 0 [] (api_Version.mk 0 0 0 []) (api_Version.mk 0 0 0 []) 0 [])).To).Major)), .p (.i .i64 (((r_5.getD i_67 (api_Record.mk 0 0 [] (api_Version.mk 0 0 0 []) (api_Version.mk 0 0 0 []) 0 [])).To).Minor)), .p (.i .i64 (((r_5.getD i_67 (api_Record.mk 0 0 [] (api_Version.mk 0 0 0 []) (api_Version.mk 0 0 0 []) 0 [])).To).Patch)), .p (.s (((r_5.getD i_67 (api_Record.mk 0 0 [] (api_Version.mk 0 0 0 []) (api_Version.mk 0 0 0 []) 0 [])).To).Early)), .p (.i .i64 ((r_5.getD i_67 (api_Record.mk 0 0 [] (api_Version.mk 0 0 0 []) (api_Version.mk 0 0 0 []) 0 [])).Result)), .p (.s ((r_5.getD i_67 (api_Record.mk 0 0 [] (api_Version.mk 0 0 0 []) (api_Version.mk 0 0 0 []) 0 [])).Note))]), (24, .agg [.p (.i .i64 ((r_5.getD i_67 (api_Record.mk 0 0 [] (api_Version.mk 0 0 0 []) (api_Version.mk 0 0 0 []) 0 [])).Time)), .p (.i .i64 ((r_5.getD i_67 (api_Record.mk 0 0 [] (api_Version.mk 0 0 0 []) (api_Version.mk 0 0 0 []) 0 [])).Kind)), .p (.s ((r_5.getD i_67 (api_Record.mk 0 0 [] (api_Version.mk 0 0 0 []) (api_Version.mk 0 0 0 []) 0 [])).Pack)), .p (.i .i64 (((r_5.getD i_67 (api_Record.mk 0 0 [] (api_Version.mk 0 0 0 []) (api_Version.mk 0 0 0 []) 0 [])).From).Major)), .p (.i .i64 (((r_5.getD i_67 (api_Record.mk 0 0 [] (api_Version.mk 0 0 0 []) (api_Version.mk 0 0 0 []) 0 [])).From).Minor)), .p (.i .i64 (((r_5.getD i_67 (api_Record.mk 0 0 [] (api_Version.mk 0 0 0 []) (api_Version.mk 0 0 0 []) 0 [])).From).Patch)), .p (.s (((r_5.getD i_67 (api_Record.mk 0 0 [] (api_Version.mk 0 0 0 []) (api_Version.mk 0 0 0 []) 0 [])).From).Early)), .p (.i .i64 (((r_5.getD i_67 (api_Record.mk 0 0 [] (api_Version.mk 0 0 0 []) (api_Version.mk 0 0 0 []) 0 [])).To).Major)), .p (.i .i64 (((r_5.getD i_67 (api_Record.mk 0 0 [] (api_Version.mk 0 0 0 []) (api_Version.mk 0 0 0 []) 0 [])).To).Minor)), .p (.i .i64 (((r_5.getD i_67 (api_Record.mk 0 0 [] (api_Version.mk 0 0 0 []) (api_Version.mk 0 0 0 []) 0 [])).To).Patch)), .p (.s (((r_5.getD i_67 (api_Record.mk 0 0 [] (api_Version.mk 0 0 0 []) (api_Version.mk 0 0 0 []) 0 [])).To).Early)), .p (.i .i64 ((r_5.getD i_67 (api_Record.mk 0 0 [] (api_Version.mk 0 0 0 []) (api_Version.mk 0 0 0 []) 0 [])).Result)), .p (.s ((r_5.getD i_67 (api_Record.mk 0 0 [] (api_Version.mk 0 0 0 []) (api_Version.mk 0 0 0 []) 0 [])).Note))]), (25, .p (.i .i64 r_71)), (26, .p (.b (decide (r_71 = 0)))), (27, .p (.b (decide (r_71 = 0)))), (29, .top), (35, .p (.b ((decide (r_71 = 0)) && (decide (r_74 = 0)))))] [.buf 32 13 (List.map enc_api_Record r_5), .buf 32 13 (List.map enc_api_Record o1_55), .cells 32 [.p (.i .i64 ((r_5.getD i_67 (api_Record.mk 0 0 [] (api_Version.mk 0 0 0 []) (api_Version.mk 0 0 0 []) 0 [])).Time)), .p (.i .i64 ((r_5.getD i_67 (api_Record.mk 0 0 [] (api_Version.mk 0 0 0 []) (api_Version.mk 0 0 0 []) 0 [])).Kind)), .p (.s ((r_5.getD i_67 (api_Record.mk 0 0 [] (api_Version.mk 0 0 0 []) (api_Version.mk 0 0 0 []) 0 [])).Pack)), .p (.i .i64 (((r_5.getD i_67 (api_Record.mk 0 0 [] (api_Version.mk 0 0 0 []) (api_Version.mk 0 0 0 []) 0 [])).From).Major)), .p (.i .i64 (((r_5.getD i_67 (api_Record.mk 0 0 [] (api_Version.mk 0 0 0 []) (api_Version.mk 0 0 0 []) 0 [])).From).Minor)), .p (.i .i64 (((r_5.getD i_67 (api_Record.mk 0 0 [] (api_Version.mk 0 0 0 []) (api_Version.mk 0 0 0 []) 0 [])).From).Patch)), .p (.s (((r_5.getD i_67 (api_Record.mk 0 0 [] (api_Version.mk 0 0 0 []) (api_Version.mk 0 0 0 []) 0 [])).From).Early)), .p (.i .i64 (((r_5.getD i_67 (api_Record.mk 0 0 [] (api_Version.mk 0 0 0 []) (api_Version.mk 0 0 0 []) 0 [])).To).Major)), .p (.i .i64 (((r_5.getD i_67 (api_Record.mk 0 0 [] (api_Version.mk 0 0 0 []) (api_Version.mk 0 0 0 []) 0 [])).To).Minor)), .p (.i .i64 (((r_5.getD i_67 (api_Record.mk 0 0 [] (api_Version.mk 0 0 0 []) (api_Version.mk 0 0 0 []) 0 [])).To).Patch)), .p (.s (((r_5.getD i_67 (api_Record.mk 0 0 [] (api_Version.mk 0 0 0 []) (api_Version.mk 0 0 0 []) 0 [])).To).Early)), .p (.i .i64 ((r_5.getD i_67 (api_Record.mk 0 0 [] (api_Version.mk 0 0 0 []) (api_Version.mk 0 0 0 []) 0 [])).Result)), .p (.s ((r_5.getD i_67 (api_Record.mk 0 0 [] (api_Version.mk 0 0 0 []) (api_Version.mk 0 0 0 []) 0 [])).Note))]] by
   rcases Bool.eq_false_or_eq_true (decide (r_71 = 0)) with hg_75 | hg_75
   ·
    have c_76 := c_73 hg_75
    simp only [go_sem, simprocAttr, false_implies, and_true, true_and, bad, hw15, hg_75]
    try refine ⟨by first | exact sd | ((repeat' apply And.intro) <;> first | assumption | omega | (simp only [List.length_append, List.length_map, List.length_cons, List.length_nil, List.length_set, List.length_replicate] at c_73 c_76 ⊢; omega)), ?_⟩
    refine Dr.callF (av := ?av19) (g := true) (o := ?o19) (fun hg => ok_R_RecordError (r_5.getD i_67 (api_Record.mk 0 0 [] (api_Version.mk 0 0 0 []) (api_Version.mk 0 0 0 []) 0 [])) _ hr_71) (by simp only [go_sem, simprocAttr, false_implies, and_true, true_and, bad, hw15, hg_75]; exact Is.mk) (by simp only [go_sem, simprocAttr, false_implies, and_true, true_and, bad, hw15, hg_75]; exact Is.mk) (by simp only [go_sem, simprocAttr, false_implies, and_true, true_and, bad, hw15, hg_75]; exact Is.mk) (by simp only [go_sem, simprocAttr, false_implies, and_true, true_and, bad, hw15, hg_75]; exact Is.mk) (by simp only [go_sem, simprocAttr, false_implies, and_true, true_and, bad, hw15, hg_75]) (by simp only [go_sem, simprocAttr, false_implies, and_true, true_and, bad, hw15, hg_75]; exact Is.mk) ?cont19
    simp only [go_sem, simprocAttr, false_implies, and_true, true_and, bad, hw15, hg_75]
    try refine ⟨by first | exact sd | ((repeat' apply And.intro) <;> first | assumption | omega | (simp only [List.length_append, List.length_map, List.length_cons, List.length_nil, List.length_set, List.length_replicate] at c_73 c_76 ⊢; omega)), ?_⟩
    refine Dr.fk ?_ ?_
    ·
     refine id (Br.callLN (av := ?av20) (o := ?o20) (ok_slices_Clone_api_Record_api_Record_new o1_55 _ (hr_72 hg_75)) (flatRs_map (fun _ => rfl) _) (by simp only [go_sem, simprocAttr, false_implies, and_true, true_and, bad, hw15, hg_75]; exact Is.mk) (by simp only [go_sem, simprocAttr, false_implies, and_true, true_and, bad, hw15, hg_75]; exact Is.mk) (by simp only [go_sem, simprocAttr, false_implies, and_true, true_and, bad, hw15, hg_75]; exact Is.mk) (by simp only [go_sem, simprocAttr, false_implies, and_true, true_and, bad, hw15, hg_75]; exact Is.mk) (by simp only [go_sem, simprocAttr, false_implies, and_true, true_and, bad, hw15, hg_75]) (by simp only [go_sem, simprocAttr, false_implies, and_true, true_and, bad, hw15, hg_75]) ?cont20)
     simp only [go_sem, simprocAttr, false_implies, and_true, true_and, bad, hw15, hg_75]
     try refine ⟨by first | exact sd | ((repeat' apply And.intro) <;> first | assumption | omega | (simp only [List.length_append, List.length_map, List.length_cons, List.length_nil, List.length_set, List.length_replicate] at c_73 c_76 ⊢; omega)), ?_⟩
     refine Dr.callF (av := ?av21) (g := decide (r_71 = 0)) (o := ?o21) (fun hg => ok_R_RecordsError (r_72 ++ [(r_5.getD i_67 (api_Record.mk 0 0 [] (api_Version.mk 0 0 0 []) (api_Version.mk 0 0 0 []) 0 []))]) _ (hr_74 hg)) (by simp only [go_sem, simprocAttr, false_implies, and_true, true_and, bad, hw15, hg_75]; exact Is.mk) (by simp only [go_sem, simprocAttr, false_implies, and_true, true_and, bad, hw15, hg_75]; exact Is.mk) (by simp only [go_sem, simprocAttr, false_implies, and_true, true_and, bad, hw15, hg_75]; exact Is.mk) (by simp only [go_sem, simprocAttr, false_implies, and_true, true_and, bad, hw15, hg_75, List.map_append, List.map_cons, List.map_nil]; exact Is.mk) (by simp only [go_sem, simprocAttr, false_implies, and_true, true_and, bad, hw15, hg_75]) (by simp only [go_sem, simprocAttr, false_implies, and_true, true_and, bad, hw15, hg_75]; exact Is.mk) ?cont21
     simp only [go_sem, simprocAttr, false_implies, and_true, true_and, bad, hw15, hg_75]
     first | refine hW18 _ _ _ _ ?_ hcont18 | refine ⟨by first | exact sd | ((repeat' apply And.intro) <;> first | assumption | omega | (simp only [List.length_append, List.length_map, List.length_cons, List.length_nil, List.length_set, List.length_replicate] at c_73 c_76 ⊢; omega)), hW18 _ _ _ _ ?_ hcont18⟩
     simp only [go_sem, simprocAttr, false_implies, and_true, true_and, bad, hw15, hg_75]
     try exact se2
    ·
     refine Br.runT (o := ?o22) (gw := ?gw22) (by simp only [go_sem, simprocAttr, false_implies, and_true, true_and, bad, hw15, hg_75]; exact Is.mk) (by simp only [go_sem, simprocAttr, false_implies, and_true, true_and, bad, hw15, hg_75]; exact Is.mk) (by simp only [go_sem, simprocAttr, false_implies, and_true, true_and, bad, hw15, hg_75]; exact Is.mk) ?cont22
     simp only [go_sem, simprocAttr, false_implies, and_true, true_and, bad, hw15, hg_75]
     try refine ⟨by first | exact sd | ((repeat' apply And.intro) <;> first | assumption | omega | (simp only [List.length_append, List.length_map, List.length_cons, List.length_nil, List.length_set, List.length_replicate] at c_73 c_76 ⊢; omega)), ?_⟩
     refine Dr.of_br (Br.callLN (av := ?av23) (o := ?o23) (ok_slices_Clone_api_Record_api_Record_new o1_55 _ (hr_72 hg_75)) (flatRs_map (fun _ => rfl) _) (by simp only [go_sem, simprocAttr, false_implies, and_true, true_and, bad, hw15, hg_75]; exact Is.mk) (by simp only [go_sem, simprocAttr, false_implies, and_true, true_and, bad, hw15, hg_75]; exact Is.mk) (by simp only [go_sem, simprocAttr, false_implies, and_true, true_and, bad, hw15, hg_75]; exact Is.mk) (by simp only [go_sem, simprocAttr, false_implies, and_true, true_and, bad, hw15, hg_75]; exact Is.mk) (by simp only [go_sem, simprocAttr, false_implies, and_true, true_and, bad, hw15, hg_75]) (by simp only [go_sem, simprocAttr, false_implies, and_true, true_and, bad, hw15, hg_75]) ?cont23)
     simp only [go_sem, simprocAttr, false_implies, and_true, true_and, bad, hw15, hg_75]
     try refine ⟨by first | exact sd | ((repeat' apply And.intro) <;> first | assumption | omega | (simp only [List.length_append, List.length_map, List.length_cons, List.length_nil, List.length_set, List.length_replicate] at c_73 c_76 ⊢; omega)), ?_⟩
     refine Dr.callF (av := ?av24) (g := decide (r_71 = 0)) (o := ?o24) (fun hg => ok_R_RecordsError (r_72 ++ [(r_5.getD i_67 (api_Record.mk 0 0 [] (api_Version.mk 0 0 0 []) (api_Version.mk 0 0 0 []) 0 []))]) _ (hr_74 hg)) (by simp only [go_sem, simprocAttr, false_implies, and_true, true_and, bad, hw15, hg_75]; exact Is.mk) (by simp only [go_sem, simprocAttr, false_implies, and_true, true_and, bad, hw15, hg_75]; exact Is.mk) (by simp only [go_sem, simprocAttr, false_implies, and_true, true_and, bad, hw15, hg_75]; exact Is.mk) (by simp only [go_sem, simprocAttr, false_implies, and_true, true_and, bad, hw15, hg_75, List.map_append, List.map_cons, List.map_nil]; exact Is.mk) (by simp only [go_sem, simprocAttr, false_implies, and_true, true_and, bad, hw15, hg_75]) (by simp only [go_sem, simprocAttr, false_implies, and_true, true_and, bad, hw15, hg_75]; exact Is.mk) ?cont24
     simp only [go_sem, simprocAttr, false_implies, and_true, true_and, bad, hw15, hg_75]
     first | refine hW18 _ _ _ _ ?_ hcont18 | refine ⟨by first | exact sd | ((repeat' apply And.intro) <;> first | assumption | omega | (simp only [List.length_append, List.length_map, List.length_cons, List.length_nil, List.length_set, List.length_replicate] at c_73 c_76 ⊢; omega)), hW18 _ _ _ _ ?_ hcont18⟩
     simp only [go_sem, simprocAttr, false_implies, and_true, true_and, bad, hw15, hg_75]
     try exact se2
   ·
    simp only [go_sem, simprocAttr, false_implies, and_true, true_and, bad, hw15, hg_75]
    try refine ⟨by first | exact sd | ((repeat' apply And.intro) <;> first | assumption | omega | (simp only [List.length_append, List.length_map, List.length_cons, List.length_nil, List.length_set, List.length_replicate] at c_73 ⊢; omega)), ?_⟩
    refine Dr.callF (av := ?av25) (g := true) (o := ?o25) (fun hg => ok_R_RecordError (r_5.getD i_67 (api_Record.mk 0 0 [] (api_Version.mk 0 0 0 []) (api_Version.mk 0 0 0 []) 0 [])) _ hr_71) (by simp only [go_sem, simprocAttr, false_implies, and_true, true_and, bad, hw15, hg_75]; exact Is.mk) (by simp only [go_sem, simprocAttr, false_implies, and_true, true_and, bad, hw15, hg_75]; exact Is.mk) (by simp only [go_sem, simprocAttr, false_implies, and_true, true_and, bad, hw15, hg_75]; exact Is.mk) (by simp only [go_sem, simprocAttr, false_implies, and_true, true_and, bad, hw15, hg_75]; exact Is.mk) (by simp only [go_sem, simprocAttr, false_implies, and_true, true_and, bad, hw15, hg_75]) (by simp only [go_sem, simprocAttr, false_implies, and_true, true_and, bad, hw15, hg_75]; exact Is.mk) ?cont25
    simp only [go_sem, simprocAttr, false_implies, and_true, true_and, bad, hw15, hg_75]
    try refine ⟨by first | exact sd | ((repeat' apply And.intro) <;> first | assumption | omega | (simp only [List.length_append, List.length_map, List.length_cons, List.length_nil, List.length_set, List.length_replicate] at c_73 ⊢; omega)), ?_⟩
    refine Dr.fk ?_ ?_
    ·
     refine id (Br.skipG (o := ?o26) (v := .top) (gw := ?gw26) (by simp only [go_sem, simprocAttr, false_implies, and_true, true_and, bad, hw15, hg_75]; exact Is.mk) (by simp only [go_sem, simprocAttr, false_implies, and_true, true_and, bad, hw15, hg_75]; exact Is.mk) (by simp only [go_sem, simprocAttr, false_implies, and_true, true_and, bad, hw15, hg_75]; exact Is.mk) (by simp only [go_sem, simprocAttr, false_implies, and_true, true_and, bad, hw15, hg_75]) ?cont26)
     simp only [go_sem, simprocAttr, false_implies, and_true, true_and, bad, hw15, hg_75]
     try refine ⟨by first | exact sd | ((repeat' apply And.intro) <;> first | assumption | omega | (simp only [List.length_append, List.length_map, List.length_cons, List.length_nil, List.length_set, List.length_replicate] at c_73 ⊢; omega)), ?_⟩
     refine Dr.skipG (o := ?o27) (v := .p (.i .i64 r_74)) (gw := ?gw27) (by simp only [go_sem, simprocAttr, false_implies, and_true, true_and, bad, hw15, hg_75]; exact Is.mk) (by simp only [go_sem, simprocAttr, false_implies, and_true, true_and, bad, hw15, hg_75]; exact Is.mk) (by simp only [go_sem, simprocAttr, false_implies, and_true, true_and, bad, hw15, hg_75]; exact Is.mk) (by simp only [go_sem, simprocAttr, false_implies, and_true, true_and, bad, hw15, hg_75]) ?cont27
     simp only [go_sem, simprocAttr, false_implies, and_true, true_and, bad, hw15, hg_75]
     first | refine hW18 _ _ _ _ ?_ hcont18 | refine ⟨by first | exact sd | ((repeat' apply And.intro) <;> first | assumption | omega | (simp only [List.length_append, List.length_map, List.length_cons, List.length_nil, List.length_set, List.length_replicate] at c_73 ⊢; omega)), hW18 _ _ _ _ ?_ hcont18⟩
     simp only [go_sem, simprocAttr, false_implies, and_true, true_and, bad, hw15, hg_75]
     try exact se2
    ·
     refine Br.skipG (o := ?o28) (v := .top) (gw := ?gw28) (by simp only [go_sem, simprocAttr, false_implies, and_true, true_and, bad, hw15, hg_75]; exact Is.mk) (by simp only [go_sem, simprocAttr, false_implies, and_true, true_and, bad, hw15, hg_75]; exact Is.mk) (by simp only [go_sem, simprocAttr, false_implies, and_true, true_and, bad, hw15, hg_75]; exact Is.mk) (by simp only [go_sem, simprocAttr, false_implies, and_true, true_and, bad, hw15, hg_75]) ?cont28
     simp only [go_sem, simprocAttr, false_implies, and_true, true_and, bad, hw15, hg_75]
     try refine ⟨by first | exact sd | ((repeat' apply And.intro) <;> first | assumption | omega | (simp only [List.length_append, List.length_map, List.length_cons, List.length_nil, List.length_set, List.length_replicate] at c_73 ⊢; omega)), ?_⟩
     refine Dr.of_br (Br.skipG (o := ?o29) (v := .top) (gw := ?gw29) (by simp only [go_sem, simprocAttr, false_implies, and_true, true_and, bad, hw15, hg_75]; exact Is.mk) (by simp only [go_sem, simprocAttr, false_implies, and_true, true_and, bad, hw15, hg_75]; exact Is.mk) (by simp only [go_sem, simprocAttr, false_implies, and_true, true_and, bad, hw15, hg_75]; exact Is.mk) (by simp only [go_sem, simprocAttr, false_implies, and_true, true_and, bad, hw15, hg_75]) ?cont29)
     simp only [go_sem, simprocAttr, false_implies, and_true, true_and, bad, hw15, hg_75]
     try refine ⟨by first | exact sd | ((repeat' apply And.intro) <;> first | assumption | omega | (simp only [List.length_append, List.length_map, List.length_cons, List.length_nil, List.length_set, List.length_replicate] at c_73 ⊢; omega)), ?_⟩
     refine Dr.skipG (o := ?o30) (v := .p (.i .i64 r_74)) (gw := ?gw30) (by simp only [go_sem, simprocAttr, false_implies, and_true, true_and, bad, hw15, hg_75]; exact Is.mk) (by simp only [go_sem, simprocAttr, false_implies, and_true, true_and, bad, hw15, hg_75]; exact Is.mk) (by simp only [go_sem, simprocAttr, false_implies, and_true, true_and, bad, hw15, hg_75]; exact Is.mk) (by simp only [go_sem, simprocAttr, false_implies, and_true, true_and, bad, hw15, hg_75]) ?cont30
     simp only [go_sem, simprocAttr, false_implies, and_true, true_and, bad, hw15, hg_75]
     first | refine hW18 _ _ _ _ ?_ hcont18 | refine ⟨by first | exact sd | ((repeat' apply And.intro) <;> first | assumption | omega | (simp only [List.length_append, List.length_map, List.length_cons, List.length_nil, List.length_set, List.length_replicate] at c_73 ⊢; omega)), hW18 _ _ _ _ ?_ hcont18⟩
     simp only [go_sem, simprocAttr, false_implies, and_true, true_and, bad, hw15, hg_75]
     try exact se2
  refine hK18 _ _ ?_
  refine cM hm (fun hc31 hm => ?_) (fun hc31 hm => ?_)
  ·obtain ⟨c_77, hm⟩ := chk_elim hm
   refine Wp.region fun K32 hK32 => ?_
   simp only [go_sem, simprocAttr, hw15]
   first | apply hK32 | refine ⟨by first | exact sd | ((repeat' apply And.intro) <;> first | assumption | omega | (simp only [List.length_append, List.length_map, List.length_cons, List.length_nil, List.length_set, List.length_replicate] at c_77 ⊢; omega)), hK32 _ _ ?_⟩
   refine hK16 _ _ ?_
   refine Wp.region fun K33 hK33 => ?_
   simp only [go_sem, simprocAttr, hw15]
   first | apply hK33 | refine ⟨sd, hK33 _ _ ?_⟩
   simp only [thenQ, blockQ, ↓reduceIte]
   refine ⟨o1_55 ++ [(r_5.getD i_67 (api_Record.mk 0 0 [] (api_Version.mk 0 0 0 []) (api_Version.mk 0 0 0 []) 0 []))], hlt15, hnx_66 _ hm, ?_⟩
   simp only [go_sem, simprocAttr, hw15]
   try exact se2
  ·refine Wp.skip ?_
   refine hK16 _ _ ?_
   refine Wp.region fun K34 hK34 => ?_
   simp only [go_sem, simprocAttr, hw15]
   first | apply hK34 | refine ⟨sd, hK34 _ _ ?_⟩
   simp only [thenQ, blockQ, ↓reduceIte]
   refine ⟨o1_55, hlt15, hnx_66 _ hm, ?_⟩
   simp only [go_sem, simprocAttr, hw15]
   try exact se2
theorem ok_log_newTable  (z : (List (Str × log_had)) × Int) (hm : log_newTable = some z) : Does Tryz.prog 54 [] [] (fun r X => r = .ptr 1 0 ∧ X = [.mp true (encM Dt.s enc_log_had z.1), .cells 81 [.mp 0, .p (.i .i64 z.2)]]) := by
 unfold log_newTable at hm
 refine Does.of_wp 2 4 [.tmp 0] Tryz.func54 rfl (by decide) rfl rfl (Nat.le_of_ble_eq_true rfl) fun B => ?_
 refine qS ?_
 refine qS ?_
 refine Wp.ret ?_
 refine retQ_ret ?_
 cases hm
 exact fse3
theorem ok_log_outside (n_1 : Int) (low_2 : Int) (high_3 : Int) (z : Bool) (hm : log_outside n_1 low_2 high_3 = some z) : Does Tryz.prog 80 [.p (.i .i64 n_1), .p (.i .i64 low_2), .p (.i .i64 high_3)] [] (fun r X => r = .p (.b z) ∧ X = []) := by
 unfold log_outside at hm
 refine Does.of_wp 0 15 [.tmp 6] Tryz.func80 rfl (by decide) rfl rfl (Nat.le_of_ble_eq_true rfl) fun B => ?_
 refine qS ?_
 refine qS ?_
 refine Wp.ret ?_
 refine retQ_ret ?_
 cases hm
 exact fse3
theorem ok_ver_outside (n_1 : Int) (low_2 : Int) (high_3 : Int) (z : Bool) (hm : ver_outside n_1 low_2 high_3 = some z) : Does Tryz.prog 88 [.p (.i .i64 n_1), .p (.i .i64 low_2), .p (.i .i64 high_3)] [] (fun r X => r = .p (.b z) ∧ X = []) := by
 unfold ver_outside at hm
 refine Does.of_wp 0 15 [.tmp 6] Tryz.func88 rfl (by decide) rfl rfl (Nat.le_of_ble_eq_true rfl) fun B => ?_
 refine qS ?_
 refine qS ?_
 refine Wp.ret ?_
 refine retQ_ret ?_
 cases hm
 exact fse3
theorem ok_ver_isEarly_1 (c_1 : Int) (z : Bool) (hm : ver_isEarly_1 c_1 = some z) : Does Tryz.prog 112 [.p (.i .u8 c_1)] [] (fun r X => r = .p (.b z) ∧ X = []) := by
 unfold ver_isEarly_1 at hm
 refine Does.of_wp 0 9 [.tmp 2] Tryz.func112 rfl (by decide) rfl rfl (Nat.le_of_ble_eq_true rfl) fun B => ?_
 refine qS ?_
 obtain ⟨r_2, hr_2, hm⟩ := call_elim hm
 obtain ⟨r_3, hr_3, hm⟩ := callG_elim hm
 refine Wp.seqR fun K2 hK2 => ?_
 simp only [go_sem, simprocAttr]
 try refine ⟨sd, ?_⟩
 refine Rg.callX (av := ?av3) (g := true) (fun hg => ok_ver_isSmall c_1 _ hr_2) si si si sg si ?cont3
 intro hv3
 simp only [go_sem, simprocAttr]
 try refine ⟨sd, ?_⟩
 refine Rg.callX (av := ?av4) (g := !r_2) (fun hg => ok_ver_isDigit c_1 _ (hr_3 hg)) si si si sg si ?cont4
 intro hv4
 simp only [go_sem, simprocAttr]
 first | apply hK2 | refine ⟨sd, hK2 _ _ ?_⟩
 refine Wp.ret ?_
 refine retQ_ret ?_
 cases hm
 exact fse3
theorem ok_ver_each_i2 (s_1 : Str) (most_2 : Int) (z : Bool) (hm : ver_each_i2 s_1 most_2 = some z) : Does Tryz.prog 44 [.p (.s s_1), .p (.i .i64 most_2), .fn 112 []] [] (fun r X => r = .p (.b z) ∧ X = []) := by
 unfold ver_each_i2 at hm
 refine Does.of_wp 0 28 [.tmp 6] Tryz.func44 rfl (by decide) rfl rfl (Nat.le_of_ble_eq_true rfl) fun B => ?_
 refine qS ?_
 refine Wp.seqW fun K2 hK2 hW2 => ?_
 obtain ⟨k_12, hk_12, hm⟩ := jp_elim hm
 have hcut2 : ∀ s, k_12 s = some z → K2 [(0, .p (.s s_1)), (1, .p (.i .i64 most_2))] [] := by
  intro s hs
  have hm := hk_12 _ hs
  clear hs
  try dsimp only at hm
  try dsimp only
  refine hK2 _ _ ?_
  refine qS ?_
  refine Wp.ret ?_
  refine retQ_ret ?_
  cases hm
  exact fse3
 clear hK2 hk_12
 refine qS ?_
 refine Wp.block ?_
 obtain ⟨k_16, hk_16, hm⟩ := forL_cont hm
 refine Wp.fact 0 fun hl_19 => ?_
 replace hl_19 : s_1.length ≤ 274877906944 := by
  simp only [go_sem, simprocAttr, List.length_map] at hl_19
  omega
 refine Wp.forL (fun i_18 s => [(0, .p (.s s_1)), (1, .p (.i .i64 most_2)), (2, .fn 112 []), (7, .p (.i .i64 (i_18 : Int)))]) (fun i_18 s => []) ?_ hm ?_
 ·
  exact fse3
 clear hm
 intro i_18 s hii_18 hm
 try dsimp only at hm
 try dsimp only
 refine Wp.seqW fun K5 hK5 hW5 => ?_
 refine qS ?_
 refine Wp.cond rfl ⟨⟩ (fun hc5 => ?_) (fun hc5 => ?_)
 rotate_left
 ·refine Wp.exit ?_
  have hm := hk_16 _ (forL_end hm (ge_nat (by first | exact hc5 | simpa using hc5)))
  try dsimp only at hm
  refine hW2 _ _ _ _ ?_ (hcut2 () hm)
  exact fse3
 have hlt5 := lt_nat (by first | exact hc5 | simpa using hc5)
 have hw5 := wrap_succ hlt5 hl_19
 obtain ⟨c_20, nx_17, hxc_20, hyc_20, hnx_17, hm⟩ := forL_step hm hlt5
 clear hxc_20
 refine Wp.skip ?_
 simp only [thenQ]
 refine hK5 _ _ ?_
 refine Wp.seqW fun K7 hK7 hW7 => ?_
 refine Wp.block ?_
 obtain ⟨r_21, hr_21, hm⟩ := call_elim hm
 refine Wp.seqR fun K8 hK8 => ?_
 simp only [go_sem, simprocAttr, hw5, hyc_20]
 try refine ⟨sd, ?_⟩
 refine Rg.callX (av := ?av9) (g := true) (fun hg => ok_ver_isEarly_1 (c_20.toNat : Int) _ hr_21) (by simp only [go_sem, simprocAttr, hw5, hyc_20]; exact Is.mk) (by simp only [go_sem, simprocAttr, hw5, hyc_20]; exact Is.mk) (by simp only [go_sem, simprocAttr, hw5, hyc_20]; exact Is.mk) (by simp only [go_sem, simprocAttr, hw5, hyc_20]) (by simp only [go_sem, simprocAttr, hw5, hyc_20]; exact Is.mk) ?cont9
 intro hv9
 simp only [go_sem, simprocAttr, hw5, hyc_20]
 first | apply hK8 | refine ⟨sd, hK8 _ _ ?_⟩
 refine cM hm (fun hc10 hm => ?_) (fun hc10 hm => ?_)
 ·refine Wp.seqR fun K11 hK11 => ?_
  simp only [go_sem, simprocAttr, hw5, hyc_20]
  first | apply hK11 | refine ⟨sd, hK11 _ _ ?_⟩
  refine Wp.ret ?_
  refine retQ_ret ?_
  cases hm
  simp only [go_sem, simprocAttr, hw5, hyc_20]
  try exact se3
 ·refine Wp.skip ?_
  refine hK7 _ _ ?_
  refine Wp.region fun K12 hK12 => ?_
  simp only [go_sem, simprocAttr, hw5, hyc_20]
  first | apply hK12 | refine ⟨sd, hK12 _ _ ?_⟩
  simp only [thenQ, blockQ, ↓reduceIte]
  refine ⟨(), hlt5, hnx_17 _ hm, ?_⟩
  simp only [go_sem, simprocAttr, hw5, hyc_20]
  try exact se3
theorem ok_ver_each_i3 (s_1 : Str) (most_2 : Int) (z : Bool) (hm : ver_each_i3 s_1 most_2 = some z) : Does Tryz.prog 44 [.p (.s s_1), .p (.i .i64 most_2), .fn 47 []] [] (fun r X => r = .p (.b z) ∧ X = []) := by
 unfold ver_each_i3 at hm
 refine Does.of_wp 0 28 [.tmp 6] Tryz.func44 rfl (by decide) rfl rfl (Nat.le_of_ble_eq_true rfl) fun B => ?_
 refine qS ?_
 refine Wp.seqW fun K2 hK2 hW2 => ?_
 obtain ⟨k_12, hk_12, hm⟩ := jp_elim hm
 have hcut2 : ∀ s, k_12 s = some z → K2 [(0, .p (.s s_1)), (1, .p (.i .i64 most_2))] [] := by
  intro s hs
  have hm := hk_12 _ hs
  clear hs
  try dsimp only at hm
  try dsimp only
  refine hK2 _ _ ?_
  refine qS ?_
  refine Wp.ret ?_
  refine retQ_ret ?_
  cases hm
  exact fse3
 clear hK2 hk_12
 refine qS ?_
 refine Wp.block ?_
 obtain ⟨k_16, hk_16, hm⟩ := forL_cont hm
 refine Wp.fact 0 fun hl_19 => ?_
 replace hl_19 : s_1.length ≤ 274877906944 := by
  simp only [go_sem, simprocAttr, List.length_map] at hl_19
  omega
 refine Wp.forL (fun i_18 s => [(0, .p (.s s_1)), (1, .p (.i .i64 most_2)), (2, .fn 47 []), (7, .p (.i .i64 (i_18 : Int)))]) (fun i_18 s => []) ?_ hm ?_
 ·
  exact fse3
 clear hm
 intro i_18 s hii_18 hm
 try dsimp only at hm
 try dsimp only
 refine Wp.seqW fun K5 hK5 hW5 => ?_
 refine qS ?_
 refine Wp.cond rfl ⟨⟩ (fun hc5 => ?_) (fun hc5 => ?_)
 rotate_left
 ·refine Wp.exit ?_
  have hm := hk_16 _ (forL_end hm (ge_nat (by first | exact hc5 | simpa using hc5)))
  try dsimp only at hm
  refine hW2 _ _ _ _ ?_ (hcut2 () hm)
  exact fse3
 have hlt5 := lt_nat (by first | exact hc5 | simpa using hc5)
 have hw5 := wrap_succ hlt5 hl_19
 obtain ⟨c_20, nx_17, hxc_20, hyc_20, hnx_17, hm⟩ := forL_step hm hlt5
 clear hxc_20
 refine Wp.skip ?_
 simp only [thenQ]
 refine hK5 _ _ ?_
 refine Wp.seqW fun K7 hK7 hW7 => ?_
 refine Wp.block ?_
 obtain ⟨r_21, hr_21, hm⟩ := call_elim hm
 refine Wp.seqR fun K8 hK8 => ?_
 simp only [go_sem, simprocAttr, hw5, hyc_20]
 try refine ⟨sd, ?_⟩
 refine Rg.callX (av := ?av9) (g := true) (fun hg => ok_ver_isDigit (c_20.toNat : Int) _ hr_21) (by simp only [go_sem, simprocAttr, hw5, hyc_20]; exact Is.mk) (by simp only [go_sem, simprocAttr, hw5, hyc_20]; exact Is.mk) (by simp only [go_sem, simprocAttr, hw5, hyc_20]; exact Is.mk) (by simp only [go_sem, simprocAttr, hw5, hyc_20]) (by simp only [go_sem, simprocAttr, hw5, hyc_20]; exact Is.mk) ?cont9
 intro hv9
 simp only [go_sem, simprocAttr, hw5, hyc_20]
 first | apply hK8 | refine ⟨sd, hK8 _ _ ?_⟩
 refine cM hm (fun hc10 hm => ?_) (fun hc10 hm => ?_)
 ·refine Wp.seqR fun K11 hK11 => ?_
  simp only [go_sem, simprocAttr, hw5, hyc_20]
  first | apply hK11 | refine ⟨sd, hK11 _ _ ?_⟩
  refine Wp.ret ?_
  refine retQ_ret ?_
  cases hm
  simp only [go_sem, simprocAttr, hw5, hyc_20]
  try exact se3
 ·refine Wp.skip ?_
  refine hK7 _ _ ?_
  refine Wp.region fun K12 hK12 => ?_
  simp only [go_sem, simprocAttr, hw5, hyc_20]
  first | apply hK12 | refine ⟨sd, hK12 _ _ ?_⟩
  simp only [thenQ, blockQ, ↓reduceIte]
  refine ⟨(), hlt5, hnx_17 _ hm, ?_⟩
  simp only [go_sem, simprocAttr, hw5, hyc_20]
  try exact se3
theorem ok_ver_isNumeral (s_1 : Str) (z : Bool) (hm : ver_isNumeral s_1 = some z) : Does Tryz.prog 113 [.p (.s s_1)] [] (fun r X => r = .p (.b z) ∧ X = []) := by
 unfold ver_isNumeral at hm
 refine Does.of_wp 0 5 [.tmp 2] Tryz.func113 rfl (by decide) rfl rfl (Nat.le_of_ble_eq_true rfl) fun B => ?_
 refine qS ?_
 obtain ⟨r_2, hr_2, hm⟩ := call_elim hm
 refine Wp.seqR fun K2 hK2 => ?_
 simp only [go_sem, simprocAttr]
 try refine ⟨sd, ?_⟩
 refine Rg.callX (av := ?av3) (g := true) (fun hg => ok_ver_each_i3 s_1 10 _ hr_2) si si si sg si ?cont3
 intro hv3
 simp only [go_sem, simprocAttr]
 first | apply hK2 | refine ⟨sd, hK2 _ _ ?_⟩
 refine Wp.ret ?_
 refine retQ_ret ?_
 cases hm
 exact fse3
theorem ok_ver_isEarly (s_1 : Str) (z : Bool) (hm : ver_isEarly s_1 = some z) : Does Tryz.prog 89 [.p (.s s_1)] [] (fun r X => r = .p (.b z) ∧ X = []) := by
 unfold ver_isEarly at hm
 refine Does.of_wp 0 32 [.tmp 2] Tryz.func89 rfl (by decide) rfl rfl (Nat.le_of_ble_eq_true rfl) fun B => ?_
 refine qS ?_
 refine Wp.seqW fun K2 hK2 hW2 => ?_
 obtain ⟨k_16, hk_16, hm⟩ := jp_elim hm
 have hcut2 : ∀ s, k_16 s = some z → K2 [(0, .p (.s s_1))] [] := by
  intro s hs
  have hm := hk_16 _ hs
  clear hs
  try dsimp only at hm
  try dsimp only
  refine hK2 _ _ ?_
  refine qS ?_
  refine Wp.ret ?_
  refine retQ_ret ?_
  cases hm
  exact fse3
 clear hK2 hk_16
 obtain ⟨r_17, hr_17, hm⟩ := call_elim hm
 refine Wp.seqR fun K4 hK4 => ?_
 simp only [go_sem, simprocAttr]
 try refine ⟨sd, ?_⟩
 refine Rg.callF (av := ?av5) (ok_strings_Split s_1 ([46] : Str) _ hr_17) si si sg ?cont5
 intro hv5
 simp only [go_sem, simprocAttr]
 first | apply hK4 | refine ⟨sd, hK4 _ _ ?_⟩
 refine Wp.block ?_
 obtain ⟨k_23, hk_23, hm⟩ := forL_cont hm
 refine Wp.fact 6 fun hl_26 => ?_
 replace hl_26 : r_17.length ≤ 274877906944 := by
  simp only [go_sem, simprocAttr, List.length_map] at hl_26
  omega
 refine Wp.forL (fun i_25 s => [(0, .p (.s s_1)), (6, .p (.l (List.map ecS r_17))), (7, .p (.i .i64 (r_17.length : Int))), (8, .p (.i .i64 (i_25 : Int)))]) (fun i_25 s => []) ?_ hm ?_
 ·
  exact fse3
 clear hm
 intro i_25 s hii_25 hm
 try dsimp only at hm
 try dsimp only
 refine qS ?_
 refine Wp.seqW fun K7 hK7 hW7 => ?_
 refine Wp.cond rfl ⟨⟩ (fun hc7 => ?_) (fun hc7 => ?_)
 rotate_left
 ·refine Wp.exit ?_
  have hm := hk_23 _ (forL_end hm (ge_nat (by first | exact hc7 | simpa using hc7)))
  try dsimp only at hm
  refine hW2 _ _ _ _ ?_ (hcut2 () hm)
  exact fse3
 have hlt7 := lt_nat (by first | exact hc7 | simpa using hc7)
 have hw7 := wrap_succ hlt7 hl_26
 obtain ⟨s_27, nx_24, hxs_27, hys_27, hnx_24, hm⟩ := forL_step hm hlt7
 replace hxs_27 := hxs_27 ecS
 refine Wp.skip ?_
 simp only [thenQ]
 refine hK7 _ _ ?_
 refine Wp.seqW fun K8 hK8 hW8 => ?_
 refine Wp.block ?_
 refine Wp.seqR fun K9 hK9 => ?_
 simp only [go_sem, simprocAttr, hw7, hxs_27]
 first | apply hK9 | refine ⟨sd, hK9 _ _ ?_⟩
 obtain ⟨r_28, hr_28, hm⟩ := call_elim hm
 obtain ⟨r_29, hr_29, hm⟩ := callG_elim hm
 obtain ⟨c_30, hm⟩ := chk_elim hm
 refine Wp.seqR fun K10 hK10 => ?_
 simp only [go_sem, simprocAttr, hw7, hxs_27]
 try refine ⟨by first | exact sd | ((repeat' apply And.intro) <;> first | assumption | omega | (simp only [List.length_append, List.length_map, List.length_cons, List.length_nil, List.length_set, List.length_replicate] at c_30 ⊢; omega)), ?_⟩
 refine Rg.callX (av := ?av11) (g := true) (fun hg => ok_ver_each_i2 s_27 10 _ hr_28) (by simp only [go_sem, simprocAttr, hw7, hxs_27]; exact Is.mk) (by simp only [go_sem, simprocAttr, hw7, hxs_27]; exact Is.mk) (by simp only [go_sem, simprocAttr, hw7, hxs_27]; exact Is.mk) (by simp only [go_sem, simprocAttr, hw7, hxs_27]) (by simp only [go_sem, simprocAttr, hw7, hxs_27]; exact Is.mk) ?cont11
 intro hv11
 simp only [go_sem, simprocAttr, hw7, hxs_27]
 try refine ⟨by first | exact sd | ((repeat' apply And.intro) <;> first | assumption | omega | (simp only [List.length_append, List.length_map, List.length_cons, List.length_nil, List.length_set, List.length_replicate] at c_30 ⊢; omega)), ?_⟩
 refine Rg.callX (av := ?av12) (g := !(!r_28)) (fun hg => ok_ver_isNumeral s_27 _ (hr_29 hg)) (by simp only [go_sem, simprocAttr, hw7, hxs_27]; exact Is.mk) (by simp only [go_sem, simprocAttr, hw7, hxs_27]; exact Is.mk) (by simp only [go_sem, simprocAttr, hw7, hxs_27]; exact Is.mk) (by simp only [go_sem, simprocAttr, hw7, hxs_27]) (by simp only [go_sem, simprocAttr, hw7, hxs_27]; exact Is.mk) ?cont12
 intro hv12
 simp only [go_sem, simprocAttr, hw7, hxs_27]
 first | apply hK10 | refine ⟨by first | exact sd | ((repeat' apply And.intro) <;> first | assumption | omega | (simp only [List.length_append, List.length_map, List.length_cons, List.length_nil, List.length_set, List.length_replicate] at c_30 ⊢; omega)), hK10 _ _ ?_⟩
 refine cM hm (fun hc13 hm => ?_) (fun hc13 hm => ?_)
 ·refine Wp.seqR fun K14 hK14 => ?_
  simp only [go_sem, simprocAttr, hw7, hxs_27]
  first | apply hK14 | refine ⟨sd, hK14 _ _ ?_⟩
  refine Wp.ret ?_
  refine retQ_ret ?_
  cases hm
  simp only [go_sem, simprocAttr, hw7, hxs_27]
  try exact se3
 ·refine Wp.skip ?_
  refine hK8 _ _ ?_
  refine Wp.region fun K15 hK15 => ?_
  simp only [go_sem, simprocAttr, hw7, hxs_27]
  first | apply hK15 | refine ⟨sd, hK15 _ _ ?_⟩
  simp only [thenQ, blockQ, ↓reduceIte]
  refine ⟨(), hlt7, hnx_24 _ hm, ?_⟩
  simp only [go_sem, simprocAttr, hw7, hxs_27]
  try exact se3
theorem ok_ver_Check (v_1 : api_Version) (z : Int) (hm : ver_Check v_1 = some z) : Does Tryz.prog 66 [.agg [.p (.i .i64 v_1.Major), .p (.i .i64 v_1.Minor), .p (.i .i64 v_1.Patch), .p (.s v_1.Early)]] [] (fun r X => r = .p (.i .i64 z) ∧ X = []) := by
 unfold ver_Check at hm
 refine Does.of_wp 0 27 [.tmp 2] Tryz.func66 rfl (by decide) rfl rfl (Nat.le_of_ble_eq_true rfl) fun B => ?_
 refine qS ?_
 refine Wp.seqW fun K2 hK2 hW2 => ?_
 obtain ⟨k_17, hk_17, hm⟩ := jp_elim hm
 have hcut2 : ∀ s, k_17 s = some z → K2 [(1, .ptr 0 0)] [.cells 30 [.p (.i .i64 v_1.Major), .p (.i .i64 v_1.Minor), .p (.i .i64 v_1.Patch), .p (.s v_1.Early)]] := by
  intro s hs
  have hm := hk_17 _ hs
  clear hs
  try dsimp only at hm
  try dsimp only
  refine hK2 _ _ ?_
  refine Wp.seqW fun K3 hK3 hW3 => ?_
  obtain ⟨r_18, hr_18, hm⟩ := callG_elim hm
  refine Wp.seqR fun K4 hK4 => ?_
  simp only [go_sem, simprocAttr]
  try refine ⟨sd, ?_⟩
  refine Rg.callX (av := ?av5) (g := !decide (v_1.Early = [])) (fun hg => ok_ver_isEarly v_1.Early _ (hr_18 hg)) si si si sg si ?cont5
  intro hv5
  simp only [go_sem, simprocAttr]
  first | apply hK4 | refine ⟨sd, hK4 _ _ ?_⟩
  refine cM hm (fun hc6 hm => ?_) (fun hc6 hm => ?_)
  ·refine qS ?_
   refine Wp.ret ?_
   refine retQ_ret ?_
   cases hm
   exact fse3
  ·refine Wp.skip ?_
   refine hK3 _ _ ?_
   refine qS ?_
   refine Wp.ret ?_
   refine retQ_ret ?_
   cases hm
   exact fse3
 clear hK2 hk_17
 refine qS ?_
 refine Wp.block ?_
 refine Wp.loopK 9 ?_
 simp only [WpL]
 refine qS ?_
 refine Wp.seqW fun K11 hK11 hW11 => ?_
 refine Wp.cond rfl ⟨⟩ (fun hc12 => ?_) (fun hc12 => ?_)
 rotate_left
 ·cases hc12
 refine Wp.skip ?_
 refine hK11 _ _ ?_
 refine Wp.seqW fun K13 hK13 hW13 => ?_
 refine Wp.block ?_
 refine qS ?_
 obtain ⟨r_31, hr_31, hm⟩ := call_elim hm
 refine Wp.seqR fun K15 hK15 => ?_
 simp only [go_sem, simprocAttr]
 try refine ⟨sd, ?_⟩
 refine Rg.callX (av := ?av16) (g := true) (fun hg => ok_ver_outside v_1.Major 0 999999 _ hr_31) si si si sg si ?cont16
 intro hv16
 simp only [go_sem, simprocAttr]
 first | apply hK15 | refine ⟨sd, hK15 _ _ ?_⟩
 refine cM hm (fun hc17 hm => ?_) (fun hc17 hm => ?_)
 ·refine qS ?_
  refine Wp.ret ?_
  refine retQ_ret ?_
  cases hm
  exact fse3
 ·refine Wp.skip ?_
  refine hK13 _ _ ?_
  refine qR ?_
  simp only [thenQ, blockQ, ↓reduceIte]
  try simp only [WpL]
  refine qS ?_
  refine Wp.seqW fun K21 hK21 hW21 => ?_
  refine Wp.cond rfl ⟨⟩ (fun hc22 => ?_) (fun hc22 => ?_)
  rotate_left
  ·cases hc22
  refine Wp.skip ?_
  refine hK21 _ _ ?_
  refine Wp.seqW fun K23 hK23 hW23 => ?_
  refine Wp.block ?_
  refine qS ?_
  obtain ⟨r_32, hr_32, hm⟩ := call_elim hm
  refine Wp.seqR fun K25 hK25 => ?_
  simp only [go_sem, simprocAttr]
  try refine ⟨sd, ?_⟩
  refine Rg.callX (av := ?av26) (g := true) (fun hg => ok_ver_outside v_1.Minor 0 999999 _ hr_32) si si si sg si ?cont26
  intro hv26
  simp only [go_sem, simprocAttr]
  first | apply hK25 | refine ⟨sd, hK25 _ _ ?_⟩
  refine cM hm (fun hc27 hm => ?_) (fun hc27 hm => ?_)
  ·refine qS ?_
   refine Wp.ret ?_
   refine retQ_ret ?_
   cases hm
   exact fse3
  ·refine Wp.skip ?_
   refine hK23 _ _ ?_
   refine qR ?_
   simp only [thenQ, blockQ, ↓reduceIte]
   try simp only [WpL]
   refine qS ?_
   refine Wp.seqW fun K31 hK31 hW31 => ?_
   refine Wp.cond rfl ⟨⟩ (fun hc32 => ?_) (fun hc32 => ?_)
   rotate_left
   ·cases hc32
   refine Wp.skip ?_
   refine hK31 _ _ ?_
   refine Wp.seqW fun K33 hK33 hW33 => ?_
   refine Wp.block ?_
   refine qS ?_
   obtain ⟨r_33, hr_33, hm⟩ := call_elim hm
   refine Wp.seqR fun K35 hK35 => ?_
   simp only [go_sem, simprocAttr]
   try refine ⟨sd, ?_⟩
   refine Rg.callX (av := ?av36) (g := true) (fun hg => ok_ver_outside v_1.Patch 0 999999 _ hr_33) si si si sg si ?cont36
   intro hv36
   simp only [go_sem, simprocAttr]
   first | apply hK35 | refine ⟨sd, hK35 _ _ ?_⟩
   refine cM hm (fun hc37 hm => ?_) (fun hc37 hm => ?_)
   ·refine qS ?_
    refine Wp.ret ?_
    refine retQ_ret ?_
    cases hm
    exact fse3
   ·refine Wp.skip ?_
    refine hK33 _ _ ?_
    refine qR ?_
    simp only [thenQ, blockQ, ↓reduceIte]
    try simp only [WpL]
    refine qS ?_
    refine Wp.seqW fun K41 hK41 hW41 => ?_
    refine Wp.cond rfl ⟨⟩ (fun hc42 => ?_) (fun hc42 => ?_)
    ·cases hc42
    refine Wp.exit ?_
    refine hW2 _ _ _ _ ?_ (hcut2 () hm)
    exact fse3
theorem ok_log_uses (kind_1 : Int) (z : Bool × Bool) (hm : log_uses kind_1 = some z) : Does Tryz.prog 81 [.p (.i .i64 kind_1)] [] (fun r X => r = .tup [.p (.b z.1), .p (.b z.2)] ∧ X = []) := by
 unfold log_uses at hm
 refine Does.of_wp 0 10 [.tmp 2, .tmp 3] Tryz.func81 rfl (by decide) rfl rfl (Nat.le_of_ble_eq_true rfl) fun B => ?_
 refine qS ?_
 refine Wp.seqW fun K2 hK2 hW2 => ?_
 refine qS ?_
 refine Wp.block ?_
 refine Wp.seqW fun K4 hK4 hW4 => ?_
 obtain ⟨k_3, hk_3, hm⟩ := jp_elim hm
 have hcut4 : ∀ s, k_3 s = some z → K4 [(4, .p (.i .i64 kind_1)), (5, .p (.b s))] [] := by
  intro t5_2 hs
  have hm := hk_3 _ hs
  clear hs
  try dsimp only at hm
  try dsimp only
  refine hK4 _ _ ?_
  refine cM hm (fun hc5 hm => ?_) (fun hc5 hm => ?_)
  ·refine qS ?_
   refine Wp.ret ?_
   refine retQ_ret ?_
   cases hm
   exact fse3
  ·refine qS ?_
   refine cM hm (fun hc8 hm => ?_) (fun hc8 hm => ?_)
   ·refine qS ?_
    refine Wp.ret ?_
    refine retQ_ret ?_
    cases hm
    exact fse3
   ·refine Wp.skip ?_
    refine hK2 _ _ ?_
    refine qS ?_
    refine Wp.ret ?_
    refine retQ_ret ?_
    cases hm
    exact fse3
 clear hK4 hk_3
 refine qS ?_
 refine cM hm (fun hc12 hm => ?_) (fun hc12 hm => ?_)
 ·refine Wp.skip ?_
  refine hW4 _ _ _ _ ?_ (hcut4 (decide (kind_1 = 2)) hm)
  exact fse3
 ·refine qR ?_
  refine hW4 _ _ _ _ ?_ (hcut4 (decide (kind_1 = 3)) hm)
  exact fse3
theorem ok_ver_compareWords (a_1 : Str) (b_2 : Str) (z : Int) (hm : ver_compareWords a_1 b_2 = some z) : Does Tryz.prog 136 [.p (.s a_1), .p (.s b_2)] [] (fun r X => r = .p (.i .i64 z) ∧ X = []) := by
 unfold ver_compareWords at hm
 refine Does.of_wp 0 33 [.tmp 4] Tryz.func136 rfl (by decide) rfl rfl (Nat.le_of_ble_eq_true rfl) fun B => ?_
 refine qS ?_
 obtain ⟨r_3, hr_3, hm⟩ := call_elim hm
 obtain ⟨r_4, hr_4, hm⟩ := call_elim hm
 refine Wp.seqR fun K2 hK2 => ?_
 simp only [go_sem, simprocAttr]
 try refine ⟨sd, ?_⟩
 refine Rg.callX (av := ?av3) (g := true) (fun hg => ok_ver_isNumeral a_1 _ hr_3) si si si sg si ?cont3
 intro hv3
 simp only [go_sem, simprocAttr]
 try refine ⟨sd, ?_⟩
 refine Rg.callX (av := ?av4) (g := true) (fun hg => ok_ver_isNumeral b_2 _ hr_4) si si si sg si ?cont4
 intro hv4
 simp only [go_sem, simprocAttr]
 first | apply hK2 | refine ⟨sd, hK2 _ _ ?_⟩
 refine Wp.seqW fun K5 hK5 hW5 => ?_
 obtain ⟨k_6, hk_6, hm⟩ := jp_elim hm
 have hcut5 : ∀ s, k_6 s = some z → K5 [(0, .p (.s a_1)), (1, .p (.s b_2))] [] := by
  intro s hs
  have hm := hk_6 _ hs
  clear hs
  try dsimp only at hm
  try dsimp only
  refine hK5 _ _ ?_
  obtain ⟨r_7, hr_7, hm⟩ := call_elim hm
  refine Wp.seqR fun K6 hK6 => ?_
  simp only [go_sem, simprocAttr]
  try refine ⟨sd, ?_⟩
  refine Rg.callX (av := ?av7) (g := true) (fun hg => ok_strings_Compare a_1 b_2 _ hr_7) si si si sg si ?cont7
  intro hv7
  simp only [go_sem, simprocAttr]
  first | apply hK6 | refine ⟨sd, hK6 _ _ ?_⟩
  refine Wp.ret ?_
  refine retQ_ret ?_
  cases hm
  exact fse3
 clear hK5 hk_6
 refine Wp.block ?_
 refine qS ?_
 refine cM hm (fun hc9 hm => ?_) (fun hc9 hm => ?_)
 ·refine qS ?_
  refine cM hm (fun hc11 hm => ?_) (fun hc11 hm => ?_)
  ·obtain ⟨r_8, hr_8, hm⟩ := call_elim hm
   refine Wp.seqR fun K12 hK12 => ?_
   simp only [go_sem, simprocAttr]
   try refine ⟨sd, ?_⟩
   refine Rg.callX (av := ?av13) (g := true) (fun hg => ok_cmp_Compare_int (a_1.length : Int) (b_2.length : Int) _ hr_8) si si si sg si ?cont13
   intro hv13
   simp only [go_sem, simprocAttr]
   first | apply hK12 | refine ⟨sd, hK12 _ _ ?_⟩
   refine Wp.ret ?_
   refine retQ_ret ?_
   cases hm
   exact fse3
  ·refine Wp.skip ?_
   refine hW5 _ _ _ _ ?_ (hcut5 () hm)
   exact fse3
 ·refine qS ?_
  refine cM hm (fun hc15 hm => ?_) (fun hc15 hm => ?_)
  ·refine qS ?_
   refine Wp.ret ?_
   refine retQ_ret ?_
   cases hm
   exact fse3
  ·refine qS ?_
   refine cM hm (fun hc18 hm => ?_) (fun hc18 hm => ?_)
   ·refine qS ?_
    refine Wp.ret ?_
    refine retQ_ret ?_
    cases hm
    exact fse3
   ·refine Wp.skip ?_
    refine hW5 _ _ _ _ ?_ (hcut5 () hm)
    exact fse3
theorem ok_ver_compareEarly (a_1 : Str) (b_2 : Str) (z : Int) (hm : ver_compareEarly a_1 b_2 = some z) : Does Tryz.prog 99 [.p (.s a_1), .p (.s b_2)] [] (fun r X => r = .p (.i .i64 z) ∧ X = []) := by
 unfold ver_compareEarly at hm
 refine Does.of_wp 0 49 [.tmp 4] Tryz.func99 rfl (by decide) rfl rfl (Nat.le_of_ble_eq_true rfl) fun B => ?_
 refine qS ?_
 refine Wp.seqW fun K2 hK2 hW2 => ?_
 refine Wp.block ?_
 refine qS ?_
 refine cM hm (fun hc4 hm => ?_) (fun hc4 hm => ?_)
 ·refine qS ?_
  refine Wp.ret ?_
  refine retQ_ret ?_
  cases hm
  exact fse3
 ·refine qS ?_
  refine cM hm (fun hc7 hm => ?_) (fun hc7 hm => ?_)
  ·refine qS ?_
   refine Wp.ret ?_
   refine retQ_ret ?_
   cases hm
   exact fse3
  ·refine qS ?_
   refine cM hm (fun hc10 hm => ?_) (fun hc10 hm => ?_)
   ·refine qS ?_
    refine Wp.ret ?_
    refine retQ_ret ?_
    cases hm
    exact fse3
   ·refine Wp.skip ?_
    refine hK2 _ _ ?_
    obtain ⟨r_3, hr_3, hm⟩ := call_elim hm
    obtain ⟨r_4, hr_4, hm⟩ := call_elim hm
    refine Wp.seqR fun K12 hK12 => ?_
    simp only [go_sem, simprocAttr]
    try refine ⟨sd, ?_⟩
    refine Rg.callF (av := ?av13) (ok_strings_Split a_1 ([46] : Str) _ hr_3) si si sg ?cont13
    intro hv13
    simp only [go_sem, simprocAttr]
    try refine ⟨sd, ?_⟩
    refine Rg.callF (av := ?av14) (ok_strings_Split b_2 ([46] : Str) _ hr_4) si si sg ?cont14
    intro hv14
    simp only [go_sem, simprocAttr]
    first | apply hK12 | refine ⟨sd, hK12 _ _ ?_⟩
    refine Wp.seqW fun K15 hK15 hW15 => ?_
    obtain ⟨k_14, hk_14, hm⟩ := jp_elim hm
    have hcut15 : ∀ s, k_14 s = some z → K15 [(5, .p (.l (List.map ecS r_3))), (6, .p (.l (List.map ecS r_4)))] [] := by
     intro s hs
     have hm := hk_14 _ hs
     clear hs
     try dsimp only at hm
     try dsimp only
     refine hK15 _ _ ?_
     obtain ⟨r_15, hr_15, hm⟩ := call_elim hm
     refine Wp.seqR fun K16 hK16 => ?_
     simp only [go_sem, simprocAttr]
     try refine ⟨sd, ?_⟩
     refine Rg.callX (av := ?av17) (g := true) (fun hg => ok_cmp_Compare_int (r_3.length : Int) (r_4.length : Int) _ hr_15) si si si sg si ?cont17
     intro hv17
     simp only [go_sem, simprocAttr]
     first | apply hK16 | refine ⟨sd, hK16 _ _ ?_⟩
     refine Wp.ret ?_
     refine retQ_ret ?_
     cases hm
     exact fse3
    clear hK15 hk_14
    refine qS ?_
    refine Wp.block ?_
    obtain ⟨k_20, hk_20, hm⟩ := loopN_cont hm
    refine Wp.loopN (fun s => [(5, .p (.l (List.map ecS r_3))), (6, .p (.l (List.map ecS r_4))), (27, .p (.i .i64 (min (r_3.length : Int) (r_4.length : Int)))), (28, .p (.i .i64 s))]) (fun s => []) ?_ hm ?_
    ·
     exact fse3
    clear hm
    intro t28_16 nx_21 hm
    try dsimp only at hm
    try dsimp only
    refine qS ?_
    refine Wp.seqW fun K20 hK20 hW20 => ?_
    refine cM hm (fun hc21 hm => ?_) (fun hc21 hm => ?_)
    ·refine Wp.skip ?_
     refine hK20 _ _ ?_
     refine Wp.seqW fun K22 hK22 hW22 => ?_
     refine Wp.block ?_
     refine qS ?_
     obtain ⟨s_22, hbs_22, hxs_22, hys_22, hm⟩ := idx_elim hm
     replace hxs_22 : ∀ d, (List.map ecS r_3).getD t28_16.toNat d = ecS s_22 := hxs_22 ecS
     obtain ⟨s_23, hbs_23, hxs_23, hys_23, hm⟩ := idx_elim hm
     replace hxs_23 : ∀ d, (List.map ecS r_4).getD t28_16.toNat d = ecS s_23 := hxs_23 ecS
     obtain ⟨r_24, hr_24, hm⟩ := call_elim hm
     refine Wp.seqD (plan := pl [(0, none), (1, none), (2, none), (3, none), (4, none), (5, none), (6, none), (7, none), (8, none), (9, none)]) (by kernel_rfl) rfl (by kernel_rfl) fun K24 hK24 => ?_
     simp only [go_sem, simprocAttr, hxs_22, hxs_23]
     try refine ⟨sd, ?_⟩
     refine Dr.callF (av := ?av25) (g := true) (o := ?o25) (fun hg => ok_ver_compareWords s_22 s_23 _ hr_24) (by simp only [go_sem, simprocAttr, hxs_22, hxs_23]; exact Is.mk) (by simp only [go_sem, simprocAttr, hxs_22, hxs_23]; exact Is.mk) (by simp only [go_sem, simprocAttr, hxs_22, hxs_23]; exact Is.mk) (by simp only [go_sem, simprocAttr, hxs_22, hxs_23]; exact Is.mk) (by simp only [go_sem, simprocAttr, hxs_22, hxs_23]) (by simp only [go_sem, simprocAttr, hxs_22, hxs_23]; exact Is.mk) ?cont25
     simp only [go_sem, simprocAttr, hxs_22, hxs_23]
     first | apply hK24 | refine ⟨sd, hK24 _ _ ?_⟩
     refine Wp.seqR fun K26 hK26 => ?_
     simp only [go_sem, simprocAttr, hxs_22, hxs_23]
     first | apply hK26 | refine ⟨sd, hK26 _ _ ?_⟩
     refine cM hm (fun hc27 hm => ?_) (fun hc27 hm => ?_)
     ·refine Wp.seqR fun K28 hK28 => ?_
      simp only [go_sem, simprocAttr, hxs_22, hxs_23]
      first | apply hK28 | refine ⟨sd, hK28 _ _ ?_⟩
      refine Wp.ret ?_
      refine retQ_ret ?_
      cases hm
      simp only [go_sem, simprocAttr, hxs_22, hxs_23]
      try exact se3
     ·refine Wp.skip ?_
      refine hK22 _ _ ?_
      refine Wp.region fun K29 hK29 => ?_
      simp only [go_sem, simprocAttr, hxs_22, hxs_23]
      first | apply hK29 | refine ⟨sd, hK29 _ _ ?_⟩
      simp only [thenQ, blockQ, ↓reduceIte]
      refine ⟨IntKind.i64.wrap (t28_16 + 1), hm, ?_⟩
      simp only [go_sem, simprocAttr, hxs_22, hxs_23]
      try exact se3
    ·refine Wp.exit ?_
     simp only [thenQ, blockQ, ↓reduceIte]
     have hm := hk_20 _ hm
     try dsimp only at hm
     refine hW15 _ _ _ _ ?_ (hcut15 () hm)
     exact fse3
end Go.Proofs.YthmjpfooffbhhaaGreatDoor
