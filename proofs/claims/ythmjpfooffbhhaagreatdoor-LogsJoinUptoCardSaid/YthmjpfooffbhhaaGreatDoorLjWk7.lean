/- That the code does what the models say (part 7). -/
import Derived.Test.YthmjpfooffbhhaaGreatDoorLjWk0
import Derived.Test.YthmjpfooffbhhaaGreatDoorLjWk1
import Derived.Test.YthmjpfooffbhhaaGreatDoorLjWk4
import Derived.Test.YthmjpfooffbhhaaGreatDoorLjWk5
import Derived.Test.YthmjpfooffbhhaaGreatDoorLjWk6
set_option linter.unusedSimpArgs false
set_option linter.unusedVariables false
open Go.Proofs Go.Shelf
namespace Go.Proofs.YthmjpfooffbhhaaGreatDoor
open Go.Vc Go.Md
set_option maxRecDepth 100000
set_option maxHeartbeats 4000000
theorem ok_Law_LogsJoin (a_1 : List api_Record) (b_2 : List api_Record) (raw_3 : Bool) (n_4 : Int) (z : Bool) (hm : Law_LogsJoin a_1 b_2 raw_3 n_4 = some z) : Does Tryz.prog 3 [.p (.l (List.map enc_api_Record a_1)), .p (.l (List.map enc_api_Record b_2)), .p (.b raw_3), .p (.i .i64 n_4)] [] (fun r X => r = .p (.b z) ∧ X = []) := by
 unfold Law_LogsJoin at hm
 refine Does.of_wp 0 64 [.tmp 8] Tryz.func3 rfl (by decide) rfl rfl (Nat.le_of_ble_eq_true rfl) fun B => ?_
 refine qS ?_
 refine Wp.seqW fun K2 hK2 hW2 => ?_
 obtain ⟨r_5, hr_5, hm⟩ := call_elim hm
 refine Wp.seqR fun K3 hK3 => ?_
 simp only [go_sem, simprocAttr]
 try refine ⟨sd, ?_⟩
 refine Rg.callX (av := ?av4) (g := true) (fun hg => ok_Law_landed  _ hr_5) si si si sg si ?cont4
 intro hv4
 simp only [go_sem, simprocAttr]
 first | apply hK3 | refine ⟨sd, hK3 _ _ ?_⟩
 refine cM hm (fun hc5 hm => ?_) (fun hc5 hm => ?_)
 ·refine qS ?_
  refine Wp.ret ?_
  refine retQ_ret ?_
  cases hm
  exact fse1
 ·refine Wp.skip ?_
  refine hK2 _ _ ?_
  obtain ⟨r_6, hr_6, hm⟩ := call_elim hm
  obtain ⟨r_7, hr_7, hm⟩ := call_elim hm
  refine Wp.seqR fun K7 hK7 => ?_
  simp only [go_sem, simprocAttr]
  try refine ⟨sd, ?_⟩
  refine Rg.callF (av := ?av8) (ok_Law_could a_1 raw_3 _ hr_6) si si sg ?cont8
  intro hv8
  simp only [go_sem, simprocAttr]
  try refine ⟨sd, ?_⟩
  refine Rg.callF (av := ?av9) (ok_Law_could b_2 raw_3 _ hr_7) si si sg ?cont9
  intro hv9
  simp only [go_sem, simprocAttr]
  first | apply hK7 | refine ⟨sd, hK7 _ _ ?_⟩
  obtain ⟨r_8, hr_8, hm⟩ := call_elim hm
  refine Wp.seqR fun K10 hK10 => ?_
  simp only [go_sem, simprocAttr]
  try refine ⟨sd, ?_⟩
  refine Rg.callF (av := ?av11) (ok_log_Join r_6 r_7 _ hr_8) si si sg ?cont11
  intro hv11
  simp only [go_sem, simprocAttr]
  first | apply hK10 | refine ⟨sd, hK10 _ _ ?_⟩
  obtain ⟨r_9, hr_9, hm⟩ := call_elim hm
  refine Wp.seqR fun K12 hK12 => ?_
  simp only [go_sem, simprocAttr]
  try refine ⟨sd, ?_⟩
  refine Rg.callF (av := ?av13) (ok_R_Joined2 r_6 r_7 _ hr_9) si si sg ?cont13
  intro hv13
  simp only [go_sem, simprocAttr]
  first | apply hK12 | refine ⟨sd, hK12 _ _ ?_⟩
  refine Wp.seqW fun K14 hK14 hW14 => ?_
  obtain ⟨r_10, hr_10, hm⟩ := callG_elim hm
  refine Wp.seqR fun K15 hK15 => ?_
  simp only [go_sem, simprocAttr]
  try refine ⟨sd, ?_⟩
  refine Rg.callX (av := ?av16) (g := !(!decide (r_8.2 = r_9.2))) (fun hg => ok_slices_Equal_api_Record_api_Record r_8.1 r_9.1 _ (hr_10 hg)) si si si sg si ?cont16
  intro hv16
  simp only [go_sem, simprocAttr]
  first | apply hK15 | refine ⟨sd, hK15 _ _ ?_⟩
  refine cM hm (fun hc17 hm => ?_) (fun hc17 hm => ?_)
  ·refine qS ?_
   refine Wp.ret ?_
   refine retQ_ret ?_
   cases hm
   exact fse3
  ·refine Wp.skip ?_
   refine hK14 _ _ ?_
   refine Wp.seqW fun K19 hK19 hW19 => ?_
   obtain ⟨r_11, hr_11, hm⟩ := call_elim hm
   refine Wp.seqR fun K20 hK20 => ?_
   simp only [go_sem, simprocAttr]
   try refine ⟨sd, ?_⟩
   refine Rg.callX (av := ?av21) (g := true) (fun hg => ok_R_RecordsError r_6 _ hr_11) si si si sg si ?cont21
   intro hv21
   simp only [go_sem, simprocAttr]
   first | apply hK20 | refine ⟨sd, hK20 _ _ ?_⟩
   refine cM hm (fun hc22 hm => ?_) (fun hc22 hm => ?_)
   ·refine qS ?_
    refine Wp.ret ?_
    refine retQ_ret ?_
    cases hm
    exact fse3
   ·refine Wp.skip ?_
    refine hK19 _ _ ?_
    obtain ⟨c_12, hm⟩ := chk_elim hm
    obtain ⟨r_13, hr_13, hm⟩ := call_elim hm
    refine Wp.seqR fun K24 hK24 => ?_
    simp only [go_sem, simprocAttr]
    try refine ⟨by first | exact sd | ((repeat' apply And.intro) <;> first | assumption | omega | (simp only [List.length_append, List.length_map, List.length_cons, List.length_nil, List.length_set, List.length_replicate] at c_12 ⊢; omega)), ?_⟩
    refine Rg.callF (av := ?av25) (ok_log_Join r_6 (List.take ((min (max n_4 0) (r_6.length : Int)).toNat) r_6) _ hr_13) si si sg ?cont25
    intro hv25
    simp only [go_sem, simprocAttr]
    first | apply hK24 | refine ⟨by first | exact sd | ((repeat' apply And.intro) <;> first | assumption | omega | (simp only [List.length_append, List.length_map, List.length_cons, List.length_nil, List.length_set, List.length_replicate] at c_12 ⊢; omega)), hK24 _ _ ?_⟩
    obtain ⟨r_14, hr_14, hm⟩ := callG_elim hm
    refine Wp.seqR fun K26 hK26 => ?_
    simp only [go_sem, simprocAttr]
    try refine ⟨sd, ?_⟩
    refine Rg.callX (av := ?av27) (g := decide (r_13.2 = 0)) (fun hg => ok_slices_Equal_api_Record_api_Record r_13.1 r_6 _ (hr_14 hg)) si si si sg si ?cont27
    intro hv27
    simp only [go_sem, simprocAttr]
    first | apply hK26 | refine ⟨sd, hK26 _ _ ?_⟩
    refine Wp.ret ?_
    refine retQ_ret ?_
    cases hm
    exact fse3
end Go.Proofs.YthmjpfooffbhhaaGreatDoor
