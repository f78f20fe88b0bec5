/- That the code does what the models say (part 9). -/
import Derived.Test.YtbfemlilfeahkaaGreatDoorTfWk0
import Derived.Test.YtbfemlilfeahkaaGreatDoorTfWk1
import Derived.Test.YtbfemlilfeahkaaGreatDoorTfWk2
import Derived.Test.YtbfemlilfeahkaaGreatDoorTfWk4
import Derived.Test.YtbfemlilfeahkaaGreatDoorTfWk5
import Derived.Test.YtbfemlilfeahkaaGreatDoorTfWk6
import Derived.Test.YtbfemlilfeahkaaGreatDoorTfWk7
import Derived.Test.YtbfemlilfeahkaaGreatDoorTfWk8
set_option linter.unusedSimpArgs false
set_option linter.unusedVariables false
open Go.Proofs Go.Shelf
namespace Go.Proofs.YtbfemlilfeahkaaGreatDoor
open Go.Vc Go.Md
set_option maxRecDepth 100000
set_option maxHeartbeats 4000000
theorem ok_Law_ThingsAreFound (m_1 : api_Machine) (name_2 : Str) (z : Bool) (hm : Law_ThingsAreFound m_1 name_2 = some z) : Does Tryz.prog 3 [.agg [.p (.l (List.map enc_api_Setting m_1.Facts)), .p (.l (List.map enc_api_File m_1.Files)), .p (.l (List.map enc_api_Setting m_1.Settings)), .p (.l (List.map enc_api_Service m_1.Services))], .p (.s name_2)] [] (fun r X => r = .p (.b z) ∧ X = []) := by
  unfold Law_ThingsAreFound at hm
  refine Does.of_wp 0 198 [.tmp 4] Tryz.func3 rfl (by decide) rfl rfl (Nat.le_of_ble_eq_true rfl) fun B => ?_
  refine Wp.seqR fun K1 hK1 => ?_
  simp only [go_sem, simprocAttr]
  first | refine hK1 _ _ ?_ | refine ⟨sd, hK1 _ _ ?_⟩
  refine Wp.seqW fun K2 hK2 hW2 => ?_
  obtain ⟨r_3, hr_3, hm⟩ := call_elim hm
  refine Wp.seqR fun K3 hK3 => ?_
  simp only [go_sem, simprocAttr]
  try refine ⟨sd, ?_⟩
  refine Rg.callX (av := ?av4) (g := true) (fun hg => ok_Law_landed  _ hr_3) si si si sg si ?cont4
  intro hv4
  simp only [go_sem, simprocAttr]
  first | refine hK3 _ _ ?_ | refine ⟨sd, hK3 _ _ ?_⟩
  refine Wp.cond rfl ⟨⟩ (fun hc5 => ?_) (fun hc5 => ?_)
  · have hm := brT hm (sb hc5)
    refine Wp.seqR fun K6 hK6 => ?_
    simp only [go_sem, simprocAttr]
    first | refine hK6 _ _ ?_ | refine ⟨sd, hK6 _ _ ?_⟩
    refine Wp.ret ?_
    simp only [thenQ, blockQ]
    refine retQ_ret ?_
    cases hm
    simp only [go_sem, simprocAttr]
    try exact se1
  · have hm := brF hm (sb hc5)
    refine Wp.skip ?_
    simp only [thenQ, blockQ, ↓reduceIte]
    refine hK2 _ _ ?_
    obtain ⟨r_4, hr_4, hm⟩ := call_elim hm
    refine Wp.seqR fun K7 hK7 => ?_
    simp only [go_sem, simprocAttr]
    try refine ⟨sd, ?_⟩
    refine Rg.callF (av := ?av8) (ok_Law_fit m_1 _ hr_4) si si sg ?cont8
    intro hv8
    simp only [go_sem, simprocAttr]
    first | refine hK7 _ _ ?_ | refine ⟨sd, hK7 _ _ ?_⟩
    refine Wp.seqR fun K9 hK9 => ?_
    simp only [go_sem, simprocAttr]
    first | refine hK9 _ _ ?_ | refine ⟨sd, hK9 _ _ ?_⟩
    obtain ⟨r_5, hr_5, hm⟩ := call_elim hm
    refine Wp.seqR fun K10 hK10 => ?_
    simp only [go_sem, simprocAttr]
    try refine ⟨sd, ?_⟩
    refine Rg.callR (av := ?av11) (g := true) [1] (fun hg => ok_slices_IndexFunc_api_Setting_api_Setting_i1 r_4.Facts name_2 _ hr_5) si si si si sg sg sg ?cont11
    simp only [go_sem, simprocAttr]
    first | refine hK10 _ _ ?_ | refine ⟨sd, hK10 _ _ ?_⟩
    obtain ⟨r_6, hr_6, hm⟩ := call_elim hm
    refine Wp.seqR fun K12 hK12 => ?_
    simp only [go_sem, simprocAttr]
    try refine ⟨sd, ?_⟩
    refine Rg.callR (av := ?av13) (g := true) [1] (fun hg => ok_slices_IndexFunc_api_File_api_File_i1 r_4.Files name_2 _ hr_6) si si si si sg sg sg ?cont13
    simp only [go_sem, simprocAttr]
    first | refine hK12 _ _ ?_ | refine ⟨sd, hK12 _ _ ?_⟩
    obtain ⟨r_7, hr_7, hm⟩ := call_elim hm
    refine Wp.seqR fun K14 hK14 => ?_
    simp only [go_sem, simprocAttr]
    try refine ⟨sd, ?_⟩
    refine Rg.callR (av := ?av15) (g := true) [1] (fun hg => ok_slices_IndexFunc_api_Setting_api_Setting_i2 r_4.Settings name_2 _ hr_7) si si si si sg sg sg ?cont15
    simp only [go_sem, simprocAttr]
    first | refine hK14 _ _ ?_ | refine ⟨sd, hK14 _ _ ?_⟩
    obtain ⟨r_8, hr_8, hm⟩ := call_elim hm
    refine Wp.seqR fun K16 hK16 => ?_
    simp only [go_sem, simprocAttr]
    try refine ⟨sd, ?_⟩
    refine Rg.callR (av := ?av17) (g := true) [1] (fun hg => ok_slices_IndexFunc_api_Service_api_Service_i1 r_4.Services name_2 _ hr_8) si si si si sg sg sg ?cont17
    simp only [go_sem, simprocAttr]
    first | refine hK16 _ _ ?_ | refine ⟨sd, hK16 _ _ ?_⟩
    obtain ⟨r_9, hr_9, hm⟩ := call_elim hm
    refine Wp.seqR fun K18 hK18 => ?_
    simp only [go_sem, simprocAttr]
    try refine ⟨sd, ?_⟩
    refine Rg.callX (av := ?av19) (g := true) (fun hg => ok_disk_Fact r_4 name_2 _ hr_9) si si si sg si ?cont19
    intro hv19
    simp only [go_sem, simprocAttr]
    first | refine hK18 _ _ ?_ | refine ⟨sd, hK18 _ _ ?_⟩
    refine Wp.seqW fun K20 hK20 hW20 => ?_
    obtain ⟨r_10, hr_10, hm⟩ := call_elim hm
    obtain ⟨r_11, hr_11, hm⟩ := call_elim hm
    obtain ⟨c_12, hm⟩ := chk_elim hm
    have hr_13 := getD_enc (l := r_4.Facts) (e := enc_api_Setting) (d := (api_Setting.mk [] [])) (i := r_5.toNat)
    simp only [enc_api_Setting, List.map_nil] at hr_13
    refine Wp.seqR fun K21 hK21 => ?_
    simp only [go_sem, simprocAttr, hr_13]
    try refine ⟨by first | exact sd | ((repeat' apply And.intro) <;> first | assumption | omega | (simp only [List.length_append, List.length_map, List.length_cons, List.length_nil, List.length_set, List.length_replicate] at c_12 ⊢; omega)), ?_⟩
    refine Rg.callX (av := ?av22) (g := true) (fun hg => ok_R_IsName name_2 _ hr_10) (by simp only [go_sem, simprocAttr, hr_13]; exact Is.mk) (by simp only [go_sem, simprocAttr, hr_13]; exact Is.mk) (by simp only [go_sem, simprocAttr, hr_13]; exact Is.mk) (by simp only [go_sem, simprocAttr, hr_13]) (by simp only [go_sem, simprocAttr, hr_13]; exact Is.mk) ?cont22
    intro hv22
    simp only [go_sem, simprocAttr, hr_13]
    try refine ⟨by first | exact sd | ((repeat' apply And.intro) <;> first | assumption | omega | (simp only [List.length_append, List.length_map, List.length_cons, List.length_nil, List.length_set, List.length_replicate] at c_12 ⊢; omega)), ?_⟩
    refine Rg.callX (av := ?av23) (g := true) (fun hg => ok_Law_ThingsAreFound_1 r_10 (decide (0 ≤ r_5)) r_9.2 _ hr_11) (by simp only [go_sem, simprocAttr, hr_13]; exact Is.mk) (by simp only [go_sem, simprocAttr, hr_13]; exact Is.mk) (by simp only [go_sem, simprocAttr, hr_13]; exact Is.mk) (by simp only [go_sem, simprocAttr, hr_13]) (by simp only [go_sem, simprocAttr, hr_13]; exact Is.mk) ?cont23
    intro hv23
    simp only [go_sem, simprocAttr, hr_13]
    first | refine hK21 _ _ ?_ | refine ⟨by first | exact sd | ((repeat' apply And.intro) <;> first | assumption | omega | (simp only [List.length_append, List.length_map, List.length_cons, List.length_nil, List.length_set, List.length_replicate] at c_12 ⊢; omega)), hK21 _ _ ?_⟩
    refine Wp.cond rfl ⟨⟩ (fun hc24 => ?_) (fun hc24 => ?_)
    · have hm := brT hm (sb hc24)
      refine Wp.seqR fun K25 hK25 => ?_
      simp only [go_sem, simprocAttr]
      first | refine hK25 _ _ ?_ | refine ⟨sd, hK25 _ _ ?_⟩
      refine Wp.ret ?_
      simp only [thenQ, blockQ]
      refine retQ_ret ?_
      cases hm
      simp only [go_sem, simprocAttr]
      try exact se2
    · have hm := brF hm (sb hc24)
      refine Wp.skip ?_
      simp only [thenQ, blockQ, ↓reduceIte]
      refine hK20 _ _ ?_
      obtain ⟨r_14, hr_14, hm⟩ := call_elim hm
      refine Wp.seqR fun K26 hK26 => ?_
      simp only [go_sem, simprocAttr]
      try refine ⟨sd, ?_⟩
      refine Rg.callX (av := ?av27) (g := true) (fun hg => ok_disk_File r_4 name_2 _ hr_14) si si si sg si ?cont27
      intro hv27
      simp only [go_sem, simprocAttr]
      first | refine hK26 _ _ ?_ | refine ⟨sd, hK26 _ _ ?_⟩
      refine Wp.seqW fun K28 hK28 hW28 => ?_
      obtain ⟨r_15, hr_15, hm⟩ := call_elim hm
      obtain ⟨r_16, hr_16, hm⟩ := call_elim hm
      obtain ⟨c_17, hm⟩ := chk_elim hm
      have hr_18 := getD_enc (l := r_4.Files) (e := enc_api_File) (d := (api_File.mk [] [] false)) (i := r_6.toNat)
      simp only [enc_api_File, List.map_nil] at hr_18
      refine Wp.seqD (plan := [(0, none), (1, none), (2, none), (3, none), (4, none), (5, none), (6, none), (7, none), (8, none), (9, none), (10, none), (11, none), (12, none), (13, none), (14, none), (15, none), (16, none), (17, none), (18, none), (19, none), (20, none)]) (by kernel_rfl) rfl (by kernel_rfl) fun K29 hK29 => ?_
      simp only [go_sem, simprocAttr, hr_18]
      try refine ⟨by first | exact sd | ((repeat' apply And.intro) <;> first | assumption | omega | (simp only [List.length_append, List.length_map, List.length_cons, List.length_nil, List.length_set, List.length_replicate] at c_17 ⊢; omega)), ?_⟩
      refine Dr.callF (av := ?av30) (g := true) (o := ?o30) (fun hg => ok_R_IsPath name_2 _ hr_15) (by simp only [go_sem, simprocAttr, hr_18]; exact Is.mk) (by simp only [go_sem, simprocAttr, hr_18]; exact Is.mk) (by simp only [go_sem, simprocAttr, hr_18]; exact Is.mk) (by simp only [go_sem, simprocAttr, hr_18]; exact Is.mk) (by simp only [go_sem, simprocAttr, hr_18]) (by simp only [go_sem, simprocAttr, hr_18]; exact Is.mk) ?cont30
      simp only [go_sem, simprocAttr, hr_18]
      try refine ⟨by first | exact sd | ((repeat' apply And.intro) <;> first | assumption | omega | (simp only [List.length_append, List.length_map, List.length_cons, List.length_nil, List.length_set, List.length_replicate] at c_17 ⊢; omega)), ?_⟩
      refine Dr.callF (av := ?av31) (g := true) (o := ?o31) (fun hg => ok_Law_ThingsAreFound_1 r_15 (decide (0 ≤ r_6)) r_14.2 _ hr_16) (by simp only [go_sem, simprocAttr, hr_18]; exact Is.mk) (by simp only [go_sem, simprocAttr, hr_18]; exact Is.mk) (by simp only [go_sem, simprocAttr, hr_18]; exact Is.mk) (by simp only [go_sem, simprocAttr, hr_18]; exact Is.mk) (by simp only [go_sem, simprocAttr, hr_18]) (by simp only [go_sem, simprocAttr, hr_18]; exact Is.mk) ?cont31
      simp only [go_sem, simprocAttr, hr_18]
      first | refine hK29 _ _ ?_ | refine ⟨by first | exact sd | ((repeat' apply And.intro) <;> first | assumption | omega | (simp only [List.length_append, List.length_map, List.length_cons, List.length_nil, List.length_set, List.length_replicate] at c_17 ⊢; omega)), hK29 _ _ ?_⟩
      refine Wp.cond rfl ⟨⟩ (fun hc32 => ?_) (fun hc32 => ?_)
      · have hm := brT hm (sb hc32)
        refine Wp.seqR fun K33 hK33 => ?_
        simp only [go_sem, simprocAttr]
        first | refine hK33 _ _ ?_ | refine ⟨sd, hK33 _ _ ?_⟩
        refine Wp.ret ?_
        simp only [thenQ, blockQ]
        refine retQ_ret ?_
        cases hm
        simp only [go_sem, simprocAttr]
        try exact se2
      · have hm := brF hm (sb hc32)
        refine Wp.skip ?_
        simp only [thenQ, blockQ, ↓reduceIte]
        refine hK28 _ _ ?_
        obtain ⟨r_19, hr_19, hm⟩ := call_elim hm
        refine Wp.seqR fun K34 hK34 => ?_
        simp only [go_sem, simprocAttr]
        try refine ⟨sd, ?_⟩
        refine Rg.callX (av := ?av35) (g := true) (fun hg => ok_disk_Setting r_4 name_2 _ hr_19) si si si sg si ?cont35
        intro hv35
        simp only [go_sem, simprocAttr]
        first | refine hK34 _ _ ?_ | refine ⟨sd, hK34 _ _ ?_⟩
        refine Wp.seqW fun K36 hK36 hW36 => ?_
        obtain ⟨r_20, hr_20, hm⟩ := call_elim hm
        obtain ⟨r_21, hr_21, hm⟩ := call_elim hm
        obtain ⟨c_22, hm⟩ := chk_elim hm
        have hr_23 := getD_enc (l := r_4.Settings) (e := enc_api_Setting) (d := (api_Setting.mk [] [])) (i := r_7.toNat)
        simp only [enc_api_Setting, List.map_nil] at hr_23
        refine Wp.seqR fun K37 hK37 => ?_
        simp only [go_sem, simprocAttr, hr_23]
        try refine ⟨by first | exact sd | ((repeat' apply And.intro) <;> first | assumption | omega | (simp only [List.length_append, List.length_map, List.length_cons, List.length_nil, List.length_set, List.length_replicate] at c_22 ⊢; omega)), ?_⟩
        refine Rg.callX (av := ?av38) (g := true) (fun hg => ok_R_IsPath name_2 _ hr_20) (by simp only [go_sem, simprocAttr, hr_23]; exact Is.mk) (by simp only [go_sem, simprocAttr, hr_23]; exact Is.mk) (by simp only [go_sem, simprocAttr, hr_23]; exact Is.mk) (by simp only [go_sem, simprocAttr, hr_23]) (by simp only [go_sem, simprocAttr, hr_23]; exact Is.mk) ?cont38
        intro hv38
        simp only [go_sem, simprocAttr, hr_23]
        try refine ⟨by first | exact sd | ((repeat' apply And.intro) <;> first | assumption | omega | (simp only [List.length_append, List.length_map, List.length_cons, List.length_nil, List.length_set, List.length_replicate] at c_22 ⊢; omega)), ?_⟩
        refine Rg.callX (av := ?av39) (g := true) (fun hg => ok_Law_ThingsAreFound_1 r_20 (decide (0 ≤ r_7)) r_19.2 _ hr_21) (by simp only [go_sem, simprocAttr, hr_23]; exact Is.mk) (by simp only [go_sem, simprocAttr, hr_23]; exact Is.mk) (by simp only [go_sem, simprocAttr, hr_23]; exact Is.mk) (by simp only [go_sem, simprocAttr, hr_23]) (by simp only [go_sem, simprocAttr, hr_23]; exact Is.mk) ?cont39
        intro hv39
        simp only [go_sem, simprocAttr, hr_23]
        first | refine hK37 _ _ ?_ | refine ⟨by first | exact sd | ((repeat' apply And.intro) <;> first | assumption | omega | (simp only [List.length_append, List.length_map, List.length_cons, List.length_nil, List.length_set, List.length_replicate] at c_22 ⊢; omega)), hK37 _ _ ?_⟩
        refine Wp.cond rfl ⟨⟩ (fun hc40 => ?_) (fun hc40 => ?_)
        · have hm := brT hm (sb hc40)
          refine Wp.seqR fun K41 hK41 => ?_
          simp only [go_sem, simprocAttr]
          first | refine hK41 _ _ ?_ | refine ⟨sd, hK41 _ _ ?_⟩
          refine Wp.ret ?_
          simp only [thenQ, blockQ]
          refine retQ_ret ?_
          cases hm
          simp only [go_sem, simprocAttr]
          try exact se2
        · have hm := brF hm (sb hc40)
          refine Wp.skip ?_
          simp only [thenQ, blockQ, ↓reduceIte]
          refine hK36 _ _ ?_
          obtain ⟨r_24, hr_24, hm⟩ := call_elim hm
          refine Wp.seqR fun K42 hK42 => ?_
          simp only [go_sem, simprocAttr]
          try refine ⟨sd, ?_⟩
          refine Rg.callX (av := ?av43) (g := true) (fun hg => ok_disk_Service r_4 name_2 _ hr_24) si si si sg si ?cont43
          intro hv43
          simp only [go_sem, simprocAttr]
          first | refine hK42 _ _ ?_ | refine ⟨sd, hK42 _ _ ?_⟩
          refine Wp.seqW fun K44 hK44 hW44 => ?_
          obtain ⟨r_25, hr_25, hm⟩ := call_elim hm
          obtain ⟨r_26, hr_26, hm⟩ := call_elim hm
          obtain ⟨c_27, hm⟩ := chk_elim hm
          have hr_28 := getD_enc (l := r_4.Services) (e := enc_api_Service) (d := (api_Service.mk [] [] false false)) (i := r_8.toNat)
          simp only [enc_api_Service, List.map_nil] at hr_28
          refine Wp.seqD (plan := [(0, none), (1, none), (2, none), (3, none), (4, none), (5, none), (6, none), (7, none), (8, none), (9, none), (10, none), (11, none), (12, none), (13, none), (14, none), (15, none), (16, none), (17, none), (18, none), (19, none), (20, none)]) (by kernel_rfl) rfl (by kernel_rfl) fun K45 hK45 => ?_
          simp only [go_sem, simprocAttr, hr_28]
          try refine ⟨by first | exact sd | ((repeat' apply And.intro) <;> first | assumption | omega | (simp only [List.length_append, List.length_map, List.length_cons, List.length_nil, List.length_set, List.length_replicate] at c_27 ⊢; omega)), ?_⟩
          refine Dr.callF (av := ?av46) (g := true) (o := ?o46) (fun hg => ok_R_IsName name_2 _ hr_25) (by simp only [go_sem, simprocAttr, hr_28]; exact Is.mk) (by simp only [go_sem, simprocAttr, hr_28]; exact Is.mk) (by simp only [go_sem, simprocAttr, hr_28]; exact Is.mk) (by simp only [go_sem, simprocAttr, hr_28]; exact Is.mk) (by simp only [go_sem, simprocAttr, hr_28]) (by simp only [go_sem, simprocAttr, hr_28]; exact Is.mk) ?cont46
          simp only [go_sem, simprocAttr, hr_28]
          try refine ⟨by first | exact sd | ((repeat' apply And.intro) <;> first | assumption | omega | (simp only [List.length_append, List.length_map, List.length_cons, List.length_nil, List.length_set, List.length_replicate] at c_27 ⊢; omega)), ?_⟩
          refine Dr.callF (av := ?av47) (g := true) (o := ?o47) (fun hg => ok_Law_ThingsAreFound_1 r_25 (decide (0 ≤ r_8)) r_24.2 _ hr_26) (by simp only [go_sem, simprocAttr, hr_28]; exact Is.mk) (by simp only [go_sem, simprocAttr, hr_28]; exact Is.mk) (by simp only [go_sem, simprocAttr, hr_28]; exact Is.mk) (by simp only [go_sem, simprocAttr, hr_28]; exact Is.mk) (by simp only [go_sem, simprocAttr, hr_28]) (by simp only [go_sem, simprocAttr, hr_28]; exact Is.mk) ?cont47
          simp only [go_sem, simprocAttr, hr_28]
          first | refine hK45 _ _ ?_ | refine ⟨by first | exact sd | ((repeat' apply And.intro) <;> first | assumption | omega | (simp only [List.length_append, List.length_map, List.length_cons, List.length_nil, List.length_set, List.length_replicate] at c_27 ⊢; omega)), hK45 _ _ ?_⟩
          refine Wp.cond rfl ⟨⟩ (fun hc48 => ?_) (fun hc48 => ?_)
          · have hm := brT hm (sb hc48)
            refine Wp.seqR fun K49 hK49 => ?_
            simp only [go_sem, simprocAttr]
            first | refine hK49 _ _ ?_ | refine ⟨sd, hK49 _ _ ?_⟩
            refine Wp.ret ?_
            simp only [thenQ, blockQ]
            refine retQ_ret ?_
            cases hm
            simp only [go_sem, simprocAttr]
            try exact se2
          · have hm := brF hm (sb hc48)
            refine Wp.skip ?_
            simp only [thenQ, blockQ, ↓reduceIte]
            refine hK44 _ _ ?_
            obtain ⟨r_29, hr_29, hm⟩ := call_elim hm
            refine Wp.seqR fun K50 hK50 => ?_
            simp only [go_sem, simprocAttr]
            try refine ⟨sd, ?_⟩
            refine Rg.callF (av := ?av51) (ok_disk_Below r_4 name_2 _ hr_29) si si sg ?cont51
            intro hv51
            simp only [go_sem, simprocAttr]
            first | refine hK50 _ _ ?_ | refine ⟨sd, hK50 _ _ ?_⟩
            refine Wp.seqW fun K52 hK52 hW52 => ?_
            obtain ⟨r_30, hr_30, hm⟩ := callG_elim hm
            refine Wp.seqR fun K53 hK53 => ?_
            simp only [go_sem, simprocAttr]
            try refine ⟨sd, ?_⟩
            refine Rg.callX (av := ?av54) (g := !decide (name_2 = [])) (fun hg => ok_R_IsPath name_2 _ (hr_30 hg)) si si si sg si ?cont54
            intro hv54
            simp only [go_sem, simprocAttr]
            first | refine hK53 _ _ ?_ | refine ⟨sd, hK53 _ _ ?_⟩
            refine Wp.cond rfl ⟨⟩ (fun hc55 => ?_) (fun hc55 => ?_)
            · have hm := brT hm (sb hc55)
              refine Wp.seqR fun K56 hK56 => ?_
              simp only [go_sem, simprocAttr]
              first | refine hK56 _ _ ?_ | refine ⟨sd, hK56 _ _ ?_⟩
              refine Wp.ret ?_
              simp only [thenQ, blockQ]
              refine retQ_ret ?_
              cases hm
              simp only [go_sem, simprocAttr]
              try exact se2
            · have hm := brF hm (sb hc55)
              refine Wp.skip ?_
              simp only [thenQ, blockQ, ↓reduceIte]
              refine hK52 _ _ ?_
              refine Wp.seqR fun K57 hK57 => ?_
              simp only [go_sem, simprocAttr]
              first | refine hK57 _ _ ?_ | refine ⟨sd, hK57 _ _ ?_⟩
              refine Wp.seqW fun K58 hK58 hW58 => ?_
              obtain ⟨k_51, hk_51, hm⟩ := jp_elim hm
              have hcut58 : ∀ s, k_51 s = some z → K58 [(11, .p (.i .i64 r_29.2)), (15, .p (.l (List.map ecS r_29.1))), (16, .buf 4)] [.cells 26 [.top, .top, .top, .top], .cells 9 [.top], .cells 37 [.top, .top, .top], .cells 41 [.top, .top, .top, .top], .buf 9 1 (List.map ecS s)] := by
                intro o4_50 hs
                have hm := hk_51 _ hs
                clear hs
                try dsimp only at hm
                try dsimp only
                refine hK58 _ _ ?_
                obtain ⟨r_52, hr_52, hm⟩ := callG_elim hm
                refine Wp.seqR fun K59 hK59 => ?_
                simp only [go_sem, simprocAttr]
                try refine ⟨sd, ?_⟩
                refine Rg.callX (av := ?av60) (g := decide (r_29.2 = 0)) (fun hg => ok_slices_Equal_string_string r_29.1 o4_50 _ (hr_52 hg)) si si si sg si ?cont60
                intro hv60
                simp only [go_sem, simprocAttr]
                first | refine hK59 _ _ ?_ | refine ⟨sd, hK59 _ _ ?_⟩
                refine Wp.ret ?_
                refine retQ_ret ?_
                cases hm
                simp only [go_sem, simprocAttr]
                try exact se2
              clear hK58 hk_51
              refine Wp.seqR fun K61 hK61 => ?_
              simp only [go_sem, simprocAttr]
              first | refine hK61 _ _ ?_ | refine ⟨sd, hK61 _ _ ?_⟩
              refine Wp.block ?_
              refine Wp.adopt 16 9 1 rfl ?_
              simp only [go_sem, simprocAttr]
              obtain ⟨k_64, hk_64, hm⟩ := forL_cont hm
              refine Wp.fact 170 fun hl_67 => ?_
              replace hl_67 : r_4.Files.length ≤ 274877906944 := by
                simp only [go_sem, simprocAttr, List.length_map] at hl_67
                omega
              refine Wp.forL (fun i_66 s => [(3, .ptr 1 0), (11, .p (.i .i64 r_29.2)), (15, .p (.l (List.map ecS r_29.1))), (16, .buf 4), (170, .p (.l (List.map enc_api_File r_4.Files))), (171, .p (.i .i64 (r_4.Files.length : Int))), (172, .p (.i .i64 (i_66 : Int)))]) (fun i_66 s => [.cells 26 [.p (.l (List.map enc_api_Setting r_4.Facts)), .p (.l (List.map enc_api_File r_4.Files)), .p (.l (List.map enc_api_Setting r_4.Settings)), .p (.l (List.map enc_api_Service r_4.Services))], .cells 9 [.p (.s name_2)], .cells 37 [.p (.s r_14.1.Path), .p (.s r_14.1.Data), .p (.b r_14.1.Runs)], .cells 41 [.p (.s r_24.1.Name), .p (.s r_24.1.Path), .p (.b r_24.1.Auto), .p (.b r_24.1.On)], .buf 9 1 (List.map ecS s)]) ?_ hm ?_
              ·
                simp only [go_sem, simprocAttr]
                try exact se2
              clear hm
              intro i_66 o4_59 hii_66 hm
              try dsimp only at hm
              try dsimp only
              refine Wp.seqR fun K62 hK62 => ?_
              simp only [go_sem, simprocAttr]
              first | refine hK62 _ _ ?_ | refine ⟨sd, hK62 _ _ ?_⟩
              refine Wp.seqW fun K63 hK63 hW63 => ?_
              refine Wp.cond rfl ⟨⟩ (fun hc63 => ?_) (fun hc63 => ?_)
              rotate_left
              · refine Wp.exit ?_
                have hm := hk_64 _ (forL_end hm (ge_nat (by first | exact hc63 | simpa using hc63)))
                try dsimp only at hm
                simp only [thenQ, blockQ, ↓reduceIte]
                refine hW58 _ _ _ _ ?_ (hcut58 o4_59 hm)
                simp only [go_sem, simprocAttr]
                try exact se2
              have hlt63 := lt_nat (by first | exact hc63 | simpa using hc63)
              have hw63 := wrap_succ hlt63 hl_67
              obtain ⟨f_68, nx_65, hxf_68, hyf_68, hnx_65, hm⟩ := forL_step hm hlt63
              replace hxf_68 := hxf_68 enc_api_File
              refine Wp.skip ?_
              simp only [thenQ]
              refine hK63 _ _ ?_
              refine Wp.seqW fun K64 hK64 hW64 => ?_
              refine Wp.block ?_
              refine Wp.seqR fun K65 hK65 => ?_
              simp only [go_sem, simprocAttr, hw63, hxf_68]
              first | refine hK65 _ _ ?_ | refine ⟨sd, hK65 _ _ ?_⟩
              obtain ⟨c_69, hm⟩ := chk_elim hm
              obtain ⟨r_70, hr_70, hm⟩ := callG_elim hm
              refine Wp.seqR fun K66 hK66 => ?_
              simp only [go_sem, simprocAttr, hw63, hxf_68]
              try refine ⟨by first | exact sd | ((repeat' apply And.intro) <;> first | assumption | omega | (simp only [List.length_append, List.length_map, List.length_cons, List.length_nil, List.length_set, List.length_replicate] at c_69 ⊢; omega)), ?_⟩
              refine Rg.callX (av := ?av67) (g := !(decide (name_2 = []))) (fun hg => ok_strings_HasPrefix f_68.Path (name_2 ++ ([47] : Str)) _ (hr_70 hg)) (by simp only [go_sem, simprocAttr, hw63, hxf_68]; exact Is.mk) (by simp only [go_sem, simprocAttr, hw63, hxf_68]; exact Is.mk) (by simp only [go_sem, simprocAttr, hw63, hxf_68]; exact Is.mk) (by simp only [go_sem, simprocAttr, hw63, hxf_68]) (by simp only [go_sem, simprocAttr, hw63, hxf_68]; exact Is.mk) ?cont67
              intro hv67
              simp only [go_sem, simprocAttr, hw63, hxf_68]
              first | refine hK66 _ _ ?_ | refine ⟨by first | exact sd | ((repeat' apply And.intro) <;> first | assumption | omega | (simp only [List.length_append, List.length_map, List.length_cons, List.length_nil, List.length_set, List.length_replicate] at c_69 ⊢; omega)), hK66 _ _ ?_⟩
              refine Wp.cond rfl ⟨⟩ (fun hc68 => ?_) (fun hc68 => ?_)
              · have hm := brT hm (sb hc68)
                obtain ⟨c_71, hm⟩ := chk_elim hm
                refine Wp.region fun K69 hK69 => ?_
                simp only [go_sem, simprocAttr, hw63, hxf_68]
                first | refine hK69 _ _ ?_ | refine ⟨by first | exact sd | ((repeat' apply And.intro) <;> first | assumption | omega | (simp only [List.length_append, List.length_map, List.length_cons, List.length_nil, List.length_set, List.length_replicate] at c_71 ⊢; omega)), hK69 _ _ ?_⟩
                simp only [thenQ, blockQ, ↓reduceIte]
                refine hK64 _ _ ?_
                refine Wp.region fun K70 hK70 => ?_
                simp only [go_sem, simprocAttr, hw63, hxf_68]
                first | refine hK70 _ _ ?_ | refine ⟨sd, hK70 _ _ ?_⟩
                simp only [thenQ, blockQ, ↓reduceIte]
                refine ⟨o4_59 ++ [f_68.Path], hlt63, hnx_65 _ hm, ?_⟩
                simp only [go_sem, simprocAttr, hw63, hxf_68]
                try exact se2
              · have hm := brF hm (sb hc68)
                refine Wp.skip ?_
                simp only [thenQ, blockQ, ↓reduceIte]
                refine hK64 _ _ ?_
                refine Wp.region fun K71 hK71 => ?_
                simp only [go_sem, simprocAttr, hw63, hxf_68]
                first | refine hK71 _ _ ?_ | refine ⟨sd, hK71 _ _ ?_⟩
                simp only [thenQ, blockQ, ↓reduceIte]
                refine ⟨o4_59, hlt63, hnx_65 _ hm, ?_⟩
                simp only [go_sem, simprocAttr, hw63, hxf_68]
                try exact se2
end Go.Proofs.YtbfemlilfeahkaaGreatDoor
