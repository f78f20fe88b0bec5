/- That the code does what the models say (part 2). -/
import Derived.Test.YtbfemlilfeahkaaDoorCpWk1
set_option linter.unusedSimpArgs false
set_option linter.unusedVariables false
namespace Go.Proofs.YtbfemlilfeahkaaDoor
open Go.Vc Go.Md
set_option maxRecDepth 100000 in
set_option maxHeartbeats 4000000 in
theorem ok_R_ChangeError (c_1 : api_Change) (z : Int) (hm : R_ChangeError c_1 = some z) : Does Tryd.prog 76 [.agg [.p (.i .i64 c_1.Kind), .p (.s c_1.File.Path), .p (.s c_1.File.Data), .p (.b c_1.File.Runs), .p (.s c_1.Setting.Key), .p (.s c_1.Setting.Value), .p (.s c_1.Service.Name), .p (.s c_1.Service.Path), .p (.b c_1.Service.Auto), .p (.b c_1.Service.On)]] [] (fun r X => r = .p (.i .i64 z) ∧ X = []) := by
  unfold R_ChangeError at hm
  refine Does.of_wp 0 67 [.tmp 2] Tryd.func76 rfl (by decide) rfl rfl (Nat.le_of_ble_eq_true rfl) fun B => ?_
  refine Wp.seqR fun K1 hK1 => ?_
  simp only [go_sem, simprocAttr]
  first
    | refine hK1 _ _ ?_
    | refine ⟨by first | exact sd, hK1 _ _ ?_⟩
  refine Wp.seqR fun K2 hK2 => ?_
  simp only [go_sem, simprocAttr]
  first
    | refine hK2 _ _ ?_
    | refine ⟨by first | exact sd, hK2 _ _ ?_⟩
  refine Wp.seqR fun K3 hK3 => ?_
  simp only [go_sem, simprocAttr]
  first
    | refine hK3 _ _ ?_
    | refine ⟨by first | exact sd, hK3 _ _ ?_⟩
  refine Wp.seqW fun K4 hK4 hW4 => ?_
  obtain ⟨k_21, hk_21, hm⟩ := jp_elim hm
  have hcut4 : ∀ s, k_21 s = some z → K4 [(3, .ptr 1 0), (4, .p (.i .i64 s.1))] [.cells 55 [.top, .top, .top, .top, .top, .top, .top, .top, .top, .top], .cells 55 [.p (.i .i64 0), .p (.s s.2.1), .p (.s s.2.2.1), .p (.b s.2.2.2.1), .p (.s s.2.2.2.2.1), .p (.s s.2.2.2.2.2.1), .p (.s s.2.2.2.2.2.2.1), .p (.s s.2.2.2.2.2.2.2.1), .p (.b s.2.2.2.2.2.2.2.2.1), .p (.b s.2.2.2.2.2.2.2.2.2)]] := by
    intro s hs
    have hm := hk_21 _ hs
    clear hs
    obtain ⟨e_11, o1_1_12, o1_2_13, o1_3_14, o1_4_15, o1_5_16, o1_6_17, o1_7_18, o1_8_19, o1_9_20⟩ := s
    try dsimp only at hm
    try dsimp only
    refine hK4 _ _ ?_
    obtain ⟨r_22, hr_22, hm⟩ := call_elim hm
    obtain ⟨r_23, hr_23, hm⟩ := call_elim hm
    refine Wp.seqR fun K5 hK5 => ?_
    simp only [go_sem, simprocAttr]
    try refine ⟨by first | exact sd, ?_⟩
    refine Rg.callX (av := ?av6) (g := true) (fun hg => ok_R_when (!((decide (0 = 0)) && ((decide (o1_1_12 = [])) && ((decide (o1_2_13 = [])) && ((decide (o1_3_14 = false)) && ((decide (o1_4_15 = [])) && ((decide (o1_5_16 = [])) && ((decide (o1_6_17 = [])) && ((decide (o1_7_18 = [])) && ((decide (o1_8_19 = false)) && (decide (o1_9_20 = false)))))))))))) 2 _ hr_22) ?ha6 ?hb6 ?hp6 ?hok6 ?hf6 ?cont6
    case ha6 =>
      simp only [go_sem, simprocAttr]
      exact Is.mk
    case hb6 =>
      simp only [go_sem, simprocAttr]
      exact Is.mk
    case hp6 =>
      simp only [go_sem, simprocAttr]
      exact Is.mk
    case hok6 =>
      simp only [go_sem, simprocAttr]
    case hf6 =>
      simp only [go_sem, simprocAttr]
      exact Is.mk
    intro hv6
    simp only [go_sem, simprocAttr]
    try refine ⟨by first | exact sd, ?_⟩
    refine Rg.callX (av := ?av7) (g := true) (fun hg => ok_R_first [e_11, r_22] _ hr_23) ?ha7 ?hb7 ?hp7 ?hok7 ?hf7 ?cont7
    case ha7 =>
      simp only [go_sem, simprocAttr]
      exact Is.mk
    case hb7 =>
      simp only [go_sem, simprocAttr]
      exact Is.mk
    case hp7 =>
      simp only [go_sem, simprocAttr]
      exact Is.mk
    case hok7 =>
      simp only [go_sem, simprocAttr]
    case hf7 =>
      simp only [go_sem, simprocAttr]
      exact Is.mk
    intro hv7
    simp only [go_sem, simprocAttr]
    first
      | refine hK5 _ _ ?_
      | refine ⟨by first | exact sd, hK5 _ _ ?_⟩
    refine Wp.ret ?_
    refine retQ_ret ?_
    cases hm
    simp only [go_sem, simprocAttr]
    try simp [encB, encI_i64, encI_u8, encS, enc_api_Change, enc_api_File, enc_api_Machine, enc_api_Service, enc_api_Setting, enc_disk_line, List.map_set, List.map_replicate]
  clear hK4 hk_21
  refine Wp.seqR fun K8 hK8 => ?_
  simp only [go_sem, simprocAttr]
  first
    | refine hK8 _ _ ?_
    | refine ⟨by first | exact sd, hK8 _ _ ?_⟩
  refine Wp.seqR fun K9 hK9 => ?_
  simp only [go_sem, simprocAttr]
  first
    | refine hK9 _ _ ?_
    | refine ⟨by first | exact sd, hK9 _ _ ?_⟩
  refine Wp.block ?_
  refine Wp.seqR fun K10 hK10 => ?_
  simp only [go_sem, simprocAttr]
  first
    | refine hK10 _ _ ?_
    | refine ⟨by first | exact sd, hK10 _ _ ?_⟩
  refine Wp.cond rfl ⟨⟩ (fun hc11 => ?_) (fun hc11 => ?_)
  · have hm := brT hm (by first | exact hc11 | simpa using hc11)
    obtain ⟨r_24, hr_24, hm⟩ := call_elim hm
    refine Wp.region fun K12 hK12 => ?_
    simp only [go_sem, simprocAttr]
    try refine ⟨by first | exact sd, ?_⟩
    refine Rg.callX (av := ?av13) (g := true) (fun hg => ok_R_fileError c_1.File _ hr_24) ?ha13 ?hb13 ?hp13 ?hok13 ?hf13 ?cont13
    case ha13 =>
      simp only [go_sem, simprocAttr]
      exact Is.mk
    case hb13 =>
      simp only [go_sem, simprocAttr]
      exact Is.mk
    case hp13 =>
      simp only [go_sem, simprocAttr]
      exact Is.mk
    case hok13 =>
      simp only [go_sem, simprocAttr]
    case hf13 =>
      simp only [go_sem, simprocAttr]
      exact Is.mk
    intro hv13
    simp only [go_sem, simprocAttr]
    first
      | refine hK12 _ _ ?_
      | refine ⟨by first | exact sd, hK12 _ _ ?_⟩
    simp only [thenQ, blockQ, ↓reduceIte]
    refine hW4 _ _ _ _ ?_ (hcut4 (r_24, [], [], false, c_1.Setting.Key, c_1.Setting.Value, c_1.Service.Name, c_1.Service.Path, c_1.Service.Auto, c_1.Service.On) hm)
    simp only [go_sem, simprocAttr]
    try simp [encB, encI_i64, encI_u8, encS, enc_api_Change, enc_api_File, enc_api_Machine, enc_api_Service, enc_api_Setting, enc_disk_line, List.map_set, List.map_replicate]
  · have hm := brF hm (by first | exact hc11 | simpa using hc11)
    refine Wp.seqR fun K14 hK14 => ?_
    simp only [go_sem, simprocAttr]
    first
      | refine hK14 _ _ ?_
      | refine ⟨by first | exact sd, hK14 _ _ ?_⟩
    refine Wp.cond rfl ⟨⟩ (fun hc15 => ?_) (fun hc15 => ?_)
    · have hm := brT hm (by first | exact hc15 | simpa using hc15)
      obtain ⟨r_25, hr_25, hm⟩ := call_elim hm
      obtain ⟨r_26, hr_26, hm⟩ := call_elim hm
      refine Wp.region fun K16 hK16 => ?_
      simp only [go_sem, simprocAttr]
      try refine ⟨by first | exact sd, ?_⟩
      refine Rg.callX (av := ?av17) (g := true) (fun hg => ok_R_IsPath c_1.File.Path _ hr_25) ?ha17 ?hb17 ?hp17 ?hok17 ?hf17 ?cont17
      case ha17 =>
        simp only [go_sem, simprocAttr]
        exact Is.mk
      case hb17 =>
        simp only [go_sem, simprocAttr]
        exact Is.mk
      case hp17 =>
        simp only [go_sem, simprocAttr]
        exact Is.mk
      case hok17 =>
        simp only [go_sem, simprocAttr]
      case hf17 =>
        simp only [go_sem, simprocAttr]
        exact Is.mk
      intro hv17
      simp only [go_sem, simprocAttr]
      try refine ⟨by first | exact sd, ?_⟩
      refine Rg.callX (av := ?av18) (g := true) (fun hg => ok_R_when (!r_25) 5 _ hr_26) ?ha18 ?hb18 ?hp18 ?hok18 ?hf18 ?cont18
      case ha18 =>
        simp only [go_sem, simprocAttr]
        exact Is.mk
      case hb18 =>
        simp only [go_sem, simprocAttr]
        exact Is.mk
      case hp18 =>
        simp only [go_sem, simprocAttr]
        exact Is.mk
      case hok18 =>
        simp only [go_sem, simprocAttr]
      case hf18 =>
        simp only [go_sem, simprocAttr]
        exact Is.mk
      intro hv18
      simp only [go_sem, simprocAttr]
      first
        | refine hK16 _ _ ?_
        | refine ⟨by first | exact sd, hK16 _ _ ?_⟩
      simp only [thenQ, blockQ, ↓reduceIte]
      refine hW4 _ _ _ _ ?_ (hcut4 (r_26, [], c_1.File.Data, c_1.File.Runs, c_1.Setting.Key, c_1.Setting.Value, c_1.Service.Name, c_1.Service.Path, c_1.Service.Auto, c_1.Service.On) hm)
      simp only [go_sem, simprocAttr]
      try simp [encB, encI_i64, encI_u8, encS, enc_api_Change, enc_api_File, enc_api_Machine, enc_api_Service, enc_api_Setting, enc_disk_line, List.map_set, List.map_replicate]
    · have hm := brF hm (by first | exact hc15 | simpa using hc15)
      refine Wp.seqR fun K19 hK19 => ?_
      simp only [go_sem, simprocAttr]
      first
        | refine hK19 _ _ ?_
        | refine ⟨by first | exact sd, hK19 _ _ ?_⟩
      refine Wp.cond rfl ⟨⟩ (fun hc20 => ?_) (fun hc20 => ?_)
      · have hm := brT hm (by first | exact hc20 | simpa using hc20)
        obtain ⟨r_27, hr_27, hm⟩ := call_elim hm
        refine Wp.region fun K21 hK21 => ?_
        simp only [go_sem, simprocAttr]
        try refine ⟨by first | exact sd, ?_⟩
        refine Rg.callX (av := ?av22) (g := true) (fun hg => ok_R_settingError c_1.Setting _ hr_27) ?ha22 ?hb22 ?hp22 ?hok22 ?hf22 ?cont22
        case ha22 =>
          simp only [go_sem, simprocAttr]
          exact Is.mk
        case hb22 =>
          simp only [go_sem, simprocAttr]
          exact Is.mk
        case hp22 =>
          simp only [go_sem, simprocAttr]
          exact Is.mk
        case hok22 =>
          simp only [go_sem, simprocAttr]
        case hf22 =>
          simp only [go_sem, simprocAttr]
          exact Is.mk
        intro hv22
        simp only [go_sem, simprocAttr]
        first
          | refine hK21 _ _ ?_
          | refine ⟨by first | exact sd, hK21 _ _ ?_⟩
        simp only [thenQ, blockQ, ↓reduceIte]
        refine hW4 _ _ _ _ ?_ (hcut4 (r_27, c_1.File.Path, c_1.File.Data, c_1.File.Runs, [], [], c_1.Service.Name, c_1.Service.Path, c_1.Service.Auto, c_1.Service.On) hm)
        simp only [go_sem, simprocAttr]
        try simp [encB, encI_i64, encI_u8, encS, enc_api_Change, enc_api_File, enc_api_Machine, enc_api_Service, enc_api_Setting, enc_disk_line, List.map_set, List.map_replicate]
      · have hm := brF hm (by first | exact hc20 | simpa using hc20)
        refine Wp.seqR fun K23 hK23 => ?_
        simp only [go_sem, simprocAttr]
        first
          | refine hK23 _ _ ?_
          | refine ⟨by first | exact sd, hK23 _ _ ?_⟩
        refine Wp.cond rfl ⟨⟩ (fun hc24 => ?_) (fun hc24 => ?_)
        · have hm := brT hm (by first | exact hc24 | simpa using hc24)
          obtain ⟨r_28, hr_28, hm⟩ := call_elim hm
          obtain ⟨r_29, hr_29, hm⟩ := call_elim hm
          refine Wp.region fun K25 hK25 => ?_
          simp only [go_sem, simprocAttr]
          try refine ⟨by first | exact sd, ?_⟩
          refine Rg.callX (av := ?av26) (g := true) (fun hg => ok_R_IsPath c_1.Setting.Key _ hr_28) ?ha26 ?hb26 ?hp26 ?hok26 ?hf26 ?cont26
          case ha26 =>
            simp only [go_sem, simprocAttr]
            exact Is.mk
          case hb26 =>
            simp only [go_sem, simprocAttr]
            exact Is.mk
          case hp26 =>
            simp only [go_sem, simprocAttr]
            exact Is.mk
          case hok26 =>
            simp only [go_sem, simprocAttr]
          case hf26 =>
            simp only [go_sem, simprocAttr]
            exact Is.mk
          intro hv26
          simp only [go_sem, simprocAttr]
          try refine ⟨by first | exact sd, ?_⟩
          refine Rg.callX (av := ?av27) (g := true) (fun hg => ok_R_when (!r_28) 5 _ hr_29) ?ha27 ?hb27 ?hp27 ?hok27 ?hf27 ?cont27
          case ha27 =>
            simp only [go_sem, simprocAttr]
            exact Is.mk
          case hb27 =>
            simp only [go_sem, simprocAttr]
            exact Is.mk
          case hp27 =>
            simp only [go_sem, simprocAttr]
            exact Is.mk
          case hok27 =>
            simp only [go_sem, simprocAttr]
          case hf27 =>
            simp only [go_sem, simprocAttr]
            exact Is.mk
          intro hv27
          simp only [go_sem, simprocAttr]
          first
            | refine hK25 _ _ ?_
            | refine ⟨by first | exact sd, hK25 _ _ ?_⟩
          simp only [thenQ, blockQ, ↓reduceIte]
          refine hW4 _ _ _ _ ?_ (hcut4 (r_29, c_1.File.Path, c_1.File.Data, c_1.File.Runs, [], c_1.Setting.Value, c_1.Service.Name, c_1.Service.Path, c_1.Service.Auto, c_1.Service.On) hm)
          simp only [go_sem, simprocAttr]
          try simp [encB, encI_i64, encI_u8, encS, enc_api_Change, enc_api_File, enc_api_Machine, enc_api_Service, enc_api_Setting, enc_disk_line, List.map_set, List.map_replicate]
        · have hm := brF hm (by first | exact hc24 | simpa using hc24)
          refine Wp.seqR fun K28 hK28 => ?_
          simp only [go_sem, simprocAttr]
          first
            | refine hK28 _ _ ?_
            | refine ⟨by first | exact sd, hK28 _ _ ?_⟩
          refine Wp.cond rfl ⟨⟩ (fun hc29 => ?_) (fun hc29 => ?_)
          · have hm := brT hm (by first | exact hc29 | simpa using hc29)
            obtain ⟨r_30, hr_30, hm⟩ := call_elim hm
            refine Wp.region fun K30 hK30 => ?_
            simp only [go_sem, simprocAttr]
            try refine ⟨by first | exact sd, ?_⟩
            refine Rg.callX (av := ?av31) (g := true) (fun hg => ok_R_serviceError c_1.Service _ hr_30) ?ha31 ?hb31 ?hp31 ?hok31 ?hf31 ?cont31
            case ha31 =>
              simp only [go_sem, simprocAttr]
              exact Is.mk
            case hb31 =>
              simp only [go_sem, simprocAttr]
              exact Is.mk
            case hp31 =>
              simp only [go_sem, simprocAttr]
              exact Is.mk
            case hok31 =>
              simp only [go_sem, simprocAttr]
            case hf31 =>
              simp only [go_sem, simprocAttr]
              exact Is.mk
            intro hv31
            simp only [go_sem, simprocAttr]
            first
              | refine hK30 _ _ ?_
              | refine ⟨by first | exact sd, hK30 _ _ ?_⟩
            simp only [thenQ, blockQ, ↓reduceIte]
            refine hW4 _ _ _ _ ?_ (hcut4 (r_30, c_1.File.Path, c_1.File.Data, c_1.File.Runs, c_1.Setting.Key, c_1.Setting.Value, [], [], false, false) hm)
            simp only [go_sem, simprocAttr]
            try simp [encB, encI_i64, encI_u8, encS, enc_api_Change, enc_api_File, enc_api_Machine, enc_api_Service, enc_api_Setting, enc_disk_line, List.map_set, List.map_replicate]
          · have hm := brF hm (by first | exact hc29 | simpa using hc29)
            refine Wp.seqR fun K32 hK32 => ?_
            simp only [go_sem, simprocAttr]
            first
              | refine hK32 _ _ ?_
              | refine ⟨by first | exact sd, hK32 _ _ ?_⟩
            refine Wp.cond rfl ⟨⟩ (fun hc33 => ?_) (fun hc33 => ?_)
            · have hm := brT hm (by first | exact hc33 | simpa using hc33)
              obtain ⟨r_31, hr_31, hm⟩ := call_elim hm
              obtain ⟨r_32, hr_32, hm⟩ := call_elim hm
              refine Wp.region fun K34 hK34 => ?_
              simp only [go_sem, simprocAttr]
              try refine ⟨by first | exact sd, ?_⟩
              refine Rg.callX (av := ?av35) (g := true) (fun hg => ok_R_IsName c_1.Service.Name _ hr_31) ?ha35 ?hb35 ?hp35 ?hok35 ?hf35 ?cont35
              case ha35 =>
                simp only [go_sem, simprocAttr]
                exact Is.mk
              case hb35 =>
                simp only [go_sem, simprocAttr]
                exact Is.mk
              case hp35 =>
                simp only [go_sem, simprocAttr]
                exact Is.mk
              case hok35 =>
                simp only [go_sem, simprocAttr]
              case hf35 =>
                simp only [go_sem, simprocAttr]
                exact Is.mk
              intro hv35
              simp only [go_sem, simprocAttr]
              try refine ⟨by first | exact sd, ?_⟩
              refine Rg.callX (av := ?av36) (g := true) (fun hg => ok_R_when (!r_31) 5 _ hr_32) ?ha36 ?hb36 ?hp36 ?hok36 ?hf36 ?cont36
              case ha36 =>
                simp only [go_sem, simprocAttr]
                exact Is.mk
              case hb36 =>
                simp only [go_sem, simprocAttr]
                exact Is.mk
              case hp36 =>
                simp only [go_sem, simprocAttr]
                exact Is.mk
              case hok36 =>
                simp only [go_sem, simprocAttr]
              case hf36 =>
                simp only [go_sem, simprocAttr]
                exact Is.mk
              intro hv36
              simp only [go_sem, simprocAttr]
              first
                | refine hK34 _ _ ?_
                | refine ⟨by first | exact sd, hK34 _ _ ?_⟩
              simp only [thenQ, blockQ, ↓reduceIte]
              refine hW4 _ _ _ _ ?_ (hcut4 (r_32, c_1.File.Path, c_1.File.Data, c_1.File.Runs, c_1.Setting.Key, c_1.Setting.Value, [], c_1.Service.Path, c_1.Service.Auto, c_1.Service.On) hm)
              simp only [go_sem, simprocAttr]
              try simp [encB, encI_i64, encI_u8, encS, enc_api_Change, enc_api_File, enc_api_Machine, enc_api_Service, enc_api_Setting, enc_disk_line, List.map_set, List.map_replicate]
            · have hm := brF hm (by first | exact hc33 | simpa using hc33)
              refine Wp.seqR fun K37 hK37 => ?_
              simp only [go_sem, simprocAttr]
              first
                | refine hK37 _ _ ?_
                | refine ⟨by first | exact sd, hK37 _ _ ?_⟩
              refine Wp.ret ?_
              simp only [thenQ, blockQ]
              refine retQ_ret ?_
              cases hm
              simp only [go_sem, simprocAttr]
              try simp [encB, encI_i64, encI_u8, encS, enc_api_Change, enc_api_File, enc_api_Machine, enc_api_Service, enc_api_Setting, enc_disk_line, List.map_set, List.map_replicate]
set_option maxRecDepth 100000 in
set_option maxHeartbeats 4000000 in
theorem ok_R_ChangesError (l_1 : List api_Change) (z : Int) (hm : R_ChangesError l_1 = some z) : Does Tryd.prog 19 [.p (.l (List.map enc_api_Change l_1))] [] (fun r X => r = .p (.i .i64 z) ∧ X = []) := by
  unfold R_ChangesError at hm
  refine Does.of_wp 0 18 [.tmp 2] Tryd.func19 rfl (by decide) rfl rfl (Nat.le_of_ble_eq_true rfl) fun B => ?_
  refine Wp.seqR fun K1 hK1 => ?_
  simp only [go_sem, simprocAttr]
  first
    | refine hK1 _ _ ?_
    | refine ⟨by first | exact sd, hK1 _ _ ?_⟩
  refine Wp.seqW fun K2 hK2 hW2 => ?_
  obtain ⟨k_11, hk_11, hm⟩ := jp_elim hm
  have hcut2 : ∀ s, k_11 s = some z → K2 [] [] := by
    intro s hs
    have hm := hk_11 _ hs
    clear hs
    try dsimp only at hm
    try dsimp only
    refine hK2 _ _ ?_
    refine Wp.seqR fun K3 hK3 => ?_
    simp only [go_sem, simprocAttr]
    first
      | refine hK3 _ _ ?_
      | refine ⟨by first | exact sd, hK3 _ _ ?_⟩
    refine Wp.ret ?_
    refine retQ_ret ?_
    cases hm
    simp only [go_sem, simprocAttr]
    try simp [encB, encI_i64, encI_u8, encS, enc_api_Change, enc_api_File, enc_api_Machine, enc_api_Service, enc_api_Setting, enc_disk_line, List.map_set, List.map_replicate]
  clear hK2 hk_11
  refine Wp.seqR fun K4 hK4 => ?_
  simp only [go_sem, simprocAttr]
  first
    | refine hK4 _ _ ?_
    | refine ⟨by first | exact sd, hK4 _ _ ?_⟩
  refine Wp.block ?_
  obtain ⟨k_15, hk_15, hm⟩ := forL_cont hm
  refine Wp.fact 6 fun hl_18 => ?_
  replace hl_18 : l_1.length ≤ 274877906944 := by
    simp only [go_sem, simprocAttr, List.length_map] at hl_18
    omega
  refine Wp.forL (fun i_17 s => [(6, .p (.l (List.map enc_api_Change l_1))), (7, .p (.i .i64 (l_1.length : Int))), (8, .p (.i .i64 (i_17 : Int)))]) (fun i_17 s => []) ?_ hm ?_
  ·
    simp only [go_sem, simprocAttr]
    try simp [encB, encI_i64, encI_u8, encS, enc_api_Change, enc_api_File, enc_api_Machine, enc_api_Service, enc_api_Setting, enc_disk_line, List.map_set, List.map_replicate]
  clear hm
  intro i_17 s hii_17 hm
  try dsimp only at hm
  try dsimp only
  refine Wp.seqR fun K5 hK5 => ?_
  simp only [go_sem, simprocAttr]
  first
    | refine hK5 _ _ ?_
    | refine ⟨by first | exact sd, hK5 _ _ ?_⟩
  refine Wp.seqW fun K6 hK6 hW6 => ?_
  refine Wp.cond rfl ⟨⟩ (fun hc6 => ?_) (fun hc6 => ?_)
  rotate_left
  · refine Wp.exit ?_
    have hm := hk_15 _ (forL_end hm (ge_nat (by first | exact hc6 | simpa using hc6)))
    try dsimp only at hm
    simp only [thenQ, blockQ, ↓reduceIte]
    refine hW2 _ _ _ _ ?_ (hcut2 () hm)
    simp only [go_sem, simprocAttr]
    try simp [encB, encI_i64, encI_u8, encS, enc_api_Change, enc_api_File, enc_api_Machine, enc_api_Service, enc_api_Setting, enc_disk_line, List.map_set, List.map_replicate]
  have hlt6 := lt_nat (by first | exact hc6 | simpa using hc6)
  have hw6 := wrap_succ hlt6 hl_18
  obtain ⟨c_19, nx_16, hxc_19, hyc_19, hnx_16, hm⟩ := forL_step hm hlt6
  replace hxc_19 := hxc_19 enc_api_Change
  refine Wp.skip ?_
  simp only [thenQ]
  refine hK6 _ _ ?_
  refine Wp.seqW fun K7 hK7 hW7 => ?_
  refine Wp.block ?_
  refine Wp.seqR fun K8 hK8 => ?_
  simp only [go_sem, simprocAttr, hw6, hxc_19]
  first
    | refine hK8 _ _ ?_
    | refine ⟨by first | exact sd, hK8 _ _ ?_⟩
  obtain ⟨r_20, hr_20, hm⟩ := call_elim hm
  refine Wp.seqR fun K9 hK9 => ?_
  simp only [go_sem, simprocAttr, hw6, hxc_19]
  try refine ⟨by first | exact sd, ?_⟩
  refine Rg.callX (av := ?av10) (g := true) (fun hg => ok_R_ChangeError c_19 _ hr_20) ?ha10 ?hb10 ?hp10 ?hok10 ?hf10 ?cont10
  case ha10 =>
    simp only [go_sem, simprocAttr, hw6, hxc_19]
    exact Is.mk
  case hb10 =>
    simp only [go_sem, simprocAttr, hw6, hxc_19]
    exact Is.mk
  case hp10 =>
    simp only [go_sem, simprocAttr, hw6, hxc_19]
    exact Is.mk
  case hok10 =>
    simp only [go_sem, simprocAttr, hw6, hxc_19]
  case hf10 =>
    simp only [go_sem, simprocAttr, hw6, hxc_19]
    exact Is.mk
  intro hv10
  simp only [go_sem, simprocAttr, hw6, hxc_19]
  first
    | refine hK9 _ _ ?_
    | refine ⟨by first | exact sd, hK9 _ _ ?_⟩
  refine Wp.seqR fun K11 hK11 => ?_
  simp only [go_sem, simprocAttr, hw6, hxc_19]
  first
    | refine hK11 _ _ ?_
    | refine ⟨by first | exact sd, hK11 _ _ ?_⟩
  refine Wp.cond rfl ⟨⟩ (fun hc12 => ?_) (fun hc12 => ?_)
  · have hm := brT hm (by first | exact hc12 | simpa using hc12)
    refine Wp.seqR fun K13 hK13 => ?_
    simp only [go_sem, simprocAttr, hw6, hxc_19]
    first
      | refine hK13 _ _ ?_
      | refine ⟨by first | exact sd, hK13 _ _ ?_⟩
    refine Wp.ret ?_
    simp only [thenQ, blockQ]
    refine retQ_ret ?_
    cases hm
    simp only [go_sem, simprocAttr, hw6, hxc_19]
    try simp [encB, encI_i64, encI_u8, encS, enc_api_Change, enc_api_File, enc_api_Machine, enc_api_Service, enc_api_Setting, enc_disk_line, List.map_set, List.map_replicate]
  · have hm := brF hm (by first | exact hc12 | simpa using hc12)
    refine Wp.skip ?_
    simp only [thenQ, blockQ, ↓reduceIte]
    refine hK7 _ _ ?_
    refine Wp.region fun K14 hK14 => ?_
    simp only [go_sem, simprocAttr, hw6, hxc_19]
    first
      | refine hK14 _ _ ?_
      | refine ⟨by first | exact sd, hK14 _ _ ?_⟩
    simp only [thenQ, blockQ, ↓reduceIte]
    refine ⟨(), hlt6, hnx_16 _ hm, ?_⟩
    simp only [go_sem, simprocAttr, hw6, hxc_19]
    try simp [encB, encI_i64, encI_u8, encS, enc_api_Change, enc_api_File, enc_api_Machine, enc_api_Service, enc_api_Setting, enc_disk_line, List.map_set, List.map_replicate]
set_option maxRecDepth 100000 in
set_option maxHeartbeats 4000000 in
theorem ok_R_bit (b_1 : Bool) (z : Str) (hm : R_bit b_1 = some z) : Does Tryd.prog 112 [.p (.b b_1)] [] (fun r X => r = .p (.s z) ∧ X = []) := by
  unfold R_bit at hm
  refine Does.of_wp 0 4 [.tmp 2] Tryd.func112 rfl (by decide) rfl rfl (Nat.le_of_ble_eq_true rfl) fun B => ?_
  refine Wp.seqR fun K1 hK1 => ?_
  simp only [go_sem, simprocAttr]
  first
    | refine hK1 _ _ ?_
    | refine ⟨by first | exact sd, hK1 _ _ ?_⟩
  refine Wp.seqW fun K2 hK2 hW2 => ?_
  refine Wp.seqR fun K3 hK3 => ?_
  simp only [go_sem, simprocAttr]
  first
    | refine hK3 _ _ ?_
    | refine ⟨by first | exact sd, hK3 _ _ ?_⟩
  refine Wp.cond rfl ⟨⟩ (fun hc4 => ?_) (fun hc4 => ?_)
  · have hm := brT hm (by first | exact hc4 | simpa using hc4)
    refine Wp.seqR fun K5 hK5 => ?_
    simp only [go_sem, simprocAttr]
    first
      | refine hK5 _ _ ?_
      | refine ⟨by first | exact sd, hK5 _ _ ?_⟩
    refine Wp.ret ?_
    simp only [thenQ, blockQ]
    refine retQ_ret ?_
    cases hm
    simp only [go_sem, simprocAttr]
    try simp [encB, encI_i64, encI_u8, encS, enc_api_Change, enc_api_File, enc_api_Machine, enc_api_Service, enc_api_Setting, enc_disk_line, List.map_set, List.map_replicate]
  · have hm := brF hm (by first | exact hc4 | simpa using hc4)
    refine Wp.skip ?_
    simp only [thenQ, blockQ, ↓reduceIte]
    refine hK2 _ _ ?_
    refine Wp.seqR fun K6 hK6 => ?_
    simp only [go_sem, simprocAttr]
    first
      | refine hK6 _ _ ?_
      | refine ⟨by first | exact sd, hK6 _ _ ?_⟩
    refine Wp.ret ?_
    refine retQ_ret ?_
    cases hm
    simp only [go_sem, simprocAttr]
    try simp [encB, encI_i64, encI_u8, encS, enc_api_Change, enc_api_File, enc_api_Machine, enc_api_Service, enc_api_Setting, enc_disk_line, List.map_set, List.map_replicate]
set_option maxRecDepth 100000 in
set_option maxHeartbeats 4000000 in
theorem ok_R_serviceWords (s_1 : api_Service) (z : Str) (hm : R_serviceWords s_1 = some z) : Does Tryd.prog 78 [.agg [.p (.s s_1.Name), .p (.s s_1.Path), .p (.b s_1.Auto), .p (.b s_1.On)]] [] (fun r X => r = .p (.s z) ∧ X = []) := by
  unfold R_serviceWords at hm
  refine Does.of_wp 0 19 [.tmp 2] Tryd.func78 rfl (by decide) rfl rfl (Nat.le_of_ble_eq_true rfl) fun B => ?_
  refine Wp.seqR fun K1 hK1 => ?_
  simp only [go_sem, simprocAttr]
  first
    | refine hK1 _ _ ?_
    | refine ⟨by first | exact sd, hK1 _ _ ?_⟩
  obtain ⟨c_2, hm⟩ := chk_elim hm
  obtain ⟨c_3, hm⟩ := chk_elim hm
  obtain ⟨c_4, hm⟩ := chk_elim hm
  obtain ⟨r_5, hr_5, hm⟩ := call_elim hm
  obtain ⟨c_6, hm⟩ := chk_elim hm
  obtain ⟨c_7, hm⟩ := chk_elim hm
  obtain ⟨r_8, hr_8, hm⟩ := call_elim hm
  obtain ⟨c_9, hm⟩ := chk_elim hm
  refine Wp.seqD (plan := [(0, none), (1, none), (2, none), (3, none), (4, none), (5, none), (6, none), (7, none), (8, none), (9, none), (10, none), (11, none), (12, none), (13, none), (14, none), (15, none), (16, none)]) (by kernel_rfl) rfl (by kernel_rfl) fun K2 hK2 => ?_
  simp only [go_sem, simprocAttr]
  try refine ⟨by first | exact sd | ((repeat' apply And.intro) <;> first | assumption | omega | (simp only [List.length_append, List.length_map, List.length_cons, List.length_nil, List.length_set, List.length_replicate] at c_2 c_3 c_4 c_6 c_7 c_9 ⊢; omega)), ?_⟩
  refine Dr.callF (av := ?av3) (g := true) (o := ?o3) (fun hg => ok_R_bit s_1.Auto _ hr_5) ?hk3 ?ha3 ?hb3 ?hp3 ?hok3 ?hf3 ?cont3
  case hk3 =>
    simp only [go_sem, simprocAttr]
    exact Is.mk
  case ha3 =>
    simp only [go_sem, simprocAttr]
    exact Is.mk
  case hb3 =>
    simp only [go_sem, simprocAttr]
    exact Is.mk
  case hp3 =>
    simp only [go_sem, simprocAttr]
    exact Is.mk
  case hok3 =>
    simp only [go_sem, simprocAttr]
  case hf3 =>
    simp only [go_sem, simprocAttr]
    exact Is.mk
  simp only [go_sem, simprocAttr]
  try refine ⟨by first | exact sd | ((repeat' apply And.intro) <;> first | assumption | omega | (simp only [List.length_append, List.length_map, List.length_cons, List.length_nil, List.length_set, List.length_replicate] at c_2 c_3 c_4 c_6 c_7 c_9 ⊢; omega)), ?_⟩
  refine Dr.callF (av := ?av4) (g := true) (o := ?o4) (fun hg => ok_R_bit s_1.On _ hr_8) ?hk4 ?ha4 ?hb4 ?hp4 ?hok4 ?hf4 ?cont4
  case hk4 =>
    simp only [go_sem, simprocAttr]
    exact Is.mk
  case ha4 =>
    simp only [go_sem, simprocAttr]
    exact Is.mk
  case hb4 =>
    simp only [go_sem, simprocAttr]
    exact Is.mk
  case hp4 =>
    simp only [go_sem, simprocAttr]
    exact Is.mk
  case hok4 =>
    simp only [go_sem, simprocAttr]
  case hf4 =>
    simp only [go_sem, simprocAttr]
    exact Is.mk
  simp only [go_sem, simprocAttr]
  first
    | refine hK2 _ _ ?_
    | refine ⟨by first | exact sd | ((repeat' apply And.intro) <;> first | assumption | omega | (simp only [List.length_append, List.length_map, List.length_cons, List.length_nil, List.length_set, List.length_replicate] at c_2 c_3 c_4 c_6 c_7 c_9 ⊢; omega)), hK2 _ _ ?_⟩
  refine Wp.ret ?_
  refine retQ_ret ?_
  cases hm
  simp only [go_sem, simprocAttr]
  try simp [encB, encI_i64, encI_u8, encS, enc_api_Change, enc_api_File, enc_api_Machine, enc_api_Service, enc_api_Setting, enc_disk_line, List.map_set, List.map_replicate]
set_option maxRecDepth 100000 in
set_option maxHeartbeats 4000000 in
theorem ok_strings_Builder_WriteByte_i1 (c_1 : Int) (o1_2 : Str) (z : Str) (hm : strings_Builder_WriteByte_i1 c_1 o1_2 = some z) : Does Tryd.prog 79 [.ptr 0 0, .p (.i .u8 c_1)] [.cells 110 [.np 0, .buf 1], .sb 5 o1_2] (fun r X => r = .raw .nilIface ∧ X = [.cells 110 [.np 0, .buf 1], .sb 5 z]) := by
  unfold strings_Builder_WriteByte_i1 at hm
  refine Does.of_wp 2 17 [.tmp 4] Tryd.func79 rfl (by decide) rfl rfl (Nat.le_of_ble_eq_true rfl) fun B => ?_
  refine Wp.seqR fun K1 hK1 => ?_
  simp only [go_sem, simprocAttr]
  first
    | refine hK1 _ _ ?_
    | refine ⟨by first | exact sd, hK1 _ _ ?_⟩
  obtain ⟨r_5, hr_5, hm⟩ := call_elim hm
  refine Wp.seqR fun K2 hK2 => ?_
  simp only [go_sem, simprocAttr]
  try refine ⟨by first | exact sd, ?_⟩
  refine Rg.callO (av := ?av3) [0, 1] (ok_strings_Builder_copyCheck_np o1_2 _ hr_5) ?ha3 ?hp3 ?hX3 ?hids3 ?hok3 ?cont3
  case ha3 =>
    simp only [go_sem, simprocAttr]
    exact Is.mk
  case hp3 =>
    simp only [go_sem, simprocAttr]
    exact Is.mk
  case hX3 =>
    simp only [go_sem, simprocAttr]
    exact Is.mk
  case hids3 => simp only [go_sem, simprocAttr]
  case hok3 => simp only [go_sem, simprocAttr]
  rintro _ _ ⟨rfl, rfl⟩ hv3
  simp only [go_sem, simprocAttr]
  first
    | refine hK2 _ _ ?_
    | refine ⟨by first | exact sd, hK2 _ _ ?_⟩
  obtain ⟨c_6, hm⟩ := chk_elim hm
  refine Wp.seqR fun K4 hK4 => ?_
  simp only [go_sem, simprocAttr]
  first
    | refine hK4 _ _ ?_
    | refine ⟨by first | exact sd | ((repeat' apply And.intro) <;> first | assumption | omega | (simp only [List.length_append, List.length_map, List.length_cons, List.length_nil, List.length_set, List.length_replicate] at c_6 ⊢; omega)), hK4 _ _ ?_⟩
  refine Wp.seqR fun K5 hK5 => ?_
  simp only [go_sem, simprocAttr]
  first
    | refine hK5 _ _ ?_
    | refine ⟨by first | exact sd, hK5 _ _ ?_⟩
  refine Wp.ret ?_
  refine retQ_ret ?_
  cases hm
  simp only [go_sem, simprocAttr]
  try simp [encB, encI_i64, encI_u8, encS, enc_api_Change, enc_api_File, enc_api_Machine, enc_api_Service, enc_api_Setting, enc_disk_line, List.map_set, List.map_replicate]
set_option maxRecDepth 100000 in
set_option maxHeartbeats 4000000 in
theorem ok_R_PrintChanges (l_1 : List api_Change) (z : Str) (hm : R_PrintChanges l_1 = some z) : Does Tryd.prog 20 [.p (.l (List.map enc_api_Change l_1))] [] (fun r X => r = .p (.s z) ∧ X = []) := by
  unfold R_PrintChanges at hm
  refine Does.of_wp 0 76 [.tmp 2] Tryd.func20 rfl (by decide) rfl rfl (Nat.le_of_ble_eq_true rfl) fun B => ?_
  refine Wp.seqR fun K1 hK1 => ?_
  simp only [go_sem, simprocAttr]
  first
    | refine hK1 _ _ ?_
    | refine ⟨by first | exact sd, hK1 _ _ ?_⟩
  refine Wp.seqR fun K2 hK2 => ?_
  simp only [go_sem, simprocAttr]
  first
    | refine hK2 _ _ ?_
    | refine ⟨by first | exact sd, hK2 _ _ ?_⟩
  refine Wp.adoptB 0 5 rfl ?_
  simp only [go_sem, simprocAttr]
  refine Wp.seqW fun K3 hK3 hW3 => ?_
  obtain ⟨k_158, hk_158, hm⟩ := jp_elim hm
  have hcut3 : ∀ s, k_158 s = some z → K3 [(3, .ptr 0 0)] [.cells 110 [.np 0, .buf 1], .sb 5 s] := by
    intro o1_157 hs
    have hm := hk_158 _ hs
    clear hs
    try dsimp only at hm
    try dsimp only
    refine hK3 _ _ ?_
    obtain ⟨r_159, hr_159, hm⟩ := call_elim hm
    refine Wp.seqR fun K4 hK4 => ?_
    simp only [go_sem, simprocAttr]
    try refine ⟨by first | exact sd, ?_⟩
    refine Rg.callO (av := ?av5) [0, 1] (ok_strings_Builder_String_i1 o1_157 _ hr_159) ?ha5 ?hp5 ?hX5 ?hids5 ?hok5 ?cont5
    case ha5 =>
      simp only [go_sem, simprocAttr]
      exact Is.mk
    case hp5 =>
      simp only [go_sem, simprocAttr]
      exact Is.mk
    case hX5 =>
      simp only [go_sem, simprocAttr]
      exact Is.mk
    case hids5 => simp only [go_sem, simprocAttr]
    case hok5 => simp only [go_sem, simprocAttr]
    rintro _ _ ⟨rfl, rfl⟩ hv5
    simp only [go_sem, simprocAttr]
    first
      | refine hK4 _ _ ?_
      | refine ⟨by first | exact sd, hK4 _ _ ?_⟩
    refine Wp.ret ?_
    refine retQ_ret ?_
    cases hm
    simp only [go_sem, simprocAttr]
    try simp [encB, encI_i64, encI_u8, encS, enc_api_Change, enc_api_File, enc_api_Machine, enc_api_Service, enc_api_Setting, enc_disk_line, List.map_set, List.map_replicate]
  clear hK3 hk_158
  refine Wp.seqR fun K6 hK6 => ?_
  simp only [go_sem, simprocAttr]
  first
    | refine hK6 _ _ ?_
    | refine ⟨by first | exact sd, hK6 _ _ ?_⟩
  refine Wp.block ?_
  obtain ⟨k_255, hk_255, hm⟩ := forL_cont hm
  refine Wp.fact 7 fun hl_258 => ?_
  replace hl_258 : l_1.length ≤ 274877906944 := by
    simp only [go_sem, simprocAttr, List.length_map] at hl_258
    omega
  refine Wp.forL (fun i_257 s => [(3, .ptr 0 0), (7, .p (.l (List.map enc_api_Change l_1))), (8, .p (.i .i64 (l_1.length : Int))), (9, .p (.i .i64 (i_257 : Int)))]) (fun i_257 s => [.cells 110 [.np 0, .buf 1], .sb 5 s]) ?_ hm ?_
  ·
    simp only [go_sem, simprocAttr]
    try simp [encB, encI_i64, encI_u8, encS, enc_api_Change, enc_api_File, enc_api_Machine, enc_api_Service, enc_api_Setting, enc_disk_line, List.map_set, List.map_replicate]
  clear hm
  intro i_257 o1_208 hii_257 hm
  try dsimp only at hm
  try dsimp only
  refine Wp.seqR fun K7 hK7 => ?_
  simp only [go_sem, simprocAttr]
  first
    | refine hK7 _ _ ?_
    | refine ⟨by first | exact sd, hK7 _ _ ?_⟩
  refine Wp.seqW fun K8 hK8 hW8 => ?_
  refine Wp.cond rfl ⟨⟩ (fun hc8 => ?_) (fun hc8 => ?_)
  rotate_left
  · refine Wp.exit ?_
    have hm := hk_255 _ (forL_end hm (ge_nat (by first | exact hc8 | simpa using hc8)))
    try dsimp only at hm
    simp only [thenQ, blockQ, ↓reduceIte]
    refine hW3 _ _ _ _ ?_ (hcut3 o1_208 hm)
    simp only [go_sem, simprocAttr]
    try simp [encB, encI_i64, encI_u8, encS, enc_api_Change, enc_api_File, enc_api_Machine, enc_api_Service, enc_api_Setting, enc_disk_line, List.map_set, List.map_replicate]
  have hlt8 := lt_nat (by first | exact hc8 | simpa using hc8)
  have hw8 := wrap_succ hlt8 hl_258
  obtain ⟨c_259, nx_256, hxc_259, hyc_259, hnx_256, hm⟩ := forL_step hm hlt8
  replace hxc_259 := hxc_259 enc_api_Change
  refine Wp.skip ?_
  simp only [thenQ]
  refine hK8 _ _ ?_
  refine Wp.seqW fun K9 hK9 hW9 => ?_
  refine Wp.block ?_
  refine Wp.seqR fun K10 hK10 => ?_
  simp only [go_sem, simprocAttr, hw8, hxc_259]
  first
    | refine hK10 _ _ ?_
    | refine ⟨by first | exact sd, hK10 _ _ ?_⟩
  refine Wp.seqW fun K11 hK11 hW11 => ?_
  obtain ⟨k_282, hk_282, hm⟩ := jp_elim hm
  have hcut11 : ∀ s, k_282 s = some z → K11 [(3, .ptr 0 0), (7, .p (.l (List.map enc_api_Change l_1))), (8, .p (.i .i64 (l_1.length : Int))), (9, .p (.i .i64 (i_257 : Int)))] [.cells 110 [.np 0, .buf 1], .sb 5 s] := by
    intro o1_281 hs
    have hm := hk_282 _ hs
    clear hs
    try dsimp only at hm
    try dsimp only
    refine hK11 _ _ ?_
    obtain ⟨r_283, hr_283, hm⟩ := call_elim hm
    refine Wp.region fun K12 hK12 => ?_
    simp only [go_sem, simprocAttr, hw8, hxc_259]
    try refine ⟨by first | exact sd, ?_⟩
    refine Rg.callO (av := ?av13) [0, 1] (ok_strings_Builder_WriteByte_i1 10 o1_281 _ hr_283) ?ha13 ?hp13 ?hX13 ?hids13 ?hok13 ?cont13
    case ha13 =>
      simp only [go_sem, simprocAttr, hw8, hxc_259]
      exact Is.mk
    case hp13 =>
      simp only [go_sem, simprocAttr, hw8, hxc_259]
      exact Is.mk
    case hX13 =>
      simp only [go_sem, simprocAttr, hw8, hxc_259]
      exact Is.mk
    case hids13 => simp only [go_sem, simprocAttr, hw8, hxc_259]
    case hok13 => simp only [go_sem, simprocAttr, hw8, hxc_259]
    rintro _ _ ⟨rfl, rfl⟩ hv13
    simp only [go_sem, simprocAttr, hw8, hxc_259]
    first
      | refine hK12 _ _ ?_
      | refine ⟨by first | exact sd, hK12 _ _ ?_⟩
    simp only [thenQ, blockQ, ↓reduceIte]
    refine hK9 _ _ ?_
    refine Wp.region fun K14 hK14 => ?_
    simp only [go_sem, simprocAttr, hw8, hxc_259]
    first
      | refine hK14 _ _ ?_
      | refine ⟨by first | exact sd, hK14 _ _ ?_⟩
    simp only [thenQ, blockQ, ↓reduceIte]
    refine ⟨r_283, hlt8, hnx_256 _ hm, ?_⟩
    simp only [go_sem, simprocAttr, hw8, hxc_259]
    try simp [encB, encI_i64, encI_u8, encS, enc_api_Change, enc_api_File, enc_api_Machine, enc_api_Service, enc_api_Setting, enc_disk_line, List.map_set, List.map_replicate]
  clear hK11 hk_282
  refine Wp.seqR fun K15 hK15 => ?_
  simp only [go_sem, simprocAttr, hw8, hxc_259]
  first
    | refine hK15 _ _ ?_
    | refine ⟨by first | exact sd, hK15 _ _ ?_⟩
  refine Wp.block ?_
  refine Wp.seqR fun K16 hK16 => ?_
  simp only [go_sem, simprocAttr, hw8, hxc_259]
  first
    | refine hK16 _ _ ?_
    | refine ⟨by first | exact sd, hK16 _ _ ?_⟩
  refine Wp.cond rfl ⟨⟩ (fun hc17 => ?_) (fun hc17 => ?_)
  · have hm := brT hm (by first | exact hc17 | simpa using hc17)
    refine Wp.seqR fun K18 hK18 => ?_
    simp only [go_sem, simprocAttr, hw8, hxc_259]
    first
      | refine hK18 _ _ ?_
      | refine ⟨by first | exact sd, hK18 _ _ ?_⟩
    refine Wp.seqW fun K19 hK19 hW19 => ?_
    obtain ⟨k_285, hk_285, hm⟩ := jp_elim hm
    have hcut19 : ∀ s, k_285 s = some z → K19 [(3, .ptr 0 0), (5, .ptr 2 0), (6, .p (.s s)), (7, .p (.l (List.map enc_api_Change l_1))), (8, .p (.i .i64 (l_1.length : Int))), (9, .p (.i .i64 (i_257 : Int)))] [.cells 110 [.np 0, .buf 1], .sb 5 o1_208, .cells 55 [.p (.i .i64 c_259.Kind), .p (.s c_259.File.Path), .p (.s c_259.File.Data), .p (.b c_259.File.Runs), .p (.s c_259.Setting.Key), .p (.s c_259.Setting.Value), .p (.s c_259.Service.Name), .p (.s c_259.Service.Path), .p (.b c_259.Service.Auto), .p (.b c_259.Service.On)]] := by
      intro word_284 hs
      have hm := hk_285 _ hs
      clear hs
      try dsimp only at hm
      try dsimp only
      refine hK19 _ _ ?_
      obtain ⟨c_286, hm⟩ := chk_elim hm
      obtain ⟨c_287, hm⟩ := chk_elim hm
      obtain ⟨r_288, hr_288, hm⟩ := call_elim hm
      obtain ⟨c_289, hm⟩ := chk_elim hm
      obtain ⟨r_290, hr_290, hm⟩ := call_elim hm
      refine Wp.regD (plan := [(0, none), (1, none), (2, none), (3, none), (4, none), (5, none), (6, none), (7, none), (8, none), (9, none), (10, none), (11, some [])]) (by kernel_rfl) rfl (by kernel_rfl) fun K20 hK20 => ?_
      simp only [go_sem, simprocAttr, hw8, hxc_259]
      try refine ⟨by first | exact sd | ((repeat' apply And.intro) <;> first | assumption | omega | (simp only [List.length_append, List.length_map, List.length_cons, List.length_nil, List.length_set, List.length_replicate] at c_286 c_287 c_289 ⊢; omega)), ?_⟩
      refine Dr.callF (av := ?av21) (g := true) (o := ?o21) (fun hg => ok_R_Quote c_259.File.Data _ hr_288) ?hk21 ?ha21 ?hb21 ?hp21 ?hok21 ?hf21 ?cont21
      case hk21 =>
        simp only [go_sem, simprocAttr, hw8, hxc_259]
        exact Is.mk
      case ha21 =>
        simp only [go_sem, simprocAttr, hw8, hxc_259]
        exact Is.mk
      case hb21 =>
        simp only [go_sem, simprocAttr, hw8, hxc_259]
        exact Is.mk
      case hp21 =>
        simp only [go_sem, simprocAttr, hw8, hxc_259]
        exact Is.mk
      case hok21 =>
        simp only [go_sem, simprocAttr, hw8, hxc_259]
      case hf21 =>
        simp only [go_sem, simprocAttr, hw8, hxc_259]
        exact Is.mk
      simp only [go_sem, simprocAttr, hw8, hxc_259]
      try refine ⟨by first | exact sd | ((repeat' apply And.intro) <;> first | assumption | omega | (simp only [List.length_append, List.length_map, List.length_cons, List.length_nil, List.length_set, List.length_replicate] at c_286 c_287 c_289 ⊢; omega)), ?_⟩
      refine Dr.callS (av := ?av22) (o := ?o22) 1 [0, 1] (ok_strings_Builder_WriteString_i1 (((word_284 ++ c_259.File.Path) ++ ([32] : Str)) ++ r_288) o1_208 _ hr_290) ?hk22 ?hgd22 ?ha22 ?hp22 ?hX22 ?hids22 ?hkp22 ?hok22 ?hag22 ?cont22
      case hk22 =>
        simp only [go_sem, simprocAttr, hw8, hxc_259]
        exact Is.mk
      case hgd22 =>
        simp only [go_sem, simprocAttr, hw8, hxc_259]
        exact Is.mk
      case ha22 =>
        simp only [go_sem, simprocAttr, hw8, hxc_259]
        exact Is.mk
      case hp22 =>
        simp only [go_sem, simprocAttr, hw8, hxc_259]
        exact Is.mk
      case hX22 =>
        simp only [go_sem, simprocAttr, hw8, hxc_259]
        exact Is.mk
      case hids22 => simp only [go_sem, simprocAttr, hw8, hxc_259]
      case hkp22 => simp only [go_sem, simprocAttr, hw8, hxc_259]
      case hok22 => simp only [go_sem, simprocAttr, hw8, hxc_259]
      case hag22 => simp only [go_sem, simprocAttr, hw8, hxc_259]
      simp only [go_sem, simprocAttr, hw8, hxc_259]
      first
        | refine hK20 _ _ ?_
        | refine ⟨by first | exact sd | ((repeat' apply And.intro) <;> first | assumption | omega | (simp only [List.length_append, List.length_map, List.length_cons, List.length_nil, List.length_set, List.length_replicate] at c_286 c_287 c_289 ⊢; omega)), hK20 _ _ ?_⟩
      simp only [thenQ, blockQ, ↓reduceIte]
      refine hW11 _ _ _ _ ?_ (hcut11 r_290.2 hm)
      simp only [go_sem, simprocAttr, hw8, hxc_259]
      try simp [encB, encI_i64, encI_u8, encS, enc_api_Change, enc_api_File, enc_api_Machine, enc_api_Service, enc_api_Setting, enc_disk_line, List.map_set, List.map_replicate]
    clear hK19 hk_285
    refine Wp.seqR fun K23 hK23 => ?_
    simp only [go_sem, simprocAttr, hw8, hxc_259]
    first
      | refine hK23 _ _ ?_
      | refine ⟨by first | exact sd, hK23 _ _ ?_⟩
    refine Wp.cond rfl ⟨⟩ (fun hc24 => ?_) (fun hc24 => ?_)
    · have hm := brT hm (by first | exact hc24 | simpa using hc24)
      refine Wp.region fun K25 hK25 => ?_
      simp only [go_sem, simprocAttr, hw8, hxc_259]
      first
        | refine hK25 _ _ ?_
        | refine ⟨by first | exact sd, hK25 _ _ ?_⟩
      simp only [thenQ, blockQ, ↓reduceIte]
      refine hW19 _ _ _ _ ?_ (hcut19 ([112, 117, 116, 114, 117, 110, 32] : Str) hm)
      simp only [go_sem, simprocAttr, hw8, hxc_259]
      try simp [encB, encI_i64, encI_u8, encS, enc_api_Change, enc_api_File, enc_api_Machine, enc_api_Service, enc_api_Setting, enc_disk_line, List.map_set, List.map_replicate]
    · have hm := brF hm (by first | exact hc24 | simpa using hc24)
      refine Wp.skip ?_
      simp only [thenQ, blockQ, ↓reduceIte]
      refine hW19 _ _ _ _ ?_ (hcut19 ([112, 117, 116, 32] : Str) hm)
      simp only [go_sem, simprocAttr, hw8, hxc_259]
      try simp [encB, encI_i64, encI_u8, encS, enc_api_Change, enc_api_File, enc_api_Machine, enc_api_Service, enc_api_Setting, enc_disk_line, List.map_set, List.map_replicate]
  · have hm := brF hm (by first | exact hc17 | simpa using hc17)
    refine Wp.seqR fun K26 hK26 => ?_
    simp only [go_sem, simprocAttr, hw8, hxc_259]
    first
      | refine hK26 _ _ ?_
      | refine ⟨by first | exact sd, hK26 _ _ ?_⟩
    refine Wp.cond rfl ⟨⟩ (fun hc27 => ?_) (fun hc27 => ?_)
    · have hm := brT hm (by first | exact hc27 | simpa using hc27)
      obtain ⟨c_291, hm⟩ := chk_elim hm
      obtain ⟨r_292, hr_292, hm⟩ := call_elim hm
      refine Wp.region fun K28 hK28 => ?_
      simp only [go_sem, simprocAttr, hw8, hxc_259]
      try refine ⟨by first | exact sd | ((repeat' apply And.intro) <;> first | assumption | omega | (simp only [List.length_append, List.length_map, List.length_cons, List.length_nil, List.length_set, List.length_replicate] at c_291 ⊢; omega)), ?_⟩
      refine Rg.callO (av := ?av29) [0, 1] (ok_strings_Builder_WriteString_i1 (([114, 101, 109, 111, 118, 101, 32] : Str) ++ c_259.File.Path) o1_208 _ hr_292) ?ha29 ?hp29 ?hX29 ?hids29 ?hok29 ?cont29
      case ha29 =>
        simp only [go_sem, simprocAttr, hw8, hxc_259]
        exact Is.mk
      case hp29 =>
        simp only [go_sem, simprocAttr, hw8, hxc_259]
        exact Is.mk
      case hX29 =>
        simp only [go_sem, simprocAttr, hw8, hxc_259]
        exact Is.mk
      case hids29 => simp only [go_sem, simprocAttr, hw8, hxc_259]
      case hok29 => simp only [go_sem, simprocAttr, hw8, hxc_259]
      rintro _ _ ⟨rfl, rfl⟩ hv29
      simp only [go_sem, simprocAttr, hw8, hxc_259]
      first
        | refine hK28 _ _ ?_
        | refine ⟨by first | exact sd | ((repeat' apply And.intro) <;> first | assumption | omega | (simp only [List.length_append, List.length_map, List.length_cons, List.length_nil, List.length_set, List.length_replicate] at c_291 ⊢; omega)), hK28 _ _ ?_⟩
      simp only [thenQ, blockQ, ↓reduceIte]
      refine hW11 _ _ _ _ ?_ (hcut11 r_292.2 hm)
      simp only [go_sem, simprocAttr, hw8, hxc_259]
      try simp [encB, encI_i64, encI_u8, encS, enc_api_Change, enc_api_File, enc_api_Machine, enc_api_Service, enc_api_Setting, enc_disk_line, List.map_set, List.map_replicate]
    · have hm := brF hm (by first | exact hc27 | simpa using hc27)
      refine Wp.seqR fun K30 hK30 => ?_
      simp only [go_sem, simprocAttr, hw8, hxc_259]
      first
        | refine hK30 _ _ ?_
        | refine ⟨by first | exact sd, hK30 _ _ ?_⟩
      refine Wp.cond rfl ⟨⟩ (fun hc31 => ?_) (fun hc31 => ?_)
      · have hm := brT hm (by first | exact hc31 | simpa using hc31)
        obtain ⟨c_293, hm⟩ := chk_elim hm
        obtain ⟨c_294, hm⟩ := chk_elim hm
        obtain ⟨r_295, hr_295, hm⟩ := call_elim hm
        obtain ⟨c_296, hm⟩ := chk_elim hm
        obtain ⟨r_297, hr_297, hm⟩ := call_elim hm
        refine Wp.regD (plan := [(0, none), (1, none), (2, none), (3, none), (4, none), (5, none), (6, none), (7, none), (8, none), (9, none), (10, some [])]) (by kernel_rfl) rfl (by kernel_rfl) fun K32 hK32 => ?_
        simp only [go_sem, simprocAttr, hw8, hxc_259]
        try refine ⟨by first | exact sd | ((repeat' apply And.intro) <;> first | assumption | omega | (simp only [List.length_append, List.length_map, List.length_cons, List.length_nil, List.length_set, List.length_replicate] at c_293 c_294 c_296 ⊢; omega)), ?_⟩
        refine Dr.callF (av := ?av33) (g := true) (o := ?o33) (fun hg => ok_R_Quote c_259.Setting.Value _ hr_295) ?hk33 ?ha33 ?hb33 ?hp33 ?hok33 ?hf33 ?cont33
        case hk33 =>
          simp only [go_sem, simprocAttr, hw8, hxc_259]
          exact Is.mk
        case ha33 =>
          simp only [go_sem, simprocAttr, hw8, hxc_259]
          exact Is.mk
        case hb33 =>
          simp only [go_sem, simprocAttr, hw8, hxc_259]
          exact Is.mk
        case hp33 =>
          simp only [go_sem, simprocAttr, hw8, hxc_259]
          exact Is.mk
        case hok33 =>
          simp only [go_sem, simprocAttr, hw8, hxc_259]
        case hf33 =>
          simp only [go_sem, simprocAttr, hw8, hxc_259]
          exact Is.mk
        simp only [go_sem, simprocAttr, hw8, hxc_259]
        try refine ⟨by first | exact sd | ((repeat' apply And.intro) <;> first | assumption | omega | (simp only [List.length_append, List.length_map, List.length_cons, List.length_nil, List.length_set, List.length_replicate] at c_293 c_294 c_296 ⊢; omega)), ?_⟩
        refine Dr.callS (av := ?av34) (o := ?o34) 1 [0, 1] (ok_strings_Builder_WriteString_i1 (((([115, 101, 116, 32] : Str) ++ c_259.Setting.Key) ++ ([32] : Str)) ++ r_295) o1_208 _ hr_297) ?hk34 ?hgd34 ?ha34 ?hp34 ?hX34 ?hids34 ?hkp34 ?hok34 ?hag34 ?cont34
        case hk34 =>
          simp only [go_sem, simprocAttr, hw8, hxc_259]
          exact Is.mk
        case hgd34 =>
          simp only [go_sem, simprocAttr, hw8, hxc_259]
          exact Is.mk
        case ha34 =>
          simp only [go_sem, simprocAttr, hw8, hxc_259]
          exact Is.mk
        case hp34 =>
          simp only [go_sem, simprocAttr, hw8, hxc_259]
          exact Is.mk
        case hX34 =>
          simp only [go_sem, simprocAttr, hw8, hxc_259]
          exact Is.mk
        case hids34 => simp only [go_sem, simprocAttr, hw8, hxc_259]
        case hkp34 => simp only [go_sem, simprocAttr, hw8, hxc_259]
        case hok34 => simp only [go_sem, simprocAttr, hw8, hxc_259]
        case hag34 => simp only [go_sem, simprocAttr, hw8, hxc_259]
        simp only [go_sem, simprocAttr, hw8, hxc_259]
        first
          | refine hK32 _ _ ?_
          | refine ⟨by first | exact sd | ((repeat' apply And.intro) <;> first | assumption | omega | (simp only [List.length_append, List.length_map, List.length_cons, List.length_nil, List.length_set, List.length_replicate] at c_293 c_294 c_296 ⊢; omega)), hK32 _ _ ?_⟩
        simp only [thenQ, blockQ, ↓reduceIte]
        refine hW11 _ _ _ _ ?_ (hcut11 r_297.2 hm)
        simp only [go_sem, simprocAttr, hw8, hxc_259]
        try simp [encB, encI_i64, encI_u8, encS, enc_api_Change, enc_api_File, enc_api_Machine, enc_api_Service, enc_api_Setting, enc_disk_line, List.map_set, List.map_replicate]
      · have hm := brF hm (by first | exact hc31 | simpa using hc31)
        refine Wp.seqR fun K35 hK35 => ?_
        simp only [go_sem, simprocAttr, hw8, hxc_259]
        first
          | refine hK35 _ _ ?_
          | refine ⟨by first | exact sd, hK35 _ _ ?_⟩
        refine Wp.cond rfl ⟨⟩ (fun hc36 => ?_) (fun hc36 => ?_)
        · have hm := brT hm (by first | exact hc36 | simpa using hc36)
          obtain ⟨c_298, hm⟩ := chk_elim hm
          obtain ⟨r_299, hr_299, hm⟩ := call_elim hm
          refine Wp.region fun K37 hK37 => ?_
          simp only [go_sem, simprocAttr, hw8, hxc_259]
          try refine ⟨by first | exact sd | ((repeat' apply And.intro) <;> first | assumption | omega | (simp only [List.length_append, List.length_map, List.length_cons, List.length_nil, List.length_set, List.length_replicate] at c_298 ⊢; omega)), ?_⟩
          refine Rg.callO (av := ?av38) [0, 1] (ok_strings_Builder_WriteString_i1 (([117, 110, 115, 101, 116, 32] : Str) ++ c_259.Setting.Key) o1_208 _ hr_299) ?ha38 ?hp38 ?hX38 ?hids38 ?hok38 ?cont38
          case ha38 =>
            simp only [go_sem, simprocAttr, hw8, hxc_259]
            exact Is.mk
          case hp38 =>
            simp only [go_sem, simprocAttr, hw8, hxc_259]
            exact Is.mk
          case hX38 =>
            simp only [go_sem, simprocAttr, hw8, hxc_259]
            exact Is.mk
          case hids38 => simp only [go_sem, simprocAttr, hw8, hxc_259]
          case hok38 => simp only [go_sem, simprocAttr, hw8, hxc_259]
          rintro _ _ ⟨rfl, rfl⟩ hv38
          simp only [go_sem, simprocAttr, hw8, hxc_259]
          first
            | refine hK37 _ _ ?_
            | refine ⟨by first | exact sd | ((repeat' apply And.intro) <;> first | assumption | omega | (simp only [List.length_append, List.length_map, List.length_cons, List.length_nil, List.length_set, List.length_replicate] at c_298 ⊢; omega)), hK37 _ _ ?_⟩
          simp only [thenQ, blockQ, ↓reduceIte]
          refine hW11 _ _ _ _ ?_ (hcut11 r_299.2 hm)
          simp only [go_sem, simprocAttr, hw8, hxc_259]
          try simp [encB, encI_i64, encI_u8, encS, enc_api_Change, enc_api_File, enc_api_Machine, enc_api_Service, enc_api_Setting, enc_disk_line, List.map_set, List.map_replicate]
        · have hm := brF hm (by first | exact hc36 | simpa using hc36)
          refine Wp.seqR fun K39 hK39 => ?_
          simp only [go_sem, simprocAttr, hw8, hxc_259]
          first
            | refine hK39 _ _ ?_
            | refine ⟨by first | exact sd, hK39 _ _ ?_⟩
          refine Wp.cond rfl ⟨⟩ (fun hc40 => ?_) (fun hc40 => ?_)
          · have hm := brT hm (by first | exact hc40 | simpa using hc40)
            obtain ⟨r_300, hr_300, hm⟩ := call_elim hm
            obtain ⟨c_301, hm⟩ := chk_elim hm
            obtain ⟨r_302, hr_302, hm⟩ := call_elim hm
            refine Wp.region fun K41 hK41 => ?_
            simp only [go_sem, simprocAttr, hw8, hxc_259]
            try refine ⟨by first | exact sd | ((repeat' apply And.intro) <;> first | assumption | omega | (simp only [List.length_append, List.length_map, List.length_cons, List.length_nil, List.length_set, List.length_replicate] at c_301 ⊢; omega)), ?_⟩
            refine Rg.callX (av := ?av42) (g := true) (fun hg => ok_R_serviceWords c_259.Service _ hr_300) ?ha42 ?hb42 ?hp42 ?hok42 ?hf42 ?cont42
            case ha42 =>
              simp only [go_sem, simprocAttr, hw8, hxc_259]
              exact Is.mk
            case hb42 =>
              simp only [go_sem, simprocAttr, hw8, hxc_259]
              exact Is.mk
            case hp42 =>
              simp only [go_sem, simprocAttr, hw8, hxc_259]
              exact Is.mk
            case hok42 =>
              simp only [go_sem, simprocAttr, hw8, hxc_259]
            case hf42 =>
              simp only [go_sem, simprocAttr, hw8, hxc_259]
              exact Is.mk
            intro hv42
            simp only [go_sem, simprocAttr, hw8, hxc_259]
            try refine ⟨by first | exact sd | ((repeat' apply And.intro) <;> first | assumption | omega | (simp only [List.length_append, List.length_map, List.length_cons, List.length_nil, List.length_set, List.length_replicate] at c_301 ⊢; omega)), ?_⟩
            refine Rg.callO (av := ?av43) [0, 1] (ok_strings_Builder_WriteString_i1 (([115, 101, 114, 118, 105, 99, 101, 32] : Str) ++ r_300) o1_208 _ hr_302) ?ha43 ?hp43 ?hX43 ?hids43 ?hok43 ?cont43
            case ha43 =>
              simp only [go_sem, simprocAttr, hw8, hxc_259]
              exact Is.mk
            case hp43 =>
              simp only [go_sem, simprocAttr, hw8, hxc_259]
              exact Is.mk
            case hX43 =>
              simp only [go_sem, simprocAttr, hw8, hxc_259]
              exact Is.mk
            case hids43 => simp only [go_sem, simprocAttr, hw8, hxc_259]
            case hok43 => simp only [go_sem, simprocAttr, hw8, hxc_259]
            rintro _ _ ⟨rfl, rfl⟩ hv43
            simp only [go_sem, simprocAttr, hw8, hxc_259]
            first
              | refine hK41 _ _ ?_
              | refine ⟨by first | exact sd | ((repeat' apply And.intro) <;> first | assumption | omega | (simp only [List.length_append, List.length_map, List.length_cons, List.length_nil, List.length_set, List.length_replicate] at c_301 ⊢; omega)), hK41 _ _ ?_⟩
            simp only [thenQ, blockQ, ↓reduceIte]
            refine hW11 _ _ _ _ ?_ (hcut11 r_302.2 hm)
            simp only [go_sem, simprocAttr, hw8, hxc_259]
            try simp [encB, encI_i64, encI_u8, encS, enc_api_Change, enc_api_File, enc_api_Machine, enc_api_Service, enc_api_Setting, enc_disk_line, List.map_set, List.map_replicate]
          · have hm := brF hm (by first | exact hc40 | simpa using hc40)
            refine Wp.seqR fun K44 hK44 => ?_
            simp only [go_sem, simprocAttr, hw8, hxc_259]
            first
              | refine hK44 _ _ ?_
              | refine ⟨by first | exact sd, hK44 _ _ ?_⟩
            refine Wp.cond rfl ⟨⟩ (fun hc45 => ?_) (fun hc45 => ?_)
            · have hm := brT hm (by first | exact hc45 | simpa using hc45)
              obtain ⟨c_303, hm⟩ := chk_elim hm
              obtain ⟨r_304, hr_304, hm⟩ := call_elim hm
              refine Wp.region fun K46 hK46 => ?_
              simp only [go_sem, simprocAttr, hw8, hxc_259]
              try refine ⟨by first | exact sd | ((repeat' apply And.intro) <;> first | assumption | omega | (simp only [List.length_append, List.length_map, List.length_cons, List.length_nil, List.length_set, List.length_replicate] at c_303 ⊢; omega)), ?_⟩
              refine Rg.callO (av := ?av47) [0, 1] (ok_strings_Builder_WriteString_i1 (([100, 114, 111, 112, 32] : Str) ++ c_259.Service.Name) o1_208 _ hr_304) ?ha47 ?hp47 ?hX47 ?hids47 ?hok47 ?cont47
              case ha47 =>
                simp only [go_sem, simprocAttr, hw8, hxc_259]
                exact Is.mk
              case hp47 =>
                simp only [go_sem, simprocAttr, hw8, hxc_259]
                exact Is.mk
              case hX47 =>
                simp only [go_sem, simprocAttr, hw8, hxc_259]
                exact Is.mk
              case hids47 => simp only [go_sem, simprocAttr, hw8, hxc_259]
              case hok47 => simp only [go_sem, simprocAttr, hw8, hxc_259]
              rintro _ _ ⟨rfl, rfl⟩ hv47
              simp only [go_sem, simprocAttr, hw8, hxc_259]
              first
                | refine hK46 _ _ ?_
                | refine ⟨by first | exact sd | ((repeat' apply And.intro) <;> first | assumption | omega | (simp only [List.length_append, List.length_map, List.length_cons, List.length_nil, List.length_set, List.length_replicate] at c_303 ⊢; omega)), hK46 _ _ ?_⟩
              simp only [thenQ, blockQ, ↓reduceIte]
              refine hW11 _ _ _ _ ?_ (hcut11 r_304.2 hm)
              simp only [go_sem, simprocAttr, hw8, hxc_259]
              try simp [encB, encI_i64, encI_u8, encS, enc_api_Change, enc_api_File, enc_api_Machine, enc_api_Service, enc_api_Setting, enc_disk_line, List.map_set, List.map_replicate]
            · have hm := brF hm (by first | exact hc45 | simpa using hc45)
              refine Wp.skip ?_
              simp only [thenQ, blockQ, ↓reduceIte]
              refine hW11 _ _ _ _ ?_ (hcut11 o1_208 hm)
              simp only [go_sem, simprocAttr, hw8, hxc_259]
              try simp [encB, encI_i64, encI_u8, encS, enc_api_Change, enc_api_File, enc_api_Machine, enc_api_Service, enc_api_Setting, enc_disk_line, List.map_set, List.map_replicate]
set_option maxRecDepth 100000 in
set_option maxHeartbeats 4000000 in
theorem ok_disk_changeKind (word_1 : Str) (z : Int) (hm : disk_changeKind word_1 = some z) : Does Tryd.prog 81 [.p (.s word_1)] [] (fun r X => r = .p (.i .i64 z) ∧ X = []) := by
  unfold disk_changeKind at hm
  refine Does.of_wp 0 17 [.tmp 2] Tryd.func81 rfl (by decide) rfl rfl (Nat.le_of_ble_eq_true rfl) fun B => ?_
  refine Wp.seqR fun K1 hK1 => ?_
  simp only [go_sem, simprocAttr]
  first
    | refine hK1 _ _ ?_
    | refine ⟨by first | exact sd, hK1 _ _ ?_⟩
  refine Wp.seqW fun K2 hK2 hW2 => ?_
  refine Wp.seqR fun K3 hK3 => ?_
  simp only [go_sem, simprocAttr]
  first
    | refine hK3 _ _ ?_
    | refine ⟨by first | exact sd, hK3 _ _ ?_⟩
  refine Wp.block ?_
  refine Wp.seqW fun K4 hK4 hW4 => ?_
  obtain ⟨k_3, hk_3, hm⟩ := jp_elim hm
  have hcut4 : ∀ s, k_3 s = some z → K4 [(3, .p (.s word_1)), (4, .p (.b s))] [] := by
    intro t4_2 hs
    have hm := hk_3 _ hs
    clear hs
    try dsimp only at hm
    try dsimp only
    refine hK4 _ _ ?_
    refine Wp.cond rfl ⟨⟩ (fun hc5 => ?_) (fun hc5 => ?_)
    · have hm := brT hm (by first | exact hc5 | simpa using hc5)
      refine Wp.seqR fun K6 hK6 => ?_
      simp only [go_sem, simprocAttr]
      first
        | refine hK6 _ _ ?_
        | refine ⟨by first | exact sd, hK6 _ _ ?_⟩
      refine Wp.ret ?_
      simp only [thenQ, blockQ]
      refine retQ_ret ?_
      cases hm
      simp only [go_sem, simprocAttr]
      try simp [encB, encI_i64, encI_u8, encS, enc_api_Change, enc_api_File, enc_api_Machine, enc_api_Service, enc_api_Setting, enc_disk_line, List.map_set, List.map_replicate]
    · have hm := brF hm (by first | exact hc5 | simpa using hc5)
      refine Wp.seqR fun K7 hK7 => ?_
      simp only [go_sem, simprocAttr]
      first
        | refine hK7 _ _ ?_
        | refine ⟨by first | exact sd, hK7 _ _ ?_⟩
      refine Wp.cond rfl ⟨⟩ (fun hc8 => ?_) (fun hc8 => ?_)
      · have hm := brT hm (by first | exact hc8 | simpa using hc8)
        refine Wp.seqR fun K9 hK9 => ?_
        simp only [go_sem, simprocAttr]
        first
          | refine hK9 _ _ ?_
          | refine ⟨by first | exact sd, hK9 _ _ ?_⟩
        refine Wp.ret ?_
        simp only [thenQ, blockQ]
        refine retQ_ret ?_
        cases hm
        simp only [go_sem, simprocAttr]
        try simp [encB, encI_i64, encI_u8, encS, enc_api_Change, enc_api_File, enc_api_Machine, enc_api_Service, enc_api_Setting, enc_disk_line, List.map_set, List.map_replicate]
      · have hm := brF hm (by first | exact hc8 | simpa using hc8)
        refine Wp.seqR fun K10 hK10 => ?_
        simp only [go_sem, simprocAttr]
        first
          | refine hK10 _ _ ?_
          | refine ⟨by first | exact sd, hK10 _ _ ?_⟩
        refine Wp.cond rfl ⟨⟩ (fun hc11 => ?_) (fun hc11 => ?_)
        · have hm := brT hm (by first | exact hc11 | simpa using hc11)
          refine Wp.seqR fun K12 hK12 => ?_
          simp only [go_sem, simprocAttr]
          first
            | refine hK12 _ _ ?_
            | refine ⟨by first | exact sd, hK12 _ _ ?_⟩
          refine Wp.ret ?_
          simp only [thenQ, blockQ]
          refine retQ_ret ?_
          cases hm
          simp only [go_sem, simprocAttr]
          try simp [encB, encI_i64, encI_u8, encS, enc_api_Change, enc_api_File, enc_api_Machine, enc_api_Service, enc_api_Setting, enc_disk_line, List.map_set, List.map_replicate]
        · have hm := brF hm (by first | exact hc11 | simpa using hc11)
          refine Wp.seqR fun K13 hK13 => ?_
          simp only [go_sem, simprocAttr]
          first
            | refine hK13 _ _ ?_
            | refine ⟨by first | exact sd, hK13 _ _ ?_⟩
          refine Wp.cond rfl ⟨⟩ (fun hc14 => ?_) (fun hc14 => ?_)
          · have hm := brT hm (by first | exact hc14 | simpa using hc14)
            refine Wp.seqR fun K15 hK15 => ?_
            simp only [go_sem, simprocAttr]
            first
              | refine hK15 _ _ ?_
              | refine ⟨by first | exact sd, hK15 _ _ ?_⟩
            refine Wp.ret ?_
            simp only [thenQ, blockQ]
            refine retQ_ret ?_
            cases hm
            simp only [go_sem, simprocAttr]
            try simp [encB, encI_i64, encI_u8, encS, enc_api_Change, enc_api_File, enc_api_Machine, enc_api_Service, enc_api_Setting, enc_disk_line, List.map_set, List.map_replicate]
          · have hm := brF hm (by first | exact hc14 | simpa using hc14)
            refine Wp.seqR fun K16 hK16 => ?_
            simp only [go_sem, simprocAttr]
            first
              | refine hK16 _ _ ?_
              | refine ⟨by first | exact sd, hK16 _ _ ?_⟩
            refine Wp.cond rfl ⟨⟩ (fun hc17 => ?_) (fun hc17 => ?_)
            · have hm := brT hm (by first | exact hc17 | simpa using hc17)
              refine Wp.seqR fun K18 hK18 => ?_
              simp only [go_sem, simprocAttr]
              first
                | refine hK18 _ _ ?_
                | refine ⟨by first | exact sd, hK18 _ _ ?_⟩
              refine Wp.ret ?_
              simp only [thenQ, blockQ]
              refine retQ_ret ?_
              cases hm
              simp only [go_sem, simprocAttr]
              try simp [encB, encI_i64, encI_u8, encS, enc_api_Change, enc_api_File, enc_api_Machine, enc_api_Service, enc_api_Setting, enc_disk_line, List.map_set, List.map_replicate]
            · have hm := brF hm (by first | exact hc17 | simpa using hc17)
              refine Wp.seqR fun K19 hK19 => ?_
              simp only [go_sem, simprocAttr]
              first
                | refine hK19 _ _ ?_
                | refine ⟨by first | exact sd, hK19 _ _ ?_⟩
              refine Wp.cond rfl ⟨⟩ (fun hc20 => ?_) (fun hc20 => ?_)
              · have hm := brT hm (by first | exact hc20 | simpa using hc20)
                refine Wp.seqR fun K21 hK21 => ?_
                simp only [go_sem, simprocAttr]
                first
                  | refine hK21 _ _ ?_
                  | refine ⟨by first | exact sd, hK21 _ _ ?_⟩
                refine Wp.ret ?_
                simp only [thenQ, blockQ]
                refine retQ_ret ?_
                cases hm
                simp only [go_sem, simprocAttr]
                try simp [encB, encI_i64, encI_u8, encS, enc_api_Change, enc_api_File, enc_api_Machine, enc_api_Service, enc_api_Setting, enc_disk_line, List.map_set, List.map_replicate]
              · have hm := brF hm (by first | exact hc20 | simpa using hc20)
                refine Wp.skip ?_
                simp only [thenQ, blockQ, ↓reduceIte]
                refine hK2 _ _ ?_
                refine Wp.seqR fun K22 hK22 => ?_
                simp only [go_sem, simprocAttr]
                first
                  | refine hK22 _ _ ?_
                  | refine ⟨by first | exact sd, hK22 _ _ ?_⟩
                refine Wp.ret ?_
                refine retQ_ret ?_
                cases hm
                simp only [go_sem, simprocAttr]
                try simp [encB, encI_i64, encI_u8, encS, enc_api_Change, enc_api_File, enc_api_Machine, enc_api_Service, enc_api_Setting, enc_disk_line, List.map_set, List.map_replicate]
  clear hK4 hk_3
  refine Wp.seqR fun K23 hK23 => ?_
  simp only [go_sem, simprocAttr]
  first
    | refine hK23 _ _ ?_
    | refine ⟨by first | exact sd, hK23 _ _ ?_⟩
  refine Wp.cond rfl ⟨⟩ (fun hc24 => ?_) (fun hc24 => ?_)
  · have hm := brT hm (by first | exact hc24 | simpa using hc24)
    refine Wp.skip ?_
    simp only [thenQ, blockQ, ↓reduceIte]
    refine hW4 _ _ _ _ ?_ (hcut4 (decide (word_1 = ([112, 117, 116] : Str))) hm)
    simp only [go_sem, simprocAttr]
    try simp [encB, encI_i64, encI_u8, encS, enc_api_Change, enc_api_File, enc_api_Machine, enc_api_Service, enc_api_Setting, enc_disk_line, List.map_set, List.map_replicate]
  · have hm := brF hm (by first | exact hc24 | simpa using hc24)
    refine Wp.region fun K25 hK25 => ?_
    simp only [go_sem, simprocAttr]
    first
      | refine hK25 _ _ ?_
      | refine ⟨by first | exact sd, hK25 _ _ ?_⟩
    simp only [thenQ, blockQ, ↓reduceIte]
    refine hW4 _ _ _ _ ?_ (hcut4 (decide (word_1 = ([112, 117, 116, 114, 117, 110] : Str))) hm)
    simp only [go_sem, simprocAttr]
    try simp [encB, encI_i64, encI_u8, encS, enc_api_Change, enc_api_File, enc_api_Machine, enc_api_Service, enc_api_Setting, enc_disk_line, List.map_set, List.map_replicate]
set_option maxRecDepth 100000 in
set_option maxHeartbeats 4000000 in
theorem ok_disk_ParseChanges_1_i1 (x_1 : disk_line) (o1_2 : List api_Change) (z : Bool × List api_Change) (hm : disk_ParseChanges_1_i1 x_1 o1_2 = some z) : Does Tryd.prog 80 [.agg [.p (.s x_1.word), .p (.s x_1.file.Path), .p (.s x_1.file.Data), .p (.b x_1.file.Runs), .p (.s x_1.setting.Key), .p (.s x_1.setting.Value), .p (.s x_1.service.Name), .p (.s x_1.service.Path), .p (.b x_1.service.Auto), .p (.b x_1.service.On)], .ptr 0 0] [.cells 41 [.buf 1], .buf 55 10 (List.map enc_api_Change o1_2)] (fun r X => r = .p (.b z.1) ∧ X = [.cells 41 [.buf 1], .buf 55 10 (List.map enc_api_Change z.2)]) := by
  unfold disk_ParseChanges_1_i1 at hm
  refine Does.of_wp 2 21 [.tmp 3] Tryd.func80 rfl (by decide) rfl rfl (Nat.le_of_ble_eq_true rfl) fun B => ?_
  refine Wp.seqR fun K1 hK1 => ?_
  simp only [go_sem, simprocAttr]
  first
    | refine hK1 _ _ ?_
    | refine ⟨by first | exact sd, hK1 _ _ ?_⟩
  obtain ⟨r_5, hr_5, hm⟩ := call_elim hm
  refine Wp.seqR fun K2 hK2 => ?_
  simp only [go_sem, simprocAttr]
  try refine ⟨by first | exact sd, ?_⟩
  refine Rg.callX (av := ?av3) (g := true) (fun hg => ok_disk_changeKind x_1.word _ hr_5) ?ha3 ?hb3 ?hp3 ?hok3 ?hf3 ?cont3
  case ha3 =>
    simp only [go_sem, simprocAttr]
    exact Is.mk
  case hb3 =>
    simp only [go_sem, simprocAttr]
    exact Is.mk
  case hp3 =>
    simp only [go_sem, simprocAttr]
    exact Is.mk
  case hok3 =>
    simp only [go_sem, simprocAttr]
  case hf3 =>
    simp only [go_sem, simprocAttr]
    exact Is.mk
  intro hv3
  simp only [go_sem, simprocAttr]
  first
    | refine hK2 _ _ ?_
    | refine ⟨by first | exact sd, hK2 _ _ ?_⟩
  obtain ⟨c_6, hm⟩ := chk_elim hm
  refine Wp.seqR fun K4 hK4 => ?_
  simp only [go_sem, simprocAttr]
  first
    | refine hK4 _ _ ?_
    | refine ⟨by first | exact sd | ((repeat' apply And.intro) <;> first | assumption | omega | (simp only [List.length_append, List.length_map, List.length_cons, List.length_nil, List.length_set, List.length_replicate] at c_6 ⊢; omega)), hK4 _ _ ?_⟩
  refine Wp.seqR fun K5 hK5 => ?_
  simp only [go_sem, simprocAttr]
  first
    | refine hK5 _ _ ?_
    | refine ⟨by first | exact sd, hK5 _ _ ?_⟩
  refine Wp.ret ?_
  refine retQ_ret ?_
  cases hm
  simp only [go_sem, simprocAttr]
  try simp [encB, encI_i64, encI_u8, encS, enc_api_Change, enc_api_File, enc_api_Machine, enc_api_Service, enc_api_Setting, enc_disk_line, List.map_set, List.map_replicate]
set_option maxRecDepth 100000 in
set_option maxHeartbeats 4000000 in
theorem ok_disk_eachLine_i2 (text_1 : Str) (o1_2 : List api_Change) (z : Int × List api_Change) (hm : disk_eachLine_i2 text_1 o1_2 = some z) : Does Tryd.prog 58 [.p (.s text_1), .fn 80 [.ptr 0 0]] [.cells 41 [.buf 1], .buf 55 10 (List.map enc_api_Change o1_2)] (fun r X => r = .p (.i .i64 z.1) ∧ X = [.cells 41 [.buf 1], .buf 55 10 (List.map enc_api_Change z.2)]) := by
  unfold disk_eachLine_i2 at hm
  refine Does.of_wp 2 40 [.tmp 4] Tryd.func58 rfl (by decide) rfl rfl (Nat.le_of_ble_eq_true rfl) fun B => ?_
  refine Wp.seqR fun K1 hK1 => ?_
  simp only [go_sem, simprocAttr]
  first
    | refine hK1 _ _ ?_
    | refine ⟨by first | exact sd, hK1 _ _ ?_⟩
  refine Wp.seqW fun K2 hK2 hW2 => ?_
  obtain ⟨k_54, hk_54, hm⟩ := jp_elim hm
  have hcut2 : ∀ s, k_54 s = some z → K2 [] [.cells 41 [.buf 1], .buf 55 10 (List.map enc_api_Change s)] := by
    intro o1_53 hs
    have hm := hk_54 _ hs
    clear hs
    try dsimp only at hm
    try dsimp only
    refine hK2 _ _ ?_
    refine Wp.seqR fun K3 hK3 => ?_
    simp only [go_sem, simprocAttr]
    first
      | refine hK3 _ _ ?_
      | refine ⟨by first | exact sd, hK3 _ _ ?_⟩
    refine Wp.ret ?_
    refine retQ_ret ?_
    cases hm
    simp only [go_sem, simprocAttr]
    try simp [encB, encI_i64, encI_u8, encS, enc_api_Change, enc_api_File, enc_api_Machine, enc_api_Service, enc_api_Setting, enc_disk_line, List.map_set, List.map_replicate]
  clear hK2 hk_54
  refine Wp.seqR fun K4 hK4 => ?_
  simp only [go_sem, simprocAttr]
  first
    | refine hK4 _ _ ?_
    | refine ⟨by first | exact sd, hK4 _ _ ?_⟩
  refine Wp.block ?_
  obtain ⟨k_66, hk_66, hm⟩ := loopN_cont hm
  refine Wp.loopN (fun s => [(0, .p (.s s.1)), (1, .fn 80 [.ptr 0 0]), (5, .p (.i .i64 s.2.1))]) (fun s => [.cells 41 [.buf 1], .buf 55 10 (List.map enc_api_Change s.2.2)]) ?_ hm ?_
  ·
    simp only [go_sem, simprocAttr]
    try simp [encB, encI_i64, encI_u8, encS, enc_api_Change, enc_api_File, enc_api_Machine, enc_api_Service, enc_api_Setting, enc_disk_line, List.map_set, List.map_replicate]
  clear hm
  intro s nx_67 hm
  obtain ⟨text_60, n_61, o1_62⟩ := s
  try dsimp only at hm
  try dsimp only
  refine Wp.seqW fun K5 hK5 hW5 => ?_
  refine Wp.seqR fun K6 hK6 => ?_
  simp only [go_sem, simprocAttr]
  first
    | refine hK6 _ _ ?_
    | refine ⟨by first | exact sd, hK6 _ _ ?_⟩
  refine Wp.cond rfl ⟨⟩ (fun hc7 => ?_) (fun hc7 => ?_)
  · have hm := brT hm (by first | exact hc7 | simpa using hc7)
    refine Wp.skip ?_
    simp only [thenQ, blockQ, ↓reduceIte]
    refine hK5 _ _ ?_
    refine Wp.seqW fun K8 hK8 hW8 => ?_
    refine Wp.block ?_
    obtain ⟨r_68, hr_68, hm⟩ := call_elim hm
    refine Wp.seqR fun K9 hK9 => ?_
    simp only [go_sem, simprocAttr]
    try refine ⟨by first | exact sd, ?_⟩
    refine Rg.callX (av := ?av10) (g := true) (fun hg => ok_strings_Cut text_60 ([10] : Str) _ hr_68) ?ha10 ?hb10 ?hp10 ?hok10 ?hf10 ?cont10
    case ha10 =>
      simp only [go_sem, simprocAttr]
      exact Is.mk
    case hb10 =>
      simp only [go_sem, simprocAttr]
      exact Is.mk
    case hp10 =>
      simp only [go_sem, simprocAttr]
      exact Is.mk
    case hok10 =>
      simp only [go_sem, simprocAttr]
    case hf10 =>
      simp only [go_sem, simprocAttr]
      exact Is.mk
    intro hv10
    simp only [go_sem, simprocAttr]
    first
      | refine hK9 _ _ ?_
      | refine ⟨by first | exact sd, hK9 _ _ ?_⟩
    obtain ⟨r_69, hr_69, hm⟩ := call_elim hm
    refine Wp.seqR fun K11 hK11 => ?_
    simp only [go_sem, simprocAttr]
    try refine ⟨by first | exact sd, ?_⟩
    refine Rg.callX (av := ?av12) (g := true) (fun hg => ok_disk_readLine r_68.1 _ hr_69) ?ha12 ?hb12 ?hp12 ?hok12 ?hf12 ?cont12
    case ha12 =>
      simp only [go_sem, simprocAttr]
      exact Is.mk
    case hb12 =>
      simp only [go_sem, simprocAttr]
      exact Is.mk
    case hp12 =>
      simp only [go_sem, simprocAttr]
      exact Is.mk
    case hok12 =>
      simp only [go_sem, simprocAttr]
    case hf12 =>
      simp only [go_sem, simprocAttr]
      exact Is.mk
    intro hv12
    simp only [go_sem, simprocAttr]
    first
      | refine hK11 _ _ ?_
      | refine ⟨by first | exact sd, hK11 _ _ ?_⟩
    refine Wp.seqW fun K13 hK13 hW13 => ?_
    obtain ⟨r_70, hr_70, hr_70d, hm⟩ := callG_elim2 hm
    refine Wp.seqR fun K14 hK14 => ?_
    simp only [go_sem, simprocAttr]
    try refine ⟨by first | exact sd, ?_⟩
    refine Rg.callGO (av := ?av15) (g := !((!r_68.2.2) || (!r_69.2))) [0, 1] (fun hg => ok_disk_ParseChanges_1_i1 r_69.1 o1_62 _ (hr_70 hg)) (fun hg => by obtain rfl := hr_70d hg; rfl) ?ha15 ?hb15 ?hp15 ?hX15 ?hids15 ?hok15 ?cont15
    case ha15 =>
      simp only [go_sem, simprocAttr]
      exact Is.mk
    case hb15 =>
      simp only [go_sem, simprocAttr]
      exact Is.mk
    case hp15 =>
      simp only [go_sem, simprocAttr]
      exact Is.mk
    case hX15 =>
      simp only [go_sem, simprocAttr]
      exact Is.mk
    case hids15 => simp only [go_sem, simprocAttr]
    case hok15 => simp only [go_sem, simprocAttr]
    simp only [go_sem, simprocAttr]
    first
      | refine hK14 _ _ ?_
      | refine ⟨by first | exact sd, hK14 _ _ ?_⟩
    refine Wp.cond rfl ⟨⟩ (fun hc16 => ?_) (fun hc16 => ?_)
    · have hm := brT hm (by first | exact hc16 | simpa using hc16)
      refine Wp.seqR fun K17 hK17 => ?_
      simp only [go_sem, simprocAttr]
      first
        | refine hK17 _ _ ?_
        | refine ⟨by first | exact sd, hK17 _ _ ?_⟩
      refine Wp.ret ?_
      simp only [thenQ, blockQ]
      refine retQ_ret ?_
      cases hm
      simp only [go_sem, simprocAttr]
      try simp [encB, encI_i64, encI_u8, encS, enc_api_Change, enc_api_File, enc_api_Machine, enc_api_Service, enc_api_Setting, enc_disk_line, List.map_set, List.map_replicate]
    · have hm := brF hm (by first | exact hc16 | simpa using hc16)
      refine Wp.skip ?_
      simp only [thenQ, blockQ, ↓reduceIte]
      refine hK13 _ _ ?_
      refine Wp.region fun K18 hK18 => ?_
      simp only [go_sem, simprocAttr]
      first
        | refine hK18 _ _ ?_
        | refine ⟨by first | exact sd, hK18 _ _ ?_⟩
      simp only [thenQ, blockQ, ↓reduceIte]
      refine hK8 _ _ ?_
      refine Wp.region fun K19 hK19 => ?_
      simp only [go_sem, simprocAttr]
      first
        | refine hK19 _ _ ?_
        | refine ⟨by first | exact sd, hK19 _ _ ?_⟩
      simp only [thenQ, blockQ, ↓reduceIte]
      refine ⟨(r_68.2.1, IntKind.i64.wrap (n_61 + 1), r_70.2), hm, ?_⟩
      simp only [go_sem, simprocAttr]
      try simp [encB, encI_i64, encI_u8, encS, enc_api_Change, enc_api_File, enc_api_Machine, enc_api_Service, enc_api_Setting, enc_disk_line, List.map_set, List.map_replicate]
  · have hm := brF hm (by first | exact hc7 | simpa using hc7)
    refine Wp.exit ?_
    simp only [thenQ, blockQ, ↓reduceIte]
    have hm := hk_66 _ hm
    try dsimp only at hm
    refine hW2 _ _ _ _ ?_ (hcut2 o1_62 hm)
    simp only [go_sem, simprocAttr]
    try simp [encB, encI_i64, encI_u8, encS, enc_api_Change, enc_api_File, enc_api_Machine, enc_api_Service, enc_api_Setting, enc_disk_line, List.map_set, List.map_replicate]
set_option maxRecDepth 100000 in
set_option maxHeartbeats 4000000 in
theorem ok_disk_ParseChanges (text_1 : Str) (z : List api_Change × Int × Int) (hm : disk_ParseChanges text_1 = some z) : Does Tryd.prog 21 [.p (.s text_1)] [] (fun r X => r = .tup [.p (.l (List.map enc_api_Change z.1)), .p (.i .i64 z.2.1), .p (.i .i64 z.2.2)] ∧ X = []) := by
  unfold disk_ParseChanges at hm
  refine Does.of_wp 0 23 [.tmp 2, .tmp 3, .tmp 4] Tryd.func21 rfl (by decide) rfl rfl (Nat.le_of_ble_eq_true rfl) fun B => ?_
  refine Wp.seqR fun K1 hK1 => ?_
  simp only [go_sem, simprocAttr]
  first
    | refine hK1 _ _ ?_
    | refine ⟨by first | exact sd, hK1 _ _ ?_⟩
  refine Wp.seqW fun K2 hK2 hW2 => ?_
  refine Wp.seqR fun K3 hK3 => ?_
  simp only [go_sem, simprocAttr]
  first
    | refine hK3 _ _ ?_
    | refine ⟨by first | exact sd, hK3 _ _ ?_⟩
  refine Wp.cond rfl ⟨⟩ (fun hc4 => ?_) (fun hc4 => ?_)
  · have hm := brT hm (by first | exact hc4 | simpa using hc4)
    refine Wp.seqR fun K5 hK5 => ?_
    simp only [go_sem, simprocAttr]
    first
      | refine hK5 _ _ ?_
      | refine ⟨by first | exact sd, hK5 _ _ ?_⟩
    refine Wp.ret ?_
    simp only [thenQ, blockQ]
    refine retQ_retE ?_
    cases hm
    simp only [go_sem, simprocAttr]
    try simp [encB, encI_i64, encI_u8, encS, enc_api_Change, enc_api_File, enc_api_Machine, enc_api_Service, enc_api_Setting, enc_disk_line, List.map_set, List.map_replicate]
  · have hm := brF hm (by first | exact hc4 | simpa using hc4)
    refine Wp.skip ?_
    simp only [thenQ, blockQ, ↓reduceIte]
    refine hK2 _ _ ?_
    refine Wp.seqR fun K6 hK6 => ?_
    simp only [go_sem, simprocAttr]
    first
      | refine hK6 _ _ ?_
      | refine ⟨by first | exact sd, hK6 _ _ ?_⟩
    refine Wp.adoptO 0 0 55 10 rfl rfl ?_
    simp only [go_sem, simprocAttr]
    obtain ⟨r_2, hr_2, hm⟩ := call_elim hm
    refine Wp.seqR fun K7 hK7 => ?_
    simp only [go_sem, simprocAttr]
    try refine ⟨by first | exact sd, ?_⟩
    refine Rg.callO (av := ?av8) [0, 1] (ok_disk_eachLine_i2 text_1 [] _ hr_2) ?ha8 ?hp8 ?hX8 ?hids8 ?hok8 ?cont8
    case ha8 =>
      simp only [go_sem, simprocAttr]
      exact Is.mk
    case hp8 =>
      simp only [go_sem, simprocAttr]
      exact Is.mk
    case hX8 =>
      simp only [go_sem, simprocAttr]
      exact Is.mk
    case hids8 => simp only [go_sem, simprocAttr]
    case hok8 => simp only [go_sem, simprocAttr]
    rintro _ _ ⟨rfl, rfl⟩ hv8
    simp only [go_sem, simprocAttr]
    first
      | refine hK7 _ _ ?_
      | refine ⟨by first | exact sd, hK7 _ _ ?_⟩
    refine Wp.seqW fun K9 hK9 hW9 => ?_
    refine Wp.seqR fun K10 hK10 => ?_
    simp only [go_sem, simprocAttr]
    first
      | refine hK10 _ _ ?_
      | refine ⟨by first | exact sd, hK10 _ _ ?_⟩
    refine Wp.cond rfl ⟨⟩ (fun hc11 => ?_) (fun hc11 => ?_)
    · have hm := brT hm (by first | exact hc11 | simpa using hc11)
      refine Wp.seqR fun K12 hK12 => ?_
      simp only [go_sem, simprocAttr]
      first
        | refine hK12 _ _ ?_
        | refine ⟨by first | exact sd, hK12 _ _ ?_⟩
      refine Wp.ret ?_
      simp only [thenQ, blockQ]
      refine retQ_retE ?_
      cases hm
      simp only [go_sem, simprocAttr]
      try simp [encB, encI_i64, encI_u8, encS, enc_api_Change, enc_api_File, enc_api_Machine, enc_api_Service, enc_api_Setting, enc_disk_line, List.map_set, List.map_replicate]
    · have hm := brF hm (by first | exact hc11 | simpa using hc11)
      refine Wp.skip ?_
      simp only [thenQ, blockQ, ↓reduceIte]
      refine hK9 _ _ ?_
      refine Wp.seqW fun K13 hK13 hW13 => ?_
      obtain ⟨r_3, hr_3, hm⟩ := call_elim hm
      refine Wp.seqR fun K14 hK14 => ?_
      simp only [go_sem, simprocAttr]
      try refine ⟨by first | exact sd, ?_⟩
      refine Rg.callX (av := ?av15) (g := true) (fun hg => ok_disk_changesFault r_2.2 _ hr_3) ?ha15 ?hb15 ?hp15 ?hok15 ?hf15 ?cont15
      case ha15 =>
        simp only [go_sem, simprocAttr]
        exact Is.mk
      case hb15 =>
        simp only [go_sem, simprocAttr]
        exact Is.mk
      case hp15 =>
        simp only [go_sem, simprocAttr]
        exact Is.mk
      case hok15 =>
        simp only [go_sem, simprocAttr]
      case hf15 =>
        simp only [go_sem, simprocAttr]
        exact Is.mk
      intro hv15
      simp only [go_sem, simprocAttr]
      first
        | refine hK14 _ _ ?_
        | refine ⟨by first | exact sd, hK14 _ _ ?_⟩
      refine Wp.seqR fun K16 hK16 => ?_
      simp only [go_sem, simprocAttr]
      first
        | refine hK16 _ _ ?_
        | refine ⟨by first | exact sd, hK16 _ _ ?_⟩
      refine Wp.cond rfl ⟨⟩ (fun hc17 => ?_) (fun hc17 => ?_)
      · have hm := brT hm (by first | exact hc17 | simpa using hc17)
        refine Wp.seqR fun K18 hK18 => ?_
        simp only [go_sem, simprocAttr]
        first
          | refine hK18 _ _ ?_
          | refine ⟨by first | exact sd, hK18 _ _ ?_⟩
        refine Wp.ret ?_
        simp only [thenQ, blockQ]
        refine retQ_retE ?_
        cases hm
        simp only [go_sem, simprocAttr]
        try simp [encB, encI_i64, encI_u8, encS, enc_api_Change, enc_api_File, enc_api_Machine, enc_api_Service, enc_api_Setting, enc_disk_line, List.map_set, List.map_replicate]
      · have hm := brF hm (by first | exact hc17 | simpa using hc17)
        refine Wp.skip ?_
        simp only [thenQ, blockQ, ↓reduceIte]
        refine hK13 _ _ ?_
        refine Wp.seqR fun K19 hK19 => ?_
        simp only [go_sem, simprocAttr]
        first
          | refine hK19 _ _ ?_
          | refine ⟨by first | exact sd, hK19 _ _ ?_⟩
        refine Wp.ret ?_
        refine retQ_ret ?_
        cases hm
        simp only [go_sem, simprocAttr]
        try simp [encB, encI_i64, encI_u8, encS, enc_api_Change, enc_api_File, enc_api_Machine, enc_api_Service, enc_api_Setting, enc_disk_line, List.map_set, List.map_replicate]
set_option maxRecDepth 100000 in
set_option maxHeartbeats 4000000 in
theorem ok_slices_Equal_api_Change_api_Change (s1_1 : List api_Change) (s2_2 : List api_Change) (z : Bool) (hm : slices_Equal_api_Change_api_Change s1_1 s2_2 = some z) : Does Tryd.prog 22 [.p (.l (List.map enc_api_Change s1_1)), .p (.l (List.map enc_api_Change s2_2))] [] (fun r X => r = .p (.b z) ∧ X = []) := by
  unfold slices_Equal_api_Change_api_Change at hm
  refine Does.of_wp 0 26 [.tmp 4] Tryd.func22 rfl (by decide) rfl rfl (Nat.le_of_ble_eq_true rfl) fun B => ?_
  refine Wp.seqR fun K1 hK1 => ?_
  simp only [go_sem, simprocAttr]
  first
    | refine hK1 _ _ ?_
    | refine ⟨by first | exact sd, hK1 _ _ ?_⟩
  refine Wp.seqW fun K2 hK2 hW2 => ?_
  refine Wp.seqR fun K3 hK3 => ?_
  simp only [go_sem, simprocAttr]
  first
    | refine hK3 _ _ ?_
    | refine ⟨by first | exact sd, hK3 _ _ ?_⟩
  refine Wp.cond rfl ⟨⟩ (fun hc4 => ?_) (fun hc4 => ?_)
  · have hm := brT hm (by first | exact hc4 | simpa using hc4)
    refine Wp.seqR fun K5 hK5 => ?_
    simp only [go_sem, simprocAttr]
    first
      | refine hK5 _ _ ?_
      | refine ⟨by first | exact sd, hK5 _ _ ?_⟩
    refine Wp.ret ?_
    simp only [thenQ, blockQ]
    refine retQ_ret ?_
    cases hm
    simp only [go_sem, simprocAttr]
    try simp [encB, encI_i64, encI_u8, encS, enc_api_Change, enc_api_File, enc_api_Machine, enc_api_Service, enc_api_Setting, enc_disk_line, List.map_set, List.map_replicate]
  · have hm := brF hm (by first | exact hc4 | simpa using hc4)
    refine Wp.skip ?_
    simp only [thenQ, blockQ, ↓reduceIte]
    refine hK2 _ _ ?_
    refine Wp.seqW fun K6 hK6 hW6 => ?_
    obtain ⟨k_12, hk_12, hm⟩ := jp_elim hm
    have hcut6 : ∀ s, k_12 s = some z → K6 [] [] := by
      intro s hs
      have hm := hk_12 _ hs
      clear hs
      try dsimp only at hm
      try dsimp only
      refine hK6 _ _ ?_
      refine Wp.seqR fun K7 hK7 => ?_
      simp only [go_sem, simprocAttr]
      first
        | refine hK7 _ _ ?_
        | refine ⟨by first | exact sd, hK7 _ _ ?_⟩
      refine Wp.ret ?_
      refine retQ_ret ?_
      cases hm
      simp only [go_sem, simprocAttr]
      try simp [encB, encI_i64, encI_u8, encS, enc_api_Change, enc_api_File, enc_api_Machine, enc_api_Service, enc_api_Setting, enc_disk_line, List.map_set, List.map_replicate]
    clear hK6 hk_12
    refine Wp.seqR fun K8 hK8 => ?_
    simp only [go_sem, simprocAttr]
    first
      | refine hK8 _ _ ?_
      | refine ⟨by first | exact sd, hK8 _ _ ?_⟩
    refine Wp.block ?_
    obtain ⟨k_16, hk_16, hm⟩ := forL_cont hm
    refine Wp.fact 0 fun hl_19 => ?_
    replace hl_19 : s1_1.length ≤ 274877906944 := by
      simp only [go_sem, simprocAttr, List.length_map] at hl_19
      omega
    refine Wp.forL (fun i_18 s => [(0, .p (.l (List.map enc_api_Change s1_1))), (1, .p (.l (List.map enc_api_Change s2_2))), (12, .p (.i .i64 (s1_1.length : Int))), (13, .p (.i .i64 (i_18 : Int)))]) (fun i_18 s => []) ?_ hm ?_
    ·
      simp only [go_sem, simprocAttr]
      try simp [encB, encI_i64, encI_u8, encS, enc_api_Change, enc_api_File, enc_api_Machine, enc_api_Service, enc_api_Setting, enc_disk_line, List.map_set, List.map_replicate]
    clear hm
    intro i_18 s hii_18 hm
    try dsimp only at hm
    try dsimp only
    refine Wp.seqR fun K9 hK9 => ?_
    simp only [go_sem, simprocAttr]
    first
      | refine hK9 _ _ ?_
      | refine ⟨by first | exact sd, hK9 _ _ ?_⟩
    refine Wp.seqW fun K10 hK10 hW10 => ?_
    refine Wp.cond rfl ⟨⟩ (fun hc10 => ?_) (fun hc10 => ?_)
    rotate_left
    · refine Wp.exit ?_
      have hm := hk_16 _ (forL_end hm (ge_nat (by first | exact hc10 | simpa using hc10)))
      try dsimp only at hm
      simp only [thenQ, blockQ, ↓reduceIte]
      refine hW6 _ _ _ _ ?_ (hcut6 () hm)
      simp only [go_sem, simprocAttr]
      try simp [encB, encI_i64, encI_u8, encS, enc_api_Change, enc_api_File, enc_api_Machine, enc_api_Service, enc_api_Setting, enc_disk_line, List.map_set, List.map_replicate]
    have hlt10 := lt_nat (by first | exact hc10 | simpa using hc10)
    have hw10 := wrap_succ hlt10 hl_19
    obtain ⟨c_20, nx_17, hxc_20, hyc_20, hnx_17, hm⟩ := forL_step hm hlt10
    replace hxc_20 := hxc_20 enc_api_Change
    refine Wp.skip ?_
    simp only [thenQ]
    refine hK10 _ _ ?_
    refine Wp.seqW fun K11 hK11 hW11 => ?_
    refine Wp.block ?_
    refine Wp.seqR fun K12 hK12 => ?_
    simp only [go_sem, simprocAttr, hw10, hxc_20]
    first
      | refine hK12 _ _ ?_
      | refine ⟨by first | exact sd, hK12 _ _ ?_⟩
    obtain ⟨c_21, hbc_21, hxc_21, hyc_21, hm⟩ := idx_elim hm
    replace hxc_21 : ∀ d, (List.map enc_api_Change s2_2).getD i_18 d = enc_api_Change c_21 := hxc_21 enc_api_Change
    refine Wp.seqD (plan := [(0, none), (1, none), (2, none), (3, none), (4, none), (5, none), (6, none), (7, none), (8, none)]) (by kernel_rfl) rfl (by kernel_rfl) fun K13 hK13 => ?_
    simp only [go_sem, simprocAttr, hw10, hxc_20, hxc_21]
    first
      | refine hK13 _ _ ?_
      | refine ⟨by first | exact sd, hK13 _ _ ?_⟩
    refine Wp.cond rfl ⟨⟩ (fun hc14 => ?_) (fun hc14 => ?_)
    · have hm := brT hm (by first | exact hc14 | simpa using hc14)
      refine Wp.seqR fun K15 hK15 => ?_
      simp only [go_sem, simprocAttr, hw10, hxc_20, hxc_21]
      first
        | refine hK15 _ _ ?_
        | refine ⟨by first | exact sd, hK15 _ _ ?_⟩
      refine Wp.ret ?_
      simp only [thenQ, blockQ]
      refine retQ_ret ?_
      cases hm
      simp only [go_sem, simprocAttr, hw10, hxc_20, hxc_21]
      try simp [encB, encI_i64, encI_u8, encS, enc_api_Change, enc_api_File, enc_api_Machine, enc_api_Service, enc_api_Setting, enc_disk_line, List.map_set, List.map_replicate]
    · have hm := brF hm (by first | exact hc14 | simpa using hc14)
      refine Wp.skip ?_
      simp only [thenQ, blockQ, ↓reduceIte]
      refine hK11 _ _ ?_
      refine Wp.region fun K16 hK16 => ?_
      simp only [go_sem, simprocAttr, hw10, hxc_20, hxc_21]
      first
        | refine hK16 _ _ ?_
        | refine ⟨by first | exact sd, hK16 _ _ ?_⟩
      simp only [thenQ, blockQ, ↓reduceIte]
      refine ⟨(), hlt10, hnx_17 _ hm, ?_⟩
      simp only [go_sem, simprocAttr, hw10, hxc_20, hxc_21]
      try simp [encB, encI_i64, encI_u8, encS, enc_api_Change, enc_api_File, enc_api_Machine, enc_api_Service, enc_api_Setting, enc_disk_line, List.map_set, List.map_replicate]
set_option maxRecDepth 100000 in
set_option maxHeartbeats 4000000 in
theorem ok_strings_Contains (s_1 : Str) (substr_2 : Str) (z : Bool) (hm : strings_Contains s_1 substr_2 = some z) : Does Tryd.prog 113 [.p (.s s_1), .p (.s substr_2)] [] (fun r X => r = .p (.b z) ∧ X = []) := by
  unfold strings_Contains at hm
  refine Does.of_wp 0 9 [.tmp 4] Tryd.func113 rfl (by decide) rfl rfl (Nat.le_of_ble_eq_true rfl) fun B => ?_
  refine Wp.seqR fun K1 hK1 => ?_
  simp only [go_sem, simprocAttr]
  first
    | refine hK1 _ _ ?_
    | refine ⟨by first | exact sd, hK1 _ _ ?_⟩
  obtain ⟨r_3, hr_3, hm⟩ := call_elim hm
  refine Wp.seqR fun K2 hK2 => ?_
  simp only [go_sem, simprocAttr]
  try refine ⟨by first | exact sd, ?_⟩
  refine Rg.callX (av := ?av3) (g := true) (fun hg => ok_strings_Index s_1 substr_2 _ hr_3) ?ha3 ?hb3 ?hp3 ?hok3 ?hf3 ?cont3
  case ha3 =>
    simp only [go_sem, simprocAttr]
    exact Is.mk
  case hb3 =>
    simp only [go_sem, simprocAttr]
    exact Is.mk
  case hp3 =>
    simp only [go_sem, simprocAttr]
    exact Is.mk
  case hok3 =>
    simp only [go_sem, simprocAttr]
  case hf3 =>
    simp only [go_sem, simprocAttr]
    exact Is.mk
  intro hv3
  simp only [go_sem, simprocAttr]
  first
    | refine hK2 _ _ ?_
    | refine ⟨by first | exact sd, hK2 _ _ ?_⟩
  refine Wp.ret ?_
  refine retQ_ret ?_
  cases hm
  simp only [go_sem, simprocAttr]
  try simp [encB, encI_i64, encI_u8, encS, enc_api_Change, enc_api_File, enc_api_Machine, enc_api_Service, enc_api_Setting, enc_disk_line, List.map_set, List.map_replicate]
set_option maxRecDepth 100000 in
set_option maxHeartbeats 4000000 in
theorem ok_R_changeOf (l_1 : Str) (z : api_Change × Bool) (hm : R_changeOf l_1 = some z) : Does Tryd.prog 82 [.p (.s l_1)] [] (fun r X => r = .tup [.agg [.p (.i .i64 z.1.Kind), .p (.s z.1.File.Path), .p (.s z.1.File.Data), .p (.b z.1.File.Runs), .p (.s z.1.Setting.Key), .p (.s z.1.Setting.Value), .p (.s z.1.Service.Name), .p (.s z.1.Service.Path), .p (.b z.1.Service.Auto), .p (.b z.1.Service.On)], .p (.b z.2)] ∧ X = []) := by
  unfold R_changeOf at hm
  refine Does.of_wp 0 80 [.cell 2 55, .tmp 3] Tryd.func82 rfl (by decide) rfl rfl (Nat.le_of_ble_eq_true rfl) fun B => ?_
  refine Wp.seqR fun K1 hK1 => ?_
  simp only [go_sem, simprocAttr]
  first
    | refine hK1 _ _ ?_
    | refine ⟨by first | exact sd, hK1 _ _ ?_⟩
  obtain ⟨r_2, hr_2, hm⟩ := call_elim hm
  refine Wp.seqR fun K2 hK2 => ?_
  simp only [go_sem, simprocAttr]
  try refine ⟨by first | exact sd, ?_⟩
  refine Rg.callX (av := ?av3) (g := true) (fun hg => ok_strings_Cut l_1 ([32] : Str) _ hr_2) ?ha3 ?hb3 ?hp3 ?hok3 ?hf3 ?cont3
  case ha3 =>
    simp only [go_sem, simprocAttr]
    exact Is.mk
  case hb3 =>
    simp only [go_sem, simprocAttr]
    exact Is.mk
  case hp3 =>
    simp only [go_sem, simprocAttr]
    exact Is.mk
  case hok3 =>
    simp only [go_sem, simprocAttr]
  case hf3 =>
    simp only [go_sem, simprocAttr]
    exact Is.mk
  intro hv3
  simp only [go_sem, simprocAttr]
  first
    | refine hK2 _ _ ?_
    | refine ⟨by first | exact sd, hK2 _ _ ?_⟩
  obtain ⟨r_3, hr_3, hm⟩ := call_elim hm
  refine Wp.seqR fun K4 hK4 => ?_
  simp only [go_sem, simprocAttr]
  try refine ⟨by first | exact sd, ?_⟩
  refine Rg.callX (av := ?av5) (g := true) (fun hg => ok_R_quoted r_2.2.1 _ hr_3) ?ha5 ?hb5 ?hp5 ?hok5 ?hf5 ?cont5
  case ha5 =>
    simp only [go_sem, simprocAttr]
    exact Is.mk
  case hb5 =>
    simp only [go_sem, simprocAttr]
    exact Is.mk
  case hp5 =>
    simp only [go_sem, simprocAttr]
    exact Is.mk
  case hok5 =>
    simp only [go_sem, simprocAttr]
  case hf5 =>
    simp only [go_sem, simprocAttr]
    exact Is.mk
  intro hv5
  simp only [go_sem, simprocAttr]
  first
    | refine hK4 _ _ ?_
    | refine ⟨by first | exact sd, hK4 _ _ ?_⟩
  obtain ⟨r_4, hr_4, hm⟩ := callG_elim hm
  refine Wp.seqR fun K6 hK6 => ?_
  simp only [go_sem, simprocAttr]
  try refine ⟨by first | exact sd, ?_⟩
  refine Rg.callX (av := ?av7) (g := !decide (r_2.2.1 = [])) (fun hg => ok_strings_Contains r_2.2.1 ([32] : Str) _ (hr_4 hg)) ?ha7 ?hb7 ?hp7 ?hok7 ?hf7 ?cont7
  case ha7 =>
    simp only [go_sem, simprocAttr]
    exact Is.mk
  case hb7 =>
    simp only [go_sem, simprocAttr]
    exact Is.mk
  case hp7 =>
    simp only [go_sem, simprocAttr]
    exact Is.mk
  case hok7 =>
    simp only [go_sem, simprocAttr]
  case hf7 =>
    simp only [go_sem, simprocAttr]
    exact Is.mk
  intro hv7
  simp only [go_sem, simprocAttr]
  first
    | refine hK6 _ _ ?_
    | refine ⟨by first | exact sd, hK6 _ _ ?_⟩
  refine Wp.seqW fun K8 hK8 hW8 => ?_
  refine Wp.seqR fun K9 hK9 => ?_
  simp only [go_sem, simprocAttr]
  first
    | refine hK9 _ _ ?_
    | refine ⟨by first | exact sd, hK9 _ _ ?_⟩
  refine Wp.block ?_
  refine Wp.seqW fun K10 hK10 hW10 => ?_
  obtain ⟨k_6, hk_6, hm⟩ := jp_elim hm
  have hcut10 : ∀ s, k_6 s = some z → K10 [(2, .ptr 0 0), (4, .p (.s r_2.1)), (5, .p (.s r_2.2.1)), (7, .p (.s r_3.1)), (8, .p (.s r_3.2.1)), (9, .p (.b r_3.2.2)), (10, .p (.b ((!decide (r_2.2.1 = [])) && (!r_4)))), (32, .p (.s r_2.1)), (33, .p (.b s))] [.cells 55 [.p (.i .i64 0), .p (.s []), .p (.s []), .p (.b false), .p (.s []), .p (.s []), .p (.s []), .p (.s []), .p (.b false), .p (.b false)]] := by
    intro t33_5 hs
    have hm := hk_6 _ hs
    clear hs
    try dsimp only at hm
    try dsimp only
    refine hK10 _ _ ?_
    refine Wp.cond rfl ⟨⟩ (fun hc11 => ?_) (fun hc11 => ?_)
    · have hm := brT hm (by first | exact hc11 | simpa using hc11)
      refine Wp.seqR fun K12 hK12 => ?_
      simp only [go_sem, simprocAttr]
      first
        | refine hK12 _ _ ?_
        | refine ⟨by first | exact sd, hK12 _ _ ?_⟩
      refine Wp.ret ?_
      simp only [thenQ, blockQ]
      refine retQ_ret ?_
      cases hm
      simp only [go_sem, simprocAttr]
      try simp [encB, encI_i64, encI_u8, encS, enc_api_Change, enc_api_File, enc_api_Machine, enc_api_Service, enc_api_Setting, enc_disk_line, List.map_set, List.map_replicate]
    · have hm := brF hm (by first | exact hc11 | simpa using hc11)
      refine Wp.seqR fun K13 hK13 => ?_
      simp only [go_sem, simprocAttr]
      first
        | refine hK13 _ _ ?_
        | refine ⟨by first | exact sd, hK13 _ _ ?_⟩
      refine Wp.cond rfl ⟨⟩ (fun hc14 => ?_) (fun hc14 => ?_)
      · have hm := brT hm (by first | exact hc14 | simpa using hc14)
        refine Wp.seqR fun K15 hK15 => ?_
        simp only [go_sem, simprocAttr]
        first
          | refine hK15 _ _ ?_
          | refine ⟨by first | exact sd, hK15 _ _ ?_⟩
        refine Wp.ret ?_
        simp only [thenQ, blockQ]
        refine retQ_ret ?_
        cases hm
        simp only [go_sem, simprocAttr]
        try simp [encB, encI_i64, encI_u8, encS, enc_api_Change, enc_api_File, enc_api_Machine, enc_api_Service, enc_api_Setting, enc_disk_line, List.map_set, List.map_replicate]
      · have hm := brF hm (by first | exact hc14 | simpa using hc14)
        refine Wp.seqR fun K16 hK16 => ?_
        simp only [go_sem, simprocAttr]
        first
          | refine hK16 _ _ ?_
          | refine ⟨by first | exact sd, hK16 _ _ ?_⟩
        refine Wp.cond rfl ⟨⟩ (fun hc17 => ?_) (fun hc17 => ?_)
        · have hm := brT hm (by first | exact hc17 | simpa using hc17)
          refine Wp.seqR fun K18 hK18 => ?_
          simp only [go_sem, simprocAttr]
          first
            | refine hK18 _ _ ?_
            | refine ⟨by first | exact sd, hK18 _ _ ?_⟩
          refine Wp.ret ?_
          simp only [thenQ, blockQ]
          refine retQ_ret ?_
          cases hm
          simp only [go_sem, simprocAttr]
          try simp [encB, encI_i64, encI_u8, encS, enc_api_Change, enc_api_File, enc_api_Machine, enc_api_Service, enc_api_Setting, enc_disk_line, List.map_set, List.map_replicate]
        · have hm := brF hm (by first | exact hc17 | simpa using hc17)
          refine Wp.seqR fun K19 hK19 => ?_
          simp only [go_sem, simprocAttr]
          first
            | refine hK19 _ _ ?_
            | refine ⟨by first | exact sd, hK19 _ _ ?_⟩
          refine Wp.cond rfl ⟨⟩ (fun hc20 => ?_) (fun hc20 => ?_)
          · have hm := brT hm (by first | exact hc20 | simpa using hc20)
            refine Wp.seqR fun K21 hK21 => ?_
            simp only [go_sem, simprocAttr]
            first
              | refine hK21 _ _ ?_
              | refine ⟨by first | exact sd, hK21 _ _ ?_⟩
            refine Wp.ret ?_
            simp only [thenQ, blockQ]
            refine retQ_ret ?_
            cases hm
            simp only [go_sem, simprocAttr]
            try simp [encB, encI_i64, encI_u8, encS, enc_api_Change, enc_api_File, enc_api_Machine, enc_api_Service, enc_api_Setting, enc_disk_line, List.map_set, List.map_replicate]
          · have hm := brF hm (by first | exact hc20 | simpa using hc20)
            refine Wp.seqR fun K22 hK22 => ?_
            simp only [go_sem, simprocAttr]
            first
              | refine hK22 _ _ ?_
              | refine ⟨by first | exact sd, hK22 _ _ ?_⟩
            refine Wp.cond rfl ⟨⟩ (fun hc23 => ?_) (fun hc23 => ?_)
            · have hm := brT hm (by first | exact hc23 | simpa using hc23)
              obtain ⟨r_7, hr_7, hm⟩ := call_elim hm
              obtain ⟨r_8, hr_8, hm⟩ := call_elim hm
              refine Wp.seqR fun K24 hK24 => ?_
              simp only [go_sem, simprocAttr]
              try refine ⟨by first | exact sd, ?_⟩
              refine Rg.callF (av := ?av25) (ok_strings_Split r_2.2.1 ([32] : Str) _ hr_7) ?ha25 ?hp25 ?hok25 ?cont25
              case ha25 =>
                simp only [go_sem, simprocAttr]
                exact Is.mk
              case hp25 =>
                simp only [go_sem, simprocAttr]
                exact Is.mk
              case hok25 =>
                simp only [go_sem, simprocAttr]
              intro hv25
              simp only [go_sem, simprocAttr]
              try refine ⟨by first | exact sd, ?_⟩
              refine Rg.callX (av := ?av26) (g := true) (fun hg => ok_R_serviceOf r_7 _ hr_8) ?ha26 ?hb26 ?hp26 ?hok26 ?hf26 ?cont26
              case ha26 =>
                simp only [go_sem, simprocAttr]
                exact Is.mk
              case hb26 =>
                simp only [go_sem, simprocAttr]
                exact Is.mk
              case hp26 =>
                simp only [go_sem, simprocAttr]
                exact Is.mk
              case hok26 =>
                simp only [go_sem, simprocAttr]
              case hf26 =>
                simp only [go_sem, simprocAttr]
                exact Is.mk
              intro hv26
              simp only [go_sem, simprocAttr]
              first
                | refine hK24 _ _ ?_
                | refine ⟨by first | exact sd, hK24 _ _ ?_⟩
              refine Wp.seqR fun K27 hK27 => ?_
              simp only [go_sem, simprocAttr]
              first
                | refine hK27 _ _ ?_
                | refine ⟨by first | exact sd, hK27 _ _ ?_⟩
              refine Wp.ret ?_
              simp only [thenQ, blockQ]
              refine retQ_ret ?_
              cases hm
              simp only [go_sem, simprocAttr]
              try simp [encB, encI_i64, encI_u8, encS, enc_api_Change, enc_api_File, enc_api_Machine, enc_api_Service, enc_api_Setting, enc_disk_line, List.map_set, List.map_replicate]
            · have hm := brF hm (by first | exact hc23 | simpa using hc23)
              refine Wp.seqR fun K28 hK28 => ?_
              simp only [go_sem, simprocAttr]
              first
                | refine hK28 _ _ ?_
                | refine ⟨by first | exact sd, hK28 _ _ ?_⟩
              refine Wp.cond rfl ⟨⟩ (fun hc29 => ?_) (fun hc29 => ?_)
              · have hm := brT hm (by first | exact hc29 | simpa using hc29)
                refine Wp.seqR fun K30 hK30 => ?_
                simp only [go_sem, simprocAttr]
                first
                  | refine hK30 _ _ ?_
                  | refine ⟨by first | exact sd, hK30 _ _ ?_⟩
                refine Wp.ret ?_
                simp only [thenQ, blockQ]
                refine retQ_ret ?_
                cases hm
                simp only [go_sem, simprocAttr]
                try simp [encB, encI_i64, encI_u8, encS, enc_api_Change, enc_api_File, enc_api_Machine, enc_api_Service, enc_api_Setting, enc_disk_line, List.map_set, List.map_replicate]
              · have hm := brF hm (by first | exact hc29 | simpa using hc29)
                refine Wp.skip ?_
                simp only [thenQ, blockQ, ↓reduceIte]
                refine hK8 _ _ ?_
                refine Wp.seqR fun K31 hK31 => ?_
                simp only [go_sem, simprocAttr]
                first
                  | refine hK31 _ _ ?_
                  | refine ⟨by first | exact sd, hK31 _ _ ?_⟩
                refine Wp.ret ?_
                refine retQ_ret ?_
                cases hm
                simp only [go_sem, simprocAttr]
                try simp [encB, encI_i64, encI_u8, encS, enc_api_Change, enc_api_File, enc_api_Machine, enc_api_Service, enc_api_Setting, enc_disk_line, List.map_set, List.map_replicate]
  clear hK10 hk_6
  refine Wp.seqR fun K32 hK32 => ?_
  simp only [go_sem, simprocAttr]
  first
    | refine hK32 _ _ ?_
    | refine ⟨by first | exact sd, hK32 _ _ ?_⟩
  refine Wp.cond rfl ⟨⟩ (fun hc33 => ?_) (fun hc33 => ?_)
  · have hm := brT hm (by first | exact hc33 | simpa using hc33)
    refine Wp.skip ?_
    simp only [thenQ, blockQ, ↓reduceIte]
    refine hW10 _ _ _ _ ?_ (hcut10 (decide (r_2.1 = ([112, 117, 116] : Str))) hm)
    simp only [go_sem, simprocAttr]
    try simp [encB, encI_i64, encI_u8, encS, enc_api_Change, enc_api_File, enc_api_Machine, enc_api_Service, enc_api_Setting, enc_disk_line, List.map_set, List.map_replicate]
  · have hm := brF hm (by first | exact hc33 | simpa using hc33)
    refine Wp.region fun K34 hK34 => ?_
    simp only [go_sem, simprocAttr]
    first
      | refine hK34 _ _ ?_
      | refine ⟨by first | exact sd, hK34 _ _ ?_⟩
    simp only [thenQ, blockQ, ↓reduceIte]
    refine hW10 _ _ _ _ ?_ (hcut10 (decide (r_2.1 = ([112, 117, 116, 114, 117, 110] : Str))) hm)
    simp only [go_sem, simprocAttr]
    try simp [encB, encI_i64, encI_u8, encS, enc_api_Change, enc_api_File, enc_api_Machine, enc_api_Service, enc_api_Setting, enc_disk_line, List.map_set, List.map_replicate]
set_option maxRecDepth 100000 in
set_option maxHeartbeats 4000000 in
theorem ok_R_ParseChanges (text_1 : Str) (z : List api_Change × Int × Int) (hm : R_ParseChanges text_1 = some z) : Does Tryd.prog 23 [.p (.s text_1)] [] (fun r X => r = .tup [.p (.l (List.map enc_api_Change z.1)), .p (.i .i64 z.2.1), .p (.i .i64 z.2.2)] ∧ X = []) := by
  unfold R_ParseChanges at hm
  refine Does.of_wp 0 52 [.tmp 2, .tmp 3, .tmp 4] Tryd.func23 rfl (by decide) rfl rfl (Nat.le_of_ble_eq_true rfl) fun B => ?_
  refine Wp.seqR fun K1 hK1 => ?_
  simp only [go_sem, simprocAttr]
  first
    | refine hK1 _ _ ?_
    | refine ⟨by first | exact sd, hK1 _ _ ?_⟩
  refine Wp.seqW fun K2 hK2 hW2 => ?_
  refine Wp.seqR fun K3 hK3 => ?_
  simp only [go_sem, simprocAttr]
  first
    | refine hK3 _ _ ?_
    | refine ⟨by first | exact sd, hK3 _ _ ?_⟩
  refine Wp.cond rfl ⟨⟩ (fun hc4 => ?_) (fun hc4 => ?_)
  · have hm := brT hm (by first | exact hc4 | simpa using hc4)
    refine Wp.seqR fun K5 hK5 => ?_
    simp only [go_sem, simprocAttr]
    first
      | refine hK5 _ _ ?_
      | refine ⟨by first | exact sd, hK5 _ _ ?_⟩
    refine Wp.ret ?_
    simp only [thenQ, blockQ]
    refine retQ_retE ?_
    cases hm
    simp only [go_sem, simprocAttr]
    try simp [encB, encI_i64, encI_u8, encS, enc_api_Change, enc_api_File, enc_api_Machine, enc_api_Service, enc_api_Setting, enc_disk_line, List.map_set, List.map_replicate]
  · have hm := brF hm (by first | exact hc4 | simpa using hc4)
    refine Wp.skip ?_
    simp only [thenQ, blockQ, ↓reduceIte]
    refine hK2 _ _ ?_
    refine Wp.seqR fun K6 hK6 => ?_
    simp only [go_sem, simprocAttr]
    first
      | refine hK6 _ _ ?_
      | refine ⟨by first | exact sd, hK6 _ _ ?_⟩
    obtain ⟨r_2, hr_2, hm⟩ := call_elim hm
    refine Wp.seqR fun K7 hK7 => ?_
    simp only [go_sem, simprocAttr]
    try refine ⟨by first | exact sd, ?_⟩
    refine Rg.callF (av := ?av8) (ok_R_cutLines text_1 _ hr_2) ?ha8 ?hp8 ?hok8 ?cont8
    case ha8 =>
      simp only [go_sem, simprocAttr]
      exact Is.mk
    case hp8 =>
      simp only [go_sem, simprocAttr]
      exact Is.mk
    case hok8 =>
      simp only [go_sem, simprocAttr]
    intro hv8
    simp only [go_sem, simprocAttr]
    first
      | refine hK7 _ _ ?_
      | refine ⟨by first | exact sd, hK7 _ _ ?_⟩
    refine Wp.seqW fun K9 hK9 hW9 => ?_
    obtain ⟨k_20, hk_20, hm⟩ := jp_elim hm
    have hcut9 : ∀ s, k_20 s = some z → K9 [(5, .buf 0)] [.buf 55 10 (List.map enc_api_Change s)] := by
      intro o0_19 hs
      have hm := hk_20 _ hs
      clear hs
      try dsimp only at hm
      try dsimp only
      refine hK9 _ _ ?_
      refine Wp.seqW fun K10 hK10 hW10 => ?_
      obtain ⟨r_21, hr_21, hm⟩ := call_elim hm
      refine Wp.seqR fun K11 hK11 => ?_
      simp only [go_sem, simprocAttr]
      try refine ⟨by first | exact sd, ?_⟩
      refine Rg.callX (av := ?av12) (g := true) (fun hg => ok_R_ChangesError o0_19 _ hr_21) ?ha12 ?hb12 ?hp12 ?hok12 ?hf12 ?cont12
      case ha12 =>
        simp only [go_sem, simprocAttr]
        exact Is.mk
      case hb12 =>
        simp only [go_sem, simprocAttr]
        exact Is.mk
      case hp12 =>
        simp only [go_sem, simprocAttr]
        exact Is.mk
      case hok12 =>
        simp only [go_sem, simprocAttr]
      case hf12 =>
        simp only [go_sem, simprocAttr]
        exact Is.mk
      intro hv12
      simp only [go_sem, simprocAttr]
      first
        | refine hK11 _ _ ?_
        | refine ⟨by first | exact sd, hK11 _ _ ?_⟩
      refine Wp.seqR fun K13 hK13 => ?_
      simp only [go_sem, simprocAttr]
      first
        | refine hK13 _ _ ?_
        | refine ⟨by first | exact sd, hK13 _ _ ?_⟩
      refine Wp.cond rfl ⟨⟩ (fun hc14 => ?_) (fun hc14 => ?_)
      · have hm := brT hm (by first | exact hc14 | simpa using hc14)
        refine Wp.seqR fun K15 hK15 => ?_
        simp only [go_sem, simprocAttr]
        first
          | refine hK15 _ _ ?_
          | refine ⟨by first | exact sd, hK15 _ _ ?_⟩
        refine Wp.ret ?_
        simp only [thenQ, blockQ]
        refine retQ_retE ?_
        cases hm
        simp only [go_sem, simprocAttr]
        try simp [encB, encI_i64, encI_u8, encS, enc_api_Change, enc_api_File, enc_api_Machine, enc_api_Service, enc_api_Setting, enc_disk_line, List.map_set, List.map_replicate]
      · have hm := brF hm (by first | exact hc14 | simpa using hc14)
        refine Wp.skip ?_
        simp only [thenQ, blockQ, ↓reduceIte]
        refine hK10 _ _ ?_
        refine Wp.seqR fun K16 hK16 => ?_
        simp only [go_sem, simprocAttr]
        first
          | refine hK16 _ _ ?_
          | refine ⟨by first | exact sd, hK16 _ _ ?_⟩
        refine Wp.ret ?_
        refine retQ_ret ?_
        cases hm
        simp only [go_sem, simprocAttr]
        try simp [encB, encI_i64, encI_u8, encS, enc_api_Change, enc_api_File, enc_api_Machine, enc_api_Service, enc_api_Setting, enc_disk_line, List.map_set, List.map_replicate]
    clear hK9 hk_20
    refine Wp.seqR fun K17 hK17 => ?_
    simp only [go_sem, simprocAttr]
    first
      | refine hK17 _ _ ?_
      | refine ⟨by first | exact sd, hK17 _ _ ?_⟩
    refine Wp.block ?_
    refine Wp.adopt 5 55 10 rfl ?_
    simp only [go_sem, simprocAttr]
    obtain ⟨k_31, hk_31, hm⟩ := forL_cont hm
    refine Wp.fact 21 fun hl_34 => ?_
    replace hl_34 : r_2.1.length ≤ 274877906944 := by
      simp only [go_sem, simprocAttr, List.length_map] at hl_34
      omega
    refine Wp.forL (fun i_33 s => [(5, .buf 0), (7, .p (.i .i64 r_2.2)), (21, .p (.l (List.map encS r_2.1))), (22, .p (.i .i64 (r_2.1.length : Int))), (23, .p (.i .i64 (i_33 : Int)))]) (fun i_33 s => [.buf 55 10 (List.map enc_api_Change s)]) ?_ hm ?_
    ·
      simp only [go_sem, simprocAttr]
      try simp [encB, encI_i64, encI_u8, encS, enc_api_Change, enc_api_File, enc_api_Machine, enc_api_Service, enc_api_Setting, enc_disk_line, List.map_set, List.map_replicate]
    clear hm
    intro i_33 o0_27 hii_33 hm
    try dsimp only at hm
    try dsimp only
    refine Wp.seqR fun K18 hK18 => ?_
    simp only [go_sem, simprocAttr]
    first
      | refine hK18 _ _ ?_
      | refine ⟨by first | exact sd, hK18 _ _ ?_⟩
    refine Wp.seqW fun K19 hK19 hW19 => ?_
    refine Wp.cond rfl ⟨⟩ (fun hc19 => ?_) (fun hc19 => ?_)
    rotate_left
    · refine Wp.exit ?_
      have hm := hk_31 _ (forL_end hm (ge_nat (by first | exact hc19 | simpa using hc19)))
      try dsimp only at hm
      simp only [thenQ, blockQ, ↓reduceIte]
      refine hW9 _ _ _ _ ?_ (hcut9 o0_27 hm)
      simp only [go_sem, simprocAttr]
      try simp [encB, encI_i64, encI_u8, encS, enc_api_Change, enc_api_File, enc_api_Machine, enc_api_Service, enc_api_Setting, enc_disk_line, List.map_set, List.map_replicate]
    have hlt19 := lt_nat (by first | exact hc19 | simpa using hc19)
    have hw19 := wrap_succ hlt19 hl_34
    obtain ⟨s_35, nx_32, hxs_35, hys_35, hnx_32, hm⟩ := forL_step hm hlt19
    replace hxs_35 := hxs_35 encS
    refine Wp.skip ?_
    simp only [thenQ]
    refine hK19 _ _ ?_
    refine Wp.seqW fun K20 hK20 hW20 => ?_
    refine Wp.block ?_
    refine Wp.seqR fun K21 hK21 => ?_
    simp only [go_sem, simprocAttr, hw19, hxs_35]
    first
      | refine hK21 _ _ ?_
      | refine ⟨by first | exact sd, hK21 _ _ ?_⟩
    obtain ⟨r_36, hr_36, hm⟩ := call_elim hm
    refine Wp.seqR fun K22 hK22 => ?_
    simp only [go_sem, simprocAttr, hw19, hxs_35]
    try refine ⟨by first | exact sd, ?_⟩
    refine Rg.callX (av := ?av23) (g := true) (fun hg => ok_R_changeOf s_35 _ hr_36) ?ha23 ?hb23 ?hp23 ?hok23 ?hf23 ?cont23
    case ha23 =>
      simp only [go_sem, simprocAttr, hw19, hxs_35]
      exact Is.mk
    case hb23 =>
      simp only [go_sem, simprocAttr, hw19, hxs_35]
      exact Is.mk
    case hp23 =>
      simp only [go_sem, simprocAttr, hw19, hxs_35]
      exact Is.mk
    case hok23 =>
      simp only [go_sem, simprocAttr, hw19, hxs_35]
    case hf23 =>
      simp only [go_sem, simprocAttr, hw19, hxs_35]
      exact Is.mk
    intro hv23
    simp only [go_sem, simprocAttr, hw19, hxs_35]
    first
      | refine hK22 _ _ ?_
      | refine ⟨by first | exact sd, hK22 _ _ ?_⟩
    refine Wp.seqW fun K24 hK24 hW24 => ?_
    refine Wp.seqR fun K25 hK25 => ?_
    simp only [go_sem, simprocAttr, hw19, hxs_35]
    first
      | refine hK25 _ _ ?_
      | refine ⟨by first | exact sd, hK25 _ _ ?_⟩
    refine Wp.cond rfl ⟨⟩ (fun hc26 => ?_) (fun hc26 => ?_)
    · have hm := brT hm (by first | exact hc26 | simpa using hc26)
      refine Wp.seqR fun K27 hK27 => ?_
      simp only [go_sem, simprocAttr, hw19, hxs_35]
      first
        | refine hK27 _ _ ?_
        | refine ⟨by first | exact sd, hK27 _ _ ?_⟩
      refine Wp.ret ?_
      simp only [thenQ, blockQ]
      refine retQ_retE ?_
      cases hm
      simp only [go_sem, simprocAttr, hw19, hxs_35]
      try simp [encB, encI_i64, encI_u8, encS, enc_api_Change, enc_api_File, enc_api_Machine, enc_api_Service, enc_api_Setting, enc_disk_line, List.map_set, List.map_replicate]
    · have hm := brF hm (by first | exact hc26 | simpa using hc26)
      refine Wp.skip ?_
      simp only [thenQ, blockQ, ↓reduceIte]
      refine hK24 _ _ ?_
      obtain ⟨c_37, hm⟩ := chk_elim hm
      refine Wp.region fun K28 hK28 => ?_
      simp only [go_sem, simprocAttr, hw19, hxs_35]
      first
        | refine hK28 _ _ ?_
        | refine ⟨by first | exact sd | ((repeat' apply And.intro) <;> first | assumption | omega | (simp only [List.length_append, List.length_map, List.length_cons, List.length_nil, List.length_set, List.length_replicate] at c_37 ⊢; omega)), hK28 _ _ ?_⟩
      simp only [thenQ, blockQ, ↓reduceIte]
      refine hK20 _ _ ?_
      refine Wp.region fun K29 hK29 => ?_
      simp only [go_sem, simprocAttr, hw19, hxs_35]
      first
        | refine hK29 _ _ ?_
        | refine ⟨by first | exact sd, hK29 _ _ ?_⟩
      simp only [thenQ, blockQ, ↓reduceIte]
      refine ⟨o0_27 ++ [r_36.1], hlt19, hnx_32 _ hm, ?_⟩
      simp only [go_sem, simprocAttr, hw19, hxs_35]
      try simp [encB, encI_i64, encI_u8, encS, enc_api_Change, enc_api_File, enc_api_Machine, enc_api_Service, enc_api_Setting, enc_disk_line, List.map_set, List.map_replicate]
set_option maxRecDepth 100000 in
set_option maxHeartbeats 4000000 in
theorem ok_Law_ChangesPrint (l_1 : List api_Change) (text_2 : Str) (z : Bool) (hm : Law_ChangesPrint l_1 text_2 = some z) : Does Tryd.prog 5 [.p (.l (List.map enc_api_Change l_1)), .p (.s text_2)] [] (fun r X => r = .p (.b z) ∧ X = []) := by
  unfold Law_ChangesPrint at hm
  refine Does.of_wp 0 87 [.tmp 4] Tryd.func5 rfl (by decide) rfl rfl (Nat.le_of_ble_eq_true rfl) fun B => ?_
  refine Wp.seqR fun K1 hK1 => ?_
  simp only [go_sem, simprocAttr]
  first
    | refine hK1 _ _ ?_
    | refine ⟨by first | exact sd, hK1 _ _ ?_⟩
  refine Wp.seqW fun K2 hK2 hW2 => ?_
  obtain ⟨r_3, hr_3, hm⟩ := call_elim hm
  refine Wp.seqR fun K3 hK3 => ?_
  simp only [go_sem, simprocAttr]
  try refine ⟨by first | exact sd, ?_⟩
  refine Rg.callX (av := ?av4) (g := true) (fun hg => ok_Law_landed  _ hr_3) ?ha4 ?hb4 ?hp4 ?hok4 ?hf4 ?cont4
  case ha4 =>
    simp only [go_sem, simprocAttr]
    exact Is.mk
  case hb4 =>
    simp only [go_sem, simprocAttr]
    exact Is.mk
  case hp4 =>
    simp only [go_sem, simprocAttr]
    exact Is.mk
  case hok4 =>
    simp only [go_sem, simprocAttr]
  case hf4 =>
    simp only [go_sem, simprocAttr]
    exact Is.mk
  intro hv4
  simp only [go_sem, simprocAttr]
  first
    | refine hK3 _ _ ?_
    | refine ⟨by first | exact sd, hK3 _ _ ?_⟩
  refine Wp.cond rfl ⟨⟩ (fun hc5 => ?_) (fun hc5 => ?_)
  · have hm := brT hm (by first | exact hc5 | simpa using hc5)
    refine Wp.seqR fun K6 hK6 => ?_
    simp only [go_sem, simprocAttr]
    first
      | refine hK6 _ _ ?_
      | refine ⟨by first | exact sd, hK6 _ _ ?_⟩
    refine Wp.ret ?_
    simp only [thenQ, blockQ]
    refine retQ_ret ?_
    cases hm
    simp only [go_sem, simprocAttr]
    try simp [encB, encI_i64, encI_u8, encS, enc_api_Change, enc_api_File, enc_api_Machine, enc_api_Service, enc_api_Setting, enc_disk_line, List.map_set, List.map_replicate]
  · have hm := brF hm (by first | exact hc5 | simpa using hc5)
    refine Wp.skip ?_
    simp only [thenQ, blockQ, ↓reduceIte]
    refine hK2 _ _ ?_
    obtain ⟨r_4, hr_4, hm⟩ := call_elim hm
    refine Wp.seqR fun K7 hK7 => ?_
    simp only [go_sem, simprocAttr]
    try refine ⟨by first | exact sd, ?_⟩
    refine Rg.callX (av := ?av8) (g := true) (fun hg => ok_disk_PrintChanges l_1 _ hr_4) ?ha8 ?hb8 ?hp8 ?hok8 ?hf8 ?cont8
    case ha8 =>
      simp only [go_sem, simprocAttr]
      exact Is.mk
    case hb8 =>
      simp only [go_sem, simprocAttr]
      exact Is.mk
    case hp8 =>
      simp only [go_sem, simprocAttr]
      exact Is.mk
    case hok8 =>
      simp only [go_sem, simprocAttr]
    case hf8 =>
      simp only [go_sem, simprocAttr]
      exact Is.mk
    intro hv8
    simp only [go_sem, simprocAttr]
    first
      | refine hK7 _ _ ?_
      | refine ⟨by first | exact sd, hK7 _ _ ?_⟩
    obtain ⟨r_5, hr_5, hm⟩ := call_elim hm
    refine Wp.seqR fun K9 hK9 => ?_
    simp only [go_sem, simprocAttr]
    try refine ⟨by first | exact sd, ?_⟩
    refine Rg.callX (av := ?av10) (g := true) (fun hg => ok_R_ChangesError l_1 _ hr_5) ?ha10 ?hb10 ?hp10 ?hok10 ?hf10 ?cont10
    case ha10 =>
      simp only [go_sem, simprocAttr]
      exact Is.mk
    case hb10 =>
      simp only [go_sem, simprocAttr]
      exact Is.mk
    case hp10 =>
      simp only [go_sem, simprocAttr]
      exact Is.mk
    case hok10 =>
      simp only [go_sem, simprocAttr]
    case hf10 =>
      simp only [go_sem, simprocAttr]
      exact Is.mk
    intro hv10
    simp only [go_sem, simprocAttr]
    first
      | refine hK9 _ _ ?_
      | refine ⟨by first | exact sd, hK9 _ _ ?_⟩
    refine Wp.seqW fun K11 hK11 hW11 => ?_
    obtain ⟨k_8, hk_8, hm⟩ := jp_elim hm
    have hcut11 : ∀ s, k_8 s = some z → K11 [(0, .p (.l (List.map enc_api_Change l_1))), (1, .p (.s text_2)), (5, .p (.s r_4.1)), (6, .p (.i .i64 r_4.2)), (7, .p (.i .i64 s))] [] := by
      intro f_7 hs
      have hm := hk_8 _ hs
      clear hs
      try dsimp only at hm
      try dsimp only
      refine hK11 _ _ ?_
      refine Wp.seqW fun K12 hK12 hW12 => ?_
      refine Wp.seqR fun K13 hK13 => ?_
      simp only [go_sem, simprocAttr]
      first
        | refine hK13 _ _ ?_
        | refine ⟨by first | exact sd, hK13 _ _ ?_⟩
      refine Wp.cond rfl ⟨⟩ (fun hc14 => ?_) (fun hc14 => ?_)
      · have hm := brT hm (by first | exact hc14 | simpa using hc14)
        refine Wp.seqR fun K15 hK15 => ?_
        simp only [go_sem, simprocAttr]
        first
          | refine hK15 _ _ ?_
          | refine ⟨by first | exact sd, hK15 _ _ ?_⟩
        refine Wp.ret ?_
        simp only [thenQ, blockQ]
        refine retQ_ret ?_
        cases hm
        simp only [go_sem, simprocAttr]
        try simp [encB, encI_i64, encI_u8, encS, enc_api_Change, enc_api_File, enc_api_Machine, enc_api_Service, enc_api_Setting, enc_disk_line, List.map_set, List.map_replicate]
      · have hm := brF hm (by first | exact hc14 | simpa using hc14)
        refine Wp.skip ?_
        simp only [thenQ, blockQ, ↓reduceIte]
        refine hK12 _ _ ?_
        refine Wp.seqW fun K16 hK16 hW16 => ?_
        obtain ⟨k_12, hk_12, hm⟩ := jp_elim hm
        have hcut16 : ∀ s, k_12 s = some z → K16 [(1, .p (.s text_2))] [] := by
          intro s hs
          have hm := hk_12 _ hs
          clear hs
          try dsimp only at hm
          try dsimp only
          refine hK16 _ _ ?_
          obtain ⟨r_13, hr_13, hm⟩ := call_elim hm
          refine Wp.seqR fun K17 hK17 => ?_
          simp only [go_sem, simprocAttr]
          try refine ⟨by first | exact sd, ?_⟩
          refine Rg.callF (av := ?av18) (ok_disk_ParseChanges text_2 _ hr_13) ?ha18 ?hp18 ?hok18 ?cont18
          case ha18 =>
            simp only [go_sem, simprocAttr]
            exact Is.mk
          case hp18 =>
            simp only [go_sem, simprocAttr]
            exact Is.mk
          case hok18 =>
            simp only [go_sem, simprocAttr]
          intro hv18
          simp only [go_sem, simprocAttr]
          first
            | refine hK17 _ _ ?_
            | refine ⟨by first | exact sd, hK17 _ _ ?_⟩
          obtain ⟨r_14, hr_14, hm⟩ := call_elim hm
          refine Wp.seqR fun K19 hK19 => ?_
          simp only [go_sem, simprocAttr]
          try refine ⟨by first | exact sd, ?_⟩
          refine Rg.callF (av := ?av20) (ok_R_ParseChanges text_2 _ hr_14) ?ha20 ?hp20 ?hok20 ?cont20
          case ha20 =>
            simp only [go_sem, simprocAttr]
            exact Is.mk
          case hp20 =>
            simp only [go_sem, simprocAttr]
            exact Is.mk
          case hok20 =>
            simp only [go_sem, simprocAttr]
          intro hv20
          simp only [go_sem, simprocAttr]
          first
            | refine hK19 _ _ ?_
            | refine ⟨by first | exact sd, hK19 _ _ ?_⟩
          obtain ⟨r_15, hr_15, hm⟩ := callG_elim hm
          refine Wp.seqR fun K21 hK21 => ?_
          simp only [go_sem, simprocAttr]
          try refine ⟨by first | exact sd, ?_⟩
          refine Rg.callX (av := ?av22) (g := ((decide (r_13.2.2 = r_14.2.2)) && (decide (r_13.2.1 = r_14.2.1)))) (fun hg => ok_slices_Equal_api_Change_api_Change r_13.1 r_14.1 _ (hr_15 hg)) ?ha22 ?hb22 ?hp22 ?hok22 ?hf22 ?cont22
          case ha22 =>
            simp only [go_sem, simprocAttr]
            exact Is.mk
          case hb22 =>
            simp only [go_sem, simprocAttr]
            exact Is.mk
          case hp22 =>
            simp only [go_sem, simprocAttr]
            exact Is.mk
          case hok22 =>
            simp only [go_sem, simprocAttr]
          case hf22 =>
            simp only [go_sem, simprocAttr]
            exact Is.mk
          intro hv22
          simp only [go_sem, simprocAttr]
          first
            | refine hK21 _ _ ?_
            | refine ⟨by first | exact sd, hK21 _ _ ?_⟩
          refine Wp.ret ?_
          refine retQ_ret ?_
          cases hm
          simp only [go_sem, simprocAttr]
          try simp [encB, encI_i64, encI_u8, encS, enc_api_Change, enc_api_File, enc_api_Machine, enc_api_Service, enc_api_Setting, enc_disk_line, List.map_set, List.map_replicate]
        clear hK16 hk_12
        refine Wp.seqR fun K23 hK23 => ?_
        simp only [go_sem, simprocAttr]
        first
          | refine hK23 _ _ ?_
          | refine ⟨by first | exact sd, hK23 _ _ ?_⟩
        refine Wp.cond rfl ⟨⟩ (fun hc24 => ?_) (fun hc24 => ?_)
        · have hm := brT hm (by first | exact hc24 | simpa using hc24)
          obtain ⟨r_16, hr_16, hm⟩ := call_elim hm
          refine Wp.seqR fun K25 hK25 => ?_
          simp only [go_sem, simprocAttr]
          try refine ⟨by first | exact sd, ?_⟩
          refine Rg.callF (av := ?av26) (ok_disk_ParseChanges r_4.1 _ hr_16) ?ha26 ?hp26 ?hok26 ?cont26
          case ha26 =>
            simp only [go_sem, simprocAttr]
            exact Is.mk
          case hp26 =>
            simp only [go_sem, simprocAttr]
            exact Is.mk
          case hok26 =>
            simp only [go_sem, simprocAttr]
          intro hv26
          simp only [go_sem, simprocAttr]
          first
            | refine hK25 _ _ ?_
            | refine ⟨by first | exact sd, hK25 _ _ ?_⟩
          obtain ⟨r_17, hr_17, hm⟩ := call_elim hm
          obtain ⟨r_18, hr_18, hm⟩ := callG_elim hm
          refine Wp.seqR fun K27 hK27 => ?_
          simp only [go_sem, simprocAttr]
          try refine ⟨by first | exact sd, ?_⟩
          refine Rg.callX (av := ?av28) (g := true) (fun hg => ok_R_PrintChanges l_1 _ hr_17) ?ha28 ?hb28 ?hp28 ?hok28 ?hf28 ?cont28
          case ha28 =>
            simp only [go_sem, simprocAttr]
            exact Is.mk
          case hb28 =>
            simp only [go_sem, simprocAttr]
            exact Is.mk
          case hp28 =>
            simp only [go_sem, simprocAttr]
            exact Is.mk
          case hok28 =>
            simp only [go_sem, simprocAttr]
          case hf28 =>
            simp only [go_sem, simprocAttr]
            exact Is.mk
          intro hv28
          simp only [go_sem, simprocAttr]
          try refine ⟨by first | exact sd, ?_⟩
          refine Rg.callX (av := ?av29) (g := !(((!decide (r_4.1 = r_17)) || (!decide (r_16.2.2 = 0))) || (!decide (r_16.2.1 = 0)))) (fun hg => ok_slices_Equal_api_Change_api_Change r_16.1 l_1 _ (hr_18 hg)) ?ha29 ?hb29 ?hp29 ?hok29 ?hf29 ?cont29
          case ha29 =>
            simp only [go_sem, simprocAttr]
            exact Is.mk
          case hb29 =>
            simp only [go_sem, simprocAttr]
            exact Is.mk
          case hp29 =>
            simp only [go_sem, simprocAttr]
            exact Is.mk
          case hok29 =>
            simp only [go_sem, simprocAttr]
          case hf29 =>
            simp only [go_sem, simprocAttr]
            exact Is.mk
          intro hv29
          simp only [go_sem, simprocAttr]
          first
            | refine hK27 _ _ ?_
            | refine ⟨by first | exact sd, hK27 _ _ ?_⟩
          refine Wp.cond rfl ⟨⟩ (fun hc30 => ?_) (fun hc30 => ?_)
          · have hm := brT hm (by first | exact hc30 | simpa using hc30)
            refine Wp.seqR fun K31 hK31 => ?_
            simp only [go_sem, simprocAttr]
            first
              | refine hK31 _ _ ?_
              | refine ⟨by first | exact sd, hK31 _ _ ?_⟩
            refine Wp.ret ?_
            simp only [thenQ, blockQ]
            refine retQ_ret ?_
            cases hm
            simp only [go_sem, simprocAttr]
            try simp [encB, encI_i64, encI_u8, encS, enc_api_Change, enc_api_File, enc_api_Machine, enc_api_Service, enc_api_Setting, enc_disk_line, List.map_set, List.map_replicate]
          · have hm := brF hm (by first | exact hc30 | simpa using hc30)
            refine Wp.skip ?_
            simp only [thenQ, blockQ, ↓reduceIte]
            refine hW16 _ _ _ _ ?_ (hcut16 () hm)
            simp only [go_sem, simprocAttr]
            try simp [encB, encI_i64, encI_u8, encS, enc_api_Change, enc_api_File, enc_api_Machine, enc_api_Service, enc_api_Setting, enc_disk_line, List.map_set, List.map_replicate]
        · have hm := brF hm (by first | exact hc24 | simpa using hc24)
          refine Wp.skip ?_
          simp only [thenQ, blockQ, ↓reduceIte]
          refine hW16 _ _ _ _ ?_ (hcut16 () hm)
          simp only [go_sem, simprocAttr]
          try simp [encB, encI_i64, encI_u8, encS, enc_api_Change, enc_api_File, enc_api_Machine, enc_api_Service, enc_api_Setting, enc_disk_line, List.map_set, List.map_replicate]
    clear hK11 hk_8
    obtain ⟨r_19, hr_19, hm⟩ := callG_elim hm
    refine Wp.seqR fun K32 hK32 => ?_
    simp only [go_sem, simprocAttr]
    try refine ⟨by first | exact sd, ?_⟩
    refine Rg.callX (av := ?av33) (g := decide (r_5 = 0)) (fun hg => ok_R_PrintChanges l_1 _ (hr_19 hg)) ?ha33 ?hb33 ?hp33 ?hok33 ?hf33 ?cont33
    case ha33 =>
      simp only [go_sem, simprocAttr]
      exact Is.mk
    case hb33 =>
      simp only [go_sem, simprocAttr]
      exact Is.mk
    case hp33 =>
      simp only [go_sem, simprocAttr]
      exact Is.mk
    case hok33 =>
      simp only [go_sem, simprocAttr]
    case hf33 =>
      simp only [go_sem, simprocAttr]
      exact Is.mk
    intro hv33
    simp only [go_sem, simprocAttr]
    first
      | refine hK32 _ _ ?_
      | refine ⟨by first | exact sd, hK32 _ _ ?_⟩
    refine Wp.cond rfl ⟨⟩ (fun hc34 => ?_) (fun hc34 => ?_)
    · have hm := brT hm (by first | exact hc34 | simpa using hc34)
      refine Wp.region fun K35 hK35 => ?_
      simp only [go_sem, simprocAttr]
      first
        | refine hK35 _ _ ?_
        | refine ⟨by first | exact sd, hK35 _ _ ?_⟩
      simp only [thenQ, blockQ, ↓reduceIte]
      refine hW11 _ _ _ _ ?_ (hcut11 4 hm)
      simp only [go_sem, simprocAttr]
      try simp [encB, encI_i64, encI_u8, encS, enc_api_Change, enc_api_File, enc_api_Machine, enc_api_Service, enc_api_Setting, enc_disk_line, List.map_set, List.map_replicate]
    · have hm := brF hm (by first | exact hc34 | simpa using hc34)
      refine Wp.skip ?_
      simp only [thenQ, blockQ, ↓reduceIte]
      refine hW11 _ _ _ _ ?_ (hcut11 r_5 hm)
      simp only [go_sem, simprocAttr]
      try simp [encB, encI_i64, encI_u8, encS, enc_api_Change, enc_api_File, enc_api_Machine, enc_api_Service, enc_api_Setting, enc_disk_line, List.map_set, List.map_replicate]
end Go.Proofs.YtbfemlilfeahkaaDoor
