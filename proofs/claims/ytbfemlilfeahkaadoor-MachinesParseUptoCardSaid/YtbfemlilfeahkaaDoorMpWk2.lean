/- That the code does what the models say (part 2). -/
import Derived.Test.YtbfemlilfeahkaaDoorMpWk1
set_option linter.unusedSimpArgs false
set_option linter.unusedVariables false
namespace Go.Proofs.YtbfemlilfeahkaaDoor
open Go.Vc Go.Md
set_option maxRecDepth 100000 in
set_option maxHeartbeats 4000000 in
theorem ok_disk_readLine (s_1 : Str) (z : disk_line × Bool) (hm : disk_readLine s_1 = some z) : Does Tryd.prog 104 [.p (.s s_1)] [] (fun r X => r = .tup [.agg [.p (.s z.1.word), .p (.s z.1.file.Path), .p (.s z.1.file.Data), .p (.b z.1.file.Runs), .p (.s z.1.setting.Key), .p (.s z.1.setting.Value), .p (.s z.1.service.Name), .p (.s z.1.service.Path), .p (.b z.1.service.Auto), .p (.b z.1.service.On)], .p (.b z.2)] ∧ X = []) := by
  unfold disk_readLine at hm
  refine Does.of_wp 0 147 [.cell 2 92, .tmp 3] Tryd.func104 rfl (by decide) rfl rfl (Nat.le_of_ble_eq_true rfl) fun B => ?_
  refine Wp.seqR fun K1 hK1 => ?_
  simp only [go_sem, simprocAttr]
  first
    | refine hK1 _ _ ?_
    | refine ⟨by first | exact sd, hK1 _ _ ?_⟩
  obtain ⟨r_2, hr_2, hm⟩ := call_elim hm
  refine Wp.seqR fun K2 hK2 => ?_
  simp only [go_sem, simprocAttr]
  try refine ⟨by first | exact sd, ?_⟩
  refine Rg.callX (av := ?av3) (g := true) (fun hg => ok_strings_Cut s_1 ([32] : Str) _ hr_2) ?ha3 ?hb3 ?hp3 ?hok3 ?hf3 ?cont3
  case ha3 =>
    simp only [go_sem, simprocAttr]
    exact Is.mk
  case hb3 =>
    simp only [go_sem, simprocAttr]
    exact Is.mk
  case hp3 =>
    simp only [go_sem, simprocAttr]
    exact Is.mk
  case hok3 =>
    simp only [go_sem, simprocAttr]
  case hf3 =>
    simp only [go_sem, simprocAttr]
    exact Is.mk
  intro hv3
  simp only [go_sem, simprocAttr]
  first
    | refine hK2 _ _ ?_
    | refine ⟨by first | exact sd, hK2 _ _ ?_⟩
  obtain ⟨r_3, hr_3, hm⟩ := call_elim hm
  refine Wp.seqR fun K4 hK4 => ?_
  simp only [go_sem, simprocAttr]
  try refine ⟨by first | exact sd, ?_⟩
  refine Rg.callX (av := ?av5) (g := true) (fun hg => ok_strings_Cut r_2.2.1 ([32] : Str) _ hr_3) ?ha5 ?hb5 ?hp5 ?hok5 ?hf5 ?cont5
  case ha5 =>
    simp only [go_sem, simprocAttr]
    exact Is.mk
  case hb5 =>
    simp only [go_sem, simprocAttr]
    exact Is.mk
  case hp5 =>
    simp only [go_sem, simprocAttr]
    exact Is.mk
  case hok5 =>
    simp only [go_sem, simprocAttr]
  case hf5 =>
    simp only [go_sem, simprocAttr]
    exact Is.mk
  intro hv5
  simp only [go_sem, simprocAttr]
  first
    | refine hK4 _ _ ?_
    | refine ⟨by first | exact sd, hK4 _ _ ?_⟩
  refine Wp.seqW fun K6 hK6 hW6 => ?_
  refine Wp.seqR fun K7 hK7 => ?_
  simp only [go_sem, simprocAttr]
  first
    | refine hK7 _ _ ?_
    | refine ⟨by first | exact sd, hK7 _ _ ?_⟩
  refine Wp.cond rfl ⟨⟩ (fun hc8 => ?_) (fun hc8 => ?_)
  · have hm := brT hm (by first | exact hc8 | simpa using hc8)
    refine Wp.seqR fun K9 hK9 => ?_
    simp only [go_sem, simprocAttr]
    first
      | refine hK9 _ _ ?_
      | refine ⟨by first | exact sd, hK9 _ _ ?_⟩
    refine Wp.ret ?_
    simp only [thenQ, blockQ]
    refine retQ_ret ?_
    cases hm
    simp only [go_sem, simprocAttr]
    try simp [encB, encI_i64, encI_u8, encS, enc_api_File, enc_api_Machine, enc_api_Service, enc_api_Setting, enc_disk_line, List.map_set, List.map_replicate]
  · have hm := brF hm (by first | exact hc8 | simpa using hc8)
    refine Wp.skip ?_
    simp only [thenQ, blockQ, ↓reduceIte]
    refine hK6 _ _ ?_
    refine Wp.seqR fun K10 hK10 => ?_
    simp only [go_sem, simprocAttr]
    first
      | refine hK10 _ _ ?_
      | refine ⟨by first | exact sd, hK10 _ _ ?_⟩
    refine Wp.seqW fun K11 hK11 hW11 => ?_
    refine Wp.seqR fun K12 hK12 => ?_
    simp only [go_sem, simprocAttr]
    first
      | refine hK12 _ _ ?_
      | refine ⟨by first | exact sd, hK12 _ _ ?_⟩
    refine Wp.block ?_
    refine Wp.seqW fun K13 hK13 hW13 => ?_
    obtain ⟨k_5, hk_5, hm⟩ := jp_elim hm
    have hcut13 : ∀ s, k_5 s = some z → K13 [(2, .ptr 0 0), (4, .p (.s r_2.1)), (7, .p (.s r_3.1)), (8, .p (.s r_3.2.1)), (9, .p (.b r_3.2.2)), (10, .ptr 1 0), (37, .p (.s r_2.1)), (38, .p (.b s))] [.cells 92 [.p (.s []), .p (.s []), .p (.s []), .p (.b false), .p (.s []), .p (.s []), .p (.s []), .p (.s []), .p (.b false), .p (.b false)], .cells 92 [.p (.s r_2.1), .p (.s []), .p (.s []), .p (.b false), .p (.s []), .p (.s []), .p (.s []), .p (.s []), .p (.b false), .p (.b false)]] := by
      intro t38_4 hs
      have hm := hk_5 _ hs
      clear hs
      try dsimp only at hm
      try dsimp only
      refine hK13 _ _ ?_
      refine Wp.cond rfl ⟨⟩ (fun hc14 => ?_) (fun hc14 => ?_)
      · have hm := brT hm (by first | exact hc14 | simpa using hc14)
        obtain ⟨r_6, hr_6, hm⟩ := call_elim hm
        refine Wp.seqR fun K15 hK15 => ?_
        simp only [go_sem, simprocAttr]
        try refine ⟨by first | exact sd, ?_⟩
        refine Rg.callX (av := ?av16) (g := true) (fun hg => ok_disk_Unquote r_3.2.1 _ hr_6) ?ha16 ?hb16 ?hp16 ?hok16 ?hf16 ?cont16
        case ha16 =>
          simp only [go_sem, simprocAttr]
          exact Is.mk
        case hb16 =>
          simp only [go_sem, simprocAttr]
          exact Is.mk
        case hp16 =>
          simp only [go_sem, simprocAttr]
          exact Is.mk
        case hok16 =>
          simp only [go_sem, simprocAttr]
        case hf16 =>
          simp only [go_sem, simprocAttr]
          exact Is.mk
        intro hv16
        simp only [go_sem, simprocAttr]
        first
          | refine hK15 _ _ ?_
          | refine ⟨by first | exact sd, hK15 _ _ ?_⟩
        refine Wp.seqR fun K17 hK17 => ?_
        simp only [go_sem, simprocAttr]
        first
          | refine hK17 _ _ ?_
          | refine ⟨by first | exact sd, hK17 _ _ ?_⟩
        refine Wp.seqR fun K18 hK18 => ?_
        simp only [go_sem, simprocAttr]
        first
          | refine hK18 _ _ ?_
          | refine ⟨by first | exact sd, hK18 _ _ ?_⟩
        refine Wp.ret ?_
        simp only [thenQ, blockQ]
        refine retQ_ret ?_
        cases hm
        simp only [go_sem, simprocAttr]
        try simp [encB, encI_i64, encI_u8, encS, enc_api_File, enc_api_Machine, enc_api_Service, enc_api_Setting, enc_disk_line, List.map_set, List.map_replicate]
      · have hm := brF hm (by first | exact hc14 | simpa using hc14)
        refine Wp.seqW fun K19 hK19 hW19 => ?_
        obtain ⟨k_8, hk_8, hm⟩ := jp_elim hm
        have hcut19 : ∀ s, k_8 s = some z → K19 [(2, .ptr 0 0), (4, .p (.s r_2.1)), (7, .p (.s r_3.1)), (8, .p (.s r_3.2.1)), (9, .p (.b r_3.2.2)), (10, .ptr 1 0), (37, .p (.s r_2.1)), (56, .p (.b s))] [.cells 92 [.p (.s []), .p (.s []), .p (.s []), .p (.b false), .p (.s []), .p (.s []), .p (.s []), .p (.s []), .p (.b false), .p (.b false)], .cells 92 [.p (.s r_2.1), .p (.s []), .p (.s []), .p (.b false), .p (.s []), .p (.s []), .p (.s []), .p (.s []), .p (.b false), .p (.b false)]] := by
          intro t56_7 hs
          have hm := hk_8 _ hs
          clear hs
          try dsimp only at hm
          try dsimp only
          refine hK19 _ _ ?_
          refine Wp.cond rfl ⟨⟩ (fun hc20 => ?_) (fun hc20 => ?_)
          · have hm := brT hm (by first | exact hc20 | simpa using hc20)
            obtain ⟨r_9, hr_9, hm⟩ := call_elim hm
            refine Wp.seqR fun K21 hK21 => ?_
            simp only [go_sem, simprocAttr]
            try refine ⟨by first | exact sd, ?_⟩
            refine Rg.callX (av := ?av22) (g := true) (fun hg => ok_disk_Unquote r_3.2.1 _ hr_9) ?ha22 ?hb22 ?hp22 ?hok22 ?hf22 ?cont22
            case ha22 =>
              simp only [go_sem, simprocAttr]
              exact Is.mk
            case hb22 =>
              simp only [go_sem, simprocAttr]
              exact Is.mk
            case hp22 =>
              simp only [go_sem, simprocAttr]
              exact Is.mk
            case hok22 =>
              simp only [go_sem, simprocAttr]
            case hf22 =>
              simp only [go_sem, simprocAttr]
              exact Is.mk
            intro hv22
            simp only [go_sem, simprocAttr]
            first
              | refine hK21 _ _ ?_
              | refine ⟨by first | exact sd, hK21 _ _ ?_⟩
            refine Wp.seqR fun K23 hK23 => ?_
            simp only [go_sem, simprocAttr]
            first
              | refine hK23 _ _ ?_
              | refine ⟨by first | exact sd, hK23 _ _ ?_⟩
            refine Wp.seqR fun K24 hK24 => ?_
            simp only [go_sem, simprocAttr]
            first
              | refine hK24 _ _ ?_
              | refine ⟨by first | exact sd, hK24 _ _ ?_⟩
            refine Wp.ret ?_
            simp only [thenQ, blockQ]
            refine retQ_ret ?_
            cases hm
            simp only [go_sem, simprocAttr]
            try simp [encB, encI_i64, encI_u8, encS, enc_api_File, enc_api_Machine, enc_api_Service, enc_api_Setting, enc_disk_line, List.map_set, List.map_replicate]
          · have hm := brF hm (by first | exact hc20 | simpa using hc20)
            refine Wp.seqR fun K25 hK25 => ?_
            simp only [go_sem, simprocAttr]
            first
              | refine hK25 _ _ ?_
              | refine ⟨by first | exact sd, hK25 _ _ ?_⟩
            refine Wp.cond rfl ⟨⟩ (fun hc26 => ?_) (fun hc26 => ?_)
            · have hm := brT hm (by first | exact hc26 | simpa using hc26)
              obtain ⟨r_10, hr_10, hm⟩ := call_elim hm
              refine Wp.seqR fun K27 hK27 => ?_
              simp only [go_sem, simprocAttr]
              try refine ⟨by first | exact sd, ?_⟩
              refine Rg.callF (av := ?av28) (ok_strings_Split r_3.2.1 ([32] : Str) _ hr_10) ?ha28 ?hp28 ?hok28 ?cont28
              case ha28 =>
                simp only [go_sem, simprocAttr]
                exact Is.mk
              case hp28 =>
                simp only [go_sem, simprocAttr]
                exact Is.mk
              case hok28 =>
                simp only [go_sem, simprocAttr]
              intro hv28
              simp only [go_sem, simprocAttr]
              first
                | refine hK27 _ _ ?_
                | refine ⟨by first | exact sd, hK27 _ _ ?_⟩
              refine Wp.seqW fun K29 hK29 hW29 => ?_
              obtain ⟨c_11, hm⟩ := chk_elim hm
              obtain ⟨c_12, hm⟩ := chk_elim hm
              obtain ⟨r_13, hr_13, hm⟩ := callG_elim hm
              obtain ⟨c_14, hm⟩ := chk_elim hm
              obtain ⟨r_15, hr_15, hm⟩ := callG_elim hm
              have hr_16 := getD_enc (l := r_10) (e := encS) (d := []) (i := 0)
              simp only [encS, List.map_nil] at hr_16
              have hr_17 := getD_enc (l := r_10) (e := encS) (d := []) (i := 1)
              simp only [encS, List.map_nil] at hr_17
              have hr_18 := getD_enc (l := r_10) (e := encS) (d := []) (i := 2)
              simp only [encS, List.map_nil] at hr_18
              refine Wp.seqR fun K30 hK30 => ?_
              simp only [go_sem, simprocAttr, hr_16, hr_17, hr_18]
              try refine ⟨by first | exact sd | ((repeat' apply And.intro) <;> first | assumption | omega | (simp only [List.length_append, List.length_map, List.length_cons, List.length_nil, List.length_set, List.length_replicate] at c_11 c_12 c_14 ⊢; omega)), ?_⟩
              refine Rg.callX (av := ?av31) (g := !(((!r_3.2.2) || (!decide ((r_10.length : Int) = 3))) || (decide ((r_10.getD 0 []) = [])))) (fun hg => ok_disk_isBit (r_10.getD 1 []) _ (hr_13 hg)) ?ha31 ?hb31 ?hp31 ?hok31 ?hf31 ?cont31
              case ha31 =>
                simp only [go_sem, simprocAttr, hr_16, hr_17, hr_18]
                exact Is.mk
              case hb31 =>
                simp only [go_sem, simprocAttr, hr_16, hr_17, hr_18]
                exact Is.mk
              case hp31 =>
                simp only [go_sem, simprocAttr, hr_16, hr_17, hr_18]
                exact Is.mk
              case hok31 =>
                simp only [go_sem, simprocAttr, hr_16, hr_17, hr_18]
              case hf31 =>
                simp only [go_sem, simprocAttr, hr_16, hr_17, hr_18]
                exact Is.mk
              intro hv31
              simp only [go_sem, simprocAttr, hr_16, hr_17, hr_18]
              try refine ⟨by first | exact sd | ((repeat' apply And.intro) <;> first | assumption | omega | (simp only [List.length_append, List.length_map, List.length_cons, List.length_nil, List.length_set, List.length_replicate] at c_11 c_12 c_14 ⊢; omega)), ?_⟩
              refine Rg.callX (av := ?av32) (g := !((((!r_3.2.2) || (!decide ((r_10.length : Int) = 3))) || (decide ((r_10.getD 0 []) = []))) || (!r_13))) (fun hg => ok_disk_isBit (r_10.getD 2 []) _ (hr_15 hg)) ?ha32 ?hb32 ?hp32 ?hok32 ?hf32 ?cont32
              case ha32 =>
                simp only [go_sem, simprocAttr, hr_16, hr_17, hr_18]
                exact Is.mk
              case hb32 =>
                simp only [go_sem, simprocAttr, hr_16, hr_17, hr_18]
                exact Is.mk
              case hp32 =>
                simp only [go_sem, simprocAttr, hr_16, hr_17, hr_18]
                exact Is.mk
              case hok32 =>
                simp only [go_sem, simprocAttr, hr_16, hr_17, hr_18]
              case hf32 =>
                simp only [go_sem, simprocAttr, hr_16, hr_17, hr_18]
                exact Is.mk
              intro hv32
              simp only [go_sem, simprocAttr, hr_16, hr_17, hr_18]
              first
                | refine hK30 _ _ ?_
                | refine ⟨by first | exact sd | ((repeat' apply And.intro) <;> first | assumption | omega | (simp only [List.length_append, List.length_map, List.length_cons, List.length_nil, List.length_set, List.length_replicate] at c_11 c_12 c_14 ⊢; omega)), hK30 _ _ ?_⟩
              refine Wp.cond rfl ⟨⟩ (fun hc33 => ?_) (fun hc33 => ?_)
              · have hm := brT hm (by first | exact hc33 | simpa using hc33)
                refine Wp.seqR fun K34 hK34 => ?_
                simp only [go_sem, simprocAttr]
                first
                  | refine hK34 _ _ ?_
                  | refine ⟨by first | exact sd, hK34 _ _ ?_⟩
                refine Wp.ret ?_
                simp only [thenQ, blockQ]
                refine retQ_ret ?_
                cases hm
                simp only [go_sem, simprocAttr]
                try simp [encB, encI_i64, encI_u8, encS, enc_api_File, enc_api_Machine, enc_api_Service, enc_api_Setting, enc_disk_line, List.map_set, List.map_replicate]
              · have hm := brF hm (by first | exact hc33 | simpa using hc33)
                refine Wp.skip ?_
                simp only [thenQ, blockQ, ↓reduceIte]
                refine hK29 _ _ ?_
                obtain ⟨s_19, hbs_19, hxs_19, hys_19, hm⟩ := idx_elim hm
                replace hxs_19 : ∀ d, (List.map encS r_10).getD 0 d = encS s_19 := hxs_19 encS
                obtain ⟨s_20, hbs_20, hxs_20, hys_20, hm⟩ := idx_elim hm
                replace hxs_20 : ∀ d, (List.map encS r_10).getD 1 d = encS s_20 := hxs_20 encS
                obtain ⟨s_21, hbs_21, hxs_21, hys_21, hm⟩ := idx_elim hm
                replace hxs_21 : ∀ d, (List.map encS r_10).getD 2 d = encS s_21 := hxs_21 encS
                refine Wp.seqD (plan := [(0, none), (1, none), (2, none), (3, none), (4, none), (5, none), (6, none), (7, none), (8, none), (9, none), (10, none), (11, none), (12, none), (13, none), (14, some [])]) (by kernel_rfl) rfl (by kernel_rfl) fun K35 hK35 => ?_
                simp only [go_sem, simprocAttr, hxs_19, hxs_20, hxs_21]
                first
                  | refine hK35 _ _ ?_
                  | refine ⟨by first | exact sd, hK35 _ _ ?_⟩
                refine Wp.seqR fun K36 hK36 => ?_
                simp only [go_sem, simprocAttr, hxs_19, hxs_20, hxs_21]
                first
                  | refine hK36 _ _ ?_
                  | refine ⟨by first | exact sd, hK36 _ _ ?_⟩
                refine Wp.ret ?_
                simp only [thenQ, blockQ]
                refine retQ_ret ?_
                cases hm
                simp only [go_sem, simprocAttr, hxs_19, hxs_20, hxs_21]
                try simp [encB, encI_i64, encI_u8, encS, enc_api_File, enc_api_Machine, enc_api_Service, enc_api_Setting, enc_disk_line, List.map_set, List.map_replicate]
            · have hm := brF hm (by first | exact hc26 | simpa using hc26)
              refine Wp.seqR fun K37 hK37 => ?_
              simp only [go_sem, simprocAttr]
              first
                | refine hK37 _ _ ?_
                | refine ⟨by first | exact sd, hK37 _ _ ?_⟩
              refine Wp.cond rfl ⟨⟩ (fun hc38 => ?_) (fun hc38 => ?_)
              · have hm := brT hm (by first | exact hc38 | simpa using hc38)
                refine Wp.region fun K39 hK39 => ?_
                simp only [go_sem, simprocAttr]
                first
                  | refine hK39 _ _ ?_
                  | refine ⟨by first | exact sd, hK39 _ _ ?_⟩
                simp only [thenQ, blockQ, ↓reduceIte]
                refine hK11 _ _ ?_
                refine Wp.seqR fun K40 hK40 => ?_
                simp only [go_sem, simprocAttr]
                first
                  | refine hK40 _ _ ?_
                  | refine ⟨by first | exact sd, hK40 _ _ ?_⟩
                refine Wp.ret ?_
                refine retQ_ret ?_
                cases hm
                simp only [go_sem, simprocAttr]
                try simp [encB, encI_i64, encI_u8, encS, enc_api_File, enc_api_Machine, enc_api_Service, enc_api_Setting, enc_disk_line, List.map_set, List.map_replicate]
              · have hm := brF hm (by first | exact hc38 | simpa using hc38)
                refine Wp.seqR fun K41 hK41 => ?_
                simp only [go_sem, simprocAttr]
                first
                  | refine hK41 _ _ ?_
                  | refine ⟨by first | exact sd, hK41 _ _ ?_⟩
                refine Wp.cond rfl ⟨⟩ (fun hc42 => ?_) (fun hc42 => ?_)
                · have hm := brT hm (by first | exact hc42 | simpa using hc42)
                  refine Wp.region fun K43 hK43 => ?_
                  simp only [go_sem, simprocAttr]
                  first
                    | refine hK43 _ _ ?_
                    | refine ⟨by first | exact sd, hK43 _ _ ?_⟩
                  simp only [thenQ, blockQ, ↓reduceIte]
                  refine hK11 _ _ ?_
                  refine Wp.seqR fun K44 hK44 => ?_
                  simp only [go_sem, simprocAttr]
                  first
                    | refine hK44 _ _ ?_
                    | refine ⟨by first | exact sd, hK44 _ _ ?_⟩
                  refine Wp.ret ?_
                  refine retQ_ret ?_
                  cases hm
                  simp only [go_sem, simprocAttr]
                  try simp [encB, encI_i64, encI_u8, encS, enc_api_File, enc_api_Machine, enc_api_Service, enc_api_Setting, enc_disk_line, List.map_set, List.map_replicate]
                · have hm := brF hm (by first | exact hc42 | simpa using hc42)
                  refine Wp.seqR fun K45 hK45 => ?_
                  simp only [go_sem, simprocAttr]
                  first
                    | refine hK45 _ _ ?_
                    | refine ⟨by first | exact sd, hK45 _ _ ?_⟩
                  refine Wp.cond rfl ⟨⟩ (fun hc46 => ?_) (fun hc46 => ?_)
                  · have hm := brT hm (by first | exact hc46 | simpa using hc46)
                    refine Wp.region fun K47 hK47 => ?_
                    simp only [go_sem, simprocAttr]
                    first
                      | refine hK47 _ _ ?_
                      | refine ⟨by first | exact sd, hK47 _ _ ?_⟩
                    simp only [thenQ, blockQ, ↓reduceIte]
                    refine hK11 _ _ ?_
                    refine Wp.seqR fun K48 hK48 => ?_
                    simp only [go_sem, simprocAttr]
                    first
                      | refine hK48 _ _ ?_
                      | refine ⟨by first | exact sd, hK48 _ _ ?_⟩
                    refine Wp.ret ?_
                    refine retQ_ret ?_
                    cases hm
                    simp only [go_sem, simprocAttr]
                    try simp [encB, encI_i64, encI_u8, encS, enc_api_File, enc_api_Machine, enc_api_Service, enc_api_Setting, enc_disk_line, List.map_set, List.map_replicate]
                  · have hm := brF hm (by first | exact hc46 | simpa using hc46)
                    refine Wp.skip ?_
                    simp only [thenQ, blockQ, ↓reduceIte]
                    refine hK11 _ _ ?_
                    refine Wp.seqR fun K49 hK49 => ?_
                    simp only [go_sem, simprocAttr]
                    first
                      | refine hK49 _ _ ?_
                      | refine ⟨by first | exact sd, hK49 _ _ ?_⟩
                    refine Wp.ret ?_
                    refine retQ_ret ?_
                    cases hm
                    simp only [go_sem, simprocAttr]
                    try simp [encB, encI_i64, encI_u8, encS, enc_api_File, enc_api_Machine, enc_api_Service, enc_api_Setting, enc_disk_line, List.map_set, List.map_replicate]
        clear hK19 hk_8
        refine Wp.seqR fun K50 hK50 => ?_
        simp only [go_sem, simprocAttr]
        first
          | refine hK50 _ _ ?_
          | refine ⟨by first | exact sd, hK50 _ _ ?_⟩
        refine Wp.cond rfl ⟨⟩ (fun hc51 => ?_) (fun hc51 => ?_)
        · have hm := brT hm (by first | exact hc51 | simpa using hc51)
          refine Wp.skip ?_
          simp only [thenQ, blockQ, ↓reduceIte]
          refine hW19 _ _ _ _ ?_ (hcut19 (decide (r_2.1 = ([102, 105, 108, 101] : Str))) hm)
          simp only [go_sem, simprocAttr]
          try simp [encB, encI_i64, encI_u8, encS, enc_api_File, enc_api_Machine, enc_api_Service, enc_api_Setting, enc_disk_line, List.map_set, List.map_replicate]
        · have hm := brF hm (by first | exact hc51 | simpa using hc51)
          refine Wp.seqR fun K52 hK52 => ?_
          simp only [go_sem, simprocAttr]
          first
            | refine hK52 _ _ ?_
            | refine ⟨by first | exact sd, hK52 _ _ ?_⟩
          refine Wp.cond rfl ⟨⟩ (fun hc53 => ?_) (fun hc53 => ?_)
          · have hm := brT hm (by first | exact hc53 | simpa using hc53)
            refine Wp.skip ?_
            simp only [thenQ, blockQ, ↓reduceIte]
            refine hW19 _ _ _ _ ?_ (hcut19 (decide (r_2.1 = ([114, 117, 110] : Str))) hm)
            simp only [go_sem, simprocAttr]
            try simp [encB, encI_i64, encI_u8, encS, enc_api_File, enc_api_Machine, enc_api_Service, enc_api_Setting, enc_disk_line, List.map_set, List.map_replicate]
          · have hm := brF hm (by first | exact hc53 | simpa using hc53)
            refine Wp.seqR fun K54 hK54 => ?_
            simp only [go_sem, simprocAttr]
            first
              | refine hK54 _ _ ?_
              | refine ⟨by first | exact sd, hK54 _ _ ?_⟩
            refine Wp.cond rfl ⟨⟩ (fun hc55 => ?_) (fun hc55 => ?_)
            · have hm := brT hm (by first | exact hc55 | simpa using hc55)
              refine Wp.skip ?_
              simp only [thenQ, blockQ, ↓reduceIte]
              refine hW19 _ _ _ _ ?_ (hcut19 (decide (r_2.1 = ([112, 117, 116] : Str))) hm)
              simp only [go_sem, simprocAttr]
              try simp [encB, encI_i64, encI_u8, encS, enc_api_File, enc_api_Machine, enc_api_Service, enc_api_Setting, enc_disk_line, List.map_set, List.map_replicate]
            · have hm := brF hm (by first | exact hc55 | simpa using hc55)
              refine Wp.region fun K56 hK56 => ?_
              simp only [go_sem, simprocAttr]
              first
                | refine hK56 _ _ ?_
                | refine ⟨by first | exact sd, hK56 _ _ ?_⟩
              simp only [thenQ, blockQ, ↓reduceIte]
              refine hW19 _ _ _ _ ?_ (hcut19 (decide (r_2.1 = ([112, 117, 116, 114, 117, 110] : Str))) hm)
              simp only [go_sem, simprocAttr]
              try simp [encB, encI_i64, encI_u8, encS, enc_api_File, enc_api_Machine, enc_api_Service, enc_api_Setting, enc_disk_line, List.map_set, List.map_replicate]
    clear hK13 hk_5
    refine Wp.seqR fun K57 hK57 => ?_
    simp only [go_sem, simprocAttr]
    first
      | refine hK57 _ _ ?_
      | refine ⟨by first | exact sd, hK57 _ _ ?_⟩
    refine Wp.cond rfl ⟨⟩ (fun hc58 => ?_) (fun hc58 => ?_)
    · have hm := brT hm (by first | exact hc58 | simpa using hc58)
      refine Wp.skip ?_
      simp only [thenQ, blockQ, ↓reduceIte]
      refine hW13 _ _ _ _ ?_ (hcut13 (decide (r_2.1 = ([102, 97, 99, 116] : Str))) hm)
      simp only [go_sem, simprocAttr]
      try simp [encB, encI_i64, encI_u8, encS, enc_api_File, enc_api_Machine, enc_api_Service, enc_api_Setting, enc_disk_line, List.map_set, List.map_replicate]
    · have hm := brF hm (by first | exact hc58 | simpa using hc58)
      refine Wp.region fun K59 hK59 => ?_
      simp only [go_sem, simprocAttr]
      first
        | refine hK59 _ _ ?_
        | refine ⟨by first | exact sd, hK59 _ _ ?_⟩
      simp only [thenQ, blockQ, ↓reduceIte]
      refine hW13 _ _ _ _ ?_ (hcut13 (decide (r_2.1 = ([115, 101, 116] : Str))) hm)
      simp only [go_sem, simprocAttr]
      try simp [encB, encI_i64, encI_u8, encS, enc_api_File, enc_api_Machine, enc_api_Service, enc_api_Setting, enc_disk_line, List.map_set, List.map_replicate]
set_option maxRecDepth 100000 in
set_option maxHeartbeats 4000000 in
theorem ok_disk_rank (word_1 : Str) (z : Int) (hm : disk_rank word_1 = some z) : Does Tryd.prog 60 [.p (.s word_1)] [] (fun r X => r = .p (.i .i64 z) ∧ X = []) := by
  unfold disk_rank at hm
  refine Does.of_wp 0 13 [.tmp 2] Tryd.func60 rfl (by decide) rfl rfl (Nat.le_of_ble_eq_true rfl) fun B => ?_
  refine Wp.seqR fun K1 hK1 => ?_
  simp only [go_sem, simprocAttr]
  first
    | refine hK1 _ _ ?_
    | refine ⟨by first | exact sd, hK1 _ _ ?_⟩
  refine Wp.seqW fun K2 hK2 hW2 => ?_
  refine Wp.seqR fun K3 hK3 => ?_
  simp only [go_sem, simprocAttr]
  first
    | refine hK3 _ _ ?_
    | refine ⟨by first | exact sd, hK3 _ _ ?_⟩
  refine Wp.block ?_
  refine Wp.seqR fun K4 hK4 => ?_
  simp only [go_sem, simprocAttr]
  first
    | refine hK4 _ _ ?_
    | refine ⟨by first | exact sd, hK4 _ _ ?_⟩
  refine Wp.cond rfl ⟨⟩ (fun hc5 => ?_) (fun hc5 => ?_)
  · have hm := brT hm (by first | exact hc5 | simpa using hc5)
    refine Wp.seqR fun K6 hK6 => ?_
    simp only [go_sem, simprocAttr]
    first
      | refine hK6 _ _ ?_
      | refine ⟨by first | exact sd, hK6 _ _ ?_⟩
    refine Wp.ret ?_
    simp only [thenQ, blockQ]
    refine retQ_ret ?_
    cases hm
    simp only [go_sem, simprocAttr]
    try simp [encB, encI_i64, encI_u8, encS, enc_api_File, enc_api_Machine, enc_api_Service, enc_api_Setting, enc_disk_line, List.map_set, List.map_replicate]
  · have hm := brF hm (by first | exact hc5 | simpa using hc5)
    refine Wp.seqW fun K7 hK7 hW7 => ?_
    obtain ⟨k_3, hk_3, hm⟩ := jp_elim hm
    have hcut7 : ∀ s, k_3 s = some z → K7 [(3, .p (.s word_1)), (6, .p (.b s))] [] := by
      intro t6_2 hs
      have hm := hk_3 _ hs
      clear hs
      try dsimp only at hm
      try dsimp only
      refine hK7 _ _ ?_
      refine Wp.cond rfl ⟨⟩ (fun hc8 => ?_) (fun hc8 => ?_)
      · have hm := brT hm (by first | exact hc8 | simpa using hc8)
        refine Wp.seqR fun K9 hK9 => ?_
        simp only [go_sem, simprocAttr]
        first
          | refine hK9 _ _ ?_
          | refine ⟨by first | exact sd, hK9 _ _ ?_⟩
        refine Wp.ret ?_
        simp only [thenQ, blockQ]
        refine retQ_ret ?_
        cases hm
        simp only [go_sem, simprocAttr]
        try simp [encB, encI_i64, encI_u8, encS, enc_api_File, enc_api_Machine, enc_api_Service, enc_api_Setting, enc_disk_line, List.map_set, List.map_replicate]
      · have hm := brF hm (by first | exact hc8 | simpa using hc8)
        refine Wp.seqR fun K10 hK10 => ?_
        simp only [go_sem, simprocAttr]
        first
          | refine hK10 _ _ ?_
          | refine ⟨by first | exact sd, hK10 _ _ ?_⟩
        refine Wp.cond rfl ⟨⟩ (fun hc11 => ?_) (fun hc11 => ?_)
        · have hm := brT hm (by first | exact hc11 | simpa using hc11)
          refine Wp.seqR fun K12 hK12 => ?_
          simp only [go_sem, simprocAttr]
          first
            | refine hK12 _ _ ?_
            | refine ⟨by first | exact sd, hK12 _ _ ?_⟩
          refine Wp.ret ?_
          simp only [thenQ, blockQ]
          refine retQ_ret ?_
          cases hm
          simp only [go_sem, simprocAttr]
          try simp [encB, encI_i64, encI_u8, encS, enc_api_File, enc_api_Machine, enc_api_Service, enc_api_Setting, enc_disk_line, List.map_set, List.map_replicate]
        · have hm := brF hm (by first | exact hc11 | simpa using hc11)
          refine Wp.seqR fun K13 hK13 => ?_
          simp only [go_sem, simprocAttr]
          first
            | refine hK13 _ _ ?_
            | refine ⟨by first | exact sd, hK13 _ _ ?_⟩
          refine Wp.cond rfl ⟨⟩ (fun hc14 => ?_) (fun hc14 => ?_)
          · have hm := brT hm (by first | exact hc14 | simpa using hc14)
            refine Wp.seqR fun K15 hK15 => ?_
            simp only [go_sem, simprocAttr]
            first
              | refine hK15 _ _ ?_
              | refine ⟨by first | exact sd, hK15 _ _ ?_⟩
            refine Wp.ret ?_
            simp only [thenQ, blockQ]
            refine retQ_ret ?_
            cases hm
            simp only [go_sem, simprocAttr]
            try simp [encB, encI_i64, encI_u8, encS, enc_api_File, enc_api_Machine, enc_api_Service, enc_api_Setting, enc_disk_line, List.map_set, List.map_replicate]
          · have hm := brF hm (by first | exact hc14 | simpa using hc14)
            refine Wp.skip ?_
            simp only [thenQ, blockQ, ↓reduceIte]
            refine hK2 _ _ ?_
            refine Wp.seqR fun K16 hK16 => ?_
            simp only [go_sem, simprocAttr]
            first
              | refine hK16 _ _ ?_
              | refine ⟨by first | exact sd, hK16 _ _ ?_⟩
            refine Wp.ret ?_
            refine retQ_ret ?_
            cases hm
            simp only [go_sem, simprocAttr]
            try simp [encB, encI_i64, encI_u8, encS, enc_api_File, enc_api_Machine, enc_api_Service, enc_api_Setting, enc_disk_line, List.map_set, List.map_replicate]
    clear hK7 hk_3
    refine Wp.seqR fun K17 hK17 => ?_
    simp only [go_sem, simprocAttr]
    first
      | refine hK17 _ _ ?_
      | refine ⟨by first | exact sd, hK17 _ _ ?_⟩
    refine Wp.cond rfl ⟨⟩ (fun hc18 => ?_) (fun hc18 => ?_)
    · have hm := brT hm (by first | exact hc18 | simpa using hc18)
      refine Wp.skip ?_
      simp only [thenQ, blockQ, ↓reduceIte]
      refine hW7 _ _ _ _ ?_ (hcut7 (decide (word_1 = ([102, 105, 108, 101] : Str))) hm)
      simp only [go_sem, simprocAttr]
      try simp [encB, encI_i64, encI_u8, encS, enc_api_File, enc_api_Machine, enc_api_Service, enc_api_Setting, enc_disk_line, List.map_set, List.map_replicate]
    · have hm := brF hm (by first | exact hc18 | simpa using hc18)
      refine Wp.region fun K19 hK19 => ?_
      simp only [go_sem, simprocAttr]
      first
        | refine hK19 _ _ ?_
        | refine ⟨by first | exact sd, hK19 _ _ ?_⟩
      simp only [thenQ, blockQ, ↓reduceIte]
      refine hW7 _ _ _ _ ?_ (hcut7 (decide (word_1 = ([114, 117, 110] : Str))) hm)
      simp only [go_sem, simprocAttr]
      try simp [encB, encI_i64, encI_u8, encS, enc_api_File, enc_api_Machine, enc_api_Service, enc_api_Setting, enc_disk_line, List.map_set, List.map_replicate]
set_option maxRecDepth 100000 in
set_option maxHeartbeats 4000000 in
theorem ok_disk_Parse_1_i1 (x_1 : disk_line) (o0_0_2 : Int) (o2_3 : List api_Setting) (o3_4 : List api_File) (o4_5 : List api_Setting) (o5_6 : List api_Service) (z : Bool × Int × List api_Setting × List api_File × List api_Setting × List api_Service) (hm : disk_Parse_1_i1 x_1 o0_0_2 o2_3 o3_4 o4_5 o5_6 = some z) : Does Tryd.prog 59 [.agg [.p (.s x_1.word), .p (.s x_1.file.Path), .p (.s x_1.file.Data), .p (.b x_1.file.Runs), .p (.s x_1.setting.Key), .p (.s x_1.setting.Value), .p (.s x_1.service.Name), .p (.s x_1.service.Path), .p (.b x_1.service.Auto), .p (.b x_1.service.On)], .ptr 0 0, .ptr 1 0] [.cells 3 [.p (.i .i64 o0_0_2)], .cells 26 [.buf 2, .buf 3, .buf 4, .buf 5], .buf 51 2 (List.map enc_api_Setting o2_3), .buf 49 3 (List.map enc_api_File o3_4), .buf 51 2 (List.map enc_api_Setting o4_5), .buf 53 4 (List.map enc_api_Service o5_6)] (fun r X => r = .p (.b z.1) ∧ X = [.cells 3 [.p (.i .i64 z.2.1)], .cells 26 [.buf 2, .buf 3, .buf 4, .buf 5], .buf 51 2 (List.map enc_api_Setting z.2.2.1), .buf 49 3 (List.map enc_api_File z.2.2.2.1), .buf 51 2 (List.map enc_api_Setting z.2.2.2.2.1), .buf 53 4 (List.map enc_api_Service z.2.2.2.2.2)]) := by
  unfold disk_Parse_1_i1 at hm
  refine Does.of_wp 6 48 [.tmp 4] Tryd.func59 rfl (by decide) rfl rfl (Nat.le_of_ble_eq_true rfl) fun B => ?_
  refine Wp.seqR fun K1 hK1 => ?_
  simp only [go_sem, simprocAttr]
  first
    | refine hK1 _ _ ?_
    | refine ⟨by first | exact sd, hK1 _ _ ?_⟩
  obtain ⟨r_12, hr_12, hm⟩ := call_elim hm
  refine Wp.seqR fun K2 hK2 => ?_
  simp only [go_sem, simprocAttr]
  try refine ⟨by first | exact sd, ?_⟩
  refine Rg.callX (av := ?av3) (g := true) (fun hg => ok_disk_rank x_1.word _ hr_12) ?ha3 ?hb3 ?hp3 ?hok3 ?hf3 ?cont3
  case ha3 =>
    simp only [go_sem, simprocAttr]
    exact Is.mk
  case hb3 =>
    simp only [go_sem, simprocAttr]
    exact Is.mk
  case hp3 =>
    simp only [go_sem, simprocAttr]
    exact Is.mk
  case hok3 =>
    simp only [go_sem, simprocAttr]
  case hf3 =>
    simp only [go_sem, simprocAttr]
    exact Is.mk
  intro hv3
  simp only [go_sem, simprocAttr]
  first
    | refine hK2 _ _ ?_
    | refine ⟨by first | exact sd, hK2 _ _ ?_⟩
  refine Wp.seqW fun K4 hK4 hW4 => ?_
  refine Wp.seqR fun K5 hK5 => ?_
  simp only [go_sem, simprocAttr]
  first
    | refine hK5 _ _ ?_
    | refine ⟨by first | exact sd, hK5 _ _ ?_⟩
  refine Wp.cond rfl ⟨⟩ (fun hc6 => ?_) (fun hc6 => ?_)
  · have hm := brT hm (by first | exact hc6 | simpa using hc6)
    refine Wp.seqR fun K7 hK7 => ?_
    simp only [go_sem, simprocAttr]
    first
      | refine hK7 _ _ ?_
      | refine ⟨by first | exact sd, hK7 _ _ ?_⟩
    refine Wp.ret ?_
    simp only [thenQ, blockQ]
    refine retQ_ret ?_
    cases hm
    simp only [go_sem, simprocAttr]
    try simp [encB, encI_i64, encI_u8, encS, enc_api_File, enc_api_Machine, enc_api_Service, enc_api_Setting, enc_disk_line, List.map_set, List.map_replicate]
  · have hm := brF hm (by first | exact hc6 | simpa using hc6)
    refine Wp.skip ?_
    simp only [thenQ, blockQ, ↓reduceIte]
    refine hK4 _ _ ?_
    refine Wp.seqR fun K8 hK8 => ?_
    simp only [go_sem, simprocAttr]
    first
      | refine hK8 _ _ ?_
      | refine ⟨by first | exact sd, hK8 _ _ ?_⟩
    refine Wp.seqW fun K9 hK9 hW9 => ?_
    refine Wp.seqR fun K10 hK10 => ?_
    simp only [go_sem, simprocAttr]
    first
      | refine hK10 _ _ ?_
      | refine ⟨by first | exact sd, hK10 _ _ ?_⟩
    refine Wp.block ?_
    refine Wp.seqR fun K11 hK11 => ?_
    simp only [go_sem, simprocAttr]
    first
      | refine hK11 _ _ ?_
      | refine ⟨by first | exact sd, hK11 _ _ ?_⟩
    refine Wp.cond rfl ⟨⟩ (fun hc12 => ?_) (fun hc12 => ?_)
    · have hm := brT hm (by first | exact hc12 | simpa using hc12)
      obtain ⟨c_13, hm⟩ := chk_elim hm
      refine Wp.region fun K13 hK13 => ?_
      simp only [go_sem, simprocAttr]
      first
        | refine hK13 _ _ ?_
        | refine ⟨by first | exact sd | ((repeat' apply And.intro) <;> first | assumption | omega | (simp only [List.length_append, List.length_map, List.length_cons, List.length_nil, List.length_set, List.length_replicate] at c_13 ⊢; omega)), hK13 _ _ ?_⟩
      simp only [thenQ, blockQ, ↓reduceIte]
      refine hK9 _ _ ?_
      refine Wp.seqR fun K14 hK14 => ?_
      simp only [go_sem, simprocAttr]
      first
        | refine hK14 _ _ ?_
        | refine ⟨by first | exact sd, hK14 _ _ ?_⟩
      refine Wp.ret ?_
      refine retQ_ret ?_
      cases hm
      simp only [go_sem, simprocAttr]
      try simp [encB, encI_i64, encI_u8, encS, enc_api_File, enc_api_Machine, enc_api_Service, enc_api_Setting, enc_disk_line, List.map_set, List.map_replicate]
    · have hm := brF hm (by first | exact hc12 | simpa using hc12)
      refine Wp.seqR fun K15 hK15 => ?_
      simp only [go_sem, simprocAttr]
      first
        | refine hK15 _ _ ?_
        | refine ⟨by first | exact sd, hK15 _ _ ?_⟩
      refine Wp.cond rfl ⟨⟩ (fun hc16 => ?_) (fun hc16 => ?_)
      · have hm := brT hm (by first | exact hc16 | simpa using hc16)
        obtain ⟨c_14, hm⟩ := chk_elim hm
        refine Wp.region fun K17 hK17 => ?_
        simp only [go_sem, simprocAttr]
        first
          | refine hK17 _ _ ?_
          | refine ⟨by first | exact sd | ((repeat' apply And.intro) <;> first | assumption | omega | (simp only [List.length_append, List.length_map, List.length_cons, List.length_nil, List.length_set, List.length_replicate] at c_14 ⊢; omega)), hK17 _ _ ?_⟩
        simp only [thenQ, blockQ, ↓reduceIte]
        refine hK9 _ _ ?_
        refine Wp.seqR fun K18 hK18 => ?_
        simp only [go_sem, simprocAttr]
        first
          | refine hK18 _ _ ?_
          | refine ⟨by first | exact sd, hK18 _ _ ?_⟩
        refine Wp.ret ?_
        refine retQ_ret ?_
        cases hm
        simp only [go_sem, simprocAttr]
        try simp [encB, encI_i64, encI_u8, encS, enc_api_File, enc_api_Machine, enc_api_Service, enc_api_Setting, enc_disk_line, List.map_set, List.map_replicate]
      · have hm := brF hm (by first | exact hc16 | simpa using hc16)
        refine Wp.seqR fun K19 hK19 => ?_
        simp only [go_sem, simprocAttr]
        first
          | refine hK19 _ _ ?_
          | refine ⟨by first | exact sd, hK19 _ _ ?_⟩
        refine Wp.cond rfl ⟨⟩ (fun hc20 => ?_) (fun hc20 => ?_)
        · have hm := brT hm (by first | exact hc20 | simpa using hc20)
          obtain ⟨c_15, hm⟩ := chk_elim hm
          refine Wp.region fun K21 hK21 => ?_
          simp only [go_sem, simprocAttr]
          first
            | refine hK21 _ _ ?_
            | refine ⟨by first | exact sd | ((repeat' apply And.intro) <;> first | assumption | omega | (simp only [List.length_append, List.length_map, List.length_cons, List.length_nil, List.length_set, List.length_replicate] at c_15 ⊢; omega)), hK21 _ _ ?_⟩
          simp only [thenQ, blockQ, ↓reduceIte]
          refine hK9 _ _ ?_
          refine Wp.seqR fun K22 hK22 => ?_
          simp only [go_sem, simprocAttr]
          first
            | refine hK22 _ _ ?_
            | refine ⟨by first | exact sd, hK22 _ _ ?_⟩
          refine Wp.ret ?_
          refine retQ_ret ?_
          cases hm
          simp only [go_sem, simprocAttr]
          try simp [encB, encI_i64, encI_u8, encS, enc_api_File, enc_api_Machine, enc_api_Service, enc_api_Setting, enc_disk_line, List.map_set, List.map_replicate]
        · have hm := brF hm (by first | exact hc20 | simpa using hc20)
          obtain ⟨c_16, hm⟩ := chk_elim hm
          refine Wp.region fun K23 hK23 => ?_
          simp only [go_sem, simprocAttr]
          first
            | refine hK23 _ _ ?_
            | refine ⟨by first | exact sd | ((repeat' apply And.intro) <;> first | assumption | omega | (simp only [List.length_append, List.length_map, List.length_cons, List.length_nil, List.length_set, List.length_replicate] at c_16 ⊢; omega)), hK23 _ _ ?_⟩
          simp only [thenQ, blockQ, ↓reduceIte]
          refine hK9 _ _ ?_
          refine Wp.seqR fun K24 hK24 => ?_
          simp only [go_sem, simprocAttr]
          first
            | refine hK24 _ _ ?_
            | refine ⟨by first | exact sd, hK24 _ _ ?_⟩
          refine Wp.ret ?_
          refine retQ_ret ?_
          cases hm
          simp only [go_sem, simprocAttr]
          try simp [encB, encI_i64, encI_u8, encS, enc_api_File, enc_api_Machine, enc_api_Service, enc_api_Setting, enc_disk_line, List.map_set, List.map_replicate]
set_option maxRecDepth 100000 in
set_option maxHeartbeats 4000000 in
theorem ok_disk_eachLine_i1 (text_1 : Str) (o0_0_2 : Int) (o2_3 : List api_Setting) (o3_4 : List api_File) (o4_5 : List api_Setting) (o5_6 : List api_Service) (z : Int × Int × List api_Setting × List api_File × List api_Setting × List api_Service) (hm : disk_eachLine_i1 text_1 o0_0_2 o2_3 o3_4 o4_5 o5_6 = some z) : Does Tryd.prog 58 [.p (.s text_1), .fn 59 [.ptr 0 0, .ptr 1 0]] [.cells 3 [.p (.i .i64 o0_0_2)], .cells 26 [.buf 2, .buf 3, .buf 4, .buf 5], .buf 51 2 (List.map enc_api_Setting o2_3), .buf 49 3 (List.map enc_api_File o3_4), .buf 51 2 (List.map enc_api_Setting o4_5), .buf 53 4 (List.map enc_api_Service o5_6)] (fun r X => r = .p (.i .i64 z.1) ∧ X = [.cells 3 [.p (.i .i64 z.2.1)], .cells 26 [.buf 2, .buf 3, .buf 4, .buf 5], .buf 51 2 (List.map enc_api_Setting z.2.2.1), .buf 49 3 (List.map enc_api_File z.2.2.2.1), .buf 51 2 (List.map enc_api_Setting z.2.2.2.2.1), .buf 53 4 (List.map enc_api_Service z.2.2.2.2.2)]) := by
  unfold disk_eachLine_i1 at hm
  refine Does.of_wp 6 40 [.tmp 4] Tryd.func58 rfl (by decide) rfl rfl (Nat.le_of_ble_eq_true rfl) fun B => ?_
  refine Wp.seqR fun K1 hK1 => ?_
  simp only [go_sem, simprocAttr]
  first
    | refine hK1 _ _ ?_
    | refine ⟨by first | exact sd, hK1 _ _ ?_⟩
  refine Wp.seqW fun K2 hK2 hW2 => ?_
  obtain ⟨k_78, hk_78, hm⟩ := jp_elim hm
  have hcut2 : ∀ s, k_78 s = some z → K2 [] [.cells 3 [.p (.i .i64 s.1)], .cells 26 [.buf 2, .buf 3, .buf 4, .buf 5], .buf 51 2 (List.map enc_api_Setting s.2.1), .buf 49 3 (List.map enc_api_File s.2.2.1), .buf 51 2 (List.map enc_api_Setting s.2.2.2.1), .buf 53 4 (List.map enc_api_Service s.2.2.2.2)] := by
    intro s hs
    have hm := hk_78 _ hs
    clear hs
    obtain ⟨o0_0_73, o2_74, o3_75, o4_76, o5_77⟩ := s
    try dsimp only at hm
    try dsimp only
    refine hK2 _ _ ?_
    refine Wp.seqR fun K3 hK3 => ?_
    simp only [go_sem, simprocAttr]
    first
      | refine hK3 _ _ ?_
      | refine ⟨by first | exact sd, hK3 _ _ ?_⟩
    refine Wp.ret ?_
    refine retQ_ret ?_
    cases hm
    simp only [go_sem, simprocAttr]
    try simp [encB, encI_i64, encI_u8, encS, enc_api_File, enc_api_Machine, enc_api_Service, enc_api_Setting, enc_disk_line, List.map_set, List.map_replicate]
  clear hK2 hk_78
  refine Wp.seqR fun K4 hK4 => ?_
  simp only [go_sem, simprocAttr]
  first
    | refine hK4 _ _ ?_
    | refine ⟨by first | exact sd, hK4 _ _ ?_⟩
  refine Wp.block ?_
  obtain ⟨k_94, hk_94, hm⟩ := loopN_cont hm
  refine Wp.loopN (fun s => [(0, .p (.s s.1)), (1, .fn 59 [.ptr 0 0, .ptr 1 0]), (5, .p (.i .i64 s.2.1))]) (fun s => [.cells 3 [.p (.i .i64 s.2.2.1)], .cells 26 [.buf 2, .buf 3, .buf 4, .buf 5], .buf 51 2 (List.map enc_api_Setting s.2.2.2.1), .buf 49 3 (List.map enc_api_File s.2.2.2.2.1), .buf 51 2 (List.map enc_api_Setting s.2.2.2.2.2.1), .buf 53 4 (List.map enc_api_Service s.2.2.2.2.2.2)]) ?_ hm ?_
  ·
    simp only [go_sem, simprocAttr]
    try simp [encB, encI_i64, encI_u8, encS, enc_api_File, enc_api_Machine, enc_api_Service, enc_api_Setting, enc_disk_line, List.map_set, List.map_replicate]
  clear hm
  intro s nx_95 hm
  obtain ⟨text_84, n_85, o0_0_86, o2_87, o3_88, o4_89, o5_90⟩ := s
  try dsimp only at hm
  try dsimp only
  refine Wp.seqW fun K5 hK5 hW5 => ?_
  refine Wp.seqR fun K6 hK6 => ?_
  simp only [go_sem, simprocAttr]
  first
    | refine hK6 _ _ ?_
    | refine ⟨by first | exact sd, hK6 _ _ ?_⟩
  refine Wp.cond rfl ⟨⟩ (fun hc7 => ?_) (fun hc7 => ?_)
  · have hm := brT hm (by first | exact hc7 | simpa using hc7)
    refine Wp.skip ?_
    simp only [thenQ, blockQ, ↓reduceIte]
    refine hK5 _ _ ?_
    refine Wp.seqW fun K8 hK8 hW8 => ?_
    refine Wp.block ?_
    obtain ⟨r_96, hr_96, hm⟩ := call_elim hm
    refine Wp.seqR fun K9 hK9 => ?_
    simp only [go_sem, simprocAttr]
    try refine ⟨by first | exact sd, ?_⟩
    refine Rg.callX (av := ?av10) (g := true) (fun hg => ok_strings_Cut text_84 ([10] : Str) _ hr_96) ?ha10 ?hb10 ?hp10 ?hok10 ?hf10 ?cont10
    case ha10 =>
      simp only [go_sem, simprocAttr]
      exact Is.mk
    case hb10 =>
      simp only [go_sem, simprocAttr]
      exact Is.mk
    case hp10 =>
      simp only [go_sem, simprocAttr]
      exact Is.mk
    case hok10 =>
      simp only [go_sem, simprocAttr]
    case hf10 =>
      simp only [go_sem, simprocAttr]
      exact Is.mk
    intro hv10
    simp only [go_sem, simprocAttr]
    first
      | refine hK9 _ _ ?_
      | refine ⟨by first | exact sd, hK9 _ _ ?_⟩
    obtain ⟨r_97, hr_97, hm⟩ := call_elim hm
    refine Wp.seqR fun K11 hK11 => ?_
    simp only [go_sem, simprocAttr]
    try refine ⟨by first | exact sd, ?_⟩
    refine Rg.callX (av := ?av12) (g := true) (fun hg => ok_disk_readLine r_96.1 _ hr_97) ?ha12 ?hb12 ?hp12 ?hok12 ?hf12 ?cont12
    case ha12 =>
      simp only [go_sem, simprocAttr]
      exact Is.mk
    case hb12 =>
      simp only [go_sem, simprocAttr]
      exact Is.mk
    case hp12 =>
      simp only [go_sem, simprocAttr]
      exact Is.mk
    case hok12 =>
      simp only [go_sem, simprocAttr]
    case hf12 =>
      simp only [go_sem, simprocAttr]
      exact Is.mk
    intro hv12
    simp only [go_sem, simprocAttr]
    first
      | refine hK11 _ _ ?_
      | refine ⟨by first | exact sd, hK11 _ _ ?_⟩
    refine Wp.seqW fun K13 hK13 hW13 => ?_
    obtain ⟨r_98, hr_98, hr_98d, hm⟩ := callG_elim2 hm
    refine Wp.seqR fun K14 hK14 => ?_
    simp only [go_sem, simprocAttr]
    try refine ⟨by first | exact sd, ?_⟩
    refine Rg.callGO (av := ?av15) (g := !((!r_96.2.2) || (!r_97.2))) [0, 1, 2, 3, 4, 5] (fun hg => ok_disk_Parse_1_i1 r_97.1 o0_0_86 o2_87 o3_88 o4_89 o5_90 _ (hr_98 hg)) (fun hg => by obtain rfl := hr_98d hg; rfl) ?ha15 ?hb15 ?hp15 ?hX15 ?hids15 ?hok15 ?cont15
    case ha15 =>
      simp only [go_sem, simprocAttr]
      exact Is.mk
    case hb15 =>
      simp only [go_sem, simprocAttr]
      exact Is.mk
    case hp15 =>
      simp only [go_sem, simprocAttr]
      exact Is.mk
    case hX15 =>
      simp only [go_sem, simprocAttr]
      exact Is.mk
    case hids15 => simp only [go_sem, simprocAttr]
    case hok15 => simp only [go_sem, simprocAttr]
    simp only [go_sem, simprocAttr]
    first
      | refine hK14 _ _ ?_
      | refine ⟨by first | exact sd, hK14 _ _ ?_⟩
    refine Wp.cond rfl ⟨⟩ (fun hc16 => ?_) (fun hc16 => ?_)
    · have hm := brT hm (by first | exact hc16 | simpa using hc16)
      refine Wp.seqR fun K17 hK17 => ?_
      simp only [go_sem, simprocAttr]
      first
        | refine hK17 _ _ ?_
        | refine ⟨by first | exact sd, hK17 _ _ ?_⟩
      refine Wp.ret ?_
      simp only [thenQ, blockQ]
      refine retQ_ret ?_
      cases hm
      simp only [go_sem, simprocAttr]
      try simp [encB, encI_i64, encI_u8, encS, enc_api_File, enc_api_Machine, enc_api_Service, enc_api_Setting, enc_disk_line, List.map_set, List.map_replicate]
    · have hm := brF hm (by first | exact hc16 | simpa using hc16)
      refine Wp.skip ?_
      simp only [thenQ, blockQ, ↓reduceIte]
      refine hK13 _ _ ?_
      refine Wp.region fun K18 hK18 => ?_
      simp only [go_sem, simprocAttr]
      first
        | refine hK18 _ _ ?_
        | refine ⟨by first | exact sd, hK18 _ _ ?_⟩
      simp only [thenQ, blockQ, ↓reduceIte]
      refine hK8 _ _ ?_
      refine Wp.region fun K19 hK19 => ?_
      simp only [go_sem, simprocAttr]
      first
        | refine hK19 _ _ ?_
        | refine ⟨by first | exact sd, hK19 _ _ ?_⟩
      simp only [thenQ, blockQ, ↓reduceIte]
      refine ⟨(r_96.2.1, IntKind.i64.wrap (n_85 + 1), r_98.2.1, r_98.2.2.1, r_98.2.2.2.1, r_98.2.2.2.2.1, r_98.2.2.2.2.2), hm, ?_⟩
      simp only [go_sem, simprocAttr]
      try simp [encB, encI_i64, encI_u8, encS, enc_api_File, enc_api_Machine, enc_api_Service, enc_api_Setting, enc_disk_line, List.map_set, List.map_replicate]
  · have hm := brF hm (by first | exact hc7 | simpa using hc7)
    refine Wp.exit ?_
    simp only [thenQ, blockQ, ↓reduceIte]
    have hm := hk_94 _ hm
    try dsimp only at hm
    refine hW2 _ _ _ _ ?_ (hcut2 (o0_0_86, o2_87, o3_88, o4_89, o5_90) hm)
    simp only [go_sem, simprocAttr]
    try simp [encB, encI_i64, encI_u8, encS, enc_api_File, enc_api_Machine, enc_api_Service, enc_api_Setting, enc_disk_line, List.map_set, List.map_replicate]
set_option maxRecDepth 100000 in
set_option maxHeartbeats 4000000 in
theorem ok_disk_Parse (text_1 : Str) (z : api_Machine × Int × Int) (hm : disk_Parse text_1 = some z) : Does Tryd.prog 15 [.p (.s text_1)] [] (fun r X => r = .tup [.agg [.p (.l (List.map enc_api_Setting z.1.Facts)), .p (.l (List.map enc_api_File z.1.Files)), .p (.l (List.map enc_api_Setting z.1.Settings)), .p (.l (List.map enc_api_Service z.1.Services))], .p (.i .i64 z.2.1), .p (.i .i64 z.2.2)] ∧ X = []) := by
  unfold disk_Parse at hm
  refine Does.of_wp 0 28 [.cell 2 26, .tmp 3, .tmp 4] Tryd.func15 rfl (by decide) rfl rfl (Nat.le_of_ble_eq_true rfl) fun B => ?_
  refine Wp.seqR fun K1 hK1 => ?_
  simp only [go_sem, simprocAttr]
  first
    | refine hK1 _ _ ?_
    | refine ⟨by first | exact sd, hK1 _ _ ?_⟩
  refine Wp.seqW fun K2 hK2 hW2 => ?_
  refine Wp.seqR fun K3 hK3 => ?_
  simp only [go_sem, simprocAttr]
  first
    | refine hK3 _ _ ?_
    | refine ⟨by first | exact sd, hK3 _ _ ?_⟩
  refine Wp.cond rfl ⟨⟩ (fun hc4 => ?_) (fun hc4 => ?_)
  · have hm := brT hm (by first | exact hc4 | simpa using hc4)
    refine Wp.seqR fun K5 hK5 => ?_
    simp only [go_sem, simprocAttr]
    first
      | refine hK5 _ _ ?_
      | refine ⟨by first | exact sd, hK5 _ _ ?_⟩
    refine Wp.ret ?_
    simp only [thenQ, blockQ]
    refine retQ_retE ?_
    cases hm
    simp only [go_sem, simprocAttr]
    try simp [encB, encI_i64, encI_u8, encS, enc_api_File, enc_api_Machine, enc_api_Service, enc_api_Setting, List.map_set, List.map_replicate]
  · have hm := brF hm (by first | exact hc4 | simpa using hc4)
    refine Wp.skip ?_
    simp only [thenQ, blockQ, ↓reduceIte]
    refine hK2 _ _ ?_
    refine Wp.seqR fun K6 hK6 => ?_
    simp only [go_sem, simprocAttr]
    first
      | refine hK6 _ _ ?_
      | refine ⟨by first | exact sd, hK6 _ _ ?_⟩
    refine Wp.adoptO 1 0 51 2 rfl rfl ?_
    simp only [go_sem, simprocAttr]
    refine Wp.adoptO 1 1 49 3 rfl rfl ?_
    simp only [go_sem, simprocAttr]
    refine Wp.adoptO 1 2 51 2 rfl rfl ?_
    simp only [go_sem, simprocAttr]
    refine Wp.adoptO 1 3 53 4 rfl rfl ?_
    simp only [go_sem, simprocAttr]
    obtain ⟨r_2, hr_2, hm⟩ := call_elim hm
    refine Wp.seqR fun K7 hK7 => ?_
    simp only [go_sem, simprocAttr]
    try refine ⟨by first | exact sd, ?_⟩
    refine Rg.callO (av := ?av8) [2, 1, 3, 4, 5, 6] (ok_disk_eachLine_i1 text_1 0 [] [] [] [] _ hr_2) ?ha8 ?hp8 ?hX8 ?hids8 ?hok8 ?cont8
    case ha8 =>
      simp only [go_sem, simprocAttr]
      exact Is.mk
    case hp8 =>
      simp only [go_sem, simprocAttr]
      exact Is.mk
    case hX8 =>
      simp only [go_sem, simprocAttr]
      exact Is.mk
    case hids8 => simp only [go_sem, simprocAttr]
    case hok8 => simp only [go_sem, simprocAttr]
    rintro _ _ ⟨rfl, rfl⟩ hv8
    simp only [go_sem, simprocAttr]
    first
      | refine hK7 _ _ ?_
      | refine ⟨by first | exact sd, hK7 _ _ ?_⟩
    refine Wp.seqW fun K9 hK9 hW9 => ?_
    refine Wp.seqR fun K10 hK10 => ?_
    simp only [go_sem, simprocAttr]
    first
      | refine hK10 _ _ ?_
      | refine ⟨by first | exact sd, hK10 _ _ ?_⟩
    refine Wp.cond rfl ⟨⟩ (fun hc11 => ?_) (fun hc11 => ?_)
    · have hm := brT hm (by first | exact hc11 | simpa using hc11)
      refine Wp.seqR fun K12 hK12 => ?_
      simp only [go_sem, simprocAttr]
      first
        | refine hK12 _ _ ?_
        | refine ⟨by first | exact sd, hK12 _ _ ?_⟩
      refine Wp.ret ?_
      simp only [thenQ, blockQ]
      refine retQ_retE ?_
      cases hm
      simp only [go_sem, simprocAttr]
      try simp [encB, encI_i64, encI_u8, encS, enc_api_File, enc_api_Machine, enc_api_Service, enc_api_Setting, enc_disk_line, List.map_set, List.map_replicate]
    · have hm := brF hm (by first | exact hc11 | simpa using hc11)
      refine Wp.skip ?_
      simp only [thenQ, blockQ, ↓reduceIte]
      refine hK9 _ _ ?_
      refine Wp.seqW fun K13 hK13 hW13 => ?_
      obtain ⟨r_3, hr_3, hm⟩ := call_elim hm
      refine Wp.seqR fun K14 hK14 => ?_
      simp only [go_sem, simprocAttr]
      try refine ⟨by first | exact sd, ?_⟩
      refine Rg.callX (av := ?av15) (g := true) (fun hg => ok_disk_Check (api_Machine.mk r_2.2.2.1 r_2.2.2.2.1 r_2.2.2.2.2.1 r_2.2.2.2.2.2) _ hr_3) ?ha15 ?hb15 ?hp15 ?hok15 ?hf15 ?cont15
      case ha15 =>
        simp only [go_sem, simprocAttr]
        exact Is.mk
      case hb15 =>
        simp only [go_sem, simprocAttr]
        exact Is.mk
      case hp15 =>
        simp only [go_sem, simprocAttr]
        exact Is.mk
      case hok15 =>
        simp only [go_sem, simprocAttr]
      case hf15 =>
        simp only [go_sem, simprocAttr]
        exact Is.mk
      intro hv15
      simp only [go_sem, simprocAttr]
      first
        | refine hK14 _ _ ?_
        | refine ⟨by first | exact sd, hK14 _ _ ?_⟩
      refine Wp.seqR fun K16 hK16 => ?_
      simp only [go_sem, simprocAttr]
      first
        | refine hK16 _ _ ?_
        | refine ⟨by first | exact sd, hK16 _ _ ?_⟩
      refine Wp.cond rfl ⟨⟩ (fun hc17 => ?_) (fun hc17 => ?_)
      · have hm := brT hm (by first | exact hc17 | simpa using hc17)
        refine Wp.seqR fun K18 hK18 => ?_
        simp only [go_sem, simprocAttr]
        first
          | refine hK18 _ _ ?_
          | refine ⟨by first | exact sd, hK18 _ _ ?_⟩
        refine Wp.ret ?_
        simp only [thenQ, blockQ]
        refine retQ_retE ?_
        cases hm
        simp only [go_sem, simprocAttr]
        try simp [encB, encI_i64, encI_u8, encS, enc_api_File, enc_api_Machine, enc_api_Service, enc_api_Setting, enc_disk_line, List.map_set, List.map_replicate]
      · have hm := brF hm (by first | exact hc17 | simpa using hc17)
        refine Wp.skip ?_
        simp only [thenQ, blockQ, ↓reduceIte]
        refine hK13 _ _ ?_
        refine Wp.seqR fun K19 hK19 => ?_
        simp only [go_sem, simprocAttr]
        first
          | refine hK19 _ _ ?_
          | refine ⟨by first | exact sd, hK19 _ _ ?_⟩
        refine Wp.ret ?_
        refine retQ_ret ?_
        cases hm
        simp only [go_sem, simprocAttr]
        try simp [encB, encI_i64, encI_u8, encS, enc_api_File, enc_api_Machine, enc_api_Service, enc_api_Setting, enc_disk_line, List.map_set, List.map_replicate]
set_option maxRecDepth 100000 in
set_option maxHeartbeats 4000000 in
theorem ok_R_cutLines (text_1 : Str) (z : List Str × Int) (hm : R_cutLines text_1 = some z) : Does Tryd.prog 61 [.p (.s text_1)] [] (fun r X => r = .tup [.p (.l (List.map encS z.1)), .p (.i .i64 z.2)] ∧ X = []) := by
  unfold R_cutLines at hm
  refine Does.of_wp 0 23 [.tmp 2, .tmp 3] Tryd.func61 rfl (by decide) rfl rfl (Nat.le_of_ble_eq_true rfl) fun B => ?_
  refine Wp.seqR fun K1 hK1 => ?_
  simp only [go_sem, simprocAttr]
  first
    | refine hK1 _ _ ?_
    | refine ⟨by first | exact sd, hK1 _ _ ?_⟩
  obtain ⟨r_2, hr_2, hm⟩ := call_elim hm
  refine Wp.seqR fun K2 hK2 => ?_
  simp only [go_sem, simprocAttr]
  try refine ⟨by first | exact sd, ?_⟩
  refine Rg.callF (av := ?av3) (ok_strings_Split text_1 ([10] : Str) _ hr_2) ?ha3 ?hp3 ?hok3 ?cont3
  case ha3 =>
    simp only [go_sem, simprocAttr]
    exact Is.mk
  case hp3 =>
    simp only [go_sem, simprocAttr]
    exact Is.mk
  case hok3 =>
    simp only [go_sem, simprocAttr]
  intro hv3
  simp only [go_sem, simprocAttr]
  first
    | refine hK2 _ _ ?_
    | refine ⟨by first | exact sd, hK2 _ _ ?_⟩
  refine Wp.seqW fun K4 hK4 hW4 => ?_
  refine Wp.seqR fun K5 hK5 => ?_
  simp only [go_sem, simprocAttr]
  first
    | refine hK5 _ _ ?_
    | refine ⟨by first | exact sd, hK5 _ _ ?_⟩
  obtain ⟨s_3, hbs_3, hxs_3, hys_3, hm⟩ := idx_elim hm
  replace hxs_3 : ∀ d, (List.map encS r_2).getD ((IntKind.i64.wrap ((r_2.length : Int) - 1)).toNat) d = encS s_3 := hxs_3 encS
  refine Wp.seqR fun K6 hK6 => ?_
  simp only [go_sem, simprocAttr, hxs_3]
  first
    | refine hK6 _ _ ?_
    | refine ⟨by first | exact sd, hK6 _ _ ?_⟩
  refine Wp.cond rfl ⟨⟩ (fun hc7 => ?_) (fun hc7 => ?_)
  · have hm := brT hm (by first | exact hc7 | simpa using hc7)
    obtain ⟨c_4, hm⟩ := chk_elim hm
    refine Wp.seqR fun K8 hK8 => ?_
    simp only [go_sem, simprocAttr, hxs_3]
    first
      | refine hK8 _ _ ?_
      | refine ⟨by first | exact sd | ((repeat' apply And.intro) <;> first | assumption | omega | (simp only [List.length_append, List.length_map, List.length_cons, List.length_nil, List.length_set, List.length_replicate] at c_4 ⊢; omega)), hK8 _ _ ?_⟩
    refine Wp.ret ?_
    simp only [thenQ, blockQ]
    refine retQ_ret ?_
    cases hm
    simp only [go_sem, simprocAttr, hxs_3]
    try simp [encB, encI_i64, encI_u8, encS, enc_api_File, enc_api_Machine, enc_api_Service, enc_api_Setting, enc_disk_line, List.map_set, List.map_replicate]
  · have hm := brF hm (by first | exact hc7 | simpa using hc7)
    refine Wp.skip ?_
    simp only [thenQ, blockQ, ↓reduceIte]
    refine hK4 _ _ ?_
    refine Wp.seqR fun K9 hK9 => ?_
    simp only [go_sem, simprocAttr, hxs_3]
    first
      | refine hK9 _ _ ?_
      | refine ⟨by first | exact sd, hK9 _ _ ?_⟩
    refine Wp.ret ?_
    refine retQ_ret ?_
    cases hm
    simp only [go_sem, simprocAttr, hxs_3]
    try simp [encB, encI_i64, encI_u8, encS, enc_api_File, enc_api_Machine, enc_api_Service, enc_api_Setting, enc_disk_line, List.map_set, List.map_replicate]
set_option maxRecDepth 100000 in
set_option maxHeartbeats 4000000 in
theorem ok_slices_Index_string_string (s_1 : List Str) (v_2 : Str) (z : Int) (hm : slices_Index_string_string s_1 v_2 = some z) : Does Tryd.prog 63 [.p (.l (List.map encS s_1)), .p (.s v_2)] [] (fun r X => r = .p (.i .i64 z) ∧ X = []) := by
  unfold slices_Index_string_string at hm
  refine Does.of_wp 0 19 [.tmp 4] Tryd.func63 rfl (by decide) rfl rfl (Nat.le_of_ble_eq_true rfl) fun B => ?_
  refine Wp.seqR fun K1 hK1 => ?_
  simp only [go_sem, simprocAttr]
  first
    | refine hK1 _ _ ?_
    | refine ⟨by first | exact sd, hK1 _ _ ?_⟩
  refine Wp.seqW fun K2 hK2 hW2 => ?_
  obtain ⟨k_10, hk_10, hm⟩ := jp_elim hm
  have hcut2 : ∀ s, k_10 s = some z → K2 [] [] := by
    intro s hs
    have hm := hk_10 _ hs
    clear hs
    try dsimp only at hm
    try dsimp only
    refine hK2 _ _ ?_
    refine Wp.seqR fun K3 hK3 => ?_
    simp only [go_sem, simprocAttr]
    first
      | refine hK3 _ _ ?_
      | refine ⟨by first | exact sd, hK3 _ _ ?_⟩
    refine Wp.ret ?_
    refine retQ_ret ?_
    cases hm
    simp only [go_sem, simprocAttr]
    try simp [encB, encI_i64, encI_u8, encS, enc_api_File, enc_api_Machine, enc_api_Service, enc_api_Setting, enc_disk_line, List.map_set, List.map_replicate]
  clear hK2 hk_10
  refine Wp.seqR fun K4 hK4 => ?_
  simp only [go_sem, simprocAttr]
  first
    | refine hK4 _ _ ?_
    | refine ⟨by first | exact sd, hK4 _ _ ?_⟩
  refine Wp.block ?_
  obtain ⟨k_13, hk_13, hm⟩ := forL_cont hm
  refine Wp.fact 0 fun hl_16 => ?_
  replace hl_16 : s_1.length ≤ 274877906944 := by
    simp only [go_sem, simprocAttr, List.length_map] at hl_16
    omega
  refine Wp.forL (fun i_15 s => [(0, .p (.l (List.map encS s_1))), (1, .p (.s v_2)), (7, .p (.i .i64 (s_1.length : Int))), (8, .p (.i .i64 (i_15 : Int)))]) (fun i_15 s => []) ?_ hm ?_
  ·
    simp only [go_sem, simprocAttr]
    try simp [encB, encI_i64, encI_u8, encS, enc_api_File, enc_api_Machine, enc_api_Service, enc_api_Setting, enc_disk_line, List.map_set, List.map_replicate]
  clear hm
  intro i_15 s hii_15 hm
  try dsimp only at hm
  try dsimp only
  refine Wp.seqR fun K5 hK5 => ?_
  simp only [go_sem, simprocAttr]
  first
    | refine hK5 _ _ ?_
    | refine ⟨by first | exact sd, hK5 _ _ ?_⟩
  refine Wp.seqW fun K6 hK6 hW6 => ?_
  refine Wp.cond rfl ⟨⟩ (fun hc6 => ?_) (fun hc6 => ?_)
  rotate_left
  · refine Wp.exit ?_
    have hm := hk_13 _ (forL_end hm (ge_nat (by first | exact hc6 | simpa using hc6)))
    try dsimp only at hm
    simp only [thenQ, blockQ, ↓reduceIte]
    refine hW2 _ _ _ _ ?_ (hcut2 () hm)
    simp only [go_sem, simprocAttr]
    try simp [encB, encI_i64, encI_u8, encS, enc_api_File, enc_api_Machine, enc_api_Service, enc_api_Setting, enc_disk_line, List.map_set, List.map_replicate]
  have hlt6 := lt_nat (by first | exact hc6 | simpa using hc6)
  have hw6 := wrap_succ hlt6 hl_16
  obtain ⟨s_17, nx_14, hxs_17, hys_17, hnx_14, hm⟩ := forL_step hm hlt6
  replace hxs_17 := hxs_17 encS
  refine Wp.skip ?_
  simp only [thenQ]
  refine hK6 _ _ ?_
  refine Wp.seqW fun K7 hK7 hW7 => ?_
  refine Wp.block ?_
  refine Wp.seqR fun K8 hK8 => ?_
  simp only [go_sem, simprocAttr, hw6, hxs_17]
  first
    | refine hK8 _ _ ?_
    | refine ⟨by first | exact sd, hK8 _ _ ?_⟩
  refine Wp.seqR fun K9 hK9 => ?_
  simp only [go_sem, simprocAttr, hw6, hxs_17]
  first
    | refine hK9 _ _ ?_
    | refine ⟨by first | exact sd, hK9 _ _ ?_⟩
  refine Wp.cond rfl ⟨⟩ (fun hc10 => ?_) (fun hc10 => ?_)
  · have hm := brT hm (by first | exact hc10 | simpa using hc10)
    refine Wp.seqR fun K11 hK11 => ?_
    simp only [go_sem, simprocAttr, hw6, hxs_17]
    first
      | refine hK11 _ _ ?_
      | refine ⟨by first | exact sd, hK11 _ _ ?_⟩
    refine Wp.ret ?_
    simp only [thenQ, blockQ]
    refine retQ_ret ?_
    cases hm
    simp only [go_sem, simprocAttr, hw6, hxs_17]
    try simp [encB, encI_i64, encI_u8, encS, enc_api_File, enc_api_Machine, enc_api_Service, enc_api_Setting, enc_disk_line, List.map_set, List.map_replicate]
  · have hm := brF hm (by first | exact hc10 | simpa using hc10)
    refine Wp.skip ?_
    simp only [thenQ, blockQ, ↓reduceIte]
    refine hK7 _ _ ?_
    refine Wp.region fun K12 hK12 => ?_
    simp only [go_sem, simprocAttr, hw6, hxs_17]
    first
      | refine hK12 _ _ ?_
      | refine ⟨by first | exact sd, hK12 _ _ ?_⟩
    simp only [thenQ, blockQ, ↓reduceIte]
    refine ⟨(), hlt6, hnx_14 _ hm, ?_⟩
    simp only [go_sem, simprocAttr, hw6, hxs_17]
    try simp [encB, encI_i64, encI_u8, encS, enc_api_File, enc_api_Machine, enc_api_Service, enc_api_Setting, enc_disk_line, List.map_set, List.map_replicate]
set_option maxRecDepth 100000 in
set_option maxHeartbeats 4000000 in
theorem ok_R_Quote (s_1 : Str) (z : Str) (hm : R_Quote s_1 = some z) : Does Tryd.prog 77 [.p (.s s_1)] [] (fun r X => r = .p (.s z) ∧ X = []) := by
  unfold R_Quote at hm
  refine Does.of_wp 0 67 [.tmp 2] Tryd.func77 rfl (by decide) rfl rfl (Nat.le_of_ble_eq_true rfl) fun B => ?_
  refine Wp.seqR fun K1 hK1 => ?_
  simp only [go_sem, simprocAttr]
  first
    | refine hK1 _ _ ?_
    | refine ⟨by first | exact sd, hK1 _ _ ?_⟩
  refine Wp.seqR fun K2 hK2 => ?_
  simp only [go_sem, simprocAttr]
  first
    | refine hK2 _ _ ?_
    | refine ⟨by first | exact sd, hK2 _ _ ?_⟩
  refine Wp.seqW fun K3 hK3 hW3 => ?_
  obtain ⟨k_33, hk_33, hm⟩ := jp_elim hm
  have hcut3 : ∀ s, k_33 s = some z → K3 [(3, .p (.s s))] [] := by
    intro out_32 hs
    have hm := hk_33 _ hs
    clear hs
    try dsimp only at hm
    try dsimp only
    refine hK3 _ _ ?_
    obtain ⟨c_34, hm⟩ := chk_elim hm
    refine Wp.seqR fun K4 hK4 => ?_
    simp only [go_sem, simprocAttr]
    first
      | refine hK4 _ _ ?_
      | refine ⟨by first | exact sd | ((repeat' apply And.intro) <;> first | assumption | omega | (simp only [List.length_append, List.length_map, List.length_cons, List.length_nil, List.length_set, List.length_replicate] at c_34 ⊢; omega)), hK4 _ _ ?_⟩
    refine Wp.ret ?_
    refine retQ_ret ?_
    cases hm
    simp only [go_sem, simprocAttr]
    try simp [encB, encI_i64, encI_u8, encS, enc_api_File, enc_api_Machine, enc_api_Service, enc_api_Setting, enc_disk_line, List.map_set, List.map_replicate]
  clear hK3 hk_33
  refine Wp.seqR fun K5 hK5 => ?_
  simp only [go_sem, simprocAttr]
  first
    | refine hK5 _ _ ?_
    | refine ⟨by first | exact sd, hK5 _ _ ?_⟩
  refine Wp.block ?_
  obtain ⟨k_49, hk_49, hm⟩ := forL_cont hm
  refine Wp.fact 0 fun hl_52 => ?_
  replace hl_52 : s_1.length ≤ 274877906944 := by
    simp only [go_sem, simprocAttr, List.length_map] at hl_52
    omega
  refine Wp.forL (fun i_51 s => [(0, .p (.s s_1)), (3, .p (.s s)), (7, .p (.i .i64 (s_1.length : Int))), (8, .p (.i .i64 (i_51 : Int)))]) (fun i_51 s => []) ?_ hm ?_
  ·
    simp only [go_sem, simprocAttr]
    try simp [encB, encI_i64, encI_u8, encS, enc_api_File, enc_api_Machine, enc_api_Service, enc_api_Setting, enc_disk_line, List.map_set, List.map_replicate]
  clear hm
  intro i_51 out_35 hii_51 hm
  try dsimp only at hm
  try dsimp only
  refine Wp.seqR fun K6 hK6 => ?_
  simp only [go_sem, simprocAttr]
  first
    | refine hK6 _ _ ?_
    | refine ⟨by first | exact sd, hK6 _ _ ?_⟩
  refine Wp.seqW fun K7 hK7 hW7 => ?_
  refine Wp.cond rfl ⟨⟩ (fun hc7 => ?_) (fun hc7 => ?_)
  rotate_left
  · refine Wp.exit ?_
    have hm := hk_49 _ (forL_end hm (ge_nat (by first | exact hc7 | simpa using hc7)))
    try dsimp only at hm
    simp only [thenQ, blockQ, ↓reduceIte]
    refine hW3 _ _ _ _ ?_ (hcut3 out_35 hm)
    simp only [go_sem, simprocAttr]
    try simp [encB, encI_i64, encI_u8, encS, enc_api_File, enc_api_Machine, enc_api_Service, enc_api_Setting, enc_disk_line, List.map_set, List.map_replicate]
  have hlt7 := lt_nat (by first | exact hc7 | simpa using hc7)
  have hw7 := wrap_succ hlt7 hl_52
  obtain ⟨c_53, nx_50, hxc_53, hyc_53, hnx_50, hm⟩ := forL_step hm hlt7
  clear hxc_53
  refine Wp.skip ?_
  simp only [thenQ]
  refine hK7 _ _ ?_
  refine Wp.seqW fun K8 hK8 hW8 => ?_
  refine Wp.block ?_
  refine Wp.seqR fun K9 hK9 => ?_
  simp only [go_sem, simprocAttr, hw7, hyc_53]
  first
    | refine hK9 _ _ ?_
    | refine ⟨by first | exact sd, hK9 _ _ ?_⟩
  refine Wp.seqR fun K10 hK10 => ?_
  simp only [go_sem, simprocAttr, hw7, hyc_53]
  first
    | refine hK10 _ _ ?_
    | refine ⟨by first | exact sd, hK10 _ _ ?_⟩
  refine Wp.block ?_
  refine Wp.seqR fun K11 hK11 => ?_
  simp only [go_sem, simprocAttr, hw7, hyc_53]
  first
    | refine hK11 _ _ ?_
    | refine ⟨by first | exact sd, hK11 _ _ ?_⟩
  refine Wp.cond rfl ⟨⟩ (fun hc12 => ?_) (fun hc12 => ?_)
  · have hm := brT hm (by first | exact hc12 | simpa using hc12)
    obtain ⟨c_54, hm⟩ := chk_elim hm
    obtain ⟨c_55, hm⟩ := chk_elim hm
    obtain ⟨c_56, hm⟩ := chk_elim hm
    refine Wp.region fun K13 hK13 => ?_
    simp only [go_sem, simprocAttr, hw7, hyc_53]
    first
      | refine hK13 _ _ ?_
      | refine ⟨by first | exact sd | ((repeat' apply And.intro) <;> first | assumption | omega | (simp only [List.length_append, List.length_map, List.length_cons, List.length_nil, List.length_set, List.length_replicate] at c_54 c_55 c_56 ⊢; omega)), hK13 _ _ ?_⟩
    simp only [thenQ, blockQ, ↓reduceIte]
    refine hK8 _ _ ?_
    refine Wp.region fun K14 hK14 => ?_
    simp only [go_sem, simprocAttr, hw7, hyc_53]
    first
      | refine hK14 _ _ ?_
      | refine ⟨by first | exact sd, hK14 _ _ ?_⟩
    simp only [thenQ, blockQ, ↓reduceIte]
    refine ⟨out_35 ++ (([92] : Str) ++ (List.take ((IntKind.i64.wrap ((i_51 : Int) + 1)).toNat - i_51) (List.drop i_51 s_1))), hlt7, hnx_50 _ hm, ?_⟩
    simp only [go_sem, simprocAttr, hw7, hyc_53]
    try simp [encB, encI_i64, encI_u8, encS, enc_api_File, enc_api_Machine, enc_api_Service, enc_api_Setting, enc_disk_line, List.map_set, List.map_replicate]
  · have hm := brF hm (by first | exact hc12 | simpa using hc12)
    refine Wp.seqR fun K15 hK15 => ?_
    simp only [go_sem, simprocAttr, hw7, hyc_53]
    first
      | refine hK15 _ _ ?_
      | refine ⟨by first | exact sd, hK15 _ _ ?_⟩
    refine Wp.cond rfl ⟨⟩ (fun hc16 => ?_) (fun hc16 => ?_)
    · have hm := brT hm (by first | exact hc16 | simpa using hc16)
      obtain ⟨c_57, hm⟩ := chk_elim hm
      refine Wp.region fun K17 hK17 => ?_
      simp only [go_sem, simprocAttr, hw7, hyc_53]
      first
        | refine hK17 _ _ ?_
        | refine ⟨by first | exact sd | ((repeat' apply And.intro) <;> first | assumption | omega | (simp only [List.length_append, List.length_map, List.length_cons, List.length_nil, List.length_set, List.length_replicate] at c_57 ⊢; omega)), hK17 _ _ ?_⟩
      simp only [thenQ, blockQ, ↓reduceIte]
      refine hK8 _ _ ?_
      refine Wp.region fun K18 hK18 => ?_
      simp only [go_sem, simprocAttr, hw7, hyc_53]
      first
        | refine hK18 _ _ ?_
        | refine ⟨by first | exact sd, hK18 _ _ ?_⟩
      simp only [thenQ, blockQ, ↓reduceIte]
      refine ⟨out_35 ++ ([92, 110] : Str), hlt7, hnx_50 _ hm, ?_⟩
      simp only [go_sem, simprocAttr, hw7, hyc_53]
      try simp [encB, encI_i64, encI_u8, encS, enc_api_File, enc_api_Machine, enc_api_Service, enc_api_Setting, enc_disk_line, List.map_set, List.map_replicate]
    · have hm := brF hm (by first | exact hc16 | simpa using hc16)
      refine Wp.seqR fun K19 hK19 => ?_
      simp only [go_sem, simprocAttr, hw7, hyc_53]
      first
        | refine hK19 _ _ ?_
        | refine ⟨by first | exact sd, hK19 _ _ ?_⟩
      refine Wp.cond rfl ⟨⟩ (fun hc20 => ?_) (fun hc20 => ?_)
      · have hm := brT hm (by first | exact hc20 | simpa using hc20)
        obtain ⟨c_58, hm⟩ := chk_elim hm
        obtain ⟨c_59, hm⟩ := chk_elim hm
        obtain ⟨c_60, hm⟩ := chk_elim hm
        obtain ⟨c_61, hm⟩ := chk_elim hm
        obtain ⟨c_62, hm⟩ := chk_elim hm
        refine Wp.regD (plan := [(0, none), (1, none), (2, none), (3, none), (4, none), (5, none), (6, none), (7, none), (8, none), (9, none), (10, none), (11, none), (12, none), (13, none), (14, none), (15, none), (16, none)]) (by kernel_rfl) rfl (by kernel_rfl) fun K21 hK21 => ?_
        simp only [go_sem, simprocAttr, hw7, hyc_53]
        first
          | refine hK21 _ _ ?_
          | refine ⟨by first | exact sd | ((repeat' apply And.intro) <;> first | assumption | omega | (simp only [List.length_append, List.length_map, List.length_cons, List.length_nil, List.length_set, List.length_replicate] at c_58 c_59 c_60 c_61 c_62 ⊢; omega)), hK21 _ _ ?_⟩
        simp only [thenQ, blockQ, ↓reduceIte]
        refine hK8 _ _ ?_
        refine Wp.region fun K22 hK22 => ?_
        simp only [go_sem, simprocAttr, hw7, hyc_53]
        first
          | refine hK22 _ _ ?_
          | refine ⟨by first | exact sd, hK22 _ _ ?_⟩
        simp only [thenQ, blockQ, ↓reduceIte]
        refine ⟨out_35 ++ ((([92, 120] : Str) ++ (List.take ((IntKind.u8.wrap ((Int.fdiv (c_53.toNat : Int) (2 ^ (shI .u8 4))) + 1)).toNat - (Int.fdiv (c_53.toNat : Int) (2 ^ (shI .u8 4))).toNat) (List.drop ((Int.fdiv (c_53.toNat : Int) (2 ^ (shI .u8 4))).toNat) ([48, 49, 50, 51, 52, 53, 54, 55, 56, 57, 97, 98, 99, 100, 101, 102] : Str)))) ++ (List.take ((IntKind.u8.wrap ((bitsI .and .u8 (c_53.toNat : Int) 15) + 1)).toNat - (bitsI .and .u8 (c_53.toNat : Int) 15).toNat) (List.drop ((bitsI .and .u8 (c_53.toNat : Int) 15).toNat) ([48, 49, 50, 51, 52, 53, 54, 55, 56, 57, 97, 98, 99, 100, 101, 102] : Str)))), hlt7, hnx_50 _ hm, ?_⟩
        simp only [go_sem, simprocAttr, hw7, hyc_53]
        try simp [encB, encI_i64, encI_u8, encS, enc_api_File, enc_api_Machine, enc_api_Service, enc_api_Setting, enc_disk_line, List.map_set, List.map_replicate]
      · have hm := brF hm (by first | exact hc20 | simpa using hc20)
        obtain ⟨c_63, hm⟩ := chk_elim hm
        obtain ⟨c_64, hm⟩ := chk_elim hm
        refine Wp.region fun K23 hK23 => ?_
        simp only [go_sem, simprocAttr, hw7, hyc_53]
        first
          | refine hK23 _ _ ?_
          | refine ⟨by first | exact sd | ((repeat' apply And.intro) <;> first | assumption | omega | (simp only [List.length_append, List.length_map, List.length_cons, List.length_nil, List.length_set, List.length_replicate] at c_63 c_64 ⊢; omega)), hK23 _ _ ?_⟩
        simp only [thenQ, blockQ, ↓reduceIte]
        refine hK8 _ _ ?_
        refine Wp.region fun K24 hK24 => ?_
        simp only [go_sem, simprocAttr, hw7, hyc_53]
        first
          | refine hK24 _ _ ?_
          | refine ⟨by first | exact sd, hK24 _ _ ?_⟩
        simp only [thenQ, blockQ, ↓reduceIte]
        refine ⟨out_35 ++ (List.take ((IntKind.i64.wrap ((i_51 : Int) + 1)).toNat - i_51) (List.drop i_51 s_1)), hlt7, hnx_50 _ hm, ?_⟩
        simp only [go_sem, simprocAttr, hw7, hyc_53]
        try simp [encB, encI_i64, encI_u8, encS, enc_api_File, enc_api_Machine, enc_api_Service, enc_api_Setting, enc_disk_line, List.map_set, List.map_replicate]
set_option maxRecDepth 100000 in
set_option maxHeartbeats 4000000 in
theorem ok_R_Unquote (s_1 : Str) (z : Str × Int) (hm : R_Unquote s_1 = some z) : Does Tryd.prog 106 [.p (.s s_1)] [] (fun r X => r = .tup [.p (.s z.1), .p (.i .i64 z.2)] ∧ X = []) := by
  unfold R_Unquote at hm
  refine Does.of_wp 0 107 [.tmp 2, .tmp 3] Tryd.func106 rfl (by decide) rfl rfl (Nat.le_of_ble_eq_true rfl) fun B => ?_
  refine Wp.seqR fun K1 hK1 => ?_
  simp only [go_sem, simprocAttr]
  first
    | refine hK1 _ _ ?_
    | refine ⟨by first | exact sd, hK1 _ _ ?_⟩
  refine Wp.seqW fun K2 hK2 hW2 => ?_
  obtain ⟨c_2, hm⟩ := chk_elim hm
  obtain ⟨c_3, hm⟩ := chk_elim hm
  refine Wp.seqR fun K3 hK3 => ?_
  simp only [go_sem, simprocAttr]
  first
    | refine hK3 _ _ ?_
    | refine ⟨by first | exact sd | ((repeat' apply And.intro) <;> first | assumption | omega | (simp only [List.length_append, List.length_map, List.length_cons, List.length_nil, List.length_set, List.length_replicate] at c_2 c_3 ⊢; omega)), hK3 _ _ ?_⟩
  refine Wp.cond rfl ⟨⟩ (fun hc4 => ?_) (fun hc4 => ?_)
  · have hm := brT hm (by first | exact hc4 | simpa using hc4)
    refine Wp.seqR fun K5 hK5 => ?_
    simp only [go_sem, simprocAttr]
    first
      | refine hK5 _ _ ?_
      | refine ⟨by first | exact sd, hK5 _ _ ?_⟩
    refine Wp.ret ?_
    simp only [thenQ, blockQ]
    refine retQ_ret ?_
    cases hm
    simp only [go_sem, simprocAttr]
    try simp [encB, encI_i64, encI_u8, encS, enc_api_File, enc_api_Machine, enc_api_Service, enc_api_Setting, enc_disk_line, List.map_set, List.map_replicate]
  · have hm := brF hm (by first | exact hc4 | simpa using hc4)
    refine Wp.skip ?_
    simp only [thenQ, blockQ, ↓reduceIte]
    refine hK2 _ _ ?_
    refine Wp.seqR fun K6 hK6 => ?_
    simp only [go_sem, simprocAttr]
    first
      | refine hK6 _ _ ?_
      | refine ⟨by first | exact sd, hK6 _ _ ?_⟩
    refine Wp.seqW fun K7 hK7 hW7 => ?_
    obtain ⟨k_65, hk_65, hm⟩ := jp_elim hm
    have hcut7 : ∀ s, k_65 s = some z → K7 [(0, .p (.s s_1)), (4, .buf 0)] [.buf 5 1 (List.map encI_u8 s)] := by
      intro o0_64 hs
      have hm := hk_65 _ hs
      clear hs
      try dsimp only at hm
      try dsimp only
      refine hK7 _ _ ?_
      refine Wp.seqW fun K8 hK8 hW8 => ?_
      obtain ⟨r_66, hr_66, hm⟩ := call_elim hm
      refine Wp.seqR fun K9 hK9 => ?_
      simp only [go_sem, simprocAttr]
      try refine ⟨by first | exact sd, ?_⟩
      refine Rg.callX (av := ?av10) (g := true) (fun hg => ok_R_Quote (strOf o0_64) _ hr_66) ?ha10 ?hb10 ?hp10 ?hok10 ?hf10 ?cont10
      case ha10 =>
        simp only [go_sem, simprocAttr]
        exact Is.mk
      case hb10 =>
        simp only [go_sem, simprocAttr]
        exact Is.mk
      case hp10 =>
        simp only [go_sem, simprocAttr]
        exact Is.mk
      case hok10 =>
        simp only [go_sem, simprocAttr]
      case hf10 =>
        simp only [go_sem, simprocAttr]
        exact Is.mk
      intro hv10
      simp only [go_sem, simprocAttr]
      first
        | refine hK9 _ _ ?_
        | refine ⟨by first | exact sd, hK9 _ _ ?_⟩
      refine Wp.cond rfl ⟨⟩ (fun hc11 => ?_) (fun hc11 => ?_)
      · have hm := brT hm (by first | exact hc11 | simpa using hc11)
        refine Wp.seqR fun K12 hK12 => ?_
        simp only [go_sem, simprocAttr]
        first
          | refine hK12 _ _ ?_
          | refine ⟨by first | exact sd, hK12 _ _ ?_⟩
        refine Wp.ret ?_
        simp only [thenQ, blockQ]
        refine retQ_ret ?_
        cases hm
        simp only [go_sem, simprocAttr]
        try simp [encB, encI_i64, encI_u8, encS, enc_api_File, enc_api_Machine, enc_api_Service, enc_api_Setting, enc_disk_line, List.map_set, List.map_replicate]
      · have hm := brF hm (by first | exact hc11 | simpa using hc11)
        refine Wp.skip ?_
        simp only [thenQ, blockQ, ↓reduceIte]
        refine hK8 _ _ ?_
        refine Wp.seqR fun K13 hK13 => ?_
        simp only [go_sem, simprocAttr]
        first
          | refine hK13 _ _ ?_
          | refine ⟨by first | exact sd, hK13 _ _ ?_⟩
        refine Wp.ret ?_
        refine retQ_ret ?_
        cases hm
        simp only [go_sem, simprocAttr]
        try simp [encB, encI_i64, encI_u8, encS, enc_api_File, enc_api_Machine, enc_api_Service, enc_api_Setting, enc_disk_line, List.map_set, List.map_replicate]
    clear hK7 hk_65
    obtain ⟨c_67, hm⟩ := chk_elim hm
    refine Wp.seqR fun K14 hK14 => ?_
    simp only [go_sem, simprocAttr]
    first
      | refine hK14 _ _ ?_
      | refine ⟨by first | exact sd | ((repeat' apply And.intro) <;> first | assumption | omega | (simp only [List.length_append, List.length_map, List.length_cons, List.length_nil, List.length_set, List.length_replicate] at c_67 ⊢; omega)), hK14 _ _ ?_⟩
    refine Wp.block ?_
    refine Wp.adoptF 4 5 1 rfl ?_
    simp only [go_sem, simprocAttr]
    obtain ⟨k_107, hk_107, hm⟩ := loopN_cont hm
    refine Wp.loopN (fun s => [(0, .p (.s s_1)), (4, .buf 0), (5, .p (.s s.1))]) (fun s => [.buf 5 1 (List.map encI_u8 s.2)]) ?_ hm ?_
    ·
      simp only [go_sem, simprocAttr]
      try simp [encB, encI_i64, encI_u8, encS, enc_api_File, enc_api_Machine, enc_api_Service, enc_api_Setting, enc_disk_line, List.map_set, List.map_replicate]
    clear hm
    intro s nx_108 hm
    obtain ⟨b_87, o0_88⟩ := s
    try dsimp only at hm
    try dsimp only
    refine Wp.seqW fun K15 hK15 hW15 => ?_
    refine Wp.seqR fun K16 hK16 => ?_
    simp only [go_sem, simprocAttr]
    first
      | refine hK16 _ _ ?_
      | refine ⟨by first | exact sd, hK16 _ _ ?_⟩
    refine Wp.cond rfl ⟨⟩ (fun hc17 => ?_) (fun hc17 => ?_)
    · have hm := brT hm (by first | exact hc17 | simpa using hc17)
      refine Wp.skip ?_
      simp only [thenQ, blockQ, ↓reduceIte]
      refine hK15 _ _ ?_
      refine Wp.block ?_
      refine Wp.seqW fun K18 hK18 hW18 => ?_
      obtain ⟨c_109, hbc_109, hxc_109, hm⟩ := idxS_elim hm
      replace hxc_109 : ((b_87.getD 0 0).toNat : Int) = c_109 := hxc_109
      refine Wp.seqR fun K19 hK19 => ?_
      simp only [go_sem, simprocAttr, hxc_109]
      first
        | refine hK19 _ _ ?_
        | refine ⟨by first | exact sd, hK19 _ _ ?_⟩
      refine Wp.cond rfl ⟨⟩ (fun hc20 => ?_) (fun hc20 => ?_)
      · have hm := brT hm (by first | exact hc20 | simpa using hc20)
        obtain ⟨c_110, hm⟩ := chk_elim hm
        refine Wp.seqR fun K21 hK21 => ?_
        simp only [go_sem, simprocAttr, hxc_109]
        first
          | refine hK21 _ _ ?_
          | refine ⟨by first | exact sd | ((repeat' apply And.intro) <;> first | assumption | omega | (simp only [List.length_append, List.length_map, List.length_cons, List.length_nil, List.length_set, List.length_replicate] at c_110 ⊢; omega)), hK21 _ _ ?_⟩
        obtain ⟨c_111, hm⟩ := chk_elim hm
        refine Wp.seqR fun K22 hK22 => ?_
        simp only [go_sem, simprocAttr, hxc_109]
        first
          | refine hK22 _ _ ?_
          | refine ⟨by first | exact sd | ((repeat' apply And.intro) <;> first | assumption | omega | (simp only [List.length_append, List.length_map, List.length_cons, List.length_nil, List.length_set, List.length_replicate] at c_111 ⊢; omega)), hK22 _ _ ?_⟩
        refine Wp.exit ?_
        simp only [thenQ, blockQ, ↓reduceIte]
        refine ⟨(List.drop 1 b_87, o0_88 ++ [c_109]), hm, ?_⟩
        simp only [go_sem, simprocAttr, hxc_109]
        try simp [encB, encI_i64, encI_u8, encS, enc_api_File, enc_api_Machine, enc_api_Service, enc_api_Setting, enc_disk_line, List.map_set, List.map_replicate]
      · have hm := brF hm (by first | exact hc20 | simpa using hc20)
        refine Wp.skip ?_
        simp only [thenQ, blockQ, ↓reduceIte]
        refine hK18 _ _ ?_
        refine Wp.block ?_
        obtain ⟨c_112, hm⟩ := chk_elim hm
        obtain ⟨c_113, hm⟩ := chk_elim hm
        refine Wp.seqR fun K23 hK23 => ?_
        simp only [go_sem, simprocAttr, hxc_109]
        first
          | refine hK23 _ _ ?_
          | refine ⟨by first | exact sd | ((repeat' apply And.intro) <;> first | assumption | omega | (simp only [List.length_append, List.length_map, List.length_cons, List.length_nil, List.length_set, List.length_replicate] at c_112 c_113 ⊢; omega)), hK23 _ _ ?_⟩
        refine Wp.cond rfl ⟨⟩ (fun hc24 => ?_) (fun hc24 => ?_)
        · have hm := brT hm (by first | exact hc24 | simpa using hc24)
          obtain ⟨c_114, hbc_114, hxc_114, hm⟩ := idxS_elim hm
          replace hxc_114 : ((b_87.getD 1 0).toNat : Int) = c_114 := hxc_114
          obtain ⟨c_115, hm⟩ := chk_elim hm
          refine Wp.seqR fun K25 hK25 => ?_
          simp only [go_sem, simprocAttr, hxc_109, hxc_114]
          first
            | refine hK25 _ _ ?_
            | refine ⟨by first | exact sd | ((repeat' apply And.intro) <;> first | assumption | omega | (simp only [List.length_append, List.length_map, List.length_cons, List.length_nil, List.length_set, List.length_replicate] at c_115 ⊢; omega)), hK25 _ _ ?_⟩
          obtain ⟨c_116, hm⟩ := chk_elim hm
          refine Wp.region fun K26 hK26 => ?_
          simp only [go_sem, simprocAttr, hxc_109, hxc_114]
          first
            | refine hK26 _ _ ?_
            | refine ⟨by first | exact sd | ((repeat' apply And.intro) <;> first | assumption | omega | (simp only [List.length_append, List.length_map, List.length_cons, List.length_nil, List.length_set, List.length_replicate] at c_116 ⊢; omega)), hK26 _ _ ?_⟩
          simp only [thenQ, blockQ, ↓reduceIte]
          refine ⟨(List.drop 2 b_87, o0_88 ++ [c_114]), hm, ?_⟩
          simp only [go_sem, simprocAttr, hxc_109, hxc_114]
          try simp [encB, encI_i64, encI_u8, encS, enc_api_File, enc_api_Machine, enc_api_Service, enc_api_Setting, enc_disk_line, List.map_set, List.map_replicate]
        · have hm := brF hm (by first | exact hc24 | simpa using hc24)
          obtain ⟨c_117, hm⟩ := chk_elim hm
          refine Wp.seqR fun K27 hK27 => ?_
          simp only [go_sem, simprocAttr, hxc_109]
          first
            | refine hK27 _ _ ?_
            | refine ⟨by first | exact sd | ((repeat' apply And.intro) <;> first | assumption | omega | (simp only [List.length_append, List.length_map, List.length_cons, List.length_nil, List.length_set, List.length_replicate] at c_117 ⊢; omega)), hK27 _ _ ?_⟩
          refine Wp.cond rfl ⟨⟩ (fun hc28 => ?_) (fun hc28 => ?_)
          · have hm := brT hm (by first | exact hc28 | simpa using hc28)
            obtain ⟨c_118, hm⟩ := chk_elim hm
            refine Wp.seqR fun K29 hK29 => ?_
            simp only [go_sem, simprocAttr, hxc_109]
            first
              | refine hK29 _ _ ?_
              | refine ⟨by first | exact sd | ((repeat' apply And.intro) <;> first | assumption | omega | (simp only [List.length_append, List.length_map, List.length_cons, List.length_nil, List.length_set, List.length_replicate] at c_118 ⊢; omega)), hK29 _ _ ?_⟩
            obtain ⟨c_119, hm⟩ := chk_elim hm
            refine Wp.region fun K30 hK30 => ?_
            simp only [go_sem, simprocAttr, hxc_109]
            first
              | refine hK30 _ _ ?_
              | refine ⟨by first | exact sd | ((repeat' apply And.intro) <;> first | assumption | omega | (simp only [List.length_append, List.length_map, List.length_cons, List.length_nil, List.length_set, List.length_replicate] at c_119 ⊢; omega)), hK30 _ _ ?_⟩
            simp only [thenQ, blockQ, ↓reduceIte]
            refine ⟨(List.drop 2 b_87, o0_88 ++ [10]), hm, ?_⟩
            simp only [go_sem, simprocAttr, hxc_109]
            try simp [encB, encI_i64, encI_u8, encS, enc_api_File, enc_api_Machine, enc_api_Service, enc_api_Setting, enc_disk_line, List.map_set, List.map_replicate]
          · have hm := brF hm (by first | exact hc28 | simpa using hc28)
            obtain ⟨c_120, hm⟩ := chk_elim hm
            refine Wp.seqR fun K31 hK31 => ?_
            simp only [go_sem, simprocAttr, hxc_109]
            first
              | refine hK31 _ _ ?_
              | refine ⟨by first | exact sd | ((repeat' apply And.intro) <;> first | assumption | omega | (simp only [List.length_append, List.length_map, List.length_cons, List.length_nil, List.length_set, List.length_replicate] at c_120 ⊢; omega)), hK31 _ _ ?_⟩
            refine Wp.cond rfl ⟨⟩ (fun hc32 => ?_) (fun hc32 => ?_)
            · have hm := brT hm (by first | exact hc32 | simpa using hc32)
              obtain ⟨c_121, hm⟩ := chk_elim hm
              obtain ⟨r_122, hr_122, hm⟩ := call_elim hm
              obtain ⟨c_123, hm⟩ := chk_elim hm
              obtain ⟨r_124, hr_124, hm⟩ := call_elim hm
              refine Wp.seqD (plan := [(0, none), (1, none), (2, none), (3, none), (4, none), (5, none), (6, none), (7, none), (8, none)]) (by kernel_rfl) rfl (by kernel_rfl) fun K33 hK33 => ?_
              simp only [go_sem, simprocAttr, hxc_109]
              try refine ⟨by first | exact sd | ((repeat' apply And.intro) <;> first | assumption | omega | (simp only [List.length_append, List.length_map, List.length_cons, List.length_nil, List.length_set, List.length_replicate] at c_121 c_123 ⊢; omega)), ?_⟩
              refine Dr.callF (av := ?av34) (g := true) (o := ?o34) (fun hg => ok_strings_Index ([48, 49, 50, 51, 52, 53, 54, 55, 56, 57, 97, 98, 99, 100, 101, 102] : Str) (List.take (3 - 2) (List.drop 2 b_87)) _ hr_122) ?hk34 ?ha34 ?hb34 ?hp34 ?hok34 ?hf34 ?cont34
              case hk34 =>
                simp only [go_sem, simprocAttr, hxc_109]
                exact Is.mk
              case ha34 =>
                simp only [go_sem, simprocAttr, hxc_109]
                exact Is.mk
              case hb34 =>
                simp only [go_sem, simprocAttr, hxc_109]
                exact Is.mk
              case hp34 =>
                simp only [go_sem, simprocAttr, hxc_109]
                exact Is.mk
              case hok34 =>
                simp only [go_sem, simprocAttr, hxc_109]
              case hf34 =>
                simp only [go_sem, simprocAttr, hxc_109]
                exact Is.mk
              simp only [go_sem, simprocAttr, hxc_109]
              try refine ⟨by first | exact sd | ((repeat' apply And.intro) <;> first | assumption | omega | (simp only [List.length_append, List.length_map, List.length_cons, List.length_nil, List.length_set, List.length_replicate] at c_121 c_123 ⊢; omega)), ?_⟩
              refine Dr.callF (av := ?av35) (g := true) (o := ?o35) (fun hg => ok_strings_Index ([48, 49, 50, 51, 52, 53, 54, 55, 56, 57, 97, 98, 99, 100, 101, 102] : Str) (List.take (4 - 3) (List.drop 3 b_87)) _ hr_124) ?hk35 ?ha35 ?hb35 ?hp35 ?hok35 ?hf35 ?cont35
              case hk35 =>
                simp only [go_sem, simprocAttr, hxc_109]
                exact Is.mk
              case ha35 =>
                simp only [go_sem, simprocAttr, hxc_109]
                exact Is.mk
              case hb35 =>
                simp only [go_sem, simprocAttr, hxc_109]
                exact Is.mk
              case hp35 =>
                simp only [go_sem, simprocAttr, hxc_109]
                exact Is.mk
              case hok35 =>
                simp only [go_sem, simprocAttr, hxc_109]
              case hf35 =>
                simp only [go_sem, simprocAttr, hxc_109]
                exact Is.mk
              simp only [go_sem, simprocAttr, hxc_109]
              first
                | refine hK33 _ _ ?_
                | refine ⟨by first | exact sd | ((repeat' apply And.intro) <;> first | assumption | omega | (simp only [List.length_append, List.length_map, List.length_cons, List.length_nil, List.length_set, List.length_replicate] at c_121 c_123 ⊢; omega)), hK33 _ _ ?_⟩
              obtain ⟨c_125, hm⟩ := chk_elim hm
              refine Wp.seqR fun K36 hK36 => ?_
              simp only [go_sem, simprocAttr, hxc_109]
              first
                | refine hK36 _ _ ?_
                | refine ⟨by first | exact sd | ((repeat' apply And.intro) <;> first | assumption | omega | (simp only [List.length_append, List.length_map, List.length_cons, List.length_nil, List.length_set, List.length_replicate] at c_125 ⊢; omega)), hK36 _ _ ?_⟩
              obtain ⟨c_126, hm⟩ := chk_elim hm
              refine Wp.region fun K37 hK37 => ?_
              simp only [go_sem, simprocAttr, hxc_109]
              first
                | refine hK37 _ _ ?_
                | refine ⟨by first | exact sd | ((repeat' apply And.intro) <;> first | assumption | omega | (simp only [List.length_append, List.length_map, List.length_cons, List.length_nil, List.length_set, List.length_replicate] at c_126 ⊢; omega)), hK37 _ _ ?_⟩
              simp only [thenQ, blockQ, ↓reduceIte]
              refine ⟨(List.drop 4 b_87, o0_88 ++ [IntKind.u8.wrap (IntKind.i64.wrap ((IntKind.i64.wrap (r_122 * 16)) + r_124))]), hm, ?_⟩
              simp only [go_sem, simprocAttr, hxc_109]
              try simp [encB, encI_i64, encI_u8, encS, enc_api_File, enc_api_Machine, enc_api_Service, enc_api_Setting, enc_disk_line, List.map_set, List.map_replicate]
            · have hm := brF hm (by first | exact hc32 | simpa using hc32)
              refine Wp.seqR fun K38 hK38 => ?_
              simp only [go_sem, simprocAttr, hxc_109]
              first
                | refine hK38 _ _ ?_
                | refine ⟨by first | exact sd, hK38 _ _ ?_⟩
              refine Wp.ret ?_
              simp only [thenQ, blockQ]
              refine retQ_ret ?_
              cases hm
              simp only [go_sem, simprocAttr, hxc_109]
              try simp [encB, encI_i64, encI_u8, encS, enc_api_File, enc_api_Machine, enc_api_Service, enc_api_Setting, enc_disk_line, List.map_set, List.map_replicate]
    · have hm := brF hm (by first | exact hc17 | simpa using hc17)
      refine Wp.exit ?_
      simp only [thenQ, blockQ, ↓reduceIte]
      have hm := hk_107 _ hm
      try dsimp only at hm
      refine hW7 _ _ _ _ ?_ (hcut7 o0_88 hm)
      simp only [go_sem, simprocAttr]
      try simp [encB, encI_i64, encI_u8, encS, enc_api_File, enc_api_Machine, enc_api_Service, enc_api_Setting, enc_disk_line, List.map_set, List.map_replicate]
set_option maxRecDepth 100000 in
set_option maxHeartbeats 4000000 in
theorem ok_R_quoted (s_1 : Str) (z : Str × Str × Bool) (hm : R_quoted s_1 = some z) : Does Tryd.prog 64 [.p (.s s_1)] [] (fun r X => r = .tup [.p (.s z.1), .p (.s z.2.1), .p (.b z.2.2)] ∧ X = []) := by
  unfold R_quoted at hm
  refine Does.of_wp 0 30 [.tmp 2, .tmp 3, .tmp 4] Tryd.func64 rfl (by decide) rfl rfl (Nat.le_of_ble_eq_true rfl) fun B => ?_
  refine Wp.seqR fun K1 hK1 => ?_
  simp only [go_sem, simprocAttr]
  first
    | refine hK1 _ _ ?_
    | refine ⟨by first | exact sd, hK1 _ _ ?_⟩
  obtain ⟨r_2, hr_2, hm⟩ := call_elim hm
  refine Wp.seqR fun K2 hK2 => ?_
  simp only [go_sem, simprocAttr]
  try refine ⟨by first | exact sd, ?_⟩
  refine Rg.callX (av := ?av3) (g := true) (fun hg => ok_strings_Cut s_1 ([32] : Str) _ hr_2) ?ha3 ?hb3 ?hp3 ?hok3 ?hf3 ?cont3
  case ha3 =>
    simp only [go_sem, simprocAttr]
    exact Is.mk
  case hb3 =>
    simp only [go_sem, simprocAttr]
    exact Is.mk
  case hp3 =>
    simp only [go_sem, simprocAttr]
    exact Is.mk
  case hok3 =>
    simp only [go_sem, simprocAttr]
  case hf3 =>
    simp only [go_sem, simprocAttr]
    exact Is.mk
  intro hv3
  simp only [go_sem, simprocAttr]
  first
    | refine hK2 _ _ ?_
    | refine ⟨by first | exact sd, hK2 _ _ ?_⟩
  obtain ⟨r_3, hr_3, hm⟩ := call_elim hm
  refine Wp.seqR fun K4 hK4 => ?_
  simp only [go_sem, simprocAttr]
  try refine ⟨by first | exact sd, ?_⟩
  refine Rg.callX (av := ?av5) (g := true) (fun hg => ok_R_Unquote r_2.2.1 _ hr_3) ?ha5 ?hb5 ?hp5 ?hok5 ?hf5 ?cont5
  case ha5 =>
    simp only [go_sem, simprocAttr]
    exact Is.mk
  case hb5 =>
    simp only [go_sem, simprocAttr]
    exact Is.mk
  case hp5 =>
    simp only [go_sem, simprocAttr]
    exact Is.mk
  case hok5 =>
    simp only [go_sem, simprocAttr]
  case hf5 =>
    simp only [go_sem, simprocAttr]
    exact Is.mk
  intro hv5
  simp only [go_sem, simprocAttr]
  first
    | refine hK4 _ _ ?_
    | refine ⟨by first | exact sd, hK4 _ _ ?_⟩
  refine Wp.seqR fun K6 hK6 => ?_
  simp only [go_sem, simprocAttr]
  first
    | refine hK6 _ _ ?_
    | refine ⟨by first | exact sd, hK6 _ _ ?_⟩
  refine Wp.ret ?_
  refine retQ_ret ?_
  cases hm
  simp only [go_sem, simprocAttr]
  try simp [encB, encI_i64, encI_u8, encS, enc_api_File, enc_api_Machine, enc_api_Service, enc_api_Setting, enc_disk_line, List.map_set, List.map_replicate]
set_option maxRecDepth 100000 in
set_option maxHeartbeats 4000000 in
theorem ok_R_serviceOf (w_1 : List Str) (z : api_Service × Bool) (hm : R_serviceOf w_1 = some z) : Does Tryd.prog 65 [.p (.l (List.map encS w_1))] [] (fun r X => r = .tup [.agg [.p (.s z.1.Name), .p (.s z.1.Path), .p (.b z.1.Auto), .p (.b z.1.On)], .p (.b z.2)] ∧ X = []) := by
  unfold R_serviceOf at hm
  refine Does.of_wp 0 59 [.cell 2 53, .tmp 3] Tryd.func65 rfl (by decide) rfl rfl (Nat.le_of_ble_eq_true rfl) fun B => ?_
  refine Wp.seqR fun K1 hK1 => ?_
  simp only [go_sem, simprocAttr]
  first
    | refine hK1 _ _ ?_
    | refine ⟨by first | exact sd, hK1 _ _ ?_⟩
  refine Wp.seqW fun K2 hK2 hW2 => ?_
  obtain ⟨c_2, hm⟩ := chk_elim hm
  obtain ⟨c_3, hm⟩ := chk_elim hm
  obtain ⟨c_4, hm⟩ := chk_elim hm
  obtain ⟨c_5, hm⟩ := chk_elim hm
  obtain ⟨c_6, hm⟩ := chk_elim hm
  obtain ⟨c_7, hm⟩ := chk_elim hm
  have hr_8 := getD_enc (l := w_1) (e := encS) (d := []) (i := 0)
  simp only [encS, List.map_nil] at hr_8
  have hr_9 := getD_enc (l := w_1) (e := encS) (d := []) (i := 1)
  simp only [encS, List.map_nil] at hr_9
  have hr_10 := getD_enc (l := w_1) (e := encS) (d := []) (i := 2)
  simp only [encS, List.map_nil] at hr_10
  have hr_11 := getD_enc (l := w_1) (e := encS) (d := []) (i := 3)
  simp only [encS, List.map_nil] at hr_11
  refine Wp.seqR fun K3 hK3 => ?_
  simp only [go_sem, simprocAttr, hr_8, hr_9, hr_10, hr_11]
  first
    | refine hK3 _ _ ?_
    | refine ⟨by first | exact sd | ((repeat' apply And.intro) <;> first | assumption | omega | (simp only [List.length_append, List.length_map, List.length_cons, List.length_nil, List.length_set, List.length_replicate] at c_2 c_3 c_4 c_5 c_6 c_7 ⊢; omega)), hK3 _ _ ?_⟩
  refine Wp.cond rfl ⟨⟩ (fun hc4 => ?_) (fun hc4 => ?_)
  · have hm := brT hm (by first | exact hc4 | simpa using hc4)
    refine Wp.seqR fun K5 hK5 => ?_
    simp only [go_sem, simprocAttr]
    first
      | refine hK5 _ _ ?_
      | refine ⟨by first | exact sd, hK5 _ _ ?_⟩
    refine Wp.ret ?_
    simp only [thenQ, blockQ]
    refine retQ_ret ?_
    cases hm
    simp only [go_sem, simprocAttr]
    try simp [encB, encI_i64, encI_u8, encS, enc_api_File, enc_api_Machine, enc_api_Service, enc_api_Setting, enc_disk_line, List.map_set, List.map_replicate]
  · have hm := brF hm (by first | exact hc4 | simpa using hc4)
    refine Wp.skip ?_
    simp only [thenQ, blockQ, ↓reduceIte]
    refine hK2 _ _ ?_
    obtain ⟨s_12, hbs_12, hxs_12, hys_12, hm⟩ := idx_elim hm
    replace hxs_12 : ∀ d, (List.map encS w_1).getD 0 d = encS s_12 := hxs_12 encS
    obtain ⟨s_13, hbs_13, hxs_13, hys_13, hm⟩ := idx_elim hm
    replace hxs_13 : ∀ d, (List.map encS w_1).getD 1 d = encS s_13 := hxs_13 encS
    obtain ⟨s_14, hbs_14, hxs_14, hys_14, hm⟩ := idx_elim hm
    replace hxs_14 : ∀ d, (List.map encS w_1).getD 2 d = encS s_14 := hxs_14 encS
    obtain ⟨s_15, hbs_15, hxs_15, hys_15, hm⟩ := idx_elim hm
    replace hxs_15 : ∀ d, (List.map encS w_1).getD 3 d = encS s_15 := hxs_15 encS
    refine Wp.seqD (plan := [(0, none), (1, none), (2, none), (3, none), (4, none), (5, none), (6, none), (7, none), (8, none), (9, none), (10, none), (11, none), (12, none), (13, none), (14, none), (15, some []), (16, none)]) (by kernel_rfl) rfl (by kernel_rfl) fun K6 hK6 => ?_
    simp only [go_sem, simprocAttr, hxs_12, hxs_13, hxs_14, hxs_15]
    first
      | refine hK6 _ _ ?_
      | refine ⟨by first | exact sd, hK6 _ _ ?_⟩
    refine Wp.ret ?_
    refine retQ_ret ?_
    cases hm
    simp only [go_sem, simprocAttr, hxs_12, hxs_13, hxs_14, hxs_15]
    try simp [encB, encI_i64, encI_u8, encS, enc_api_File, enc_api_Machine, enc_api_Service, enc_api_Setting, enc_disk_line, List.map_set, List.map_replicate]
set_option maxRecDepth 100000 in
set_option maxHeartbeats 4000000 in
theorem ok_R_Parse (text_1 : Str) (z : api_Machine × Int × Int) (hm : R_Parse text_1 = some z) : Does Tryd.prog 16 [.p (.s text_1)] [] (fun r X => r = .tup [.agg [.p (.l (List.map enc_api_Setting z.1.Facts)), .p (.l (List.map enc_api_File z.1.Files)), .p (.l (List.map enc_api_Setting z.1.Settings)), .p (.l (List.map enc_api_Service z.1.Services))], .p (.i .i64 z.2.1), .p (.i .i64 z.2.2)] ∧ X = []) := by
  unfold R_Parse at hm
  refine Does.of_wp 0 126 [.cell 2 26, .tmp 3, .tmp 4] Tryd.func16 rfl (by decide) rfl rfl (Nat.le_of_ble_eq_true rfl) fun B => ?_
  refine Wp.seqR fun K1 hK1 => ?_
  simp only [go_sem, simprocAttr]
  first
    | refine hK1 _ _ ?_
    | refine ⟨by first | exact sd, hK1 _ _ ?_⟩
  refine Wp.seqW fun K2 hK2 hW2 => ?_
  refine Wp.seqR fun K3 hK3 => ?_
  simp only [go_sem, simprocAttr]
  first
    | refine hK3 _ _ ?_
    | refine ⟨by first | exact sd, hK3 _ _ ?_⟩
  refine Wp.cond rfl ⟨⟩ (fun hc4 => ?_) (fun hc4 => ?_)
  · have hm := brT hm (by first | exact hc4 | simpa using hc4)
    refine Wp.seqR fun K5 hK5 => ?_
    simp only [go_sem, simprocAttr]
    first
      | refine hK5 _ _ ?_
      | refine ⟨by first | exact sd, hK5 _ _ ?_⟩
    refine Wp.ret ?_
    simp only [thenQ, blockQ]
    refine retQ_retE ?_
    cases hm
    simp only [go_sem, simprocAttr]
    try simp [encB, encI_i64, encI_u8, encS, enc_api_File, enc_api_Machine, enc_api_Service, enc_api_Setting, enc_disk_line, List.map_set, List.map_replicate]
  · have hm := brF hm (by first | exact hc4 | simpa using hc4)
    refine Wp.skip ?_
    simp only [thenQ, blockQ, ↓reduceIte]
    refine hK2 _ _ ?_
    refine Wp.seqR fun K6 hK6 => ?_
    simp only [go_sem, simprocAttr]
    first
      | refine hK6 _ _ ?_
      | refine ⟨by first | exact sd, hK6 _ _ ?_⟩
    refine Wp.seqR fun K7 hK7 => ?_
    simp only [go_sem, simprocAttr]
    first
      | refine hK7 _ _ ?_
      | refine ⟨by first | exact sd, hK7 _ _ ?_⟩
    obtain ⟨r_2, hr_2, hm⟩ := call_elim hm
    refine Wp.seqR fun K8 hK8 => ?_
    simp only [go_sem, simprocAttr]
    try refine ⟨by first | exact sd, ?_⟩
    refine Rg.callF (av := ?av9) (ok_R_cutLines text_1 _ hr_2) ?ha9 ?hp9 ?hok9 ?cont9
    case ha9 =>
      simp only [go_sem, simprocAttr]
      exact Is.mk
    case hp9 =>
      simp only [go_sem, simprocAttr]
      exact Is.mk
    case hok9 =>
      simp only [go_sem, simprocAttr]
    intro hv9
    simp only [go_sem, simprocAttr]
    first
      | refine hK8 _ _ ?_
      | refine ⟨by first | exact sd, hK8 _ _ ?_⟩
    refine Wp.seqW fun K10 hK10 hW10 => ?_
    obtain ⟨k_265, hk_265, hm⟩ := jp_elim hm
    have hcut10 : ∀ s, k_265 s = some z → K10 [(2, .ptr 0 0), (5, .ptr 1 0)] [.cells 26 [.nils, .nils, .nils, .nils], .cells 26 [.buf 2, .buf 3, .buf 4, .buf 5], .buf 51 2 (List.map enc_api_Setting s.1), .buf 49 3 (List.map enc_api_File s.2.1), .buf 51 2 (List.map enc_api_Setting s.2.2.1), .buf 53 4 (List.map enc_api_Service s.2.2.2)] := by
      intro s hs
      have hm := hk_265 _ hs
      clear hs
      obtain ⟨o2_261, o3_262, o4_263, o5_264⟩ := s
      try dsimp only at hm
      try dsimp only
      refine hK10 _ _ ?_
      refine Wp.seqW fun K11 hK11 hW11 => ?_
      obtain ⟨r_266, hr_266, hm⟩ := call_elim hm
      refine Wp.seqR fun K12 hK12 => ?_
      simp only [go_sem, simprocAttr]
      try refine ⟨by first | exact sd, ?_⟩
      refine Rg.callX (av := ?av13) (g := true) (fun hg => ok_R_Check (api_Machine.mk o2_261 o3_262 o4_263 o5_264) _ hr_266) ?ha13 ?hb13 ?hp13 ?hok13 ?hf13 ?cont13
      case ha13 =>
        simp only [go_sem, simprocAttr]
        exact Is.mk
      case hb13 =>
        simp only [go_sem, simprocAttr]
        exact Is.mk
      case hp13 =>
        simp only [go_sem, simprocAttr]
        exact Is.mk
      case hok13 =>
        simp only [go_sem, simprocAttr]
      case hf13 =>
        simp only [go_sem, simprocAttr]
        exact Is.mk
      intro hv13
      simp only [go_sem, simprocAttr]
      first
        | refine hK12 _ _ ?_
        | refine ⟨by first | exact sd, hK12 _ _ ?_⟩
      refine Wp.seqR fun K14 hK14 => ?_
      simp only [go_sem, simprocAttr]
      first
        | refine hK14 _ _ ?_
        | refine ⟨by first | exact sd, hK14 _ _ ?_⟩
      refine Wp.cond rfl ⟨⟩ (fun hc15 => ?_) (fun hc15 => ?_)
      · have hm := brT hm (by first | exact hc15 | simpa using hc15)
        refine Wp.seqR fun K16 hK16 => ?_
        simp only [go_sem, simprocAttr]
        first
          | refine hK16 _ _ ?_
          | refine ⟨by first | exact sd, hK16 _ _ ?_⟩
        refine Wp.ret ?_
        simp only [thenQ, blockQ]
        refine retQ_retE ?_
        cases hm
        simp only [go_sem, simprocAttr]
        try simp [encB, encI_i64, encI_u8, encS, enc_api_File, enc_api_Machine, enc_api_Service, enc_api_Setting, enc_disk_line, List.map_set, List.map_replicate]
      · have hm := brF hm (by first | exact hc15 | simpa using hc15)
        refine Wp.skip ?_
        simp only [thenQ, blockQ, ↓reduceIte]
        refine hK11 _ _ ?_
        refine Wp.seqR fun K17 hK17 => ?_
        simp only [go_sem, simprocAttr]
        first
          | refine hK17 _ _ ?_
          | refine ⟨by first | exact sd, hK17 _ _ ?_⟩
        refine Wp.ret ?_
        refine retQ_ret ?_
        cases hm
        simp only [go_sem, simprocAttr]
        try simp [encB, encI_i64, encI_u8, encS, enc_api_File, enc_api_Machine, enc_api_Service, enc_api_Setting, enc_disk_line, List.map_set, List.map_replicate]
    clear hK10 hk_265
    refine Wp.seqR fun K18 hK18 => ?_
    simp only [go_sem, simprocAttr]
    first
      | refine hK18 _ _ ?_
      | refine ⟨by first | exact sd, hK18 _ _ ?_⟩
    refine Wp.block ?_
    refine Wp.adoptO 1 0 51 2 rfl rfl ?_
    simp only [go_sem, simprocAttr]
    refine Wp.adoptO 1 1 49 3 rfl rfl ?_
    simp only [go_sem, simprocAttr]
    refine Wp.adoptO 1 2 51 2 rfl rfl ?_
    simp only [go_sem, simprocAttr]
    refine Wp.adoptO 1 3 53 4 rfl rfl ?_
    simp only [go_sem, simprocAttr]
    obtain ⟨k_497, hk_497, hm⟩ := forL_cont hm
    refine Wp.fact 30 fun hl_500 => ?_
    replace hl_500 : r_2.1.length ≤ 274877906944 := by
      simp only [go_sem, simprocAttr, List.length_map] at hl_500
      omega
    refine Wp.forL (fun i_499 s => [(2, .ptr 0 0), (5, .ptr 1 0), (6, .p (.i .i64 s.1)), (8, .p (.i .i64 r_2.2)), (30, .p (.l (List.map encS r_2.1))), (31, .p (.i .i64 (r_2.1.length : Int))), (32, .p (.i .i64 (i_499 : Int)))]) (fun i_499 s => [.cells 26 [.nils, .nils, .nils, .nils], .cells 26 [.buf 2, .buf 3, .buf 4, .buf 5], .buf 51 2 (List.map enc_api_Setting s.2.1), .buf 49 3 (List.map enc_api_File s.2.2.1), .buf 51 2 (List.map enc_api_Setting s.2.2.2.1), .buf 53 4 (List.map enc_api_Service s.2.2.2.2)]) ?_ hm ?_
    ·
      simp only [go_sem, simprocAttr]
      try simp [encB, encI_i64, encI_u8, encS, enc_api_File, enc_api_Machine, enc_api_Service, enc_api_Setting, enc_disk_line, List.map_set, List.map_replicate]
    clear hm
    intro i_499 s hii_499 hm
    obtain ⟨stage_467, o2_469, o3_470, o4_471, o5_472⟩ := s
    try dsimp only at hm
    try dsimp only
    refine Wp.seqR fun K19 hK19 => ?_
    simp only [go_sem, simprocAttr]
    first
      | refine hK19 _ _ ?_
      | refine ⟨by first | exact sd, hK19 _ _ ?_⟩
    refine Wp.seqW fun K20 hK20 hW20 => ?_
    refine Wp.cond rfl ⟨⟩ (fun hc20 => ?_) (fun hc20 => ?_)
    rotate_left
    · refine Wp.exit ?_
      have hm := hk_497 _ (forL_end hm (ge_nat (by first | exact hc20 | simpa using hc20)))
      try dsimp only at hm
      simp only [thenQ, blockQ, ↓reduceIte]
      refine hW10 _ _ _ _ ?_ (hcut10 (o2_469, o3_470, o4_471, o5_472) hm)
      simp only [go_sem, simprocAttr]
      try simp [encB, encI_i64, encI_u8, encS, enc_api_File, enc_api_Machine, enc_api_Service, enc_api_Setting, enc_disk_line, List.map_set, List.map_replicate]
    have hlt20 := lt_nat (by first | exact hc20 | simpa using hc20)
    have hw20 := wrap_succ hlt20 hl_500
    obtain ⟨s_501, nx_498, hxs_501, hys_501, hnx_498, hm⟩ := forL_step hm hlt20
    replace hxs_501 := hxs_501 encS
    refine Wp.skip ?_
    simp only [thenQ]
    refine hK20 _ _ ?_
    refine Wp.seqW fun K21 hK21 hW21 => ?_
    refine Wp.block ?_
    refine Wp.seqR fun K22 hK22 => ?_
    simp only [go_sem, simprocAttr, hw20, hxs_501]
    first
      | refine hK22 _ _ ?_
      | refine ⟨by first | exact sd, hK22 _ _ ?_⟩
    obtain ⟨r_502, hr_502, hm⟩ := call_elim hm
    refine Wp.seqR fun K23 hK23 => ?_
    simp only [go_sem, simprocAttr, hw20, hxs_501]
    try refine ⟨by first | exact sd, ?_⟩
    refine Rg.callX (av := ?av24) (g := true) (fun hg => ok_strings_Cut s_501 ([32] : Str) _ hr_502) ?ha24 ?hb24 ?hp24 ?hok24 ?hf24 ?cont24
    case ha24 =>
      simp only [go_sem, simprocAttr, hw20, hxs_501]
      exact Is.mk
    case hb24 =>
      simp only [go_sem, simprocAttr, hw20, hxs_501]
      exact Is.mk
    case hp24 =>
      simp only [go_sem, simprocAttr, hw20, hxs_501]
      exact Is.mk
    case hok24 =>
      simp only [go_sem, simprocAttr, hw20, hxs_501]
    case hf24 =>
      simp only [go_sem, simprocAttr, hw20, hxs_501]
      exact Is.mk
    intro hv24
    simp only [go_sem, simprocAttr, hw20, hxs_501]
    first
      | refine hK23 _ _ ?_
      | refine ⟨by first | exact sd, hK23 _ _ ?_⟩
    obtain ⟨r_503, hr_503, hm⟩ := call_elim hm
    refine Wp.seqR fun K25 hK25 => ?_
    simp only [go_sem, simprocAttr, hw20, hxs_501]
    try refine ⟨by first | exact sd, ?_⟩
    refine Rg.callX (av := ?av26) (g := true) (fun hg => ok_slices_Index_string_string [([102, 97, 99, 116] : Str), ([102, 105, 108, 101] : Str), ([115, 101, 116] : Str), ([115, 101, 114, 118, 105, 99, 101] : Str), ([114, 117, 110] : Str)] r_502.1 _ hr_503) ?ha26 ?hb26 ?hp26 ?hok26 ?hf26 ?cont26
    case ha26 =>
      simp only [go_sem, simprocAttr, hw20, hxs_501]
      exact Is.mk
    case hb26 =>
      simp only [go_sem, simprocAttr, hw20, hxs_501]
      exact Is.mk
    case hp26 =>
      simp only [go_sem, simprocAttr, hw20, hxs_501]
      exact Is.mk
    case hok26 =>
      simp only [go_sem, simprocAttr, hw20, hxs_501]
    case hf26 =>
      simp only [go_sem, simprocAttr, hw20, hxs_501]
      exact Is.mk
    intro hv26
    simp only [go_sem, simprocAttr, hw20, hxs_501]
    first
      | refine hK25 _ _ ?_
      | refine ⟨by first | exact sd, hK25 _ _ ?_⟩
    refine Wp.seqW fun K27 hK27 hW27 => ?_
    obtain ⟨k_505, hk_505, hm⟩ := jp_elim hm
    have hcut27 : ∀ s, k_505 s = some z → K27 [(2, .ptr 0 0), (5, .ptr 1 0), (6, .p (.i .i64 stage_467)), (8, .p (.i .i64 r_2.2)), (9, .p (.i .i64 (i_499 : Int))), (11, .p (.s r_502.1)), (12, .p (.s r_502.2.1)), (14, .p (.i .i64 s)), (30, .p (.l (List.map encS r_2.1))), (31, .p (.i .i64 (r_2.1.length : Int))), (32, .p (.i .i64 (i_499 : Int)))] [.cells 26 [.nils, .nils, .nils, .nils], .cells 26 [.buf 2, .buf 3, .buf 4, .buf 5], .buf 51 2 (List.map enc_api_Setting o2_469), .buf 49 3 (List.map enc_api_File o3_470), .buf 51 2 (List.map enc_api_Setting o4_471), .buf 53 4 (List.map enc_api_Service o5_472)] := by
      intro at_504 hs
      have hm := hk_505 _ hs
      clear hs
      try dsimp only at hm
      try dsimp only
      refine hK27 _ _ ?_
      refine Wp.seqR fun K28 hK28 => ?_
      simp only [go_sem, simprocAttr, hw20, hxs_501]
      first
        | refine hK28 _ _ ?_
        | refine ⟨by first | exact sd, hK28 _ _ ?_⟩
      refine Wp.seqR fun K29 hK29 => ?_
      simp only [go_sem, simprocAttr, hw20, hxs_501]
      first
        | refine hK29 _ _ ?_
        | refine ⟨by first | exact sd, hK29 _ _ ?_⟩
      obtain ⟨r_506, hr_506, hm⟩ := call_elim hm
      refine Wp.seqR fun K30 hK30 => ?_
      simp only [go_sem, simprocAttr, hw20, hxs_501]
      try refine ⟨by first | exact sd, ?_⟩
      refine Rg.callX (av := ?av31) (g := true) (fun hg => ok_R_quoted r_502.2.1 _ hr_506) ?ha31 ?hb31 ?hp31 ?hok31 ?hf31 ?cont31
      case ha31 =>
        simp only [go_sem, simprocAttr, hw20, hxs_501]
        exact Is.mk
      case hb31 =>
        simp only [go_sem, simprocAttr, hw20, hxs_501]
        exact Is.mk
      case hp31 =>
        simp only [go_sem, simprocAttr, hw20, hxs_501]
        exact Is.mk
      case hok31 =>
        simp only [go_sem, simprocAttr, hw20, hxs_501]
      case hf31 =>
        simp only [go_sem, simprocAttr, hw20, hxs_501]
        exact Is.mk
      intro hv31
      simp only [go_sem, simprocAttr, hw20, hxs_501]
      first
        | refine hK30 _ _ ?_
        | refine ⟨by first | exact sd, hK30 _ _ ?_⟩
      refine Wp.seqW fun K32 hK32 hW32 => ?_
      obtain ⟨k_518, hk_518, hm⟩ := jp_elim hm
      have hcut32 : ∀ s, k_518 s = some z → K32 [(2, .ptr 0 0), (5, .ptr 1 0), (6, .p (.i .i64 at_504)), (8, .p (.i .i64 r_2.2)), (9, .p (.i .i64 (i_499 : Int))), (15, .p (.b ((decide (stage_467 ≤ at_504)) && (!decide ((i_499 : Int) = r_2.2))))), (18, .p (.b s.1)), (30, .p (.l (List.map encS r_2.1))), (31, .p (.i .i64 (r_2.1.length : Int))), (32, .p (.i .i64 (i_499 : Int)))] [.cells 26 [.nils, .nils, .nils, .nils], .cells 26 [.buf 2, .buf 3, .buf 4, .buf 5], .buf 51 2 (List.map enc_api_Setting s.2.1), .buf 49 3 (List.map enc_api_File s.2.2.1), .buf 51 2 (List.map enc_api_Setting s.2.2.2.1), .buf 53 4 (List.map enc_api_Service s.2.2.2.2)] := by
        intro s hs
        have hm := hk_518 _ hs
        clear hs
        obtain ⟨is_513, o2_514, o3_515, o4_516, o5_517⟩ := s
        try dsimp only at hm
        try dsimp only
        refine hK32 _ _ ?_
        refine Wp.seqR fun K33 hK33 => ?_
        simp only [go_sem, simprocAttr, hw20, hxs_501]
        first
          | refine hK33 _ _ ?_
          | refine ⟨by first | exact sd, hK33 _ _ ?_⟩
        refine Wp.cond rfl ⟨⟩ (fun hc34 => ?_) (fun hc34 => ?_)
        · have hm := brT hm (by first | exact hc34 | simpa using hc34)
          refine Wp.seqR fun K35 hK35 => ?_
          simp only [go_sem, simprocAttr, hw20, hxs_501]
          first
            | refine hK35 _ _ ?_
            | refine ⟨by first | exact sd, hK35 _ _ ?_⟩
          refine Wp.ret ?_
          simp only [thenQ, blockQ]
          refine retQ_retE ?_
          cases hm
          simp only [go_sem, simprocAttr, hw20, hxs_501]
          try simp [encB, encI_i64, encI_u8, encS, enc_api_File, enc_api_Machine, enc_api_Service, enc_api_Setting, enc_disk_line, List.map_set, List.map_replicate]
        · have hm := brF hm (by first | exact hc34 | simpa using hc34)
          refine Wp.skip ?_
          simp only [thenQ, blockQ, ↓reduceIte]
          refine hK21 _ _ ?_
          refine Wp.region fun K36 hK36 => ?_
          simp only [go_sem, simprocAttr, hw20, hxs_501]
          first
            | refine hK36 _ _ ?_
            | refine ⟨by first | exact sd, hK36 _ _ ?_⟩
          simp only [thenQ, blockQ, ↓reduceIte]
          refine ⟨(at_504, o2_514, o3_515, o4_516, o5_517), hlt20, hnx_498 _ hm, ?_⟩
          simp only [go_sem, simprocAttr, hw20, hxs_501]
          try simp [encB, encI_i64, encI_u8, encS, enc_api_File, enc_api_Machine, enc_api_Service, enc_api_Setting, enc_disk_line, List.map_set, List.map_replicate]
      clear hK32 hk_518
      refine Wp.seqR fun K37 hK37 => ?_
      simp only [go_sem, simprocAttr, hw20, hxs_501]
      first
        | refine hK37 _ _ ?_
        | refine ⟨by first | exact sd, hK37 _ _ ?_⟩
      refine Wp.block ?_
      refine Wp.seqR fun K38 hK38 => ?_
      simp only [go_sem, simprocAttr, hw20, hxs_501]
      first
        | refine hK38 _ _ ?_
        | refine ⟨by first | exact sd, hK38 _ _ ?_⟩
      refine Wp.cond rfl ⟨⟩ (fun hc39 => ?_) (fun hc39 => ?_)
      · have hm := brT hm (by first | exact hc39 | simpa using hc39)
        obtain ⟨c_519, hm⟩ := chk_elim hm
        refine Wp.region fun K40 hK40 => ?_
        simp only [go_sem, simprocAttr, hw20, hxs_501]
        first
          | refine hK40 _ _ ?_
          | refine ⟨by first | exact sd | ((repeat' apply And.intro) <;> first | assumption | omega | (simp only [List.length_append, List.length_map, List.length_cons, List.length_nil, List.length_set, List.length_replicate] at c_519 ⊢; omega)), hK40 _ _ ?_⟩
        simp only [thenQ, blockQ, ↓reduceIte]
        refine hW32 _ _ _ _ ?_ (hcut32 (r_506.2.2, o2_469 ++ [(api_Setting.mk r_506.1 r_506.2.1)], o3_470, o4_471, o5_472) hm)
        simp only [go_sem, simprocAttr, hw20, hxs_501]
        try simp [encB, encI_i64, encI_u8, encS, enc_api_File, enc_api_Machine, enc_api_Service, enc_api_Setting, enc_disk_line, List.map_set, List.map_replicate]
      · have hm := brF hm (by first | exact hc39 | simpa using hc39)
        refine Wp.seqR fun K41 hK41 => ?_
        simp only [go_sem, simprocAttr, hw20, hxs_501]
        first
          | refine hK41 _ _ ?_
          | refine ⟨by first | exact sd, hK41 _ _ ?_⟩
        refine Wp.cond rfl ⟨⟩ (fun hc42 => ?_) (fun hc42 => ?_)
        · have hm := brT hm (by first | exact hc42 | simpa using hc42)
          obtain ⟨c_520, hm⟩ := chk_elim hm
          refine Wp.region fun K43 hK43 => ?_
          simp only [go_sem, simprocAttr, hw20, hxs_501]
          first
            | refine hK43 _ _ ?_
            | refine ⟨by first | exact sd | ((repeat' apply And.intro) <;> first | assumption | omega | (simp only [List.length_append, List.length_map, List.length_cons, List.length_nil, List.length_set, List.length_replicate] at c_520 ⊢; omega)), hK43 _ _ ?_⟩
          simp only [thenQ, blockQ, ↓reduceIte]
          refine hW32 _ _ _ _ ?_ (hcut32 (r_506.2.2, o2_469, o3_470 ++ [(api_File.mk r_506.1 r_506.2.1 (decide (r_502.1 = ([114, 117, 110] : Str))))], o4_471, o5_472) hm)
          simp only [go_sem, simprocAttr, hw20, hxs_501]
          try simp [encB, encI_i64, encI_u8, encS, enc_api_File, enc_api_Machine, enc_api_Service, enc_api_Setting, enc_disk_line, List.map_set, List.map_replicate]
        · have hm := brF hm (by first | exact hc42 | simpa using hc42)
          refine Wp.seqR fun K44 hK44 => ?_
          simp only [go_sem, simprocAttr, hw20, hxs_501]
          first
            | refine hK44 _ _ ?_
            | refine ⟨by first | exact sd, hK44 _ _ ?_⟩
          refine Wp.cond rfl ⟨⟩ (fun hc45 => ?_) (fun hc45 => ?_)
          · have hm := brT hm (by first | exact hc45 | simpa using hc45)
            obtain ⟨c_521, hm⟩ := chk_elim hm
            refine Wp.region fun K46 hK46 => ?_
            simp only [go_sem, simprocAttr, hw20, hxs_501]
            first
              | refine hK46 _ _ ?_
              | refine ⟨by first | exact sd | ((repeat' apply And.intro) <;> first | assumption | omega | (simp only [List.length_append, List.length_map, List.length_cons, List.length_nil, List.length_set, List.length_replicate] at c_521 ⊢; omega)), hK46 _ _ ?_⟩
            simp only [thenQ, blockQ, ↓reduceIte]
            refine hW32 _ _ _ _ ?_ (hcut32 (r_506.2.2, o2_469, o3_470, o4_471 ++ [(api_Setting.mk r_506.1 r_506.2.1)], o5_472) hm)
            simp only [go_sem, simprocAttr, hw20, hxs_501]
            try simp [encB, encI_i64, encI_u8, encS, enc_api_File, enc_api_Machine, enc_api_Service, enc_api_Setting, enc_disk_line, List.map_set, List.map_replicate]
          · have hm := brF hm (by first | exact hc45 | simpa using hc45)
            refine Wp.seqR fun K47 hK47 => ?_
            simp only [go_sem, simprocAttr, hw20, hxs_501]
            first
              | refine hK47 _ _ ?_
              | refine ⟨by first | exact sd, hK47 _ _ ?_⟩
            refine Wp.cond rfl ⟨⟩ (fun hc48 => ?_) (fun hc48 => ?_)
            · have hm := brT hm (by first | exact hc48 | simpa using hc48)
              refine Wp.seqR fun K49 hK49 => ?_
              simp only [go_sem, simprocAttr, hw20, hxs_501]
              first
                | refine hK49 _ _ ?_
                | refine ⟨by first | exact sd, hK49 _ _ ?_⟩
              obtain ⟨r_522, hr_522, hm⟩ := call_elim hm
              obtain ⟨r_523, hr_523, hm⟩ := call_elim hm
              refine Wp.seqR fun K50 hK50 => ?_
              simp only [go_sem, simprocAttr, hw20, hxs_501]
              try refine ⟨by first | exact sd, ?_⟩
              refine Rg.callF (av := ?av51) (ok_strings_Split r_502.2.1 ([32] : Str) _ hr_522) ?ha51 ?hp51 ?hok51 ?cont51
              case ha51 =>
                simp only [go_sem, simprocAttr, hw20, hxs_501]
                exact Is.mk
              case hp51 =>
                simp only [go_sem, simprocAttr, hw20, hxs_501]
                exact Is.mk
              case hok51 =>
                simp only [go_sem, simprocAttr, hw20, hxs_501]
              intro hv51
              simp only [go_sem, simprocAttr, hw20, hxs_501]
              try refine ⟨by first | exact sd, ?_⟩
              refine Rg.callX (av := ?av52) (g := true) (fun hg => ok_R_serviceOf r_522 _ hr_523) ?ha52 ?hb52 ?hp52 ?hok52 ?hf52 ?cont52
              case ha52 =>
                simp only [go_sem, simprocAttr, hw20, hxs_501]
                exact Is.mk
              case hb52 =>
                simp only [go_sem, simprocAttr, hw20, hxs_501]
                exact Is.mk
              case hp52 =>
                simp only [go_sem, simprocAttr, hw20, hxs_501]
                exact Is.mk
              case hok52 =>
                simp only [go_sem, simprocAttr, hw20, hxs_501]
              case hf52 =>
                simp only [go_sem, simprocAttr, hw20, hxs_501]
                exact Is.mk
              intro hv52
              simp only [go_sem, simprocAttr, hw20, hxs_501]
              first
                | refine hK50 _ _ ?_
                | refine ⟨by first | exact sd, hK50 _ _ ?_⟩
              obtain ⟨c_524, hm⟩ := chk_elim hm
              refine Wp.region fun K53 hK53 => ?_
              simp only [go_sem, simprocAttr, hw20, hxs_501]
              first
                | refine hK53 _ _ ?_
                | refine ⟨by first | exact sd | ((repeat' apply And.intro) <;> first | assumption | omega | (simp only [List.length_append, List.length_map, List.length_cons, List.length_nil, List.length_set, List.length_replicate] at c_524 ⊢; omega)), hK53 _ _ ?_⟩
              simp only [thenQ, blockQ, ↓reduceIte]
              refine hW32 _ _ _ _ ?_ (hcut32 (r_523.2, o2_469, o3_470, o4_471, o5_472 ++ [r_523.1]) hm)
              simp only [go_sem, simprocAttr, hw20, hxs_501]
              try simp [encB, encI_i64, encI_u8, encS, enc_api_File, enc_api_Machine, enc_api_Service, enc_api_Setting, enc_disk_line, List.map_set, List.map_replicate]
            · have hm := brF hm (by first | exact hc48 | simpa using hc48)
              refine Wp.skip ?_
              simp only [thenQ, blockQ, ↓reduceIte]
              refine hW32 _ _ _ _ ?_ (hcut32 (r_506.2.2, o2_469, o3_470, o4_471, o5_472) hm)
              simp only [go_sem, simprocAttr, hw20, hxs_501]
              try simp [encB, encI_i64, encI_u8, encS, enc_api_File, enc_api_Machine, enc_api_Service, enc_api_Setting, enc_disk_line, List.map_set, List.map_replicate]
    clear hK27 hk_505
    refine Wp.seqR fun K54 hK54 => ?_
    simp only [go_sem, simprocAttr, hw20, hxs_501]
    first
      | refine hK54 _ _ ?_
      | refine ⟨by first | exact sd, hK54 _ _ ?_⟩
    refine Wp.cond rfl ⟨⟩ (fun hc55 => ?_) (fun hc55 => ?_)
    · have hm := brT hm (by first | exact hc55 | simpa using hc55)
      refine Wp.region fun K56 hK56 => ?_
      simp only [go_sem, simprocAttr, hw20, hxs_501]
      first
        | refine hK56 _ _ ?_
        | refine ⟨by first | exact sd, hK56 _ _ ?_⟩
      simp only [thenQ, blockQ, ↓reduceIte]
      refine hW27 _ _ _ _ ?_ (hcut27 1 hm)
      simp only [go_sem, simprocAttr, hw20, hxs_501]
      try simp [encB, encI_i64, encI_u8, encS, enc_api_File, enc_api_Machine, enc_api_Service, enc_api_Setting, enc_disk_line, List.map_set, List.map_replicate]
    · have hm := brF hm (by first | exact hc55 | simpa using hc55)
      refine Wp.skip ?_
      simp only [thenQ, blockQ, ↓reduceIte]
      refine hW27 _ _ _ _ ?_ (hcut27 r_503 hm)
      simp only [go_sem, simprocAttr, hw20, hxs_501]
      try simp [encB, encI_i64, encI_u8, encS, enc_api_File, enc_api_Machine, enc_api_Service, enc_api_Setting, enc_disk_line, List.map_set, List.map_replicate]
set_option maxRecDepth 100000 in
set_option maxHeartbeats 4000000 in
theorem ok_Law_MachinesParse (text_1 : Str) (z : Bool) (hm : Law_MachinesParse text_1 = some z) : Does Tryd.prog 4 [.p (.s text_1)] [] (fun r X => r = .p (.b z) ∧ X = []) := by
  unfold Law_MachinesParse at hm
  refine Does.of_wp 0 36 [.tmp 2] Tryd.func4 rfl (by decide) rfl rfl (Nat.le_of_ble_eq_true rfl) fun B => ?_
  refine Wp.seqR fun K1 hK1 => ?_
  simp only [go_sem, simprocAttr]
  first
    | refine hK1 _ _ ?_
    | refine ⟨by first | exact sd, hK1 _ _ ?_⟩
  refine Wp.seqW fun K2 hK2 hW2 => ?_
  obtain ⟨r_2, hr_2, hm⟩ := call_elim hm
  refine Wp.seqR fun K3 hK3 => ?_
  simp only [go_sem, simprocAttr]
  try refine ⟨by first | exact sd, ?_⟩
  refine Rg.callX (av := ?av4) (g := true) (fun hg => ok_Law_landed  _ hr_2) ?ha4 ?hb4 ?hp4 ?hok4 ?hf4 ?cont4
  case ha4 =>
    simp only [go_sem, simprocAttr]
    exact Is.mk
  case hb4 =>
    simp only [go_sem, simprocAttr]
    exact Is.mk
  case hp4 =>
    simp only [go_sem, simprocAttr]
    exact Is.mk
  case hok4 =>
    simp only [go_sem, simprocAttr]
  case hf4 =>
    simp only [go_sem, simprocAttr]
    exact Is.mk
  intro hv4
  simp only [go_sem, simprocAttr]
  first
    | refine hK3 _ _ ?_
    | refine ⟨by first | exact sd, hK3 _ _ ?_⟩
  refine Wp.cond rfl ⟨⟩ (fun hc5 => ?_) (fun hc5 => ?_)
  · have hm := brT hm (by first | exact hc5 | simpa using hc5)
    refine Wp.seqR fun K6 hK6 => ?_
    simp only [go_sem, simprocAttr]
    first
      | refine hK6 _ _ ?_
      | refine ⟨by first | exact sd, hK6 _ _ ?_⟩
    refine Wp.ret ?_
    simp only [thenQ, blockQ]
    refine retQ_ret ?_
    cases hm
    simp only [go_sem, simprocAttr]
    try simp [encB, encI_i64, encI_u8, encS, enc_api_File, enc_api_Machine, enc_api_Service, enc_api_Setting, List.map_set, List.map_replicate]
  · have hm := brF hm (by first | exact hc5 | simpa using hc5)
    refine Wp.skip ?_
    simp only [thenQ, blockQ, ↓reduceIte]
    refine hK2 _ _ ?_
    obtain ⟨r_3, hr_3, hm⟩ := call_elim hm
    refine Wp.seqR fun K7 hK7 => ?_
    simp only [go_sem, simprocAttr]
    try refine ⟨by first | exact sd, ?_⟩
    refine Rg.callF (av := ?av8) (ok_disk_Parse text_1 _ hr_3) ?ha8 ?hp8 ?hok8 ?cont8
    case ha8 =>
      simp only [go_sem, simprocAttr]
      exact Is.mk
    case hp8 =>
      simp only [go_sem, simprocAttr]
      exact Is.mk
    case hok8 =>
      simp only [go_sem, simprocAttr]
    intro hv8
    simp only [go_sem, simprocAttr]
    first
      | refine hK7 _ _ ?_
      | refine ⟨by first | exact sd, hK7 _ _ ?_⟩
    obtain ⟨r_4, hr_4, hm⟩ := call_elim hm
    refine Wp.seqR fun K9 hK9 => ?_
    simp only [go_sem, simprocAttr]
    try refine ⟨by first | exact sd, ?_⟩
    refine Rg.callF (av := ?av10) (ok_R_Parse text_1 _ hr_4) ?ha10 ?hp10 ?hok10 ?cont10
    case ha10 =>
      simp only [go_sem, simprocAttr]
      exact Is.mk
    case hp10 =>
      simp only [go_sem, simprocAttr]
      exact Is.mk
    case hok10 =>
      simp only [go_sem, simprocAttr]
    intro hv10
    simp only [go_sem, simprocAttr]
    first
      | refine hK9 _ _ ?_
      | refine ⟨by first | exact sd, hK9 _ _ ?_⟩
    obtain ⟨r_5, hr_5, hm⟩ := callG_elim hm
    refine Wp.seqR fun K11 hK11 => ?_
    simp only [go_sem, simprocAttr]
    try refine ⟨by first | exact sd, ?_⟩
    refine Rg.callX (av := ?av12) (g := ((decide (r_3.2.1 = r_4.2.1)) && (decide (r_3.2.2 = r_4.2.2)))) (fun hg => ok_R_Same r_3.1 r_4.1 _ (hr_5 hg)) ?ha12 ?hb12 ?hp12 ?hok12 ?hf12 ?cont12
    case ha12 =>
      simp only [go_sem, simprocAttr]
      exact Is.mk
    case hb12 =>
      simp only [go_sem, simprocAttr]
      exact Is.mk
    case hp12 =>
      simp only [go_sem, simprocAttr]
      exact Is.mk
    case hok12 =>
      simp only [go_sem, simprocAttr]
    case hf12 =>
      simp only [go_sem, simprocAttr]
      exact Is.mk
    intro hv12
    simp only [go_sem, simprocAttr]
    first
      | refine hK11 _ _ ?_
      | refine ⟨by first | exact sd, hK11 _ _ ?_⟩
    refine Wp.ret ?_
    refine retQ_ret ?_
    cases hm
    simp only [go_sem, simprocAttr]
    try simp [encB, encI_i64, encI_u8, encS, enc_api_File, enc_api_Machine, enc_api_Service, enc_api_Setting, enc_disk_line, List.map_set, List.map_replicate]
end Go.Proofs.YtbfemlilfeahkaaDoor
