/- That the code does what the models say (part 2). -/
import Derived.Test.YthmjpfooffbhhaaGreatDoorLrWk0
import Derived.Test.YthmjpfooffbhhaaGreatDoorLrWk1
set_option linter.unusedSimpArgs false
set_option linter.unusedVariables false
open Go.Proofs Go.Shelf
namespace Go.Proofs.YthmjpfooffbhhaaGreatDoor
open Go.Vc Go.Md
set_option maxRecDepth 100000
set_option maxHeartbeats 4000000
theorem ok_slices_symMergeCmpFunc_api_Record_i1 : ∀ (fuel : Nat) (a_1 : Int) (m_2 : Int) (b_3 : Int) (o0_4 : List api_Record) (z : List api_Record) (hm : slices_symMergeCmpFunc_api_Record_i1 fuel a_1 m_2 b_3 o0_4 = some z), Does Tryz.prog 73 [.buf 0, .p (.i .i64 a_1), .p (.i .i64 m_2), .p (.i .i64 b_3), .fn 22 []] [.fx 32 13 (List.map enc_api_Record o0_4)] (fun r X => r = .tup [] ∧ X = [.fx 32 13 (List.map enc_api_Record z)]) := by
 intro fuel
 induction fuel with
 | zero => intro a_1 m_2 b_3 o0_4 z hm; unfold slices_symMergeCmpFunc_api_Record_i1 at hm; cases hm
 | succ nrec ih =>
  intro a_1 m_2 b_3 o0_4 z hm
  unfold slices_symMergeCmpFunc_api_Record_i1 at hm
  refine Does.of_wp 1 220 [] Tryz.func73 rfl (by decide) rfl rfl (Nat.le_of_ble_eq_true rfl) fun B => ?_
  refine Wp.seqW fun K1 hK1 hW1 => ?_
  obtain ⟨k_3419, hk_3419, hm⟩ := jp_elim hm
  have hcut1 : ∀ s, k_3419 s = some z → K1 [(0, .buf 0), (1, .p (.i .i64 a_1)), (2, .p (.i .i64 m_2)), (3, .p (.i .i64 b_3)), (4, .fn 22 [])] [.fx 32 13 (List.map enc_api_Record o0_4)] := by
   intro s hs
   have hm := hk_3419 _ hs
   clear hs
   try dsimp only at hm
   try dsimp only
   refine hK1 _ _ ?_
   refine Wp.seqW fun K2 hK2 hW2 => ?_
   obtain ⟨k_4050, hk_4050, hm⟩ := jp_elim hm
   have hcut2 : ∀ s, k_4050 s = some z → K2 [(0, .buf 0), (1, .p (.i .i64 a_1)), (2, .p (.i .i64 m_2)), (3, .p (.i .i64 b_3)), (4, .fn 22 [])] [.fx 32 13 (List.map enc_api_Record o0_4)] := by
    intro s hs
    have hm := hk_4050 _ hs
    clear hs
    try dsimp only at hm
    try dsimp only
    refine hK2 _ _ ?_
    obtain ⟨v_4051, hv_4052, hm⟩ := letv_elim hm
    refine Wp.seqR fun K3 hK3 => ?_
    simp only [go_sem, simprocAttr, hv_4052]
    first | apply hK3 | refine ⟨sd, hK3 _ _ ?_⟩
    refine Wp.seqR fun K4 hK4 => ?_
    simp only [go_sem, simprocAttr, hv_4052]
    first | apply hK4 | refine ⟨sd, hK4 _ _ ?_⟩
    refine Wp.seqR fun K5 hK5 => ?_
    simp only [go_sem, simprocAttr, hv_4052]
    first | apply hK5 | refine ⟨sd, hK5 _ _ ?_⟩
    refine Wp.seqW fun K6 hK6 hW6 => ?_
    obtain ⟨k_4055, hk_4055, hm⟩ := jp_elim hm
    have hcut6 : ∀ s, k_4055 s = some z → K6 [(0, .buf 0), (1, .p (.i .i64 a_1)), (2, .p (.i .i64 m_2)), (3, .p (.i .i64 b_3)), (4, .fn 22 []), (18, .p (.i .i64 v_4051)), (19, .p (.i .i64 (IntKind.i64.wrap (v_4051 + m_2)))), (20, .p (.i .i64 s.1)), (21, .p (.i .i64 s.2))] [.fx 32 13 (List.map enc_api_Record o0_4)] := by
     intro s hs
     have hm := hk_4055 _ hs
     clear hs
     obtain ⟨start_4053, r_4054⟩ := s
     try dsimp only at hm
     try dsimp only
     refine hK6 _ _ ?_
     refine Wp.seqR fun K7 hK7 => ?_
     simp only [go_sem, simprocAttr, hv_4052]
     first | apply hK7 | refine ⟨sd, hK7 _ _ ?_⟩
     refine Wp.seqW fun K8 hK8 hW8 => ?_
     obtain ⟨k_4179, hk_4179, hm⟩ := jp_elim hm
     have hcut8 : ∀ s, k_4179 s = some z → K8 [(0, .buf 0), (1, .p (.i .i64 a_1)), (2, .p (.i .i64 m_2)), (3, .p (.i .i64 b_3)), (4, .fn 22 []), (18, .p (.i .i64 v_4051)), (19, .p (.i .i64 (IntKind.i64.wrap (v_4051 + m_2)))), (20, .p (.i .i64 s))] [.fx 32 13 (List.map enc_api_Record o0_4)] := by
      intro start_4178 hs
      have hm := hk_4179 _ hs
      clear hs
      try dsimp only at hm
      try dsimp only
      refine hK8 _ _ ?_
      refine Wp.seqR fun K9 hK9 => ?_
      simp only [go_sem, simprocAttr, hv_4052]
      first | apply hK9 | refine ⟨sd, hK9 _ _ ?_⟩
      refine Wp.seqW fun K10 hK10 hW10 => ?_
      obtain ⟨k_4184, hk_4184, hm⟩ := jp_elim hm
      have hcut10 : ∀ s, k_4184 s = some z → K10 [(0, .buf 0), (1, .p (.i .i64 a_1)), (3, .p (.i .i64 b_3)), (4, .fn 22 []), (18, .p (.i .i64 v_4051)), (20, .p (.i .i64 start_4178)), (24, .p (.i .i64 (IntKind.i64.wrap ((IntKind.i64.wrap (v_4051 + m_2)) - start_4178))))] [.fx 32 13 (List.map enc_api_Record s)] := by
       intro o0_4183 hs
       have hm := hk_4184 _ hs
       clear hs
       try dsimp only at hm
       try dsimp only
       refine hK10 _ _ ?_
       refine Wp.seqW fun K11 hK11 hW11 => ?_
       obtain ⟨k_4187, hk_4187, hm⟩ := jp_elim hm
       have hcut11 : ∀ s, k_4187 s = some z → K11 [(0, .buf 0), (3, .p (.i .i64 b_3)), (4, .fn 22 []), (18, .p (.i .i64 v_4051)), (24, .p (.i .i64 (IntKind.i64.wrap ((IntKind.i64.wrap (v_4051 + m_2)) - start_4178))))] [.fx 32 13 (List.map enc_api_Record s)] := by
        intro o0_4186 hs
        have hm := hk_4187 _ hs
        clear hs
        try dsimp only at hm
        try dsimp only
        refine hK11 _ _ ?_
        obtain ⟨v_4188, hv_4189, hm⟩ := letv_elim hm
        refine Wp.seqR fun K12 hK12 => ?_
        simp only [go_sem, simprocAttr, hv_4052, hv_4189]
        first | apply hK12 | refine ⟨sd, hK12 _ _ ?_⟩
        refine cM hm (fun hc13 hm => ?_) (fun hc13 hm => ?_)
        ·obtain ⟨r_4190, hr_4190, hm⟩ := call_elim hm
         refine Wp.region fun K14 hK14 => ?_
         simp only [go_sem, simprocAttr, hv_4052, hv_4189]
         try refine ⟨sd, ?_⟩
         refine Rg.callO (av := ?av15) [0] (ih v_4051 (IntKind.i64.wrap ((IntKind.i64.wrap (v_4051 + m_2)) - start_4178)) b_3 o0_4186 _ hr_4190) (by simp only [go_sem, simprocAttr, hv_4052, hv_4189]; exact Is.mk) (by simp only [go_sem, simprocAttr, hv_4052, hv_4189]; exact Is.mk) (by simp only [go_sem, simprocAttr, hv_4052, hv_4189]; exact Is.mk) (by simp only [go_sem, simprocAttr, hv_4052, hv_4189]) (by simp only [go_sem, simprocAttr, hv_4052, hv_4189]) ?cont15
         rintro _ _ ⟨rfl, rfl⟩ hv15
         simp only [go_sem, simprocAttr, hv_4052, hv_4189]
         first | apply hK14 | refine ⟨sd, hK14 _ _ ?_⟩
         refine retQ_normal ?_
         cases hm
         simp only [go_sem, simprocAttr, hv_4052, hv_4189]
         try exact se1
        ·refine Wp.skip ?_
         refine retQ_normal ?_
         cases hm
         simp only [go_sem, simprocAttr, hv_4052, hv_4189]
         try exact se1
       clear hK11 hk_4187
       refine Wp.seqR fun K16 hK16 => ?_
       simp only [go_sem, simprocAttr, hv_4052]
       first | apply hK16 | refine ⟨sd, hK16 _ _ ?_⟩
       refine cM hm (fun hc17 hm => ?_) (fun hc17 hm => ?_)
       ·obtain ⟨r_4191, hr_4191, hm⟩ := call_elim hm
        refine Wp.region fun K18 hK18 => ?_
        simp only [go_sem, simprocAttr, hv_4052]
        try refine ⟨sd, ?_⟩
        refine Rg.callO (av := ?av19) [0] (ih a_1 start_4178 v_4051 o0_4183 _ hr_4191) (by simp only [go_sem, simprocAttr, hv_4052]; exact Is.mk) (by simp only [go_sem, simprocAttr, hv_4052]; exact Is.mk) (by simp only [go_sem, simprocAttr, hv_4052]; exact Is.mk) (by simp only [go_sem, simprocAttr, hv_4052]) (by simp only [go_sem, simprocAttr, hv_4052]) ?cont19
        rintro _ _ ⟨rfl, rfl⟩ hv19
        simp only [go_sem, simprocAttr, hv_4052]
        first | apply hK18 | refine ⟨sd, hK18 _ _ ?_⟩
        refine hW11 _ _ _ _ ?_ (hcut11 r_4191 hm)
        simp only [go_sem, simprocAttr, hv_4052]
        try exact se1
       ·refine Wp.skip ?_
        refine hW11 _ _ _ _ ?_ (hcut11 o0_4183 hm)
        simp only [go_sem, simprocAttr, hv_4052]
        try exact se1
      clear hK10 hk_4184
      obtain ⟨v_4192, hv_4193, hm⟩ := letv_elim hm
      refine Wp.seqR fun K20 hK20 => ?_
      simp only [go_sem, simprocAttr, hv_4052, hv_4193]
      first | apply hK20 | refine ⟨sd, hK20 _ _ ?_⟩
      refine cM hm (fun hc21 hm => ?_) (fun hc21 hm => ?_)
      ·obtain ⟨r_4194, hr_4194, hm⟩ := call_elim hm
       refine Wp.region fun K22 hK22 => ?_
       simp only [go_sem, simprocAttr, hv_4052, hv_4193]
       try refine ⟨sd, ?_⟩
       refine Rg.callO (av := ?av23) [0] (ok_slices_rotateCmpFunc_api_Record_i1 start_4178 m_2 (IntKind.i64.wrap ((IntKind.i64.wrap (v_4051 + m_2)) - start_4178)) o0_4 _ hr_4194) (by simp only [go_sem, simprocAttr, hv_4052, hv_4193]; exact Is.mk) (by simp only [go_sem, simprocAttr, hv_4052, hv_4193]; exact Is.mk) (by simp only [go_sem, simprocAttr, hv_4052, hv_4193]; exact Is.mk) (by simp only [go_sem, simprocAttr, hv_4052, hv_4193]) (by simp only [go_sem, simprocAttr, hv_4052, hv_4193]) ?cont23
       rintro _ _ ⟨rfl, rfl⟩ hv23
       simp only [go_sem, simprocAttr, hv_4052, hv_4193]
       first | apply hK22 | refine ⟨sd, hK22 _ _ ?_⟩
       refine hW10 _ _ _ _ ?_ (hcut10 r_4194 hm)
       simp only [go_sem, simprocAttr, hv_4052, hv_4193]
       try exact se1
      ·refine Wp.skip ?_
       refine hW10 _ _ _ _ ?_ (hcut10 o0_4 hm)
       simp only [go_sem, simprocAttr, hv_4052, hv_4193]
       try exact se1
     clear hK8 hk_4179
     refine Wp.block ?_
     obtain ⟨k_4256, hk_4256, hm⟩ := loopN_cont hm
     refine Wp.loopN (fun s => [(0, .buf 0), (1, .p (.i .i64 a_1)), (2, .p (.i .i64 m_2)), (3, .p (.i .i64 b_3)), (4, .fn 22 []), (18, .p (.i .i64 v_4051)), (19, .p (.i .i64 (IntKind.i64.wrap (v_4051 + m_2)))), (20, .p (.i .i64 s.1)), (21, .p (.i .i64 s.2)), (22, .p (.i .i64 (IntKind.i64.wrap ((IntKind.i64.wrap (v_4051 + m_2)) - 1))))]) (fun s => [.fx 32 13 (List.map enc_api_Record o0_4)]) ?_ hm ?_
     ·
      simp only [go_sem, simprocAttr, hv_4052]
      try exact se1
     clear hm
     intro s nx_4257 hm
     obtain ⟨start_4195, r_4196⟩ := s
     try dsimp only at hm
     try dsimp only
     refine Wp.seqW fun K24 hK24 hW24 => ?_
     refine Wp.seqR fun K25 hK25 => ?_
     simp only [go_sem, simprocAttr, hv_4052]
     first | apply hK25 | refine ⟨sd, hK25 _ _ ?_⟩
     refine cM hm (fun hc26 hm => ?_) (fun hc26 hm => ?_)
     ·refine Wp.skip ?_
      refine hK24 _ _ ?_
      refine Wp.block ?_
      obtain ⟨v_4258, hv_4259, hm⟩ := letv_elim hm
      refine Wp.seqR fun K27 hK27 => ?_
      simp only [go_sem, simprocAttr, hv_4052, hv_4259]
      first | apply hK27 | refine ⟨sd, hK27 _ _ ?_⟩
      obtain ⟨c_4260, hm⟩ := chk_elim hm
      obtain ⟨v_4261, hv_4262, hm⟩ := letv_elim hm
      obtain ⟨v_4263, hv_4264, hm⟩ := letv_elim hm
      obtain ⟨v_4265, hv_4266, hm⟩ := letv_elim hm
      obtain ⟨v_4267, hv_4268, hm⟩ := letv_elim hm
      obtain ⟨v_4269, hv_4270, hm⟩ := letv_elim hm
      obtain ⟨v_4271, hv_4272, hm⟩ := letv_elim hm
      obtain ⟨v_4273, hv_4274, hm⟩ := letv_elim hm
      obtain ⟨v_4275, hv_4276, hm⟩ := letv_elim hm
      obtain ⟨v_4277, hv_4278, hm⟩ := letv_elim hm
      obtain ⟨v_4279, hv_4280, hm⟩ := letv_elim hm
      obtain ⟨v_4281, hv_4282, hm⟩ := letv_elim hm
      obtain ⟨v_4283, hv_4284, hm⟩ := letv_elim hm
      obtain ⟨v_4285, hv_4286, hm⟩ := letv_elim hm
      obtain ⟨c_4287, hm⟩ := chk_elim hm
      obtain ⟨v_4288, hv_4289, hm⟩ := letv_elim hm
      obtain ⟨v_4290, hv_4291, hm⟩ := letv_elim hm
      obtain ⟨v_4292, hv_4293, hm⟩ := letv_elim hm
      obtain ⟨v_4294, hv_4295, hm⟩ := letv_elim hm
      obtain ⟨v_4296, hv_4297, hm⟩ := letv_elim hm
      obtain ⟨v_4298, hv_4299, hm⟩ := letv_elim hm
      obtain ⟨v_4300, hv_4301, hm⟩ := letv_elim hm
      obtain ⟨v_4302, hv_4303, hm⟩ := letv_elim hm
      obtain ⟨v_4304, hv_4305, hm⟩ := letv_elim hm
      obtain ⟨v_4306, hv_4307, hm⟩ := letv_elim hm
      obtain ⟨v_4308, hv_4309, hm⟩ := letv_elim hm
      obtain ⟨v_4310, hv_4311, hm⟩ := letv_elim hm
      obtain ⟨v_4312, hv_4313, hm⟩ := letv_elim hm
      obtain ⟨r_4314, hr_4314, hm⟩ := call_elim hm
      have hr_4315 := fun h => getD_encB (l := o0_4) (e := enc_api_Record) (d := (api_Record.mk 0 0 [] (api_Version.mk 0 0 0 []) (api_Version.mk 0 0 0 []) 0 [])) (i := (IntKind.i64.wrap ((IntKind.i64.wrap ((IntKind.i64.wrap (v_4051 + m_2)) - 1)) - v_4258)).toNat) h []
      have hr_4316 := fun h => getD_encB (l := o0_4) (e := enc_api_Record) (d := (api_Record.mk 0 0 [] (api_Version.mk 0 0 0 []) (api_Version.mk 0 0 0 []) 0 [])) (i := v_4258.toNat) h []
      refine Wp.seqD (plan := pl [(0, none), (1, none), (2, none), (3, none), (4, none), (5, none), (6, none), (7, none), (8, none), (9, none), (10, none), (11, none), (12, none), (13, none)]) (by kernel_rfl) rfl (by kernel_rfl) fun K28 hK28 => ?_
      simp only [go_sem, simprocAttr, hv_4052, hv_4259, hv_4262, hv_4264, hv_4266, hv_4268, hv_4270, hv_4272, hv_4274, hv_4276, hv_4278, hv_4280, hv_4282, hv_4284, hv_4286, hv_4289, hv_4291, hv_4293, hv_4295, hv_4297, hv_4299, hv_4301, hv_4303, hv_4305, hv_4307, hv_4309, hv_4311, hv_4313, hr_4315 (by omega), hr_4316 (by omega)]
      try refine ⟨by first | exact sd | ((repeat' apply And.intro) <;> first | assumption | omega | (simp only [List.length_append, List.length_map, List.length_cons, List.length_nil, List.length_set, List.length_replicate] at c_4260 c_4287 ⊢; omega)), ?_⟩
      refine Dr.callF (av := ?av29) (g := true) (o := ?o29) (fun hg => ok_Law_could_1 (api_Record.mk v_4261 v_4263 v_4265 (api_Version.mk v_4267 v_4269 v_4271 v_4273) (api_Version.mk v_4275 v_4277 v_4279 v_4281) v_4283 v_4285) (api_Record.mk v_4288 v_4290 v_4292 (api_Version.mk v_4294 v_4296 v_4298 v_4300) (api_Version.mk v_4302 v_4304 v_4306 v_4308) v_4310 v_4312) _ hr_4314) (by simp only [go_sem, simprocAttr, hv_4052, hv_4259, hv_4262, hv_4264, hv_4266, hv_4268, hv_4270, hv_4272, hv_4274, hv_4276, hv_4278, hv_4280, hv_4282, hv_4284, hv_4286, hv_4289, hv_4291, hv_4293, hv_4295, hv_4297, hv_4299, hv_4301, hv_4303, hv_4305, hv_4307, hv_4309, hv_4311, hv_4313, hr_4315 (by omega), hr_4316 (by omega)]; exact Is.mk) (by simp only [go_sem, simprocAttr, hv_4052, hv_4259, hv_4262, hv_4264, hv_4266, hv_4268, hv_4270, hv_4272, hv_4274, hv_4276, hv_4278, hv_4280, hv_4282, hv_4284, hv_4286, hv_4289, hv_4291, hv_4293, hv_4295, hv_4297, hv_4299, hv_4301, hv_4303, hv_4305, hv_4307, hv_4309, hv_4311, hv_4313, hr_4315 (by omega), hr_4316 (by omega)]; exact Is.mk) (by simp only [go_sem, simprocAttr, hv_4052, hv_4259, hv_4262, hv_4264, hv_4266, hv_4268, hv_4270, hv_4272, hv_4274, hv_4276, hv_4278, hv_4280, hv_4282, hv_4284, hv_4286, hv_4289, hv_4291, hv_4293, hv_4295, hv_4297, hv_4299, hv_4301, hv_4303, hv_4305, hv_4307, hv_4309, hv_4311, hv_4313, hr_4315 (by omega), hr_4316 (by omega)]; exact Is.mk) (by simp only [go_sem, simprocAttr, hv_4052, hv_4259, hv_4262, hv_4264, hv_4266, hv_4268, hv_4270, hv_4272, hv_4274, hv_4276, hv_4278, hv_4280, hv_4282, hv_4284, hv_4286, hv_4289, hv_4291, hv_4293, hv_4295, hv_4297, hv_4299, hv_4301, hv_4303, hv_4305, hv_4307, hv_4309, hv_4311, hv_4313, hr_4315 (by omega), hr_4316 (by omega)]; exact Is.mk) (by simp only [go_sem, simprocAttr, hv_4052, hv_4259, hv_4262, hv_4264, hv_4266, hv_4268, hv_4270, hv_4272, hv_4274, hv_4276, hv_4278, hv_4280, hv_4282, hv_4284, hv_4286, hv_4289, hv_4291, hv_4293, hv_4295, hv_4297, hv_4299, hv_4301, hv_4303, hv_4305, hv_4307, hv_4309, hv_4311, hv_4313, hr_4315 (by omega), hr_4316 (by omega)]) (by simp only [go_sem, simprocAttr, hv_4052, hv_4259, hv_4262, hv_4264, hv_4266, hv_4268, hv_4270, hv_4272, hv_4274, hv_4276, hv_4278, hv_4280, hv_4282, hv_4284, hv_4286, hv_4289, hv_4291, hv_4293, hv_4295, hv_4297, hv_4299, hv_4301, hv_4303, hv_4305, hv_4307, hv_4309, hv_4311, hv_4313, hr_4315 (by omega), hr_4316 (by omega)]; exact Is.mk) ?cont29
      simp only [go_sem, simprocAttr, hv_4052, hv_4259, hv_4262, hv_4264, hv_4266, hv_4268, hv_4270, hv_4272, hv_4274, hv_4276, hv_4278, hv_4280, hv_4282, hv_4284, hv_4286, hv_4289, hv_4291, hv_4293, hv_4295, hv_4297, hv_4299, hv_4301, hv_4303, hv_4305, hv_4307, hv_4309, hv_4311, hv_4313, hr_4315 (by omega), hr_4316 (by omega)]
      first | apply hK28 | refine ⟨by first | exact sd | ((repeat' apply And.intro) <;> first | assumption | omega | (simp only [List.length_append, List.length_map, List.length_cons, List.length_nil, List.length_set, List.length_replicate] at c_4260 c_4287 ⊢; omega)), hK28 _ _ ?_⟩
      refine cM hm (fun hc30 hm => ?_) (fun hc30 hm => ?_)
      ·refine Wp.region fun K31 hK31 => ?_
       simp only [go_sem, simprocAttr, hv_4052, hv_4259, hv_4262, hv_4264, hv_4266, hv_4268, hv_4270, hv_4272, hv_4274, hv_4276, hv_4278, hv_4280, hv_4282, hv_4284, hv_4286, hv_4289, hv_4291, hv_4293, hv_4295, hv_4297, hv_4299, hv_4301, hv_4303, hv_4305, hv_4307, hv_4309, hv_4311, hv_4313]
       first | apply hK31 | refine ⟨sd, hK31 _ _ ?_⟩
       simp only [thenQ, blockQ, ↓reduceIte]
       refine ⟨(IntKind.i64.wrap (v_4258 + 1), r_4196), hm, ?_⟩
       simp only [go_sem, simprocAttr, hv_4052, hv_4259, hv_4262, hv_4264, hv_4266, hv_4268, hv_4270, hv_4272, hv_4274, hv_4276, hv_4278, hv_4280, hv_4282, hv_4284, hv_4286, hv_4289, hv_4291, hv_4293, hv_4295, hv_4297, hv_4299, hv_4301, hv_4303, hv_4305, hv_4307, hv_4309, hv_4311, hv_4313]
       try exact se1
      ·refine Wp.region fun K32 hK32 => ?_
       simp only [go_sem, simprocAttr, hv_4052, hv_4259, hv_4262, hv_4264, hv_4266, hv_4268, hv_4270, hv_4272, hv_4274, hv_4276, hv_4278, hv_4280, hv_4282, hv_4284, hv_4286, hv_4289, hv_4291, hv_4293, hv_4295, hv_4297, hv_4299, hv_4301, hv_4303, hv_4305, hv_4307, hv_4309, hv_4311, hv_4313]
       first | apply hK32 | refine ⟨sd, hK32 _ _ ?_⟩
       simp only [thenQ, blockQ, ↓reduceIte]
       refine ⟨(start_4195, v_4258), hm, ?_⟩
       simp only [go_sem, simprocAttr, hv_4052, hv_4259, hv_4262, hv_4264, hv_4266, hv_4268, hv_4270, hv_4272, hv_4274, hv_4276, hv_4278, hv_4280, hv_4282, hv_4284, hv_4286, hv_4289, hv_4291, hv_4293, hv_4295, hv_4297, hv_4299, hv_4301, hv_4303, hv_4305, hv_4307, hv_4309, hv_4311, hv_4313]
       try exact se1
     ·refine Wp.exit ?_
      simp only [thenQ, blockQ, ↓reduceIte]
      have hm := hk_4256 _ hm
      try dsimp only at hm
      refine hW8 _ _ _ _ ?_ (hcut8 start_4195 hm)
      simp only [go_sem, simprocAttr, hv_4052]
      try exact se1
    clear hK6 hk_4055
    refine Wp.seqR fun K33 hK33 => ?_
    simp only [go_sem, simprocAttr, hv_4052]
    first | apply hK33 | refine ⟨sd, hK33 _ _ ?_⟩
    refine cM hm (fun hc34 hm => ?_) (fun hc34 hm => ?_)
    ·refine Wp.seqR fun K35 hK35 => ?_
     simp only [go_sem, simprocAttr, hv_4052]
     first | apply hK35 | refine ⟨sd, hK35 _ _ ?_⟩
     refine Wp.region fun K36 hK36 => ?_
     simp only [go_sem, simprocAttr, hv_4052]
     first | apply hK36 | refine ⟨sd, hK36 _ _ ?_⟩
     refine hW6 _ _ _ _ ?_ (hcut6 (IntKind.i64.wrap ((IntKind.i64.wrap (v_4051 + m_2)) - b_3), v_4051) hm)
     simp only [go_sem, simprocAttr, hv_4052]
     try exact se1
    ·refine Wp.seqR fun K37 hK37 => ?_
     simp only [go_sem, simprocAttr, hv_4052]
     first | apply hK37 | refine ⟨sd, hK37 _ _ ?_⟩
     refine Wp.region fun K38 hK38 => ?_
     simp only [go_sem, simprocAttr, hv_4052]
     first | apply hK38 | refine ⟨sd, hK38 _ _ ?_⟩
     refine hW6 _ _ _ _ ?_ (hcut6 (a_1, m_2) hm)
     simp only [go_sem, simprocAttr, hv_4052]
     try exact se1
   clear hK2 hk_4050
   refine qS ?_
   refine cM hm (fun hc40 hm => ?_) (fun hc40 hm => ?_)
   ·refine qS ?_
    refine qS ?_
    refine Wp.seqW fun K43 hK43 hW43 => ?_
    obtain ⟨k_4440, hk_4440, hm⟩ := jp_elim hm
    have hcut43 : ∀ s, k_4440 s = some z → K43 [(0, .buf 0), (2, .p (.i .i64 m_2)), (14, .p (.i .i64 s))] [.fx 32 13 (List.map enc_api_Record o0_4)] := by
     intro i_4439 hs
     have hm := hk_4440 _ hs
     clear hs
     try dsimp only at hm
     try dsimp only
     refine hK43 _ _ ?_
     refine Wp.seqW fun K44 hK44 hW44 => ?_
     obtain ⟨k_4633, hk_4633, hm⟩ := jp_elim hm
     have hcut44 : ∀ s, k_4633 s = some z → K44 [] [.fx 32 13 (List.map enc_api_Record s)] := by
      intro o0_4632 hs
      have hm := hk_4633 _ hs
      clear hs
      try dsimp only at hm
      try dsimp only
      refine hK44 _ _ ?_
      refine Wp.ret ?_
      refine retQ_ret ?_
      cases hm
      exact fse1
     clear hK44 hk_4633
     refine qS ?_
     refine Wp.block ?_
     obtain ⟨k_4761, hk_4761, hm⟩ := loopN_cont hm
     refine Wp.loopN (fun s => [(0, .buf 0), (14, .p (.i .i64 i_4439)), (17, .p (.i .i64 s.1))]) (fun s => [.fx 32 13 (List.map enc_api_Record s.2)]) ?_ hm ?_
     ·
      exact fse1
     clear hm
     intro s nx_4762 hm
     obtain ⟨k_4697, o0_4698⟩ := s
     try dsimp only at hm
     try dsimp only
     refine Wp.seqW fun K46 hK46 hW46 => ?_
     refine qS ?_
     refine cM hm (fun hc48 hm => ?_) (fun hc48 hm => ?_)
     ·refine Wp.skip ?_
      refine hK46 _ _ ?_
      refine Wp.seqW fun K49 hK49 hW49 => ?_
      refine Wp.block ?_
      obtain ⟨c_4763, hm⟩ := chk_elim hm
      obtain ⟨v_4764, hv_4765, hm⟩ := letv_elim hm
      obtain ⟨v_4766, hv_4767, hm⟩ := letv_elim hm
      obtain ⟨v_4768, hv_4769, hm⟩ := letv_elim hm
      obtain ⟨v_4770, hv_4771, hm⟩ := letv_elim hm
      obtain ⟨v_4772, hv_4773, hm⟩ := letv_elim hm
      obtain ⟨v_4774, hv_4775, hm⟩ := letv_elim hm
      obtain ⟨v_4776, hv_4777, hm⟩ := letv_elim hm
      obtain ⟨v_4778, hv_4779, hm⟩ := letv_elim hm
      obtain ⟨v_4780, hv_4781, hm⟩ := letv_elim hm
      obtain ⟨v_4782, hv_4783, hm⟩ := letv_elim hm
      obtain ⟨v_4784, hv_4785, hm⟩ := letv_elim hm
      obtain ⟨v_4786, hv_4787, hm⟩ := letv_elim hm
      obtain ⟨v_4788, hv_4789, hm⟩ := letv_elim hm
      obtain ⟨c_4790, hm⟩ := chk_elim hm
      obtain ⟨v_4791, hv_4792, hm⟩ := letv_elim hm
      obtain ⟨v_4793, hv_4794, hm⟩ := letv_elim hm
      obtain ⟨v_4795, hv_4796, hm⟩ := letv_elim hm
      obtain ⟨v_4797, hv_4798, hm⟩ := letv_elim hm
      obtain ⟨v_4799, hv_4800, hm⟩ := letv_elim hm
      obtain ⟨v_4801, hv_4802, hm⟩ := letv_elim hm
      obtain ⟨v_4803, hv_4804, hm⟩ := letv_elim hm
      obtain ⟨v_4805, hv_4806, hm⟩ := letv_elim hm
      obtain ⟨v_4807, hv_4808, hm⟩ := letv_elim hm
      obtain ⟨v_4809, hv_4810, hm⟩ := letv_elim hm
      obtain ⟨v_4811, hv_4812, hm⟩ := letv_elim hm
      obtain ⟨v_4813, hv_4814, hm⟩ := letv_elim hm
      obtain ⟨v_4815, hv_4816, hm⟩ := letv_elim hm
      obtain ⟨c_4817, hm⟩ := chk_elim hm
      obtain ⟨v_4818, hv_4819, hm⟩ := letv_elim hm
      have hv_4819m := congrArg (List.map enc_api_Record) hv_4819
      try simp only [List.map_append, List.map_cons, List.map_nil, List.map_set, List.map_replicate, enc_api_Record] at hv_4819m
      obtain ⟨c_4820, hm⟩ := chk_elim hm
      obtain ⟨v_4821, hv_4822, hm⟩ := letv_elim hm
      have hv_4822m := congrArg (List.map enc_api_Record) hv_4822
      try simp only [List.map_append, List.map_cons, List.map_nil, List.map_set, List.map_replicate, enc_api_Record] at hv_4822m
      have hr_4823 := fun h => getD_encB (l := o0_4698) (e := enc_api_Record) (d := (api_Record.mk 0 0 [] (api_Version.mk 0 0 0 []) (api_Version.mk 0 0 0 []) 0 [])) (i := (IntKind.i64.wrap (k_4697 - 1)).toNat) h []
      have hr_4824 := fun h => getD_encB (l := o0_4698) (e := enc_api_Record) (d := (api_Record.mk 0 0 [] (api_Version.mk 0 0 0 []) (api_Version.mk 0 0 0 []) 0 [])) (i := k_4697.toNat) h []
      refine Wp.regD (plan := pl [(0, none), (1, none), (2, none), (3, none), (4, none), (5, none), (6, none), (7, none), (8, none), (9, none), (10, none), (11, none), (12, none), (13, none), (14, none), (15, some [2, 3, 4]), (16, none), (17, some [])]) (by kernel_rfl) rfl (by kernel_rfl) fun K50 hK50 => ?_
      simp only [go_sem, simprocAttr, hv_4765, hv_4767, hv_4769, hv_4771, hv_4773, hv_4775, hv_4777, hv_4779, hv_4781, hv_4783, hv_4785, hv_4787, hv_4789, hv_4792, hv_4794, hv_4796, hv_4798, hv_4800, hv_4802, hv_4804, hv_4806, hv_4808, hv_4810, hv_4812, hv_4814, hv_4816, hv_4819, hv_4819m, hv_4822, hv_4822m, hr_4823 (by omega), hr_4824 (by omega)]
      first | apply hK50 | refine ⟨by first | exact sd | ((repeat' apply And.intro) <;> first | assumption | omega | (simp only [List.length_append, List.length_map, List.length_cons, List.length_nil, List.length_set, List.length_replicate] at c_4763 c_4790 c_4817 c_4820 ⊢; omega)), hK50 _ _ ?_⟩
      refine hK49 _ _ ?_
      refine Wp.region fun K51 hK51 => ?_
      simp only [go_sem, simprocAttr, hv_4765, hv_4767, hv_4769, hv_4771, hv_4773, hv_4775, hv_4777, hv_4779, hv_4781, hv_4783, hv_4785, hv_4787, hv_4789, hv_4792, hv_4794, hv_4796, hv_4798, hv_4800, hv_4802, hv_4804, hv_4806, hv_4808, hv_4810, hv_4812, hv_4814, hv_4816, hv_4819, hv_4819m, hv_4822, hv_4822m]
      first | apply hK51 | refine ⟨sd, hK51 _ _ ?_⟩
      simp only [thenQ, blockQ, ↓reduceIte]
      refine ⟨(IntKind.i64.wrap (k_4697 - 1), v_4821), hm, ?_⟩
      simp only [go_sem, simprocAttr, hv_4765, hv_4767, hv_4769, hv_4771, hv_4773, hv_4775, hv_4777, hv_4779, hv_4781, hv_4783, hv_4785, hv_4787, hv_4789, hv_4792, hv_4794, hv_4796, hv_4798, hv_4800, hv_4802, hv_4804, hv_4806, hv_4808, hv_4810, hv_4812, hv_4814, hv_4816, hv_4819, hv_4819m, hv_4822, hv_4822m]
      try exact se1
     ·refine Wp.exit ?_
      simp only [thenQ, blockQ, ↓reduceIte]
      have hm := hk_4761 _ hm
      try dsimp only at hm
      refine hW44 _ _ _ _ ?_ (hcut44 o0_4698 hm)
      exact fse1
    clear hK43 hk_4440
    refine Wp.block ?_
    obtain ⟨k_4886, hk_4886, hm⟩ := loopN_cont hm
    refine Wp.loopN (fun s => [(0, .buf 0), (2, .p (.i .i64 m_2)), (4, .fn 22 []), (14, .p (.i .i64 s.1)), (15, .p (.i .i64 s.2))]) (fun s => [.fx 32 13 (List.map enc_api_Record o0_4)]) ?_ hm ?_
    ·
     exact fse1
    clear hm
    intro s nx_4887 hm
    obtain ⟨i_4825, j_4826⟩ := s
    try dsimp only at hm
    try dsimp only
    refine Wp.seqW fun K52 hK52 hW52 => ?_
    refine qS ?_
    refine cM hm (fun hc54 hm => ?_) (fun hc54 hm => ?_)
    ·refine Wp.skip ?_
     refine hK52 _ _ ?_
     refine Wp.block ?_
     obtain ⟨v_4888, hv_4889, hm⟩ := letv_elim hm
     refine Wp.seqR fun K55 hK55 => ?_
     simp only [go_sem, simprocAttr, hv_4889]
     first | apply hK55 | refine ⟨sd, hK55 _ _ ?_⟩
     obtain ⟨c_4890, hm⟩ := chk_elim hm
     obtain ⟨v_4891, hv_4892, hm⟩ := letv_elim hm
     obtain ⟨v_4893, hv_4894, hm⟩ := letv_elim hm
     obtain ⟨v_4895, hv_4896, hm⟩ := letv_elim hm
     obtain ⟨v_4897, hv_4898, hm⟩ := letv_elim hm
     obtain ⟨v_4899, hv_4900, hm⟩ := letv_elim hm
     obtain ⟨v_4901, hv_4902, hm⟩ := letv_elim hm
     obtain ⟨v_4903, hv_4904, hm⟩ := letv_elim hm
     obtain ⟨v_4905, hv_4906, hm⟩ := letv_elim hm
     obtain ⟨v_4907, hv_4908, hm⟩ := letv_elim hm
     obtain ⟨v_4909, hv_4910, hm⟩ := letv_elim hm
     obtain ⟨v_4911, hv_4912, hm⟩ := letv_elim hm
     obtain ⟨v_4913, hv_4914, hm⟩ := letv_elim hm
     obtain ⟨v_4915, hv_4916, hm⟩ := letv_elim hm
     obtain ⟨c_4917, hm⟩ := chk_elim hm
     obtain ⟨v_4918, hv_4919, hm⟩ := letv_elim hm
     obtain ⟨v_4920, hv_4921, hm⟩ := letv_elim hm
     obtain ⟨v_4922, hv_4923, hm⟩ := letv_elim hm
     obtain ⟨v_4924, hv_4925, hm⟩ := letv_elim hm
     obtain ⟨v_4926, hv_4927, hm⟩ := letv_elim hm
     obtain ⟨v_4928, hv_4929, hm⟩ := letv_elim hm
     obtain ⟨v_4930, hv_4931, hm⟩ := letv_elim hm
     obtain ⟨v_4932, hv_4933, hm⟩ := letv_elim hm
     obtain ⟨v_4934, hv_4935, hm⟩ := letv_elim hm
     obtain ⟨v_4936, hv_4937, hm⟩ := letv_elim hm
     obtain ⟨v_4938, hv_4939, hm⟩ := letv_elim hm
     obtain ⟨v_4940, hv_4941, hm⟩ := letv_elim hm
     obtain ⟨v_4942, hv_4943, hm⟩ := letv_elim hm
     obtain ⟨r_4944, hr_4944, hm⟩ := call_elim hm
     have hr_4945 := fun h => getD_encB (l := o0_4) (e := enc_api_Record) (d := (api_Record.mk 0 0 [] (api_Version.mk 0 0 0 []) (api_Version.mk 0 0 0 []) 0 [])) (i := m_2.toNat) h []
     have hr_4946 := fun h => getD_encB (l := o0_4) (e := enc_api_Record) (d := (api_Record.mk 0 0 [] (api_Version.mk 0 0 0 []) (api_Version.mk 0 0 0 []) 0 [])) (i := v_4888.toNat) h []
     refine Wp.seqD (plan := pl [(0, none), (1, none), (2, none), (3, none), (4, none), (5, none), (6, none), (7, none), (8, none), (9, none), (10, none), (11, none)]) (by kernel_rfl) rfl (by kernel_rfl) fun K56 hK56 => ?_
     simp only [go_sem, simprocAttr, hv_4889, hv_4892, hv_4894, hv_4896, hv_4898, hv_4900, hv_4902, hv_4904, hv_4906, hv_4908, hv_4910, hv_4912, hv_4914, hv_4916, hv_4919, hv_4921, hv_4923, hv_4925, hv_4927, hv_4929, hv_4931, hv_4933, hv_4935, hv_4937, hv_4939, hv_4941, hv_4943, hr_4945 (by omega), hr_4946 (by omega)]
     try refine ⟨by first | exact sd | ((repeat' apply And.intro) <;> first | assumption | omega | (simp only [List.length_append, List.length_map, List.length_cons, List.length_nil, List.length_set, List.length_replicate] at c_4890 c_4917 ⊢; omega)), ?_⟩
     refine Dr.callF (av := ?av57) (g := true) (o := ?o57) (fun hg => ok_Law_could_1 (api_Record.mk v_4891 v_4893 v_4895 (api_Version.mk v_4897 v_4899 v_4901 v_4903) (api_Version.mk v_4905 v_4907 v_4909 v_4911) v_4913 v_4915) (api_Record.mk v_4918 v_4920 v_4922 (api_Version.mk v_4924 v_4926 v_4928 v_4930) (api_Version.mk v_4932 v_4934 v_4936 v_4938) v_4940 v_4942) _ hr_4944) (by simp only [go_sem, simprocAttr, hv_4889, hv_4892, hv_4894, hv_4896, hv_4898, hv_4900, hv_4902, hv_4904, hv_4906, hv_4908, hv_4910, hv_4912, hv_4914, hv_4916, hv_4919, hv_4921, hv_4923, hv_4925, hv_4927, hv_4929, hv_4931, hv_4933, hv_4935, hv_4937, hv_4939, hv_4941, hv_4943, hr_4945 (by omega), hr_4946 (by omega)]; exact Is.mk) (by simp only [go_sem, simprocAttr, hv_4889, hv_4892, hv_4894, hv_4896, hv_4898, hv_4900, hv_4902, hv_4904, hv_4906, hv_4908, hv_4910, hv_4912, hv_4914, hv_4916, hv_4919, hv_4921, hv_4923, hv_4925, hv_4927, hv_4929, hv_4931, hv_4933, hv_4935, hv_4937, hv_4939, hv_4941, hv_4943, hr_4945 (by omega), hr_4946 (by omega)]; exact Is.mk) (by simp only [go_sem, simprocAttr, hv_4889, hv_4892, hv_4894, hv_4896, hv_4898, hv_4900, hv_4902, hv_4904, hv_4906, hv_4908, hv_4910, hv_4912, hv_4914, hv_4916, hv_4919, hv_4921, hv_4923, hv_4925, hv_4927, hv_4929, hv_4931, hv_4933, hv_4935, hv_4937, hv_4939, hv_4941, hv_4943, hr_4945 (by omega), hr_4946 (by omega)]; exact Is.mk) (by simp only [go_sem, simprocAttr, hv_4889, hv_4892, hv_4894, hv_4896, hv_4898, hv_4900, hv_4902, hv_4904, hv_4906, hv_4908, hv_4910, hv_4912, hv_4914, hv_4916, hv_4919, hv_4921, hv_4923, hv_4925, hv_4927, hv_4929, hv_4931, hv_4933, hv_4935, hv_4937, hv_4939, hv_4941, hv_4943, hr_4945 (by omega), hr_4946 (by omega)]; exact Is.mk) (by simp only [go_sem, simprocAttr, hv_4889, hv_4892, hv_4894, hv_4896, hv_4898, hv_4900, hv_4902, hv_4904, hv_4906, hv_4908, hv_4910, hv_4912, hv_4914, hv_4916, hv_4919, hv_4921, hv_4923, hv_4925, hv_4927, hv_4929, hv_4931, hv_4933, hv_4935, hv_4937, hv_4939, hv_4941, hv_4943, hr_4945 (by omega), hr_4946 (by omega)]) (by simp only [go_sem, simprocAttr, hv_4889, hv_4892, hv_4894, hv_4896, hv_4898, hv_4900, hv_4902, hv_4904, hv_4906, hv_4908, hv_4910, hv_4912, hv_4914, hv_4916, hv_4919, hv_4921, hv_4923, hv_4925, hv_4927, hv_4929, hv_4931, hv_4933, hv_4935, hv_4937, hv_4939, hv_4941, hv_4943, hr_4945 (by omega), hr_4946 (by omega)]; exact Is.mk) ?cont57
     simp only [go_sem, simprocAttr, hv_4889, hv_4892, hv_4894, hv_4896, hv_4898, hv_4900, hv_4902, hv_4904, hv_4906, hv_4908, hv_4910, hv_4912, hv_4914, hv_4916, hv_4919, hv_4921, hv_4923, hv_4925, hv_4927, hv_4929, hv_4931, hv_4933, hv_4935, hv_4937, hv_4939, hv_4941, hv_4943, hr_4945 (by omega), hr_4946 (by omega)]
     first | apply hK56 | refine ⟨by first | exact sd | ((repeat' apply And.intro) <;> first | assumption | omega | (simp only [List.length_append, List.length_map, List.length_cons, List.length_nil, List.length_set, List.length_replicate] at c_4890 c_4917 ⊢; omega)), hK56 _ _ ?_⟩
     refine cM hm (fun hc58 hm => ?_) (fun hc58 hm => ?_)
     ·refine Wp.region fun K59 hK59 => ?_
      simp only [go_sem, simprocAttr, hv_4889, hv_4892, hv_4894, hv_4896, hv_4898, hv_4900, hv_4902, hv_4904, hv_4906, hv_4908, hv_4910, hv_4912, hv_4914, hv_4916, hv_4919, hv_4921, hv_4923, hv_4925, hv_4927, hv_4929, hv_4931, hv_4933, hv_4935, hv_4937, hv_4939, hv_4941, hv_4943]
      first | apply hK59 | refine ⟨sd, hK59 _ _ ?_⟩
      simp only [thenQ, blockQ, ↓reduceIte]
      refine ⟨(IntKind.i64.wrap (v_4888 + 1), j_4826), hm, ?_⟩
      simp only [go_sem, simprocAttr, hv_4889, hv_4892, hv_4894, hv_4896, hv_4898, hv_4900, hv_4902, hv_4904, hv_4906, hv_4908, hv_4910, hv_4912, hv_4914, hv_4916, hv_4919, hv_4921, hv_4923, hv_4925, hv_4927, hv_4929, hv_4931, hv_4933, hv_4935, hv_4937, hv_4939, hv_4941, hv_4943]
      try exact se1
     ·refine Wp.region fun K60 hK60 => ?_
      simp only [go_sem, simprocAttr, hv_4889, hv_4892, hv_4894, hv_4896, hv_4898, hv_4900, hv_4902, hv_4904, hv_4906, hv_4908, hv_4910, hv_4912, hv_4914, hv_4916, hv_4919, hv_4921, hv_4923, hv_4925, hv_4927, hv_4929, hv_4931, hv_4933, hv_4935, hv_4937, hv_4939, hv_4941, hv_4943]
      first | apply hK60 | refine ⟨sd, hK60 _ _ ?_⟩
      simp only [thenQ, blockQ, ↓reduceIte]
      refine ⟨(i_4825, v_4888), hm, ?_⟩
      simp only [go_sem, simprocAttr, hv_4889, hv_4892, hv_4894, hv_4896, hv_4898, hv_4900, hv_4902, hv_4904, hv_4906, hv_4908, hv_4910, hv_4912, hv_4914, hv_4916, hv_4919, hv_4921, hv_4923, hv_4925, hv_4927, hv_4929, hv_4931, hv_4933, hv_4935, hv_4937, hv_4939, hv_4941, hv_4943]
      try exact se1
    ·refine Wp.exit ?_
     simp only [thenQ, blockQ, ↓reduceIte]
     have hm := hk_4886 _ hm
     try dsimp only at hm
     refine hW43 _ _ _ _ ?_ (hcut43 i_4825 hm)
     exact fse1
   ·refine Wp.skip ?_
    refine hW2 _ _ _ _ ?_ (hcut2 () hm)
    exact fse1
  clear hK1 hk_3419
  refine qS ?_
  refine cM hm (fun hc62 hm => ?_) (fun hc62 hm => ?_)
  ·refine qS ?_
   refine qS ?_
   refine Wp.seqW fun K65 hK65 hW65 => ?_
   obtain ⟨k_5070, hk_5070, hm⟩ := jp_elim hm
   have hcut65 : ∀ s, k_5070 s = some z → K65 [(0, .buf 0), (1, .p (.i .i64 a_1)), (10, .p (.i .i64 s))] [.fx 32 13 (List.map enc_api_Record o0_4)] := by
    intro i_5069 hs
    have hm := hk_5070 _ hs
    clear hs
    try dsimp only at hm
    try dsimp only
    refine hK65 _ _ ?_
    refine Wp.seqW fun K66 hK66 hW66 => ?_
    obtain ⟨k_5263, hk_5263, hm⟩ := jp_elim hm
    have hcut66 : ∀ s, k_5263 s = some z → K66 [] [.fx 32 13 (List.map enc_api_Record s)] := by
     intro o0_5262 hs
     have hm := hk_5263 _ hs
     clear hs
     try dsimp only at hm
     try dsimp only
     refine hK66 _ _ ?_
     refine Wp.ret ?_
     refine retQ_ret ?_
     cases hm
     exact fse1
    clear hK66 hk_5263
    refine qS ?_
    refine Wp.block ?_
    obtain ⟨k_5391, hk_5391, hm⟩ := loopN_cont hm
    refine Wp.loopN (fun s => [(0, .buf 0), (10, .p (.i .i64 i_5069)), (13, .p (.i .i64 s.1))]) (fun s => [.fx 32 13 (List.map enc_api_Record s.2)]) ?_ hm ?_
    ·
     exact fse1
    clear hm
    intro s nx_5392 hm
    obtain ⟨k_5327, o0_5328⟩ := s
    try dsimp only at hm
    try dsimp only
    refine Wp.seqW fun K68 hK68 hW68 => ?_
    refine qS ?_
    refine cM hm (fun hc70 hm => ?_) (fun hc70 hm => ?_)
    ·refine Wp.skip ?_
     refine hK68 _ _ ?_
     refine Wp.seqW fun K71 hK71 hW71 => ?_
     refine Wp.block ?_
     obtain ⟨c_5393, hm⟩ := chk_elim hm
     obtain ⟨v_5394, hv_5395, hm⟩ := letv_elim hm
     obtain ⟨v_5396, hv_5397, hm⟩ := letv_elim hm
     obtain ⟨v_5398, hv_5399, hm⟩ := letv_elim hm
     obtain ⟨v_5400, hv_5401, hm⟩ := letv_elim hm
     obtain ⟨v_5402, hv_5403, hm⟩ := letv_elim hm
     obtain ⟨v_5404, hv_5405, hm⟩ := letv_elim hm
     obtain ⟨v_5406, hv_5407, hm⟩ := letv_elim hm
     obtain ⟨v_5408, hv_5409, hm⟩ := letv_elim hm
     obtain ⟨v_5410, hv_5411, hm⟩ := letv_elim hm
     obtain ⟨v_5412, hv_5413, hm⟩ := letv_elim hm
     obtain ⟨v_5414, hv_5415, hm⟩ := letv_elim hm
     obtain ⟨v_5416, hv_5417, hm⟩ := letv_elim hm
     obtain ⟨v_5418, hv_5419, hm⟩ := letv_elim hm
     obtain ⟨c_5420, hm⟩ := chk_elim hm
     obtain ⟨v_5421, hv_5422, hm⟩ := letv_elim hm
     obtain ⟨v_5423, hv_5424, hm⟩ := letv_elim hm
     obtain ⟨v_5425, hv_5426, hm⟩ := letv_elim hm
     obtain ⟨v_5427, hv_5428, hm⟩ := letv_elim hm
     obtain ⟨v_5429, hv_5430, hm⟩ := letv_elim hm
     obtain ⟨v_5431, hv_5432, hm⟩ := letv_elim hm
     obtain ⟨v_5433, hv_5434, hm⟩ := letv_elim hm
     obtain ⟨v_5435, hv_5436, hm⟩ := letv_elim hm
     obtain ⟨v_5437, hv_5438, hm⟩ := letv_elim hm
     obtain ⟨v_5439, hv_5440, hm⟩ := letv_elim hm
     obtain ⟨v_5441, hv_5442, hm⟩ := letv_elim hm
     obtain ⟨v_5443, hv_5444, hm⟩ := letv_elim hm
     obtain ⟨v_5445, hv_5446, hm⟩ := letv_elim hm
     obtain ⟨c_5447, hm⟩ := chk_elim hm
     obtain ⟨v_5448, hv_5449, hm⟩ := letv_elim hm
     have hv_5449m := congrArg (List.map enc_api_Record) hv_5449
     try simp only [List.map_append, List.map_cons, List.map_nil, List.map_set, List.map_replicate, enc_api_Record] at hv_5449m
     obtain ⟨c_5450, hm⟩ := chk_elim hm
     obtain ⟨v_5451, hv_5452, hm⟩ := letv_elim hm
     have hv_5452m := congrArg (List.map enc_api_Record) hv_5452
     try simp only [List.map_append, List.map_cons, List.map_nil, List.map_set, List.map_replicate, enc_api_Record] at hv_5452m
     have hr_5453 := fun h => getD_encB (l := o0_5328) (e := enc_api_Record) (d := (api_Record.mk 0 0 [] (api_Version.mk 0 0 0 []) (api_Version.mk 0 0 0 []) 0 [])) (i := (IntKind.i64.wrap (k_5327 + 1)).toNat) h []
     have hr_5454 := fun h => getD_encB (l := o0_5328) (e := enc_api_Record) (d := (api_Record.mk 0 0 [] (api_Version.mk 0 0 0 []) (api_Version.mk 0 0 0 []) 0 [])) (i := k_5327.toNat) h []
     refine Wp.regD (plan := pl [(0, none), (1, none), (2, none), (3, none), (4, none), (5, none), (6, none), (7, none), (8, none), (9, none), (10, none), (11, none), (12, none), (13, none), (14, none), (15, some [2, 3, 4]), (16, none), (17, some [])]) (by kernel_rfl) rfl (by kernel_rfl) fun K72 hK72 => ?_
     simp only [go_sem, simprocAttr, hv_5395, hv_5397, hv_5399, hv_5401, hv_5403, hv_5405, hv_5407, hv_5409, hv_5411, hv_5413, hv_5415, hv_5417, hv_5419, hv_5422, hv_5424, hv_5426, hv_5428, hv_5430, hv_5432, hv_5434, hv_5436, hv_5438, hv_5440, hv_5442, hv_5444, hv_5446, hv_5449, hv_5449m, hv_5452, hv_5452m, hr_5453 (by omega), hr_5454 (by omega)]
     first | apply hK72 | refine ⟨by first | exact sd | ((repeat' apply And.intro) <;> first | assumption | omega | (simp only [List.length_append, List.length_map, List.length_cons, List.length_nil, List.length_set, List.length_replicate] at c_5393 c_5420 c_5447 c_5450 ⊢; omega)), hK72 _ _ ?_⟩
     refine hK71 _ _ ?_
     refine Wp.region fun K73 hK73 => ?_
     simp only [go_sem, simprocAttr, hv_5395, hv_5397, hv_5399, hv_5401, hv_5403, hv_5405, hv_5407, hv_5409, hv_5411, hv_5413, hv_5415, hv_5417, hv_5419, hv_5422, hv_5424, hv_5426, hv_5428, hv_5430, hv_5432, hv_5434, hv_5436, hv_5438, hv_5440, hv_5442, hv_5444, hv_5446, hv_5449, hv_5449m, hv_5452, hv_5452m]
     first | apply hK73 | refine ⟨sd, hK73 _ _ ?_⟩
     simp only [thenQ, blockQ, ↓reduceIte]
     refine ⟨(IntKind.i64.wrap (k_5327 + 1), v_5451), hm, ?_⟩
     simp only [go_sem, simprocAttr, hv_5395, hv_5397, hv_5399, hv_5401, hv_5403, hv_5405, hv_5407, hv_5409, hv_5411, hv_5413, hv_5415, hv_5417, hv_5419, hv_5422, hv_5424, hv_5426, hv_5428, hv_5430, hv_5432, hv_5434, hv_5436, hv_5438, hv_5440, hv_5442, hv_5444, hv_5446, hv_5449, hv_5449m, hv_5452, hv_5452m]
     try exact se1
    ·refine Wp.exit ?_
     simp only [thenQ, blockQ, ↓reduceIte]
     have hm := hk_5391 _ hm
     try dsimp only at hm
     refine hW66 _ _ _ _ ?_ (hcut66 o0_5328 hm)
     exact fse1
   clear hK65 hk_5070
   refine Wp.block ?_
   obtain ⟨k_5516, hk_5516, hm⟩ := loopN_cont hm
   refine Wp.loopN (fun s => [(0, .buf 0), (1, .p (.i .i64 a_1)), (4, .fn 22 []), (10, .p (.i .i64 s.1)), (11, .p (.i .i64 s.2))]) (fun s => [.fx 32 13 (List.map enc_api_Record o0_4)]) ?_ hm ?_
   ·
    exact fse1
   clear hm
   intro s nx_5517 hm
   obtain ⟨i_5455, j_5456⟩ := s
   try dsimp only at hm
   try dsimp only
   refine Wp.seqW fun K74 hK74 hW74 => ?_
   refine qS ?_
   refine cM hm (fun hc76 hm => ?_) (fun hc76 hm => ?_)
   ·refine Wp.skip ?_
    refine hK74 _ _ ?_
    refine Wp.block ?_
    obtain ⟨v_5518, hv_5519, hm⟩ := letv_elim hm
    refine Wp.seqR fun K77 hK77 => ?_
    simp only [go_sem, simprocAttr, hv_5519]
    first | apply hK77 | refine ⟨sd, hK77 _ _ ?_⟩
    obtain ⟨c_5520, hm⟩ := chk_elim hm
    obtain ⟨v_5521, hv_5522, hm⟩ := letv_elim hm
    obtain ⟨v_5523, hv_5524, hm⟩ := letv_elim hm
    obtain ⟨v_5525, hv_5526, hm⟩ := letv_elim hm
    obtain ⟨v_5527, hv_5528, hm⟩ := letv_elim hm
    obtain ⟨v_5529, hv_5530, hm⟩ := letv_elim hm
    obtain ⟨v_5531, hv_5532, hm⟩ := letv_elim hm
    obtain ⟨v_5533, hv_5534, hm⟩ := letv_elim hm
    obtain ⟨v_5535, hv_5536, hm⟩ := letv_elim hm
    obtain ⟨v_5537, hv_5538, hm⟩ := letv_elim hm
    obtain ⟨v_5539, hv_5540, hm⟩ := letv_elim hm
    obtain ⟨v_5541, hv_5542, hm⟩ := letv_elim hm
    obtain ⟨v_5543, hv_5544, hm⟩ := letv_elim hm
    obtain ⟨v_5545, hv_5546, hm⟩ := letv_elim hm
    obtain ⟨c_5547, hm⟩ := chk_elim hm
    obtain ⟨v_5548, hv_5549, hm⟩ := letv_elim hm
    obtain ⟨v_5550, hv_5551, hm⟩ := letv_elim hm
    obtain ⟨v_5552, hv_5553, hm⟩ := letv_elim hm
    obtain ⟨v_5554, hv_5555, hm⟩ := letv_elim hm
    obtain ⟨v_5556, hv_5557, hm⟩ := letv_elim hm
    obtain ⟨v_5558, hv_5559, hm⟩ := letv_elim hm
    obtain ⟨v_5560, hv_5561, hm⟩ := letv_elim hm
    obtain ⟨v_5562, hv_5563, hm⟩ := letv_elim hm
    obtain ⟨v_5564, hv_5565, hm⟩ := letv_elim hm
    obtain ⟨v_5566, hv_5567, hm⟩ := letv_elim hm
    obtain ⟨v_5568, hv_5569, hm⟩ := letv_elim hm
    obtain ⟨v_5570, hv_5571, hm⟩ := letv_elim hm
    obtain ⟨v_5572, hv_5573, hm⟩ := letv_elim hm
    obtain ⟨r_5574, hr_5574, hm⟩ := call_elim hm
    have hr_5575 := fun h => getD_encB (l := o0_4) (e := enc_api_Record) (d := (api_Record.mk 0 0 [] (api_Version.mk 0 0 0 []) (api_Version.mk 0 0 0 []) 0 [])) (i := v_5518.toNat) h []
    have hr_5576 := fun h => getD_encB (l := o0_4) (e := enc_api_Record) (d := (api_Record.mk 0 0 [] (api_Version.mk 0 0 0 []) (api_Version.mk 0 0 0 []) 0 [])) (i := a_1.toNat) h []
    refine Wp.seqD (plan := pl [(0, none), (1, none), (2, none), (3, none), (4, none), (5, none), (6, none), (7, none), (8, none), (9, none), (10, none)]) (by kernel_rfl) rfl (by kernel_rfl) fun K78 hK78 => ?_
    simp only [go_sem, simprocAttr, hv_5519, hv_5522, hv_5524, hv_5526, hv_5528, hv_5530, hv_5532, hv_5534, hv_5536, hv_5538, hv_5540, hv_5542, hv_5544, hv_5546, hv_5549, hv_5551, hv_5553, hv_5555, hv_5557, hv_5559, hv_5561, hv_5563, hv_5565, hv_5567, hv_5569, hv_5571, hv_5573, hr_5575 (by omega), hr_5576 (by omega)]
    try refine ⟨by first | exact sd | ((repeat' apply And.intro) <;> first | assumption | omega | (simp only [List.length_append, List.length_map, List.length_cons, List.length_nil, List.length_set, List.length_replicate] at c_5520 c_5547 ⊢; omega)), ?_⟩
    refine Dr.callF (av := ?av79) (g := true) (o := ?o79) (fun hg => ok_Law_could_1 (api_Record.mk v_5521 v_5523 v_5525 (api_Version.mk v_5527 v_5529 v_5531 v_5533) (api_Version.mk v_5535 v_5537 v_5539 v_5541) v_5543 v_5545) (api_Record.mk v_5548 v_5550 v_5552 (api_Version.mk v_5554 v_5556 v_5558 v_5560) (api_Version.mk v_5562 v_5564 v_5566 v_5568) v_5570 v_5572) _ hr_5574) (by simp only [go_sem, simprocAttr, hv_5519, hv_5522, hv_5524, hv_5526, hv_5528, hv_5530, hv_5532, hv_5534, hv_5536, hv_5538, hv_5540, hv_5542, hv_5544, hv_5546, hv_5549, hv_5551, hv_5553, hv_5555, hv_5557, hv_5559, hv_5561, hv_5563, hv_5565, hv_5567, hv_5569, hv_5571, hv_5573, hr_5575 (by omega), hr_5576 (by omega)]; exact Is.mk) (by simp only [go_sem, simprocAttr, hv_5519, hv_5522, hv_5524, hv_5526, hv_5528, hv_5530, hv_5532, hv_5534, hv_5536, hv_5538, hv_5540, hv_5542, hv_5544, hv_5546, hv_5549, hv_5551, hv_5553, hv_5555, hv_5557, hv_5559, hv_5561, hv_5563, hv_5565, hv_5567, hv_5569, hv_5571, hv_5573, hr_5575 (by omega), hr_5576 (by omega)]; exact Is.mk) (by simp only [go_sem, simprocAttr, hv_5519, hv_5522, hv_5524, hv_5526, hv_5528, hv_5530, hv_5532, hv_5534, hv_5536, hv_5538, hv_5540, hv_5542, hv_5544, hv_5546, hv_5549, hv_5551, hv_5553, hv_5555, hv_5557, hv_5559, hv_5561, hv_5563, hv_5565, hv_5567, hv_5569, hv_5571, hv_5573, hr_5575 (by omega), hr_5576 (by omega)]; exact Is.mk) (by simp only [go_sem, simprocAttr, hv_5519, hv_5522, hv_5524, hv_5526, hv_5528, hv_5530, hv_5532, hv_5534, hv_5536, hv_5538, hv_5540, hv_5542, hv_5544, hv_5546, hv_5549, hv_5551, hv_5553, hv_5555, hv_5557, hv_5559, hv_5561, hv_5563, hv_5565, hv_5567, hv_5569, hv_5571, hv_5573, hr_5575 (by omega), hr_5576 (by omega)]; exact Is.mk) (by simp only [go_sem, simprocAttr, hv_5519, hv_5522, hv_5524, hv_5526, hv_5528, hv_5530, hv_5532, hv_5534, hv_5536, hv_5538, hv_5540, hv_5542, hv_5544, hv_5546, hv_5549, hv_5551, hv_5553, hv_5555, hv_5557, hv_5559, hv_5561, hv_5563, hv_5565, hv_5567, hv_5569, hv_5571, hv_5573, hr_5575 (by omega), hr_5576 (by omega)]) (by simp only [go_sem, simprocAttr, hv_5519, hv_5522, hv_5524, hv_5526, hv_5528, hv_5530, hv_5532, hv_5534, hv_5536, hv_5538, hv_5540, hv_5542, hv_5544, hv_5546, hv_5549, hv_5551, hv_5553, hv_5555, hv_5557, hv_5559, hv_5561, hv_5563, hv_5565, hv_5567, hv_5569, hv_5571, hv_5573, hr_5575 (by omega), hr_5576 (by omega)]; exact Is.mk) ?cont79
    simp only [go_sem, simprocAttr, hv_5519, hv_5522, hv_5524, hv_5526, hv_5528, hv_5530, hv_5532, hv_5534, hv_5536, hv_5538, hv_5540, hv_5542, hv_5544, hv_5546, hv_5549, hv_5551, hv_5553, hv_5555, hv_5557, hv_5559, hv_5561, hv_5563, hv_5565, hv_5567, hv_5569, hv_5571, hv_5573, hr_5575 (by omega), hr_5576 (by omega)]
    first | apply hK78 | refine ⟨by first | exact sd | ((repeat' apply And.intro) <;> first | assumption | omega | (simp only [List.length_append, List.length_map, List.length_cons, List.length_nil, List.length_set, List.length_replicate] at c_5520 c_5547 ⊢; omega)), hK78 _ _ ?_⟩
    refine cM hm (fun hc80 hm => ?_) (fun hc80 hm => ?_)
    ·refine Wp.region fun K81 hK81 => ?_
     simp only [go_sem, simprocAttr, hv_5519, hv_5522, hv_5524, hv_5526, hv_5528, hv_5530, hv_5532, hv_5534, hv_5536, hv_5538, hv_5540, hv_5542, hv_5544, hv_5546, hv_5549, hv_5551, hv_5553, hv_5555, hv_5557, hv_5559, hv_5561, hv_5563, hv_5565, hv_5567, hv_5569, hv_5571, hv_5573]
     first | apply hK81 | refine ⟨sd, hK81 _ _ ?_⟩
     simp only [thenQ, blockQ, ↓reduceIte]
     refine ⟨(IntKind.i64.wrap (v_5518 + 1), j_5456), hm, ?_⟩
     simp only [go_sem, simprocAttr, hv_5519, hv_5522, hv_5524, hv_5526, hv_5528, hv_5530, hv_5532, hv_5534, hv_5536, hv_5538, hv_5540, hv_5542, hv_5544, hv_5546, hv_5549, hv_5551, hv_5553, hv_5555, hv_5557, hv_5559, hv_5561, hv_5563, hv_5565, hv_5567, hv_5569, hv_5571, hv_5573]
     try exact se1
    ·refine Wp.region fun K82 hK82 => ?_
     simp only [go_sem, simprocAttr, hv_5519, hv_5522, hv_5524, hv_5526, hv_5528, hv_5530, hv_5532, hv_5534, hv_5536, hv_5538, hv_5540, hv_5542, hv_5544, hv_5546, hv_5549, hv_5551, hv_5553, hv_5555, hv_5557, hv_5559, hv_5561, hv_5563, hv_5565, hv_5567, hv_5569, hv_5571, hv_5573]
     first | apply hK82 | refine ⟨sd, hK82 _ _ ?_⟩
     simp only [thenQ, blockQ, ↓reduceIte]
     refine ⟨(i_5455, v_5518), hm, ?_⟩
     simp only [go_sem, simprocAttr, hv_5519, hv_5522, hv_5524, hv_5526, hv_5528, hv_5530, hv_5532, hv_5534, hv_5536, hv_5538, hv_5540, hv_5542, hv_5544, hv_5546, hv_5549, hv_5551, hv_5553, hv_5555, hv_5557, hv_5559, hv_5561, hv_5563, hv_5565, hv_5567, hv_5569, hv_5571, hv_5573]
     try exact se1
   ·refine Wp.exit ?_
    simp only [thenQ, blockQ, ↓reduceIte]
    have hm := hk_5516 _ hm
    try dsimp only at hm
    refine hW65 _ _ _ _ ?_ (hcut65 i_5455 hm)
    exact fse1
  ·refine Wp.skip ?_
   refine hW1 _ _ _ _ ?_ (hcut1 () hm)
   exact fse1
theorem ok_slices_stableCmpFunc_api_Record_i1 (n_1 : Int) (o0_2 : List api_Record) (z : List api_Record) (hm : slices_stableCmpFunc_api_Record_i1 n_1 o0_2 = some z) : Does Tryz.prog 48 [.buf 0, .p (.i .i64 n_1), .fn 22 []] [.fx 32 13 (List.map enc_api_Record o0_2)] (fun r X => r = .tup [] ∧ X = [.fx 32 13 (List.map enc_api_Record z)]) := by
 unfold slices_stableCmpFunc_api_Record_i1 at hm
 refine Does.of_wp 1 63 [] Tryz.func48 rfl (by decide) rfl rfl (Nat.le_of_ble_eq_true rfl) fun B => ?_
 refine qS ?_
 refine qS ?_
 refine Wp.seqW fun K3 hK3 hW3 => ?_
 obtain ⟨k_116, hk_116, hm⟩ := jp_elim hm
 have hcut3 : ∀ s, k_116 s = some z → K3 [(0, .buf 0), (1, .p (.i .i64 n_1)), (2, .fn 22 []), (6, .p (.i .i64 20)), (7, .p (.i .i64 s.1))] [.fx 32 13 (List.map enc_api_Record s.2)] := by
  intro s hs
  have hm := hk_116 _ hs
  clear hs
  obtain ⟨a_114, o0_115⟩ := s
  try dsimp only at hm
  try dsimp only
  refine hK3 _ _ ?_
  obtain ⟨r_117, hr_117, hm⟩ := call_elim hm
  refine Wp.seqR fun K4 hK4 => ?_
  simp only [go_sem, simprocAttr]
  try refine ⟨sd, ?_⟩
  refine Rg.callO (av := ?av5) [0] (ok_slices_insertionSortCmpFunc_api_Record_i1 a_114 n_1 o0_115 _ hr_117) si si si sg sg ?cont5
  rintro _ _ ⟨rfl, rfl⟩ hv5
  simp only [go_sem, simprocAttr]
  first | apply hK4 | refine ⟨sd, hK4 _ _ ?_⟩
  refine Wp.block ?_
  obtain ⟨k_169, hk_169, hm⟩ := loopN_cont hm
  refine Wp.loopN (fun s => [(0, .buf 0), (1, .p (.i .i64 n_1)), (2, .fn 22 []), (6, .p (.i .i64 s.1))]) (fun s => [.fx 32 13 (List.map enc_api_Record s.2)]) ?_ hm ?_
  ·
   exact fse1
  clear hm
  intro s nx_170 hm
  obtain ⟨blockSize_143, o0_144⟩ := s
  try dsimp only at hm
  try dsimp only
  refine Wp.seqW fun K6 hK6 hW6 => ?_
  refine qS ?_
  refine cM hm (fun hc8 hm => ?_) (fun hc8 hm => ?_)
  ·refine Wp.skip ?_
   refine hK6 _ _ ?_
   refine Wp.block ?_
   refine qS ?_
   refine Wp.seqW fun K10 hK10 hW10 => ?_
   obtain ⟨k_183, hk_183, hm⟩ := jp_elim hm
   have hcut10 : ∀ s, k_183 s = some z → K10 [(0, .buf 0), (1, .p (.i .i64 n_1)), (2, .fn 22 []), (6, .p (.i .i64 blockSize_143)), (7, .p (.i .i64 s.1))] [.fx 32 13 (List.map enc_api_Record s.2)] := by
    intro s hs
    have hm := hk_183 _ hs
    clear hs
    obtain ⟨a_181, o0_182⟩ := s
    try dsimp only at hm
    try dsimp only
    refine hK10 _ _ ?_
    refine Wp.seqW fun K11 hK11 hW11 => ?_
    refine qS ?_
    refine qS ?_
    refine cM hm (fun hc14 hm => ?_) (fun hc14 hm => ?_)
    ·obtain ⟨r_184, hr_184, hm⟩ := call_elim hm
     refine Wp.region fun K15 hK15 => ?_
     simp only [go_sem, simprocAttr]
     try refine ⟨sd, ?_⟩
     refine Rg.callO (av := ?av16) [0] (ok_slices_symMergeCmpFunc_api_Record_i1 Fuel a_181 (IntKind.i64.wrap (a_181 + blockSize_143)) n_1 o0_182 _ hr_184) si si si sg sg ?cont16
     rintro _ _ ⟨rfl, rfl⟩ hv16
     simp only [go_sem, simprocAttr]
     first | apply hK15 | refine ⟨sd, hK15 _ _ ?_⟩
     refine hK11 _ _ ?_
     refine qR ?_
     simp only [thenQ, blockQ, ↓reduceIte]
     refine ⟨(IntKind.i64.wrap (blockSize_143 * 2), r_184), hm, ?_⟩
     exact fse1
    ·refine Wp.skip ?_
     refine hK11 _ _ ?_
     refine qR ?_
     simp only [thenQ, blockQ, ↓reduceIte]
     refine ⟨(IntKind.i64.wrap (blockSize_143 * 2), o0_182), hm, ?_⟩
     exact fse1
   clear hK10 hk_183
   refine Wp.block ?_
   obtain ⟨k_192, hk_192, hm⟩ := loopN_cont hm
   refine Wp.loopN (fun s => [(0, .buf 0), (1, .p (.i .i64 n_1)), (2, .fn 22 []), (6, .p (.i .i64 blockSize_143)), (7, .p (.i .i64 s.1)), (8, .p (.i .i64 s.2.1))]) (fun s => [.fx 32 13 (List.map enc_api_Record s.2.2)]) ?_ hm ?_
   ·
    exact fse1
   clear hm
   intro s nx_193 hm
   obtain ⟨a_188, b_189, o0_190⟩ := s
   try dsimp only at hm
   try dsimp only
   refine Wp.seqW fun K19 hK19 hW19 => ?_
   refine qS ?_
   refine cM hm (fun hc21 hm => ?_) (fun hc21 hm => ?_)
   ·refine Wp.skip ?_
    refine hK19 _ _ ?_
    refine Wp.block ?_
    obtain ⟨r_194, hr_194, hm⟩ := call_elim hm
    refine Wp.seqR fun K22 hK22 => ?_
    simp only [go_sem, simprocAttr]
    try refine ⟨sd, ?_⟩
    refine Rg.callO (av := ?av23) [0] (ok_slices_symMergeCmpFunc_api_Record_i1 Fuel a_188 (IntKind.i64.wrap (a_188 + blockSize_143)) b_189 o0_190 _ hr_194) si si si sg sg ?cont23
    rintro _ _ ⟨rfl, rfl⟩ hv23
    simp only [go_sem, simprocAttr]
    first | apply hK22 | refine ⟨sd, hK22 _ _ ?_⟩
    refine qS ?_
    refine qR ?_
    simp only [thenQ, blockQ, ↓reduceIte]
    refine ⟨(b_189, IntKind.i64.wrap (b_189 + (IntKind.i64.wrap (2 * blockSize_143))), r_194), hm, ?_⟩
    exact fse1
   ·refine Wp.exit ?_
    simp only [thenQ, blockQ, ↓reduceIte]
    have hm := hk_192 _ hm
    try dsimp only at hm
    refine hW10 _ _ _ _ ?_ (hcut10 (a_188, o0_190) hm)
    exact fse1
  ·refine Wp.exit ?_
   simp only [thenQ, blockQ, ↓reduceIte]
   have hm := hk_169 _ hm
   try dsimp only at hm
   refine retQ_normal ?_
   cases hm
   exact fse1
 clear hK3 hk_116
 refine Wp.block ?_
 obtain ⟨k_202, hk_202, hm⟩ := loopN_cont hm
 refine Wp.loopN (fun s => [(0, .buf 0), (1, .p (.i .i64 n_1)), (2, .fn 22 []), (6, .p (.i .i64 20)), (7, .p (.i .i64 s.1)), (8, .p (.i .i64 s.2.1))]) (fun s => [.fx 32 13 (List.map enc_api_Record s.2.2)]) ?_ hm ?_
 ·
  exact fse1
 clear hm
 intro s nx_203 hm
 obtain ⟨a_198, b_199, o0_200⟩ := s
 try dsimp only at hm
 try dsimp only
 refine Wp.seqW fun K26 hK26 hW26 => ?_
 refine qS ?_
 refine cM hm (fun hc28 hm => ?_) (fun hc28 hm => ?_)
 ·refine Wp.skip ?_
  refine hK26 _ _ ?_
  refine Wp.block ?_
  obtain ⟨r_204, hr_204, hm⟩ := call_elim hm
  refine Wp.seqR fun K29 hK29 => ?_
  simp only [go_sem, simprocAttr]
  try refine ⟨sd, ?_⟩
  refine Rg.callO (av := ?av30) [0] (ok_slices_insertionSortCmpFunc_api_Record_i1 a_198 b_199 o0_200 _ hr_204) si si si sg sg ?cont30
  rintro _ _ ⟨rfl, rfl⟩ hv30
  simp only [go_sem, simprocAttr]
  first | apply hK29 | refine ⟨sd, hK29 _ _ ?_⟩
  refine qS ?_
  refine qR ?_
  simp only [thenQ, blockQ, ↓reduceIte]
  refine ⟨(b_199, IntKind.i64.wrap (b_199 + 20), r_204), hm, ?_⟩
  exact fse1
 ·refine Wp.exit ?_
  simp only [thenQ, blockQ, ↓reduceIte]
  have hm := hk_202 _ hm
  try dsimp only at hm
  refine hW3 _ _ _ _ ?_ (hcut3 (a_198, o0_200) hm)
  exact fse1
end Go.Proofs.YthmjpfooffbhhaaGreatDoor
