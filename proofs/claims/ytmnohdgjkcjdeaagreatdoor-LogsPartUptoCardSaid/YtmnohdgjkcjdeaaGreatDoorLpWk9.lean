/- That the code does what the models say (part 9). -/
import Derived.Test.YtmnohdgjkcjdeaaGreatDoorLpWk0
import Derived.Test.YtmnohdgjkcjdeaaGreatDoorLpWk8
set_option linter.unusedSimpArgs false
set_option linter.unusedVariables false
open Go.Proofs Go.Shelf
namespace Go.Proofs.YtmnohdgjkcjdeaaGreatDoor
open Go.Vc Go.Md
set_option maxRecDepth 100000
set_option maxHeartbeats 4000000
theorem zaE:∀ (fuel:Nat) (a_5:Int) (m_2:Int) (b_6:Int) (o0_3:List api_Record) (z:List api_Record) (hm:zj fuel a_5 m_2 b_6 o0_3=some z),Does Tryz.prog 123 [.buf 0,.p (.i .i64 a_5),.p (.i .i64 m_2),.p (.i .i64 b_6),.fn 49 []] [.fx 30 13 (List.map za o0_3)] (fun r X=>r=.tup []∧X=[.fx 30 13 (List.map za z)]):=by
 intro fuel
 induction fuel with
 | zero=>intro a_5 m_2 b_6 o0_3 z hm; unfold zj at hm; cases hm
 | succ nrec ih =>
  intro a_5 m_2 b_6 o0_3 z hm
  unfold zj at hm
  refine dW 1 220 [] Tryz.func123 fun B=>?_
  refine Wp.seqW fun K1 hK1 hW1=>?_
  obtain ⟨k_101,hk_101,hm⟩:=zk hm
  have hcut1:∀ s,k_101 s=some z→K1 [(0,.buf 0),(1,.p (.i .i64 a_5)),(2,.p (.i .i64 m_2)),(3,.p (.i .i64 b_6)),(4,.fn 49 [])] [.fx 30 13 (List.map za o0_3)]:=by
   intro s hs
   have hm:=hk_101 _ hs
   clear hs
   try dsimp only at hm
   try dsimp only
   refine hK1 _ _ ?_
   refine Wp.seqW fun K2 hK2 hW2=>?_
   obtain ⟨k_102,hk_102,hm⟩:=zk hm
   have hcut2:∀ s,k_102 s=some z→K2 [(0,.buf 0),(1,.p (.i .i64 a_5)),(2,.p (.i .i64 m_2)),(3,.p (.i .i64 b_6)),(4,.fn 49 [])] [.fx 30 13 (List.map za o0_3)]:=by
    intro s hs
    have hm:=hk_102 _ hs
    clear hs
    try dsimp only at hm
    try dsimp only
    refine hK2 _ _ ?_
    obtain ⟨v_4,hv_1,hm⟩:=ze hm
    refine Wp.seqR fun K3 hK3=>?_
    simp only [go_sem,simprocAttr,hv_1]
    refine kA hK3 ?_
    refine Wp.seqR fun K4 hK4=>?_
    simp only [go_sem,simprocAttr,hv_1]
    refine kA hK4 ?_
    refine Wp.seqR fun K5 hK5=>?_
    simp only [go_sem,simprocAttr,hv_1]
    refine kA hK5 ?_
    refine Wp.seqW fun K6 hK6 hW6=>?_
    obtain ⟨k_103,hk_103,hm⟩:=zk hm
    have hcut6:∀ s,k_103 s=some z→K6 [(0,.buf 0),(1,.p (.i .i64 a_5)),(2,.p (.i .i64 m_2)),(3,.p (.i .i64 b_6)),(4,.fn 49 []),(18,.p (.i .i64 v_4)),(19,.p (.i .i64 (IntKind.i64.wrap (v_4+m_2)))),(20,.p (.i .i64 s.1)),(21,.p (.i .i64 s.2))] [.fx 30 13 (List.map za o0_3)]:=by
     intro s hs
     have hm:=hk_103 _ hs
     clear hs
     obtain ⟨start_275,r_276⟩:=s
     try dsimp only at hm
     try dsimp only
     refine hK6 _ _ ?_
     refine Wp.seqR fun K7 hK7=>?_
     simp only [go_sem,simprocAttr,hv_1]
     refine kA hK7 ?_
     refine Wp.seqW fun K8 hK8 hW8=>?_
     obtain ⟨k_104,hk_104,hm⟩:=zk hm
     have hcut8:∀ s,k_104 s=some z→K8 [(0,.buf 0),(1,.p (.i .i64 a_5)),(2,.p (.i .i64 m_2)),(3,.p (.i .i64 b_6)),(4,.fn 49 []),(18,.p (.i .i64 v_4)),(19,.p (.i .i64 (IntKind.i64.wrap (v_4+m_2)))),(20,.p (.i .i64 s))] [.fx 30 13 (List.map za o0_3)]:=by
      intro start_100 hs
      have hm:=hk_104 _ hs
      clear hs
      try dsimp only at hm
      try dsimp only
      refine hK8 _ _ ?_
      refine Wp.seqR fun K9 hK9=>?_
      simp only [go_sem,simprocAttr,hv_1]
      refine kA hK9 ?_
      refine Wp.seqW fun K10 hK10 hW10=>?_
      obtain ⟨k_105,hk_105,hm⟩:=zk hm
      have hcut10:∀ s,k_105 s=some z→K10 [(0,.buf 0),(1,.p (.i .i64 a_5)),(3,.p (.i .i64 b_6)),(4,.fn 49 []),(18,.p (.i .i64 v_4)),(20,.p (.i .i64 start_100)),(24,.p (.i .i64 (IntKind.i64.wrap ((IntKind.i64.wrap (v_4+m_2)) - start_100))))] [.fx 30 13 (List.map za s)]:=by
       intro o0_172 hs
       have hm:=hk_105 _ hs
       clear hs
       try dsimp only at hm
       try dsimp only
       refine hK10 _ _ ?_
       refine Wp.seqW fun K11 hK11 hW11=>?_
       obtain ⟨k_106,hk_106,hm⟩:=zk hm
       have hcut11:∀ s,k_106 s=some z→K11 [(0,.buf 0),(3,.p (.i .i64 b_6)),(4,.fn 49 []),(18,.p (.i .i64 v_4)),(24,.p (.i .i64 (IntKind.i64.wrap ((IntKind.i64.wrap (v_4+m_2)) - start_100))))] [.fx 30 13 (List.map za s)]:=by
        intro o0_185 hs
        have hm:=hk_106 _ hs
        clear hs
        try dsimp only at hm
        try dsimp only
        refine hK11 _ _ ?_
        obtain ⟨v_277,hv_88,hm⟩:=ze hm
        refine Wp.seqR fun K12 hK12=>?_
        simp only [go_sem,simprocAttr,hv_1,hv_88]
        refine kA hK12 ?_
        refine cM hm (fun hc13 hm=>?_) (fun hc13 hm=>?_)
        ·obtain ⟨r_173,hr_173,hm⟩:=zb hm
         refine Wp.region fun K14 hK14=>?_
         simp only [go_sem,simprocAttr,hv_1,hv_88]
         try refine ⟨sd,?_⟩
         refine Rg.callO (av:=?av15) [0] (ih v_4 (IntKind.i64.wrap ((IntKind.i64.wrap (v_4+m_2)) - start_100)) b_6 o0_185 _ hr_173) (by simp only [go_sem,simprocAttr,hv_1,hv_88]; exact Is.mk) (by simp only [go_sem,simprocAttr,hv_1,hv_88]; exact Is.mk) (by simp only [go_sem,simprocAttr,hv_1,hv_88]; exact Is.mk) (by simp only [go_sem,simprocAttr,hv_1,hv_88]) (by simp only [go_sem,simprocAttr,hv_1,hv_88]) ?cont15
         rintro _ _ ⟨rfl,rfl⟩ hv15
         simp only [go_sem,simprocAttr,hv_1,hv_88]
         refine kA hK14 ?_
         refine zaJ ?_
         cases hm
         simp only [go_sem,simprocAttr,hv_1,hv_88]
         try exact se3
        ·refine Wp.skip ?_
         refine zaJ ?_
         cases hm
         simp only [go_sem,simprocAttr,hv_1,hv_88]
         try exact se3
       clear hK11 hk_106
       refine Wp.seqR fun K16 hK16=>?_
       simp only [go_sem,simprocAttr,hv_1]
       refine kA hK16 ?_
       refine cM hm (fun hc17 hm=>?_) (fun hc17 hm=>?_)
       ·obtain ⟨r_112,hr_112,hm⟩:=zb hm
        refine Wp.region fun K18 hK18=>?_
        simp only [go_sem,simprocAttr,hv_1]
        try refine ⟨sd,?_⟩
        refine Rg.callO (av:=?av19) [0] (ih a_5 start_100 v_4 o0_172 _ hr_112) (by simp only [go_sem,simprocAttr,hv_1]; exact Is.mk) (by simp only [go_sem,simprocAttr,hv_1]; exact Is.mk) (by simp only [go_sem,simprocAttr,hv_1]; exact Is.mk) (by simp only [go_sem,simprocAttr,hv_1]) (by simp only [go_sem,simprocAttr,hv_1]) ?cont19
        rintro _ _ ⟨rfl,rfl⟩ hv19
        simp only [go_sem,simprocAttr,hv_1]
        refine kA hK18 ?_
        refine hW11 _ _ _ _ ?_ (hcut11 r_112 hm)
        simp only [go_sem,simprocAttr,hv_1]
        try exact se3
       ·refine Wp.skip ?_
        refine hW11 _ _ _ _ ?_ (hcut11 o0_172 hm)
        simp only [go_sem,simprocAttr,hv_1]
        try exact se3
      clear hK10 hk_105
      obtain ⟨v_278,hv_89,hm⟩:=ze hm
      refine Wp.seqR fun K20 hK20=>?_
      simp only [go_sem,simprocAttr,hv_1,hv_89]
      refine kA hK20 ?_
      refine cM hm (fun hc21 hm=>?_) (fun hc21 hm=>?_)
      ·obtain ⟨r_113,hr_113,hm⟩:=zb hm
       refine Wp.region fun K22 hK22=>?_
       simp only [go_sem,simprocAttr,hv_1,hv_89]
       try refine ⟨sd,?_⟩
       refine Rg.callO (av:=?av23) [0] (zbZ start_100 m_2 (IntKind.i64.wrap ((IntKind.i64.wrap (v_4+m_2)) - start_100)) o0_3 _ hr_113) (by simp only [go_sem,simprocAttr,hv_1,hv_89]; exact Is.mk) (by simp only [go_sem,simprocAttr,hv_1,hv_89]; exact Is.mk) (by simp only [go_sem,simprocAttr,hv_1,hv_89]; exact Is.mk) (by simp only [go_sem,simprocAttr,hv_1,hv_89]) (by simp only [go_sem,simprocAttr,hv_1,hv_89]) ?cont23
       rintro _ _ ⟨rfl,rfl⟩ hv23
       simp only [go_sem,simprocAttr,hv_1,hv_89]
       refine kA hK22 ?_
       refine hW10 _ _ _ _ ?_ (hcut10 r_113 hm)
       simp only [go_sem,simprocAttr,hv_1,hv_89]
       try exact se3
      ·refine Wp.skip ?_
       refine hW10 _ _ _ _ ?_ (hcut10 o0_3 hm)
       simp only [go_sem,simprocAttr,hv_1,hv_89]
       try exact se3
     clear hK8 hk_104
     refine Wp.block ?_
     obtain ⟨k_174,hk_174,hm⟩:=zB hm
     refine Wp.loopN (fun s=>[(0,.buf 0),(1,.p (.i .i64 a_5)),(2,.p (.i .i64 m_2)),(3,.p (.i .i64 b_6)),(4,.fn 49 []),(18,.p (.i .i64 v_4)),(19,.p (.i .i64 (IntKind.i64.wrap (v_4+m_2)))),(20,.p (.i .i64 s.1)),(21,.p (.i .i64 s.2)),(22,.p (.i .i64 (IntKind.i64.wrap ((IntKind.i64.wrap (v_4+m_2)) - 1))))]) (fun s=>[.fx 30 13 (List.map za o0_3)]) ?_ hm ?_
     ·
      simp only [go_sem,simprocAttr,hv_1]
      try exact se3
     clear hm
     intro s nx_279 hm
     obtain ⟨start_175,r_186⟩:=s
     try dsimp only at hm
     try dsimp only
     refine Wp.seqW fun K24 hK24 hW24=>?_
     refine Wp.seqR fun K25 hK25=>?_
     simp only [go_sem,simprocAttr,hv_1]
     refine kA hK25 ?_
     refine cM hm (fun hc26 hm=>?_) (fun hc26 hm=>?_)
     ·refine Wp.skip ?_
      refine hK24 _ _ ?_
      refine Wp.block ?_
      obtain ⟨v_107,hv_7,hm⟩:=ze hm
      refine Wp.seqR fun K27 hK27=>?_
      simp only [go_sem,simprocAttr,hv_1,hv_7]
      refine kA hK27 ?_
      obtain ⟨c_280,hm⟩:=zf hm
      obtain ⟨v_187,hv_10,hm⟩:=ze hm
      obtain ⟨v_188,hv_11,hm⟩:=ze hm
      obtain ⟨v_189,hv_12,hm⟩:=ze hm
      obtain ⟨v_190,hv_13,hm⟩:=ze hm
      obtain ⟨v_191,hv_14,hm⟩:=ze hm
      obtain ⟨v_192,hv_15,hm⟩:=ze hm
      obtain ⟨v_193,hv_16,hm⟩:=ze hm
      obtain ⟨v_194,hv_17,hm⟩:=ze hm
      obtain ⟨v_195,hv_18,hm⟩:=ze hm
      obtain ⟨v_196,hv_19,hm⟩:=ze hm
      obtain ⟨v_197,hv_20,hm⟩:=ze hm
      obtain ⟨v_198,hv_21,hm⟩:=ze hm
      obtain ⟨v_199,hv_22,hm⟩:=ze hm
      obtain ⟨c_281,hm⟩:=zf hm
      obtain ⟨v_200,hv_23,hm⟩:=ze hm
      obtain ⟨v_201,hv_24,hm⟩:=ze hm
      obtain ⟨v_202,hv_25,hm⟩:=ze hm
      obtain ⟨v_203,hv_26,hm⟩:=ze hm
      obtain ⟨v_204,hv_27,hm⟩:=ze hm
      obtain ⟨v_205,hv_28,hm⟩:=ze hm
      obtain ⟨v_206,hv_29,hm⟩:=ze hm
      obtain ⟨v_207,hv_30,hm⟩:=ze hm
      obtain ⟨v_208,hv_31,hm⟩:=ze hm
      obtain ⟨v_209,hv_32,hm⟩:=ze hm
      obtain ⟨v_210,hv_33,hm⟩:=ze hm
      obtain ⟨v_211,hv_34,hm⟩:=ze hm
      obtain ⟨v_212,hv_35,hm⟩:=ze hm
      obtain ⟨r_176,hr_176,hm⟩:=zb hm
      have hr_94:=fun h=>zJ (l:=o0_3) (e:=za) (d:=(api_Record.mk 0 0 [] (api_Version.mk 0 0 0 []) (api_Version.mk 0 0 0 []) 0 [])) (i:=(IntKind.i64.wrap ((IntKind.i64.wrap ((IntKind.i64.wrap (v_4+m_2)) - 1)) - v_107)).toNat) h []
      have hr_95:=fun h=>zJ (l:=o0_3) (e:=za) (d:=(api_Record.mk 0 0 [] (api_Version.mk 0 0 0 []) (api_Version.mk 0 0 0 []) 0 [])) (i:=v_107.toNat) h []
      refine Wp.seqD (plan:=pl [(0,none),(1,none),(2,none),(3,none),(4,none),(5,none),(6,none),(7,none),(8,none),(9,none),(10,none),(11,none),(12,none),(13,none)]) (by kernel_rfl) rfl (by kernel_rfl) fun K28 hK28=>?_
      simp only [go_sem,simprocAttr,hv_1,hv_7,hv_10,hv_11,hv_12,hv_13,hv_14,hv_15,hv_16,hv_17,hv_18,hv_19,hv_20,hv_21,hv_22,hv_23,hv_24,hv_25,hv_26,hv_27,hv_28,hv_29,hv_30,hv_31,hv_32,hv_33,hv_34,hv_35,hr_94 (by omega),hr_95 (by omega)]
      try refine ⟨sL,?_⟩
      refine Dr.callF (av:=?av29) (g:=true) (o:=?o29) (fun hg=>zc5 (api_Record.mk v_187 v_188 v_189 (api_Version.mk v_190 v_191 v_192 v_193) (api_Version.mk v_194 v_195 v_196 v_197) v_198 v_199) (api_Record.mk v_200 v_201 v_202 (api_Version.mk v_203 v_204 v_205 v_206) (api_Version.mk v_207 v_208 v_209 v_210) v_211 v_212) _ hr_176) (by simp only [go_sem,simprocAttr,hv_1,hv_7,hv_10,hv_11,hv_12,hv_13,hv_14,hv_15,hv_16,hv_17,hv_18,hv_19,hv_20,hv_21,hv_22,hv_23,hv_24,hv_25,hv_26,hv_27,hv_28,hv_29,hv_30,hv_31,hv_32,hv_33,hv_34,hv_35,hr_94 (by omega),hr_95 (by omega)]; exact Is.mk) (by simp only [go_sem,simprocAttr,hv_1,hv_7,hv_10,hv_11,hv_12,hv_13,hv_14,hv_15,hv_16,hv_17,hv_18,hv_19,hv_20,hv_21,hv_22,hv_23,hv_24,hv_25,hv_26,hv_27,hv_28,hv_29,hv_30,hv_31,hv_32,hv_33,hv_34,hv_35,hr_94 (by omega),hr_95 (by omega)]; exact Is.mk) (by simp only [go_sem,simprocAttr,hv_1,hv_7,hv_10,hv_11,hv_12,hv_13,hv_14,hv_15,hv_16,hv_17,hv_18,hv_19,hv_20,hv_21,hv_22,hv_23,hv_24,hv_25,hv_26,hv_27,hv_28,hv_29,hv_30,hv_31,hv_32,hv_33,hv_34,hv_35,hr_94 (by omega),hr_95 (by omega)]; exact Is.mk) (by simp only [go_sem,simprocAttr,hv_1,hv_7,hv_10,hv_11,hv_12,hv_13,hv_14,hv_15,hv_16,hv_17,hv_18,hv_19,hv_20,hv_21,hv_22,hv_23,hv_24,hv_25,hv_26,hv_27,hv_28,hv_29,hv_30,hv_31,hv_32,hv_33,hv_34,hv_35,hr_94 (by omega),hr_95 (by omega)]; exact Is.mk) (by simp only [go_sem,simprocAttr,hv_1,hv_7,hv_10,hv_11,hv_12,hv_13,hv_14,hv_15,hv_16,hv_17,hv_18,hv_19,hv_20,hv_21,hv_22,hv_23,hv_24,hv_25,hv_26,hv_27,hv_28,hv_29,hv_30,hv_31,hv_32,hv_33,hv_34,hv_35,hr_94 (by omega),hr_95 (by omega)]) (by simp only [go_sem,simprocAttr,hv_1,hv_7,hv_10,hv_11,hv_12,hv_13,hv_14,hv_15,hv_16,hv_17,hv_18,hv_19,hv_20,hv_21,hv_22,hv_23,hv_24,hv_25,hv_26,hv_27,hv_28,hv_29,hv_30,hv_31,hv_32,hv_33,hv_34,hv_35,hr_94 (by omega),hr_95 (by omega)]; exact Is.mk) ?cont29
      simp only [go_sem,simprocAttr,hv_1,hv_7,hv_10,hv_11,hv_12,hv_13,hv_14,hv_15,hv_16,hv_17,hv_18,hv_19,hv_20,hv_21,hv_22,hv_23,hv_24,hv_25,hv_26,hv_27,hv_28,hv_29,hv_30,hv_31,hv_32,hv_33,hv_34,hv_35,hr_94 (by omega),hr_95 (by omega)]
      refine kA hK28 ?_
      refine cM hm (fun hc30 hm=>?_) (fun hc30 hm=>?_)
      ·refine Wp.region fun K31 hK31=>?_
       simp only [go_sem,simprocAttr,hv_1,hv_7,hv_10,hv_11,hv_12,hv_13,hv_14,hv_15,hv_16,hv_17,hv_18,hv_19,hv_20,hv_21,hv_22,hv_23,hv_24,hv_25,hv_26,hv_27,hv_28,hv_29,hv_30,hv_31,hv_32,hv_33,hv_34,hv_35]
       refine kA hK31 ?_
       simp only [zl,zi,↓reduceIte]
       refine ⟨(IntKind.i64.wrap (v_107+1),r_186),hm,?_⟩
       simp only [go_sem,simprocAttr,hv_1,hv_7,hv_10,hv_11,hv_12,hv_13,hv_14,hv_15,hv_16,hv_17,hv_18,hv_19,hv_20,hv_21,hv_22,hv_23,hv_24,hv_25,hv_26,hv_27,hv_28,hv_29,hv_30,hv_31,hv_32,hv_33,hv_34,hv_35]
       try exact se3
      ·refine Wp.region fun K32 hK32=>?_
       simp only [go_sem,simprocAttr,hv_1,hv_7,hv_10,hv_11,hv_12,hv_13,hv_14,hv_15,hv_16,hv_17,hv_18,hv_19,hv_20,hv_21,hv_22,hv_23,hv_24,hv_25,hv_26,hv_27,hv_28,hv_29,hv_30,hv_31,hv_32,hv_33,hv_34,hv_35]
       refine kA hK32 ?_
       simp only [zl,zi,↓reduceIte]
       refine ⟨(start_175,v_107),hm,?_⟩
       simp only [go_sem,simprocAttr,hv_1,hv_7,hv_10,hv_11,hv_12,hv_13,hv_14,hv_15,hv_16,hv_17,hv_18,hv_19,hv_20,hv_21,hv_22,hv_23,hv_24,hv_25,hv_26,hv_27,hv_28,hv_29,hv_30,hv_31,hv_32,hv_33,hv_34,hv_35]
       try exact se3
     ·refine Wp.exit ?_
      simp only [zl,zi,↓reduceIte]
      have hm:=hk_174 _ hm
      try dsimp only at hm
      refine hW8 _ _ _ _ ?_ (hcut8 start_175 hm)
      simp only [go_sem,simprocAttr,hv_1]
      try exact se3
    clear hK6 hk_103
    refine Wp.seqR fun K33 hK33=>?_
    simp only [go_sem,simprocAttr,hv_1]
    refine kA hK33 ?_
    refine cM hm (fun hc34 hm=>?_) (fun hc34 hm=>?_)
    ·refine Wp.seqR fun K35 hK35=>?_
     simp only [go_sem,simprocAttr,hv_1]
     refine kA hK35 ?_
     refine Wp.region fun K36 hK36=>?_
     simp only [go_sem,simprocAttr,hv_1]
     refine kA hK36 ?_
     refine hW6 _ _ _ _ ?_ (hcut6 (IntKind.i64.wrap ((IntKind.i64.wrap (v_4+m_2)) - b_6),v_4) hm)
     simp only [go_sem,simprocAttr,hv_1]
     try exact se3
    ·refine Wp.seqR fun K37 hK37=>?_
     simp only [go_sem,simprocAttr,hv_1]
     refine kA hK37 ?_
     refine Wp.region fun K38 hK38=>?_
     simp only [go_sem,simprocAttr,hv_1]
     refine kA hK38 ?_
     refine hW6 _ _ _ _ ?_ (hcut6 (a_5,m_2) hm)
     simp only [go_sem,simprocAttr,hv_1]
     try exact se3
   clear hK2 hk_102
   refine qS ?_
   refine cM hm (fun hc40 hm=>?_) (fun hc40 hm=>?_)
   ·refine qS ?_
    refine qS ?_
    refine Wp.seqW fun K43 hK43 hW43=>?_
    obtain ⟨k_108,hk_108,hm⟩:=zk hm
    have hcut43:∀ s,k_108 s=some z→K43 [(0,.buf 0),(2,.p (.i .i64 m_2)),(14,.p (.i .i64 s))] [.fx 30 13 (List.map za o0_3)]:=by
     intro i_213 hs
     have hm:=hk_108 _ hs
     clear hs
     try dsimp only at hm
     try dsimp only
     refine hK43 _ _ ?_
     refine Wp.seqW fun K44 hK44 hW44=>?_
     obtain ⟨k_109,hk_109,hm⟩:=zk hm
     have hcut44:∀ s,k_109 s=some z→K44 [] [.fx 30 13 (List.map za s)]:=by
      intro o0_282 hs
      have hm:=hk_109 _ hs
      clear hs
      try dsimp only at hm
      try dsimp only
      refine hK44 _ _ ?_
      refine Wp.ret ?_
      refine zc ?_
      cases hm
      exact zn
     clear hK44 hk_109
     refine qS ?_
     refine Wp.block ?_
     obtain ⟨k_177,hk_177,hm⟩:=zB hm
     refine Wp.loopN (fun s=>[(0,.buf 0),(14,.p (.i .i64 i_213)),(17,.p (.i .i64 s.1))]) (fun s=>[.fx 30 13 (List.map za s.2)]) ?_ hm ?_
     ·
      exact zn
     clear hm
     intro s nx_283 hm
     obtain ⟨k_114,o0_115⟩:=s
     try dsimp only at hm
     try dsimp only
     refine Wp.seqW fun K46 hK46 hW46=>?_
     refine qS ?_
     refine cM hm (fun hc48 hm=>?_) (fun hc48 hm=>?_)
     ·refine Wp.skip ?_
      refine hK46 _ _ ?_
      refine Wp.seqW fun K49 hK49 hW49=>?_
      refine Wp.block ?_
      obtain ⟨c_284,hm⟩:=zf hm
      obtain ⟨v_285,hv_116,hm⟩:=ze hm
      obtain ⟨v_286,hv_117,hm⟩:=ze hm
      obtain ⟨v_287,hv_118,hm⟩:=ze hm
      obtain ⟨v_288,hv_119,hm⟩:=ze hm
      obtain ⟨v_289,hv_120,hm⟩:=ze hm
      obtain ⟨v_290,hv_121,hm⟩:=ze hm
      obtain ⟨v_291,hv_122,hm⟩:=ze hm
      obtain ⟨v_292,hv_123,hm⟩:=ze hm
      obtain ⟨v_293,hv_124,hm⟩:=ze hm
      obtain ⟨v_294,hv_125,hm⟩:=ze hm
      obtain ⟨v_295,hv_126,hm⟩:=ze hm
      obtain ⟨v_296,hv_127,hm⟩:=ze hm
      obtain ⟨v_297,hv_128,hm⟩:=ze hm
      obtain ⟨c_298,hm⟩:=zf hm
      obtain ⟨v_299,hv_129,hm⟩:=ze hm
      obtain ⟨v_300,hv_130,hm⟩:=ze hm
      obtain ⟨v_301,hv_131,hm⟩:=ze hm
      obtain ⟨v_302,hv_132,hm⟩:=ze hm
      obtain ⟨v_303,hv_133,hm⟩:=ze hm
      obtain ⟨v_304,hv_134,hm⟩:=ze hm
      obtain ⟨v_305,hv_135,hm⟩:=ze hm
      obtain ⟨v_306,hv_136,hm⟩:=ze hm
      obtain ⟨v_307,hv_137,hm⟩:=ze hm
      obtain ⟨v_308,hv_138,hm⟩:=ze hm
      obtain ⟨v_309,hv_139,hm⟩:=ze hm
      obtain ⟨v_310,hv_140,hm⟩:=ze hm
      obtain ⟨v_311,hv_141,hm⟩:=ze hm
      obtain ⟨c_312,hm⟩:=zf hm
      obtain ⟨v_313,hv_90,hm⟩:=ze hm
      have hv_90m:=congrArg (List.map za) hv_90
      try simp only [List.map_append,List.map_cons,List.map_nil,List.map_set,List.map_replicate,za] at hv_90m
      obtain ⟨c_314,hm⟩:=zf hm
      obtain ⟨v_214,hv_91,hm⟩:=ze hm
      have hv_91m:=congrArg (List.map za) hv_91
      try simp only [List.map_append,List.map_cons,List.map_nil,List.map_set,List.map_replicate,za] at hv_91m
      have hr_215:=fun h=>zJ (l:=o0_115) (e:=za) (d:=(api_Record.mk 0 0 [] (api_Version.mk 0 0 0 []) (api_Version.mk 0 0 0 []) 0 [])) (i:=(IntKind.i64.wrap (k_114 - 1)).toNat) h []
      have hr_216:=fun h=>zJ (l:=o0_115) (e:=za) (d:=(api_Record.mk 0 0 [] (api_Version.mk 0 0 0 []) (api_Version.mk 0 0 0 []) 0 [])) (i:=k_114.toNat) h []
      refine Wp.regD (plan:=pl [(0,none),(1,none),(2,none),(3,none),(4,none),(5,none),(6,none),(7,none),(8,none),(9,none),(10,none),(11,none),(12,none),(13,none),(14,none),(15,some [2,3,4]),(16,none),(17,some [])]) (by kernel_rfl) rfl (by kernel_rfl) fun K50 hK50=>?_
      simp only [go_sem,simprocAttr,hv_116,hv_117,hv_118,hv_119,hv_120,hv_121,hv_122,hv_123,hv_124,hv_125,hv_126,hv_127,hv_128,hv_129,hv_130,hv_131,hv_132,hv_133,hv_134,hv_135,hv_136,hv_137,hv_138,hv_139,hv_140,hv_141,hv_90,hv_90m,hv_91,hv_91m,hr_215 (by omega),hr_216 (by omega)]
      refine kA hK50 ?_
      refine hK49 _ _ ?_
      refine Wp.region fun K51 hK51=>?_
      simp only [go_sem,simprocAttr,hv_116,hv_117,hv_118,hv_119,hv_120,hv_121,hv_122,hv_123,hv_124,hv_125,hv_126,hv_127,hv_128,hv_129,hv_130,hv_131,hv_132,hv_133,hv_134,hv_135,hv_136,hv_137,hv_138,hv_139,hv_140,hv_141,hv_90,hv_90m,hv_91,hv_91m]
      refine kA hK51 ?_
      simp only [zl,zi,↓reduceIte]
      refine ⟨(IntKind.i64.wrap (k_114 - 1),v_214),hm,?_⟩
      simp only [go_sem,simprocAttr,hv_116,hv_117,hv_118,hv_119,hv_120,hv_121,hv_122,hv_123,hv_124,hv_125,hv_126,hv_127,hv_128,hv_129,hv_130,hv_131,hv_132,hv_133,hv_134,hv_135,hv_136,hv_137,hv_138,hv_139,hv_140,hv_141,hv_90,hv_90m,hv_91,hv_91m]
      try exact se3
     ·refine Wp.exit ?_
      simp only [zl,zi,↓reduceIte]
      have hm:=hk_177 _ hm
      try dsimp only at hm
      refine hW44 _ _ _ _ ?_ (hcut44 o0_115 hm)
      exact zn
    clear hK43 hk_108
    refine Wp.block ?_
    obtain ⟨k_178,hk_178,hm⟩:=zB hm
    refine Wp.loopN (fun s=>[(0,.buf 0),(2,.p (.i .i64 m_2)),(4,.fn 49 []),(14,.p (.i .i64 s.1)),(15,.p (.i .i64 s.2))]) (fun s=>[.fx 30 13 (List.map za o0_3)]) ?_ hm ?_
    ·
     exact zn
    clear hm
    intro s nx_315 hm
    obtain ⟨i_179,j_217⟩:=s
    try dsimp only at hm
    try dsimp only
    refine Wp.seqW fun K52 hK52 hW52=>?_
    refine qS ?_
    refine cM hm (fun hc54 hm=>?_) (fun hc54 hm=>?_)
    ·refine Wp.skip ?_
     refine hK52 _ _ ?_
     refine Wp.block ?_
     obtain ⟨v_142,hv_8,hm⟩:=ze hm
     refine Wp.seqR fun K55 hK55=>?_
     simp only [go_sem,simprocAttr,hv_8]
     refine kA hK55 ?_
     obtain ⟨c_316,hm⟩:=zf hm
     obtain ⟨v_218,hv_36,hm⟩:=ze hm
     obtain ⟨v_219,hv_37,hm⟩:=ze hm
     obtain ⟨v_220,hv_38,hm⟩:=ze hm
     obtain ⟨v_221,hv_39,hm⟩:=ze hm
     obtain ⟨v_222,hv_40,hm⟩:=ze hm
     obtain ⟨v_223,hv_41,hm⟩:=ze hm
     obtain ⟨v_224,hv_42,hm⟩:=ze hm
     obtain ⟨v_225,hv_43,hm⟩:=ze hm
     obtain ⟨v_226,hv_44,hm⟩:=ze hm
     obtain ⟨v_227,hv_45,hm⟩:=ze hm
     obtain ⟨v_228,hv_46,hm⟩:=ze hm
     obtain ⟨v_229,hv_47,hm⟩:=ze hm
     obtain ⟨v_230,hv_48,hm⟩:=ze hm
     obtain ⟨c_317,hm⟩:=zf hm
     obtain ⟨v_231,hv_49,hm⟩:=ze hm
     obtain ⟨v_232,hv_50,hm⟩:=ze hm
     obtain ⟨v_233,hv_51,hm⟩:=ze hm
     obtain ⟨v_234,hv_52,hm⟩:=ze hm
     obtain ⟨v_235,hv_53,hm⟩:=ze hm
     obtain ⟨v_236,hv_54,hm⟩:=ze hm
     obtain ⟨v_237,hv_55,hm⟩:=ze hm
     obtain ⟨v_238,hv_56,hm⟩:=ze hm
     obtain ⟨v_239,hv_57,hm⟩:=ze hm
     obtain ⟨v_240,hv_58,hm⟩:=ze hm
     obtain ⟨v_241,hv_59,hm⟩:=ze hm
     obtain ⟨v_242,hv_60,hm⟩:=ze hm
     obtain ⟨v_243,hv_61,hm⟩:=ze hm
     obtain ⟨r_180,hr_180,hm⟩:=zb hm
     have hr_96:=fun h=>zJ (l:=o0_3) (e:=za) (d:=(api_Record.mk 0 0 [] (api_Version.mk 0 0 0 []) (api_Version.mk 0 0 0 []) 0 [])) (i:=m_2.toNat) h []
     have hr_97:=fun h=>zJ (l:=o0_3) (e:=za) (d:=(api_Record.mk 0 0 [] (api_Version.mk 0 0 0 []) (api_Version.mk 0 0 0 []) 0 [])) (i:=v_142.toNat) h []
     refine Wp.seqD (plan:=pl [(0,none),(1,none),(2,none),(3,none),(4,none),(5,none),(6,none),(7,none),(8,none),(9,none),(10,none),(11,none)]) (by kernel_rfl) rfl (by kernel_rfl) fun K56 hK56=>?_
     simp only [go_sem,simprocAttr,hv_8,hv_36,hv_37,hv_38,hv_39,hv_40,hv_41,hv_42,hv_43,hv_44,hv_45,hv_46,hv_47,hv_48,hv_49,hv_50,hv_51,hv_52,hv_53,hv_54,hv_55,hv_56,hv_57,hv_58,hv_59,hv_60,hv_61,hr_96 (by omega),hr_97 (by omega)]
     try refine ⟨sL,?_⟩
     refine Dr.callF (av:=?av57) (g:=true) (o:=?o57) (fun hg=>zc5 (api_Record.mk v_218 v_219 v_220 (api_Version.mk v_221 v_222 v_223 v_224) (api_Version.mk v_225 v_226 v_227 v_228) v_229 v_230) (api_Record.mk v_231 v_232 v_233 (api_Version.mk v_234 v_235 v_236 v_237) (api_Version.mk v_238 v_239 v_240 v_241) v_242 v_243) _ hr_180) (by simp only [go_sem,simprocAttr,hv_8,hv_36,hv_37,hv_38,hv_39,hv_40,hv_41,hv_42,hv_43,hv_44,hv_45,hv_46,hv_47,hv_48,hv_49,hv_50,hv_51,hv_52,hv_53,hv_54,hv_55,hv_56,hv_57,hv_58,hv_59,hv_60,hv_61,hr_96 (by omega),hr_97 (by omega)]; exact Is.mk) (by simp only [go_sem,simprocAttr,hv_8,hv_36,hv_37,hv_38,hv_39,hv_40,hv_41,hv_42,hv_43,hv_44,hv_45,hv_46,hv_47,hv_48,hv_49,hv_50,hv_51,hv_52,hv_53,hv_54,hv_55,hv_56,hv_57,hv_58,hv_59,hv_60,hv_61,hr_96 (by omega),hr_97 (by omega)]; exact Is.mk) (by simp only [go_sem,simprocAttr,hv_8,hv_36,hv_37,hv_38,hv_39,hv_40,hv_41,hv_42,hv_43,hv_44,hv_45,hv_46,hv_47,hv_48,hv_49,hv_50,hv_51,hv_52,hv_53,hv_54,hv_55,hv_56,hv_57,hv_58,hv_59,hv_60,hv_61,hr_96 (by omega),hr_97 (by omega)]; exact Is.mk) (by simp only [go_sem,simprocAttr,hv_8,hv_36,hv_37,hv_38,hv_39,hv_40,hv_41,hv_42,hv_43,hv_44,hv_45,hv_46,hv_47,hv_48,hv_49,hv_50,hv_51,hv_52,hv_53,hv_54,hv_55,hv_56,hv_57,hv_58,hv_59,hv_60,hv_61,hr_96 (by omega),hr_97 (by omega)]; exact Is.mk) (by simp only [go_sem,simprocAttr,hv_8,hv_36,hv_37,hv_38,hv_39,hv_40,hv_41,hv_42,hv_43,hv_44,hv_45,hv_46,hv_47,hv_48,hv_49,hv_50,hv_51,hv_52,hv_53,hv_54,hv_55,hv_56,hv_57,hv_58,hv_59,hv_60,hv_61,hr_96 (by omega),hr_97 (by omega)]) (by simp only [go_sem,simprocAttr,hv_8,hv_36,hv_37,hv_38,hv_39,hv_40,hv_41,hv_42,hv_43,hv_44,hv_45,hv_46,hv_47,hv_48,hv_49,hv_50,hv_51,hv_52,hv_53,hv_54,hv_55,hv_56,hv_57,hv_58,hv_59,hv_60,hv_61,hr_96 (by omega),hr_97 (by omega)]; exact Is.mk) ?cont57
     simp only [go_sem,simprocAttr,hv_8,hv_36,hv_37,hv_38,hv_39,hv_40,hv_41,hv_42,hv_43,hv_44,hv_45,hv_46,hv_47,hv_48,hv_49,hv_50,hv_51,hv_52,hv_53,hv_54,hv_55,hv_56,hv_57,hv_58,hv_59,hv_60,hv_61,hr_96 (by omega),hr_97 (by omega)]
     refine kA hK56 ?_
     refine cM hm (fun hc58 hm=>?_) (fun hc58 hm=>?_)
     ·refine Wp.region fun K59 hK59=>?_
      simp only [go_sem,simprocAttr,hv_8,hv_36,hv_37,hv_38,hv_39,hv_40,hv_41,hv_42,hv_43,hv_44,hv_45,hv_46,hv_47,hv_48,hv_49,hv_50,hv_51,hv_52,hv_53,hv_54,hv_55,hv_56,hv_57,hv_58,hv_59,hv_60,hv_61]
      refine kA hK59 ?_
      simp only [zl,zi,↓reduceIte]
      refine ⟨(IntKind.i64.wrap (v_142+1),j_217),hm,?_⟩
      simp only [go_sem,simprocAttr,hv_8,hv_36,hv_37,hv_38,hv_39,hv_40,hv_41,hv_42,hv_43,hv_44,hv_45,hv_46,hv_47,hv_48,hv_49,hv_50,hv_51,hv_52,hv_53,hv_54,hv_55,hv_56,hv_57,hv_58,hv_59,hv_60,hv_61]
      try exact se3
     ·refine Wp.region fun K60 hK60=>?_
      simp only [go_sem,simprocAttr,hv_8,hv_36,hv_37,hv_38,hv_39,hv_40,hv_41,hv_42,hv_43,hv_44,hv_45,hv_46,hv_47,hv_48,hv_49,hv_50,hv_51,hv_52,hv_53,hv_54,hv_55,hv_56,hv_57,hv_58,hv_59,hv_60,hv_61]
      refine kA hK60 ?_
      simp only [zl,zi,↓reduceIte]
      refine ⟨(i_179,v_142),hm,?_⟩
      simp only [go_sem,simprocAttr,hv_8,hv_36,hv_37,hv_38,hv_39,hv_40,hv_41,hv_42,hv_43,hv_44,hv_45,hv_46,hv_47,hv_48,hv_49,hv_50,hv_51,hv_52,hv_53,hv_54,hv_55,hv_56,hv_57,hv_58,hv_59,hv_60,hv_61]
      try exact se3
    ·refine Wp.exit ?_
     simp only [zl,zi,↓reduceIte]
     have hm:=hk_178 _ hm
     try dsimp only at hm
     refine hW43 _ _ _ _ ?_ (hcut43 i_179 hm)
     exact zn
   ·refine Wp.skip ?_
    refine hW2 _ _ _ _ ?_ (hcut2 () hm)
    exact zn
  clear hK1 hk_101
  refine qS ?_
  refine cM hm (fun hc62 hm=>?_) (fun hc62 hm=>?_)
  ·refine qS ?_
   refine qS ?_
   refine Wp.seqW fun K65 hK65 hW65=>?_
   obtain ⟨k_110,hk_110,hm⟩:=zk hm
   have hcut65:∀ s,k_110 s=some z→K65 [(0,.buf 0),(1,.p (.i .i64 a_5)),(10,.p (.i .i64 s))] [.fx 30 13 (List.map za o0_3)]:=by
    intro i_244 hs
    have hm:=hk_110 _ hs
    clear hs
    try dsimp only at hm
    try dsimp only
    refine hK65 _ _ ?_
    refine Wp.seqW fun K66 hK66 hW66=>?_
    obtain ⟨k_111,hk_111,hm⟩:=zk hm
    have hcut66:∀ s,k_111 s=some z→K66 [] [.fx 30 13 (List.map za s)]:=by
     intro o0_318 hs
     have hm:=hk_111 _ hs
     clear hs
     try dsimp only at hm
     try dsimp only
     refine hK66 _ _ ?_
     refine Wp.ret ?_
     refine zc ?_
     cases hm
     exact zn
    clear hK66 hk_111
    refine qS ?_
    refine Wp.block ?_
    obtain ⟨k_181,hk_181,hm⟩:=zB hm
    refine Wp.loopN (fun s=>[(0,.buf 0),(10,.p (.i .i64 i_244)),(13,.p (.i .i64 s.1))]) (fun s=>[.fx 30 13 (List.map za s.2)]) ?_ hm ?_
    ·
     exact zn
    clear hm
    intro s nx_319 hm
    obtain ⟨k_143,o0_144⟩:=s
    try dsimp only at hm
    try dsimp only
    refine Wp.seqW fun K68 hK68 hW68=>?_
    refine qS ?_
    refine cM hm (fun hc70 hm=>?_) (fun hc70 hm=>?_)
    ·refine Wp.skip ?_
     refine hK68 _ _ ?_
     refine Wp.seqW fun K71 hK71 hW71=>?_
     refine Wp.block ?_
     obtain ⟨c_320,hm⟩:=zf hm
     obtain ⟨v_321,hv_145,hm⟩:=ze hm
     obtain ⟨v_322,hv_146,hm⟩:=ze hm
     obtain ⟨v_323,hv_147,hm⟩:=ze hm
     obtain ⟨v_324,hv_148,hm⟩:=ze hm
     obtain ⟨v_325,hv_149,hm⟩:=ze hm
     obtain ⟨v_326,hv_150,hm⟩:=ze hm
     obtain ⟨v_327,hv_151,hm⟩:=ze hm
     obtain ⟨v_328,hv_152,hm⟩:=ze hm
     obtain ⟨v_329,hv_153,hm⟩:=ze hm
     obtain ⟨v_330,hv_154,hm⟩:=ze hm
     obtain ⟨v_331,hv_155,hm⟩:=ze hm
     obtain ⟨v_332,hv_156,hm⟩:=ze hm
     obtain ⟨v_333,hv_157,hm⟩:=ze hm
     obtain ⟨c_334,hm⟩:=zf hm
     obtain ⟨v_335,hv_158,hm⟩:=ze hm
     obtain ⟨v_336,hv_159,hm⟩:=ze hm
     obtain ⟨v_337,hv_160,hm⟩:=ze hm
     obtain ⟨v_338,hv_161,hm⟩:=ze hm
     obtain ⟨v_339,hv_162,hm⟩:=ze hm
     obtain ⟨v_340,hv_163,hm⟩:=ze hm
     obtain ⟨v_341,hv_164,hm⟩:=ze hm
     obtain ⟨v_342,hv_165,hm⟩:=ze hm
     obtain ⟨v_343,hv_166,hm⟩:=ze hm
     obtain ⟨v_344,hv_167,hm⟩:=ze hm
     obtain ⟨v_345,hv_168,hm⟩:=ze hm
     obtain ⟨v_346,hv_169,hm⟩:=ze hm
     obtain ⟨v_347,hv_170,hm⟩:=ze hm
     obtain ⟨c_348,hm⟩:=zf hm
     obtain ⟨v_349,hv_92,hm⟩:=ze hm
     have hv_92m:=congrArg (List.map za) hv_92
     try simp only [List.map_append,List.map_cons,List.map_nil,List.map_set,List.map_replicate,za] at hv_92m
     obtain ⟨c_350,hm⟩:=zf hm
     obtain ⟨v_245,hv_93,hm⟩:=ze hm
     have hv_93m:=congrArg (List.map za) hv_93
     try simp only [List.map_append,List.map_cons,List.map_nil,List.map_set,List.map_replicate,za] at hv_93m
     have hr_246:=fun h=>zJ (l:=o0_144) (e:=za) (d:=(api_Record.mk 0 0 [] (api_Version.mk 0 0 0 []) (api_Version.mk 0 0 0 []) 0 [])) (i:=(IntKind.i64.wrap (k_143+1)).toNat) h []
     have hr_247:=fun h=>zJ (l:=o0_144) (e:=za) (d:=(api_Record.mk 0 0 [] (api_Version.mk 0 0 0 []) (api_Version.mk 0 0 0 []) 0 [])) (i:=k_143.toNat) h []
     refine Wp.regD (plan:=pl [(0,none),(1,none),(2,none),(3,none),(4,none),(5,none),(6,none),(7,none),(8,none),(9,none),(10,none),(11,none),(12,none),(13,none),(14,none),(15,some [2,3,4]),(16,none),(17,some [])]) (by kernel_rfl) rfl (by kernel_rfl) fun K72 hK72=>?_
     simp only [go_sem,simprocAttr,hv_145,hv_146,hv_147,hv_148,hv_149,hv_150,hv_151,hv_152,hv_153,hv_154,hv_155,hv_156,hv_157,hv_158,hv_159,hv_160,hv_161,hv_162,hv_163,hv_164,hv_165,hv_166,hv_167,hv_168,hv_169,hv_170,hv_92,hv_92m,hv_93,hv_93m,hr_246 (by omega),hr_247 (by omega)]
     refine kA hK72 ?_
     refine hK71 _ _ ?_
     refine Wp.region fun K73 hK73=>?_
     simp only [go_sem,simprocAttr,hv_145,hv_146,hv_147,hv_148,hv_149,hv_150,hv_151,hv_152,hv_153,hv_154,hv_155,hv_156,hv_157,hv_158,hv_159,hv_160,hv_161,hv_162,hv_163,hv_164,hv_165,hv_166,hv_167,hv_168,hv_169,hv_170,hv_92,hv_92m,hv_93,hv_93m]
     refine kA hK73 ?_
     simp only [zl,zi,↓reduceIte]
     refine ⟨(IntKind.i64.wrap (k_143+1),v_245),hm,?_⟩
     simp only [go_sem,simprocAttr,hv_145,hv_146,hv_147,hv_148,hv_149,hv_150,hv_151,hv_152,hv_153,hv_154,hv_155,hv_156,hv_157,hv_158,hv_159,hv_160,hv_161,hv_162,hv_163,hv_164,hv_165,hv_166,hv_167,hv_168,hv_169,hv_170,hv_92,hv_92m,hv_93,hv_93m]
     try exact se3
    ·refine Wp.exit ?_
     simp only [zl,zi,↓reduceIte]
     have hm:=hk_181 _ hm
     try dsimp only at hm
     refine hW66 _ _ _ _ ?_ (hcut66 o0_144 hm)
     exact zn
   clear hK65 hk_110
   refine Wp.block ?_
   obtain ⟨k_182,hk_182,hm⟩:=zB hm
   refine Wp.loopN (fun s=>[(0,.buf 0),(1,.p (.i .i64 a_5)),(4,.fn 49 []),(10,.p (.i .i64 s.1)),(11,.p (.i .i64 s.2))]) (fun s=>[.fx 30 13 (List.map za o0_3)]) ?_ hm ?_
   ·
    exact zn
   clear hm
   intro s nx_351 hm
   obtain ⟨i_183,j_248⟩:=s
   try dsimp only at hm
   try dsimp only
   refine Wp.seqW fun K74 hK74 hW74=>?_
   refine qS ?_
   refine cM hm (fun hc76 hm=>?_) (fun hc76 hm=>?_)
   ·refine Wp.skip ?_
    refine hK74 _ _ ?_
    refine Wp.block ?_
    obtain ⟨v_171,hv_9,hm⟩:=ze hm
    refine Wp.seqR fun K77 hK77=>?_
    simp only [go_sem,simprocAttr,hv_9]
    refine kA hK77 ?_
    obtain ⟨c_352,hm⟩:=zf hm
    obtain ⟨v_249,hv_62,hm⟩:=ze hm
    obtain ⟨v_250,hv_63,hm⟩:=ze hm
    obtain ⟨v_251,hv_64,hm⟩:=ze hm
    obtain ⟨v_252,hv_65,hm⟩:=ze hm
    obtain ⟨v_253,hv_66,hm⟩:=ze hm
    obtain ⟨v_254,hv_67,hm⟩:=ze hm
    obtain ⟨v_255,hv_68,hm⟩:=ze hm
    obtain ⟨v_256,hv_69,hm⟩:=ze hm
    obtain ⟨v_257,hv_70,hm⟩:=ze hm
    obtain ⟨v_258,hv_71,hm⟩:=ze hm
    obtain ⟨v_259,hv_72,hm⟩:=ze hm
    obtain ⟨v_260,hv_73,hm⟩:=ze hm
    obtain ⟨v_261,hv_74,hm⟩:=ze hm
    obtain ⟨c_353,hm⟩:=zf hm
    obtain ⟨v_262,hv_75,hm⟩:=ze hm
    obtain ⟨v_263,hv_76,hm⟩:=ze hm
    obtain ⟨v_264,hv_77,hm⟩:=ze hm
    obtain ⟨v_265,hv_78,hm⟩:=ze hm
    obtain ⟨v_266,hv_79,hm⟩:=ze hm
    obtain ⟨v_267,hv_80,hm⟩:=ze hm
    obtain ⟨v_268,hv_81,hm⟩:=ze hm
    obtain ⟨v_269,hv_82,hm⟩:=ze hm
    obtain ⟨v_270,hv_83,hm⟩:=ze hm
    obtain ⟨v_271,hv_84,hm⟩:=ze hm
    obtain ⟨v_272,hv_85,hm⟩:=ze hm
    obtain ⟨v_273,hv_86,hm⟩:=ze hm
    obtain ⟨v_274,hv_87,hm⟩:=ze hm
    obtain ⟨r_184,hr_184,hm⟩:=zb hm
    have hr_98:=fun h=>zJ (l:=o0_3) (e:=za) (d:=(api_Record.mk 0 0 [] (api_Version.mk 0 0 0 []) (api_Version.mk 0 0 0 []) 0 [])) (i:=v_171.toNat) h []
    have hr_99:=fun h=>zJ (l:=o0_3) (e:=za) (d:=(api_Record.mk 0 0 [] (api_Version.mk 0 0 0 []) (api_Version.mk 0 0 0 []) 0 [])) (i:=a_5.toNat) h []
    refine Wp.seqD (plan:=pl [(0,none),(1,none),(2,none),(3,none),(4,none),(5,none),(6,none),(7,none),(8,none),(9,none),(10,none)]) (by kernel_rfl) rfl (by kernel_rfl) fun K78 hK78=>?_
    simp only [go_sem,simprocAttr,hv_9,hv_62,hv_63,hv_64,hv_65,hv_66,hv_67,hv_68,hv_69,hv_70,hv_71,hv_72,hv_73,hv_74,hv_75,hv_76,hv_77,hv_78,hv_79,hv_80,hv_81,hv_82,hv_83,hv_84,hv_85,hv_86,hv_87,hr_98 (by omega),hr_99 (by omega)]
    try refine ⟨sL,?_⟩
    refine Dr.callF (av:=?av79) (g:=true) (o:=?o79) (fun hg=>zc5 (api_Record.mk v_249 v_250 v_251 (api_Version.mk v_252 v_253 v_254 v_255) (api_Version.mk v_256 v_257 v_258 v_259) v_260 v_261) (api_Record.mk v_262 v_263 v_264 (api_Version.mk v_265 v_266 v_267 v_268) (api_Version.mk v_269 v_270 v_271 v_272) v_273 v_274) _ hr_184) (by simp only [go_sem,simprocAttr,hv_9,hv_62,hv_63,hv_64,hv_65,hv_66,hv_67,hv_68,hv_69,hv_70,hv_71,hv_72,hv_73,hv_74,hv_75,hv_76,hv_77,hv_78,hv_79,hv_80,hv_81,hv_82,hv_83,hv_84,hv_85,hv_86,hv_87,hr_98 (by omega),hr_99 (by omega)]; exact Is.mk) (by simp only [go_sem,simprocAttr,hv_9,hv_62,hv_63,hv_64,hv_65,hv_66,hv_67,hv_68,hv_69,hv_70,hv_71,hv_72,hv_73,hv_74,hv_75,hv_76,hv_77,hv_78,hv_79,hv_80,hv_81,hv_82,hv_83,hv_84,hv_85,hv_86,hv_87,hr_98 (by omega),hr_99 (by omega)]; exact Is.mk) (by simp only [go_sem,simprocAttr,hv_9,hv_62,hv_63,hv_64,hv_65,hv_66,hv_67,hv_68,hv_69,hv_70,hv_71,hv_72,hv_73,hv_74,hv_75,hv_76,hv_77,hv_78,hv_79,hv_80,hv_81,hv_82,hv_83,hv_84,hv_85,hv_86,hv_87,hr_98 (by omega),hr_99 (by omega)]; exact Is.mk) (by simp only [go_sem,simprocAttr,hv_9,hv_62,hv_63,hv_64,hv_65,hv_66,hv_67,hv_68,hv_69,hv_70,hv_71,hv_72,hv_73,hv_74,hv_75,hv_76,hv_77,hv_78,hv_79,hv_80,hv_81,hv_82,hv_83,hv_84,hv_85,hv_86,hv_87,hr_98 (by omega),hr_99 (by omega)]; exact Is.mk) (by simp only [go_sem,simprocAttr,hv_9,hv_62,hv_63,hv_64,hv_65,hv_66,hv_67,hv_68,hv_69,hv_70,hv_71,hv_72,hv_73,hv_74,hv_75,hv_76,hv_77,hv_78,hv_79,hv_80,hv_81,hv_82,hv_83,hv_84,hv_85,hv_86,hv_87,hr_98 (by omega),hr_99 (by omega)]) (by simp only [go_sem,simprocAttr,hv_9,hv_62,hv_63,hv_64,hv_65,hv_66,hv_67,hv_68,hv_69,hv_70,hv_71,hv_72,hv_73,hv_74,hv_75,hv_76,hv_77,hv_78,hv_79,hv_80,hv_81,hv_82,hv_83,hv_84,hv_85,hv_86,hv_87,hr_98 (by omega),hr_99 (by omega)]; exact Is.mk) ?cont79
    simp only [go_sem,simprocAttr,hv_9,hv_62,hv_63,hv_64,hv_65,hv_66,hv_67,hv_68,hv_69,hv_70,hv_71,hv_72,hv_73,hv_74,hv_75,hv_76,hv_77,hv_78,hv_79,hv_80,hv_81,hv_82,hv_83,hv_84,hv_85,hv_86,hv_87,hr_98 (by omega),hr_99 (by omega)]
    refine kA hK78 ?_
    refine cM hm (fun hc80 hm=>?_) (fun hc80 hm=>?_)
    ·refine Wp.region fun K81 hK81=>?_
     simp only [go_sem,simprocAttr,hv_9,hv_62,hv_63,hv_64,hv_65,hv_66,hv_67,hv_68,hv_69,hv_70,hv_71,hv_72,hv_73,hv_74,hv_75,hv_76,hv_77,hv_78,hv_79,hv_80,hv_81,hv_82,hv_83,hv_84,hv_85,hv_86,hv_87]
     refine kA hK81 ?_
     simp only [zl,zi,↓reduceIte]
     refine ⟨(IntKind.i64.wrap (v_171+1),j_248),hm,?_⟩
     simp only [go_sem,simprocAttr,hv_9,hv_62,hv_63,hv_64,hv_65,hv_66,hv_67,hv_68,hv_69,hv_70,hv_71,hv_72,hv_73,hv_74,hv_75,hv_76,hv_77,hv_78,hv_79,hv_80,hv_81,hv_82,hv_83,hv_84,hv_85,hv_86,hv_87]
     try exact se3
    ·refine Wp.region fun K82 hK82=>?_
     simp only [go_sem,simprocAttr,hv_9,hv_62,hv_63,hv_64,hv_65,hv_66,hv_67,hv_68,hv_69,hv_70,hv_71,hv_72,hv_73,hv_74,hv_75,hv_76,hv_77,hv_78,hv_79,hv_80,hv_81,hv_82,hv_83,hv_84,hv_85,hv_86,hv_87]
     refine kA hK82 ?_
     simp only [zl,zi,↓reduceIte]
     refine ⟨(i_183,v_171),hm,?_⟩
     simp only [go_sem,simprocAttr,hv_9,hv_62,hv_63,hv_64,hv_65,hv_66,hv_67,hv_68,hv_69,hv_70,hv_71,hv_72,hv_73,hv_74,hv_75,hv_76,hv_77,hv_78,hv_79,hv_80,hv_81,hv_82,hv_83,hv_84,hv_85,hv_86,hv_87]
     try exact se3
   ·refine Wp.exit ?_
    simp only [zl,zi,↓reduceIte]
    have hm:=hk_182 _ hm
    try dsimp only at hm
    refine hW65 _ _ _ _ ?_ (hcut65 i_183 hm)
    exact zn
  ·refine Wp.skip ?_
   refine hW1 _ _ _ _ ?_ (hcut1 () hm)
   exact zn
end Go.Proofs.YtmnohdgjkcjdeaaGreatDoor
