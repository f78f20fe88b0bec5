/- That the code does what the models say (part 9). -/
import Derived.Test.YtmnohdgjkcjdeaaGreatDoorLoWk0
import Derived.Test.YtmnohdgjkcjdeaaGreatDoorLoWk8
set_option linter.unusedSimpArgs false
set_option linter.unusedVariables false
open Go.Proofs Go.Shelf
namespace Go.Proofs.YtmnohdgjkcjdeaaGreatDoor
open Go.Vc Go.Md
set_option maxRecDepth 100000
set_option maxHeartbeats 4000000
theorem zaD:∀ (fuel:Nat) (a_1:Int) (m_2:Int) (b_3:Int) (o0_4:List api_Record) (z:List api_Record) (hm:zj fuel a_1 m_2 b_3 o0_4=some z),Does Tryz.prog 123 [.buf 0,.p (.i .i64 a_1),.p (.i .i64 m_2),.p (.i .i64 b_3),.fn 49 []] [.fx 30 13 (List.map za o0_4)] (fun r X=>r=.tup []∧X=[.fx 30 13 (List.map za z)]):=by
 intro fuel
 induction fuel with
 | zero=>intro a_1 m_2 b_3 o0_4 z hm; unfold zj at hm; cases hm
 | succ nrec ih =>
  intro a_1 m_2 b_3 o0_4 z hm
  unfold zj at hm
  refine dW 1 220 [] Tryz.func123 fun B=>?_
  refine Wp.seqW fun K1 hK1 hW1=>?_
  obtain ⟨k_3419,hk_3419,hm⟩:=zl hm
  have hcut1:∀ s,k_3419 s=some z→K1 [(0,.buf 0),(1,.p (.i .i64 a_1)),(2,.p (.i .i64 m_2)),(3,.p (.i .i64 b_3)),(4,.fn 49 [])] [.fx 30 13 (List.map za o0_4)]:=by
   intro s hs
   have hm:=hk_3419 _ hs
   clear hs
   try dsimp only at hm
   try dsimp only
   refine hK1 _ _ ?_
   refine Wp.seqW fun K2 hK2 hW2=>?_
   obtain ⟨k_4050,hk_4050,hm⟩:=zl hm
   have hcut2:∀ s,k_4050 s=some z→K2 [(0,.buf 0),(1,.p (.i .i64 a_1)),(2,.p (.i .i64 m_2)),(3,.p (.i .i64 b_3)),(4,.fn 49 [])] [.fx 30 13 (List.map za o0_4)]:=by
    intro s hs
    have hm:=hk_4050 _ hs
    clear hs
    try dsimp only at hm
    try dsimp only
    refine hK2 _ _ ?_
    obtain ⟨v_4051,hv_4052,hm⟩:=ze hm
    refine Wp.seqR fun K3 hK3=>?_
    simp only [go_sem,simprocAttr,hv_4052]
    refine kA hK3 ?_
    refine Wp.seqR fun K4 hK4=>?_
    simp only [go_sem,simprocAttr,hv_4052]
    refine kA hK4 ?_
    refine Wp.seqR fun K5 hK5=>?_
    simp only [go_sem,simprocAttr,hv_4052]
    refine kA hK5 ?_
    refine Wp.seqW fun K6 hK6 hW6=>?_
    obtain ⟨k_4055,hk_4055,hm⟩:=zl hm
    have hcut6:∀ s,k_4055 s=some z→K6 [(0,.buf 0),(1,.p (.i .i64 a_1)),(2,.p (.i .i64 m_2)),(3,.p (.i .i64 b_3)),(4,.fn 49 []),(18,.p (.i .i64 v_4051)),(19,.p (.i .i64 (IntKind.i64.wrap (v_4051+m_2)))),(20,.p (.i .i64 s.1)),(21,.p (.i .i64 s.2))] [.fx 30 13 (List.map za o0_4)]:=by
     intro s hs
     have hm:=hk_4055 _ hs
     clear hs
     obtain ⟨start_4053,r_4054⟩:=s
     try dsimp only at hm
     try dsimp only
     refine hK6 _ _ ?_
     refine Wp.seqR fun K7 hK7=>?_
     simp only [go_sem,simprocAttr,hv_4052]
     refine kA hK7 ?_
     refine Wp.seqW fun K8 hK8 hW8=>?_
     obtain ⟨k_4179,hk_4179,hm⟩:=zl hm
     have hcut8:∀ s,k_4179 s=some z→K8 [(0,.buf 0),(1,.p (.i .i64 a_1)),(2,.p (.i .i64 m_2)),(3,.p (.i .i64 b_3)),(4,.fn 49 []),(18,.p (.i .i64 v_4051)),(19,.p (.i .i64 (IntKind.i64.wrap (v_4051+m_2)))),(20,.p (.i .i64 s))] [.fx 30 13 (List.map za o0_4)]:=by
      intro start_4178 hs
      have hm:=hk_4179 _ hs
      clear hs
      try dsimp only at hm
      try dsimp only
      refine hK8 _ _ ?_
      refine Wp.seqR fun K9 hK9=>?_
      simp only [go_sem,simprocAttr,hv_4052]
      refine kA hK9 ?_
      refine Wp.seqW fun K10 hK10 hW10=>?_
      obtain ⟨k_4184,hk_4184,hm⟩:=zl hm
      have hcut10:∀ s,k_4184 s=some z→K10 [(0,.buf 0),(1,.p (.i .i64 a_1)),(3,.p (.i .i64 b_3)),(4,.fn 49 []),(18,.p (.i .i64 v_4051)),(20,.p (.i .i64 start_4178)),(24,.p (.i .i64 (IntKind.i64.wrap ((IntKind.i64.wrap (v_4051+m_2)) - start_4178))))] [.fx 30 13 (List.map za s)]:=by
       intro o0_4183 hs
       have hm:=hk_4184 _ hs
       clear hs
       try dsimp only at hm
       try dsimp only
       refine hK10 _ _ ?_
       refine Wp.seqW fun K11 hK11 hW11=>?_
       obtain ⟨k_4187,hk_4187,hm⟩:=zl hm
       have hcut11:∀ s,k_4187 s=some z→K11 [(0,.buf 0),(3,.p (.i .i64 b_3)),(4,.fn 49 []),(18,.p (.i .i64 v_4051)),(24,.p (.i .i64 (IntKind.i64.wrap ((IntKind.i64.wrap (v_4051+m_2)) - start_4178))))] [.fx 30 13 (List.map za s)]:=by
        intro o0_4186 hs
        have hm:=hk_4187 _ hs
        clear hs
        try dsimp only at hm
        try dsimp only
        refine hK11 _ _ ?_
        obtain ⟨v_4188,hv_4189,hm⟩:=ze hm
        refine Wp.seqR fun K12 hK12=>?_
        simp only [go_sem,simprocAttr,hv_4052,hv_4189]
        refine kA hK12 ?_
        refine cM hm (fun hc13 hm=>?_) (fun hc13 hm=>?_)
        ·obtain ⟨r_4190,hr_4190,hm⟩:=zb hm
         refine Wp.region fun K14 hK14=>?_
         simp only [go_sem,simprocAttr,hv_4052,hv_4189]
         try refine ⟨sd,?_⟩
         refine Rg.callO (av:=?av15) [0] (ih v_4051 (IntKind.i64.wrap ((IntKind.i64.wrap (v_4051+m_2)) - start_4178)) b_3 o0_4186 _ hr_4190) (by simp only [go_sem,simprocAttr,hv_4052,hv_4189]; exact Is.mk) (by simp only [go_sem,simprocAttr,hv_4052,hv_4189]; exact Is.mk) (by simp only [go_sem,simprocAttr,hv_4052,hv_4189]; exact Is.mk) (by simp only [go_sem,simprocAttr,hv_4052,hv_4189]) (by simp only [go_sem,simprocAttr,hv_4052,hv_4189]) ?cont15
         rintro _ _ ⟨rfl,rfl⟩ hv15
         simp only [go_sem,simprocAttr,hv_4052,hv_4189]
         refine kA hK14 ?_
         refine zaJ ?_
         cases hm
         simp only [go_sem,simprocAttr,hv_4052,hv_4189]
         try exact se3
        ·refine Wp.skip ?_
         refine zaJ ?_
         cases hm
         simp only [go_sem,simprocAttr,hv_4052,hv_4189]
         try exact se3
       clear hK11 hk_4187
       refine Wp.seqR fun K16 hK16=>?_
       simp only [go_sem,simprocAttr,hv_4052]
       refine kA hK16 ?_
       refine cM hm (fun hc17 hm=>?_) (fun hc17 hm=>?_)
       ·obtain ⟨r_4191,hr_4191,hm⟩:=zb hm
        refine Wp.region fun K18 hK18=>?_
        simp only [go_sem,simprocAttr,hv_4052]
        try refine ⟨sd,?_⟩
        refine Rg.callO (av:=?av19) [0] (ih a_1 start_4178 v_4051 o0_4183 _ hr_4191) (by simp only [go_sem,simprocAttr,hv_4052]; exact Is.mk) (by simp only [go_sem,simprocAttr,hv_4052]; exact Is.mk) (by simp only [go_sem,simprocAttr,hv_4052]; exact Is.mk) (by simp only [go_sem,simprocAttr,hv_4052]) (by simp only [go_sem,simprocAttr,hv_4052]) ?cont19
        rintro _ _ ⟨rfl,rfl⟩ hv19
        simp only [go_sem,simprocAttr,hv_4052]
        refine kA hK18 ?_
        refine hW11 _ _ _ _ ?_ (hcut11 r_4191 hm)
        simp only [go_sem,simprocAttr,hv_4052]
        try exact se3
       ·refine Wp.skip ?_
        refine hW11 _ _ _ _ ?_ (hcut11 o0_4183 hm)
        simp only [go_sem,simprocAttr,hv_4052]
        try exact se3
      clear hK10 hk_4184
      obtain ⟨v_4192,hv_4193,hm⟩:=ze hm
      refine Wp.seqR fun K20 hK20=>?_
      simp only [go_sem,simprocAttr,hv_4052,hv_4193]
      refine kA hK20 ?_
      refine cM hm (fun hc21 hm=>?_) (fun hc21 hm=>?_)
      ·obtain ⟨r_4194,hr_4194,hm⟩:=zb hm
       refine Wp.region fun K22 hK22=>?_
       simp only [go_sem,simprocAttr,hv_4052,hv_4193]
       try refine ⟨sd,?_⟩
       refine Rg.callO (av:=?av23) [0] (zbV start_4178 m_2 (IntKind.i64.wrap ((IntKind.i64.wrap (v_4051+m_2)) - start_4178)) o0_4 _ hr_4194) (by simp only [go_sem,simprocAttr,hv_4052,hv_4193]; exact Is.mk) (by simp only [go_sem,simprocAttr,hv_4052,hv_4193]; exact Is.mk) (by simp only [go_sem,simprocAttr,hv_4052,hv_4193]; exact Is.mk) (by simp only [go_sem,simprocAttr,hv_4052,hv_4193]) (by simp only [go_sem,simprocAttr,hv_4052,hv_4193]) ?cont23
       rintro _ _ ⟨rfl,rfl⟩ hv23
       simp only [go_sem,simprocAttr,hv_4052,hv_4193]
       refine kA hK22 ?_
       refine hW10 _ _ _ _ ?_ (hcut10 r_4194 hm)
       simp only [go_sem,simprocAttr,hv_4052,hv_4193]
       try exact se3
      ·refine Wp.skip ?_
       refine hW10 _ _ _ _ ?_ (hcut10 o0_4 hm)
       simp only [go_sem,simprocAttr,hv_4052,hv_4193]
       try exact se3
     clear hK8 hk_4179
     refine Wp.block ?_
     obtain ⟨k_4256,hk_4256,hm⟩:=zF hm
     refine Wp.loopN (fun s=>[(0,.buf 0),(1,.p (.i .i64 a_1)),(2,.p (.i .i64 m_2)),(3,.p (.i .i64 b_3)),(4,.fn 49 []),(18,.p (.i .i64 v_4051)),(19,.p (.i .i64 (IntKind.i64.wrap (v_4051+m_2)))),(20,.p (.i .i64 s.1)),(21,.p (.i .i64 s.2)),(22,.p (.i .i64 (IntKind.i64.wrap ((IntKind.i64.wrap (v_4051+m_2)) - 1))))]) (fun s=>[.fx 30 13 (List.map za o0_4)]) ?_ hm ?_
     ·
      simp only [go_sem,simprocAttr,hv_4052]
      try exact se3
     clear hm
     intro s nx_4257 hm
     obtain ⟨start_4195,r_4196⟩:=s
     try dsimp only at hm
     try dsimp only
     refine Wp.seqW fun K24 hK24 hW24=>?_
     refine Wp.seqR fun K25 hK25=>?_
     simp only [go_sem,simprocAttr,hv_4052]
     refine kA hK25 ?_
     refine cM hm (fun hc26 hm=>?_) (fun hc26 hm=>?_)
     ·refine Wp.skip ?_
      refine hK24 _ _ ?_
      refine Wp.block ?_
      obtain ⟨v_4258,hv_4259,hm⟩:=ze hm
      refine Wp.seqR fun K27 hK27=>?_
      simp only [go_sem,simprocAttr,hv_4052,hv_4259]
      refine kA hK27 ?_
      obtain ⟨c_4260,hm⟩:=zf hm
      obtain ⟨v_4261,hv_4262,hm⟩:=ze hm
      obtain ⟨v_4263,hv_4264,hm⟩:=ze hm
      obtain ⟨v_4265,hv_4266,hm⟩:=ze hm
      obtain ⟨v_4267,hv_4268,hm⟩:=ze hm
      obtain ⟨v_4269,hv_4270,hm⟩:=ze hm
      obtain ⟨v_4271,hv_4272,hm⟩:=ze hm
      obtain ⟨v_4273,hv_4274,hm⟩:=ze hm
      obtain ⟨v_4275,hv_4276,hm⟩:=ze hm
      obtain ⟨v_4277,hv_4278,hm⟩:=ze hm
      obtain ⟨v_4279,hv_4280,hm⟩:=ze hm
      obtain ⟨v_4281,hv_4282,hm⟩:=ze hm
      obtain ⟨v_4283,hv_4284,hm⟩:=ze hm
      obtain ⟨v_4285,hv_4286,hm⟩:=ze hm
      obtain ⟨c_4287,hm⟩:=zf hm
      obtain ⟨v_4288,hv_4289,hm⟩:=ze hm
      obtain ⟨v_4290,hv_4291,hm⟩:=ze hm
      obtain ⟨v_4292,hv_4293,hm⟩:=ze hm
      obtain ⟨v_4294,hv_4295,hm⟩:=ze hm
      obtain ⟨v_4296,hv_4297,hm⟩:=ze hm
      obtain ⟨v_4298,hv_4299,hm⟩:=ze hm
      obtain ⟨v_4300,hv_4301,hm⟩:=ze hm
      obtain ⟨v_4302,hv_4303,hm⟩:=ze hm
      obtain ⟨v_4304,hv_4305,hm⟩:=ze hm
      obtain ⟨v_4306,hv_4307,hm⟩:=ze hm
      obtain ⟨v_4308,hv_4309,hm⟩:=ze hm
      obtain ⟨v_4310,hv_4311,hm⟩:=ze hm
      obtain ⟨v_4312,hv_4313,hm⟩:=ze hm
      obtain ⟨r_4314,hr_4314,hm⟩:=zb hm
      have hr_4315:=fun h=>zS (l:=o0_4) (e:=za) (d:=(api_Record.mk 0 0 [] (api_Version.mk 0 0 0 []) (api_Version.mk 0 0 0 []) 0 [])) (i:=(IntKind.i64.wrap ((IntKind.i64.wrap ((IntKind.i64.wrap (v_4051+m_2)) - 1)) - v_4258)).toNat) h []
      have hr_4316:=fun h=>zS (l:=o0_4) (e:=za) (d:=(api_Record.mk 0 0 [] (api_Version.mk 0 0 0 []) (api_Version.mk 0 0 0 []) 0 [])) (i:=v_4258.toNat) h []
      refine Wp.seqD (plan:=pl [(0,none),(1,none),(2,none),(3,none),(4,none),(5,none),(6,none),(7,none),(8,none),(9,none),(10,none),(11,none),(12,none),(13,none)]) (by kernel_rfl) rfl (by kernel_rfl) fun K28 hK28=>?_
      simp only [go_sem,simprocAttr,hv_4052,hv_4259,hv_4262,hv_4264,hv_4266,hv_4268,hv_4270,hv_4272,hv_4274,hv_4276,hv_4278,hv_4280,hv_4282,hv_4284,hv_4286,hv_4289,hv_4291,hv_4293,hv_4295,hv_4297,hv_4299,hv_4301,hv_4303,hv_4305,hv_4307,hv_4309,hv_4311,hv_4313,hr_4315 (by omega),hr_4316 (by omega)]
      try refine ⟨sL,?_⟩
      refine Dr.callF (av:=?av29) (g:=true) (o:=?o29) (fun hg=>zc2 (api_Record.mk v_4261 v_4263 v_4265 (api_Version.mk v_4267 v_4269 v_4271 v_4273) (api_Version.mk v_4275 v_4277 v_4279 v_4281) v_4283 v_4285) (api_Record.mk v_4288 v_4290 v_4292 (api_Version.mk v_4294 v_4296 v_4298 v_4300) (api_Version.mk v_4302 v_4304 v_4306 v_4308) v_4310 v_4312) _ hr_4314) (by simp only [go_sem,simprocAttr,hv_4052,hv_4259,hv_4262,hv_4264,hv_4266,hv_4268,hv_4270,hv_4272,hv_4274,hv_4276,hv_4278,hv_4280,hv_4282,hv_4284,hv_4286,hv_4289,hv_4291,hv_4293,hv_4295,hv_4297,hv_4299,hv_4301,hv_4303,hv_4305,hv_4307,hv_4309,hv_4311,hv_4313,hr_4315 (by omega),hr_4316 (by omega)]; exact Is.mk) (by simp only [go_sem,simprocAttr,hv_4052,hv_4259,hv_4262,hv_4264,hv_4266,hv_4268,hv_4270,hv_4272,hv_4274,hv_4276,hv_4278,hv_4280,hv_4282,hv_4284,hv_4286,hv_4289,hv_4291,hv_4293,hv_4295,hv_4297,hv_4299,hv_4301,hv_4303,hv_4305,hv_4307,hv_4309,hv_4311,hv_4313,hr_4315 (by omega),hr_4316 (by omega)]; exact Is.mk) (by simp only [go_sem,simprocAttr,hv_4052,hv_4259,hv_4262,hv_4264,hv_4266,hv_4268,hv_4270,hv_4272,hv_4274,hv_4276,hv_4278,hv_4280,hv_4282,hv_4284,hv_4286,hv_4289,hv_4291,hv_4293,hv_4295,hv_4297,hv_4299,hv_4301,hv_4303,hv_4305,hv_4307,hv_4309,hv_4311,hv_4313,hr_4315 (by omega),hr_4316 (by omega)]; exact Is.mk) (by simp only [go_sem,simprocAttr,hv_4052,hv_4259,hv_4262,hv_4264,hv_4266,hv_4268,hv_4270,hv_4272,hv_4274,hv_4276,hv_4278,hv_4280,hv_4282,hv_4284,hv_4286,hv_4289,hv_4291,hv_4293,hv_4295,hv_4297,hv_4299,hv_4301,hv_4303,hv_4305,hv_4307,hv_4309,hv_4311,hv_4313,hr_4315 (by omega),hr_4316 (by omega)]; exact Is.mk) (by simp only [go_sem,simprocAttr,hv_4052,hv_4259,hv_4262,hv_4264,hv_4266,hv_4268,hv_4270,hv_4272,hv_4274,hv_4276,hv_4278,hv_4280,hv_4282,hv_4284,hv_4286,hv_4289,hv_4291,hv_4293,hv_4295,hv_4297,hv_4299,hv_4301,hv_4303,hv_4305,hv_4307,hv_4309,hv_4311,hv_4313,hr_4315 (by omega),hr_4316 (by omega)]) (by simp only [go_sem,simprocAttr,hv_4052,hv_4259,hv_4262,hv_4264,hv_4266,hv_4268,hv_4270,hv_4272,hv_4274,hv_4276,hv_4278,hv_4280,hv_4282,hv_4284,hv_4286,hv_4289,hv_4291,hv_4293,hv_4295,hv_4297,hv_4299,hv_4301,hv_4303,hv_4305,hv_4307,hv_4309,hv_4311,hv_4313,hr_4315 (by omega),hr_4316 (by omega)]; exact Is.mk) ?cont29
      simp only [go_sem,simprocAttr,hv_4052,hv_4259,hv_4262,hv_4264,hv_4266,hv_4268,hv_4270,hv_4272,hv_4274,hv_4276,hv_4278,hv_4280,hv_4282,hv_4284,hv_4286,hv_4289,hv_4291,hv_4293,hv_4295,hv_4297,hv_4299,hv_4301,hv_4303,hv_4305,hv_4307,hv_4309,hv_4311,hv_4313,hr_4315 (by omega),hr_4316 (by omega)]
      refine kA hK28 ?_
      refine cM hm (fun hc30 hm=>?_) (fun hc30 hm=>?_)
      ·refine Wp.region fun K31 hK31=>?_
       simp only [go_sem,simprocAttr,hv_4052,hv_4259,hv_4262,hv_4264,hv_4266,hv_4268,hv_4270,hv_4272,hv_4274,hv_4276,hv_4278,hv_4280,hv_4282,hv_4284,hv_4286,hv_4289,hv_4291,hv_4293,hv_4295,hv_4297,hv_4299,hv_4301,hv_4303,hv_4305,hv_4307,hv_4309,hv_4311,hv_4313]
       refine kA hK31 ?_
       simp only [zk,zi,↓reduceIte]
       refine ⟨(IntKind.i64.wrap (v_4258+1),r_4196),hm,?_⟩
       simp only [go_sem,simprocAttr,hv_4052,hv_4259,hv_4262,hv_4264,hv_4266,hv_4268,hv_4270,hv_4272,hv_4274,hv_4276,hv_4278,hv_4280,hv_4282,hv_4284,hv_4286,hv_4289,hv_4291,hv_4293,hv_4295,hv_4297,hv_4299,hv_4301,hv_4303,hv_4305,hv_4307,hv_4309,hv_4311,hv_4313]
       try exact se3
      ·refine Wp.region fun K32 hK32=>?_
       simp only [go_sem,simprocAttr,hv_4052,hv_4259,hv_4262,hv_4264,hv_4266,hv_4268,hv_4270,hv_4272,hv_4274,hv_4276,hv_4278,hv_4280,hv_4282,hv_4284,hv_4286,hv_4289,hv_4291,hv_4293,hv_4295,hv_4297,hv_4299,hv_4301,hv_4303,hv_4305,hv_4307,hv_4309,hv_4311,hv_4313]
       refine kA hK32 ?_
       simp only [zk,zi,↓reduceIte]
       refine ⟨(start_4195,v_4258),hm,?_⟩
       simp only [go_sem,simprocAttr,hv_4052,hv_4259,hv_4262,hv_4264,hv_4266,hv_4268,hv_4270,hv_4272,hv_4274,hv_4276,hv_4278,hv_4280,hv_4282,hv_4284,hv_4286,hv_4289,hv_4291,hv_4293,hv_4295,hv_4297,hv_4299,hv_4301,hv_4303,hv_4305,hv_4307,hv_4309,hv_4311,hv_4313]
       try exact se3
     ·refine Wp.exit ?_
      simp only [zk,zi,↓reduceIte]
      have hm:=hk_4256 _ hm
      try dsimp only at hm
      refine hW8 _ _ _ _ ?_ (hcut8 start_4195 hm)
      simp only [go_sem,simprocAttr,hv_4052]
      try exact se3
    clear hK6 hk_4055
    refine Wp.seqR fun K33 hK33=>?_
    simp only [go_sem,simprocAttr,hv_4052]
    refine kA hK33 ?_
    refine cM hm (fun hc34 hm=>?_) (fun hc34 hm=>?_)
    ·refine Wp.seqR fun K35 hK35=>?_
     simp only [go_sem,simprocAttr,hv_4052]
     refine kA hK35 ?_
     refine Wp.region fun K36 hK36=>?_
     simp only [go_sem,simprocAttr,hv_4052]
     refine kA hK36 ?_
     refine hW6 _ _ _ _ ?_ (hcut6 (IntKind.i64.wrap ((IntKind.i64.wrap (v_4051+m_2)) - b_3),v_4051) hm)
     simp only [go_sem,simprocAttr,hv_4052]
     try exact se3
    ·refine Wp.seqR fun K37 hK37=>?_
     simp only [go_sem,simprocAttr,hv_4052]
     refine kA hK37 ?_
     refine Wp.region fun K38 hK38=>?_
     simp only [go_sem,simprocAttr,hv_4052]
     refine kA hK38 ?_
     refine hW6 _ _ _ _ ?_ (hcut6 (a_1,m_2) hm)
     simp only [go_sem,simprocAttr,hv_4052]
     try exact se3
   clear hK2 hk_4050
   refine qS ?_
   refine cM hm (fun hc40 hm=>?_) (fun hc40 hm=>?_)
   ·refine qS ?_
    refine qS ?_
    refine Wp.seqW fun K43 hK43 hW43=>?_
    obtain ⟨k_4440,hk_4440,hm⟩:=zl hm
    have hcut43:∀ s,k_4440 s=some z→K43 [(0,.buf 0),(2,.p (.i .i64 m_2)),(14,.p (.i .i64 s))] [.fx 30 13 (List.map za o0_4)]:=by
     intro i_4439 hs
     have hm:=hk_4440 _ hs
     clear hs
     try dsimp only at hm
     try dsimp only
     refine hK43 _ _ ?_
     refine Wp.seqW fun K44 hK44 hW44=>?_
     obtain ⟨k_4633,hk_4633,hm⟩:=zl hm
     have hcut44:∀ s,k_4633 s=some z→K44 [] [.fx 30 13 (List.map za s)]:=by
      intro o0_4632 hs
      have hm:=hk_4633 _ hs
      clear hs
      try dsimp only at hm
      try dsimp only
      refine hK44 _ _ ?_
      refine Wp.ret ?_
      refine zc ?_
      cases hm
      exact zm
     clear hK44 hk_4633
     refine qS ?_
     refine Wp.block ?_
     obtain ⟨k_4761,hk_4761,hm⟩:=zF hm
     refine Wp.loopN (fun s=>[(0,.buf 0),(14,.p (.i .i64 i_4439)),(17,.p (.i .i64 s.1))]) (fun s=>[.fx 30 13 (List.map za s.2)]) ?_ hm ?_
     ·
      exact zm
     clear hm
     intro s nx_4762 hm
     obtain ⟨k_4697,o0_4698⟩:=s
     try dsimp only at hm
     try dsimp only
     refine Wp.seqW fun K46 hK46 hW46=>?_
     refine qS ?_
     refine cM hm (fun hc48 hm=>?_) (fun hc48 hm=>?_)
     ·refine Wp.skip ?_
      refine hK46 _ _ ?_
      refine Wp.seqW fun K49 hK49 hW49=>?_
      refine Wp.block ?_
      obtain ⟨c_4763,hm⟩:=zf hm
      obtain ⟨v_4764,hv_4765,hm⟩:=ze hm
      obtain ⟨v_4766,hv_4767,hm⟩:=ze hm
      obtain ⟨v_4768,hv_4769,hm⟩:=ze hm
      obtain ⟨v_4770,hv_4771,hm⟩:=ze hm
      obtain ⟨v_4772,hv_4773,hm⟩:=ze hm
      obtain ⟨v_4774,hv_4775,hm⟩:=ze hm
      obtain ⟨v_4776,hv_4777,hm⟩:=ze hm
      obtain ⟨v_4778,hv_4779,hm⟩:=ze hm
      obtain ⟨v_4780,hv_4781,hm⟩:=ze hm
      obtain ⟨v_4782,hv_4783,hm⟩:=ze hm
      obtain ⟨v_4784,hv_4785,hm⟩:=ze hm
      obtain ⟨v_4786,hv_4787,hm⟩:=ze hm
      obtain ⟨v_4788,hv_4789,hm⟩:=ze hm
      obtain ⟨c_4790,hm⟩:=zf hm
      obtain ⟨v_4791,hv_4792,hm⟩:=ze hm
      obtain ⟨v_4793,hv_4794,hm⟩:=ze hm
      obtain ⟨v_4795,hv_4796,hm⟩:=ze hm
      obtain ⟨v_4797,hv_4798,hm⟩:=ze hm
      obtain ⟨v_4799,hv_4800,hm⟩:=ze hm
      obtain ⟨v_4801,hv_4802,hm⟩:=ze hm
      obtain ⟨v_4803,hv_4804,hm⟩:=ze hm
      obtain ⟨v_4805,hv_4806,hm⟩:=ze hm
      obtain ⟨v_4807,hv_4808,hm⟩:=ze hm
      obtain ⟨v_4809,hv_4810,hm⟩:=ze hm
      obtain ⟨v_4811,hv_4812,hm⟩:=ze hm
      obtain ⟨v_4813,hv_4814,hm⟩:=ze hm
      obtain ⟨v_4815,hv_4816,hm⟩:=ze hm
      obtain ⟨c_4817,hm⟩:=zf hm
      obtain ⟨v_4818,hv_4819,hm⟩:=ze hm
      have hv_4819m:=congrArg (List.map za) hv_4819
      try simp only [List.map_append,List.map_cons,List.map_nil,List.map_set,List.map_replicate,za] at hv_4819m
      obtain ⟨c_4820,hm⟩:=zf hm
      obtain ⟨v_4821,hv_4822,hm⟩:=ze hm
      have hv_4822m:=congrArg (List.map za) hv_4822
      try simp only [List.map_append,List.map_cons,List.map_nil,List.map_set,List.map_replicate,za] at hv_4822m
      have hr_4823:=fun h=>zS (l:=o0_4698) (e:=za) (d:=(api_Record.mk 0 0 [] (api_Version.mk 0 0 0 []) (api_Version.mk 0 0 0 []) 0 [])) (i:=(IntKind.i64.wrap (k_4697 - 1)).toNat) h []
      have hr_4824:=fun h=>zS (l:=o0_4698) (e:=za) (d:=(api_Record.mk 0 0 [] (api_Version.mk 0 0 0 []) (api_Version.mk 0 0 0 []) 0 [])) (i:=k_4697.toNat) h []
      refine Wp.regD (plan:=pl [(0,none),(1,none),(2,none),(3,none),(4,none),(5,none),(6,none),(7,none),(8,none),(9,none),(10,none),(11,none),(12,none),(13,none),(14,none),(15,some [2,3,4]),(16,none),(17,some [])]) (by kernel_rfl) rfl (by kernel_rfl) fun K50 hK50=>?_
      simp only [go_sem,simprocAttr,hv_4765,hv_4767,hv_4769,hv_4771,hv_4773,hv_4775,hv_4777,hv_4779,hv_4781,hv_4783,hv_4785,hv_4787,hv_4789,hv_4792,hv_4794,hv_4796,hv_4798,hv_4800,hv_4802,hv_4804,hv_4806,hv_4808,hv_4810,hv_4812,hv_4814,hv_4816,hv_4819,hv_4819m,hv_4822,hv_4822m,hr_4823 (by omega),hr_4824 (by omega)]
      refine kA hK50 ?_
      refine hK49 _ _ ?_
      refine Wp.region fun K51 hK51=>?_
      simp only [go_sem,simprocAttr,hv_4765,hv_4767,hv_4769,hv_4771,hv_4773,hv_4775,hv_4777,hv_4779,hv_4781,hv_4783,hv_4785,hv_4787,hv_4789,hv_4792,hv_4794,hv_4796,hv_4798,hv_4800,hv_4802,hv_4804,hv_4806,hv_4808,hv_4810,hv_4812,hv_4814,hv_4816,hv_4819,hv_4819m,hv_4822,hv_4822m]
      refine kA hK51 ?_
      simp only [zk,zi,↓reduceIte]
      refine ⟨(IntKind.i64.wrap (k_4697 - 1),v_4821),hm,?_⟩
      simp only [go_sem,simprocAttr,hv_4765,hv_4767,hv_4769,hv_4771,hv_4773,hv_4775,hv_4777,hv_4779,hv_4781,hv_4783,hv_4785,hv_4787,hv_4789,hv_4792,hv_4794,hv_4796,hv_4798,hv_4800,hv_4802,hv_4804,hv_4806,hv_4808,hv_4810,hv_4812,hv_4814,hv_4816,hv_4819,hv_4819m,hv_4822,hv_4822m]
      try exact se3
     ·refine Wp.exit ?_
      simp only [zk,zi,↓reduceIte]
      have hm:=hk_4761 _ hm
      try dsimp only at hm
      refine hW44 _ _ _ _ ?_ (hcut44 o0_4698 hm)
      exact zm
    clear hK43 hk_4440
    refine Wp.block ?_
    obtain ⟨k_4886,hk_4886,hm⟩:=zF hm
    refine Wp.loopN (fun s=>[(0,.buf 0),(2,.p (.i .i64 m_2)),(4,.fn 49 []),(14,.p (.i .i64 s.1)),(15,.p (.i .i64 s.2))]) (fun s=>[.fx 30 13 (List.map za o0_4)]) ?_ hm ?_
    ·
     exact zm
    clear hm
    intro s nx_4887 hm
    obtain ⟨i_4825,j_4826⟩:=s
    try dsimp only at hm
    try dsimp only
    refine Wp.seqW fun K52 hK52 hW52=>?_
    refine qS ?_
    refine cM hm (fun hc54 hm=>?_) (fun hc54 hm=>?_)
    ·refine Wp.skip ?_
     refine hK52 _ _ ?_
     refine Wp.block ?_
     obtain ⟨v_4888,hv_4889,hm⟩:=ze hm
     refine Wp.seqR fun K55 hK55=>?_
     simp only [go_sem,simprocAttr,hv_4889]
     refine kA hK55 ?_
     obtain ⟨c_4890,hm⟩:=zf hm
     obtain ⟨v_4891,hv_4892,hm⟩:=ze hm
     obtain ⟨v_4893,hv_4894,hm⟩:=ze hm
     obtain ⟨v_4895,hv_4896,hm⟩:=ze hm
     obtain ⟨v_4897,hv_4898,hm⟩:=ze hm
     obtain ⟨v_4899,hv_4900,hm⟩:=ze hm
     obtain ⟨v_4901,hv_4902,hm⟩:=ze hm
     obtain ⟨v_4903,hv_4904,hm⟩:=ze hm
     obtain ⟨v_4905,hv_4906,hm⟩:=ze hm
     obtain ⟨v_4907,hv_4908,hm⟩:=ze hm
     obtain ⟨v_4909,hv_4910,hm⟩:=ze hm
     obtain ⟨v_4911,hv_4912,hm⟩:=ze hm
     obtain ⟨v_4913,hv_4914,hm⟩:=ze hm
     obtain ⟨v_4915,hv_4916,hm⟩:=ze hm
     obtain ⟨c_4917,hm⟩:=zf hm
     obtain ⟨v_4918,hv_4919,hm⟩:=ze hm
     obtain ⟨v_4920,hv_4921,hm⟩:=ze hm
     obtain ⟨v_4922,hv_4923,hm⟩:=ze hm
     obtain ⟨v_4924,hv_4925,hm⟩:=ze hm
     obtain ⟨v_4926,hv_4927,hm⟩:=ze hm
     obtain ⟨v_4928,hv_4929,hm⟩:=ze hm
     obtain ⟨v_4930,hv_4931,hm⟩:=ze hm
     obtain ⟨v_4932,hv_4933,hm⟩:=ze hm
     obtain ⟨v_4934,hv_4935,hm⟩:=ze hm
     obtain ⟨v_4936,hv_4937,hm⟩:=ze hm
     obtain ⟨v_4938,hv_4939,hm⟩:=ze hm
     obtain ⟨v_4940,hv_4941,hm⟩:=ze hm
     obtain ⟨v_4942,hv_4943,hm⟩:=ze hm
     obtain ⟨r_4944,hr_4944,hm⟩:=zb hm
     have hr_4945:=fun h=>zS (l:=o0_4) (e:=za) (d:=(api_Record.mk 0 0 [] (api_Version.mk 0 0 0 []) (api_Version.mk 0 0 0 []) 0 [])) (i:=m_2.toNat) h []
     have hr_4946:=fun h=>zS (l:=o0_4) (e:=za) (d:=(api_Record.mk 0 0 [] (api_Version.mk 0 0 0 []) (api_Version.mk 0 0 0 []) 0 [])) (i:=v_4888.toNat) h []
     refine Wp.seqD (plan:=pl [(0,none),(1,none),(2,none),(3,none),(4,none),(5,none),(6,none),(7,none),(8,none),(9,none),(10,none),(11,none)]) (by kernel_rfl) rfl (by kernel_rfl) fun K56 hK56=>?_
     simp only [go_sem,simprocAttr,hv_4889,hv_4892,hv_4894,hv_4896,hv_4898,hv_4900,hv_4902,hv_4904,hv_4906,hv_4908,hv_4910,hv_4912,hv_4914,hv_4916,hv_4919,hv_4921,hv_4923,hv_4925,hv_4927,hv_4929,hv_4931,hv_4933,hv_4935,hv_4937,hv_4939,hv_4941,hv_4943,hr_4945 (by omega),hr_4946 (by omega)]
     try refine ⟨sL,?_⟩
     refine Dr.callF (av:=?av57) (g:=true) (o:=?o57) (fun hg=>zc2 (api_Record.mk v_4891 v_4893 v_4895 (api_Version.mk v_4897 v_4899 v_4901 v_4903) (api_Version.mk v_4905 v_4907 v_4909 v_4911) v_4913 v_4915) (api_Record.mk v_4918 v_4920 v_4922 (api_Version.mk v_4924 v_4926 v_4928 v_4930) (api_Version.mk v_4932 v_4934 v_4936 v_4938) v_4940 v_4942) _ hr_4944) (by simp only [go_sem,simprocAttr,hv_4889,hv_4892,hv_4894,hv_4896,hv_4898,hv_4900,hv_4902,hv_4904,hv_4906,hv_4908,hv_4910,hv_4912,hv_4914,hv_4916,hv_4919,hv_4921,hv_4923,hv_4925,hv_4927,hv_4929,hv_4931,hv_4933,hv_4935,hv_4937,hv_4939,hv_4941,hv_4943,hr_4945 (by omega),hr_4946 (by omega)]; exact Is.mk) (by simp only [go_sem,simprocAttr,hv_4889,hv_4892,hv_4894,hv_4896,hv_4898,hv_4900,hv_4902,hv_4904,hv_4906,hv_4908,hv_4910,hv_4912,hv_4914,hv_4916,hv_4919,hv_4921,hv_4923,hv_4925,hv_4927,hv_4929,hv_4931,hv_4933,hv_4935,hv_4937,hv_4939,hv_4941,hv_4943,hr_4945 (by omega),hr_4946 (by omega)]; exact Is.mk) (by simp only [go_sem,simprocAttr,hv_4889,hv_4892,hv_4894,hv_4896,hv_4898,hv_4900,hv_4902,hv_4904,hv_4906,hv_4908,hv_4910,hv_4912,hv_4914,hv_4916,hv_4919,hv_4921,hv_4923,hv_4925,hv_4927,hv_4929,hv_4931,hv_4933,hv_4935,hv_4937,hv_4939,hv_4941,hv_4943,hr_4945 (by omega),hr_4946 (by omega)]; exact Is.mk) (by simp only [go_sem,simprocAttr,hv_4889,hv_4892,hv_4894,hv_4896,hv_4898,hv_4900,hv_4902,hv_4904,hv_4906,hv_4908,hv_4910,hv_4912,hv_4914,hv_4916,hv_4919,hv_4921,hv_4923,hv_4925,hv_4927,hv_4929,hv_4931,hv_4933,hv_4935,hv_4937,hv_4939,hv_4941,hv_4943,hr_4945 (by omega),hr_4946 (by omega)]; exact Is.mk) (by simp only [go_sem,simprocAttr,hv_4889,hv_4892,hv_4894,hv_4896,hv_4898,hv_4900,hv_4902,hv_4904,hv_4906,hv_4908,hv_4910,hv_4912,hv_4914,hv_4916,hv_4919,hv_4921,hv_4923,hv_4925,hv_4927,hv_4929,hv_4931,hv_4933,hv_4935,hv_4937,hv_4939,hv_4941,hv_4943,hr_4945 (by omega),hr_4946 (by omega)]) (by simp only [go_sem,simprocAttr,hv_4889,hv_4892,hv_4894,hv_4896,hv_4898,hv_4900,hv_4902,hv_4904,hv_4906,hv_4908,hv_4910,hv_4912,hv_4914,hv_4916,hv_4919,hv_4921,hv_4923,hv_4925,hv_4927,hv_4929,hv_4931,hv_4933,hv_4935,hv_4937,hv_4939,hv_4941,hv_4943,hr_4945 (by omega),hr_4946 (by omega)]; exact Is.mk) ?cont57
     simp only [go_sem,simprocAttr,hv_4889,hv_4892,hv_4894,hv_4896,hv_4898,hv_4900,hv_4902,hv_4904,hv_4906,hv_4908,hv_4910,hv_4912,hv_4914,hv_4916,hv_4919,hv_4921,hv_4923,hv_4925,hv_4927,hv_4929,hv_4931,hv_4933,hv_4935,hv_4937,hv_4939,hv_4941,hv_4943,hr_4945 (by omega),hr_4946 (by omega)]
     refine kA hK56 ?_
     refine cM hm (fun hc58 hm=>?_) (fun hc58 hm=>?_)
     ·refine Wp.region fun K59 hK59=>?_
      simp only [go_sem,simprocAttr,hv_4889,hv_4892,hv_4894,hv_4896,hv_4898,hv_4900,hv_4902,hv_4904,hv_4906,hv_4908,hv_4910,hv_4912,hv_4914,hv_4916,hv_4919,hv_4921,hv_4923,hv_4925,hv_4927,hv_4929,hv_4931,hv_4933,hv_4935,hv_4937,hv_4939,hv_4941,hv_4943]
      refine kA hK59 ?_
      simp only [zk,zi,↓reduceIte]
      refine ⟨(IntKind.i64.wrap (v_4888+1),j_4826),hm,?_⟩
      simp only [go_sem,simprocAttr,hv_4889,hv_4892,hv_4894,hv_4896,hv_4898,hv_4900,hv_4902,hv_4904,hv_4906,hv_4908,hv_4910,hv_4912,hv_4914,hv_4916,hv_4919,hv_4921,hv_4923,hv_4925,hv_4927,hv_4929,hv_4931,hv_4933,hv_4935,hv_4937,hv_4939,hv_4941,hv_4943]
      try exact se3
     ·refine Wp.region fun K60 hK60=>?_
      simp only [go_sem,simprocAttr,hv_4889,hv_4892,hv_4894,hv_4896,hv_4898,hv_4900,hv_4902,hv_4904,hv_4906,hv_4908,hv_4910,hv_4912,hv_4914,hv_4916,hv_4919,hv_4921,hv_4923,hv_4925,hv_4927,hv_4929,hv_4931,hv_4933,hv_4935,hv_4937,hv_4939,hv_4941,hv_4943]
      refine kA hK60 ?_
      simp only [zk,zi,↓reduceIte]
      refine ⟨(i_4825,v_4888),hm,?_⟩
      simp only [go_sem,simprocAttr,hv_4889,hv_4892,hv_4894,hv_4896,hv_4898,hv_4900,hv_4902,hv_4904,hv_4906,hv_4908,hv_4910,hv_4912,hv_4914,hv_4916,hv_4919,hv_4921,hv_4923,hv_4925,hv_4927,hv_4929,hv_4931,hv_4933,hv_4935,hv_4937,hv_4939,hv_4941,hv_4943]
      try exact se3
    ·refine Wp.exit ?_
     simp only [zk,zi,↓reduceIte]
     have hm:=hk_4886 _ hm
     try dsimp only at hm
     refine hW43 _ _ _ _ ?_ (hcut43 i_4825 hm)
     exact zm
   ·refine Wp.skip ?_
    refine hW2 _ _ _ _ ?_ (hcut2 () hm)
    exact zm
  clear hK1 hk_3419
  refine qS ?_
  refine cM hm (fun hc62 hm=>?_) (fun hc62 hm=>?_)
  ·refine qS ?_
   refine qS ?_
   refine Wp.seqW fun K65 hK65 hW65=>?_
   obtain ⟨k_5070,hk_5070,hm⟩:=zl hm
   have hcut65:∀ s,k_5070 s=some z→K65 [(0,.buf 0),(1,.p (.i .i64 a_1)),(10,.p (.i .i64 s))] [.fx 30 13 (List.map za o0_4)]:=by
    intro i_5069 hs
    have hm:=hk_5070 _ hs
    clear hs
    try dsimp only at hm
    try dsimp only
    refine hK65 _ _ ?_
    refine Wp.seqW fun K66 hK66 hW66=>?_
    obtain ⟨k_5263,hk_5263,hm⟩:=zl hm
    have hcut66:∀ s,k_5263 s=some z→K66 [] [.fx 30 13 (List.map za s)]:=by
     intro o0_5262 hs
     have hm:=hk_5263 _ hs
     clear hs
     try dsimp only at hm
     try dsimp only
     refine hK66 _ _ ?_
     refine Wp.ret ?_
     refine zc ?_
     cases hm
     exact zm
    clear hK66 hk_5263
    refine qS ?_
    refine Wp.block ?_
    obtain ⟨k_5391,hk_5391,hm⟩:=zF hm
    refine Wp.loopN (fun s=>[(0,.buf 0),(10,.p (.i .i64 i_5069)),(13,.p (.i .i64 s.1))]) (fun s=>[.fx 30 13 (List.map za s.2)]) ?_ hm ?_
    ·
     exact zm
    clear hm
    intro s nx_5392 hm
    obtain ⟨k_5327,o0_5328⟩:=s
    try dsimp only at hm
    try dsimp only
    refine Wp.seqW fun K68 hK68 hW68=>?_
    refine qS ?_
    refine cM hm (fun hc70 hm=>?_) (fun hc70 hm=>?_)
    ·refine Wp.skip ?_
     refine hK68 _ _ ?_
     refine Wp.seqW fun K71 hK71 hW71=>?_
     refine Wp.block ?_
     obtain ⟨c_5393,hm⟩:=zf hm
     obtain ⟨v_5394,hv_5395,hm⟩:=ze hm
     obtain ⟨v_5396,hv_5397,hm⟩:=ze hm
     obtain ⟨v_5398,hv_5399,hm⟩:=ze hm
     obtain ⟨v_5400,hv_5401,hm⟩:=ze hm
     obtain ⟨v_5402,hv_5403,hm⟩:=ze hm
     obtain ⟨v_5404,hv_5405,hm⟩:=ze hm
     obtain ⟨v_5406,hv_5407,hm⟩:=ze hm
     obtain ⟨v_5408,hv_5409,hm⟩:=ze hm
     obtain ⟨v_5410,hv_5411,hm⟩:=ze hm
     obtain ⟨v_5412,hv_5413,hm⟩:=ze hm
     obtain ⟨v_5414,hv_5415,hm⟩:=ze hm
     obtain ⟨v_5416,hv_5417,hm⟩:=ze hm
     obtain ⟨v_5418,hv_5419,hm⟩:=ze hm
     obtain ⟨c_5420,hm⟩:=zf hm
     obtain ⟨v_5421,hv_5422,hm⟩:=ze hm
     obtain ⟨v_5423,hv_5424,hm⟩:=ze hm
     obtain ⟨v_5425,hv_5426,hm⟩:=ze hm
     obtain ⟨v_5427,hv_5428,hm⟩:=ze hm
     obtain ⟨v_5429,hv_5430,hm⟩:=ze hm
     obtain ⟨v_5431,hv_5432,hm⟩:=ze hm
     obtain ⟨v_5433,hv_5434,hm⟩:=ze hm
     obtain ⟨v_5435,hv_5436,hm⟩:=ze hm
     obtain ⟨v_5437,hv_5438,hm⟩:=ze hm
     obtain ⟨v_5439,hv_5440,hm⟩:=ze hm
     obtain ⟨v_5441,hv_5442,hm⟩:=ze hm
     obtain ⟨v_5443,hv_5444,hm⟩:=ze hm
     obtain ⟨v_5445,hv_5446,hm⟩:=ze hm
     obtain ⟨c_5447,hm⟩:=zf hm
     obtain ⟨v_5448,hv_5449,hm⟩:=ze hm
     have hv_5449m:=congrArg (List.map za) hv_5449
     try simp only [List.map_append,List.map_cons,List.map_nil,List.map_set,List.map_replicate,za] at hv_5449m
     obtain ⟨c_5450,hm⟩:=zf hm
     obtain ⟨v_5451,hv_5452,hm⟩:=ze hm
     have hv_5452m:=congrArg (List.map za) hv_5452
     try simp only [List.map_append,List.map_cons,List.map_nil,List.map_set,List.map_replicate,za] at hv_5452m
     have hr_5453:=fun h=>zS (l:=o0_5328) (e:=za) (d:=(api_Record.mk 0 0 [] (api_Version.mk 0 0 0 []) (api_Version.mk 0 0 0 []) 0 [])) (i:=(IntKind.i64.wrap (k_5327+1)).toNat) h []
     have hr_5454:=fun h=>zS (l:=o0_5328) (e:=za) (d:=(api_Record.mk 0 0 [] (api_Version.mk 0 0 0 []) (api_Version.mk 0 0 0 []) 0 [])) (i:=k_5327.toNat) h []
     refine Wp.regD (plan:=pl [(0,none),(1,none),(2,none),(3,none),(4,none),(5,none),(6,none),(7,none),(8,none),(9,none),(10,none),(11,none),(12,none),(13,none),(14,none),(15,some [2,3,4]),(16,none),(17,some [])]) (by kernel_rfl) rfl (by kernel_rfl) fun K72 hK72=>?_
     simp only [go_sem,simprocAttr,hv_5395,hv_5397,hv_5399,hv_5401,hv_5403,hv_5405,hv_5407,hv_5409,hv_5411,hv_5413,hv_5415,hv_5417,hv_5419,hv_5422,hv_5424,hv_5426,hv_5428,hv_5430,hv_5432,hv_5434,hv_5436,hv_5438,hv_5440,hv_5442,hv_5444,hv_5446,hv_5449,hv_5449m,hv_5452,hv_5452m,hr_5453 (by omega),hr_5454 (by omega)]
     refine kA hK72 ?_
     refine hK71 _ _ ?_
     refine Wp.region fun K73 hK73=>?_
     simp only [go_sem,simprocAttr,hv_5395,hv_5397,hv_5399,hv_5401,hv_5403,hv_5405,hv_5407,hv_5409,hv_5411,hv_5413,hv_5415,hv_5417,hv_5419,hv_5422,hv_5424,hv_5426,hv_5428,hv_5430,hv_5432,hv_5434,hv_5436,hv_5438,hv_5440,hv_5442,hv_5444,hv_5446,hv_5449,hv_5449m,hv_5452,hv_5452m]
     refine kA hK73 ?_
     simp only [zk,zi,↓reduceIte]
     refine ⟨(IntKind.i64.wrap (k_5327+1),v_5451),hm,?_⟩
     simp only [go_sem,simprocAttr,hv_5395,hv_5397,hv_5399,hv_5401,hv_5403,hv_5405,hv_5407,hv_5409,hv_5411,hv_5413,hv_5415,hv_5417,hv_5419,hv_5422,hv_5424,hv_5426,hv_5428,hv_5430,hv_5432,hv_5434,hv_5436,hv_5438,hv_5440,hv_5442,hv_5444,hv_5446,hv_5449,hv_5449m,hv_5452,hv_5452m]
     try exact se3
    ·refine Wp.exit ?_
     simp only [zk,zi,↓reduceIte]
     have hm:=hk_5391 _ hm
     try dsimp only at hm
     refine hW66 _ _ _ _ ?_ (hcut66 o0_5328 hm)
     exact zm
   clear hK65 hk_5070
   refine Wp.block ?_
   obtain ⟨k_5516,hk_5516,hm⟩:=zF hm
   refine Wp.loopN (fun s=>[(0,.buf 0),(1,.p (.i .i64 a_1)),(4,.fn 49 []),(10,.p (.i .i64 s.1)),(11,.p (.i .i64 s.2))]) (fun s=>[.fx 30 13 (List.map za o0_4)]) ?_ hm ?_
   ·
    exact zm
   clear hm
   intro s nx_5517 hm
   obtain ⟨i_5455,j_5456⟩:=s
   try dsimp only at hm
   try dsimp only
   refine Wp.seqW fun K74 hK74 hW74=>?_
   refine qS ?_
   refine cM hm (fun hc76 hm=>?_) (fun hc76 hm=>?_)
   ·refine Wp.skip ?_
    refine hK74 _ _ ?_
    refine Wp.block ?_
    obtain ⟨v_5518,hv_5519,hm⟩:=ze hm
    refine Wp.seqR fun K77 hK77=>?_
    simp only [go_sem,simprocAttr,hv_5519]
    refine kA hK77 ?_
    obtain ⟨c_5520,hm⟩:=zf hm
    obtain ⟨v_5521,hv_5522,hm⟩:=ze hm
    obtain ⟨v_5523,hv_5524,hm⟩:=ze hm
    obtain ⟨v_5525,hv_5526,hm⟩:=ze hm
    obtain ⟨v_5527,hv_5528,hm⟩:=ze hm
    obtain ⟨v_5529,hv_5530,hm⟩:=ze hm
    obtain ⟨v_5531,hv_5532,hm⟩:=ze hm
    obtain ⟨v_5533,hv_5534,hm⟩:=ze hm
    obtain ⟨v_5535,hv_5536,hm⟩:=ze hm
    obtain ⟨v_5537,hv_5538,hm⟩:=ze hm
    obtain ⟨v_5539,hv_5540,hm⟩:=ze hm
    obtain ⟨v_5541,hv_5542,hm⟩:=ze hm
    obtain ⟨v_5543,hv_5544,hm⟩:=ze hm
    obtain ⟨v_5545,hv_5546,hm⟩:=ze hm
    obtain ⟨c_5547,hm⟩:=zf hm
    obtain ⟨v_5548,hv_5549,hm⟩:=ze hm
    obtain ⟨v_5550,hv_5551,hm⟩:=ze hm
    obtain ⟨v_5552,hv_5553,hm⟩:=ze hm
    obtain ⟨v_5554,hv_5555,hm⟩:=ze hm
    obtain ⟨v_5556,hv_5557,hm⟩:=ze hm
    obtain ⟨v_5558,hv_5559,hm⟩:=ze hm
    obtain ⟨v_5560,hv_5561,hm⟩:=ze hm
    obtain ⟨v_5562,hv_5563,hm⟩:=ze hm
    obtain ⟨v_5564,hv_5565,hm⟩:=ze hm
    obtain ⟨v_5566,hv_5567,hm⟩:=ze hm
    obtain ⟨v_5568,hv_5569,hm⟩:=ze hm
    obtain ⟨v_5570,hv_5571,hm⟩:=ze hm
    obtain ⟨v_5572,hv_5573,hm⟩:=ze hm
    obtain ⟨r_5574,hr_5574,hm⟩:=zb hm
    have hr_5575:=fun h=>zS (l:=o0_4) (e:=za) (d:=(api_Record.mk 0 0 [] (api_Version.mk 0 0 0 []) (api_Version.mk 0 0 0 []) 0 [])) (i:=v_5518.toNat) h []
    have hr_5576:=fun h=>zS (l:=o0_4) (e:=za) (d:=(api_Record.mk 0 0 [] (api_Version.mk 0 0 0 []) (api_Version.mk 0 0 0 []) 0 [])) (i:=a_1.toNat) h []
    refine Wp.seqD (plan:=pl [(0,none),(1,none),(2,none),(3,none),(4,none),(5,none),(6,none),(7,none),(8,none),(9,none),(10,none)]) (by kernel_rfl) rfl (by kernel_rfl) fun K78 hK78=>?_
    simp only [go_sem,simprocAttr,hv_5519,hv_5522,hv_5524,hv_5526,hv_5528,hv_5530,hv_5532,hv_5534,hv_5536,hv_5538,hv_5540,hv_5542,hv_5544,hv_5546,hv_5549,hv_5551,hv_5553,hv_5555,hv_5557,hv_5559,hv_5561,hv_5563,hv_5565,hv_5567,hv_5569,hv_5571,hv_5573,hr_5575 (by omega),hr_5576 (by omega)]
    try refine ⟨sL,?_⟩
    refine Dr.callF (av:=?av79) (g:=true) (o:=?o79) (fun hg=>zc2 (api_Record.mk v_5521 v_5523 v_5525 (api_Version.mk v_5527 v_5529 v_5531 v_5533) (api_Version.mk v_5535 v_5537 v_5539 v_5541) v_5543 v_5545) (api_Record.mk v_5548 v_5550 v_5552 (api_Version.mk v_5554 v_5556 v_5558 v_5560) (api_Version.mk v_5562 v_5564 v_5566 v_5568) v_5570 v_5572) _ hr_5574) (by simp only [go_sem,simprocAttr,hv_5519,hv_5522,hv_5524,hv_5526,hv_5528,hv_5530,hv_5532,hv_5534,hv_5536,hv_5538,hv_5540,hv_5542,hv_5544,hv_5546,hv_5549,hv_5551,hv_5553,hv_5555,hv_5557,hv_5559,hv_5561,hv_5563,hv_5565,hv_5567,hv_5569,hv_5571,hv_5573,hr_5575 (by omega),hr_5576 (by omega)]; exact Is.mk) (by simp only [go_sem,simprocAttr,hv_5519,hv_5522,hv_5524,hv_5526,hv_5528,hv_5530,hv_5532,hv_5534,hv_5536,hv_5538,hv_5540,hv_5542,hv_5544,hv_5546,hv_5549,hv_5551,hv_5553,hv_5555,hv_5557,hv_5559,hv_5561,hv_5563,hv_5565,hv_5567,hv_5569,hv_5571,hv_5573,hr_5575 (by omega),hr_5576 (by omega)]; exact Is.mk) (by simp only [go_sem,simprocAttr,hv_5519,hv_5522,hv_5524,hv_5526,hv_5528,hv_5530,hv_5532,hv_5534,hv_5536,hv_5538,hv_5540,hv_5542,hv_5544,hv_5546,hv_5549,hv_5551,hv_5553,hv_5555,hv_5557,hv_5559,hv_5561,hv_5563,hv_5565,hv_5567,hv_5569,hv_5571,hv_5573,hr_5575 (by omega),hr_5576 (by omega)]; exact Is.mk) (by simp only [go_sem,simprocAttr,hv_5519,hv_5522,hv_5524,hv_5526,hv_5528,hv_5530,hv_5532,hv_5534,hv_5536,hv_5538,hv_5540,hv_5542,hv_5544,hv_5546,hv_5549,hv_5551,hv_5553,hv_5555,hv_5557,hv_5559,hv_5561,hv_5563,hv_5565,hv_5567,hv_5569,hv_5571,hv_5573,hr_5575 (by omega),hr_5576 (by omega)]; exact Is.mk) (by simp only [go_sem,simprocAttr,hv_5519,hv_5522,hv_5524,hv_5526,hv_5528,hv_5530,hv_5532,hv_5534,hv_5536,hv_5538,hv_5540,hv_5542,hv_5544,hv_5546,hv_5549,hv_5551,hv_5553,hv_5555,hv_5557,hv_5559,hv_5561,hv_5563,hv_5565,hv_5567,hv_5569,hv_5571,hv_5573,hr_5575 (by omega),hr_5576 (by omega)]) (by simp only [go_sem,simprocAttr,hv_5519,hv_5522,hv_5524,hv_5526,hv_5528,hv_5530,hv_5532,hv_5534,hv_5536,hv_5538,hv_5540,hv_5542,hv_5544,hv_5546,hv_5549,hv_5551,hv_5553,hv_5555,hv_5557,hv_5559,hv_5561,hv_5563,hv_5565,hv_5567,hv_5569,hv_5571,hv_5573,hr_5575 (by omega),hr_5576 (by omega)]; exact Is.mk) ?cont79
    simp only [go_sem,simprocAttr,hv_5519,hv_5522,hv_5524,hv_5526,hv_5528,hv_5530,hv_5532,hv_5534,hv_5536,hv_5538,hv_5540,hv_5542,hv_5544,hv_5546,hv_5549,hv_5551,hv_5553,hv_5555,hv_5557,hv_5559,hv_5561,hv_5563,hv_5565,hv_5567,hv_5569,hv_5571,hv_5573,hr_5575 (by omega),hr_5576 (by omega)]
    refine kA hK78 ?_
    refine cM hm (fun hc80 hm=>?_) (fun hc80 hm=>?_)
    ·refine Wp.region fun K81 hK81=>?_
     simp only [go_sem,simprocAttr,hv_5519,hv_5522,hv_5524,hv_5526,hv_5528,hv_5530,hv_5532,hv_5534,hv_5536,hv_5538,hv_5540,hv_5542,hv_5544,hv_5546,hv_5549,hv_5551,hv_5553,hv_5555,hv_5557,hv_5559,hv_5561,hv_5563,hv_5565,hv_5567,hv_5569,hv_5571,hv_5573]
     refine kA hK81 ?_
     simp only [zk,zi,↓reduceIte]
     refine ⟨(IntKind.i64.wrap (v_5518+1),j_5456),hm,?_⟩
     simp only [go_sem,simprocAttr,hv_5519,hv_5522,hv_5524,hv_5526,hv_5528,hv_5530,hv_5532,hv_5534,hv_5536,hv_5538,hv_5540,hv_5542,hv_5544,hv_5546,hv_5549,hv_5551,hv_5553,hv_5555,hv_5557,hv_5559,hv_5561,hv_5563,hv_5565,hv_5567,hv_5569,hv_5571,hv_5573]
     try exact se3
    ·refine Wp.region fun K82 hK82=>?_
     simp only [go_sem,simprocAttr,hv_5519,hv_5522,hv_5524,hv_5526,hv_5528,hv_5530,hv_5532,hv_5534,hv_5536,hv_5538,hv_5540,hv_5542,hv_5544,hv_5546,hv_5549,hv_5551,hv_5553,hv_5555,hv_5557,hv_5559,hv_5561,hv_5563,hv_5565,hv_5567,hv_5569,hv_5571,hv_5573]
     refine kA hK82 ?_
     simp only [zk,zi,↓reduceIte]
     refine ⟨(i_5455,v_5518),hm,?_⟩
     simp only [go_sem,simprocAttr,hv_5519,hv_5522,hv_5524,hv_5526,hv_5528,hv_5530,hv_5532,hv_5534,hv_5536,hv_5538,hv_5540,hv_5542,hv_5544,hv_5546,hv_5549,hv_5551,hv_5553,hv_5555,hv_5557,hv_5559,hv_5561,hv_5563,hv_5565,hv_5567,hv_5569,hv_5571,hv_5573]
     try exact se3
   ·refine Wp.exit ?_
    simp only [zk,zi,↓reduceIte]
    have hm:=hk_5516 _ hm
    try dsimp only at hm
    refine hW65 _ _ _ _ ?_ (hcut65 i_5455 hm)
    exact zm
  ·refine Wp.skip ?_
   refine hW1 _ _ _ _ ?_ (hcut1 () hm)
   exact zm
end Go.Proofs.YtmnohdgjkcjdeaaGreatDoor
