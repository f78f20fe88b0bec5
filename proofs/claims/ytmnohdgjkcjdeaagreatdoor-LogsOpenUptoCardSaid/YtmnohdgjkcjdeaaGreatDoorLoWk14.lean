/- That the code does what the models say (part 14). -/
import Derived.Test.YtmnohdgjkcjdeaaGreatDoorLoWk0
import Derived.Test.YtmnohdgjkcjdeaaGreatDoorLoWk1
import Derived.Test.YtmnohdgjkcjdeaaGreatDoorLoWk6
import Derived.Test.YtmnohdgjkcjdeaaGreatDoorLoWk8
import Derived.Test.YtmnohdgjkcjdeaaGreatDoorLoWk10
import Derived.Test.YtmnohdgjkcjdeaaGreatDoorLoWk13
set_option linter.unusedSimpArgs false
set_option linter.unusedVariables false
open Go.Proofs Go.Shelf
namespace Go.Proofs.YtmnohdgjkcjdeaaGreatDoor
open Go.Vc Go.Md
set_option maxRecDepth 100000
set_option maxHeartbeats 4000000
theorem ok_Law_LogsOpen (l_1:List api_Record) (at_2:Int) (cut_3:Int) (by_4:Int) (z:Bool) (hm:zdc l_1 at_2 cut_3 by_4=some z):Does Tryz.prog 4 [.p (.l (List.map za l_1)),.p (.i .i64 at_2),.p (.i .i64 cut_3),.p (.i .u8 by_4)] [] (fun r X=>r=.p (.b z)∧X=[]):=by
 unfold zdc at hm
 refine dW 0 143 [.tmp 8] Tryz.func4 fun B=>?_
 refine qS ?_
 refine Wp.seqW fun K2 hK2 hW2=>?_
 obtain ⟨r_5,hr_5,hm⟩:=zb hm
 refine Wp.seqR fun K3 hK3=>?_
 simp only [go_sem,simprocAttr]
 try refine ⟨sd,?_⟩
 refine Rg.callX (av:=?av4) (g:=true) (fun hg=>ok_Law_landed  _ hr_5) si si si sg si ?cont4
 intro hv4
 simp only [go_sem,simprocAttr]
 refine kA hK3 ?_
 refine cM hm (fun hc5 hm=>?_) (fun hc5 hm=>?_)
 ·refine qS ?_
  refine Wp.ret ?_
  refine zc ?_
  cases hm
  exact zm
 ·refine Wp.skip ?_
  refine hK2 _ _ ?_
  obtain ⟨r_6,hr_6,hm⟩:=zb hm
  refine Wp.seqR fun K7 hK7=>?_
  simp only [go_sem,simprocAttr]
  try refine ⟨sd,?_⟩
  refine Rg.callF (av:=?av8) (ok_Law_could l_1 false _ hr_6) si si sg ?cont8
  intro hv8
  simp only [go_sem,simprocAttr]
  refine kA hK7 ?_
  obtain ⟨r_7,hr_7,hm⟩:=zb hm
  refine Wp.seqR fun K9 hK9=>?_
  simp only [go_sem,simprocAttr]
  try refine ⟨sd,?_⟩
  refine Rg.callX (av:=?av10) (g:=true) (fun hg=>ok_R_LogText r_6 _ hr_7) si si si sg si ?cont10
  intro hv10
  simp only [go_sem,simprocAttr]
  refine kA hK9 ?_
  refine Wp.seqW fun K11 hK11 hW11=>?_
  refine qS ?_
  refine cM hm (fun hc13 hm=>?_) (fun hc13 hm=>?_)
  ·obtain ⟨r_8,hr_8,hm⟩:=zb hm
   refine Wp.seqR fun K14 hK14=>?_
   simp only [go_sem,simprocAttr]
   try refine ⟨sd,?_⟩
   refine Rg.callO (av:=?av15) [] (ok_log_Open [] _ hr_8) si si si sg sg ?cont15
   rintro _ _ ⟨rfl,rfl⟩ hv15
   simp only [go_sem,simprocAttr]
   refine kA hK14 ?_
   obtain ⟨r_9,hr_9,hr_9d,hm⟩:=zdX hm
   refine Wp.seqR fun K16 hK16=>?_
   simp only [go_sem,simprocAttr]
   try refine ⟨sd,?_⟩
   refine Rg.callGO (av:=?av17) (g:=((decide (r_8.2.1=0)) && (decide (r_8.1=0)))) [2,3,4,1,0] (fun hg=>zc7 r_8.2.2.2.2.1 r_8.2.2.2.2.2.1 r_8.2.2.2.2.2.2 r_8.2.2.2.1 r_8.2.2.1 _ (hr_9 hg)) (fun hg=>by obtain rfl:=hr_9d hg; rfl) si si si si sg sg ?cont17
   simp only [go_sem,simprocAttr]
   refine kA hK16 ?_
   refine Wp.ret ?_
   refine zc ?_
   cases hm
   exact zm
  ·refine Wp.skip ?_
   refine hK11 _ _ ?_
   refine qS ?_
   obtain ⟨c_10,hm⟩:=zf hm
   obtain ⟨c_11,hm⟩:=zf hm
   obtain ⟨v_12,hv_13,hm⟩:=ze hm
   refine Wp.seqR fun K19 hK19=>?_
   simp only [go_sem,simprocAttr,hv_13]
   refine kA hK19 ?_
   obtain ⟨c_14,hm⟩:=zf hm
   obtain ⟨c_15,hm⟩:=zf hm
   obtain ⟨v_16,hv_17,hm⟩:=ze hm
   have hv_17m:=congrArg (List.map zac) hv_17
   try simp only [List.map_append,List.map_cons,List.map_nil,List.map_set,List.map_replicate,zac] at hv_17m
   have hr_18:=fun h=>zS (l:=zbo r_7.1) (e:=zac) (d:=0) (i:=v_12.toNat) h []
   refine Wp.seqR fun K20 hK20=>?_
   simp only [go_sem,simprocAttr,hv_13,hv_17,hv_17m,hr_18 (by simp only [bytesOf_length]; omega)]
   refine kA hK20 ?_
   refine Wp.freeze 0 (by simp only [go_sem,simprocAttr]; exact Is.mk) (by first | (simp only [go_sem,simprocAttr]; done) | (simp only [go_sem,simprocAttr]; omega)) ?_
   simp only [go_sem,simprocAttr]
   obtain ⟨c_19,hm⟩:=zf hm
   obtain ⟨v_20,hv_21,hm⟩:=ze hm
   refine Wp.seqR fun K21 hK21=>?_
   simp only [go_sem,simprocAttr,hv_13,hv_17,hv_17m,hv_21]
   refine kA hK21 ?_
   obtain ⟨r_22,hr_22,hm⟩:=zb hm
   refine Wp.seqR fun K22 hK22=>?_
   simp only [go_sem,simprocAttr,hv_13,hv_17,hv_17m,hv_21]
   try refine ⟨sd,?_⟩
   refine Rg.callO (av:=?av23) [] (ok_log_Open (Go.Vc.strOf v_20) _ hr_22) (by simp only [go_sem,simprocAttr,hv_13,hv_17,hv_17m,hv_21]; exact Is.mk) (by simp only [go_sem,simprocAttr,hv_13,hv_17,hv_17m,hv_21]; exact Is.mk) (by simp only [go_sem,simprocAttr,hv_13,hv_17,hv_17m,hv_21]; exact Is.mk) (by simp only [go_sem,simprocAttr,hv_13,hv_17,hv_17m,hv_21]) (by simp only [go_sem,simprocAttr,hv_13,hv_17,hv_17m,hv_21]) ?cont23
   rintro _ _ ⟨rfl,rfl⟩ hv23
   simp only [go_sem,simprocAttr,hv_13,hv_17,hv_17m,hv_21]
   refine kA hK22 ?_
   obtain ⟨r_23,hr_23,hm⟩:=zb hm
   refine Wp.seqR fun K24 hK24=>?_
   simp only [go_sem,simprocAttr,hv_13,hv_17,hv_17m,hv_21]
   try refine ⟨sd,?_⟩
   refine Rg.callF (av:=?av25) (ok_R_OpenLog (Go.Vc.strOf v_20) _ hr_23) (by simp only [go_sem,simprocAttr,hv_13,hv_17,hv_17m,hv_21]; exact Is.mk) (by simp only [go_sem,simprocAttr,hv_13,hv_17,hv_17m,hv_21]; exact Is.mk) (by simp only [go_sem,simprocAttr,hv_13,hv_17,hv_17m,hv_21]) ?cont25
   intro hv25
   simp only [go_sem,simprocAttr,hv_13,hv_17,hv_17m,hv_21]
   refine kA hK24 ?_
   refine Wp.seqW fun K26 hK26 hW26=>?_
   obtain ⟨r_24,hr_24,hr_24d,hm⟩:=zdX hm
   obtain ⟨r_25,hr_25,hm⟩:=zR hm
   refine Wp.seqR fun K27 hK27=>?_
   simp only [go_sem,simprocAttr,hv_13,hv_17,hv_17m,hv_21]
   try refine ⟨sd,?_⟩
   refine Rg.callGO (av:=?av28) (g:=!((!decide (r_22.2.1=0)) || (!decide (r_22.1=(r_23.length:Int))))) [3,4,5,2,1] (fun hg=>zc7 r_22.2.2.2.2.1 r_22.2.2.2.2.2.1 r_22.2.2.2.2.2.2 r_22.2.2.2.1 r_22.2.2.1 _ (hr_24 hg)) (fun hg=>by obtain rfl:=hr_24d hg; rfl) (by simp only [go_sem,simprocAttr,hv_13,hv_17,hv_17m,hv_21]; exact Is.mk) (by simp only [go_sem,simprocAttr,hv_13,hv_17,hv_17m,hv_21]; exact Is.mk) (by simp only [go_sem,simprocAttr,hv_13,hv_17,hv_17m,hv_21]; exact Is.mk) (by simp only [go_sem,simprocAttr,hv_13,hv_17,hv_17m,hv_21]; exact Is.mk) (by simp only [go_sem,simprocAttr,hv_13,hv_17,hv_17m,hv_21]) (by simp only [go_sem,simprocAttr,hv_13,hv_17,hv_17m,hv_21]) ?cont28
   simp only [go_sem,simprocAttr,hv_13,hv_17,hv_17m,hv_21]
   try refine ⟨sd,?_⟩
   refine Rg.callX (av:=?av29) (g:=!((!decide (r_22.2.1=0)) || (!decide (r_22.1=(r_23.length:Int))))) (fun hg=>zaN r_24 r_23 _ (hr_25 hg)) (by simp only [go_sem,simprocAttr,hv_13,hv_17,hv_17m,hv_21]; exact Is.mk) (by simp only [go_sem,simprocAttr,hv_13,hv_17,hv_17m,hv_21]; exact Is.mk) (by simp only [go_sem,simprocAttr,hv_13,hv_17,hv_17m,hv_21]; exact Is.mk) (by simp only [go_sem,simprocAttr,hv_13,hv_17,hv_17m,hv_21]) (by simp only [go_sem,simprocAttr,hv_13,hv_17,hv_17m,hv_21]; exact Is.mk) ?cont29
   intro hv29
   simp only [go_sem,simprocAttr,hv_13,hv_17,hv_17m,hv_21]
   refine kA hK27 ?_
   refine cM hm (fun hc30 hm=>?_) (fun hc30 hm=>?_)
   ·refine Wp.seqR fun K31 hK31=>?_
    simp only [go_sem,simprocAttr,hv_13,hv_17,hv_17m,hv_21]
    refine kA hK31 ?_
    refine Wp.ret ?_
    refine zc ?_
    cases hm
    simp only [go_sem,simprocAttr,hv_13,hv_17,hv_17m,hv_21]
    try exact se3
   ·refine Wp.skip ?_
    refine hK26 _ _ ?_
    refine Wp.seqR fun K32 hK32=>?_
    simp only [go_sem,simprocAttr,hv_13,hv_17,hv_17m,hv_21]
    refine kA hK32 ?_
    refine Wp.seqW fun K33 hK33 hW33=>?_
    obtain ⟨k_33,hk_33,hm⟩:=zl hm
    have hcut33:∀ s,k_33 s=some z→K33 [(0,.p (.l (List.map za r_6))),(3,.p (.i .u8 by_4)),(16,.p (.s (Go.Vc.strOf v_20))),(18,.p (.i .i64 r_22.1)),(20,.p (.l (List.map za r_23))),(21,.p (.i .i64 s))] []:=by
     intro lines_32 hs
     have hm:=hk_33 _ hs
     clear hs
     try dsimp only at hm
     try dsimp only
     refine hK33 _ _ ?_
     refine Wp.seqW fun K34 hK34 hW34=>?_
     obtain ⟨k_43,hk_43,hm⟩:=zl hm
     have hcut34:∀ s,k_43 s=some z→K34 [(0,.p (.l (List.map za r_6))),(18,.p (.i .i64 r_22.1)),(20,.p (.l (List.map za r_23))),(21,.p (.i .i64 s))] []:=by
      intro lines_42 hs
      have hm:=hk_43 _ hs
      clear hs
      try dsimp only at hm
      try dsimp only
      refine hK34 _ _ ?_
      obtain ⟨c_44,hm⟩:=zf hm
      obtain ⟨r_45,hr_45,hm⟩:=zR hm
      refine Wp.seqR fun K35 hK35=>?_
      simp only [go_sem,simprocAttr,hv_13,hv_17,hv_17m,hv_21]
      try refine ⟨sL,?_⟩
      refine Rg.callX (av:=?av36) (g:=decide (r_22.1=lines_42)) (fun hg=>zaN r_23 (List.take r_22.1.toNat r_6) _ (hr_45 hg)) (by simp only [go_sem,simprocAttr,hv_13,hv_17,hv_17m,hv_21]; exact Is.mk) (by simp only [go_sem,simprocAttr,hv_13,hv_17,hv_17m,hv_21]; exact Is.mk) (by simp only [go_sem,simprocAttr,hv_13,hv_17,hv_17m,hv_21]; exact Is.mk) (by simp only [go_sem,simprocAttr,hv_13,hv_17,hv_17m,hv_21]) (by simp only [go_sem,simprocAttr,hv_13,hv_17,hv_17m,hv_21]; exact Is.mk) ?cont36
      intro hv36
      simp only [go_sem,simprocAttr,hv_13,hv_17,hv_17m,hv_21]
      refine kA hK35 ?_
      refine Wp.ret ?_
      refine zc ?_
      cases hm
      simp only [go_sem,simprocAttr,hv_13,hv_17,hv_17m,hv_21]
      try exact se3
     clear hK34 hk_43
     refine Wp.seqR fun K37 hK37=>?_
     simp only [go_sem,simprocAttr,hv_13,hv_17,hv_17m,hv_21]
     refine kA hK37 ?_
     refine cM hm (fun hc38 hm=>?_) (fun hc38 hm=>?_)
     ·refine Wp.seqR fun K39 hK39=>?_
      simp only [go_sem,simprocAttr,hv_13,hv_17,hv_17m,hv_21]
      refine kA hK39 ?_
      refine Wp.seqR fun K40 hK40=>?_
      simp only [go_sem,simprocAttr,hv_13,hv_17,hv_17m,hv_21]
      refine kA hK40 ?_
      refine Wp.block ?_
      obtain ⟨k_49,hk_49,hm⟩:=zQ hm
      refine Wp.fact 16 fun hl_52=>?_
      replace hl_52:(Go.Vc.strOf v_20).length≤274877906944:=by
       simp only [go_sem,simprocAttr,List.length_map] at hl_52
       omega
      refine Wp.forL (fun i_51 s=>[(0,.p (.l (List.map za r_6))),(16,.p (.s (Go.Vc.strOf v_20))),(18,.p (.i .i64 r_22.1)),(20,.p (.l (List.map za r_23))),(21,.p (.i .i64 s)),(122,.p (.i .i64 ((Go.Vc.strOf v_20).length:Int))),(123,.p (.i .i64 (i_51:Int)))]) (fun i_51 s=>[]) ?_ hm ?_
      ·
       simp only [go_sem,simprocAttr,hv_13,hv_17,hv_17m,hv_21]
       try exact se3
      clear hm
      intro i_51 lines_46 hii_51 hm
      try dsimp only at hm
      try dsimp only
      refine Wp.seqR fun K41 hK41=>?_
      simp only [go_sem,simprocAttr,hv_13,hv_17,hv_17m,hv_21]
      refine kA hK41 ?_
      refine Wp.seqW fun K42 hK42 hW42=>?_
      refine Wp.cond rfl ⟨⟩ (fun hc42=>?_) (fun hc42=>?_)
      rotate_left
      ·refine Wp.exit ?_
       have hm:=hk_49 _ (zae hm (zbd (by first | exact hc42 | simpa using hc42)))
       try dsimp only at hm
       refine hW34 _ _ _ _ ?_ (hcut34 lines_46 hm)
       simp only [go_sem,simprocAttr,hv_13,hv_17,hv_17m,hv_21]
       try exact se3
      have hlt42:=zbc (by first | exact hc42 | simpa using hc42)
      have hw42:=zO hlt42 hl_52
      obtain ⟨c_53,nx_50,hxc_53,hyc_53,hnx_50,hm⟩:=zP hm hlt42
      clear hxc_53
      refine Wp.skip ?_
      simp only [zk]
      refine hK42 _ _ ?_
      refine Wp.seqW fun K43 hK43 hW43=>?_
      refine Wp.block ?_
      refine Wp.seqR fun K44 hK44=>?_
      simp only [go_sem,simprocAttr,hv_13,hv_17,hv_17m,hv_21,hw42,hyc_53]
      refine kA hK44 ?_
      refine Wp.seqR fun K45 hK45=>?_
      simp only [go_sem,simprocAttr,hv_13,hv_17,hv_17m,hv_21,hw42,hyc_53]
      refine kA hK45 ?_
      refine cM hm (fun hc46 hm=>?_) (fun hc46 hm=>?_)
      ·refine Wp.region fun K47 hK47=>?_
       simp only [go_sem,simprocAttr,hv_13,hv_17,hv_17m,hv_21,hw42,hyc_53]
       refine kA hK47 ?_
       refine hK43 _ _ ?_
       refine Wp.region fun K48 hK48=>?_
       simp only [go_sem,simprocAttr,hv_13,hv_17,hv_17m,hv_21,hw42,hyc_53]
       refine kA hK48 ?_
       simp only [zk,zi,↓reduceIte]
       refine ⟨IntKind.i64.wrap (lines_46+1),hlt42,hnx_50 _ hm,?_⟩
       simp only [go_sem,simprocAttr,hv_13,hv_17,hv_17m,hv_21,hw42,hyc_53]
       try exact se3
      ·refine Wp.skip ?_
       refine hK43 _ _ ?_
       refine Wp.region fun K49 hK49=>?_
       simp only [go_sem,simprocAttr,hv_13,hv_17,hv_17m,hv_21,hw42,hyc_53]
       refine kA hK49 ?_
       simp only [zk,zi,↓reduceIte]
       refine ⟨lines_46,hlt42,hnx_50 _ hm,?_⟩
       simp only [go_sem,simprocAttr,hv_13,hv_17,hv_17m,hv_21,hw42,hyc_53]
       try exact se3
     ·refine Wp.skip ?_
      refine hW34 _ _ _ _ ?_ (hcut34 lines_32 hm)
      simp only [go_sem,simprocAttr,hv_13,hv_17,hv_17m,hv_21]
      try exact se3
    clear hK33 hk_33
    refine Wp.seqR fun K50 hK50=>?_
    simp only [go_sem,simprocAttr,hv_13,hv_17,hv_17m,hv_21]
    refine kA hK50 ?_
    refine Wp.block ?_
    obtain ⟨k_57,hk_57,hm⟩:=zF hm
    refine Wp.loopN (fun s=>[(0,.p (.l (List.map za r_6))),(3,.p (.i .u8 by_4)),(9,.p (.s r_7.1)),(16,.p (.s (Go.Vc.strOf v_20))),(18,.p (.i .i64 r_22.1)),(20,.p (.l (List.map za r_23))),(21,.p (.i .i64 s.1)),(108,.p (.i .i64 (min v_12 ((Go.Vc.strOf v_20).length:Int)))),(109,.p (.i .i64 s.2))]) (fun s=>[.gone,.mp true (zcY Dt.s zq r_22.2.2.1),.cells 99 [.mp 1,.p (.i .i64 r_22.2.2.2.1)],.cells 63 [.buf 4,.buf 5,.p (.s r_22.2.2.2.2.1),.ptr 2 0],.buf 30 13 (List.map za r_22.2.2.2.2.2.1),.buf 9 1 (List.map ecS r_22.2.2.2.2.2.2)]) ?_ hm ?_
    ·
     simp only [go_sem,simprocAttr,hv_13,hv_17,hv_17m,hv_21]
     try exact se3
    clear hm
    intro s nx_58 hm
    obtain ⟨lines_54,t109_55⟩:=s
    try dsimp only at hm
    try dsimp only
    refine Wp.seqR fun K51 hK51=>?_
    simp only [go_sem,simprocAttr,hv_13,hv_17,hv_17m,hv_21]
    refine kA hK51 ?_
    refine Wp.seqW fun K52 hK52 hW52=>?_
    refine cM hm (fun hc53 hm=>?_) (fun hc53 hm=>?_)
    ·refine Wp.skip ?_
     refine hK52 _ _ ?_
     refine Wp.seqW fun K54 hK54 hW54=>?_
     refine Wp.block ?_
     refine Wp.seqR fun K55 hK55=>?_
     simp only [go_sem,simprocAttr,hv_13,hv_17,hv_17m,hv_21]
     refine kA hK55 ?_
     obtain ⟨c_59,hbc_59,hxc_59,hm⟩:=zab hm
     replace hxc_59:((r_7.1.getD t109_55.toNat 0).toNat:Int)=c_59:=hxc_59
     refine Wp.seqR fun K56 hK56=>?_
     simp only [go_sem,simprocAttr,hv_13,hv_17,hv_17m,hv_21,hxc_59]
     refine kA hK56 ?_
     refine cM hm (fun hc57 hm=>?_) (fun hc57 hm=>?_)
     ·refine Wp.region fun K58 hK58=>?_
      simp only [go_sem,simprocAttr,hv_13,hv_17,hv_17m,hv_21,hxc_59]
      refine kA hK58 ?_
      refine hK54 _ _ ?_
      refine Wp.region fun K59 hK59=>?_
      simp only [go_sem,simprocAttr,hv_13,hv_17,hv_17m,hv_21,hxc_59]
      refine kA hK59 ?_
      simp only [zk,zi,↓reduceIte]
      refine ⟨(IntKind.i64.wrap (lines_54+1),IntKind.i64.wrap (t109_55+1)),hm,?_⟩
      simp only [go_sem,simprocAttr,hv_13,hv_17,hv_17m,hv_21,hxc_59]
      try exact se3
     ·refine Wp.skip ?_
      refine hK54 _ _ ?_
      refine Wp.region fun K60 hK60=>?_
      simp only [go_sem,simprocAttr,hv_13,hv_17,hv_17m,hv_21,hxc_59]
      refine kA hK60 ?_
      simp only [zk,zi,↓reduceIte]
      refine ⟨(lines_54,IntKind.i64.wrap (t109_55+1)),hm,?_⟩
      simp only [go_sem,simprocAttr,hv_13,hv_17,hv_17m,hv_21,hxc_59]
      try exact se3
    ·refine Wp.exit ?_
     simp only [zk,zi,↓reduceIte]
     have hm:=hk_57 _ hm
     try dsimp only at hm
     refine hW33 _ _ _ _ ?_ (hcut33 lines_54 hm)
     simp only [go_sem,simprocAttr,hv_13,hv_17,hv_17m,hv_21]
     try exact se3
end Go.Proofs.YtmnohdgjkcjdeaaGreatDoor
