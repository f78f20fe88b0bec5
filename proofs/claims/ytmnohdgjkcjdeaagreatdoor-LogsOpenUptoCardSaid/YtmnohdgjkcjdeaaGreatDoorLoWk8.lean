/- That the code does what the models say (part 8). -/
import Derived.Test.YtmnohdgjkcjdeaaGreatDoorLoWk0
import Derived.Test.YtmnohdgjkcjdeaaGreatDoorLoWk1
import Derived.Test.YtmnohdgjkcjdeaaGreatDoorLoWk4
import Derived.Test.YtmnohdgjkcjdeaaGreatDoorLoWk6
import Derived.Test.YtmnohdgjkcjdeaaGreatDoorLoWk7
set_option linter.unusedSimpArgs false
set_option linter.unusedVariables false
open Go.Proofs Go.Shelf
namespace Go.Proofs.YtmnohdgjkcjdeaaGreatDoor
open Go.Vc Go.Md
set_option maxRecDepth 100000
set_option maxHeartbeats 4000000
theorem ok_log_Open (text_1:Str) (z:Int × Int × (List (Str × log_had)) × Int × Str × List api_Record × List Str) (hm:log_Open text_1=some z):Does Tryz.prog 18 [.p (.s text_1)] [] (fun r X=>r=.tup [.ptr 2 0,.p (.i .i64 z.1),.p (.i .i64 z.2.1)]∧X=[.mp true (zcY Dt.s zq z.2.2.1),.cells 99 [.mp 0,.p (.i .i64 z.2.2.2.1)],.cells 63 [.buf 3,.buf 4,.p (.s z.2.2.2.2.1),.ptr 1 0],.buf 30 13 (List.map za z.2.2.2.2.2.1),.buf 9 1 (List.map ecS z.2.2.2.2.2.2)]):=by
 unfold log_Open at hm
 refine dW 5 68 [.tmp 2,.tmp 3,.tmp 4] Tryz.func18 fun B=>?_
 refine qS ?_
 refine Wp.seqW fun K2 hK2 hW2=>?_
 refine qS ?_
 refine cM hm (fun hc4 hm=>?_) (fun hc4 hm=>?_)
 ·refine qS ?_
  refine Wp.ret ?_
  simp only [zk,zi]
  cases hm
 ·refine Wp.skip ?_
  refine hK2 _ _ ?_
  obtain ⟨r_200,hr_200,hm⟩:=zb hm
  refine Wp.seqR fun K6 hK6=>?_
  simp only [go_sem,simprocAttr]
  try refine ⟨sd,?_⟩
  refine Rg.callO (av:=?av7) [] (ok_log_New  _ hr_200) si si si sg sg ?cont7
  rintro _ _ ⟨rfl,rfl⟩ hv7
  simp only [go_sem,simprocAttr]
  refine kA hK6 ?_
  refine Wp.seqW fun K8 hK8 hW8=>?_
  obtain ⟨k_299,hk_299,hm⟩:=zl hm
  have hcut8:∀ s,k_299 s=some z→K8 [(5,.ptr 2 0)] [.mp true (zcY Dt.s zq s.1),.cells 99 [.mp 0,.p (.i .i64 s.2.1)],.cells 63 [.buf 3,.buf 4,.p (.s s.2.2.1),.ptr 1 0],.buf 30 13 (List.map za s.2.2.2.1),.buf 9 1 (List.map ecS s.2.2.2.2)]:=by
   intro s hs
   have hm:=hk_299 _ hs
   clear hs
   obtain ⟨m0_294,o1_1_295,o2_2_296,o3_297,o4_298⟩:=s
   try dsimp only at hm
   try dsimp only
   refine hK8 _ _ ?_
   refine Wp.seqD (plan:=pl [(0,none),(1,none),(2,none),(3,none),(4,none),(5,none),(6,none),(7,none),(8,none)]) (by kernel_rfl) rfl (by kernel_rfl) fun K9 hK9=>?_
   simp only [go_sem,simprocAttr]
   refine kA hK9 ?_
   refine Wp.ret ?_
   refine zc ?_
   cases hm
   exact zm
  clear hK8 hk_299
  refine Wp.block ?_
  refine Wp.adoptO 2 0 30 13 rfl rfl ?_
  simp only [go_sem,simprocAttr]
  refine Wp.adoptO 2 1 9 1 rfl rfl ?_
  simp only [go_sem,simprocAttr]
  obtain ⟨k_377,hk_377,hm⟩:=zF hm
  refine Wp.loopN (fun s=>[(0,.p (.s s.1)),(5,.ptr 2 0)]) (fun s=>[.mp true (zcY Dt.s zq s.2.1),.cells 99 [.mp 0,.p (.i .i64 s.2.2.1)],.cells 63 [.buf 3,.buf 4,.p (.s s.2.2.2.1),.ptr 1 0],.buf 30 13 (List.map za s.2.2.2.2.1),.buf 9 1 (List.map ecS s.2.2.2.2.2)]) ?_ hm ?_
  ·
   exact zm
  clear hm
  intro s nx_378 hm
  obtain ⟨text_357,m0_358,o1_1_359,o2_2_360,o3_361,o4_362⟩:=s
  try dsimp only at hm
  try dsimp only
  refine Wp.block ?_
  obtain ⟨r_379,hr_379,hm⟩:=zb hm
  refine Wp.seqR fun K10 hK10=>?_
  simp only [go_sem,simprocAttr]
  try refine ⟨sd,?_⟩
  refine Rg.callX (av:=?av11) (g:=true) (fun hg=>zei text_357 ([10]:Str) _ hr_379) si si si sg si ?cont11
  intro hv11
  simp only [go_sem,simprocAttr]
  refine kA hK10 ?_
  obtain ⟨r_380,hr_380,hm⟩:=zb hm
  refine Wp.seqR fun K12 hK12=>?_
  simp only [go_sem,simprocAttr]
  try refine ⟨sd,?_⟩
  refine Rg.callX (av:=?av13) (g:=true) (fun hg=>zer r_379.1 32 _ hr_380) si si si sg si ?cont13
  intro hv13
  simp only [go_sem,simprocAttr]
  refine kA hK12 ?_
  refine Wp.seqW fun K14 hK14 hW14=>?_
  refine qS ?_
  refine cM hm (fun hc16 hm=>?_) (fun hc16 hm=>?_)
  ·refine Wp.exit ?_
   simp only [zk,zi,↓reduceIte]
   have hm:=hk_377 _ hm
   try dsimp only at hm
   refine hW8 _ _ _ _ ?_ (hcut8 (m0_358,o1_1_359,o2_2_360,o3_361,o4_362) hm)
   exact zm
  ·refine Wp.skip ?_
   refine hK14 _ _ ?_
   obtain ⟨c_381,hm⟩:=zf hm
   obtain ⟨r_382,hr_382,hm⟩:=zb hm
   refine Wp.seqR fun K17 hK17=>?_
   simp only [go_sem,simprocAttr]
   try refine ⟨sL,?_⟩
   refine Rg.callX (av:=?av18) (g:=true) (fun hg=>ok_log_ParseRecord (List.take r_380.toNat r_379.1) _ hr_382) si si si sg si ?cont18
   intro hv18
   simp only [go_sem,simprocAttr]
   refine kA hK17 ?_
   refine Wp.seqW fun K19 hK19 hW19=>?_
   obtain ⟨c_383,hm⟩:=zf hm
   obtain ⟨c_384,hm⟩:=zf hm
   obtain ⟨c_385,hm⟩:=zf hm
   obtain ⟨r_386,hr_386,hm⟩:=zR hm
   obtain ⟨r_387,hr_387,hr_387d,hm⟩:=zdX hm
   refine Wp.seqDW (plan:=pl [(0,none),(1,none),(2,none),(3,none),(4,none),(5,none),(6,none),(7,none),(8,none),(9,none),(10,none),(11,none),(12,none),(13,none),(14,none),(15,none),(16,none),(17,none),(18,none),(19,none),(20,none),(21,some []),(22,none),(23,none)]) (by kernel_rfl) rfl (by kernel_rfl) fun K20 hK20 hW20=>?_
   suffices hcont20:K20 [(0,.p (.s text_357)),(5,.ptr 2 0),(6,.p (.s r_379.1)),(7,.p (.s r_379.2.1)),(8,.p (.b r_379.2.2)),(9,.p (.i .i64 r_380)),(10,.ptr 5 0),(11,.p (.i .i64 r_382.2)),(16,.tup [.p (.s r_379.1),.p (.s r_379.2.1),.p (.b r_379.2.2)]),(17,.p (.s text_357)),(18,.tup [.p (.s r_379.1),.p (.s r_379.2.1),.p (.b r_379.2.2)]),(19,.p (.s r_379.1)),(20,.p (.s r_379.2.1)),(21,.p (.b r_379.2.2)),(22,.p (.s r_379.1)),(23,.p (.i .i64 r_380)),(24,.p (.b r_379.2.2)),(25,.p (.b (!r_379.2.2))),(26,.p (.b (!r_379.2.2))),(29,.p (.b ((!r_379.2.2) || (decide (r_380 < 0))))),(30,.tup [.agg [.p (.i .i64 r_382.1.Time),.p (.i .i64 r_382.1.Kind),.p (.s r_382.1.Pack),.p (.i .i64 r_382.1.From.Major),.p (.i .i64 r_382.1.From.Minor),.p (.i .i64 r_382.1.From.Patch),.p (.s r_382.1.From.Early),.p (.i .i64 r_382.1.To.Major),.p (.i .i64 r_382.1.To.Minor),.p (.i .i64 r_382.1.To.Patch),.p (.s r_382.1.To.Early),.p (.i .i64 r_382.1.Result),.p (.s r_382.1.Note)],.p (.i .i64 r_382.2)]),(31,.p (.s r_379.1)),(32,.p (.i .i64 r_380)),(33,.p (.s (List.take r_380.toNat r_379.1))),(34,.tup [.agg [.p (.i .i64 r_382.1.Time),.p (.i .i64 r_382.1.Kind),.p (.s r_382.1.Pack),.p (.i .i64 r_382.1.From.Major),.p (.i .i64 r_382.1.From.Minor),.p (.i .i64 r_382.1.From.Patch),.p (.s r_382.1.From.Early),.p (.i .i64 r_382.1.To.Major),.p (.i .i64 r_382.1.To.Minor),.p (.i .i64 r_382.1.To.Patch),.p (.s r_382.1.To.Early),.p (.i .i64 r_382.1.Result),.p (.s r_382.1.Note)],.p (.i .i64 r_382.2)]),(35,.agg [.p (.i .i64 r_382.1.Time),.p (.i .i64 r_382.1.Kind),.p (.s r_382.1.Pack),.p (.i .i64 r_382.1.From.Major),.p (.i .i64 r_382.1.From.Minor),.p (.i .i64 r_382.1.From.Patch),.p (.s r_382.1.From.Early),.p (.i .i64 r_382.1.To.Major),.p (.i .i64 r_382.1.To.Minor),.p (.i .i64 r_382.1.To.Patch),.p (.s r_382.1.To.Early),.p (.i .i64 r_382.1.Result),.p (.s r_382.1.Note)]),(36,.p (.i .i64 r_382.2)),(60,.p (.b (((!decide (r_382.2=0)) || (!decide ((List.drop ((IntKind.i64.wrap (r_380+1)).toNat) r_379.1)=r_386))) || (!decide (r_387.1=0)))))] [.mp true (zcY Dt.s zq r_387.2.2.2.2.2),.cells 99 [.mp 0,.p (.i .i64 r_387.2.2.2.2.1)],.cells 63 [.buf 3,.buf 4,.p (.s r_387.2.1),.ptr 1 0],.buf 30 13 (List.map za r_387.2.2.1),.buf 9 1 (List.map ecS r_387.2.2.2.1),.cells 30 [.p (.i .i64 r_382.1.Time),.p (.i .i64 r_382.1.Kind),.p (.s r_382.1.Pack),.p (.i .i64 r_382.1.From.Major),.p (.i .i64 r_382.1.From.Minor),.p (.i .i64 r_382.1.From.Patch),.p (.s r_382.1.From.Early),.p (.i .i64 r_382.1.To.Major),.p (.i .i64 r_382.1.To.Minor),.p (.i .i64 r_382.1.To.Patch),.p (.s r_382.1.To.Early),.p (.i .i64 r_382.1.Result),.p (.s r_382.1.Note)]] by
    rcases Bool.eq_false_or_eq_true (decide (r_382.2=0)) with hg_388 | hg_388
    ·
     rcases Bool.eq_false_or_eq_true (decide ((List.drop ((IntKind.i64.wrap (r_380+1)).toNat) r_379.1)=r_386)) with hg_389 | hg_389
     ·
      have hg_390:(!((!decide (r_382.2=0)) || (!decide ((List.drop ((IntKind.i64.wrap (r_380+1)).toNat) r_379.1)=r_386))))=true:=by revert hg_388 hg_389; generalize decide ((List.drop ((IntKind.i64.wrap (r_380+1)).toNat) r_379.1)=r_386)=x0; generalize decide (r_382.2=0)=x1; revert x0 x1; decide
      simp only [go_sem,simprocAttr,false_implies,and_true,true_and,bad,hg_388,hg_389,hg_390]
      try refine ⟨sL,?_⟩
      refine Dr.callF (av:=?av21) (g:=!(!decide (r_382.2=0))) (o:=?o21) (fun hg=>zdo (o2_2_360++(List.take r_380.toNat r_379.1)) _ (hr_386 hg)) (by simp only [go_sem,simprocAttr,false_implies,and_true,true_and,bad,hg_388,hg_389,hg_390]; exact Is.mk) (by simp only [go_sem,simprocAttr,false_implies,and_true,true_and,bad,hg_388,hg_389,hg_390]; exact Is.mk) (by simp only [go_sem,simprocAttr,false_implies,and_true,true_and,bad,hg_388,hg_389,hg_390]; exact Is.mk) (by simp only [go_sem,simprocAttr,false_implies,and_true,true_and,bad,hg_388,hg_389,hg_390]; exact Is.mk) (by simp only [go_sem,simprocAttr,false_implies,and_true,true_and,bad,hg_388,hg_389,hg_390]) (by simp only [go_sem,simprocAttr,false_implies,and_true,true_and,bad,hg_388,hg_389,hg_390]; exact Is.mk) ?cont21
      simp only [go_sem,simprocAttr,false_implies,and_true,true_and,bad,hg_388,hg_389,hg_390]
      try refine ⟨sL,?_⟩
      refine Dr.of_br (Br.callEG (av:=?av22) (o:=?o22) [2,3,4,1,0] (ok_log_Log_Add_i1 r_382.1 o2_2_360 o3_361 o4_362 o1_1_359 m0_358 _ (hr_387 hg_390)) (by simp only [go_sem,simprocAttr,false_implies,and_true,true_and,bad,hg_388,hg_389,hg_390]; exact Is.mk) (by simp only [go_sem,simprocAttr,false_implies,and_true,true_and,bad,hg_388,hg_389,hg_390]; exact Is.mk) (by simp only [go_sem,simprocAttr,false_implies,and_true,true_and,bad,hg_388,hg_389,hg_390]; exact Is.mk) (by simp only [go_sem,simprocAttr,false_implies,and_true,true_and,bad,hg_388,hg_389,hg_390]; exact Is.mk) (by simp only [go_sem,simprocAttr,false_implies,and_true,true_and,bad,hg_388,hg_389,hg_390]; exact Is.mk) (by simp only [go_sem,simprocAttr,false_implies,and_true,true_and,bad,hg_388,hg_389,hg_390]) (by simp only [go_sem,simprocAttr,false_implies,and_true,true_and,bad,hg_388,hg_389,hg_390]) ?hag22 ?cont22)
      case hag22=>first | (simp only [go_sem,simprocAttr,false_implies,and_true,true_and,bad,hg_388,hg_389,hg_390]; done) | (simp only [go_sem,simprocAttr,false_implies,and_true,true_and,bad,hg_388,hg_389,hg_390]; exact sd)
      simp only [go_sem,simprocAttr,false_implies,and_true,true_and,bad,hg_388,hg_389,hg_390]
      first | refine hW20 _ _ _ _ ?_ hcont20 | refine ⟨sL,hW20 _ _ _ _ ?_ hcont20⟩
      simp only [go_sem,simprocAttr,false_implies,and_true,true_and,bad,hg_388,hg_389,hg_390]
      try exact se3
     ·
      have hg_391:(!((!decide (r_382.2=0)) || (!decide ((List.drop ((IntKind.i64.wrap (r_380+1)).toNat) r_379.1)=r_386))))=false:=by revert hg_388 hg_389; generalize decide ((List.drop ((IntKind.i64.wrap (r_380+1)).toNat) r_379.1)=r_386)=x0; generalize decide (r_382.2=0)=x1; revert x0 x1; decide
      simp only [go_sem,simprocAttr,false_implies,and_true,true_and,bad,hg_388,hg_389,hg_391]
      try refine ⟨sL,?_⟩
      refine Dr.callF (av:=?av23) (g:=!(!decide (r_382.2=0))) (o:=?o23) (fun hg=>zdo (o2_2_360++(List.take r_380.toNat r_379.1)) _ (hr_386 hg)) (by simp only [go_sem,simprocAttr,false_implies,and_true,true_and,bad,hg_388,hg_389,hg_391]; exact Is.mk) (by simp only [go_sem,simprocAttr,false_implies,and_true,true_and,bad,hg_388,hg_389,hg_391]; exact Is.mk) (by simp only [go_sem,simprocAttr,false_implies,and_true,true_and,bad,hg_388,hg_389,hg_391]; exact Is.mk) (by simp only [go_sem,simprocAttr,false_implies,and_true,true_and,bad,hg_388,hg_389,hg_391]; exact Is.mk) (by simp only [go_sem,simprocAttr,false_implies,and_true,true_and,bad,hg_388,hg_389,hg_391]) (by simp only [go_sem,simprocAttr,false_implies,and_true,true_and,bad,hg_388,hg_389,hg_391]; exact Is.mk) ?cont23
      simp only [go_sem,simprocAttr,false_implies,and_true,true_and,bad,hg_388,hg_389,hg_391]
      try refine ⟨sL,?_⟩
      obtain rfl:=hr_387d hg_391
      refine Dr.of_br (Br.skipG (o:=?o24) (v:=.top) (gw:=?gw24) (by simp only [go_sem,simprocAttr,false_implies,and_true,true_and,bad,hg_388,hg_389,hg_391]; exact Is.mk) (by simp only [go_sem,simprocAttr,false_implies,and_true,true_and,bad,hg_388,hg_389,hg_391]; exact Is.mk) (by simp only [go_sem,simprocAttr,false_implies,and_true,true_and,bad,hg_388,hg_389,hg_391]; exact Is.mk) (by simp only [go_sem,simprocAttr,false_implies,and_true,true_and,bad,hg_388,hg_389,hg_391]) ?cont24)
      simp only [go_sem,simprocAttr,false_implies,and_true,true_and,bad,hg_388,hg_389,hg_391]
      first | refine hW20 _ _ _ _ ?_ hcont20 | refine ⟨sL,hW20 _ _ _ _ ?_ hcont20⟩
      simp only [go_sem,simprocAttr,false_implies,and_true,true_and,bad,hg_388,hg_389,hg_391]
      try exact se3
    ·
     have hg_392:(!((!decide (r_382.2=0)) || (!decide ((List.drop ((IntKind.i64.wrap (r_380+1)).toNat) r_379.1)=r_386))))=false:=by revert hg_388; generalize decide ((List.drop ((IntKind.i64.wrap (r_380+1)).toNat) r_379.1)=r_386)=x0; generalize decide (r_382.2=0)=x1; revert x0 x1; decide
     simp only [go_sem,simprocAttr,false_implies,and_true,true_and,bad,hg_388,hg_392]
     try refine ⟨sL,?_⟩
     refine Dr.callF (av:=?av25) (g:=!(!decide (r_382.2=0))) (o:=?o25) (fun hg=>zdo (o2_2_360++(List.take r_380.toNat r_379.1)) _ (hr_386 hg)) (by simp only [go_sem,simprocAttr,false_implies,and_true,true_and,bad,hg_388,hg_392]; exact Is.mk) (by simp only [go_sem,simprocAttr,false_implies,and_true,true_and,bad,hg_388,hg_392]; exact Is.mk) (by simp only [go_sem,simprocAttr,false_implies,and_true,true_and,bad,hg_388,hg_392]; exact Is.mk) (by simp only [go_sem,simprocAttr,false_implies,and_true,true_and,bad,hg_388,hg_392]; exact Is.mk) (by simp only [go_sem,simprocAttr,false_implies,and_true,true_and,bad,hg_388,hg_392]) (by simp only [go_sem,simprocAttr,false_implies,and_true,true_and,bad,hg_388,hg_392]; exact Is.mk) ?cont25
     simp only [go_sem,simprocAttr,false_implies,and_true,true_and,bad,hg_388,hg_392]
     try refine ⟨sL,?_⟩
     obtain rfl:=hr_387d hg_392
     refine Dr.of_br (Br.skipG (o:=?o26) (v:=.top) (gw:=?gw26) (by simp only [go_sem,simprocAttr,false_implies,and_true,true_and,bad,hg_388,hg_392]; exact Is.mk) (by simp only [go_sem,simprocAttr,false_implies,and_true,true_and,bad,hg_388,hg_392]; exact Is.mk) (by simp only [go_sem,simprocAttr,false_implies,and_true,true_and,bad,hg_388,hg_392]; exact Is.mk) (by simp only [go_sem,simprocAttr,false_implies,and_true,true_and,bad,hg_388,hg_392]) ?cont26)
     simp only [go_sem,simprocAttr,false_implies,and_true,true_and,bad,hg_388,hg_392]
     first | refine hW20 _ _ _ _ ?_ hcont20 | refine ⟨sL,hW20 _ _ _ _ ?_ hcont20⟩
     simp only [go_sem,simprocAttr,false_implies,and_true,true_and,bad,hg_388,hg_392]
     try exact se3
   refine hK20 _ _ ?_
   refine cM hm (fun hc27 hm=>?_) (fun hc27 hm=>?_)
   ·refine Wp.exit ?_
    simp only [zk,zi,↓reduceIte]
    have hm:=hk_377 _ hm
    try dsimp only at hm
    refine hW8 _ _ _ _ ?_ (hcut8 (r_387.2.2.2.2.2,r_387.2.2.2.2.1,r_387.2.1,r_387.2.2.1,r_387.2.2.2.1) hm)
    exact zm
   ·refine Wp.skip ?_
    refine hK19 _ _ ?_
    refine qR ?_
    simp only [zk,zi,↓reduceIte]
    refine ⟨(r_379.2.1,r_387.2.2.2.2.2,r_387.2.2.2.2.1,r_387.2.1,r_387.2.2.1,r_387.2.2.2.1),hm,?_⟩
    exact zm
theorem zc2 (a_1:api_Record) (b_2:api_Record) (z:Int) (hm:zbs a_1 b_2=some z):Does Tryz.prog 49 [.agg [.p (.i .i64 a_1.Time),.p (.i .i64 a_1.Kind),.p (.s a_1.Pack),.p (.i .i64 a_1.From.Major),.p (.i .i64 a_1.From.Minor),.p (.i .i64 a_1.From.Patch),.p (.s a_1.From.Early),.p (.i .i64 a_1.To.Major),.p (.i .i64 a_1.To.Minor),.p (.i .i64 a_1.To.Patch),.p (.s a_1.To.Early),.p (.i .i64 a_1.Result),.p (.s a_1.Note)],.agg [.p (.i .i64 b_2.Time),.p (.i .i64 b_2.Kind),.p (.s b_2.Pack),.p (.i .i64 b_2.From.Major),.p (.i .i64 b_2.From.Minor),.p (.i .i64 b_2.From.Patch),.p (.s b_2.From.Early),.p (.i .i64 b_2.To.Major),.p (.i .i64 b_2.To.Minor),.p (.i .i64 b_2.To.Patch),.p (.s b_2.To.Early),.p (.i .i64 b_2.Result),.p (.s b_2.Note)]] [] (fun r X=>r=.p (.i .i64 z)∧X=[]):=by
 unfold zbs at hm
 refine dW 0 10 [.tmp 4] Tryz.func49 fun B=>?_
 refine qS ?_
 refine qS ?_
 refine Wp.ret ?_
 refine zc ?_
 cases hm
 exact zm
theorem zao (a_1:Int) (b_2:Int) (o0_3:List api_Record) (z:List api_Record) (hm:zo a_1 b_2 o0_3=some z):Does Tryz.prog 122 [.buf 0,.p (.i .i64 a_1),.p (.i .i64 b_2),.fn 49 []] [.fx 30 13 (List.map za o0_3)] (fun r X=>r=.tup []∧X=[.fx 30 13 (List.map za z)]):=by
 unfold zo at hm
 refine dW 1 53 [] Tryz.func122 fun B=>?_
 refine qS ?_
 refine Wp.block ?_
 obtain ⟨k_672,hk_672,hm⟩:=zF hm
 refine Wp.loopN (fun s=>[(0,.buf 0),(1,.p (.i .i64 a_1)),(2,.p (.i .i64 b_2)),(3,.fn 49 []),(8,.p (.i .i64 s.1))]) (fun s=>[.fx 30 13 (List.map za s.2)]) ?_ hm ?_
 ·
  exact zm
 clear hm
 intro s nx_673 hm
 obtain ⟨i_538,o0_539⟩:=s
 try dsimp only at hm
 try dsimp only
 refine Wp.seqW fun K2 hK2 hW2=>?_
 refine qS ?_
 refine cM hm (fun hc4 hm=>?_) (fun hc4 hm=>?_)
 ·refine Wp.skip ?_
  refine hK2 _ _ ?_
  refine Wp.seqW fun K5 hK5 hW5=>?_
  obtain ⟨k_740,hk_740,hm⟩:=zl hm
  have hcut5:∀ s,k_740 s=some z→K5 [(0,.buf 0),(1,.p (.i .i64 a_1)),(2,.p (.i .i64 b_2)),(3,.fn 49 []),(8,.p (.i .i64 i_538))] [.fx 30 13 (List.map za s)]:=by
   intro o0_739 hs
   have hm:=hk_740 _ hs
   clear hs
   try dsimp only at hm
   try dsimp only
   refine hK5 _ _ ?_
   refine qR ?_
   simp only [zk,zi,↓reduceIte]
   refine ⟨(IntKind.i64.wrap (i_538+1),o0_739),hm,?_⟩
   exact zm
  clear hK5 hk_740
  refine Wp.block ?_
  refine qS ?_
  refine Wp.block ?_
  obtain ⟨k_784,hk_784,hm⟩:=zF hm
  refine Wp.loopN (fun s=>[(0,.buf 0),(1,.p (.i .i64 a_1)),(2,.p (.i .i64 b_2)),(3,.fn 49 []),(8,.p (.i .i64 i_538)),(9,.p (.i .i64 s.1))]) (fun s=>[.fx 30 13 (List.map za s.2)]) ?_ hm ?_
  ·
   exact zm
  clear hm
  intro s nx_785 hm
  obtain ⟨j_762,o0_763⟩:=s
  try dsimp only at hm
  try dsimp only
  refine Wp.seqW fun K8 hK8 hW8=>?_
  obtain ⟨c_786,hm⟩:=zf hm
  obtain ⟨c_787,hm⟩:=zf hm
  obtain ⟨r_788,hr_788,hm⟩:=zR hm
  refine Wp.seqDW (plan:=pl [(0,none),(1,none),(2,none),(3,none),(4,none),(5,none),(6,none),(7,none),(8,none),(9,none),(10,none),(11,none),(12,none),(13,none),(14,none),(15,none),(16,none)]) (by kernel_rfl) rfl (by kernel_rfl) fun K9 hK9 hW9=>?_
  suffices hcont9:K9 [(0,.buf 0),(1,.p (.i .i64 a_1)),(2,.p (.i .i64 b_2)),(3,.fn 49 []),(8,.p (.i .i64 i_538)),(9,.p (.i .i64 j_762)),(34,.p (.b ((decide (a_1 < j_762)) && (decide (r_788 < 0)))))] [.fx 30 13 (List.map za o0_763)] by
   rcases Bool.eq_false_or_eq_true (decide (a_1 < j_762)) with hg_789 | hg_789
   ·
    have c_790:=c_786 hg_789
    try dsimp only at c_790
    have c_791:=c_787 hg_789
    try dsimp only at c_791
    have hr_792:=fun h=>zS (l:=o0_763) (e:=za) (d:=(api_Record.mk 0 0 [] (api_Version.mk 0 0 0 []) (api_Version.mk 0 0 0 []) 0 [])) (i:=j_762.toNat) h []
    have hr_793:=fun h=>zS (l:=o0_763) (e:=za) (d:=(api_Record.mk 0 0 [] (api_Version.mk 0 0 0 []) (api_Version.mk 0 0 0 []) 0 [])) (i:=(IntKind.i64.wrap (j_762 - 1)).toNat) h []
    simp only [go_sem,simprocAttr,false_implies,and_true,true_and,bad,hg_789,hr_792 (by omega),hr_793 (by omega)]
    try refine ⟨sL,?_⟩
    refine Dr.callF (av:=?av10) (g:=decide (a_1 < j_762)) (o:=?o10) (fun hg=>zc2 (o0_763.getD j_762.toNat (api_Record.mk 0 0 [] (api_Version.mk 0 0 0 []) (api_Version.mk 0 0 0 []) 0 [])) (o0_763.getD ((IntKind.i64.wrap (j_762 - 1)).toNat) (api_Record.mk 0 0 [] (api_Version.mk 0 0 0 []) (api_Version.mk 0 0 0 []) 0 [])) _ (hr_788 hg)) (by simp only [go_sem,simprocAttr,false_implies,and_true,true_and,bad,hg_789,hr_792 (by omega),hr_793 (by omega)]; exact Is.mk) (by simp only [go_sem,simprocAttr,false_implies,and_true,true_and,bad,hg_789,hr_792 (by omega),hr_793 (by omega)]; exact Is.mk) (by simp only [go_sem,simprocAttr,false_implies,and_true,true_and,bad,hg_789,hr_792 (by omega),hr_793 (by omega)]; exact Is.mk) (by simp only [go_sem,simprocAttr,false_implies,and_true,true_and,bad,hg_789,hr_792 (by omega),hr_793 (by omega)]; exact Is.mk) (by simp only [go_sem,simprocAttr,false_implies,and_true,true_and,bad,hg_789,hr_792 (by omega),hr_793 (by omega)]) (by simp only [go_sem,simprocAttr,false_implies,and_true,true_and,bad,hg_789,hr_792 (by omega),hr_793 (by omega)]; exact Is.mk) ?cont10
    simp only [go_sem,simprocAttr,false_implies,and_true,true_and,bad,hg_789,hr_792 (by omega),hr_793 (by omega)]
    first | refine hW9 _ _ _ _ ?_ hcont9 | refine ⟨sL,hW9 _ _ _ _ ?_ hcont9⟩
    simp only [go_sem,simprocAttr,false_implies,and_true,true_and,bad,hg_789,hr_792 (by omega),hr_793 (by omega)]
    try exact se3
   ·
    rcases Nat.lt_or_ge j_762.toNat o0_763.length with hi_794 | hi_794
    ·
     have hr_795:=zS (l:=o0_763) (e:=za) (d:=(api_Record.mk 0 0 [] (api_Version.mk 0 0 0 []) (api_Version.mk 0 0 0 []) 0 [])) (i:=j_762.toNat) hi_794 []
     rcases Nat.lt_or_ge ((IntKind.i64.wrap (j_762 - 1)).toNat) o0_763.length with hi_796 | hi_796
     ·
      have hr_797:=zS (l:=o0_763) (e:=za) (d:=(api_Record.mk 0 0 [] (api_Version.mk 0 0 0 []) (api_Version.mk 0 0 0 []) 0 [])) (i:=(IntKind.i64.wrap (j_762 - 1)).toNat) hi_796 []
      simp only [go_sem,simprocAttr,false_implies,and_true,true_and,bad,hg_789,hr_795,hr_797]
      try refine ⟨sL,?_⟩
      refine Dr.skipG (o:=?o11) (v:=.p (.i .i64 r_788)) (gw:=?gw11) (by simp only [go_sem,simprocAttr,false_implies,and_true,true_and,bad,hg_789,hr_795,hr_797]; exact Is.mk) (by simp only [go_sem,simprocAttr,false_implies,and_true,true_and,bad,hg_789,hr_795,hr_797]; exact Is.mk) (by simp only [go_sem,simprocAttr,false_implies,and_true,true_and,bad,hg_789,hr_795,hr_797]; exact Is.mk) (by simp only [go_sem,simprocAttr,false_implies,and_true,true_and,bad,hg_789,hr_795,hr_797]) ?cont11
      simp only [go_sem,simprocAttr,false_implies,and_true,true_and,bad,hg_789,hr_795,hr_797]
      first | refine hW9 _ _ _ _ ?_ hcont9 | refine ⟨sL,hW9 _ _ _ _ ?_ hcont9⟩
      simp only [go_sem,simprocAttr,false_implies,and_true,true_and,bad,hg_789,hr_795,hr_797]
      try exact se3
     ·
      have hr_797:(List.map za o0_763).getD ((IntKind.i64.wrap (j_762 - 1)).toNat) []=[]:=by rw [List.getD_eq_getElem?_getD,List.getElem?_eq_none (by simpa using hi_796)]; rfl
      simp only [go_sem,simprocAttr,false_implies,and_true,true_and,bad,hg_789,hr_795,hr_797]
      try refine ⟨sL,?_⟩
      refine Dr.skipG (o:=?o12) (v:=.p (.i .i64 r_788)) (gw:=?gw12) (by simp only [go_sem,simprocAttr,false_implies,and_true,true_and,bad,hg_789,hr_795,hr_797]; exact Is.mk) (by simp only [go_sem,simprocAttr,false_implies,and_true,true_and,bad,hg_789,hr_795,hr_797]; exact Is.mk) (by simp only [go_sem,simprocAttr,false_implies,and_true,true_and,bad,hg_789,hr_795,hr_797]; exact Is.mk) (by simp only [go_sem,simprocAttr,false_implies,and_true,true_and,bad,hg_789,hr_795,hr_797]) ?cont12
      simp only [go_sem,simprocAttr,false_implies,and_true,true_and,bad,hg_789,hr_795,hr_797]
      first | refine hW9 _ _ _ _ ?_ hcont9 | refine ⟨sL,hW9 _ _ _ _ ?_ hcont9⟩
      simp only [go_sem,simprocAttr,false_implies,and_true,true_and,bad,hg_789,hr_795,hr_797]
      try exact se3
    ·
     have hr_795:(List.map za o0_763).getD j_762.toNat []=[]:=by rw [List.getD_eq_getElem?_getD,List.getElem?_eq_none (by simpa using hi_794)]; rfl
     rcases Nat.lt_or_ge ((IntKind.i64.wrap (j_762 - 1)).toNat) o0_763.length with hi_798 | hi_798
     ·
      have hr_799:=zS (l:=o0_763) (e:=za) (d:=(api_Record.mk 0 0 [] (api_Version.mk 0 0 0 []) (api_Version.mk 0 0 0 []) 0 [])) (i:=(IntKind.i64.wrap (j_762 - 1)).toNat) hi_798 []
      simp only [go_sem,simprocAttr,false_implies,and_true,true_and,bad,hg_789,hr_795,hr_799]
      try refine ⟨sL,?_⟩
      refine Dr.skipG (o:=?o13) (v:=.p (.i .i64 r_788)) (gw:=?gw13) (by simp only [go_sem,simprocAttr,false_implies,and_true,true_and,bad,hg_789,hr_795,hr_799]; exact Is.mk) (by simp only [go_sem,simprocAttr,false_implies,and_true,true_and,bad,hg_789,hr_795,hr_799]; exact Is.mk) (by simp only [go_sem,simprocAttr,false_implies,and_true,true_and,bad,hg_789,hr_795,hr_799]; exact Is.mk) (by simp only [go_sem,simprocAttr,false_implies,and_true,true_and,bad,hg_789,hr_795,hr_799]) ?cont13
      simp only [go_sem,simprocAttr,false_implies,and_true,true_and,bad,hg_789,hr_795,hr_799]
      first | refine hW9 _ _ _ _ ?_ hcont9 | refine ⟨sL,hW9 _ _ _ _ ?_ hcont9⟩
      simp only [go_sem,simprocAttr,false_implies,and_true,true_and,bad,hg_789,hr_795,hr_799]
      try exact se3
     ·
      have hr_799:(List.map za o0_763).getD ((IntKind.i64.wrap (j_762 - 1)).toNat) []=[]:=by rw [List.getD_eq_getElem?_getD,List.getElem?_eq_none (by simpa using hi_798)]; rfl
      simp only [go_sem,simprocAttr,false_implies,and_true,true_and,bad,hg_789,hr_795,hr_799]
      try refine ⟨sL,?_⟩
      refine Dr.skipG (o:=?o14) (v:=.p (.i .i64 r_788)) (gw:=?gw14) (by simp only [go_sem,simprocAttr,false_implies,and_true,true_and,bad,hg_789,hr_795,hr_799]; exact Is.mk) (by simp only [go_sem,simprocAttr,false_implies,and_true,true_and,bad,hg_789,hr_795,hr_799]; exact Is.mk) (by simp only [go_sem,simprocAttr,false_implies,and_true,true_and,bad,hg_789,hr_795,hr_799]; exact Is.mk) (by simp only [go_sem,simprocAttr,false_implies,and_true,true_and,bad,hg_789,hr_795,hr_799]) ?cont14
      simp only [go_sem,simprocAttr,false_implies,and_true,true_and,bad,hg_789,hr_795,hr_799]
      first | refine hW9 _ _ _ _ ?_ hcont9 | refine ⟨sL,hW9 _ _ _ _ ?_ hcont9⟩
      simp only [go_sem,simprocAttr,false_implies,and_true,true_and,bad,hg_789,hr_795,hr_799]
      try exact se3
  refine hK9 _ _ ?_
  refine cM hm (fun hc15 hm=>?_) (fun hc15 hm=>?_)
  ·refine Wp.skip ?_
   refine hK8 _ _ ?_
   refine Wp.seqW fun K16 hK16 hW16=>?_
   refine Wp.block ?_
   obtain ⟨c_800,hm⟩:=zf hm
   obtain ⟨c_801,hm⟩:=zf hm
   obtain ⟨c_802,hm⟩:=zf hm
   obtain ⟨c_803,hm⟩:=zf hm
   have hr_804:=fun h=>zS (l:=o0_763) (e:=za) (d:=(api_Record.mk 0 0 [] (api_Version.mk 0 0 0 []) (api_Version.mk 0 0 0 []) 0 [])) (i:=(IntKind.i64.wrap (j_762 - 1)).toNat) h []
   have hr_805:=fun h=>zS (l:=o0_763) (e:=za) (d:=(api_Record.mk 0 0 [] (api_Version.mk 0 0 0 []) (api_Version.mk 0 0 0 []) 0 [])) (i:=j_762.toNat) h []
   refine Wp.regD (plan:=pl [(0,none),(1,none),(2,none),(3,none),(4,none),(5,none),(6,none),(7,none),(8,none),(9,none),(10,none),(11,none),(12,none),(13,none),(14,none),(15,some [2,3,4]),(16,none),(17,some [])]) (by kernel_rfl) rfl (by kernel_rfl) fun K17 hK17=>?_
   simp only [go_sem,simprocAttr,hr_804 (by omega),hr_805 (by omega)]
   refine kA hK17 ?_
   refine hK16 _ _ ?_
   refine qR ?_
   simp only [zk,zi,↓reduceIte]
   refine ⟨(IntKind.i64.wrap (j_762 - 1),List.set (List.set o0_763 j_762.toNat (o0_763.getD ((IntKind.i64.wrap (j_762 - 1)).toNat) (api_Record.mk 0 0 [] (api_Version.mk 0 0 0 []) (api_Version.mk 0 0 0 []) 0 []))) ((IntKind.i64.wrap (j_762 - 1)).toNat) (o0_763.getD j_762.toNat (api_Record.mk 0 0 [] (api_Version.mk 0 0 0 []) (api_Version.mk 0 0 0 []) 0 []))),hm,?_⟩
   exact zm
  ·refine Wp.exit ?_
   simp only [zk,zi,↓reduceIte]
   have hm:=hk_784 _ hm
   try dsimp only at hm
   refine hW5 _ _ _ _ ?_ (hcut5 o0_763 hm)
   exact zm
 ·refine Wp.exit ?_
  simp only [zk,zi,↓reduceIte]
  have hm:=hk_672 _ hm
  try dsimp only at hm
  refine zaJ ?_
  cases hm
  exact zm
theorem z7 (a_1:Int) (b_2:Int) (n_3:Int) (o0_4:List api_Record) (z:List api_Record) (hm:zn a_1 b_2 n_3 o0_4=some z):Does Tryz.prog 184 [.buf 0,.p (.i .i64 a_1),.p (.i .i64 b_2),.p (.i .i64 n_3),.fn 49 []] [.fx 30 13 (List.map za o0_4)] (fun r X=>r=.tup []∧X=[.fx 30 13 (List.map za z)]):=by
 unfold zn at hm
 refine dW 1 38 [] Tryz.func184 fun B=>?_
 refine qS ?_
 refine Wp.block ?_
 obtain ⟨k_43,hk_43,hm⟩:=zF hm
 refine Wp.loopN (fun s=>[(0,.buf 0),(1,.p (.i .i64 a_1)),(2,.p (.i .i64 b_2)),(3,.p (.i .i64 n_3)),(10,.p (.i .i64 s.1))]) (fun s=>[.fx 30 13 (List.map za s.2)]) ?_ hm ?_
 ·
  exact zm
 clear hm
 intro s nx_44 hm
 obtain ⟨i_35,o0_36⟩:=s
 try dsimp only at hm
 try dsimp only
 refine Wp.seqW fun K2 hK2 hW2=>?_
 refine qS ?_
 refine cM hm (fun hc4 hm=>?_) (fun hc4 hm=>?_)
 ·refine Wp.skip ?_
  refine hK2 _ _ ?_
  refine Wp.seqW fun K5 hK5 hW5=>?_
  refine Wp.block ?_
  obtain ⟨c_45,hm⟩:=zf hm
  obtain ⟨c_46,hm⟩:=zf hm
  obtain ⟨c_47,hm⟩:=zf hm
  obtain ⟨c_48,hm⟩:=zf hm
  have hr_49:=fun h=>zS (l:=o0_36) (e:=za) (d:=(api_Record.mk 0 0 [] (api_Version.mk 0 0 0 []) (api_Version.mk 0 0 0 []) 0 [])) (i:=(IntKind.i64.wrap (b_2+i_35)).toNat) h []
  have hr_50:=fun h=>zS (l:=o0_36) (e:=za) (d:=(api_Record.mk 0 0 [] (api_Version.mk 0 0 0 []) (api_Version.mk 0 0 0 []) 0 [])) (i:=(IntKind.i64.wrap (a_1+i_35)).toNat) h []
  refine Wp.regD (plan:=pl [(0,none),(1,none),(2,none),(3,none),(4,none),(5,none),(6,none),(7,none),(8,none),(9,none),(10,none),(11,none),(12,none),(13,none),(14,none),(15,none),(16,none),(17,none),(18,none),(19,none),(20,none),(21,some [4,5,6,7]),(22,none),(23,some [])]) (by kernel_rfl) rfl (by kernel_rfl) fun K6 hK6=>?_
  simp only [go_sem,simprocAttr,hr_49 (by omega),hr_50 (by omega)]
  refine kA hK6 ?_
  refine hK5 _ _ ?_
  refine qR ?_
  simp only [zk,zi,↓reduceIte]
  refine ⟨(IntKind.i64.wrap (i_35+1),List.set (List.set o0_36 ((IntKind.i64.wrap (a_1+i_35)).toNat) (o0_36.getD ((IntKind.i64.wrap (b_2+i_35)).toNat) (api_Record.mk 0 0 [] (api_Version.mk 0 0 0 []) (api_Version.mk 0 0 0 []) 0 []))) ((IntKind.i64.wrap (b_2+i_35)).toNat) (o0_36.getD ((IntKind.i64.wrap (a_1+i_35)).toNat) (api_Record.mk 0 0 [] (api_Version.mk 0 0 0 []) (api_Version.mk 0 0 0 []) 0 []))),hm,?_⟩
  exact zm
 ·refine Wp.exit ?_
  simp only [zk,zi,↓reduceIte]
  have hm:=hk_43 _ hm
  try dsimp only at hm
  refine zaJ ?_
  cases hm
  exact zm
theorem zbV (a_1:Int) (m_2:Int) (b_3:Int) (o0_4:List api_Record) (z:List api_Record) (hm:zK a_1 m_2 b_3 o0_4=some z):Does Tryz.prog 164 [.buf 0,.p (.i .i64 a_1),.p (.i .i64 m_2),.p (.i .i64 b_3),.fn 49 []] [.fx 30 13 (List.map za o0_4)] (fun r X=>r=.tup []∧X=[.fx 30 13 (List.map za z)]):=by
 unfold zK at hm
 refine dW 1 58 [] Tryz.func164 fun B=>?_
 refine qS ?_
 refine qS ?_
 refine Wp.seqW fun K3 hK3 hW3=>?_
 obtain ⟨k_50,hk_50,hm⟩:=zl hm
 have hcut3:∀ s,k_50 s=some z→K3 [(0,.buf 0),(2,.p (.i .i64 m_2)),(4,.fn 49 []),(10,.p (.i .i64 s.1))] [.fx 30 13 (List.map za s.2)]:=by
  intro s hs
  have hm:=hk_50 _ hs
  clear hs
  obtain ⟨i_48,o0_49⟩:=s
  try dsimp only at hm
  try dsimp only
  refine hK3 _ _ ?_
  obtain ⟨r_51,hr_51,hm⟩:=zb hm
  refine Wp.region fun K4 hK4=>?_
  simp only [go_sem,simprocAttr]
  try refine ⟨sd,?_⟩
  refine Rg.callO (av:=?av5) [0] (z7 (IntKind.i64.wrap (m_2 - i_48)) m_2 i_48 o0_49 _ hr_51) si si si sg sg ?cont5
  rintro _ _ ⟨rfl,rfl⟩ hv5
  simp only [go_sem,simprocAttr]
  refine kA hK4 ?_
  refine zaJ ?_
  cases hm
  exact zm
 clear hK3 hk_50
 refine Wp.block ?_
 obtain ⟨k_61,hk_61,hm⟩:=zF hm
 refine Wp.loopN (fun s=>[(0,.buf 0),(2,.p (.i .i64 m_2)),(4,.fn 49 []),(10,.p (.i .i64 s.1)),(11,.p (.i .i64 s.2.1))]) (fun s=>[.fx 30 13 (List.map za s.2.2)]) ?_ hm ?_
 ·
  exact zm
 clear hm
 intro s nx_62 hm
 obtain ⟨i_56,j_57,o0_58⟩:=s
 try dsimp only at hm
 try dsimp only
 refine Wp.seqW fun K6 hK6 hW6=>?_
 refine qS ?_
 refine cM hm (fun hc8 hm=>?_) (fun hc8 hm=>?_)
 ·refine Wp.skip ?_
  refine hK6 _ _ ?_
  refine Wp.block ?_
  refine qS ?_
  refine cM hm (fun hc10 hm=>?_) (fun hc10 hm=>?_)
  ·obtain ⟨r_63,hr_63,hm⟩:=zb hm
   refine Wp.seqR fun K11 hK11=>?_
   simp only [go_sem,simprocAttr]
   try refine ⟨sd,?_⟩
   refine Rg.callO (av:=?av12) [0] (z7 (IntKind.i64.wrap (m_2 - i_56)) m_2 j_57 o0_58 _ hr_63) si si si sg sg ?cont12
   rintro _ _ ⟨rfl,rfl⟩ hv12
   simp only [go_sem,simprocAttr]
   refine kA hK11 ?_
   refine qR ?_
   simp only [zk,zi,↓reduceIte]
   refine ⟨(IntKind.i64.wrap (i_56 - j_57),j_57,r_63),hm,?_⟩
   exact zm
  ·obtain ⟨r_64,hr_64,hm⟩:=zb hm
   refine Wp.seqR fun K14 hK14=>?_
   simp only [go_sem,simprocAttr]
   try refine ⟨sd,?_⟩
   refine Rg.callO (av:=?av15) [0] (z7 (IntKind.i64.wrap (m_2 - i_56)) (IntKind.i64.wrap ((IntKind.i64.wrap (m_2+j_57)) - i_56)) i_56 o0_58 _ hr_64) si si si sg sg ?cont15
   rintro _ _ ⟨rfl,rfl⟩ hv15
   simp only [go_sem,simprocAttr]
   refine kA hK14 ?_
   refine qR ?_
   simp only [zk,zi,↓reduceIte]
   refine ⟨(i_56,IntKind.i64.wrap (j_57 - i_56),r_64),hm,?_⟩
   exact zm
 ·refine Wp.exit ?_
  simp only [zk,zi,↓reduceIte]
  have hm:=hk_61 _ hm
  try dsimp only at hm
  refine hW3 _ _ _ _ ?_ (hcut3 (i_56,o0_58) hm)
  exact zm
end Go.Proofs.YtmnohdgjkcjdeaaGreatDoor
