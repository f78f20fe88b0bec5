/- That the code does what the models say (part 5). -/
import Derived.Test.YtkekfenkeeiigaaDoorTdWk0
import Derived.Test.YtkekfenkeeiigaaDoorTdWk4
set_option linter.unusedSimpArgs false
set_option linter.unusedVariables false
namespace Go.Proofs.YtkekfenkeeiigaaDoor
open Go.Vc Go.Md
set_option maxRecDepth 100000
set_option maxHeartbeats 4000000
theorem ok_cmp_Or_int (vals_1:List Int) (z:Int) (hm:cmp_Or_int vals_1=some z):Does Tryd.prog 108 [.p (.l (List.map ecI_i64 vals_1))] [] (fun r X=>r=.p (.i .i64 z)∧X=[]):=by
 unfold cmp_Or_int at hm
 refine Does.of_wp 0 18 [.tmp 2] Tryd.func108 rfl (by decide) rfl rfl (Nat.le_of_ble_eq_true rfl) fun B=>?_
 refine qS ?_
 refine qS ?_
 refine Wp.seqW fun K3 hK3 hW3=>?_
 obtain ⟨k_9,hk_9,hm⟩:=jp_elim hm
 have hcut3:∀ s,k_9 s=some z→K3 [(3,.p (.i .i64 0))] []:=by
  intro s hs
  have hm:=hk_9 _ hs
  clear hs
  try dsimp only at hm
  try dsimp only
  refine hK3 _ _ ?_
  refine qS ?_
  refine Wp.ret ?_
  refine retQ_ret ?_
  cases hm
  exact fse5
 clear hK3 hk_9
 refine qS ?_
 refine Wp.block ?_
 obtain ⟨k_12,hk_12,hm⟩:=forL_cont hm
 refine Wp.fact 6 fun hl_15=>?_
 replace hl_15:vals_1.length≤274877906944:=by
  simp only [go_sem,simprocAttr,List.length_map] at hl_15
  omega
 refine Wp.forL (fun i_14 s=>[(3,.p (.i .i64 0)),(6,.p (.l (List.map ecI_i64 vals_1))),(7,.p (.i .i64 (vals_1.length:Int))),(8,.p (.i .i64 (i_14:Int)))]) (fun i_14 s=>[]) ?_ hm ?_
 ·
  exact fse5
 clear hm
 intro i_14 s hii_14 hm
 try dsimp only at hm
 try dsimp only
 refine qS ?_
 refine Wp.seqW fun K7 hK7 hW7=>?_
 refine Wp.cond rfl ⟨⟩ (fun hc7=>?_) (fun hc7=>?_)
 rotate_left
 ·refine Wp.exit ?_
  have hm:=hk_12 _ (forL_end hm (ge_nat (by first | exact hc7 | simpa using hc7)))
  try dsimp only at hm
  refine hW3 _ _ _ _ ?_ (hcut3 () hm)
  exact fse5
 have hlt7:=lt_nat (by first | exact hc7 | simpa using hc7)
 have hw7:=wrap_succ hlt7 hl_15
 obtain ⟨n_16,nx_13,hxn_16,hyn_16,hnx_13,hm⟩:=forL_step hm hlt7
 replace hxn_16:=hxn_16 ecI_i64
 refine Wp.skip ?_
 simp only [thenQ]
 refine hK7 _ _ ?_
 refine Wp.seqW fun K8 hK8 hW8=>?_
 refine Wp.block ?_
 refine Wp.seqR fun K9 hK9=>?_
 simp only [go_sem,simprocAttr,hw7,hxn_16]
 first | apply hK9 | refine ⟨sd,hK9 _ _ ?_⟩
 refine Wp.seqR fun K10 hK10=>?_
 simp only [go_sem,simprocAttr,hw7,hxn_16]
 first | apply hK10 | refine ⟨sd,hK10 _ _ ?_⟩
 refine cM hm (fun hc11 hm=>?_) (fun hc11 hm=>?_)
 ·refine Wp.seqR fun K12 hK12=>?_
  simp only [go_sem,simprocAttr,hw7,hxn_16]
  first | apply hK12 | refine ⟨sd,hK12 _ _ ?_⟩
  refine Wp.ret ?_
  refine retQ_ret ?_
  cases hm
  simp only [go_sem,simprocAttr,hw7,hxn_16]
  try exact se5
 ·refine Wp.skip ?_
  refine hK8 _ _ ?_
  refine Wp.region fun K13 hK13=>?_
  simp only [go_sem,simprocAttr,hw7,hxn_16]
  first | apply hK13 | refine ⟨sd,hK13 _ _ ?_⟩
  simp only [thenQ,blockQ,↓reduceIte]
  refine ⟨(),hlt7,hnx_13 _ hm,?_⟩
  simp only [go_sem,simprocAttr,hw7,hxn_16]
  try exact se5
theorem ok_delta_compareRoutes (a_1:delta_route) (b_2:delta_route) (z:Int) (hm:delta_compareRoutes a_1 b_2=some z):Does Tryd.prog 76 [.agg [.p (.i .i64 a_1.cost),.p (.l (List.map ecI_i64 a_1.list)),.p (.b a_1.done),.p (.b a_1.any)],.agg [.p (.i .i64 b_2.cost),.p (.l (List.map ecI_i64 b_2.list)),.p (.b b_2.done),.p (.b b_2.any)]] [] (fun r X=>r=.p (.i .i64 z)∧X=[]):=by
 unfold delta_compareRoutes at hm
 refine Does.of_wp 0 24 [.tmp 4] Tryd.func76 rfl (by decide) rfl rfl (Nat.le_of_ble_eq_true rfl) fun B=>?_
 refine qS ?_
 obtain ⟨r_3,hr_3,hm⟩:=call_elim hm
 obtain ⟨r_4,hr_4,hm⟩:=call_elim hm
 obtain ⟨r_5,hr_5,hm⟩:=call_elim hm
 obtain ⟨r_6,hr_6,hm⟩:=call_elim hm
 refine Wp.seqD (plan:=pl [(0,none),(1,none),(2,none),(3,none),(4,none),(5,none),(6,none),(7,none),(8,none),(9,none),(10,none),(11,none),(12,none),(13,none),(14,none),(15,none),(16,none),(17,some []),(18,none),(19,none)]) (by kernel_rfl) rfl (by kernel_rfl) fun K2 hK2=>?_
 simp only [go_sem,simprocAttr]
 try refine ⟨sd,?_⟩
 refine Dr.callF (av:=?av3) (g:=true) (o:=?o3) (fun hg=>ok_cmp_Compare_int a_1.cost b_2.cost _ hr_3) si si si si sg si ?cont3
 simp only [go_sem,simprocAttr]
 try refine ⟨sd,?_⟩
 refine Dr.callF (av:=?av4) (g:=true) (o:=?o4) (fun hg=>ok_cmp_Compare_int (a_1.list.length:Int) (b_2.list.length:Int) _ hr_4) si si si si sg si ?cont4
 simp only [go_sem,simprocAttr]
 try refine ⟨sd,?_⟩
 refine Dr.callF (av:=?av5) (g:=true) (o:=?o5) (fun hg=>ok_slices_Compare_int_int a_1.list b_2.list _ hr_5) si si si si sg si ?cont5
 simp only [go_sem,simprocAttr]
 try refine ⟨sd,?_⟩
 refine Dr.callF (av:=?av6) (g:=true) (o:=?o6) (fun hg=>ok_cmp_Or_int [r_3,r_4,r_5] _ hr_6) si si si si sg si ?cont6
 simp only [go_sem,simprocAttr]
 first | apply hK2 | refine ⟨sd,hK2 _ _ ?_⟩
 refine Wp.ret ?_
 refine retQ_ret ?_
 cases hm
 exact fse5
theorem ok_delta_Best_1_i1 (v_1:Int) (r_2:delta_route) (o1_3:List delta_route) (z:List delta_route) (hm:delta_Best_1_i1 v_1 r_2 o1_3=some z):Does Tryd.prog 75 [.p (.i .i64 v_1),.agg [.p (.i .i64 r_2.cost),.p (.l (List.map ecI_i64 r_2.list)),.p (.b r_2.done),.p (.b r_2.any)],.ptr 0 0] [.cells 113 [.buf 1],.buf 115 4 (List.map enc_delta_route o1_3)] (fun r X=>r=.tup []∧X=[.cells 113 [.buf 1],.buf 115 4 (List.map enc_delta_route z)]):=by
 unfold delta_Best_1_i1 at hm
 refine Does.of_wp 2 24 [] Tryd.func75 rfl (by decide) rfl rfl (Nat.le_of_ble_eq_true rfl) fun B=>?_
 refine qS ?_
 obtain ⟨c_14,hm⟩:=chk_elim hm
 obtain ⟨c_15,hm⟩:=chk_elim hm
 obtain ⟨r_16,hr_16,hm⟩:=callG_elim hm
 refine Wp.seqDW (plan:=pl [(0,none),(1,none),(2,none),(3,none),(4,none),(5,none),(6,none),(7,none),(8,none),(9,none),(10,none),(11,none),(12,none),(13,none),(14,none)]) (by kernel_rfl) rfl (by kernel_rfl) fun K2 hK2 hW2=>?_
 suffices hcont2:K2 [(0,.p (.i .i64 v_1)),(1,.agg [.p (.i .i64 r_2.cost),.p (.l (List.map ecI_i64 r_2.list)),.p (.b r_2.done),.p (.b r_2.any)]),(2,.ptr 0 0),(4,.ptr 2 0),(19,.p (.b ((!((o1_3.getD v_1.toNat (delta_route.mk 0 [] false false)).any)) || (decide (r_16 < 0)))))] [.cells 113 [.buf 1],.buf 115 4 (List.map enc_delta_route o1_3),.cells 115 [.p (.i .i64 r_2.cost),.p (.l (List.map ecI_i64 r_2.list)),.p (.b r_2.done),.p (.b r_2.any)]] by
  rcases Bool.eq_false_or_eq_true ((o1_3.getD v_1.toNat (delta_route.mk 0 [] false false)).any) with hg_17 | hg_17
  ·
   have hg_18:(!(!((o1_3.getD v_1.toNat (delta_route.mk 0 [] false false)).any)))=true:=by revert hg_17; generalize (o1_3.getD v_1.toNat (delta_route.mk 0 [] false false)).any=x0; revert x0; decide
   have c_19:=c_15 hg_18
   try dsimp only at c_19
   have hr_20:=fun h=>getD_encB (l:=o1_3) (e:=enc_delta_route) (d:=(delta_route.mk 0 [] false false)) (i:=v_1.toNat) h []
   simp only [go_sem,simprocAttr,false_implies,and_true,true_and,bad,hg_17,hg_18,hr_20 (by omega)]
   try refine ⟨by first | exact sd | ((repeat' apply And.intro) <;> first | assumption | omega | (simp only [List.length_append,List.length_map,List.length_cons,List.length_nil,List.length_set,List.length_replicate] at c_14 c_15 c_19 ⊢; omega)),?_⟩
   refine Dr.callF (av:=?av3) (g:=!(!((o1_3.getD v_1.toNat (delta_route.mk 0 [] false false)).any))) (o:=?o3) (fun hg=>ok_delta_compareRoutes r_2 (delta_route.mk ((o1_3.getD v_1.toNat (delta_route.mk 0 [] false false)).cost) ((o1_3.getD v_1.toNat (delta_route.mk 0 [] false false)).list) ((o1_3.getD v_1.toNat (delta_route.mk 0 [] false false)).done) ((o1_3.getD v_1.toNat (delta_route.mk 0 [] false false)).any)) _ (hr_16 hg)) (by simp only [go_sem,simprocAttr,false_implies,and_true,true_and,bad,hg_17,hg_18,hr_20 (by omega)]; exact Is.mk) (by simp only [go_sem,simprocAttr,false_implies,and_true,true_and,bad,hg_17,hg_18,hr_20 (by omega)]; exact Is.mk) (by simp only [go_sem,simprocAttr,false_implies,and_true,true_and,bad,hg_17,hg_18,hr_20 (by omega)]; exact Is.mk) (by simp only [go_sem,simprocAttr,false_implies,and_true,true_and,bad,hg_17,hg_18,hr_20 (by omega)]; exact Is.mk) (by simp only [go_sem,simprocAttr,false_implies,and_true,true_and,bad,hg_17,hg_18,hr_20 (by omega)]) (by simp only [go_sem,simprocAttr,false_implies,and_true,true_and,bad,hg_17,hg_18,hr_20 (by omega)]; exact Is.mk) ?cont3
   simp only [go_sem,simprocAttr,false_implies,and_true,true_and,bad,hg_17,hg_18,hr_20 (by omega)]
   first | refine hW2 _ _ _ _ ?_ hcont2 | refine ⟨by first | exact sd | ((repeat' apply And.intro) <;> first | assumption | omega | (simp only [List.length_append,List.length_map,List.length_cons,List.length_nil,List.length_set,List.length_replicate] at c_14 c_15 c_19 ⊢; omega)),hW2 _ _ _ _ ?_ hcont2⟩
   simp only [go_sem,simprocAttr,false_implies,and_true,true_and,bad,hg_17,hg_18,hr_20 (by omega)]
   try exact se5
  ·
   have hg_21:(!(!((o1_3.getD v_1.toNat (delta_route.mk 0 [] false false)).any)))=false:=by revert hg_17; generalize (o1_3.getD v_1.toNat (delta_route.mk 0 [] false false)).any=x0; revert x0; decide
   have hr_22:=fun h=>getD_encB (l:=o1_3) (e:=enc_delta_route) (d:=(delta_route.mk 0 [] false false)) (i:=v_1.toNat) h []
   simp only [go_sem,simprocAttr,false_implies,and_true,true_and,bad,hg_17,hg_21,hr_22 (by omega)]
   try refine ⟨by first | exact sd | ((repeat' apply And.intro) <;> first | assumption | omega | (simp only [List.length_append,List.length_map,List.length_cons,List.length_nil,List.length_set,List.length_replicate] at c_14 c_15 ⊢; omega)),?_⟩
   refine Dr.skipG (o:=?o4) (v:=.p (.i .i64 r_16)) (gw:=?gw4) (by simp only [go_sem,simprocAttr,false_implies,and_true,true_and,bad,hg_17,hg_21,hr_22 (by omega)]; exact Is.mk) (by simp only [go_sem,simprocAttr,false_implies,and_true,true_and,bad,hg_17,hg_21,hr_22 (by omega)]; exact Is.mk) (by simp only [go_sem,simprocAttr,false_implies,and_true,true_and,bad,hg_17,hg_21,hr_22 (by omega)]; exact Is.mk) (by simp only [go_sem,simprocAttr,false_implies,and_true,true_and,bad,hg_17,hg_21,hr_22 (by omega)]) ?cont4
   simp only [go_sem,simprocAttr,false_implies,and_true,true_and,bad,hg_17,hg_21,hr_22 (by omega)]
   first | refine hW2 _ _ _ _ ?_ hcont2 | refine ⟨by first | exact sd | ((repeat' apply And.intro) <;> first | assumption | omega | (simp only [List.length_append,List.length_map,List.length_cons,List.length_nil,List.length_set,List.length_replicate] at c_14 c_15 ⊢; omega)),hW2 _ _ _ _ ?_ hcont2⟩
   simp only [go_sem,simprocAttr,false_implies,and_true,true_and,bad,hg_17,hg_21,hr_22 (by omega)]
   try exact se5
 refine hK2 _ _ ?_
 refine cM hm (fun hc5 hm=>?_) (fun hc5 hm=>?_)
 ·obtain ⟨c_23,hm⟩:=chk_elim hm
  refine Wp.region fun K6 hK6=>?_
  simp only [go_sem,simprocAttr]
  first | apply hK6 | refine ⟨by first | exact sd | ((repeat' apply And.intro) <;> first | assumption | omega | (simp only [List.length_append,List.length_map,List.length_cons,List.length_nil,List.length_set,List.length_replicate] at c_23 ⊢; omega)),hK6 _ _ ?_⟩
  refine retQ_normal ?_
  cases hm
  exact fse5
 ·refine Wp.skip ?_
  refine retQ_normal ?_
  cases hm
  exact fse5
theorem ok_delta_Best_2_1_i1 (v_1:Int) (cost_2:Int) (o0_0_3:Int) (o2_4:List delta_route) (o4_0_5:Int) (o4_1_6:List Int) (o4_2_7:Bool) (o4_3_8:Bool) (z:List delta_route) (hm:delta_Best_2_1_i1 v_1 cost_2 o0_0_3 o2_4 o4_0_5 o4_1_6 o4_2_7 o4_3_8=some z):Does Tryd.prog 78 [.p (.i .i64 v_1),.p (.i .i64 cost_2),.ptr 0 0,.ptr 1 0,.ptr 3 0,.ptr 4 0] [.cells 3 [.p (.i .i64 o0_0_3)],.cells 113 [.buf 2],.buf 115 4 (List.map enc_delta_route o2_4),.cells 117 [.fn 75 [.ptr 1 0]],.cells 115 [.p (.i .i64 o4_0_5),.p (.l (List.map ecI_i64 o4_1_6)),.p (.b o4_2_7),.p (.b o4_3_8)]] (fun r X=>r=.tup []∧X=[.cells 3 [.p (.i .i64 o0_0_3)],.cells 113 [.buf 2],.buf 115 4 (List.map enc_delta_route z),.cells 117 [.fn 75 [.ptr 1 0]],.cells 115 [.p (.i .i64 o4_0_5),.p (.l (List.map ecI_i64 o4_1_6)),.p (.b o4_2_7),.p (.b o4_3_8)]]):=by
 unfold delta_Best_2_1_i1 at hm
 refine Does.of_wp 5 39 [] Tryd.func78 rfl (by decide) rfl rfl (Nat.le_of_ble_eq_true rfl) fun B=>?_
 obtain ⟨c_23,hm⟩:=chk_elim hm
 refine Wp.seqRW fun K1 hK1 hW1=>?_
 suffices hcont1:K1 [(0,.p (.i .i64 v_1)),(1,.p (.i .i64 cost_2)),(4,.ptr 3 0),(5,.ptr 4 0),(18,.p (.b ((!decide (v_1=o0_0_3)) && (!((o2_4.getD v_1.toNat (delta_route.mk 0 [] false false)).done)))))] [.cells 3 [.p (.i .i64 o0_0_3)],.cells 113 [.buf 2],.buf 115 4 (List.map enc_delta_route o2_4),.cells 117 [.fn 75 [.ptr 1 0]],.cells 115 [.p (.i .i64 o4_0_5),.p (.l (List.map ecI_i64 o4_1_6)),.p (.b o4_2_7),.p (.b o4_3_8)]] by
  rcases Bool.eq_false_or_eq_true (decide (v_1=o0_0_3)) with hg_24 | hg_24
  ·
   have hg_25:(!decide (v_1=o0_0_3))=false:=by revert hg_24; generalize decide (v_1=o0_0_3)=x0; revert x0; decide
   rcases Nat.lt_or_ge v_1.toNat o2_4.length with hi_26 | hi_26
   ·
    have hr_27:=getD_encB (l:=o2_4) (e:=enc_delta_route) (d:=(delta_route.mk 0 [] false false)) (i:=v_1.toNat) hi_26 []
    simp only [go_sem,simprocAttr,false_implies,and_true,true_and,bad,hg_24,hg_25,hr_27]
    first | refine hW1 _ _ _ _ ?_ hcont1 | refine ⟨by first | exact sd | ((repeat' apply And.intro) <;> first | assumption | omega | (simp only [List.length_append,List.length_map,List.length_cons,List.length_nil,List.length_set,List.length_replicate] at c_23 ⊢; omega)),hW1 _ _ _ _ ?_ hcont1⟩
    simp only [go_sem,simprocAttr,false_implies,and_true,true_and,bad,hg_24,hg_25,hr_27]
    try exact se5
   ·
    have hr_27:(List.map enc_delta_route o2_4).getD v_1.toNat []=[]:=by rw [List.getD_eq_getElem?_getD,List.getElem?_eq_none (by simpa using hi_26)]; rfl
    simp only [go_sem,simprocAttr,false_implies,and_true,true_and,bad,hg_24,hg_25,hr_27]
    first | refine hW1 _ _ _ _ ?_ hcont1 | refine ⟨by first | exact sd | ((repeat' apply And.intro) <;> first | assumption | omega | (simp only [List.length_append,List.length_map,List.length_cons,List.length_nil,List.length_set,List.length_replicate] at c_23 ⊢; omega)),hW1 _ _ _ _ ?_ hcont1⟩
    simp only [go_sem,simprocAttr,false_implies,and_true,true_and,bad,hg_24,hg_25,hr_27]
    try exact se5
  ·
   have hg_28:(!decide (v_1=o0_0_3))=true:=by revert hg_24; generalize decide (v_1=o0_0_3)=x0; revert x0; decide
   have c_29:=c_23 hg_28
   try dsimp only at c_29
   have hr_30:=fun h=>getD_encB (l:=o2_4) (e:=enc_delta_route) (d:=(delta_route.mk 0 [] false false)) (i:=v_1.toNat) h []
   simp only [go_sem,simprocAttr,false_implies,and_true,true_and,bad,hg_24,hg_28,hr_30 (by omega)]
   first | refine hW1 _ _ _ _ ?_ hcont1 | refine ⟨by first | exact sd | ((repeat' apply And.intro) <;> first | assumption | omega | (simp only [List.length_append,List.length_map,List.length_cons,List.length_nil,List.length_set,List.length_replicate] at c_23 c_29 ⊢; omega)),hW1 _ _ _ _ ?_ hcont1⟩
   simp only [go_sem,simprocAttr,false_implies,and_true,true_and,bad,hg_24,hg_28,hr_30 (by omega)]
   try exact se5
 refine hK1 _ _ ?_
 refine cM hm (fun hc2 hm=>?_) (fun hc2 hm=>?_)
 ·obtain ⟨c_31,hm⟩:=chk_elim hm
  obtain ⟨c_32,hm⟩:=chk_elim hm
  obtain ⟨r_33,hr_33,hm⟩:=call_elim hm
  refine Wp.regD (plan:=pl [(0,none),(1,none),(2,none),(3,none),(4,none),(5,none),(6,none),(7,none),(8,none),(9,none),(10,none),(11,none),(12,none),(13,none),(14,none),(15,none),(16,some [0,1,2,3,4,5,6,7,8,9,10,11,12,13,14]),(17,some [0,1,2,3,4,5]),(18,none),(19,some [])]) (by kernel_rfl) rfl (by kernel_rfl) fun K3 hK3=>?_
  simp only [go_sem,simprocAttr]
  try refine ⟨by first | exact sd | ((repeat' apply And.intro) <;> first | assumption | omega | (simp only [List.length_append,List.length_map,List.length_cons,List.length_nil,List.length_set,List.length_replicate] at c_31 c_32 ⊢; omega)),?_⟩
  refine Dr.of_br (Br.callS (av:=?av4) (o:=?o4) 2 [1,2] (ok_delta_Best_1_i1 v_1 (delta_route.mk (IntKind.i64.wrap (o4_0_5+cost_2)) ((List.take o4_1_6.length o4_1_6)++[v_1]) false true) o2_4 _ hr_33) si si si si si sg sg sg sg ?cont4)
  simp only [go_sem,simprocAttr]
  first | apply hK3 | refine ⟨by first | exact sd | ((repeat' apply And.intro) <;> first | assumption | omega | (simp only [List.length_append,List.length_map,List.length_cons,List.length_nil,List.length_set,List.length_replicate] at c_31 c_32 ⊢; omega)),hK3 _ _ ?_⟩
  refine retQ_normal ?_
  cases hm
  exact fse5
 ·refine Wp.skip ?_
  refine retQ_normal ?_
  cases hm
  exact fse5
theorem ok_delta_Best_2_i1 (at_1:Int) (r_2:delta_route) (o1_3:List delta_route) (o3_0_4:List Int) (o4_0_5:List api_Way) (z:List delta_route) (hm:delta_Best_2_i1 at_1 r_2 o1_3 o3_0_4 o4_0_5=some z):Does Tryd.prog 77 [.p (.i .i64 at_1),.agg [.p (.i .i64 r_2.cost),.p (.l (List.map ecI_i64 r_2.list)),.p (.b r_2.done),.p (.b r_2.any)],.ptr 0 0,.ptr 2 0,.ptr 3 0,.ptr 4 0] [.cells 113 [.buf 1],.buf 115 4 (List.map enc_delta_route o1_3),.cells 117 [.fn 75 [.ptr 0 0]],.cells 57 [.p (.l (List.map ecI_i64 o3_0_4))],.cells 58 [.p (.l (List.map enc_api_Way o4_0_5))]] (fun r X=>r=.tup []∧X=[.cells 113 [.buf 1],.buf 115 4 (List.map enc_delta_route z),.cells 117 [.fn 75 [.ptr 0 0]],.cells 57 [.p (.l (List.map ecI_i64 o3_0_4))],.cells 58 [.p (.l (List.map enc_api_Way o4_0_5))]]):=by
 unfold delta_Best_2_i1 at hm
 refine Does.of_wp 5 43 [] Tryd.func77 rfl (by decide) rfl rfl (Nat.le_of_ble_eq_true rfl) fun B=>?_
 refine qS ?_
 refine qS ?_
 refine Wp.seqW fun K3 hK3 hW3=>?_
 obtain ⟨k_61,hk_61,hm⟩:=jp_elim hm
 have hcut3:∀ s,k_61 s=some z→K3 [(5,.ptr 4 0),(6,.ptr 5 0),(8,.fn 78 [.ptr 5 0,.ptr 0 0,.ptr 2 0,.ptr 6 0])] [.cells 113 [.buf 1],.buf 115 4 (List.map enc_delta_route s),.cells 117 [.fn 75 [.ptr 0 0]],.cells 57 [.p (.l (List.map ecI_i64 o3_0_4))],.cells 58 [.p (.l (List.map enc_api_Way o4_0_5))],.cells 3 [.p (.i .i64 at_1)],.cells 115 [.p (.i .i64 r_2.cost),.p (.l (List.map ecI_i64 r_2.list)),.p (.b r_2.done),.p (.b r_2.any)]]:=by
  intro o1_60 hs
  have hm:=hk_61 _ hs
  clear hs
  try dsimp only at hm
  try dsimp only
  refine hK3 _ _ ?_
  refine qS ?_
  refine Wp.block ?_
  obtain ⟨k_69,hk_69,hm⟩:=forL_cont hm
  refine Wp.fact 26 fun hl_72=>?_
  replace hl_72:o4_0_5.length≤274877906944:=by
   simp only [go_sem,simprocAttr,List.length_map] at hl_72
   omega
  refine Wp.forL (fun i_71 s=>[(6,.ptr 5 0),(8,.fn 78 [.ptr 5 0,.ptr 0 0,.ptr 2 0,.ptr 6 0]),(26,.p (.l (List.map enc_api_Way o4_0_5))),(27,.p (.i .i64 (o4_0_5.length:Int))),(28,.p (.i .i64 (i_71:Int)))]) (fun i_71 s=>[.cells 113 [.buf 1],.buf 115 4 (List.map enc_delta_route s),.cells 117 [.fn 75 [.ptr 0 0]],.cells 57 [.p (.l (List.map ecI_i64 o3_0_4))],.cells 58 [.p (.l (List.map enc_api_Way o4_0_5))],.cells 3 [.p (.i .i64 at_1)],.cells 115 [.p (.i .i64 r_2.cost),.p (.l (List.map ecI_i64 r_2.list)),.p (.b r_2.done),.p (.b r_2.any)]]) ?_ hm ?_
  ·
   exact fse5
  clear hm
  intro i_71 o1_66 hii_71 hm
  try dsimp only at hm
  try dsimp only
  refine qS ?_
  refine Wp.seqW fun K6 hK6 hW6=>?_
  refine Wp.cond rfl ⟨⟩ (fun hc6=>?_) (fun hc6=>?_)
  rotate_left
  ·refine Wp.exit ?_
   have hm:=hk_69 _ (forL_end hm (ge_nat (by first | exact hc6 | simpa using hc6)))
   try dsimp only at hm
   simp only [thenQ,blockQ,↓reduceIte]
   refine retQ_normal ?_
   cases hm
   exact fse5
  have hlt6:=lt_nat (by first | exact hc6 | simpa using hc6)
  have hw6:=wrap_succ hlt6 hl_72
  obtain ⟨w_73,nx_70,hxw_73,hyw_73,hnx_70,hm⟩:=forL_step hm hlt6
  replace hxw_73:=hxw_73 enc_api_Way
  refine Wp.skip ?_
  simp only [thenQ]
  refine hK6 _ _ ?_
  refine Wp.seqW fun K7 hK7 hW7=>?_
  refine Wp.block ?_
  refine Wp.seqR fun K8 hK8=>?_
  simp only [go_sem,simprocAttr,hw6,hxw_73]
  first | apply hK8 | refine ⟨sd,hK8 _ _ ?_⟩
  refine Wp.seqR fun K9 hK9=>?_
  simp only [go_sem,simprocAttr,hw6,hxw_73]
  first | apply hK9 | refine ⟨sd,hK9 _ _ ?_⟩
  refine cM hm (fun hc10 hm=>?_) (fun hc10 hm=>?_)
  ·obtain ⟨r_74,hr_74,hm⟩:=call_elim hm
   refine Wp.region fun K11 hK11=>?_
   simp only [go_sem,simprocAttr,hw6,hxw_73]
   try refine ⟨sd,?_⟩
   refine Rg.callO (av:=?av12) [5,0,1,2,6] (ok_delta_Best_2_1_i1 w_73.To w_73.Cost at_1 o1_66 r_2.cost r_2.list r_2.done r_2.any _ hr_74) (by simp only [go_sem,simprocAttr,hw6,hxw_73]; exact Is.mk) (by simp only [go_sem,simprocAttr,hw6,hxw_73]; exact Is.mk) (by simp only [go_sem,simprocAttr,hw6,hxw_73]; exact Is.mk) (by simp only [go_sem,simprocAttr,hw6,hxw_73]) (by simp only [go_sem,simprocAttr,hw6,hxw_73]) ?cont12
   rintro _ _ ⟨rfl,rfl⟩ hv12
   simp only [go_sem,simprocAttr,hw6,hxw_73]
   first | apply hK11 | refine ⟨sd,hK11 _ _ ?_⟩
   refine hK7 _ _ ?_
   refine Wp.region fun K13 hK13=>?_
   simp only [go_sem,simprocAttr,hw6,hxw_73]
   first | apply hK13 | refine ⟨sd,hK13 _ _ ?_⟩
   simp only [thenQ,blockQ,↓reduceIte]
   refine ⟨r_74,hlt6,hnx_70 _ hm,?_⟩
   simp only [go_sem,simprocAttr,hw6,hxw_73]
   try exact se5
  ·refine Wp.skip ?_
   refine hK7 _ _ ?_
   refine Wp.region fun K14 hK14=>?_
   simp only [go_sem,simprocAttr,hw6,hxw_73]
   first | apply hK14 | refine ⟨sd,hK14 _ _ ?_⟩
   simp only [thenQ,blockQ,↓reduceIte]
   refine ⟨o1_66,hlt6,hnx_70 _ hm,?_⟩
   simp only [go_sem,simprocAttr,hw6,hxw_73]
   try exact se5
 clear hK3 hk_61
 refine qS ?_
 refine Wp.block ?_
 obtain ⟨k_82,hk_82,hm⟩:=forL_cont hm
 refine Wp.fact 14 fun hl_85=>?_
 replace hl_85:o3_0_4.length≤274877906944:=by
  simp only [go_sem,simprocAttr,List.length_map] at hl_85
  omega
 refine Wp.forL (fun i_84 s=>[(5,.ptr 4 0),(6,.ptr 5 0),(8,.fn 78 [.ptr 5 0,.ptr 0 0,.ptr 2 0,.ptr 6 0]),(14,.p (.l (List.map ecI_i64 o3_0_4))),(15,.p (.i .i64 (o3_0_4.length:Int))),(16,.p (.i .i64 (i_84:Int)))]) (fun i_84 s=>[.cells 113 [.buf 1],.buf 115 4 (List.map enc_delta_route s),.cells 117 [.fn 75 [.ptr 0 0]],.cells 57 [.p (.l (List.map ecI_i64 o3_0_4))],.cells 58 [.p (.l (List.map enc_api_Way o4_0_5))],.cells 3 [.p (.i .i64 at_1)],.cells 115 [.p (.i .i64 r_2.cost),.p (.l (List.map ecI_i64 r_2.list)),.p (.b r_2.done),.p (.b r_2.any)]]) ?_ hm ?_
 ·
  exact fse5
 clear hm
 intro i_84 o1_79 hii_84 hm
 try dsimp only at hm
 try dsimp only
 refine qS ?_
 refine Wp.seqW fun K17 hK17 hW17=>?_
 refine Wp.cond rfl ⟨⟩ (fun hc17=>?_) (fun hc17=>?_)
 rotate_left
 ·refine Wp.exit ?_
  have hm:=hk_82 _ (forL_end hm (ge_nat (by first | exact hc17 | simpa using hc17)))
  try dsimp only at hm
  refine hW3 _ _ _ _ ?_ (hcut3 o1_79 hm)
  exact fse5
 have hlt17:=lt_nat (by first | exact hc17 | simpa using hc17)
 have hw17:=wrap_succ hlt17 hl_85
 obtain ⟨n_86,nx_83,hxn_86,hyn_86,hnx_83,hm⟩:=forL_step hm hlt17
 replace hxn_86:=hxn_86 ecI_i64
 refine Wp.skip ?_
 simp only [thenQ]
 refine hK17 _ _ ?_
 refine Wp.seqW fun K18 hK18 hW18=>?_
 refine Wp.block ?_
 refine Wp.seqR fun K19 hK19=>?_
 simp only [go_sem,simprocAttr,hw17,hxn_86]
 first | apply hK19 | refine ⟨sd,hK19 _ _ ?_⟩
 obtain ⟨r_87,hr_87,hm⟩:=call_elim hm
 refine Wp.region fun K20 hK20=>?_
 simp only [go_sem,simprocAttr,hw17,hxn_86]
 try refine ⟨sd,?_⟩
 refine Rg.callO (av:=?av21) [5,0,1,2,6] (ok_delta_Best_2_1_i1 (i_84:Int) n_86 at_1 o1_79 r_2.cost r_2.list r_2.done r_2.any _ hr_87) (by simp only [go_sem,simprocAttr,hw17,hxn_86]; exact Is.mk) (by simp only [go_sem,simprocAttr,hw17,hxn_86]; exact Is.mk) (by simp only [go_sem,simprocAttr,hw17,hxn_86]; exact Is.mk) (by simp only [go_sem,simprocAttr,hw17,hxn_86]) (by simp only [go_sem,simprocAttr,hw17,hxn_86]) ?cont21
 rintro _ _ ⟨rfl,rfl⟩ hv21
 simp only [go_sem,simprocAttr,hw17,hxn_86]
 first | apply hK20 | refine ⟨sd,hK20 _ _ ?_⟩
 refine hK18 _ _ ?_
 refine Wp.region fun K22 hK22=>?_
 simp only [go_sem,simprocAttr,hw17,hxn_86]
 first | apply hK22 | refine ⟨sd,hK22 _ _ ?_⟩
 simp only [thenQ,blockQ,↓reduceIte]
 refine ⟨r_87,hlt17,hnx_83 _ hm,?_⟩
 simp only [go_sem,simprocAttr,hw17,hxn_86]
 try exact se5
end Go.Proofs.YtkekfenkeeiigaaDoor
