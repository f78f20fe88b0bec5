/- That the code does what the models say (part 1). -/
import Derived.Test.YtkekfenkeeiigaaDoorTdWk0
set_option linter.unusedSimpArgs false
set_option linter.unusedVariables false
namespace Go.Proofs.YtkekfenkeeiigaaDoor
open Go.Vc Go.Md
set_option maxRecDepth 100000
set_option maxHeartbeats 4000000
theorem ok_ver_isSmall (c_1:Int) (z:Bool) (hm:ver_isSmall c_1=some z):Does Tryd.prog 93 [.p (.i .u8 c_1)] [] (fun r X=>r=.p (.b z)∧X=[]):=by
 unfold ver_isSmall at hm
 refine Does.of_wp 0 9 [.tmp 2] Tryd.func93 rfl (by decide) rfl rfl (Nat.le_of_ble_eq_true rfl) fun B=>?_
 refine qS ?_
 refine qS ?_
 refine Wp.ret ?_
 refine retQ_ret ?_
 cases hm
 exact fse1
theorem ok_ver_isDigit (c_1:Int) (z:Bool) (hm:ver_isDigit c_1=some z):Does Tryd.prog 94 [.p (.i .u8 c_1)] [] (fun r X=>r=.p (.b z)∧X=[]):=by
 unfold ver_isDigit at hm
 refine Does.of_wp 0 9 [.tmp 2] Tryd.func94 rfl (by decide) rfl rfl (Nat.le_of_ble_eq_true rfl) fun B=>?_
 refine qS ?_
 refine qS ?_
 refine Wp.ret ?_
 refine retQ_ret ?_
 cases hm
 exact fse2
theorem ok_ver_IsName_1 (c_1:Int) (z:Bool) (hm:ver_IsName_1 c_1=some z):Does Tryd.prog 92 [.p (.i .u8 c_1)] [] (fun r X=>r=.p (.b z)∧X=[]):=by
 unfold ver_IsName_1 at hm
 refine Does.of_wp 0 17 [.tmp 2] Tryd.func92 rfl (by decide) rfl rfl (Nat.le_of_ble_eq_true rfl) fun B=>?_
 refine qS ?_
 obtain ⟨r_2,hr_2,hm⟩:=call_elim hm
 obtain ⟨r_3,hr_3,hm⟩:=callG_elim hm
 refine Wp.seqR fun K2 hK2=>?_
 simp only [go_sem,simprocAttr]
 try refine ⟨sd,?_⟩
 refine Rg.callX (av:=?av3) (g:=true) (fun hg=>ok_ver_isSmall c_1 _ hr_2) si si si sg si ?cont3
 intro hv3
 simp only [go_sem,simprocAttr]
 try refine ⟨sd,?_⟩
 refine Rg.callX (av:=?av4) (g:=!r_2) (fun hg=>ok_ver_isDigit c_1 _ (hr_3 hg)) si si si sg si ?cont4
 intro hv4
 simp only [go_sem,simprocAttr]
 first | apply hK2 | refine ⟨sd,hK2 _ _ ?_⟩
 refine Wp.ret ?_
 refine retQ_ret ?_
 cases hm
 exact fse2
theorem ok_ver_each_i1 (s_1:Str) (most_2:Int) (z:Bool) (hm:ver_each_i1 s_1 most_2=some z):Does Tryd.prog 91 [.p (.s s_1),.p (.i .i64 most_2),.fn 92 []] [] (fun r X=>r=.p (.b z)∧X=[]):=by
 unfold ver_each_i1 at hm
 refine Does.of_wp 0 28 [.tmp 6] Tryd.func91 rfl (by decide) rfl rfl (Nat.le_of_ble_eq_true rfl) fun B=>?_
 refine qS ?_
 refine Wp.seqW fun K2 hK2 hW2=>?_
 obtain ⟨k_12,hk_12,hm⟩:=jp_elim hm
 have hcut2:∀ s,k_12 s=some z→K2 [(0,.p (.s s_1)),(1,.p (.i .i64 most_2))] []:=by
  intro s hs
  have hm:=hk_12 _ hs
  clear hs
  try dsimp only at hm
  try dsimp only
  refine hK2 _ _ ?_
  refine qS ?_
  refine Wp.ret ?_
  refine retQ_ret ?_
  cases hm
  exact fse2
 clear hK2 hk_12
 refine qS ?_
 refine Wp.block ?_
 obtain ⟨k_16,hk_16,hm⟩:=forL_cont hm
 refine Wp.fact 0 fun hl_19=>?_
 replace hl_19:s_1.length≤274877906944:=by
  simp only [go_sem,simprocAttr,List.length_map] at hl_19
  omega
 refine Wp.forL (fun i_18 s=>[(0,.p (.s s_1)),(1,.p (.i .i64 most_2)),(2,.fn 92 []),(7,.p (.i .i64 (i_18:Int)))]) (fun i_18 s=>[]) ?_ hm ?_
 ·
  exact fse2
 clear hm
 intro i_18 s hii_18 hm
 try dsimp only at hm
 try dsimp only
 refine Wp.seqW fun K5 hK5 hW5=>?_
 refine qS ?_
 refine Wp.cond rfl ⟨⟩ (fun hc5=>?_) (fun hc5=>?_)
 rotate_left
 ·refine Wp.exit ?_
  have hm:=hk_16 _ (forL_end hm (ge_nat (by first | exact hc5 | simpa using hc5)))
  try dsimp only at hm
  refine hW2 _ _ _ _ ?_ (hcut2 () hm)
  exact fse2
 have hlt5:=lt_nat (by first | exact hc5 | simpa using hc5)
 have hw5:=wrap_succ hlt5 hl_19
 obtain ⟨c_20,nx_17,hxc_20,hyc_20,hnx_17,hm⟩:=forL_step hm hlt5
 clear hxc_20
 refine Wp.skip ?_
 simp only [thenQ]
 refine hK5 _ _ ?_
 refine Wp.seqW fun K7 hK7 hW7=>?_
 refine Wp.block ?_
 obtain ⟨r_21,hr_21,hm⟩:=call_elim hm
 refine Wp.seqR fun K8 hK8=>?_
 simp only [go_sem,simprocAttr,hw5,hyc_20]
 try refine ⟨sd,?_⟩
 refine Rg.callX (av:=?av9) (g:=true) (fun hg=>ok_ver_IsName_1 (c_20.toNat:Int) _ hr_21) (by simp only [go_sem,simprocAttr,hw5,hyc_20]; exact Is.mk) (by simp only [go_sem,simprocAttr,hw5,hyc_20]; exact Is.mk) (by simp only [go_sem,simprocAttr,hw5,hyc_20]; exact Is.mk) (by simp only [go_sem,simprocAttr,hw5,hyc_20]) (by simp only [go_sem,simprocAttr,hw5,hyc_20]; exact Is.mk) ?cont9
 intro hv9
 simp only [go_sem,simprocAttr,hw5,hyc_20]
 first | apply hK8 | refine ⟨sd,hK8 _ _ ?_⟩
 refine cM hm (fun hc10 hm=>?_) (fun hc10 hm=>?_)
 ·refine Wp.seqR fun K11 hK11=>?_
  simp only [go_sem,simprocAttr,hw5,hyc_20]
  first | apply hK11 | refine ⟨sd,hK11 _ _ ?_⟩
  refine Wp.ret ?_
  refine retQ_ret ?_
  cases hm
  simp only [go_sem,simprocAttr,hw5,hyc_20]
  try exact se2
 ·refine Wp.skip ?_
  refine hK7 _ _ ?_
  refine Wp.region fun K12 hK12=>?_
  simp only [go_sem,simprocAttr,hw5,hyc_20]
  first | apply hK12 | refine ⟨sd,hK12 _ _ ?_⟩
  simp only [thenQ,blockQ,↓reduceIte]
  refine ⟨(),hlt5,hnx_17 _ hm,?_⟩
  simp only [go_sem,simprocAttr,hw5,hyc_20]
  try exact se2
theorem ok_ver_IsName (s_1:Str) (z:Bool) (hm:ver_IsName s_1=some z):Does Tryd.prog 39 [.p (.s s_1)] [] (fun r X=>r=.p (.b z)∧X=[]):=by
 unfold ver_IsName at hm
 refine Does.of_wp 0 10 [.tmp 2] Tryd.func39 rfl (by decide) rfl rfl (Nat.le_of_ble_eq_true rfl) fun B=>?_
 refine qS ?_
 obtain ⟨r_2,hr_2,hm⟩:=call_elim hm
 obtain ⟨c_3,hm⟩:=chk_elim hm
 obtain ⟨r_4,hr_4,hm⟩:=callG_elim hm
 refine Wp.seqR fun K2 hK2=>?_
 simp only [go_sem,simprocAttr]
 try refine ⟨by first | exact sd | ((repeat' apply And.intro) <;> first | assumption | omega | (simp only [List.length_append,List.length_map,List.length_cons,List.length_nil,List.length_set,List.length_replicate] at c_3 ⊢; omega)),?_⟩
 refine Rg.callX (av:=?av3) (g:=true) (fun hg=>ok_ver_each_i1 s_1 40 _ hr_2) si si si sg si ?cont3
 intro hv3
 simp only [go_sem,simprocAttr]
 try refine ⟨by first | exact sd | ((repeat' apply And.intro) <;> first | assumption | omega | (simp only [List.length_append,List.length_map,List.length_cons,List.length_nil,List.length_set,List.length_replicate] at c_3 ⊢; omega)),?_⟩
 refine Rg.callX (av:=?av4) (g:=r_2) (fun hg=>ok_ver_isSmall ((s_1.getD 0 0).toNat:Int) _ (hr_4 hg)) si si si sg si ?cont4
 intro hv4
 simp only [go_sem,simprocAttr]
 first | apply hK2 | refine ⟨by first | exact sd | ((repeat' apply And.intro) <;> first | assumption | omega | (simp only [List.length_append,List.length_map,List.length_cons,List.length_nil,List.length_set,List.length_replicate] at c_3 ⊢; omega)),hK2 _ _ ?_⟩
 refine Wp.ret ?_
 refine retQ_ret ?_
 cases hm
 exact fse2
theorem ok_Top_landed  (z:Bool) (hm:Top_landed=some z):Does Tryd.prog 28 [] [] (fun r X=>r=.p (.b z)∧X=[]):=by
 unfold Top_landed at hm
 refine Does.of_wp 0 2 [.tmp 0] Tryd.func28 rfl (by decide) rfl rfl (Nat.le_of_ble_eq_true rfl) fun B=>?_
 refine qS ?_
 obtain ⟨r_1,hr_1,hm⟩:=call_elim hm
 refine Wp.seqR fun K2 hK2=>?_
 simp only [go_sem,simprocAttr]
 try refine ⟨sd,?_⟩
 refine Rg.callX (av:=?av3) (g:=true) (fun hg=>ok_ver_IsName ([97]:Str) _ hr_1) si si si sg si ?cont3
 intro hv3
 simp only [go_sem,simprocAttr]
 first | apply hK2 | refine ⟨sd,hK2 _ _ ?_⟩
 refine Wp.ret ?_
 refine retQ_ret ?_
 cases hm
 exact fse2
theorem ok_slices_Clone_string_string_new (s_1:List Str) (z:List Str) (hm:slices_Clone_string_string_new s_1=some z):Does Tryd.prog 29 [.p (.l (List.map ecS s_1))] [] (fun r X=>r=.buf 0∧X=[.buf 9 1 (List.map ecS z)]):=by
 unfold slices_Clone_string_string_new at hm
 refine Does.of_wp 1 8 [.tmp 2] Tryd.func29 rfl (by decide) rfl rfl (Nat.le_of_ble_eq_true rfl) fun B=>?_
 refine qS ?_
 refine Wp.seqW fun K2 hK2 hW2=>?_
 refine Wp.seqR fun K3 hK3=>?_
 simp only [go_sem,simprocAttr]
 try refine ⟨sd,?_⟩
 refine Rg.isnil (rows:=?rows4) (e:=?e4) (esz:=?esz4) (eb:=?eb4) (ez:=?ez4) Is.mk Is.mk sg sg si si ?cont4
 intro b_5 hb_6
 replace hm:=anyOf_elim hm b_5 (fun h=>List.map_eq_nil_iff.1 (hb_6 h))
 try dsimp only at hm
 simp only [go_sem,simprocAttr]
 first | apply hK3 | refine ⟨sd,hK3 _ _ ?_⟩
 refine cM hm (fun hc5 hm=>?_) (fun hc5 hm=>?_)
 ·refine qS ?_
  refine Wp.adopt 2 9 1 rfl ?_
  simp only [go_sem,simprocAttr]
  refine Wp.ret ?_
  refine retQ_ret ?_
  cases hm
  exact fse2
 ·refine Wp.skip ?_
  refine hK2 _ _ ?_
  obtain ⟨c_7,hm⟩:=chk_elim hm
  refine Wp.seqR fun K7 hK7=>?_
  simp only [go_sem,simprocAttr]
  first | apply hK7 | refine ⟨by first | exact sd | ((repeat' apply And.intro) <;> first | assumption | omega | (simp only [List.length_append,List.length_map,List.length_cons,List.length_nil,List.length_set,List.length_replicate] at c_7 ⊢; omega)),hK7 _ _ ?_⟩
  refine Wp.ret ?_
  refine retQ_ret ?_
  cases hm
  exact fse2
theorem ok_disk_SumOf (text_1:Str) (z:Str) (hm:disk_SumOf text_1=some z):Does Tryd.prog 63 [.p (.s text_1)] [] (fun r X=>r=.p (.s z)∧X=[]):=by
 unfold disk_SumOf at hm
 refine Does.of_wp 0 39 [.tmp 2] Tryd.func63 rfl (by decide) rfl rfl (Nat.le_of_ble_eq_true rfl) fun B=>?_
 refine qS ?_
 refine qS ?_
 refine Wp.seqW fun K3 hK3 hW3=>?_
 obtain ⟨k_11,hk_11,hm⟩:=jp_elim hm
 have hcut3:∀ s,k_11 s=some z→K3 [(3,.p (.i .u64 s))] []:=by
  intro n_10 hs
  have hm:=hk_11 _ hs
  clear hs
  try dsimp only at hm
  try dsimp only
  refine hK3 _ _ ?_
  refine qS ?_
  refine Wp.seqW fun K5 hK5 hW5=>?_
  obtain ⟨k_27,hk_27,hm⟩:=jp_elim hm
  have hcut5:∀ s,k_27 s=some z→K5 [(5,.buf 0)] [.buf 5 1 (List.map ecI_u8 s)]:=by
   intro o0_26 hs
   have hm:=hk_27 _ hs
   clear hs
   try dsimp only at hm
   try dsimp only
   refine hK5 _ _ ?_
   refine qS ?_
   refine Wp.ret ?_
   refine retQ_ret ?_
   cases hm
   exact fse3
  clear hK5 hk_27
  refine qS ?_
  refine Wp.block ?_
  obtain ⟨k_37,hk_37,hm⟩:=loopN_cont hm
  refine Wp.loopN (fun s=>[(3,.p (.i .u64 n_10)),(5,.buf 0),(22,.p (.i .i64 ((List.replicate 16 0).length:Int))),(23,.p (.i .i64 s.1))]) (fun s=>[.buf 5 1 (List.map ecI_u8 s.2)]) ?_ hm ?_
  ·
   exact fse3
  clear hm
  intro s nx_38 hm
  obtain ⟨t23_32,o0_33⟩:=s
  try dsimp only at hm
  try dsimp only
  refine qS ?_
  refine Wp.seqW fun K9 hK9 hW9=>?_
  refine cM hm (fun hc10 hm=>?_) (fun hc10 hm=>?_)
  ·refine Wp.skip ?_
   refine hK9 _ _ ?_
   refine Wp.seqW fun K11 hK11 hW11=>?_
   refine Wp.block ?_
   refine qS ?_
   obtain ⟨c_39,hm⟩:=chk_elim hm
   obtain ⟨c_40,hbc_40,hxc_40,hm⟩:=idxS_elim hm
   replace hxc_40:((([48,49,50,51,52,53,54,55,56,57,97,98,99,100,101,102]:Str).getD ((bitsI .and .u64 (Int.fdiv n_10 (2 ^ (shI .u64 (IntKind.i64.wrap (60 - (IntKind.i64.wrap (4 * t23_32))))))) 15).toNat) 0).toNat:Int)=c_40:=hxc_40
   obtain ⟨c_41,hm⟩:=chk_elim hm
   refine Wp.region fun K13 hK13=>?_
   simp only [go_sem,simprocAttr,hxc_40]
   first | apply hK13 | refine ⟨by first | exact sd | ((repeat' apply And.intro) <;> first | assumption | omega | (simp only [List.length_append,List.length_map,List.length_cons,List.length_nil,List.length_set,List.length_replicate] at c_39 c_41 ⊢; omega)),hK13 _ _ ?_⟩
   refine hK11 _ _ ?_
   refine Wp.region fun K14 hK14=>?_
   simp only [go_sem,simprocAttr,hxc_40]
   first | apply hK14 | refine ⟨sd,hK14 _ _ ?_⟩
   simp only [thenQ,blockQ,↓reduceIte]
   refine ⟨(IntKind.i64.wrap (t23_32+1),List.set o0_33 t23_32.toNat c_40),hm,?_⟩
   simp only [go_sem,simprocAttr,hxc_40]
   try exact se3
  ·refine Wp.exit ?_
   simp only [thenQ,blockQ,↓reduceIte]
   have hm:=hk_37 _ hm
   try dsimp only at hm
   refine hW5 _ _ _ _ ?_ (hcut5 o0_33 hm)
   exact fse3
 clear hK3 hk_11
 refine qS ?_
 refine Wp.block ?_
 obtain ⟨k_45,hk_45,hm⟩:=forL_cont hm
 refine Wp.fact 0 fun hl_48=>?_
 replace hl_48:text_1.length≤274877906944:=by
  simp only [go_sem,simprocAttr,List.length_map] at hl_48
  omega
 refine Wp.forL (fun i_47 s=>[(0,.p (.s text_1)),(3,.p (.i .u64 s)),(4,.p (.i .i64 (i_47:Int)))]) (fun i_47 s=>[]) ?_ hm ?_
 ·
  exact fse3
 clear hm
 intro i_47 n_42 hii_47 hm
 try dsimp only at hm
 try dsimp only
 refine Wp.seqW fun K16 hK16 hW16=>?_
 refine qS ?_
 refine Wp.cond rfl ⟨⟩ (fun hc16=>?_) (fun hc16=>?_)
 rotate_left
 ·refine Wp.exit ?_
  have hm:=hk_45 _ (forL_end hm (ge_nat (by first | exact hc16 | simpa using hc16)))
  try dsimp only at hm
  refine hW3 _ _ _ _ ?_ (hcut3 n_42 hm)
  exact fse3
 have hlt16:=lt_nat (by first | exact hc16 | simpa using hc16)
 have hw16:=wrap_succ hlt16 hl_48
 obtain ⟨c_49,nx_46,hxc_49,hyc_49,hnx_46,hm⟩:=forL_step hm hlt16
 clear hxc_49
 refine Wp.skip ?_
 simp only [thenQ]
 refine hK16 _ _ ?_
 refine Wp.seqW fun K18 hK18 hW18=>?_
 refine Wp.block ?_
 refine Wp.region fun K19 hK19=>?_
 simp only [go_sem,simprocAttr,hw16,hyc_49]
 first | apply hK19 | refine ⟨sd,hK19 _ _ ?_⟩
 refine hK18 _ _ ?_
 refine Wp.region fun K20 hK20=>?_
 simp only [go_sem,simprocAttr,hw16,hyc_49]
 first | apply hK20 | refine ⟨sd,hK20 _ _ ?_⟩
 simp only [thenQ,blockQ,↓reduceIte]
 refine ⟨IntKind.u64.wrap ((bitsI .xor .u64 n_42 (IntKind.u64.wrap (c_49.toNat:Int))) * 1099511628211),hlt16,hnx_46 _ hm,?_⟩
 simp only [go_sem,simprocAttr,hw16,hyc_49]
 try exact se3
theorem ok_delta_state_next_i1 (s_1:delta_state) (c_2:Int) (z:Int) (hm:delta_state_next_i1 s_1 c_2=some z):Does Tryd.prog 106 [.rp [.i .i64 s_1.long,.i .i64 s_1.end_,.i .i64 s_1.link,.l (List.map enc_delta_edge s_1.edges)],.p (.i .u8 c_2)] [] (fun r X=>r=.p (.i .i64 z)∧X=[]):=by
 unfold delta_state_next_i1 at hm
 refine Does.of_wp 0 23 [.tmp 4] Tryd.func106 rfl (by decide) rfl rfl (Nat.le_of_ble_eq_true rfl) fun B=>?_
 refine qS ?_
 refine Wp.seqW fun K2 hK2 hW2=>?_
 obtain ⟨k_10,hk_10,hm⟩:=jp_elim hm
 have hcut2:∀ s,k_10 s=some z→K2 [] []:=by
  intro s hs
  have hm:=hk_10 _ hs
  clear hs
  try dsimp only at hm
  try dsimp only
  refine hK2 _ _ ?_
  refine qS ?_
  refine Wp.ret ?_
  refine retQ_ret ?_
  cases hm
  exact fse3
 clear hK2 hk_10
 refine qS ?_
 refine Wp.block ?_
 obtain ⟨k_13,hk_13,hm⟩:=forL_cont hm
 refine Wp.fact 10 fun hl_16=>?_
 replace hl_16:s_1.edges.length≤274877906944:=by
  simp only [go_sem,simprocAttr,List.length_map] at hl_16
  omega
 refine Wp.forL (fun i_15 s=>[(1,.p (.i .u8 c_2)),(10,.p (.l (List.map enc_delta_edge s_1.edges))),(11,.p (.i .i64 (s_1.edges.length:Int))),(12,.p (.i .i64 (i_15:Int)))]) (fun i_15 s=>[]) ?_ hm ?_
 ·
  exact fse3
 clear hm
 intro i_15 s hii_15 hm
 try dsimp only at hm
 try dsimp only
 refine qS ?_
 refine Wp.seqW fun K6 hK6 hW6=>?_
 refine Wp.cond rfl ⟨⟩ (fun hc6=>?_) (fun hc6=>?_)
 rotate_left
 ·refine Wp.exit ?_
  have hm:=hk_13 _ (forL_end hm (ge_nat (by first | exact hc6 | simpa using hc6)))
  try dsimp only at hm
  refine hW2 _ _ _ _ ?_ (hcut2 () hm)
  exact fse3
 have hlt6:=lt_nat (by first | exact hc6 | simpa using hc6)
 have hw6:=wrap_succ hlt6 hl_16
 obtain ⟨e_17,nx_14,hxe_17,hye_17,hnx_14,hm⟩:=forL_step hm hlt6
 replace hxe_17:=hxe_17 enc_delta_edge
 refine Wp.skip ?_
 simp only [thenQ]
 refine hK6 _ _ ?_
 refine Wp.seqW fun K7 hK7 hW7=>?_
 refine Wp.block ?_
 refine Wp.seqR fun K8 hK8=>?_
 simp only [go_sem,simprocAttr,hw6,hxe_17]
 first | apply hK8 | refine ⟨sd,hK8 _ _ ?_⟩
 refine Wp.seqR fun K9 hK9=>?_
 simp only [go_sem,simprocAttr,hw6,hxe_17]
 first | apply hK9 | refine ⟨sd,hK9 _ _ ?_⟩
 refine cM hm (fun hc10 hm=>?_) (fun hc10 hm=>?_)
 ·refine Wp.seqR fun K11 hK11=>?_
  simp only [go_sem,simprocAttr,hw6,hxe_17]
  first | apply hK11 | refine ⟨sd,hK11 _ _ ?_⟩
  refine Wp.ret ?_
  refine retQ_ret ?_
  cases hm
  simp only [go_sem,simprocAttr,hw6,hxe_17]
  try exact se3
 ·refine Wp.skip ?_
  refine hK7 _ _ ?_
  refine Wp.region fun K12 hK12=>?_
  simp only [go_sem,simprocAttr,hw6,hxe_17]
  first | apply hK12 | refine ⟨sd,hK12 _ _ ?_⟩
  simp only [thenQ,blockQ,↓reduceIte]
  refine ⟨(),hlt6,hnx_14 _ hm,?_⟩
  simp only [go_sem,simprocAttr,hw6,hxe_17]
  try exact se3
theorem ok_delta_state_set_i1 (s_1:Nat) (c_2:Int) (to_3:Int) (o0_4:List delta_state) (z:List delta_state) (hm:delta_state_set_i1 s_1 c_2 to_3 o0_4=some z):Does Tryd.prog 117 [.el 0 4 s_1 0,.p (.i .u8 c_2),.p (.i .i64 to_3)] [.nst true 138 4 3 1 (List.map eN_enc_delta_state o0_4) none,.inn 157 2 (List.map iN_enc_delta_state o0_4)] (fun r X=>r=.tup []∧X=[.nst true 138 4 3 1 (List.map eN_enc_delta_state z) none,.inn 157 2 (List.map iN_enc_delta_state z)]):=by
 unfold delta_state_set_i1 at hm
 refine Does.of_wp 2 46 [] Tryd.func117 rfl (by decide) rfl rfl (Nat.le_of_ble_eq_true rfl) fun B=>?_
 obtain ⟨c_66,hm⟩:=chk_elim hm
 refine Wp.seqW fun K1 hK1 hW1=>?_
 obtain ⟨k_94,hk_94,hm⟩:=jp_elim hm
 have hcut1:∀ s,k_94 s=some z→K1 [(0,.el 0 4 s_1 0),(1,.p (.i .u8 c_2)),(2,.p (.i .i64 to_3))] [.nst true 138 4 3 1 (List.map eN_enc_delta_state o0_4) none,.inn 157 2 (List.map iN_enc_delta_state o0_4)]:=by
  intro s hs
  have hm:=hk_94 _ hs
  clear hs
  try dsimp only at hm
  try dsimp only
  refine hK1 _ _ ?_
  obtain ⟨c_96,hm⟩:=chk_elim hm
  have hs_95:=map_set_same (f:=eN_enc_delta_state) (l:=o0_4) (d:=(delta_state.mk 0 0 0 [])) (i:=s_1) (x:=(delta_state.mk ((o0_4.getD s_1 (delta_state.mk 0 0 0 [])).long) ((o0_4.getD s_1 (delta_state.mk 0 0 0 [])).end_) ((o0_4.getD s_1 (delta_state.mk 0 0 0 [])).link) (((o0_4.getD s_1 (delta_state.mk 0 0 0 [])).edges)++[(delta_edge.mk c_2 to_3)]))) (by first | omega | (simp only [List.length_set,List.length_append,List.length_cons,List.length_nil] at *; omega)) rfl
  obtain ⟨v_97,hv_98,hm⟩:=letv_elim hm
  refine Wp.regRW fun K2 hK2 hW2=>?_
  suffices hcont2:K2 [(1,.p (.i .u8 c_2)),(2,.p (.i .i64 to_3))] [.nst true 138 4 3 1 (List.map eN_enc_delta_state v_97) none,.inn 157 2 (List.map iN_enc_delta_state v_97)] by
   have hr_99:=fun h=>getD_encB (l:=o0_4) (e:=eN_enc_delta_state) (d:=(delta_state.mk 0 0 0 [])) (i:=s_1) h []
   have hr_100:=fun h=>getD_innB (l:=o0_4) (f:=iN_enc_delta_state) (d:=(delta_state.mk 0 0 0 [])) (i:=s_1) h []
   subst hv_98
   simp only [go_sem,simprocAttr,false_implies,and_true,true_and,bad,hs_95,hr_99 (by omega),hr_100 (by omega)]
   first | refine hW2 _ _ _ _ ?_ hcont2 | refine ⟨by first | exact sd | ((repeat' apply And.intro) <;> first | assumption | omega | (simp only [List.length_append,List.length_map,List.length_cons,List.length_nil,List.length_set,List.length_replicate] at c_96 ⊢; omega)),hW2 _ _ _ _ ?_ hcont2⟩
   simp only [go_sem,simprocAttr,false_implies,and_true,true_and,bad,hs_95,hr_99 (by omega),hr_100 (by omega)]
   try exact se3
  refine hK2 _ _ ?_
  refine retQ_normal ?_
  cases hm
  simp only [go_sem,simprocAttr,hs_95,hv_98]
  try exact se3
 clear hK1 hk_94
 have hr_101:=fun h=>getD_encB (l:=o0_4) (e:=eN_enc_delta_state) (d:=(delta_state.mk 0 0 0 [])) (i:=s_1) h []
 have hr_102:=fun h=>getD_innB (l:=o0_4) (f:=iN_enc_delta_state) (d:=(delta_state.mk 0 0 0 [])) (i:=s_1) h []
 refine Wp.seqR fun K3 hK3=>?_
 simp only [go_sem,simprocAttr,hr_101 (by omega),hr_102 (by omega)]
 first | apply hK3 | refine ⟨sd,hK3 _ _ ?_⟩
 refine Wp.block ?_
 obtain ⟨k_115,hk_115,hm⟩:=loopN_cont hm
 refine Wp.loopN (fun s=>[(0,.el 0 4 s_1 0),(1,.p (.i .u8 c_2)),(2,.p (.i .i64 to_3)),(11,.p (.i .i64 (((o0_4.getD s_1 (delta_state.mk 0 0 0 [])).edges).length:Int))),(12,.p (.i .i64 s))]) (fun s=>[.nst true 138 4 3 1 (List.map eN_enc_delta_state o0_4) none,.inn 157 2 (List.map iN_enc_delta_state o0_4)]) ?_ hm ?_
 ·
  exact fse3
 clear hm
 intro t12_103 nx_116 hm
 try dsimp only at hm
 try dsimp only
 refine qS ?_
 refine Wp.seqW fun K5 hK5 hW5=>?_
 refine cM hm (fun hc6 hm=>?_) (fun hc6 hm=>?_)
 ·refine Wp.skip ?_
  refine hK5 _ _ ?_
  refine Wp.seqW fun K7 hK7 hW7=>?_
  refine Wp.block ?_
  refine qS ?_
  obtain ⟨c_117,hm⟩:=chk_elim hm
  have hr_118:=fun h=>getD_encB (l:=o0_4) (e:=eN_enc_delta_state) (d:=(delta_state.mk 0 0 0 [])) (i:=s_1) h []
  have hr_119:=fun h=>getD_innB (l:=o0_4) (f:=iN_enc_delta_state) (d:=(delta_state.mk 0 0 0 [])) (i:=s_1) h []
  have hr_120:=fun h=>getD_encB (l:=(o0_4.getD s_1 (delta_state.mk 0 0 0 [])).edges) (e:=enc_delta_edge) (d:=(delta_edge.mk 0 0)) (i:=t12_103.toNat) h []
  refine Wp.seqR fun K9 hK9=>?_
  simp only [go_sem,simprocAttr,hr_118 (by omega),hr_119 (by omega),hr_120 (by omega)]
  first | apply hK9 | refine ⟨by first | exact sd | ((repeat' apply And.intro) <;> first | assumption | omega | (simp only [List.length_append,List.length_map,List.length_cons,List.length_nil,List.length_set,List.length_replicate] at c_117 ⊢; omega)),hK9 _ _ ?_⟩
  refine cM hm (fun hc10 hm=>?_) (fun hc10 hm=>?_)
  ·obtain ⟨c_121,hm⟩:=chk_elim hm
   have hs_122:=map_set_same (f:=eN_enc_delta_state) (l:=o0_4) (d:=(delta_state.mk 0 0 0 [])) (i:=s_1) (x:=(delta_state.mk ((o0_4.getD s_1 (delta_state.mk 0 0 0 [])).long) ((o0_4.getD s_1 (delta_state.mk 0 0 0 [])).end_) ((o0_4.getD s_1 (delta_state.mk 0 0 0 [])).link) (List.set ((o0_4.getD s_1 (delta_state.mk 0 0 0 [])).edges) t12_103.toNat (delta_edge.mk ((((o0_4.getD s_1 (delta_state.mk 0 0 0 [])).edges).getD t12_103.toNat (delta_edge.mk 0 0)).c) to_3)))) (by first | omega | (simp only [List.length_set,List.length_append,List.length_cons,List.length_nil] at *; omega)) rfl
   obtain ⟨v_123,hv_124,hm⟩:=letv_elim hm
   refine Wp.seqRW fun K11 hK11 hW11=>?_
   suffices hcont11:K11 [(1,.p (.i .u8 c_2)),(2,.p (.i .i64 to_3)),(6,.p (.i .i64 t12_103)),(11,.p (.i .i64 (((o0_4.getD s_1 (delta_state.mk 0 0 0 [])).edges).length:Int))),(12,.p (.i .i64 t12_103)),(13,.p (.b (decide (t12_103 < (((o0_4.getD s_1 (delta_state.mk 0 0 0 [])).edges).length:Int))))),(14,.p (.i .i64 t12_103)),(18,.nv 1 s_1),(19,.p (.i .i64 t12_103)),(22,.p (.i .u8 ((((o0_4.getD s_1 (delta_state.mk 0 0 0 [])).edges).getD t12_103.toNat (delta_edge.mk 0 0)).c))),(23,.p (.i .u8 c_2)),(24,.p (.b (decide (((((o0_4.getD s_1 (delta_state.mk 0 0 0 [])).edges).getD t12_103.toNat (delta_edge.mk 0 0)).c)=c_2))))] [.nst true 138 4 3 1 (List.map eN_enc_delta_state v_123) none,.inn 157 2 (List.map iN_enc_delta_state v_123)] by
    have hr_125:=fun h=>getD_encB (l:=o0_4) (e:=eN_enc_delta_state) (d:=(delta_state.mk 0 0 0 [])) (i:=s_1) h []
    have hr_126:=fun h=>getD_innB (l:=o0_4) (f:=iN_enc_delta_state) (d:=(delta_state.mk 0 0 0 [])) (i:=s_1) h []
    have hr_127:=fun h=>getD_encB (l:=(o0_4.getD s_1 (delta_state.mk 0 0 0 [])).edges) (e:=enc_delta_edge) (d:=(delta_edge.mk 0 0)) (i:=t12_103.toNat) h []
    subst hv_124
    simp only [go_sem,simprocAttr,false_implies,and_true,true_and,bad,hs_122,hr_125 (by omega),hr_126 (by omega),hr_127 (by omega)]
    first | refine hW11 _ _ _ _ ?_ hcont11 | refine ⟨by first | exact sd | ((repeat' apply And.intro) <;> first | assumption | omega | (simp only [List.length_append,List.length_map,List.length_cons,List.length_nil,List.length_set,List.length_replicate] at c_121 ⊢; omega)),hW11 _ _ _ _ ?_ hcont11⟩
    simp only [go_sem,simprocAttr,false_implies,and_true,true_and,bad,hs_122,hr_125 (by omega),hr_126 (by omega),hr_127 (by omega)]
    try exact se3
   refine hK11 _ _ ?_
   refine Wp.ret ?_
   refine retQ_ret ?_
   cases hm
   simp only [go_sem,simprocAttr,hs_122,hv_124]
   try exact se3
  ·refine Wp.skip ?_
   refine hK7 _ _ ?_
   refine qR ?_
   simp only [thenQ,blockQ,↓reduceIte]
   refine ⟨IntKind.i64.wrap (t12_103+1),hm,?_⟩
   exact fse3
 ·refine Wp.exit ?_
  simp only [thenQ,blockQ,↓reduceIte]
  have hm:=hk_115 _ hm
  try dsimp only at hm
  refine hW1 _ _ _ _ ?_ (hcut1 () hm)
  exact fse3
end Go.Proofs.YtkekfenkeeiigaaDoor
