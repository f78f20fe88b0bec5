/- That the code does what the models say (part 3). -/
import Derived.Test.YtbofknpajcdnmaaGreatDoorJmWk0
import Derived.Test.YtbofknpajcdnmaaGreatDoorJmWk1
import Derived.Test.YtbofknpajcdnmaaGreatDoorJmWk2
set_option linter.unusedSimpArgs false
set_option linter.unusedVariables false
open Go.Proofs Go.Shelf
namespace Go.Proofs.YtbofknpajcdnmaaGreatDoor
open Go.Vc Go.Md
set_option maxRecDepth 100000
set_option maxHeartbeats 4000000
theorem ok_strings_Join (elems_1:List Str) (sep_2:Str) (z:Str) (hm:strings_Join elems_1 sep_2=some z):Does Tryz.prog 120 [.p (.l (List.map ecS elems_1)),.p (.s sep_2)] [] (fun r X=>r=.p (.s z)∧X=[]):=by
 unfold strings_Join at hm
 refine Does.of_wp 0 75 [.tmp 4] Tryz.func120 rfl (by decide) rfl rfl (Nat.le_of_ble_eq_true rfl) fun B=>?_
 refine qS ?_
 refine Wp.seqW fun K2 hK2 hW2=>?_
 refine qS ?_
 refine Wp.block ?_
 refine qS ?_
 refine cM hm (fun hc5 hm=>?_) (fun hc5 hm=>?_)
 ·refine qS ?_
  refine Wp.ret ?_
  refine retQ_ret ?_
  cases hm
  exact fse2
 ·refine qS ?_
  refine cM hm (fun hc8 hm=>?_) (fun hc8 hm=>?_)
  ·obtain ⟨s_3,hbs_3,hxs_3,hys_3,hm⟩:=idx_elim hm
   replace hxs_3:∀ d,(List.map ecS elems_1).getD 0 d=ecS s_3:=hxs_3 ecS
   refine Wp.seqR fun K9 hK9=>?_
   simp only [go_sem,simprocAttr,hxs_3]
   first | apply hK9 | refine ⟨sd,hK9 _ _ ?_⟩
   refine Wp.ret ?_
   refine retQ_ret ?_
   cases hm
   simp only [go_sem,simprocAttr,hxs_3]
   try exact se2
  ·refine Wp.skip ?_
   refine hK2 _ _ ?_
   refine qS ?_
   refine Wp.seqW fun K11 hK11 hW11=>?_
   obtain ⟨k_6,hk_6,hm⟩:=jp_elim hm
   have hcut11:∀ s,k_6 s=some z→K11 [(0,.p (.l (List.map ecS elems_1))),(1,.p (.s sep_2)),(5,.p (.i .i64 s))] []:=by
    intro n_5 hs
    have hm:=hk_6 _ hs
    clear hs
    try dsimp only at hm
    try dsimp only
    refine hK11 _ _ ?_
    refine Wp.seqW fun K12 hK12 hW12=>?_
    obtain ⟨k_16,hk_16,hm⟩:=jp_elim hm
    have hcut12:∀ s,k_16 s=some z→K12 [(0,.p (.l (List.map ecS elems_1))),(1,.p (.s sep_2)),(5,.p (.i .i64 s))] []:=by
     intro n_15 hs
     have hm:=hk_16 _ hs
     clear hs
     try dsimp only at hm
     try dsimp only
     refine hK12 _ _ ?_
     refine qS ?_
     refine Wp.adoptB 0 5 rfl ?_
     simp only [go_sem,simprocAttr]
     obtain ⟨r_17,hr_17,hm⟩:=call_elim hm
     refine Wp.seqR fun K14 hK14=>?_
     simp only [go_sem,simprocAttr]
     try refine ⟨sd,?_⟩
     refine Rg.callO (av:=?av15) [0,1] (ok_strings_Builder_Grow n_15 [] _ hr_17) si si si sg sg ?cont15
     rintro _ _ ⟨rfl,rfl⟩ hv15
     simp only [go_sem,simprocAttr]
     first | apply hK14 | refine ⟨sd,hK14 _ _ ?_⟩
     obtain ⟨s_18,hbs_18,hxs_18,hys_18,hm⟩:=idx_elim hm
     replace hxs_18:∀ d,(List.map ecS elems_1).getD 0 d=ecS s_18:=hxs_18 ecS
     obtain ⟨r_19,hr_19,hm⟩:=call_elim hm
     refine Wp.seqR fun K16 hK16=>?_
     simp only [go_sem,simprocAttr,hxs_18]
     try refine ⟨sd,?_⟩
     refine Rg.callO (av:=?av17) [0,1] (ok_strings_Builder_WriteString_i1 s_18 [] _ hr_19) (by simp only [go_sem,simprocAttr,hxs_18]; exact Is.mk) (by simp only [go_sem,simprocAttr,hxs_18]; exact Is.mk) (by simp only [go_sem,simprocAttr,hxs_18]; exact Is.mk) (by simp only [go_sem,simprocAttr,hxs_18]) (by simp only [go_sem,simprocAttr,hxs_18]) ?cont17
     rintro _ _ ⟨rfl,rfl⟩ hv17
     simp only [go_sem,simprocAttr,hxs_18]
     first | apply hK16 | refine ⟨sd,hK16 _ _ ?_⟩
     refine Wp.seqW fun K18 hK18 hW18=>?_
     obtain ⟨k_38,hk_38,hm⟩:=jp_elim hm
     have hcut18:∀ s,k_38 s=some z→K18 [(8,.ptr 0 0)] [.cells 211 [.np 0,.buf 1],.sb 5 s]:=by
      intro o1_37 hs
      have hm:=hk_38 _ hs
      clear hs
      try dsimp only at hm
      try dsimp only
      refine hK18 _ _ ?_
      obtain ⟨r_39,hr_39,hm⟩:=call_elim hm
      refine Wp.seqR fun K19 hK19=>?_
      simp only [go_sem,simprocAttr,hxs_18]
      try refine ⟨sd,?_⟩
      refine Rg.callO (av:=?av20) [0,1] (ok_strings_Builder_String_i1 o1_37 _ hr_39) (by simp only [go_sem,simprocAttr,hxs_18]; exact Is.mk) (by simp only [go_sem,simprocAttr,hxs_18]; exact Is.mk) (by simp only [go_sem,simprocAttr,hxs_18]; exact Is.mk) (by simp only [go_sem,simprocAttr,hxs_18]) (by simp only [go_sem,simprocAttr,hxs_18]) ?cont20
      rintro _ _ ⟨rfl,rfl⟩ hv20
      simp only [go_sem,simprocAttr,hxs_18]
      first | apply hK19 | refine ⟨sd,hK19 _ _ ?_⟩
      refine Wp.ret ?_
      refine retQ_ret ?_
      cases hm
      simp only [go_sem,simprocAttr,hxs_18]
      try exact se2
     clear hK18 hk_38
     obtain ⟨c_40,hm⟩:=chk_elim hm
     refine Wp.seqR fun K21 hK21=>?_
     simp only [go_sem,simprocAttr,hxs_18]
     first | apply hK21 | refine ⟨by first | exact sd | ((repeat' apply And.intro) <;> first | assumption | omega | (simp only [List.length_append,List.length_map,List.length_cons,List.length_nil,List.length_set,List.length_replicate] at c_40 ⊢; omega)),hK21 _ _ ?_⟩
     refine Wp.block ?_
     obtain ⟨k_50,hk_50,hm⟩:=forL_cont hm
     refine Wp.fact 63 fun hl_53=>?_
     replace hl_53:(List.drop 1 elems_1).length≤274877906944:=by
      simp only [go_sem,simprocAttr,List.length_map] at hl_53
      omega
     refine Wp.forL (fun i_52 s=>[(1,.p (.s sep_2)),(8,.ptr 0 0),(63,.p (.l (List.map ecS (List.drop 1 elems_1)))),(64,.p (.i .i64 ((List.drop 1 elems_1).length:Int))),(65,.p (.i .i64 (i_52:Int)))]) (fun i_52 s=>[.cells 211 [.np 0,.buf 1],.sb 5 s]) ?_ hm ?_
     ·
      simp only [go_sem,simprocAttr,hxs_18]
      try exact se2
     clear hm
     intro i_52 o1_46 hii_52 hm
     try dsimp only at hm
     try dsimp only
     refine Wp.seqR fun K22 hK22=>?_
     simp only [go_sem,simprocAttr,hxs_18]
     first | apply hK22 | refine ⟨sd,hK22 _ _ ?_⟩
     refine Wp.seqW fun K23 hK23 hW23=>?_
     refine Wp.cond rfl ⟨⟩ (fun hc23=>?_) (fun hc23=>?_)
     rotate_left
     ·refine Wp.exit ?_
      have hm:=hk_50 _ (forL_end hm (ge_nat (by first | exact hc23 | simpa using hc23)))
      try dsimp only at hm
      refine hW18 _ _ _ _ ?_ (hcut18 o1_46 hm)
      simp only [go_sem,simprocAttr,hxs_18]
      try exact se2
     have hlt23:=lt_nat (by first | exact hc23 | simpa using hc23)
     have hw23:=wrap_succ hlt23 hl_53
     obtain ⟨s_54,nx_51,hxs_54,hys_54,hnx_51,hm⟩:=forL_step hm hlt23
     replace hxs_54:=hxs_54 ecS
     refine Wp.skip ?_
     simp only [thenQ]
     refine hK23 _ _ ?_
     refine Wp.seqW fun K24 hK24 hW24=>?_
     refine Wp.block ?_
     refine Wp.seqR fun K25 hK25=>?_
     simp only [go_sem,simprocAttr,hxs_18,hw23,hxs_54]
     first | apply hK25 | refine ⟨sd,hK25 _ _ ?_⟩
     obtain ⟨r_55,hr_55,hm⟩:=call_elim hm
     refine Wp.seqR fun K26 hK26=>?_
     simp only [go_sem,simprocAttr,hxs_18,hw23,hxs_54]
     try refine ⟨sd,?_⟩
     refine Rg.callO (av:=?av27) [0,1] (ok_strings_Builder_WriteString_i1 sep_2 o1_46 _ hr_55) (by simp only [go_sem,simprocAttr,hxs_18,hw23,hxs_54]; exact Is.mk) (by simp only [go_sem,simprocAttr,hxs_18,hw23,hxs_54]; exact Is.mk) (by simp only [go_sem,simprocAttr,hxs_18,hw23,hxs_54]; exact Is.mk) (by simp only [go_sem,simprocAttr,hxs_18,hw23,hxs_54]) (by simp only [go_sem,simprocAttr,hxs_18,hw23,hxs_54]) ?cont27
     rintro _ _ ⟨rfl,rfl⟩ hv27
     simp only [go_sem,simprocAttr,hxs_18,hw23,hxs_54]
     first | apply hK26 | refine ⟨sd,hK26 _ _ ?_⟩
     obtain ⟨r_56,hr_56,hm⟩:=call_elim hm
     refine Wp.region fun K28 hK28=>?_
     simp only [go_sem,simprocAttr,hxs_18,hw23,hxs_54]
     try refine ⟨sd,?_⟩
     refine Rg.callO (av:=?av29) [0,1] (ok_strings_Builder_WriteString_i1 s_54 r_55.2 _ hr_56) (by simp only [go_sem,simprocAttr,hxs_18,hw23,hxs_54]; exact Is.mk) (by simp only [go_sem,simprocAttr,hxs_18,hw23,hxs_54]; exact Is.mk) (by simp only [go_sem,simprocAttr,hxs_18,hw23,hxs_54]; exact Is.mk) (by simp only [go_sem,simprocAttr,hxs_18,hw23,hxs_54]) (by simp only [go_sem,simprocAttr,hxs_18,hw23,hxs_54]) ?cont29
     rintro _ _ ⟨rfl,rfl⟩ hv29
     simp only [go_sem,simprocAttr,hxs_18,hw23,hxs_54]
     first | apply hK28 | refine ⟨sd,hK28 _ _ ?_⟩
     refine hK24 _ _ ?_
     refine Wp.region fun K30 hK30=>?_
     simp only [go_sem,simprocAttr,hxs_18,hw23,hxs_54]
     first | apply hK30 | refine ⟨sd,hK30 _ _ ?_⟩
     simp only [thenQ,blockQ,↓reduceIte]
     refine ⟨r_56.2,hlt23,hnx_51 _ hm,?_⟩
     simp only [go_sem,simprocAttr,hxs_18,hw23,hxs_54]
     try exact se2
    clear hK12 hk_16
    refine qS ?_
    refine Wp.block ?_
    obtain ⟨k_60,hk_60,hm⟩:=forL_cont hm
    refine Wp.fact 0 fun hl_63=>?_
    replace hl_63:elems_1.length≤274877906944:=by
     simp only [go_sem,simprocAttr,List.length_map] at hl_63
     omega
    refine Wp.forL (fun i_62 s=>[(0,.p (.l (List.map ecS elems_1))),(1,.p (.s sep_2)),(5,.p (.i .i64 s)),(39,.p (.l (List.map ecS elems_1))),(40,.p (.i .i64 (elems_1.length:Int))),(41,.p (.i .i64 (i_62:Int)))]) (fun i_62 s=>[]) ?_ hm ?_
    ·
     exact fse2
    clear hm
    intro i_62 n_57 hii_62 hm
    try dsimp only at hm
    try dsimp only
    refine qS ?_
    refine Wp.seqW fun K33 hK33 hW33=>?_
    refine Wp.cond rfl ⟨⟩ (fun hc33=>?_) (fun hc33=>?_)
    rotate_left
    ·refine Wp.exit ?_
     have hm:=hk_60 _ (forL_end hm (ge_nat (by first | exact hc33 | simpa using hc33)))
     try dsimp only at hm
     refine hW12 _ _ _ _ ?_ (hcut12 n_57 hm)
     exact fse2
    have hlt33:=lt_nat (by first | exact hc33 | simpa using hc33)
    have hw33:=wrap_succ hlt33 hl_63
    obtain ⟨s_64,nx_61,hxs_64,hys_64,hnx_61,hm⟩:=forL_step hm hlt33
    replace hxs_64:=hxs_64 ecS
    refine Wp.skip ?_
    simp only [thenQ]
    refine hK33 _ _ ?_
    refine Wp.seqW fun K34 hK34 hW34=>?_
    refine Wp.block ?_
    refine Wp.seqR fun K35 hK35=>?_
    simp only [go_sem,simprocAttr,hw33,hxs_64]
    first | apply hK35 | refine ⟨sd,hK35 _ _ ?_⟩
    refine Wp.seqW fun K36 hK36 hW36=>?_
    refine Wp.seqR fun K37 hK37=>?_
    simp only [go_sem,simprocAttr,hw33,hxs_64]
    first | apply hK37 | refine ⟨sd,hK37 _ _ ?_⟩
    refine cM hm (fun hc38 hm=>?_) (fun hc38 hm=>?_)
    ·cases hm
    ·refine Wp.skip ?_
     refine hK36 _ _ ?_
     refine Wp.region fun K39 hK39=>?_
     simp only [go_sem,simprocAttr,hw33,hxs_64]
     first | apply hK39 | refine ⟨sd,hK39 _ _ ?_⟩
     refine hK34 _ _ ?_
     refine Wp.region fun K40 hK40=>?_
     simp only [go_sem,simprocAttr,hw33,hxs_64]
     first | apply hK40 | refine ⟨sd,hK40 _ _ ?_⟩
     simp only [thenQ,blockQ,↓reduceIte]
     refine ⟨IntKind.i64.wrap (n_57+(s_64.length:Int)),hlt33,hnx_61 _ hm,?_⟩
     simp only [go_sem,simprocAttr,hw33,hxs_64]
     try exact se2
   clear hK11 hk_6
   refine qS ?_
   refine cM hm (fun hc42 hm=>?_) (fun hc42 hm=>?_)
   ·refine Wp.seqW fun K43 hK43 hW43=>?_
    obtain ⟨c_65,hm⟩:=chk_elim hm
    refine Wp.seqR fun K44 hK44=>?_
    simp only [go_sem,simprocAttr]
    first | apply hK44 | refine ⟨by first | exact sd | ((repeat' apply And.intro) <;> first | assumption | omega | (simp only [List.length_append,List.length_map,List.length_cons,List.length_nil,List.length_set,List.length_replicate] at c_65 ⊢; omega)),hK44 _ _ ?_⟩
    refine cM hm (fun hc45 hm=>?_) (fun hc45 hm=>?_)
    ·cases hm
    ·refine Wp.skip ?_
     refine hK43 _ _ ?_
     refine qR ?_
     refine hW11 _ _ _ _ ?_ (hcut11 (IntKind.i64.wrap (0+(IntKind.i64.wrap ((sep_2.length:Int) * (IntKind.i64.wrap ((elems_1.length:Int) - 1)))))) hm)
     exact fse2
   ·refine Wp.skip ?_
    refine hW11 _ _ _ _ ?_ (hcut11 0 hm)
    exact fse2
theorem ok_internal_stringslite_Cut (s_1:Str) (sep_2:Str) (z:Str × Str × Bool) (hm:internal_stringslite_Cut s_1 sep_2=some z):Does Tryz.prog 243 [.p (.s s_1),.p (.s sep_2)] [] (fun r X=>r=.tup [.p (.s z.1),.p (.s z.2.1),.p (.b z.2.2)]∧X=[]):=by
 unfold internal_stringslite_Cut at hm
 refine Does.of_wp 0 23 [.tmp 4,.tmp 5,.tmp 6] Tryz.func243 rfl (by decide) rfl rfl (Nat.le_of_ble_eq_true rfl) fun B=>?_
 refine qS ?_
 refine Wp.seqW fun K2 hK2 hW2=>?_
 obtain ⟨r_3,hr_3,hm⟩:=call_elim hm
 refine Wp.seqR fun K3 hK3=>?_
 simp only [go_sem,simprocAttr]
 try refine ⟨sd,?_⟩
 refine Rg.callX (av:=?av4) (g:=true) (fun hg=>ok_internal_stringslite_Index s_1 sep_2 _ hr_3) si si si sg si ?cont4
 intro hv4
 simp only [go_sem,simprocAttr]
 first | apply hK3 | refine ⟨sd,hK3 _ _ ?_⟩
 refine qS ?_
 refine cM hm (fun hc6 hm=>?_) (fun hc6 hm=>?_)
 ·obtain ⟨c_4,hm⟩:=chk_elim hm
  obtain ⟨c_5,hm⟩:=chk_elim hm
  refine Wp.seqD (plan:=pl [(0,none),(1,none),(2,none),(3,none),(4,none),(5,none),(6,none),(7,none),(8,none),(9,none),(10,none),(11,none)]) (by kernel_rfl) rfl (by kernel_rfl) fun K7 hK7=>?_
  simp only [go_sem,simprocAttr]
  first | apply hK7 | refine ⟨by first | exact sd | ((repeat' apply And.intro) <;> first | assumption | omega | (simp only [List.length_append,List.length_map,List.length_cons,List.length_nil,List.length_set,List.length_replicate] at c_4 c_5 ⊢; omega)),hK7 _ _ ?_⟩
  refine Wp.ret ?_
  refine retQ_ret ?_
  cases hm
  exact fse2
 ·refine Wp.skip ?_
  refine hK2 _ _ ?_
  refine qS ?_
  refine Wp.ret ?_
  refine retQ_ret ?_
  cases hm
  exact fse2
theorem ok_strings_Cut (s_1:Str) (sep_2:Str) (z:Str × Str × Bool) (hm:strings_Cut s_1 sep_2=some z):Does Tryz.prog 190 [.p (.s s_1),.p (.s sep_2)] [] (fun r X=>r=.tup [.p (.s z.1),.p (.s z.2.1),.p (.b z.2.2)]∧X=[]):=by
 unfold strings_Cut at hm
 refine Does.of_wp 0 13 [.tmp 4,.tmp 5,.tmp 6] Tryz.func190 rfl (by decide) rfl rfl (Nat.le_of_ble_eq_true rfl) fun B=>?_
 refine qS ?_
 obtain ⟨r_3,hr_3,hm⟩:=call_elim hm
 refine Wp.seqR fun K2 hK2=>?_
 simp only [go_sem,simprocAttr]
 try refine ⟨sd,?_⟩
 refine Rg.callX (av:=?av3) (g:=true) (fun hg=>ok_internal_stringslite_Cut s_1 sep_2 _ hr_3) si si si sg si ?cont3
 intro hv3
 simp only [go_sem,simprocAttr]
 first | apply hK2 | refine ⟨sd,hK2 _ _ ?_⟩
 refine Wp.ret ?_
 refine retQ_ret ?_
 cases hm
 exact fse2
theorem ok_strings_IndexByte (s_1:Str) (c_2:Int) (z:Int) (hm:strings_IndexByte s_1 c_2=some z):Does Tryz.prog 325 [.p (.s s_1),.p (.i .u8 c_2)] [] (fun r X=>r=.p (.i .i64 z)∧X=[]):=by
 unfold strings_IndexByte at hm
 refine Does.of_wp 0 8 [.tmp 4] Tryz.func325 rfl (by decide) rfl rfl (Nat.le_of_ble_eq_true rfl) fun B=>?_
 refine qS ?_
 obtain ⟨r_3,hr_3,hm⟩:=call_elim hm
 refine Wp.seqR fun K2 hK2=>?_
 simp only [go_sem,simprocAttr]
 try refine ⟨sd,?_⟩
 refine Rg.callX (av:=?av3) (g:=true) (fun hg=>ok_internal_stringslite_IndexByte s_1 c_2 _ hr_3) si si si sg si ?cont3
 intro hv3
 simp only [go_sem,simprocAttr]
 first | apply hK2 | refine ⟨sd,hK2 _ _ ?_⟩
 refine Wp.ret ?_
 refine retQ_ret ?_
 cases hm
 exact fse3
theorem ok_disk_escape (s_1:Str) (z:Int × Int) (hm:disk_escape s_1=some z):Does Tryz.prog 323 [.p (.s s_1)] [] (fun r X=>r=.tup [.p (.i .u8 z.1),.p (.i .i64 z.2)]∧X=[]):=by
 unfold disk_escape at hm
 refine Does.of_wp 0 61 [.tmp 2,.tmp 3] Tryz.func323 rfl (by decide) rfl rfl (Nat.le_of_ble_eq_true rfl) fun B=>?_
 refine qS ?_
 refine Wp.seqW fun K2 hK2 hW2=>?_
 refine Wp.block ?_
 refine qS ?_
 refine cM hm (fun hc4 hm=>?_) (fun hc4 hm=>?_)
 ·refine qS ?_
  refine Wp.ret ?_
  refine retQ_ret ?_
  cases hm
  exact fse3
 ·obtain ⟨c_2,hbc_2,hxc_2,hm⟩:=idxS_elim hm
  replace hxc_2:((s_1.getD 0 0).toNat:Int)=c_2:=hxc_2
  refine Wp.seqR fun K6 hK6=>?_
  simp only [go_sem,simprocAttr,hxc_2]
  first | apply hK6 | refine ⟨sd,hK6 _ _ ?_⟩
  refine cM hm (fun hc7 hm=>?_) (fun hc7 hm=>?_)
  ·refine Wp.seqR fun K8 hK8=>?_
   simp only [go_sem,simprocAttr,hxc_2]
   first | apply hK8 | refine ⟨sd,hK8 _ _ ?_⟩
   refine Wp.ret ?_
   refine retQ_ret ?_
   cases hm
   simp only [go_sem,simprocAttr,hxc_2]
   try exact se3
  ·refine Wp.seqR fun K9 hK9=>?_
   simp only [go_sem,simprocAttr,hxc_2]
   first | apply hK9 | refine ⟨sd,hK9 _ _ ?_⟩
   refine cM hm (fun hc10 hm=>?_) (fun hc10 hm=>?_)
   ·refine Wp.seqR fun K11 hK11=>?_
    simp only [go_sem,simprocAttr,hxc_2]
    first | apply hK11 | refine ⟨sd,hK11 _ _ ?_⟩
    refine Wp.ret ?_
    refine retQ_ret ?_
    cases hm
    simp only [go_sem,simprocAttr,hxc_2]
    try exact se3
   ·refine Wp.seqR fun K12 hK12=>?_
    simp only [go_sem,simprocAttr,hxc_2]
    first | apply hK12 | refine ⟨sd,hK12 _ _ ?_⟩
    refine cM hm (fun hc13 hm=>?_) (fun hc13 hm=>?_)
    ·refine Wp.seqR fun K14 hK14=>?_
     simp only [go_sem,simprocAttr,hxc_2]
     first | apply hK14 | refine ⟨sd,hK14 _ _ ?_⟩
     refine Wp.ret ?_
     refine retQ_ret ?_
     cases hm
     simp only [go_sem,simprocAttr,hxc_2]
     try exact se3
    ·refine Wp.skip ?_
     refine hK2 _ _ ?_
     obtain ⟨c_3,hbc_3,hxc_3,hm⟩:=idxS_elim hm
     replace hxc_3:((s_1.getD 1 0).toNat:Int)=c_3:=hxc_3
     obtain ⟨r_4,hr_4,hm⟩:=call_elim hm
     obtain ⟨c_5,hbc_5,hxc_5,hm⟩:=idxS_elim hm
     replace hxc_5:((s_1.getD 2 0).toNat:Int)=c_5:=hxc_5
     obtain ⟨r_6,hr_6,hm⟩:=call_elim hm
     refine Wp.seqD (plan:=pl [(0,none),(1,none),(2,none),(3,none),(4,none),(5,none),(6,none),(7,none)]) (by kernel_rfl) rfl (by kernel_rfl) fun K15 hK15=>?_
     simp only [go_sem,simprocAttr,hxc_2,hxc_3,hxc_5]
     try refine ⟨sd,?_⟩
     refine Dr.callF (av:=?av16) (g:=true) (o:=?o16) (fun hg=>ok_strings_IndexByte ([48,49,50,51,52,53,54,55,56,57,97,98,99,100,101,102]:Str) c_3 _ hr_4) (by simp only [go_sem,simprocAttr,hxc_2,hxc_3,hxc_5]; exact Is.mk) (by simp only [go_sem,simprocAttr,hxc_2,hxc_3,hxc_5]; exact Is.mk) (by simp only [go_sem,simprocAttr,hxc_2,hxc_3,hxc_5]; exact Is.mk) (by simp only [go_sem,simprocAttr,hxc_2,hxc_3,hxc_5]; exact Is.mk) (by simp only [go_sem,simprocAttr,hxc_2,hxc_3,hxc_5]) (by simp only [go_sem,simprocAttr,hxc_2,hxc_3,hxc_5]; exact Is.mk) ?cont16
     simp only [go_sem,simprocAttr,hxc_2,hxc_3,hxc_5]
     try refine ⟨sd,?_⟩
     refine Dr.callF (av:=?av17) (g:=true) (o:=?o17) (fun hg=>ok_strings_IndexByte ([48,49,50,51,52,53,54,55,56,57,97,98,99,100,101,102]:Str) c_5 _ hr_6) (by simp only [go_sem,simprocAttr,hxc_2,hxc_3,hxc_5]; exact Is.mk) (by simp only [go_sem,simprocAttr,hxc_2,hxc_3,hxc_5]; exact Is.mk) (by simp only [go_sem,simprocAttr,hxc_2,hxc_3,hxc_5]; exact Is.mk) (by simp only [go_sem,simprocAttr,hxc_2,hxc_3,hxc_5]; exact Is.mk) (by simp only [go_sem,simprocAttr,hxc_2,hxc_3,hxc_5]) (by simp only [go_sem,simprocAttr,hxc_2,hxc_3,hxc_5]; exact Is.mk) ?cont17
     simp only [go_sem,simprocAttr,hxc_2,hxc_3,hxc_5]
     first | apply hK15 | refine ⟨sd,hK15 _ _ ?_⟩
     refine Wp.seqW fun K18 hK18 hW18=>?_
     refine Wp.seqR fun K19 hK19=>?_
     simp only [go_sem,simprocAttr,hxc_2,hxc_3,hxc_5]
     first | apply hK19 | refine ⟨sd,hK19 _ _ ?_⟩
     refine cM hm (fun hc20 hm=>?_) (fun hc20 hm=>?_)
     ·refine Wp.seqR fun K21 hK21=>?_
      simp only [go_sem,simprocAttr,hxc_2,hxc_3,hxc_5]
      first | apply hK21 | refine ⟨sd,hK21 _ _ ?_⟩
      refine Wp.ret ?_
      refine retQ_ret ?_
      cases hm
      simp only [go_sem,simprocAttr,hxc_2,hxc_3,hxc_5]
      try exact se3
     ·refine Wp.skip ?_
      refine hK18 _ _ ?_
      refine Wp.seqR fun K22 hK22=>?_
      simp only [go_sem,simprocAttr,hxc_2,hxc_3,hxc_5]
      first | apply hK22 | refine ⟨sd,hK22 _ _ ?_⟩
      refine Wp.seqW fun K23 hK23 hW23=>?_
      refine Wp.seqR fun K24 hK24=>?_
      simp only [go_sem,simprocAttr,hxc_2,hxc_3,hxc_5]
      first | apply hK24 | refine ⟨sd,hK24 _ _ ?_⟩
      refine cM hm (fun hc25 hm=>?_) (fun hc25 hm=>?_)
      ·refine Wp.seqR fun K26 hK26=>?_
       simp only [go_sem,simprocAttr,hxc_2,hxc_3,hxc_5]
       first | apply hK26 | refine ⟨sd,hK26 _ _ ?_⟩
       refine Wp.ret ?_
       refine retQ_ret ?_
       cases hm
       simp only [go_sem,simprocAttr,hxc_2,hxc_3,hxc_5]
       try exact se3
      ·refine Wp.skip ?_
       refine hK23 _ _ ?_
       refine Wp.seqR fun K27 hK27=>?_
       simp only [go_sem,simprocAttr,hxc_2,hxc_3,hxc_5]
       first | apply hK27 | refine ⟨sd,hK27 _ _ ?_⟩
       refine Wp.ret ?_
       refine retQ_ret ?_
       cases hm
       simp only [go_sem,simprocAttr,hxc_2,hxc_3,hxc_5]
       try exact se3
theorem ok_disk_Unquote (s_1:Str) (z:Str × Int) (hm:disk_Unquote s_1=some z):Does Tryz.prog 304 [.p (.s s_1)] [] (fun r X=>r=.tup [.p (.s z.1),.p (.i .i64 z.2)]∧X=[]):=by
 unfold disk_Unquote at hm
 refine Does.of_wp 0 74 [.tmp 2,.tmp 3] Tryz.func304 rfl (by decide) rfl rfl (Nat.le_of_ble_eq_true rfl) fun B=>?_
 refine qS ?_
 refine Wp.seqW fun K2 hK2 hW2=>?_
 obtain ⟨c_2,hm⟩:=chk_elim hm
 obtain ⟨c_3,hm⟩:=chk_elim hm
 refine Wp.seqR fun K3 hK3=>?_
 simp only [go_sem,simprocAttr]
 first | apply hK3 | refine ⟨by first | exact sd | ((repeat' apply And.intro) <;> first | assumption | omega | (simp only [List.length_append,List.length_map,List.length_cons,List.length_nil,List.length_set,List.length_replicate] at c_2 c_3 ⊢; omega)),hK3 _ _ ?_⟩
 refine cM hm (fun hc4 hm=>?_) (fun hc4 hm=>?_)
 ·refine qS ?_
  refine Wp.ret ?_
  refine retQ_ret ?_
  cases hm
  exact fse3
 ·refine Wp.skip ?_
  refine hK2 _ _ ?_
  obtain ⟨c_4,hm⟩:=chk_elim hm
  refine Wp.seqR fun K6 hK6=>?_
  simp only [go_sem,simprocAttr]
  first | apply hK6 | refine ⟨by first | exact sd | ((repeat' apply And.intro) <;> first | assumption | omega | (simp only [List.length_append,List.length_map,List.length_cons,List.length_nil,List.length_set,List.length_replicate] at c_4 ⊢; omega)),hK6 _ _ ?_⟩
  obtain ⟨c_5,hm⟩:=chk_elim hm
  refine Wp.seqR fun K7 hK7=>?_
  simp only [go_sem,simprocAttr]
  first | apply hK7 | refine ⟨by first | exact sd | ((repeat' apply And.intro) <;> first | assumption | omega | (simp only [List.length_append,List.length_map,List.length_cons,List.length_nil,List.length_set,List.length_replicate] at c_5 ⊢; omega)),hK7 _ _ ?_⟩
  refine Wp.seqW fun K8 hK8 hW8=>?_
  obtain ⟨k_27,hk_27,hm⟩:=jp_elim hm
  have hcut8:∀ s,k_27 s=some z→K8 [(4,.buf 0)] [.buf 5 1 (List.map ecI_u8 s)]:=by
   intro o0_26 hs
   have hm:=hk_27 _ hs
   clear hs
   try dsimp only at hm
   try dsimp only
   refine hK8 _ _ ?_
   refine qS ?_
   refine Wp.ret ?_
   refine retQ_ret ?_
   cases hm
   exact fse3
  clear hK8 hk_27
  refine qS ?_
  refine Wp.block ?_
  obtain ⟨k_41,hk_41,hm⟩:=loopN_cont hm
  refine Wp.loopN (fun s=>[(0,.p (.s (List.take ((IntKind.i64.wrap ((s_1.length:Int) - 1)).toNat - 1) (List.drop 1 s_1)))),(4,.buf 0),(5,.p (.i .i64 s.1))]) (fun s=>[.buf 5 1 (List.map ecI_u8 s.2)]) ?_ hm ?_
  ·
   exact fse3
  clear hm
  intro s nx_42 hm
  obtain ⟨i_34,o0_35⟩:=s
  try dsimp only at hm
  try dsimp only
  refine Wp.seqW fun K11 hK11 hW11=>?_
  refine qS ?_
  refine cM hm (fun hc13 hm=>?_) (fun hc13 hm=>?_)
  ·refine Wp.skip ?_
   refine hK11 _ _ ?_
   refine Wp.seqW fun K14 hK14 hW14=>?_
   refine Wp.block ?_
   obtain ⟨c_43,hbc_43,hxc_43,hm⟩:=idxS_elim hm
   replace hxc_43:(((List.take ((IntKind.i64.wrap ((s_1.length:Int) - 1)).toNat - 1) (List.drop 1 s_1)).getD i_34.toNat 0).toNat:Int)=c_43:=hxc_43
   refine Wp.seqR fun K15 hK15=>?_
   simp only [go_sem,simprocAttr,hxc_43]
   first | apply hK15 | refine ⟨sd,hK15 _ _ ?_⟩
   refine Wp.seqW fun K16 hK16 hW16=>?_
   refine Wp.seqR fun K17 hK17=>?_
   simp only [go_sem,simprocAttr,hxc_43]
   first | apply hK17 | refine ⟨sd,hK17 _ _ ?_⟩
   refine cM hm (fun hc18 hm=>?_) (fun hc18 hm=>?_)
   ·refine Wp.seqR fun K19 hK19=>?_
    simp only [go_sem,simprocAttr,hxc_43]
    first | apply hK19 | refine ⟨sd,hK19 _ _ ?_⟩
    refine Wp.ret ?_
    refine retQ_ret ?_
    cases hm
    simp only [go_sem,simprocAttr,hxc_43]
    try exact se3
   ·refine Wp.skip ?_
    refine hK16 _ _ ?_
    refine Wp.seqW fun K20 hK20 hW20=>?_
    refine Wp.seqR fun K21 hK21=>?_
    simp only [go_sem,simprocAttr,hxc_43]
    first | apply hK21 | refine ⟨sd,hK21 _ _ ?_⟩
    refine cM hm (fun hc22 hm=>?_) (fun hc22 hm=>?_)
    ·obtain ⟨c_44,hm⟩:=chk_elim hm
     obtain ⟨r_45,hr_45,hm⟩:=call_elim hm
     refine Wp.seqR fun K23 hK23=>?_
     simp only [go_sem,simprocAttr,hxc_43]
     try refine ⟨by first | exact sd | ((repeat' apply And.intro) <;> first | assumption | omega | (simp only [List.length_append,List.length_map,List.length_cons,List.length_nil,List.length_set,List.length_replicate] at c_44 ⊢; omega)),?_⟩
     refine Rg.callX (av:=?av24) (g:=true) (fun hg=>ok_disk_escape (List.drop ((IntKind.i64.wrap (i_34+1)).toNat) (List.take ((IntKind.i64.wrap ((s_1.length:Int) - 1)).toNat - 1) (List.drop 1 s_1))) _ hr_45) (by simp only [go_sem,simprocAttr,hxc_43]; exact Is.mk) (by simp only [go_sem,simprocAttr,hxc_43]; exact Is.mk) (by simp only [go_sem,simprocAttr,hxc_43]; exact Is.mk) (by simp only [go_sem,simprocAttr,hxc_43]) (by simp only [go_sem,simprocAttr,hxc_43]; exact Is.mk) ?cont24
     intro hv24
     simp only [go_sem,simprocAttr,hxc_43]
     first | apply hK23 | refine ⟨by first | exact sd | ((repeat' apply And.intro) <;> first | assumption | omega | (simp only [List.length_append,List.length_map,List.length_cons,List.length_nil,List.length_set,List.length_replicate] at c_44 ⊢; omega)),hK23 _ _ ?_⟩
     refine Wp.seqW fun K25 hK25 hW25=>?_
     refine Wp.seqR fun K26 hK26=>?_
     simp only [go_sem,simprocAttr,hxc_43]
     first | apply hK26 | refine ⟨sd,hK26 _ _ ?_⟩
     refine cM hm (fun hc27 hm=>?_) (fun hc27 hm=>?_)
     ·refine Wp.seqR fun K28 hK28=>?_
      simp only [go_sem,simprocAttr,hxc_43]
      first | apply hK28 | refine ⟨sd,hK28 _ _ ?_⟩
      refine Wp.ret ?_
      refine retQ_ret ?_
      cases hm
      simp only [go_sem,simprocAttr,hxc_43]
      try exact se3
     ·refine Wp.skip ?_
      refine hK25 _ _ ?_
      refine Wp.region fun K29 hK29=>?_
      simp only [go_sem,simprocAttr,hxc_43]
      first | apply hK29 | refine ⟨sd,hK29 _ _ ?_⟩
      refine hK20 _ _ ?_
      obtain ⟨c_46,hm⟩:=chk_elim hm
      refine Wp.region fun K30 hK30=>?_
      simp only [go_sem,simprocAttr,hxc_43]
      first | apply hK30 | refine ⟨by first | exact sd | ((repeat' apply And.intro) <;> first | assumption | omega | (simp only [List.length_append,List.length_map,List.length_cons,List.length_nil,List.length_set,List.length_replicate] at c_46 ⊢; omega)),hK30 _ _ ?_⟩
      refine hK14 _ _ ?_
      refine Wp.region fun K31 hK31=>?_
      simp only [go_sem,simprocAttr,hxc_43]
      first | apply hK31 | refine ⟨sd,hK31 _ _ ?_⟩
      simp only [thenQ,blockQ,↓reduceIte]
      refine ⟨(IntKind.i64.wrap ((IntKind.i64.wrap (i_34+r_45.2))+1),o0_35++[r_45.1]),hm,?_⟩
      simp only [go_sem,simprocAttr,hxc_43]
      try exact se3
    ·refine Wp.skip ?_
     refine hK20 _ _ ?_
     obtain ⟨c_47,hm⟩:=chk_elim hm
     refine Wp.region fun K32 hK32=>?_
     simp only [go_sem,simprocAttr,hxc_43]
     first | apply hK32 | refine ⟨by first | exact sd | ((repeat' apply And.intro) <;> first | assumption | omega | (simp only [List.length_append,List.length_map,List.length_cons,List.length_nil,List.length_set,List.length_replicate] at c_47 ⊢; omega)),hK32 _ _ ?_⟩
     refine hK14 _ _ ?_
     refine Wp.region fun K33 hK33=>?_
     simp only [go_sem,simprocAttr,hxc_43]
     first | apply hK33 | refine ⟨sd,hK33 _ _ ?_⟩
     simp only [thenQ,blockQ,↓reduceIte]
     refine ⟨(IntKind.i64.wrap (i_34+1),o0_35++[c_43]),hm,?_⟩
     simp only [go_sem,simprocAttr,hxc_43]
     try exact se3
  ·refine Wp.exit ?_
   simp only [thenQ,blockQ,↓reduceIte]
   have hm:=hk_41 _ hm
   try dsimp only at hm
   refine hW8 _ _ _ _ ?_ (hcut8 o0_35 hm)
   exact fse3
theorem ok_disk_isBit (s_1:Str) (z:Bool) (hm:disk_isBit s_1=some z):Does Tryz.prog 305 [.p (.s s_1)] [] (fun r X=>r=.p (.b z)∧X=[]):=by
 unfold disk_isBit at hm
 refine Does.of_wp 0 9 [.tmp 2] Tryz.func305 rfl (by decide) rfl rfl (Nat.le_of_ble_eq_true rfl) fun B=>?_
 refine qS ?_
 refine qS ?_
 refine Wp.ret ?_
 refine retQ_ret ?_
 cases hm
 exact fse3
theorem ok_disk_readLine (s_1:Str) (z:disk_line × Bool) (hm:disk_readLine s_1=some z):Does Tryz.prog 270 [.p (.s s_1)] [] (fun r X=>r=.tup [.agg [.p (.s z.1.word),.p (.s z.1.file.Path),.p (.s z.1.file.Data),.p (.b z.1.file.Runs),.p (.s z.1.setting.Key),.p (.s z.1.setting.Value),.p (.s z.1.service.Name),.p (.s z.1.service.Path),.p (.b z.1.service.Auto),.p (.b z.1.service.On)],.p (.b z.2)]∧X=[]):=by
 unfold disk_readLine at hm
 refine Does.of_wp 0 147 [.cell 2 264,.tmp 3] Tryz.func270 rfl (by decide) rfl rfl (Nat.le_of_ble_eq_true rfl) fun B=>?_
 refine qS ?_
 obtain ⟨r_2,hr_2,hm⟩:=call_elim hm
 refine Wp.seqR fun K2 hK2=>?_
 simp only [go_sem,simprocAttr]
 try refine ⟨sd,?_⟩
 refine Rg.callX (av:=?av3) (g:=true) (fun hg=>ok_strings_Cut s_1 ([32]:Str) _ hr_2) si si si sg si ?cont3
 intro hv3
 simp only [go_sem,simprocAttr]
 first | apply hK2 | refine ⟨sd,hK2 _ _ ?_⟩
 obtain ⟨r_3,hr_3,hm⟩:=call_elim hm
 refine Wp.seqR fun K4 hK4=>?_
 simp only [go_sem,simprocAttr]
 try refine ⟨sd,?_⟩
 refine Rg.callX (av:=?av5) (g:=true) (fun hg=>ok_strings_Cut r_2.2.1 ([32]:Str) _ hr_3) si si si sg si ?cont5
 intro hv5
 simp only [go_sem,simprocAttr]
 first | apply hK4 | refine ⟨sd,hK4 _ _ ?_⟩
 refine Wp.seqW fun K6 hK6 hW6=>?_
 refine qS ?_
 refine cM hm (fun hc8 hm=>?_) (fun hc8 hm=>?_)
 ·refine qS ?_
  refine Wp.ret ?_
  refine retQ_ret ?_
  cases hm
  exact fse3
 ·refine Wp.skip ?_
  refine hK6 _ _ ?_
  refine qS ?_
  refine Wp.seqW fun K11 hK11 hW11=>?_
  refine qS ?_
  refine Wp.block ?_
  refine Wp.seqW fun K13 hK13 hW13=>?_
  obtain ⟨k_5,hk_5,hm⟩:=jp_elim hm
  have hcut13:∀ s,k_5 s=some z→K13 [(2,.ptr 0 0),(4,.p (.s r_2.1)),(7,.p (.s r_3.1)),(8,.p (.s r_3.2.1)),(9,.p (.b r_3.2.2)),(10,.ptr 1 0),(37,.p (.s r_2.1)),(38,.p (.b s))] [.cells 264 [.p (.s []),.p (.s []),.p (.s []),.p (.b false),.p (.s []),.p (.s []),.p (.s []),.p (.s []),.p (.b false),.p (.b false)],.cells 264 [.p (.s r_2.1),.p (.s []),.p (.s []),.p (.b false),.p (.s []),.p (.s []),.p (.s []),.p (.s []),.p (.b false),.p (.b false)]]:=by
   intro t38_4 hs
   have hm:=hk_5 _ hs
   clear hs
   try dsimp only at hm
   try dsimp only
   refine hK13 _ _ ?_
   refine cM hm (fun hc14 hm=>?_) (fun hc14 hm=>?_)
   ·obtain ⟨r_6,hr_6,hm⟩:=call_elim hm
    refine Wp.seqR fun K15 hK15=>?_
    simp only [go_sem,simprocAttr]
    try refine ⟨sd,?_⟩
    refine Rg.callX (av:=?av16) (g:=true) (fun hg=>ok_disk_Unquote r_3.2.1 _ hr_6) si si si sg si ?cont16
    intro hv16
    simp only [go_sem,simprocAttr]
    first | apply hK15 | refine ⟨sd,hK15 _ _ ?_⟩
    refine qS ?_
    refine qS ?_
    refine Wp.ret ?_
    refine retQ_ret ?_
    cases hm
    exact fse3
   ·refine Wp.seqW fun K19 hK19 hW19=>?_
    obtain ⟨k_8,hk_8,hm⟩:=jp_elim hm
    have hcut19:∀ s,k_8 s=some z→K19 [(2,.ptr 0 0),(4,.p (.s r_2.1)),(7,.p (.s r_3.1)),(8,.p (.s r_3.2.1)),(9,.p (.b r_3.2.2)),(10,.ptr 1 0),(37,.p (.s r_2.1)),(56,.p (.b s))] [.cells 264 [.p (.s []),.p (.s []),.p (.s []),.p (.b false),.p (.s []),.p (.s []),.p (.s []),.p (.s []),.p (.b false),.p (.b false)],.cells 264 [.p (.s r_2.1),.p (.s []),.p (.s []),.p (.b false),.p (.s []),.p (.s []),.p (.s []),.p (.s []),.p (.b false),.p (.b false)]]:=by
     intro t56_7 hs
     have hm:=hk_8 _ hs
     clear hs
     try dsimp only at hm
     try dsimp only
     refine hK19 _ _ ?_
     refine cM hm (fun hc20 hm=>?_) (fun hc20 hm=>?_)
     ·obtain ⟨r_9,hr_9,hm⟩:=call_elim hm
      refine Wp.seqR fun K21 hK21=>?_
      simp only [go_sem,simprocAttr]
      try refine ⟨sd,?_⟩
      refine Rg.callX (av:=?av22) (g:=true) (fun hg=>ok_disk_Unquote r_3.2.1 _ hr_9) si si si sg si ?cont22
      intro hv22
      simp only [go_sem,simprocAttr]
      first | apply hK21 | refine ⟨sd,hK21 _ _ ?_⟩
      refine qS ?_
      refine qS ?_
      refine Wp.ret ?_
      refine retQ_ret ?_
      cases hm
      exact fse3
     ·refine qS ?_
      refine cM hm (fun hc26 hm=>?_) (fun hc26 hm=>?_)
      ·obtain ⟨r_10,hr_10,hm⟩:=call_elim hm
       refine Wp.seqR fun K27 hK27=>?_
       simp only [go_sem,simprocAttr]
       try refine ⟨sd,?_⟩
       refine Rg.callF (av:=?av28) (ok_strings_Split r_3.2.1 ([32]:Str) _ hr_10) si si sg ?cont28
       intro hv28
       simp only [go_sem,simprocAttr]
       first | apply hK27 | refine ⟨sd,hK27 _ _ ?_⟩
       refine Wp.seqW fun K29 hK29 hW29=>?_
       obtain ⟨c_11,hm⟩:=chk_elim hm
       obtain ⟨c_12,hm⟩:=chk_elim hm
       obtain ⟨r_13,hr_13,hm⟩:=callG_elim hm
       obtain ⟨c_14,hm⟩:=chk_elim hm
       obtain ⟨r_15,hr_15,hm⟩:=callG_elim hm
       have hr_16:=getD_enc (l:=r_10) (e:=ecS) (d:=[]) (i:=0)
       simp only [ecS,List.map_nil] at hr_16
       have hr_17:=getD_enc (l:=r_10) (e:=ecS) (d:=[]) (i:=1)
       simp only [ecS,List.map_nil] at hr_17
       have hr_18:=getD_enc (l:=r_10) (e:=ecS) (d:=[]) (i:=2)
       simp only [ecS,List.map_nil] at hr_18
       refine Wp.seqR fun K30 hK30=>?_
       simp only [go_sem,simprocAttr,hr_16,hr_17,hr_18]
       try refine ⟨by first | exact sd | ((repeat' apply And.intro) <;> first | assumption | omega | (simp only [List.length_append,List.length_map,List.length_cons,List.length_nil,List.length_set,List.length_replicate] at c_11 c_12 c_14 ⊢; omega)),?_⟩
       refine Rg.callX (av:=?av31) (g:=!(((!r_3.2.2) || (!decide ((r_10.length:Int)=3))) || (decide ((r_10.getD 0 [])=[])))) (fun hg=>ok_disk_isBit (r_10.getD 1 []) _ (hr_13 hg)) (by simp only [go_sem,simprocAttr,hr_16,hr_17,hr_18]; exact Is.mk) (by simp only [go_sem,simprocAttr,hr_16,hr_17,hr_18]; exact Is.mk) (by simp only [go_sem,simprocAttr,hr_16,hr_17,hr_18]; exact Is.mk) (by simp only [go_sem,simprocAttr,hr_16,hr_17,hr_18]) (by simp only [go_sem,simprocAttr,hr_16,hr_17,hr_18]; exact Is.mk) ?cont31
       intro hv31
       simp only [go_sem,simprocAttr,hr_16,hr_17,hr_18]
       try refine ⟨by first | exact sd | ((repeat' apply And.intro) <;> first | assumption | omega | (simp only [List.length_append,List.length_map,List.length_cons,List.length_nil,List.length_set,List.length_replicate] at c_11 c_12 c_14 ⊢; omega)),?_⟩
       refine Rg.callX (av:=?av32) (g:=!((((!r_3.2.2) || (!decide ((r_10.length:Int)=3))) || (decide ((r_10.getD 0 [])=[]))) || (!r_13))) (fun hg=>ok_disk_isBit (r_10.getD 2 []) _ (hr_15 hg)) (by simp only [go_sem,simprocAttr,hr_16,hr_17,hr_18]; exact Is.mk) (by simp only [go_sem,simprocAttr,hr_16,hr_17,hr_18]; exact Is.mk) (by simp only [go_sem,simprocAttr,hr_16,hr_17,hr_18]; exact Is.mk) (by simp only [go_sem,simprocAttr,hr_16,hr_17,hr_18]) (by simp only [go_sem,simprocAttr,hr_16,hr_17,hr_18]; exact Is.mk) ?cont32
       intro hv32
       simp only [go_sem,simprocAttr,hr_16,hr_17,hr_18]
       first | apply hK30 | refine ⟨by first | exact sd | ((repeat' apply And.intro) <;> first | assumption | omega | (simp only [List.length_append,List.length_map,List.length_cons,List.length_nil,List.length_set,List.length_replicate] at c_11 c_12 c_14 ⊢; omega)),hK30 _ _ ?_⟩
       refine cM hm (fun hc33 hm=>?_) (fun hc33 hm=>?_)
       ·refine qS ?_
        refine Wp.ret ?_
        refine retQ_ret ?_
        cases hm
        exact fse3
       ·refine Wp.skip ?_
        refine hK29 _ _ ?_
        obtain ⟨s_19,hbs_19,hxs_19,hys_19,hm⟩:=idx_elim hm
        replace hxs_19:∀ d,(List.map ecS r_10).getD 0 d=ecS s_19:=hxs_19 ecS
        obtain ⟨s_20,hbs_20,hxs_20,hys_20,hm⟩:=idx_elim hm
        replace hxs_20:∀ d,(List.map ecS r_10).getD 1 d=ecS s_20:=hxs_20 ecS
        obtain ⟨s_21,hbs_21,hxs_21,hys_21,hm⟩:=idx_elim hm
        replace hxs_21:∀ d,(List.map ecS r_10).getD 2 d=ecS s_21:=hxs_21 ecS
        refine Wp.seqD (plan:=pl [(0,none),(1,none),(2,none),(3,none),(4,none),(5,none),(6,none),(7,none),(8,none),(9,none),(10,none),(11,none),(12,none),(13,none),(14,some [])]) (by kernel_rfl) rfl (by kernel_rfl) fun K35 hK35=>?_
        simp only [go_sem,simprocAttr,hxs_19,hxs_20,hxs_21]
        first | apply hK35 | refine ⟨sd,hK35 _ _ ?_⟩
        refine Wp.seqR fun K36 hK36=>?_
        simp only [go_sem,simprocAttr,hxs_19,hxs_20,hxs_21]
        first | apply hK36 | refine ⟨sd,hK36 _ _ ?_⟩
        refine Wp.ret ?_
        refine retQ_ret ?_
        cases hm
        simp only [go_sem,simprocAttr,hxs_19,hxs_20,hxs_21]
        try exact se3
      ·refine qS ?_
       refine cM hm (fun hc38 hm=>?_) (fun hc38 hm=>?_)
       ·refine qR ?_
        refine hK11 _ _ ?_
        refine qS ?_
        refine Wp.ret ?_
        refine retQ_ret ?_
        cases hm
        exact fse3
       ·refine qS ?_
        refine cM hm (fun hc42 hm=>?_) (fun hc42 hm=>?_)
        ·refine qR ?_
         refine hK11 _ _ ?_
         refine qS ?_
         refine Wp.ret ?_
         refine retQ_ret ?_
         cases hm
         exact fse3
        ·refine qS ?_
         refine cM hm (fun hc46 hm=>?_) (fun hc46 hm=>?_)
         ·refine qR ?_
          refine hK11 _ _ ?_
          refine qS ?_
          refine Wp.ret ?_
          refine retQ_ret ?_
          cases hm
          exact fse3
         ·refine Wp.skip ?_
          refine hK11 _ _ ?_
          refine qS ?_
          refine Wp.ret ?_
          refine retQ_ret ?_
          cases hm
          exact fse3
    clear hK19 hk_8
    refine qS ?_
    refine cM hm (fun hc51 hm=>?_) (fun hc51 hm=>?_)
    ·refine Wp.skip ?_
     refine hW19 _ _ _ _ ?_ (hcut19 (decide (r_2.1=([102,105,108,101]:Str))) hm)
     exact fse3
    ·refine qS ?_
     refine cM hm (fun hc53 hm=>?_) (fun hc53 hm=>?_)
     ·refine Wp.skip ?_
      refine hW19 _ _ _ _ ?_ (hcut19 (decide (r_2.1=([114,117,110]:Str))) hm)
      exact fse3
     ·refine qS ?_
      refine cM hm (fun hc55 hm=>?_) (fun hc55 hm=>?_)
      ·refine Wp.skip ?_
       refine hW19 _ _ _ _ ?_ (hcut19 (decide (r_2.1=([112,117,116]:Str))) hm)
       exact fse3
      ·refine qR ?_
       refine hW19 _ _ _ _ ?_ (hcut19 (decide (r_2.1=([112,117,116,114,117,110]:Str))) hm)
       exact fse3
  clear hK13 hk_5
  refine qS ?_
  refine cM hm (fun hc58 hm=>?_) (fun hc58 hm=>?_)
  ·refine Wp.skip ?_
   refine hW13 _ _ _ _ ?_ (hcut13 (decide (r_2.1=([102,97,99,116]:Str))) hm)
   exact fse3
  ·refine qR ?_
   refine hW13 _ _ _ _ ?_ (hcut13 (decide (r_2.1=([115,101,116]:Str))) hm)
   exact fse3
theorem ok_disk_changeKind (word_1:Str) (z:Int) (hm:disk_changeKind word_1=some z):Does Tryz.prog 236 [.p (.s word_1)] [] (fun r X=>r=.p (.i .i64 z)∧X=[]):=by
 unfold disk_changeKind at hm
 refine Does.of_wp 0 17 [.tmp 2] Tryz.func236 rfl (by decide) rfl rfl (Nat.le_of_ble_eq_true rfl) fun B=>?_
 refine qS ?_
 refine Wp.seqW fun K2 hK2 hW2=>?_
 refine qS ?_
 refine Wp.block ?_
 refine Wp.seqW fun K4 hK4 hW4=>?_
 obtain ⟨k_3,hk_3,hm⟩:=jp_elim hm
 have hcut4:∀ s,k_3 s=some z→K4 [(3,.p (.s word_1)),(4,.p (.b s))] []:=by
  intro t4_2 hs
  have hm:=hk_3 _ hs
  clear hs
  try dsimp only at hm
  try dsimp only
  refine hK4 _ _ ?_
  refine cM hm (fun hc5 hm=>?_) (fun hc5 hm=>?_)
  ·refine qS ?_
   refine Wp.ret ?_
   refine retQ_ret ?_
   cases hm
   exact fse3
  ·refine qS ?_
   refine cM hm (fun hc8 hm=>?_) (fun hc8 hm=>?_)
   ·refine qS ?_
    refine Wp.ret ?_
    refine retQ_ret ?_
    cases hm
    exact fse3
   ·refine qS ?_
    refine cM hm (fun hc11 hm=>?_) (fun hc11 hm=>?_)
    ·refine qS ?_
     refine Wp.ret ?_
     refine retQ_ret ?_
     cases hm
     exact fse3
    ·refine qS ?_
     refine cM hm (fun hc14 hm=>?_) (fun hc14 hm=>?_)
     ·refine qS ?_
      refine Wp.ret ?_
      refine retQ_ret ?_
      cases hm
      exact fse3
     ·refine qS ?_
      refine cM hm (fun hc17 hm=>?_) (fun hc17 hm=>?_)
      ·refine qS ?_
       refine Wp.ret ?_
       refine retQ_ret ?_
       cases hm
       exact fse3
      ·refine qS ?_
       refine cM hm (fun hc20 hm=>?_) (fun hc20 hm=>?_)
       ·refine qS ?_
        refine Wp.ret ?_
        refine retQ_ret ?_
        cases hm
        exact fse3
       ·refine Wp.skip ?_
        refine hK2 _ _ ?_
        refine qS ?_
        refine Wp.ret ?_
        refine retQ_ret ?_
        cases hm
        exact fse3
 clear hK4 hk_3
 refine qS ?_
 refine cM hm (fun hc24 hm=>?_) (fun hc24 hm=>?_)
 ·refine Wp.skip ?_
  refine hW4 _ _ _ _ ?_ (hcut4 (decide (word_1=([112,117,116]:Str))) hm)
  exact fse3
 ·refine qR ?_
  refine hW4 _ _ _ _ ?_ (hcut4 (decide (word_1=([112,117,116,114,117,110]:Str))) hm)
  exact fse3
theorem ok_disk_ParseChanges_1_i1 (x_1:disk_line) (o1_2:List api_Change) (z:Bool × List api_Change) (hm:disk_ParseChanges_1_i1 x_1 o1_2=some z):Does Tryz.prog 235 [.agg [.p (.s x_1.word),.p (.s x_1.file.Path),.p (.s x_1.file.Data),.p (.b x_1.file.Runs),.p (.s x_1.setting.Key),.p (.s x_1.setting.Value),.p (.s x_1.service.Name),.p (.s x_1.service.Path),.p (.b x_1.service.Auto),.p (.b x_1.service.On)],.ptr 0 0] [.cells 56 [.buf 1],.buf 44 10 (List.map enc_api_Change o1_2)] (fun r X=>r=.p (.b z.1)∧X=[.cells 56 [.buf 1],.buf 44 10 (List.map enc_api_Change z.2)]):=by
 unfold disk_ParseChanges_1_i1 at hm
 refine Does.of_wp 2 21 [.tmp 3] Tryz.func235 rfl (by decide) rfl rfl (Nat.le_of_ble_eq_true rfl) fun B=>?_
 refine qS ?_
 obtain ⟨r_5,hr_5,hm⟩:=call_elim hm
 refine Wp.seqR fun K2 hK2=>?_
 simp only [go_sem,simprocAttr]
 try refine ⟨sd,?_⟩
 refine Rg.callX (av:=?av3) (g:=true) (fun hg=>ok_disk_changeKind x_1.word _ hr_5) si si si sg si ?cont3
 intro hv3
 simp only [go_sem,simprocAttr]
 first | apply hK2 | refine ⟨sd,hK2 _ _ ?_⟩
 obtain ⟨c_6,hm⟩:=chk_elim hm
 refine Wp.seqR fun K4 hK4=>?_
 simp only [go_sem,simprocAttr]
 first | apply hK4 | refine ⟨by first | exact sd | ((repeat' apply And.intro) <;> first | assumption | omega | (simp only [List.length_append,List.length_map,List.length_cons,List.length_nil,List.length_set,List.length_replicate] at c_6 ⊢; omega)),hK4 _ _ ?_⟩
 refine qS ?_
 refine Wp.ret ?_
 refine retQ_ret ?_
 cases hm
 exact fse3
theorem ok_disk_eachLine_i1 (text_1:Str) (o1_2:List api_Change) (z:Int × List api_Change) (hm:disk_eachLine_i1 text_1 o1_2=some z):Does Tryz.prog 234 [.p (.s text_1),.fn 235 [.ptr 0 0]] [.cells 56 [.buf 1],.buf 44 10 (List.map enc_api_Change o1_2)] (fun r X=>r=.p (.i .i64 z.1)∧X=[.cells 56 [.buf 1],.buf 44 10 (List.map enc_api_Change z.2)]):=by
 unfold disk_eachLine_i1 at hm
 refine Does.of_wp 2 40 [.tmp 4] Tryz.func234 rfl (by decide) rfl rfl (Nat.le_of_ble_eq_true rfl) fun B=>?_
 refine qS ?_
 refine Wp.seqW fun K2 hK2 hW2=>?_
 obtain ⟨k_54,hk_54,hm⟩:=jp_elim hm
 have hcut2:∀ s,k_54 s=some z→K2 [] [.cells 56 [.buf 1],.buf 44 10 (List.map enc_api_Change s)]:=by
  intro o1_53 hs
  have hm:=hk_54 _ hs
  clear hs
  try dsimp only at hm
  try dsimp only
  refine hK2 _ _ ?_
  refine qS ?_
  refine Wp.ret ?_
  refine retQ_ret ?_
  cases hm
  exact fse3
 clear hK2 hk_54
 refine qS ?_
 refine Wp.block ?_
 obtain ⟨k_66,hk_66,hm⟩:=loopN_cont hm
 refine Wp.loopN (fun s=>[(0,.p (.s s.1)),(1,.fn 235 [.ptr 0 0]),(5,.p (.i .i64 s.2.1))]) (fun s=>[.cells 56 [.buf 1],.buf 44 10 (List.map enc_api_Change s.2.2)]) ?_ hm ?_
 ·
  exact fse3
 clear hm
 intro s nx_67 hm
 obtain ⟨text_60,n_61,o1_62⟩:=s
 try dsimp only at hm
 try dsimp only
 refine Wp.seqW fun K5 hK5 hW5=>?_
 refine qS ?_
 refine cM hm (fun hc7 hm=>?_) (fun hc7 hm=>?_)
 ·refine Wp.skip ?_
  refine hK5 _ _ ?_
  refine Wp.seqW fun K8 hK8 hW8=>?_
  refine Wp.block ?_
  obtain ⟨r_68,hr_68,hm⟩:=call_elim hm
  refine Wp.seqR fun K9 hK9=>?_
  simp only [go_sem,simprocAttr]
  try refine ⟨sd,?_⟩
  refine Rg.callX (av:=?av10) (g:=true) (fun hg=>ok_strings_Cut text_60 ([10]:Str) _ hr_68) si si si sg si ?cont10
  intro hv10
  simp only [go_sem,simprocAttr]
  first | apply hK9 | refine ⟨sd,hK9 _ _ ?_⟩
  obtain ⟨r_69,hr_69,hm⟩:=call_elim hm
  refine Wp.seqR fun K11 hK11=>?_
  simp only [go_sem,simprocAttr]
  try refine ⟨sd,?_⟩
  refine Rg.callX (av:=?av12) (g:=true) (fun hg=>ok_disk_readLine r_68.1 _ hr_69) si si si sg si ?cont12
  intro hv12
  simp only [go_sem,simprocAttr]
  first | apply hK11 | refine ⟨sd,hK11 _ _ ?_⟩
  refine Wp.seqW fun K13 hK13 hW13=>?_
  obtain ⟨r_70,hr_70,hr_70d,hm⟩:=callG_elim2 hm
  refine Wp.seqR fun K14 hK14=>?_
  simp only [go_sem,simprocAttr]
  try refine ⟨sd,?_⟩
  refine Rg.callGO (av:=?av15) (g:=!((!r_68.2.2) || (!r_69.2))) [0,1] (fun hg=>ok_disk_ParseChanges_1_i1 r_69.1 o1_62 _ (hr_70 hg)) (fun hg=>by obtain rfl:=hr_70d hg; rfl) si si si si sg sg ?cont15
  simp only [go_sem,simprocAttr]
  first | apply hK14 | refine ⟨sd,hK14 _ _ ?_⟩
  refine cM hm (fun hc16 hm=>?_) (fun hc16 hm=>?_)
  ·refine qS ?_
   refine Wp.ret ?_
   refine retQ_ret ?_
   cases hm
   exact fse3
  ·refine Wp.skip ?_
   refine hK13 _ _ ?_
   refine qR ?_
   refine hK8 _ _ ?_
   refine qR ?_
   simp only [thenQ,blockQ,↓reduceIte]
   refine ⟨(r_68.2.1,IntKind.i64.wrap (n_61+1),r_70.2),hm,?_⟩
   exact fse3
 ·refine Wp.exit ?_
  simp only [thenQ,blockQ,↓reduceIte]
  have hm:=hk_66 _ hm
  try dsimp only at hm
  refine hW2 _ _ _ _ ?_ (hcut2 o1_62 hm)
  exact fse3
theorem ok_disk_changesFault (l_1:List api_Change) (z:Int) (hm:disk_changesFault l_1=some z):Does Tryz.prog 169 [.p (.l (List.map enc_api_Change l_1))] [] (fun r X=>r=.p (.i .i64 z)∧X=[]):=by
 unfold disk_changesFault at hm
 refine Does.of_wp 0 18 [.tmp 2] Tryz.func169 rfl (by decide) rfl rfl (Nat.le_of_ble_eq_true rfl) fun B=>?_
 refine qS ?_
 refine Wp.seqW fun K2 hK2 hW2=>?_
 obtain ⟨k_11,hk_11,hm⟩:=jp_elim hm
 have hcut2:∀ s,k_11 s=some z→K2 [] []:=by
  intro s hs
  have hm:=hk_11 _ hs
  clear hs
  try dsimp only at hm
  try dsimp only
  refine hK2 _ _ ?_
  refine qS ?_
  refine Wp.ret ?_
  refine retQ_ret ?_
  cases hm
  exact fse3
 clear hK2 hk_11
 refine qS ?_
 refine Wp.block ?_
 obtain ⟨k_15,hk_15,hm⟩:=forL_cont hm
 refine Wp.fact 6 fun hl_18=>?_
 replace hl_18:l_1.length≤274877906944:=by
  simp only [go_sem,simprocAttr,List.length_map] at hl_18
  omega
 refine Wp.forL (fun i_17 s=>[(6,.p (.l (List.map enc_api_Change l_1))),(7,.p (.i .i64 (l_1.length:Int))),(8,.p (.i .i64 (i_17:Int)))]) (fun i_17 s=>[]) ?_ hm ?_
 ·
  exact fse3
 clear hm
 intro i_17 s hii_17 hm
 try dsimp only at hm
 try dsimp only
 refine qS ?_
 refine Wp.seqW fun K6 hK6 hW6=>?_
 refine Wp.cond rfl ⟨⟩ (fun hc6=>?_) (fun hc6=>?_)
 rotate_left
 ·refine Wp.exit ?_
  have hm:=hk_15 _ (forL_end hm (ge_nat (by first | exact hc6 | simpa using hc6)))
  try dsimp only at hm
  refine hW2 _ _ _ _ ?_ (hcut2 () hm)
  exact fse3
 have hlt6:=lt_nat (by first | exact hc6 | simpa using hc6)
 have hw6:=wrap_succ hlt6 hl_18
 obtain ⟨c_19,nx_16,hxc_19,hyc_19,hnx_16,hm⟩:=forL_step hm hlt6
 replace hxc_19:=hxc_19 enc_api_Change
 refine Wp.skip ?_
 simp only [thenQ]
 refine hK6 _ _ ?_
 refine Wp.seqW fun K7 hK7 hW7=>?_
 refine Wp.block ?_
 refine Wp.seqR fun K8 hK8=>?_
 simp only [go_sem,simprocAttr,hw6,hxc_19]
 first | apply hK8 | refine ⟨sd,hK8 _ _ ?_⟩
 obtain ⟨r_20,hr_20,hm⟩:=call_elim hm
 refine Wp.seqR fun K9 hK9=>?_
 simp only [go_sem,simprocAttr,hw6,hxc_19]
 try refine ⟨sd,?_⟩
 refine Rg.callX (av:=?av10) (g:=true) (fun hg=>ok_disk_CheckChange c_19 _ hr_20) (by simp only [go_sem,simprocAttr,hw6,hxc_19]; exact Is.mk) (by simp only [go_sem,simprocAttr,hw6,hxc_19]; exact Is.mk) (by simp only [go_sem,simprocAttr,hw6,hxc_19]; exact Is.mk) (by simp only [go_sem,simprocAttr,hw6,hxc_19]) (by simp only [go_sem,simprocAttr,hw6,hxc_19]; exact Is.mk) ?cont10
 intro hv10
 simp only [go_sem,simprocAttr,hw6,hxc_19]
 first | apply hK9 | refine ⟨sd,hK9 _ _ ?_⟩
 refine Wp.seqR fun K11 hK11=>?_
 simp only [go_sem,simprocAttr,hw6,hxc_19]
 first | apply hK11 | refine ⟨sd,hK11 _ _ ?_⟩
 refine cM hm (fun hc12 hm=>?_) (fun hc12 hm=>?_)
 ·refine Wp.seqR fun K13 hK13=>?_
  simp only [go_sem,simprocAttr,hw6,hxc_19]
  first | apply hK13 | refine ⟨sd,hK13 _ _ ?_⟩
  refine Wp.ret ?_
  refine retQ_ret ?_
  cases hm
  simp only [go_sem,simprocAttr,hw6,hxc_19]
  try exact se3
 ·refine Wp.skip ?_
  refine hK7 _ _ ?_
  refine Wp.region fun K14 hK14=>?_
  simp only [go_sem,simprocAttr,hw6,hxc_19]
  first | apply hK14 | refine ⟨sd,hK14 _ _ ?_⟩
  simp only [thenQ,blockQ,↓reduceIte]
  refine ⟨(),hlt6,hnx_16 _ hm,?_⟩
  simp only [go_sem,simprocAttr,hw6,hxc_19]
  try exact se3
end Go.Proofs.YtbofknpajcdnmaaGreatDoor
