/- That the code does what the models say (part 2). -/
import Derived.Test.YthofobeoaimclaaDoorDpWk0
import Derived.Test.YthofobeoaimclaaDoorDpWk1
set_option linter.unusedSimpArgs false
set_option linter.unusedVariables false
open Go.Proofs Go.Shelf
namespace Go.Proofs.YthofobeoaimclaaDoor
open Go.Vc Go.Md
set_option maxRecDepth 100000
set_option maxHeartbeats 4000000
theorem ok_strings_Repeat (s_1 : Str) (count_2 : Int) (z : Str) (hm : strings_Repeat s_1 count_2 = some z) : Does Tryd.prog 19 [.p (.s s_1), .p (.i .i64 count_2)] [] (fun r X => r = .p (.s z) ∧ X = []) := by
 unfold strings_Repeat at hm
 refine Does.of_wp 0 125 [.tmp 4] Tryd.func19 rfl (by decide) rfl rfl (Nat.le_of_ble_eq_true rfl) fun B => ?_
 refine qS ?_
 refine Wp.seqW fun K2 hK2 hW2 => ?_
 refine qS ?_
 refine Wp.block ?_
 refine qS ?_
 refine cM hm (fun hc5 hm => ?_) (fun hc5 hm => ?_)
 ·refine qS ?_
  refine Wp.ret ?_
  refine retQ_ret ?_
  cases hm
  exact fse2
 ·refine qS ?_
  refine cM hm (fun hc8 hm => ?_) (fun hc8 hm => ?_)
  ·refine qS ?_
   refine Wp.ret ?_
   refine retQ_ret ?_
   cases hm
   exact fse2
  ·refine Wp.skip ?_
   refine hK2 _ _ ?_
   refine Wp.seqW fun K10 hK10 hW10 => ?_
   obtain ⟨k_3, hk_3, hm⟩ := jp_elim hm
   have hcut10 : ∀ s, k_3 s = some z → K10 [(0, .p (.s s_1)), (1, .p (.i .i64 count_2))] [] := by
    intro s hs
    have hm := hk_3 _ hs
    clear hs
    try dsimp only at hm
    try dsimp only
    refine hK10 _ _ ?_
    obtain ⟨r_4, hr_4, hm⟩ := call_elim hm
    refine Wp.seqR fun K11 hK11 => ?_
    simp only [go_sem, simprocAttr]
    try refine ⟨sd, ?_⟩
    refine Rg.callX (av := ?av12) (g := true) (fun hg => ok_math_bits_Mul (IntKind.u64.wrap (s_1.length : Int)) (IntKind.u64.wrap count_2) _ hr_4) si si si sg si ?cont12
    intro hv12
    simp only [go_sem, simprocAttr]
    first | apply hK11 | refine ⟨sd, hK11 _ _ ?_⟩
    refine Wp.seqW fun K13 hK13 hW13 => ?_
    obtain ⟨k_5, hk_5, hm⟩ := jp_elim hm
    have hcut13 : ∀ s, k_5 s = some z → K13 [(0, .p (.s s_1)), (6, .p (.i .u64 r_4.2))] [] := by
     intro s hs
     have hm := hk_5 _ hs
     clear hs
     try dsimp only at hm
     try dsimp only
     refine hK13 _ _ ?_
     refine qS ?_
     refine Wp.seqW fun K15 hK15 hW15 => ?_
     refine qS ?_
     refine cM hm (fun hc17 hm => ?_) (fun hc17 hm => ?_)
     ·refine qS ?_
      refine Wp.ret ?_
      refine retQ_ret ?_
      cases hm
      exact fse2
     ·refine Wp.skip ?_
      refine hK15 _ _ ?_
      refine Wp.seqW fun K19 hK19 hW19 => ?_
      obtain ⟨k_19, hk_19, hm⟩ := jp_elim hm
      have hcut19 : ∀ s, k_19 s = some z → K19 [(0, .p (.s s_1)), (7, .p (.i .i64 (IntKind.i64.wrap r_4.2)))] [] := by
       intro s hs
       have hm := hk_19 _ hs
       clear hs
       try dsimp only at hm
       try dsimp only
       refine hK19 _ _ ?_
       refine qS ?_
       refine Wp.seqW fun K21 hK21 hW21 => ?_
       obtain ⟨k_22, hk_22, hm⟩ := jp_elim hm
       have hcut21 : ∀ s, k_22 s = some z → K21 [(0, .p (.s s_1)), (7, .p (.i .i64 (IntKind.i64.wrap r_4.2))), (8, .p (.i .i64 s))] [] := by
        intro chunkMax_21 hs
        have hm := hk_22 _ hs
        clear hs
        try dsimp only at hm
        try dsimp only
        refine hK21 _ _ ?_
        refine qS ?_
        refine Wp.adoptB 0 5 rfl ?_
        simp only [go_sem, simprocAttr]
        obtain ⟨r_23, hr_23, hm⟩ := call_elim hm
        refine Wp.seqR fun K23 hK23 => ?_
        simp only [go_sem, simprocAttr]
        try refine ⟨sd, ?_⟩
        refine Rg.callO (av := ?av24) [0, 1] (ok_strings_Builder_Grow (IntKind.i64.wrap r_4.2) [] _ hr_23) si si si sg sg ?cont24
        rintro _ _ ⟨rfl, rfl⟩ hv24
        simp only [go_sem, simprocAttr]
        first | apply hK23 | refine ⟨sd, hK23 _ _ ?_⟩
        obtain ⟨r_24, hr_24, hm⟩ := call_elim hm
        refine Wp.seqR fun K25 hK25 => ?_
        simp only [go_sem, simprocAttr]
        try refine ⟨sd, ?_⟩
        refine Rg.callO (av := ?av26) [0, 1] (ok_strings_Builder_WriteString_i1 s_1 [] _ hr_24) si si si sg sg ?cont26
        rintro _ _ ⟨rfl, rfl⟩ hv26
        simp only [go_sem, simprocAttr]
        first | apply hK25 | refine ⟨sd, hK25 _ _ ?_⟩
        refine Wp.seqW fun K27 hK27 hW27 => ?_
        obtain ⟨k_47, hk_47, hm⟩ := jp_elim hm
        have hcut27 : ∀ s, k_47 s = some z → K27 [(9, .ptr 0 0)] [.cells 86 [.np 0, .buf 1], .sb 5 s] := by
         intro o1_46 hs
         have hm := hk_47 _ hs
         clear hs
         try dsimp only at hm
         try dsimp only
         refine hK27 _ _ ?_
         obtain ⟨r_48, hr_48, hm⟩ := call_elim hm
         refine Wp.seqR fun K28 hK28 => ?_
         simp only [go_sem, simprocAttr]
         try refine ⟨sd, ?_⟩
         refine Rg.callO (av := ?av29) [0, 1] (ok_strings_Builder_String_i1 o1_46 _ hr_48) si si si sg sg ?cont29
         rintro _ _ ⟨rfl, rfl⟩ hv29
         simp only [go_sem, simprocAttr]
         first | apply hK28 | refine ⟨sd, hK28 _ _ ?_⟩
         refine Wp.ret ?_
         refine retQ_ret ?_
         cases hm
         exact fse2
        clear hK27 hk_47
        refine Wp.block ?_
        obtain ⟨k_62, hk_62, hm⟩ := loopN_cont hm
        refine Wp.loopN (fun s => [(7, .p (.i .i64 (IntKind.i64.wrap r_4.2))), (8, .p (.i .i64 chunkMax_21)), (9, .ptr 0 0)]) (fun s => [.cells 86 [.np 0, .buf 1], .sb 5 s]) ?_ hm ?_
        ·
         exact fse2
        clear hm
        intro o1_55 nx_63 hm
        try dsimp only at hm
        try dsimp only
        refine Wp.seqW fun K30 hK30 hW30 => ?_
        obtain ⟨r_64, hr_64, hm⟩ := call_elim hm
        refine Wp.seqR fun K31 hK31 => ?_
        simp only [go_sem, simprocAttr]
        try refine ⟨sd, ?_⟩
        refine Rg.callO (av := ?av32) [0, 1] (ok_strings_Builder_Len_i1 o1_55 _ hr_64) si si si sg sg ?cont32
        rintro _ _ ⟨rfl, rfl⟩ hv32
        simp only [go_sem, simprocAttr]
        first | apply hK31 | refine ⟨sd, hK31 _ _ ?_⟩
        refine cM hm (fun hc33 hm => ?_) (fun hc33 hm => ?_)
        ·refine Wp.skip ?_
         refine hK30 _ _ ?_
         refine Wp.block ?_
         obtain ⟨r_65, hr_65, hm⟩ := call_elim hm
         obtain ⟨r_66, hr_66, hm⟩ := call_elim hm
         refine Wp.seqR fun K34 hK34 => ?_
         simp only [go_sem, simprocAttr]
         try refine ⟨sd, ?_⟩
         refine Rg.callO (av := ?av35) [0, 1] (ok_strings_Builder_Len_i1 o1_55 _ hr_65) si si si sg sg ?cont35
         rintro _ _ ⟨rfl, rfl⟩ hv35
         simp only [go_sem, simprocAttr]
         try refine ⟨sd, ?_⟩
         refine Rg.callO (av := ?av36) [0, 1] (ok_strings_Builder_Len_i1 o1_55 _ hr_66) si si si sg sg ?cont36
         rintro _ _ ⟨rfl, rfl⟩ hv36
         simp only [go_sem, simprocAttr]
         first | apply hK34 | refine ⟨sd, hK34 _ _ ?_⟩
         obtain ⟨r_67, hr_67, hm⟩ := call_elim hm
         obtain ⟨c_68, hm⟩ := chk_elim hm
         obtain ⟨r_69, hr_69, hm⟩ := call_elim hm
         refine Wp.region fun K37 hK37 => ?_
         simp only [go_sem, simprocAttr]
         try refine ⟨by first | exact sd | ((repeat' apply And.intro) <;> first | assumption | omega | (simp only [List.length_append, List.length_map, List.length_cons, List.length_nil, List.length_set, List.length_replicate] at c_68 ⊢; omega)), ?_⟩
         refine Rg.callO (av := ?av38) [0, 1] (ok_strings_Builder_String_i1 o1_55 _ hr_67) si si si sg sg ?cont38
         rintro _ _ ⟨rfl, rfl⟩ hv38
         simp only [go_sem, simprocAttr]
         try refine ⟨by first | exact sd | ((repeat' apply And.intro) <;> first | assumption | omega | (simp only [List.length_append, List.length_map, List.length_cons, List.length_nil, List.length_set, List.length_replicate] at c_68 ⊢; omega)), ?_⟩
         refine Rg.callO (av := ?av39) [0, 1] (ok_strings_Builder_WriteString_i1 (List.take ((min (min (IntKind.i64.wrap ((IntKind.i64.wrap r_4.2) - r_65)) r_66) chunkMax_21).toNat) r_67) o1_55 _ hr_69) si si si sg sg ?cont39
         rintro _ _ ⟨rfl, rfl⟩ hv39
         simp only [go_sem, simprocAttr]
         first | apply hK37 | refine ⟨by first | exact sd | ((repeat' apply And.intro) <;> first | assumption | omega | (simp only [List.length_append, List.length_map, List.length_cons, List.length_nil, List.length_set, List.length_replicate] at c_68 ⊢; omega)), hK37 _ _ ?_⟩
         simp only [thenQ, blockQ, ↓reduceIte]
         refine ⟨r_69.2, hm, ?_⟩
         exact fse2
        ·refine Wp.exit ?_
         simp only [thenQ, blockQ, ↓reduceIte]
         have hm := hk_62 _ hm
         try dsimp only at hm
         refine hW27 _ _ _ _ ?_ (hcut27 o1_55 hm)
         exact fse2
       clear hK21 hk_22
       refine qS ?_
       refine cM hm (fun hc41 hm => ?_) (fun hc41 hm => ?_)
       ·obtain ⟨c_70, hm⟩ := chk_elim hm
        refine Wp.seqR fun K42 hK42 => ?_
        simp only [go_sem, simprocAttr]
        first | apply hK42 | refine ⟨by first | exact sd | ((repeat' apply And.intro) <;> first | assumption | omega | (simp only [List.length_append, List.length_map, List.length_cons, List.length_nil, List.length_set, List.length_replicate] at c_70 ⊢; omega)), hK42 _ _ ?_⟩
        refine qS ?_
        refine cM hm (fun hc44 hm => ?_) (fun hc44 hm => ?_)
        ·refine qR ?_
         refine hW21 _ _ _ _ ?_ (hcut21 (s_1.length : Int) hm)
         exact fse2
        ·refine Wp.skip ?_
         refine hW21 _ _ _ _ ?_ (hcut21 (IntKind.i64.wrap ((IntKind.i64.wrap (Int.tdiv 8192 (s_1.length : Int))) * (s_1.length : Int))) hm)
         exact fse2
       ·refine Wp.skip ?_
        refine hW21 _ _ _ _ ?_ (hcut21 (IntKind.i64.wrap r_4.2) hm)
        exact fse2
      clear hK19 hk_19
      obtain ⟨c_71, hbc_71, hxc_71, hm⟩ := idxS_elim hm
      replace hxc_71 : ((s_1.getD 0 0).toNat : Int) = c_71 := hxc_71
      refine Wp.seqR fun K46 hK46 => ?_
      simp only [go_sem, simprocAttr, hxc_71]
      first | apply hK46 | refine ⟨sd, hK46 _ _ ?_⟩
      refine Wp.block ?_
      refine Wp.seqW fun K47 hK47 hW47 => ?_
      obtain ⟨k_73, hk_73, hm⟩ := jp_elim hm
      have hcut47 : ∀ s, k_73 s = some z → K47 [(0, .p (.s s_1)), (7, .p (.i .i64 (IntKind.i64.wrap r_4.2))), (43, .p (.b s))] [] := by
       intro t43_72 hs
       have hm := hk_73 _ hs
       clear hs
       try dsimp only at hm
       try dsimp only
       refine hK47 _ _ ?_
       refine cM hm (fun hc48 hm => ?_) (fun hc48 hm => ?_)
       ·refine Wp.block ?_
        obtain ⟨r_74, hr_74, hm⟩ := callG_elim hm
        refine Wp.seqR fun K49 hK49 => ?_
        simp only [go_sem, simprocAttr, hxc_71]
        try refine ⟨sd, ?_⟩
        refine Rg.callX (av := ?av50) (g := decide ((IntKind.i64.wrap r_4.2) ≤ 128)) (fun hg => ok_strings_HasPrefix ((List.append [32, 32, 32, 32, 32, 32, 32, 32, 32, 32, 32, 32, 32, 32, 32, 32, 32, 32, 32, 32, 32, 32, 32, 32, 32, 32, 32, 32, 32, 32, 32, 32, 32, 32, 32, 32, 32, 32, 32, 32, 32, 32, 32, 32, 32, 32, 32, 32, 32, 32, 32, 32, 32, 32, 32, 32, 32, 32, 32, 32, 32, 32, 32, 32] [32, 32, 32, 32, 32, 32, 32, 32, 32, 32, 32, 32, 32, 32, 32, 32, 32, 32, 32, 32, 32, 32, 32, 32, 32, 32, 32, 32, 32, 32, 32, 32, 32, 32, 32, 32, 32, 32, 32, 32, 32, 32, 32, 32, 32, 32, 32, 32, 32, 32, 32, 32, 32, 32, 32, 32, 32, 32, 32, 32, 32, 32, 32, 32]) : Str) s_1 _ (hr_74 hg)) (by simp only [go_sem, simprocAttr, hxc_71]; exact Is.mk) (by simp only [go_sem, simprocAttr, hxc_71]; exact Is.mk) (by simp only [go_sem, simprocAttr, hxc_71]; exact Is.mk) (by simp only [go_sem, simprocAttr, hxc_71]) (by simp only [go_sem, simprocAttr, hxc_71]; exact Is.mk) ?cont50
        intro hv50
        simp only [go_sem, simprocAttr, hxc_71]
        first | apply hK49 | refine ⟨sd, hK49 _ _ ?_⟩
        refine cM hm (fun hc51 hm => ?_) (fun hc51 hm => ?_)
        ·obtain ⟨c_75, hm⟩ := chk_elim hm
         refine Wp.seqR fun K52 hK52 => ?_
         simp only [go_sem, simprocAttr, hxc_71]
         first | apply hK52 | refine ⟨by first | exact sd | ((repeat' apply And.intro) <;> first | assumption | omega | (simp only [List.length_append, List.length_map, List.length_cons, List.length_nil, List.length_set, List.length_replicate] at c_75 ⊢; omega)), hK52 _ _ ?_⟩
         refine Wp.ret ?_
         refine retQ_ret ?_
         cases hm
         simp only [go_sem, simprocAttr, hxc_71]
         try exact se2
        ·obtain ⟨r_76, hr_76, hm⟩ := callG_elim hm
         refine Wp.seqR fun K53 hK53 => ?_
         simp only [go_sem, simprocAttr, hxc_71]
         try refine ⟨sd, ?_⟩
         refine Rg.callX (av := ?av54) (g := decide ((IntKind.i64.wrap r_4.2) ≤ 128)) (fun hg => ok_strings_HasPrefix ((List.append [45, 45, 45, 45, 45, 45, 45, 45, 45, 45, 45, 45, 45, 45, 45, 45, 45, 45, 45, 45, 45, 45, 45, 45, 45, 45, 45, 45, 45, 45, 45, 45, 45, 45, 45, 45, 45, 45, 45, 45, 45, 45, 45, 45, 45, 45, 45, 45, 45, 45, 45, 45, 45, 45, 45, 45, 45, 45, 45, 45, 45, 45, 45, 45] [45, 45, 45, 45, 45, 45, 45, 45, 45, 45, 45, 45, 45, 45, 45, 45, 45, 45, 45, 45, 45, 45, 45, 45, 45, 45, 45, 45, 45, 45, 45, 45, 45, 45, 45, 45, 45, 45, 45, 45, 45, 45, 45, 45, 45, 45, 45, 45, 45, 45, 45, 45, 45, 45, 45, 45, 45, 45, 45, 45, 45, 45, 45, 45]) : Str) s_1 _ (hr_76 hg)) (by simp only [go_sem, simprocAttr, hxc_71]; exact Is.mk) (by simp only [go_sem, simprocAttr, hxc_71]; exact Is.mk) (by simp only [go_sem, simprocAttr, hxc_71]; exact Is.mk) (by simp only [go_sem, simprocAttr, hxc_71]) (by simp only [go_sem, simprocAttr, hxc_71]; exact Is.mk) ?cont54
         intro hv54
         simp only [go_sem, simprocAttr, hxc_71]
         first | apply hK53 | refine ⟨sd, hK53 _ _ ?_⟩
         refine cM hm (fun hc55 hm => ?_) (fun hc55 hm => ?_)
         ·obtain ⟨c_77, hm⟩ := chk_elim hm
          refine Wp.seqR fun K56 hK56 => ?_
          simp only [go_sem, simprocAttr, hxc_71]
          first | apply hK56 | refine ⟨by first | exact sd | ((repeat' apply And.intro) <;> first | assumption | omega | (simp only [List.length_append, List.length_map, List.length_cons, List.length_nil, List.length_set, List.length_replicate] at c_77 ⊢; omega)), hK56 _ _ ?_⟩
          refine Wp.ret ?_
          refine retQ_ret ?_
          cases hm
          simp only [go_sem, simprocAttr, hxc_71]
          try exact se2
         ·obtain ⟨r_78, hr_78, hm⟩ := callG_elim hm
          refine Wp.seqR fun K57 hK57 => ?_
          simp only [go_sem, simprocAttr, hxc_71]
          try refine ⟨sd, ?_⟩
          refine Rg.callX (av := ?av58) (g := decide ((IntKind.i64.wrap r_4.2) ≤ 64)) (fun hg => ok_strings_HasPrefix ([48, 48, 48, 48, 48, 48, 48, 48, 48, 48, 48, 48, 48, 48, 48, 48, 48, 48, 48, 48, 48, 48, 48, 48, 48, 48, 48, 48, 48, 48, 48, 48, 48, 48, 48, 48, 48, 48, 48, 48, 48, 48, 48, 48, 48, 48, 48, 48, 48, 48, 48, 48, 48, 48, 48, 48, 48, 48, 48, 48, 48, 48, 48, 48] : Str) s_1 _ (hr_78 hg)) (by simp only [go_sem, simprocAttr, hxc_71]; exact Is.mk) (by simp only [go_sem, simprocAttr, hxc_71]; exact Is.mk) (by simp only [go_sem, simprocAttr, hxc_71]; exact Is.mk) (by simp only [go_sem, simprocAttr, hxc_71]) (by simp only [go_sem, simprocAttr, hxc_71]; exact Is.mk) ?cont58
          intro hv58
          simp only [go_sem, simprocAttr, hxc_71]
          first | apply hK57 | refine ⟨sd, hK57 _ _ ?_⟩
          refine cM hm (fun hc59 hm => ?_) (fun hc59 hm => ?_)
          ·obtain ⟨c_79, hm⟩ := chk_elim hm
           refine Wp.seqR fun K60 hK60 => ?_
           simp only [go_sem, simprocAttr, hxc_71]
           first | apply hK60 | refine ⟨by first | exact sd | ((repeat' apply And.intro) <;> first | assumption | omega | (simp only [List.length_append, List.length_map, List.length_cons, List.length_nil, List.length_set, List.length_replicate] at c_79 ⊢; omega)), hK60 _ _ ?_⟩
           refine Wp.ret ?_
           refine retQ_ret ?_
           cases hm
           simp only [go_sem, simprocAttr, hxc_71]
           try exact se2
          ·obtain ⟨r_80, hr_80, hm⟩ := callG_elim hm
           refine Wp.seqR fun K61 hK61 => ?_
           simp only [go_sem, simprocAttr, hxc_71]
           try refine ⟨sd, ?_⟩
           refine Rg.callX (av := ?av62) (g := decide ((IntKind.i64.wrap r_4.2) ≤ 128)) (fun hg => ok_strings_HasPrefix ((List.append [61, 61, 61, 61, 61, 61, 61, 61, 61, 61, 61, 61, 61, 61, 61, 61, 61, 61, 61, 61, 61, 61, 61, 61, 61, 61, 61, 61, 61, 61, 61, 61, 61, 61, 61, 61, 61, 61, 61, 61, 61, 61, 61, 61, 61, 61, 61, 61, 61, 61, 61, 61, 61, 61, 61, 61, 61, 61, 61, 61, 61, 61, 61, 61] [61, 61, 61, 61, 61, 61, 61, 61, 61, 61, 61, 61, 61, 61, 61, 61, 61, 61, 61, 61, 61, 61, 61, 61, 61, 61, 61, 61, 61, 61, 61, 61, 61, 61, 61, 61, 61, 61, 61, 61, 61, 61, 61, 61, 61, 61, 61, 61, 61, 61, 61, 61, 61, 61, 61, 61, 61, 61, 61, 61, 61, 61, 61, 61]) : Str) s_1 _ (hr_80 hg)) (by simp only [go_sem, simprocAttr, hxc_71]; exact Is.mk) (by simp only [go_sem, simprocAttr, hxc_71]; exact Is.mk) (by simp only [go_sem, simprocAttr, hxc_71]; exact Is.mk) (by simp only [go_sem, simprocAttr, hxc_71]) (by simp only [go_sem, simprocAttr, hxc_71]; exact Is.mk) ?cont62
           intro hv62
           simp only [go_sem, simprocAttr, hxc_71]
           first | apply hK61 | refine ⟨sd, hK61 _ _ ?_⟩
           refine cM hm (fun hc63 hm => ?_) (fun hc63 hm => ?_)
           ·obtain ⟨c_81, hm⟩ := chk_elim hm
            refine Wp.seqR fun K64 hK64 => ?_
            simp only [go_sem, simprocAttr, hxc_71]
            first | apply hK64 | refine ⟨by first | exact sd | ((repeat' apply And.intro) <;> first | assumption | omega | (simp only [List.length_append, List.length_map, List.length_cons, List.length_nil, List.length_set, List.length_replicate] at c_81 ⊢; omega)), hK64 _ _ ?_⟩
            refine Wp.ret ?_
            refine retQ_ret ?_
            cases hm
            simp only [go_sem, simprocAttr, hxc_71]
            try exact se2
           ·obtain ⟨r_82, hr_82, hm⟩ := callG_elim hm
            refine Wp.seqR fun K65 hK65 => ?_
            simp only [go_sem, simprocAttr, hxc_71]
            try refine ⟨sd, ?_⟩
            refine Rg.callX (av := ?av66) (g := decide ((IntKind.i64.wrap r_4.2) ≤ 64)) (fun hg => ok_strings_HasPrefix ([9, 9, 9, 9, 9, 9, 9, 9, 9, 9, 9, 9, 9, 9, 9, 9, 9, 9, 9, 9, 9, 9, 9, 9, 9, 9, 9, 9, 9, 9, 9, 9, 9, 9, 9, 9, 9, 9, 9, 9, 9, 9, 9, 9, 9, 9, 9, 9, 9, 9, 9, 9, 9, 9, 9, 9, 9, 9, 9, 9, 9, 9, 9, 9] : Str) s_1 _ (hr_82 hg)) (by simp only [go_sem, simprocAttr, hxc_71]; exact Is.mk) (by simp only [go_sem, simprocAttr, hxc_71]; exact Is.mk) (by simp only [go_sem, simprocAttr, hxc_71]; exact Is.mk) (by simp only [go_sem, simprocAttr, hxc_71]) (by simp only [go_sem, simprocAttr, hxc_71]; exact Is.mk) ?cont66
            intro hv66
            simp only [go_sem, simprocAttr, hxc_71]
            first | apply hK65 | refine ⟨sd, hK65 _ _ ?_⟩
            refine cM hm (fun hc67 hm => ?_) (fun hc67 hm => ?_)
            ·obtain ⟨c_83, hm⟩ := chk_elim hm
             refine Wp.seqR fun K68 hK68 => ?_
             simp only [go_sem, simprocAttr, hxc_71]
             first | apply hK68 | refine ⟨by first | exact sd | ((repeat' apply And.intro) <;> first | assumption | omega | (simp only [List.length_append, List.length_map, List.length_cons, List.length_nil, List.length_set, List.length_replicate] at c_83 ⊢; omega)), hK68 _ _ ?_⟩
             refine Wp.ret ?_
             refine retQ_ret ?_
             cases hm
             simp only [go_sem, simprocAttr, hxc_71]
             try exact se2
            ·refine Wp.skip ?_
             refine hW19 _ _ _ _ ?_ (hcut19 () hm)
             simp only [go_sem, simprocAttr, hxc_71]
             try exact se2
       ·refine Wp.skip ?_
        refine hW19 _ _ _ _ ?_ (hcut19 () hm)
        simp only [go_sem, simprocAttr, hxc_71]
        try exact se2
      clear hK47 hk_73
      refine Wp.seqR fun K69 hK69 => ?_
      simp only [go_sem, simprocAttr, hxc_71]
      first | apply hK69 | refine ⟨sd, hK69 _ _ ?_⟩
      refine cM hm (fun hc70 hm => ?_) (fun hc70 hm => ?_)
      ·refine Wp.skip ?_
       refine hW47 _ _ _ _ ?_ (hcut47 (decide (c_71 = 32)) hm)
       simp only [go_sem, simprocAttr, hxc_71]
       try exact se2
      ·refine Wp.seqR fun K71 hK71 => ?_
       simp only [go_sem, simprocAttr, hxc_71]
       first | apply hK71 | refine ⟨sd, hK71 _ _ ?_⟩
       refine cM hm (fun hc72 hm => ?_) (fun hc72 hm => ?_)
       ·refine Wp.skip ?_
        refine hW47 _ _ _ _ ?_ (hcut47 (decide (c_71 = 45)) hm)
        simp only [go_sem, simprocAttr, hxc_71]
        try exact se2
       ·refine Wp.seqR fun K73 hK73 => ?_
        simp only [go_sem, simprocAttr, hxc_71]
        first | apply hK73 | refine ⟨sd, hK73 _ _ ?_⟩
        refine cM hm (fun hc74 hm => ?_) (fun hc74 hm => ?_)
        ·refine Wp.skip ?_
         refine hW47 _ _ _ _ ?_ (hcut47 (decide (c_71 = 48)) hm)
         simp only [go_sem, simprocAttr, hxc_71]
         try exact se2
        ·refine Wp.seqR fun K75 hK75 => ?_
         simp only [go_sem, simprocAttr, hxc_71]
         first | apply hK75 | refine ⟨sd, hK75 _ _ ?_⟩
         refine cM hm (fun hc76 hm => ?_) (fun hc76 hm => ?_)
         ·refine Wp.skip ?_
          refine hW47 _ _ _ _ ?_ (hcut47 (decide (c_71 = 61)) hm)
          simp only [go_sem, simprocAttr, hxc_71]
          try exact se2
         ·refine Wp.region fun K77 hK77 => ?_
          simp only [go_sem, simprocAttr, hxc_71]
          first | apply hK77 | refine ⟨sd, hK77 _ _ ?_⟩
          refine hW47 _ _ _ _ ?_ (hcut47 (decide (c_71 = 9)) hm)
          simp only [go_sem, simprocAttr, hxc_71]
          try exact se2
    clear hK13 hk_5
    refine qS ?_
    refine cM hm (fun hc79 hm => ?_) (fun hc79 hm => ?_)
    ·cases hm
    ·refine Wp.skip ?_
     refine hW13 _ _ _ _ ?_ (hcut13 () hm)
     exact fse2
   clear hK10 hk_3
   refine qS ?_
   refine cM hm (fun hc81 hm => ?_) (fun hc81 hm => ?_)
   ·cases hm
   ·refine Wp.skip ?_
    refine hW10 _ _ _ _ ?_ (hcut10 () hm)
    exact fse2
theorem ok_R_SumOf (s_1 : Str) (z : Str) (hm : R_SumOf s_1 = some z) : Does Tryd.prog 36 [.p (.s s_1)] [] (fun r X => r = .p (.s z) ∧ X = []) := by
 unfold R_SumOf at hm
 refine Does.of_wp 0 27 [.tmp 2] Tryd.func36 rfl (by decide) rfl rfl (Nat.le_of_ble_eq_true rfl) fun B => ?_
 refine qS ?_
 refine qS ?_
 refine Wp.seqW fun K3 hK3 hW3 => ?_
 obtain ⟨k_11, hk_11, hm⟩ := jp_elim hm
 have hcut3 : ∀ s, k_11 s = some z → K3 [(3, .p (.i .u64 s))] [] := by
  intro h_10 hs
  have hm := hk_11 _ hs
  clear hs
  try dsimp only at hm
  try dsimp only
  refine hK3 _ _ ?_
  obtain ⟨r_12, hr_12, hm⟩ := call_elim hm
  refine Wp.seqR fun K4 hK4 => ?_
  simp only [go_sem, simprocAttr]
  try refine ⟨sd, ?_⟩
  refine Rg.callX (av := ?av5) (g := true) (fun hg => ok_strconv_FormatUint h_10 16 _ hr_12) si si si sg si ?cont5
  intro hv5
  simp only [go_sem, simprocAttr]
  first | apply hK4 | refine ⟨sd, hK4 _ _ ?_⟩
  obtain ⟨r_13, hr_13, hm⟩ := call_elim hm
  obtain ⟨c_14, hm⟩ := chk_elim hm
  refine Wp.seqR fun K6 hK6 => ?_
  simp only [go_sem, simprocAttr]
  try refine ⟨by first | exact sd | ((repeat' apply And.intro) <;> first | assumption | omega | (simp only [List.length_append, List.length_map, List.length_cons, List.length_nil, List.length_set, List.length_replicate] at c_14 ⊢; omega)), ?_⟩
  refine Rg.callX (av := ?av7) (g := true) (fun hg => ok_strings_Repeat ([48] : Str) (IntKind.i64.wrap (16 - (r_12.length : Int))) _ hr_13) si si si sg si ?cont7
  intro hv7
  simp only [go_sem, simprocAttr]
  first | apply hK6 | refine ⟨by first | exact sd | ((repeat' apply And.intro) <;> first | assumption | omega | (simp only [List.length_append, List.length_map, List.length_cons, List.length_nil, List.length_set, List.length_replicate] at c_14 ⊢; omega)), hK6 _ _ ?_⟩
  refine Wp.ret ?_
  refine retQ_ret ?_
  cases hm
  exact fse2
 clear hK3 hk_11
 refine qS ?_
 refine Wp.block ?_
 obtain ⟨k_18, hk_18, hm⟩ := forL_cont hm
 refine Wp.fact 0 fun hl_21 => ?_
 replace hl_21 : s_1.length ≤ 274877906944 := by
  simp only [go_sem, simprocAttr, List.length_map] at hl_21
  omega
 refine Wp.forL (fun i_20 s => [(0, .p (.s s_1)), (3, .p (.i .u64 s)), (7, .p (.i .i64 (s_1.length : Int))), (8, .p (.i .i64 (i_20 : Int)))]) (fun i_20 s => []) ?_ hm ?_
 ·
  exact fse2
 clear hm
 intro i_20 h_15 hii_20 hm
 try dsimp only at hm
 try dsimp only
 refine qS ?_
 refine Wp.seqW fun K10 hK10 hW10 => ?_
 refine Wp.cond rfl ⟨⟩ (fun hc10 => ?_) (fun hc10 => ?_)
 rotate_left
 ·refine Wp.exit ?_
  have hm := hk_18 _ (forL_end hm (ge_nat (by first | exact hc10 | simpa using hc10)))
  try dsimp only at hm
  refine hW3 _ _ _ _ ?_ (hcut3 h_15 hm)
  exact fse2
 have hlt10 := lt_nat (by first | exact hc10 | simpa using hc10)
 have hw10 := wrap_succ hlt10 hl_21
 obtain ⟨c_22, nx_19, hxc_22, hyc_22, hnx_19, hm⟩ := forL_step hm hlt10
 clear hxc_22
 refine Wp.skip ?_
 simp only [thenQ]
 refine hK10 _ _ ?_
 refine Wp.seqW fun K11 hK11 hW11 => ?_
 refine Wp.block ?_
 refine Wp.seqR fun K12 hK12 => ?_
 simp only [go_sem, simprocAttr, hw10, hyc_22]
 first | apply hK12 | refine ⟨sd, hK12 _ _ ?_⟩
 refine Wp.region fun K13 hK13 => ?_
 simp only [go_sem, simprocAttr, hw10, hyc_22]
 first | apply hK13 | refine ⟨sd, hK13 _ _ ?_⟩
 refine hK11 _ _ ?_
 refine Wp.region fun K14 hK14 => ?_
 simp only [go_sem, simprocAttr, hw10, hyc_22]
 first | apply hK14 | refine ⟨sd, hK14 _ _ ?_⟩
 simp only [thenQ, blockQ, ↓reduceIte]
 refine ⟨IntKind.u64.wrap ((bitsI .xor .u64 h_15 (IntKind.u64.wrap (c_22.toNat : Int))) * 1099511628211), hlt10, hnx_19 _ hm, ?_⟩
 simp only [go_sem, simprocAttr, hw10, hyc_22]
 try exact se2
theorem ok_R_Delta (a_1 : Str) (b_2 : Str) (z : api_Delta × Int) (hm : R_Delta a_1 b_2 = some z) : Does Tryd.prog 21 [.p (.s a_1), .p (.s b_2)] [] (fun r X => r = .tup [.agg [.p (.i .i64 z.1.Old), .p (.i .i64 z.1.New), .p (.s z.1.OldSum), .p (.s z.1.NewSum), .p (.l (List.map enc_api_Piece z.1.Pieces))], .p (.i .i64 z.2)] ∧ X = []) := by
 unfold R_Delta at hm
 refine Does.of_wp 0 114 [.cell 4 41, .tmp 5] Tryd.func21 rfl (by decide) rfl rfl (Nat.le_of_ble_eq_true rfl) fun B => ?_
 refine qS ?_
 refine Wp.seqW fun K2 hK2 hW2 => ?_
 refine qS ?_
 refine cM hm (fun hc4 hm => ?_) (fun hc4 hm => ?_)
 ·refine qS ?_
  refine Wp.ret ?_
  simp only [thenQ, blockQ]
  refine retQ_retE ?_
  cases hm
  exact fse2
 ·refine Wp.skip ?_
  refine hK2 _ _ ?_
  refine qS ?_
  refine qS ?_
  refine Wp.seqW fun K8 hK8 hW8 => ?_
  obtain ⟨k_504, hk_504, hm⟩ := jp_elim hm
  have hcut8 : ∀ s, k_504 s = some z → K8 [(0, .p (.s a_1)), (1, .p (.s b_2)), (4, .ptr 0 0), (6, .buf 1), (7, .p (.s s.1))] [.cells 41 [.p (.i .i64 0), .p (.i .i64 0), .p (.s []), .p (.s []), .nils], .buf 53 3 (List.map enc_api_Piece s.2)] := by
   intro s hs
   have hm := hk_504 _ hs
   clear hs
   obtain ⟨data_502, o1_503⟩ := s
   try dsimp only at hm
   try dsimp only
   refine hK8 _ _ ?_
   refine Wp.seqW fun K9 hK9 hW9 => ?_
   obtain ⟨k_507, hk_507, hm⟩ := jp_elim hm
   have hcut9 : ∀ s, k_507 s = some z → K9 [(0, .p (.s a_1)), (1, .p (.s b_2)), (4, .ptr 0 0), (6, .buf 1)] [.cells 41 [.p (.i .i64 0), .p (.i .i64 0), .p (.s []), .p (.s []), .nils], .buf 53 3 (List.map enc_api_Piece s)] := by
    intro o1_506 hs
    have hm := hk_507 _ hs
    clear hs
    try dsimp only at hm
    try dsimp only
    refine hK9 _ _ ?_
    refine Wp.seqW fun K10 hK10 hW10 => ?_
    refine qS ?_
    refine cM hm (fun hc12 hm => ?_) (fun hc12 hm => ?_)
    ·refine qS ?_
     refine Wp.ret ?_
     simp only [thenQ, blockQ]
     refine retQ_retE ?_
     cases hm
     exact fse2
    ·refine Wp.skip ?_
     refine hK10 _ _ ?_
     obtain ⟨r_508, hr_508, hm⟩ := call_elim hm
     obtain ⟨r_509, hr_509, hm⟩ := call_elim hm
     refine Wp.seqR fun K14 hK14 => ?_
     simp only [go_sem, simprocAttr]
     try refine ⟨sd, ?_⟩
     refine Rg.callX (av := ?av15) (g := true) (fun hg => ok_R_SumOf a_1 _ hr_508) si si si sg si ?cont15
     intro hv15
     simp only [go_sem, simprocAttr]
     try refine ⟨sd, ?_⟩
     refine Rg.callX (av := ?av16) (g := true) (fun hg => ok_R_SumOf b_2 _ hr_509) si si si sg si ?cont16
     intro hv16
     simp only [go_sem, simprocAttr]
     first | apply hK14 | refine ⟨sd, hK14 _ _ ?_⟩
     refine Wp.ret ?_
     refine retQ_ret ?_
     cases hm
     exact fse2
   clear hK9 hk_507
   refine qS ?_
   refine cM hm (fun hc18 hm => ?_) (fun hc18 hm => ?_)
   ·obtain ⟨c_510, hm⟩ := chk_elim hm
    refine Wp.region fun K19 hK19 => ?_
    simp only [go_sem, simprocAttr]
    first | apply hK19 | refine ⟨by first | exact sd | ((repeat' apply And.intro) <;> first | assumption | omega | (simp only [List.length_append, List.length_map, List.length_cons, List.length_nil, List.length_set, List.length_replicate] at c_510 ⊢; omega)), hK19 _ _ ?_⟩
    refine hW9 _ _ _ _ ?_ (hcut9 (o1_503 ++ [(api_Piece.mk 0 0 data_502)]) hm)
    exact fse2
   ·refine Wp.skip ?_
    refine hW9 _ _ _ _ ?_ (hcut9 o1_503 hm)
    exact fse2
  clear hK8 hk_504
  refine qS ?_
  refine Wp.block ?_
  refine Wp.adopt 6 53 3 rfl ?_
  simp only [go_sem, simprocAttr]
  obtain ⟨k_844, hk_844, hm⟩ := loopN_cont hm
  refine Wp.loopN (fun s => [(0, .p (.s a_1)), (1, .p (.s b_2)), (4, .ptr 0 0), (6, .buf 1), (7, .p (.s s.1)), (8, .p (.i .i64 s.2.1))]) (fun s => [.cells 41 [.p (.i .i64 0), .p (.i .i64 0), .p (.s []), .p (.s []), .nils], .buf 53 3 (List.map enc_api_Piece s.2.2)]) ?_ hm ?_
  ·
   exact fse2
  clear hm
  intro s nx_845 hm
  obtain ⟨data_677, i_678, o1_679⟩ := s
  try dsimp only at hm
  try dsimp only
  refine Wp.seqW fun K21 hK21 hW21 => ?_
  refine qS ?_
  refine cM hm (fun hc23 hm => ?_) (fun hc23 hm => ?_)
  ·refine Wp.skip ?_
   refine hK21 _ _ ?_
   refine Wp.block ?_
   refine qS ?_
   refine Wp.seqW fun K25 hK25 hW25 => ?_
   obtain ⟨k_926, hk_926, hm⟩ := jp_elim hm
   have hcut25 : ∀ s, k_926 s = some z → K25 [(0, .p (.s a_1)), (1, .p (.s b_2)), (4, .ptr 0 0), (6, .buf 1), (7, .p (.s data_677)), (8, .p (.i .i64 i_678)), (9, .p (.i .i64 s.1)), (10, .p (.i .i64 s.2))] [.cells 41 [.p (.i .i64 0), .p (.i .i64 0), .p (.s []), .p (.s []), .nils], .buf 53 3 (List.map enc_api_Piece o1_679)] := by
    intro s hs
    have hm := hk_926 _ hs
    clear hs
    obtain ⟨at_924, long_925⟩ := s
    try dsimp only at hm
    try dsimp only
    refine hK25 _ _ ?_
    refine Wp.seqW fun K26 hK26 hW26 => ?_
    refine qS ?_
    refine cM hm (fun hc28 hm => ?_) (fun hc28 hm => ?_)
    ·obtain ⟨c_927, hm⟩ := chk_elim hm
     obtain ⟨c_928, hm⟩ := chk_elim hm
     refine Wp.seqR fun K29 hK29 => ?_
     simp only [go_sem, simprocAttr]
     first | apply hK29 | refine ⟨by first | exact sd | ((repeat' apply And.intro) <;> first | assumption | omega | (simp only [List.length_append, List.length_map, List.length_cons, List.length_nil, List.length_set, List.length_replicate] at c_927 c_928 ⊢; omega)), hK29 _ _ ?_⟩
     refine qS ?_
     refine Wp.exit ?_
     simp only [thenQ, blockQ, ↓reduceIte]
     refine ⟨(data_677 ++ (List.take ((IntKind.i64.wrap (i_678 + 1)).toNat - i_678.toNat) (List.drop i_678.toNat b_2)), IntKind.i64.wrap (i_678 + 1), o1_679), hm, ?_⟩
     exact fse2
    ·refine Wp.skip ?_
     refine hK26 _ _ ?_
     refine Wp.seqW fun K31 hK31 hW31 => ?_
     refine qS ?_
     refine cM hm (fun hc33 hm => ?_) (fun hc33 hm => ?_)
     ·obtain ⟨c_929, hm⟩ := chk_elim hm
      refine Wp.seqR fun K34 hK34 => ?_
      simp only [go_sem, simprocAttr]
      first | apply hK34 | refine ⟨by first | exact sd | ((repeat' apply And.intro) <;> first | assumption | omega | (simp only [List.length_append, List.length_map, List.length_cons, List.length_nil, List.length_set, List.length_replicate] at c_929 ⊢; omega)), hK34 _ _ ?_⟩
      refine qR ?_
      refine hK31 _ _ ?_
      obtain ⟨c_930, hm⟩ := chk_elim hm
      refine Wp.seqR fun K36 hK36 => ?_
      simp only [go_sem, simprocAttr]
      first | apply hK36 | refine ⟨by first | exact sd | ((repeat' apply And.intro) <;> first | assumption | omega | (simp only [List.length_append, List.length_map, List.length_cons, List.length_nil, List.length_set, List.length_replicate] at c_930 ⊢; omega)), hK36 _ _ ?_⟩
      refine qR ?_
      simp only [thenQ, blockQ, ↓reduceIte]
      refine ⟨([], IntKind.i64.wrap (i_678 + long_925), (o1_679 ++ [(api_Piece.mk 0 0 data_677)]) ++ [(api_Piece.mk at_924 long_925 [])]), hm, ?_⟩
      exact fse2
     ·refine Wp.skip ?_
      refine hK31 _ _ ?_
      obtain ⟨c_931, hm⟩ := chk_elim hm
      refine Wp.seqR fun K38 hK38 => ?_
      simp only [go_sem, simprocAttr]
      first | apply hK38 | refine ⟨by first | exact sd | ((repeat' apply And.intro) <;> first | assumption | omega | (simp only [List.length_append, List.length_map, List.length_cons, List.length_nil, List.length_set, List.length_replicate] at c_931 ⊢; omega)), hK38 _ _ ?_⟩
      refine qR ?_
      simp only [thenQ, blockQ, ↓reduceIte]
      refine ⟨(data_677, IntKind.i64.wrap (i_678 + long_925), o1_679 ++ [(api_Piece.mk at_924 long_925 [])]), hm, ?_⟩
      exact fse2
   clear hK25 hk_926
   refine qS ?_
   refine Wp.block ?_
   obtain ⟨k_970, hk_970, hm⟩ := forL_cont hm
   refine Wp.fact 0 fun hl_973 => ?_
   replace hl_973 : a_1.length ≤ 274877906944 := by
    simp only [go_sem, simprocAttr, List.length_map] at hl_973
    omega
   refine Wp.forL (fun i_972 s => [(0, .p (.s a_1)), (1, .p (.s b_2)), (4, .ptr 0 0), (6, .buf 1), (7, .p (.s data_677)), (8, .p (.i .i64 i_678)), (9, .p (.i .i64 s.1)), (10, .p (.i .i64 s.2)), (27, .p (.i .i64 (a_1.length : Int))), (28, .p (.i .i64 (i_972 : Int)))]) (fun i_972 s => [.cells 41 [.p (.i .i64 0), .p (.i .i64 0), .p (.s []), .p (.s []), .nils], .buf 53 3 (List.map enc_api_Piece o1_679)]) ?_ hm ?_
   ·
    exact fse2
   clear hm
   intro i_972 s hii_972 hm
   obtain ⟨at_932, long_933⟩ := s
   try dsimp only at hm
   try dsimp only
   refine qS ?_
   refine Wp.seqW fun K42 hK42 hW42 => ?_
   refine Wp.cond rfl ⟨⟩ (fun hc42 => ?_) (fun hc42 => ?_)
   rotate_left
   ·refine Wp.exit ?_
    have hm := hk_970 _ (forL_end hm (ge_nat (by first | exact hc42 | simpa using hc42)))
    try dsimp only at hm
    refine hW25 _ _ _ _ ?_ (hcut25 (at_932, long_933) hm)
    exact fse2
   have hlt42 := lt_nat (by first | exact hc42 | simpa using hc42)
   have hw42 := wrap_succ hlt42 hl_973
   obtain ⟨c_974, nx_971, hxc_974, hyc_974, hnx_971, hm⟩ := forL_step hm hlt42
   clear hxc_974
   refine Wp.skip ?_
   simp only [thenQ]
   refine hK42 _ _ ?_
   refine Wp.seqW fun K43 hK43 hW43 => ?_
   obtain ⟨k_993, hk_993, hm⟩ := jp_elim hm
   have hcut43 : ∀ s, k_993 s = some z → K43 [(0, .p (.s a_1)), (1, .p (.s b_2)), (4, .ptr 0 0), (6, .buf 1), (7, .p (.s data_677)), (8, .p (.i .i64 i_678)), (9, .p (.i .i64 s.1)), (10, .p (.i .i64 s.2)), (27, .p (.i .i64 (a_1.length : Int))), (28, .p (.i .i64 (i_972 : Int)))] [.cells 41 [.p (.i .i64 0), .p (.i .i64 0), .p (.s []), .p (.s []), .nils], .buf 53 3 (List.map enc_api_Piece o1_679)] := by
    intro s hs
    have hm := hk_993 _ hs
    clear hs
    obtain ⟨at_991, long_992⟩ := s
    try dsimp only at hm
    try dsimp only
    refine hK43 _ _ ?_
    refine Wp.region fun K44 hK44 => ?_
    simp only [go_sem, simprocAttr, hw42, hyc_974]
    first | apply hK44 | refine ⟨sd, hK44 _ _ ?_⟩
    simp only [thenQ, blockQ, ↓reduceIte]
    refine ⟨(at_991, long_992), hlt42, hnx_971 _ hm, ?_⟩
    simp only [go_sem, simprocAttr, hw42, hyc_974]
    try exact se2
   clear hK43 hk_993
   refine Wp.block ?_
   refine Wp.seqR fun K45 hK45 => ?_
   simp only [go_sem, simprocAttr, hw42, hyc_974]
   first | apply hK45 | refine ⟨sd, hK45 _ _ ?_⟩
   refine Wp.seqR fun K46 hK46 => ?_
   simp only [go_sem, simprocAttr, hw42, hyc_974]
   first | apply hK46 | refine ⟨sd, hK46 _ _ ?_⟩
   refine Wp.seqW fun K47 hK47 hW47 => ?_
   obtain ⟨k_1002, hk_1002, hm⟩ := jp_elim hm
   have hcut47 : ∀ s, k_1002 s = some z → K47 [(0, .p (.s a_1)), (1, .p (.s b_2)), (4, .ptr 0 0), (6, .buf 1), (7, .p (.s data_677)), (8, .p (.i .i64 i_678)), (9, .p (.i .i64 at_932)), (10, .p (.i .i64 long_933)), (11, .p (.i .i64 (i_972 : Int))), (12, .p (.i .i64 s)), (27, .p (.i .i64 (a_1.length : Int))), (28, .p (.i .i64 (i_972 : Int)))] [.cells 41 [.p (.i .i64 0), .p (.i .i64 0), .p (.s []), .p (.s []), .nils], .buf 53 3 (List.map enc_api_Piece o1_679)] := by
    intro n_1001 hs
    have hm := hk_1002 _ hs
    clear hs
    try dsimp only at hm
    try dsimp only
    refine hK47 _ _ ?_
    refine Wp.seqR fun K48 hK48 => ?_
    simp only [go_sem, simprocAttr, hw42, hyc_974]
    first | apply hK48 | refine ⟨sd, hK48 _ _ ?_⟩
    refine cM hm (fun hc49 hm => ?_) (fun hc49 hm => ?_)
    ·refine Wp.region fun K50 hK50 => ?_
     simp only [go_sem, simprocAttr, hw42, hyc_974]
     first | apply hK50 | refine ⟨sd, hK50 _ _ ?_⟩
     refine hW43 _ _ _ _ ?_ (hcut43 ((i_972 : Int), n_1001) hm)
     simp only [go_sem, simprocAttr, hw42, hyc_974]
     try exact se2
    ·refine Wp.skip ?_
     refine hW43 _ _ _ _ ?_ (hcut43 (at_932, long_933) hm)
     simp only [go_sem, simprocAttr, hw42, hyc_974]
     try exact se2
   clear hK47 hk_1002
   refine Wp.block ?_
   obtain ⟨k_1006, hk_1006, hm⟩ := loopN_cont hm
   refine Wp.loopN (fun s => [(0, .p (.s a_1)), (1, .p (.s b_2)), (4, .ptr 0 0), (6, .buf 1), (7, .p (.s data_677)), (8, .p (.i .i64 i_678)), (9, .p (.i .i64 at_932)), (10, .p (.i .i64 long_933)), (11, .p (.i .i64 (i_972 : Int))), (12, .p (.i .i64 s)), (27, .p (.i .i64 (a_1.length : Int))), (28, .p (.i .i64 (i_972 : Int)))]) (fun s => [.cells 41 [.p (.i .i64 0), .p (.i .i64 0), .p (.s []), .p (.s []), .nils], .buf 53 3 (List.map enc_api_Piece o1_679)]) ?_ hm ?_
   ·
    simp only [go_sem, simprocAttr, hw42, hyc_974]
    try exact se2
   clear hm
   intro n_1003 nx_1007 hm
   try dsimp only at hm
   try dsimp only
   refine Wp.seqW fun K51 hK51 hW51 => ?_
   obtain ⟨c_1008, hm⟩ := chk_elim hm
   obtain ⟨c_1009, hm⟩ := chk_elim hm
   refine Wp.seqD (plan := pl [(0, none), (1, none), (2, none), (3, none), (4, none), (5, none), (6, none), (7, none), (8, none), (9, none), (10, none), (11, none), (12, none), (13, none), (14, none), (15, none), (16, none), (17, none), (18, none), (19, none), (20, none), (21, none), (22, none), (23, none), (24, none), (25, none), (26, none)]) (by kernel_rfl) rfl (by kernel_rfl) fun K52 hK52 => ?_
   simp only [go_sem, simprocAttr, hw42, hyc_974]
   first | apply hK52 | refine ⟨by first | exact sd | ((repeat' apply And.intro) <;> first | assumption | omega | (simp only [List.length_append, List.length_map, List.length_cons, List.length_nil, List.length_set, List.length_replicate] at c_1008 c_1009 ⊢; omega)), hK52 _ _ ?_⟩
   refine cM hm (fun hc53 hm => ?_) (fun hc53 hm => ?_)
   ·refine Wp.skip ?_
    refine hK51 _ _ ?_
    refine Wp.block ?_
    refine Wp.region fun K54 hK54 => ?_
    simp only [go_sem, simprocAttr, hw42, hyc_974]
    first | apply hK54 | refine ⟨sd, hK54 _ _ ?_⟩
    simp only [thenQ, blockQ, ↓reduceIte]
    refine ⟨IntKind.i64.wrap (n_1003 + 1), hm, ?_⟩
    simp only [go_sem, simprocAttr, hw42, hyc_974]
    try exact se2
   ·refine Wp.exit ?_
    simp only [thenQ, blockQ, ↓reduceIte]
    have hm := hk_1006 _ hm
    try dsimp only at hm
    refine hW47 _ _ _ _ ?_ (hcut47 n_1003 hm)
    simp only [go_sem, simprocAttr, hw42, hyc_974]
    try exact se2
  ·refine Wp.exit ?_
   simp only [thenQ, blockQ, ↓reduceIte]
   have hm := hk_844 _ hm
   try dsimp only at hm
   refine hW8 _ _ _ _ ?_ (hcut8 (data_677, o1_679) hm)
   exact fse2
theorem ok_R_groups (n_1 : Int) (z : Str) (hm : R_groups n_1 = some z) : Does Tryd.prog 73 [.p (.i .i64 n_1)] [] (fun r X => r = .p (.s z) ∧ X = []) := by
 unfold R_groups at hm
 refine Does.of_wp 0 22 [.tmp 2] Tryd.func73 rfl (by decide) rfl rfl (Nat.le_of_ble_eq_true rfl) fun B => ?_
 refine qS ?_
 refine qS ?_
 refine Wp.seqW fun K3 hK3 hW3 => ?_
 obtain ⟨k_10, hk_10, hm⟩ := jp_elim hm
 have hcut3 : ∀ s, k_10 s = some z → K3 [(0, .p (.i .i64 s.1)), (3, .p (.s s.2))] [] := by
  intro s hs
  have hm := hk_10 _ hs
  clear hs
  obtain ⟨n_8, out_9⟩ := s
  try dsimp only at hm
  try dsimp only
  refine hK3 _ _ ?_
  obtain ⟨c_11, hm⟩ := chk_elim hm
  refine Wp.seqR fun K4 hK4 => ?_
  simp only [go_sem, simprocAttr]
  first | apply hK4 | refine ⟨by first | exact sd | ((repeat' apply And.intro) <;> first | assumption | omega | (simp only [List.length_append, List.length_map, List.length_cons, List.length_nil, List.length_set, List.length_replicate] at c_11 ⊢; omega)), hK4 _ _ ?_⟩
  refine Wp.ret ?_
  refine retQ_ret ?_
  cases hm
  exact fse2
 clear hK3 hk_10
 refine Wp.block ?_
 obtain ⟨k_15, hk_15, hm⟩ := loopN_cont hm
 refine Wp.loopN (fun s => [(0, .p (.i .i64 s.1)), (3, .p (.s s.2))]) (fun s => []) ?_ hm ?_
 ·
  exact fse2
 clear hm
 intro s nx_16 hm
 obtain ⟨n_12, out_13⟩ := s
 try dsimp only at hm
 try dsimp only
 refine Wp.seqW fun K5 hK5 hW5 => ?_
 refine qS ?_
 refine cM hm (fun hc7 hm => ?_) (fun hc7 hm => ?_)
 ·refine Wp.skip ?_
  refine hK5 _ _ ?_
  refine Wp.block ?_
  obtain ⟨c_17, hm⟩ := chk_elim hm
  refine Wp.seqR fun K8 hK8 => ?_
  simp only [go_sem, simprocAttr]
  first | apply hK8 | refine ⟨by first | exact sd | ((repeat' apply And.intro) <;> first | assumption | omega | (simp only [List.length_append, List.length_map, List.length_cons, List.length_nil, List.length_set, List.length_replicate] at c_17 ⊢; omega)), hK8 _ _ ?_⟩
  refine qR ?_
  simp only [thenQ, blockQ, ↓reduceIte]
  refine ⟨(Int.fdiv n_12 (2 ^ (shI .i64 7)), out_13 ++ (Go.Vc.strOf [bitsI .or .u8 (IntKind.u8.wrap (bitsI .and .i64 n_12 127)) 128])), hm, ?_⟩
  exact fse2
 ·refine Wp.exit ?_
  simp only [thenQ, blockQ, ↓reduceIte]
  have hm := hk_15 _ hm
  try dsimp only at hm
  refine hW3 _ _ _ _ ?_ (hcut3 (n_12, out_13) hm)
  exact fse2
theorem ok_internal_strconv_lower (c_1 : Int) (z : Int) (hm : internal_strconv_lower c_1 = some z) : Does Tryd.prog 137 [.p (.i .u8 c_1)] [] (fun r X => r = .p (.i .u8 z) ∧ X = []) := by
 unfold internal_strconv_lower at hm
 refine Does.of_wp 0 5 [.tmp 2] Tryd.func137 rfl (by decide) rfl rfl (Nat.le_of_ble_eq_true rfl) fun B => ?_
 refine qS ?_
 refine qS ?_
 refine Wp.ret ?_
 refine retQ_ret ?_
 cases hm
 exact fse2
theorem ok_internal_strconv_underscoreOK (s_1 : Str) (z : Bool) (hm : internal_strconv_underscoreOK s_1 = some z) : Does Tryd.prog 138 [.p (.s s_1)] [] (fun r X => r = .p (.b z) ∧ X = []) := by
 unfold internal_strconv_underscoreOK at hm
 refine Does.of_wp 0 94 [.tmp 2] Tryd.func138 rfl (by decide) rfl rfl (Nat.le_of_ble_eq_true rfl) fun B => ?_
 refine qS ?_
 refine qS ?_
 refine qS ?_
 refine Wp.seqW fun K4 hK4 hW4 => ?_
 obtain ⟨k_6, hk_6, hm⟩ := jp_elim hm
 have hcut4 : ∀ s, k_6 s = some z → K4 [(0, .p (.s s)), (3, .p (.i .i32 94)), (4, .p (.i .i64 0))] [] := by
  intro s_5 hs
  have hm := hk_6 _ hs
  clear hs
  try dsimp only at hm
  try dsimp only
  refine hK4 _ _ ?_
  refine qS ?_
  refine Wp.seqW fun K6 hK6 hW6 => ?_
  obtain ⟨k_19, hk_19, hm⟩ := jp_elim hm
  have hcut6 : ∀ s, k_19 s = some z → K6 [(0, .p (.s s_5)), (3, .p (.i .i32 s.1)), (4, .p (.i .i64 s.2.1)), (5, .p (.b s.2.2))] [] := by
   intro s hs
   have hm := hk_19 _ hs
   clear hs
   obtain ⟨saw_16, i_17, hex_18⟩ := s
   try dsimp only at hm
   try dsimp only
   refine hK6 _ _ ?_
   refine Wp.seqW fun K7 hK7 hW7 => ?_
   obtain ⟨k_31, hk_31, hm⟩ := jp_elim hm
   have hcut7 : ∀ s, k_31 s = some z → K7 [(3, .p (.i .i32 s))] [] := by
    intro saw_30 hs
    have hm := hk_31 _ hs
    clear hs
    try dsimp only at hm
    try dsimp only
    refine hK7 _ _ ?_
    refine qS ?_
    refine Wp.ret ?_
    refine retQ_ret ?_
    cases hm
    exact fse2
   clear hK7 hk_31
   refine Wp.block ?_
   obtain ⟨k_37, hk_37, hm⟩ := loopN_cont hm
   refine Wp.loopN (fun s => [(0, .p (.s s_5)), (3, .p (.i .i32 s.1)), (4, .p (.i .i64 s.2)), (5, .p (.b hex_18))]) (fun s => []) ?_ hm ?_
   ·
    exact fse2
   clear hm
   intro s nx_38 hm
   obtain ⟨saw_32, i_33⟩ := s
   try dsimp only at hm
   try dsimp only
   refine Wp.seqW fun K9 hK9 hW9 => ?_
   refine qS ?_
   refine cM hm (fun hc11 hm => ?_) (fun hc11 hm => ?_)
   ·refine Wp.skip ?_
    refine hK9 _ _ ?_
    refine Wp.seqW fun K12 hK12 hW12 => ?_
    refine Wp.block ?_
    refine Wp.seqW fun K13 hK13 hW13 => ?_
    obtain ⟨c_39, hbc_39, hxc_39, hm⟩ := idxS_elim hm
    replace hxc_39 : ((s_5.getD i_33.toNat 0).toNat : Int) = c_39 := hxc_39
    obtain ⟨r_40, hr_40, hm⟩ := callG_elim hm
    obtain ⟨r_41, hr_41, hm⟩ := callG_elim hm
    refine Wp.seqR fun K14 hK14 => ?_
    simp only [go_sem, simprocAttr, hxc_39]
    try refine ⟨sd, ?_⟩
    refine Rg.callX (av := ?av15) (g := ((!((decide (48 ≤ c_39)) && (decide (c_39 ≤ 57)))) && hex_18)) (fun hg => ok_internal_strconv_lower c_39 _ (hr_40 hg)) (by simp only [go_sem, simprocAttr, hxc_39]; exact Is.mk) (by simp only [go_sem, simprocAttr, hxc_39]; exact Is.mk) (by simp only [go_sem, simprocAttr, hxc_39]; exact Is.mk) (by simp only [go_sem, simprocAttr, hxc_39]) (by simp only [go_sem, simprocAttr, hxc_39]; exact Is.mk) ?cont15
    intro hv15
    simp only [go_sem, simprocAttr, hxc_39]
    try refine ⟨sd, ?_⟩
    refine Rg.callX (av := ?av16) (g := ((!((decide (48 ≤ c_39)) && (decide (c_39 ≤ 57)))) && (hex_18 && (decide (97 ≤ r_40))))) (fun hg => ok_internal_strconv_lower c_39 _ (hr_41 hg)) (by simp only [go_sem, simprocAttr, hxc_39]; exact Is.mk) (by simp only [go_sem, simprocAttr, hxc_39]; exact Is.mk) (by simp only [go_sem, simprocAttr, hxc_39]; exact Is.mk) (by simp only [go_sem, simprocAttr, hxc_39]) (by simp only [go_sem, simprocAttr, hxc_39]; exact Is.mk) ?cont16
    intro hv16
    simp only [go_sem, simprocAttr, hxc_39]
    first | apply hK14 | refine ⟨sd, hK14 _ _ ?_⟩
    refine cM hm (fun hc17 hm => ?_) (fun hc17 hm => ?_)
    ·refine Wp.seqR fun K18 hK18 => ?_
     simp only [go_sem, simprocAttr, hxc_39]
     first | apply hK18 | refine ⟨sd, hK18 _ _ ?_⟩
     refine Wp.exit ?_
     refine hK12 _ _ ?_
     refine Wp.region fun K19 hK19 => ?_
     simp only [go_sem, simprocAttr, hxc_39]
     first | apply hK19 | refine ⟨sd, hK19 _ _ ?_⟩
     simp only [thenQ, blockQ, ↓reduceIte]
     refine ⟨(48, IntKind.i64.wrap (i_33 + 1)), hm, ?_⟩
     simp only [go_sem, simprocAttr, hxc_39]
     try exact se2
    ·refine Wp.skip ?_
     refine hK13 _ _ ?_
     refine Wp.seqW fun K20 hK20 hW20 => ?_
     refine Wp.seqR fun K21 hK21 => ?_
     simp only [go_sem, simprocAttr, hxc_39]
     first | apply hK21 | refine ⟨sd, hK21 _ _ ?_⟩
     refine cM hm (fun hc22 hm => ?_) (fun hc22 hm => ?_)
     ·refine Wp.seqW fun K23 hK23 hW23 => ?_
      refine Wp.seqR fun K24 hK24 => ?_
      simp only [go_sem, simprocAttr, hxc_39]
      first | apply hK24 | refine ⟨sd, hK24 _ _ ?_⟩
      refine cM hm (fun hc25 hm => ?_) (fun hc25 hm => ?_)
      ·refine Wp.seqR fun K26 hK26 => ?_
       simp only [go_sem, simprocAttr, hxc_39]
       first | apply hK26 | refine ⟨sd, hK26 _ _ ?_⟩
       refine Wp.ret ?_
       refine retQ_ret ?_
       cases hm
       simp only [go_sem, simprocAttr, hxc_39]
       try exact se2
      ·refine Wp.skip ?_
       refine hK23 _ _ ?_
       refine Wp.seqR fun K27 hK27 => ?_
       simp only [go_sem, simprocAttr, hxc_39]
       first | apply hK27 | refine ⟨sd, hK27 _ _ ?_⟩
       refine Wp.exit ?_
       refine hK12 _ _ ?_
       refine Wp.region fun K28 hK28 => ?_
       simp only [go_sem, simprocAttr, hxc_39]
       first | apply hK28 | refine ⟨sd, hK28 _ _ ?_⟩
       simp only [thenQ, blockQ, ↓reduceIte]
       refine ⟨(95, IntKind.i64.wrap (i_33 + 1)), hm, ?_⟩
       simp only [go_sem, simprocAttr, hxc_39]
       try exact se2
     ·refine Wp.skip ?_
      refine hK20 _ _ ?_
      refine Wp.seqW fun K29 hK29 hW29 => ?_
      refine Wp.seqR fun K30 hK30 => ?_
      simp only [go_sem, simprocAttr, hxc_39]
      first | apply hK30 | refine ⟨sd, hK30 _ _ ?_⟩
      refine cM hm (fun hc31 hm => ?_) (fun hc31 hm => ?_)
      ·refine Wp.seqR fun K32 hK32 => ?_
       simp only [go_sem, simprocAttr, hxc_39]
       first | apply hK32 | refine ⟨sd, hK32 _ _ ?_⟩
       refine Wp.ret ?_
       refine retQ_ret ?_
       cases hm
       simp only [go_sem, simprocAttr, hxc_39]
       try exact se2
      ·refine Wp.skip ?_
       refine hK29 _ _ ?_
       refine Wp.region fun K33 hK33 => ?_
       simp only [go_sem, simprocAttr, hxc_39]
       first | apply hK33 | refine ⟨sd, hK33 _ _ ?_⟩
       refine hK12 _ _ ?_
       refine Wp.region fun K34 hK34 => ?_
       simp only [go_sem, simprocAttr, hxc_39]
       first | apply hK34 | refine ⟨sd, hK34 _ _ ?_⟩
       simp only [thenQ, blockQ, ↓reduceIte]
       refine ⟨(33, IntKind.i64.wrap (i_33 + 1)), hm, ?_⟩
       simp only [go_sem, simprocAttr, hxc_39]
       try exact se2
   ·refine Wp.exit ?_
    simp only [thenQ, blockQ, ↓reduceIte]
    have hm := hk_37 _ hm
    try dsimp only at hm
    refine hW7 _ _ _ _ ?_ (hcut7 saw_32 hm)
    exact fse2
  clear hK6 hk_19
  obtain ⟨c_42, hm⟩ := chk_elim hm
  obtain ⟨c_43, hm⟩ := chk_elim hm
  obtain ⟨r_44, hr_44, hm⟩ := callG_elim hm
  obtain ⟨c_45, hm⟩ := chk_elim hm
  obtain ⟨r_46, hr_46, hm⟩ := callG_elim hm
  obtain ⟨c_47, hm⟩ := chk_elim hm
  obtain ⟨r_48, hr_48, hm⟩ := callG_elim hm
  refine Wp.seqR fun K35 hK35 => ?_
  simp only [go_sem, simprocAttr]
  try refine ⟨by first | exact sd | ((repeat' apply And.intro) <;> first | assumption | omega | (simp only [List.length_append, List.length_map, List.length_cons, List.length_nil, List.length_set, List.length_replicate] at c_42 c_43 c_45 c_47 ⊢; omega)), ?_⟩
  refine Rg.callX (av := ?av36) (g := ((decide (2 ≤ (s_5.length : Int))) && (decide (((s_5.getD 0 0).toNat : Int) = 48)))) (fun hg => ok_internal_strconv_lower ((s_5.getD 1 0).toNat : Int) _ (hr_44 hg)) si si si sg si ?cont36
  intro hv36
  simp only [go_sem, simprocAttr]
  try refine ⟨by first | exact sd | ((repeat' apply And.intro) <;> first | assumption | omega | (simp only [List.length_append, List.length_map, List.length_cons, List.length_nil, List.length_set, List.length_replicate] at c_42 c_43 c_45 c_47 ⊢; omega)), ?_⟩
  refine Rg.callX (av := ?av37) (g := (((decide (2 ≤ (s_5.length : Int))) && (decide (((s_5.getD 0 0).toNat : Int) = 48))) && (!(decide (r_44 = 98))))) (fun hg => ok_internal_strconv_lower ((s_5.getD 1 0).toNat : Int) _ (hr_46 hg)) si si si sg si ?cont37
  intro hv37
  simp only [go_sem, simprocAttr]
  try refine ⟨by first | exact sd | ((repeat' apply And.intro) <;> first | assumption | omega | (simp only [List.length_append, List.length_map, List.length_cons, List.length_nil, List.length_set, List.length_replicate] at c_42 c_43 c_45 c_47 ⊢; omega)), ?_⟩
  refine Rg.callX (av := ?av38) (g := (((decide (2 ≤ (s_5.length : Int))) && (decide (((s_5.getD 0 0).toNat : Int) = 48))) && (!((decide (r_44 = 98)) || (decide (r_46 = 111)))))) (fun hg => ok_internal_strconv_lower ((s_5.getD 1 0).toNat : Int) _ (hr_48 hg)) si si si sg si ?cont38
  intro hv38
  simp only [go_sem, simprocAttr]
  first | apply hK35 | refine ⟨by first | exact sd | ((repeat' apply And.intro) <;> first | assumption | omega | (simp only [List.length_append, List.length_map, List.length_cons, List.length_nil, List.length_set, List.length_replicate] at c_42 c_43 c_45 c_47 ⊢; omega)), hK35 _ _ ?_⟩
  refine cM hm (fun hc39 hm => ?_) (fun hc39 hm => ?_)
  ·refine qS ?_
   refine qS ?_
   obtain ⟨c_49, hbc_49, hxc_49, hm⟩ := idxS_elim hm
   replace hxc_49 : ((s_5.getD 1 0).toNat : Int) = c_49 := hxc_49
   obtain ⟨r_50, hr_50, hm⟩ := call_elim hm
   refine Wp.region fun K42 hK42 => ?_
   simp only [go_sem, simprocAttr, hxc_49]
   try refine ⟨sd, ?_⟩
   refine Rg.callX (av := ?av43) (g := true) (fun hg => ok_internal_strconv_lower c_49 _ hr_50) (by simp only [go_sem, simprocAttr, hxc_49]; exact Is.mk) (by simp only [go_sem, simprocAttr, hxc_49]; exact Is.mk) (by simp only [go_sem, simprocAttr, hxc_49]; exact Is.mk) (by simp only [go_sem, simprocAttr, hxc_49]) (by simp only [go_sem, simprocAttr, hxc_49]; exact Is.mk) ?cont43
   intro hv43
   simp only [go_sem, simprocAttr, hxc_49]
   first | apply hK42 | refine ⟨sd, hK42 _ _ ?_⟩
   refine hW6 _ _ _ _ ?_ (hcut6 (48, 2, decide (r_50 = 120)) hm)
   simp only [go_sem, simprocAttr, hxc_49]
   try exact se2
  ·refine Wp.skip ?_
   refine hW6 _ _ _ _ ?_ (hcut6 (94, 0, false) hm)
   exact fse2
 clear hK4 hk_6
 obtain ⟨c_51, hm⟩ := chk_elim hm
 obtain ⟨c_52, hm⟩ := chk_elim hm
 refine Wp.seqR fun K44 hK44 => ?_
 simp only [go_sem, simprocAttr]
 first | apply hK44 | refine ⟨by first | exact sd | ((repeat' apply And.intro) <;> first | assumption | omega | (simp only [List.length_append, List.length_map, List.length_cons, List.length_nil, List.length_set, List.length_replicate] at c_51 c_52 ⊢; omega)), hK44 _ _ ?_⟩
 refine cM hm (fun hc45 hm => ?_) (fun hc45 hm => ?_)
 ·obtain ⟨c_53, hm⟩ := chk_elim hm
  refine Wp.region fun K46 hK46 => ?_
  simp only [go_sem, simprocAttr]
  first | apply hK46 | refine ⟨by first | exact sd | ((repeat' apply And.intro) <;> first | assumption | omega | (simp only [List.length_append, List.length_map, List.length_cons, List.length_nil, List.length_set, List.length_replicate] at c_53 ⊢; omega)), hK46 _ _ ?_⟩
  refine hW4 _ _ _ _ ?_ (hcut4 (List.drop 1 s_1) hm)
  exact fse2
 ·refine Wp.skip ?_
  refine hW4 _ _ _ _ ?_ (hcut4 s_1 hm)
  exact fse2
end Go.Proofs.YthofobeoaimclaaDoor
