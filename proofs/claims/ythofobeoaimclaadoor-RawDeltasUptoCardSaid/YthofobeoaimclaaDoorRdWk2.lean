/- That the code does what the models say (part 2). -/
import Derived.Test.YthofobeoaimclaaDoorRdWk0
import Derived.Test.YthofobeoaimclaaDoorRdWk1
set_option linter.unusedSimpArgs false
set_option linter.unusedVariables false
open Go.Proofs Go.Shelf
namespace Go.Proofs.YthofobeoaimclaaDoor
open Go.Vc Go.Md
set_option maxRecDepth 100000
set_option maxHeartbeats 4000000
theorem ok_strings_Repeat (s_1 : Str) (count_2 : Int) (z : Str) (hm : strings_Repeat s_1 count_2 = some z) : Does Tryd.prog 19 [.p (.s s_1), .p (.i .i64 count_2)] [] (fun r X => r = .p (.s z) ∧ X = []) := by
 unfold strings_Repeat at hm
 refine Does.of_wp 0 125 [.tmp 4] Tryd.func19 rfl (by decide) rfl rfl (Nat.le_of_ble_eq_true rfl) fun B => ?_
 refine qS ?_
 refine Wp.seqW fun K2 hK2 hW2 => ?_
 refine qS ?_
 refine Wp.block ?_
 refine qS ?_
 refine cM hm (fun hc5 hm => ?_) (fun hc5 hm => ?_)
 ·refine qS ?_
  refine Wp.ret ?_
  refine retQ_ret ?_
  cases hm
  exact fse1
 ·refine qS ?_
  refine cM hm (fun hc8 hm => ?_) (fun hc8 hm => ?_)
  ·refine qS ?_
   refine Wp.ret ?_
   refine retQ_ret ?_
   cases hm
   exact fse1
  ·refine Wp.skip ?_
   refine hK2 _ _ ?_
   refine Wp.seqW fun K10 hK10 hW10 => ?_
   obtain ⟨k_3, hk_3, hm⟩ := jp_elim hm
   have hcut10 : ∀ s, k_3 s = some z → K10 [(0, .p (.s s_1)), (1, .p (.i .i64 count_2))] [] := by
    intro s hs
    have hm := hk_3 _ hs
    clear hs
    try dsimp only at hm
    try dsimp only
    refine hK10 _ _ ?_
    obtain ⟨r_4, hr_4, hm⟩ := call_elim hm
    refine Wp.seqR fun K11 hK11 => ?_
    simp only [go_sem, simprocAttr]
    try refine ⟨sd, ?_⟩
    refine Rg.callX (av := ?av12) (g := true) (fun hg => ok_math_bits_Mul (IntKind.u64.wrap (s_1.length : Int)) (IntKind.u64.wrap count_2) _ hr_4) si si si sg si ?cont12
    intro hv12
    simp only [go_sem, simprocAttr]
    first | apply hK11 | refine ⟨sd, hK11 _ _ ?_⟩
    refine Wp.seqW fun K13 hK13 hW13 => ?_
    obtain ⟨k_5, hk_5, hm⟩ := jp_elim hm
    have hcut13 : ∀ s, k_5 s = some z → K13 [(0, .p (.s s_1)), (6, .p (.i .u64 r_4.2))] [] := by
     intro s hs
     have hm := hk_5 _ hs
     clear hs
     try dsimp only at hm
     try dsimp only
     refine hK13 _ _ ?_
     refine qS ?_
     refine Wp.seqW fun K15 hK15 hW15 => ?_
     refine qS ?_
     refine cM hm (fun hc17 hm => ?_) (fun hc17 hm => ?_)
     ·refine qS ?_
      refine Wp.ret ?_
      refine retQ_ret ?_
      cases hm
      exact fse1
     ·refine Wp.skip ?_
      refine hK15 _ _ ?_
      refine Wp.seqW fun K19 hK19 hW19 => ?_
      obtain ⟨k_19, hk_19, hm⟩ := jp_elim hm
      have hcut19 : ∀ s, k_19 s = some z → K19 [(0, .p (.s s_1)), (7, .p (.i .i64 (IntKind.i64.wrap r_4.2)))] [] := by
       intro s hs
       have hm := hk_19 _ hs
       clear hs
       try dsimp only at hm
       try dsimp only
       refine hK19 _ _ ?_
       refine qS ?_
       refine Wp.seqW fun K21 hK21 hW21 => ?_
       obtain ⟨k_22, hk_22, hm⟩ := jp_elim hm
       have hcut21 : ∀ s, k_22 s = some z → K21 [(0, .p (.s s_1)), (7, .p (.i .i64 (IntKind.i64.wrap r_4.2))), (8, .p (.i .i64 s))] [] := by
        intro chunkMax_21 hs
        have hm := hk_22 _ hs
        clear hs
        try dsimp only at hm
        try dsimp only
        refine hK21 _ _ ?_
        refine qS ?_
        refine Wp.adoptB 0 5 rfl ?_
        simp only [go_sem, simprocAttr]
        obtain ⟨r_23, hr_23, hm⟩ := call_elim hm
        refine Wp.seqR fun K23 hK23 => ?_
        simp only [go_sem, simprocAttr]
        try refine ⟨sd, ?_⟩
        refine Rg.callO (av := ?av24) [0, 1] (ok_strings_Builder_Grow (IntKind.i64.wrap r_4.2) [] _ hr_23) si si si sg sg ?cont24
        rintro _ _ ⟨rfl, rfl⟩ hv24
        simp only [go_sem, simprocAttr]
        first | apply hK23 | refine ⟨sd, hK23 _ _ ?_⟩
        obtain ⟨r_24, hr_24, hm⟩ := call_elim hm
        refine Wp.seqR fun K25 hK25 => ?_
        simp only [go_sem, simprocAttr]
        try refine ⟨sd, ?_⟩
        refine Rg.callO (av := ?av26) [0, 1] (ok_strings_Builder_WriteString_i1 s_1 [] _ hr_24) si si si sg sg ?cont26
        rintro _ _ ⟨rfl, rfl⟩ hv26
        simp only [go_sem, simprocAttr]
        first | apply hK25 | refine ⟨sd, hK25 _ _ ?_⟩
        refine Wp.seqW fun K27 hK27 hW27 => ?_
        obtain ⟨k_47, hk_47, hm⟩ := jp_elim hm
        have hcut27 : ∀ s, k_47 s = some z → K27 [(9, .ptr 0 0)] [.cells 86 [.np 0, .buf 1], .sb 5 s] := by
         intro o1_46 hs
         have hm := hk_47 _ hs
         clear hs
         try dsimp only at hm
         try dsimp only
         refine hK27 _ _ ?_
         obtain ⟨r_48, hr_48, hm⟩ := call_elim hm
         refine Wp.seqR fun K28 hK28 => ?_
         simp only [go_sem, simprocAttr]
         try refine ⟨sd, ?_⟩
         refine Rg.callO (av := ?av29) [0, 1] (ok_strings_Builder_String_i1 o1_46 _ hr_48) si si si sg sg ?cont29
         rintro _ _ ⟨rfl, rfl⟩ hv29
         simp only [go_sem, simprocAttr]
         first | apply hK28 | refine ⟨sd, hK28 _ _ ?_⟩
         refine Wp.ret ?_
         refine retQ_ret ?_
         cases hm
         exact fse1
        clear hK27 hk_47
        refine Wp.block ?_
        obtain ⟨k_62, hk_62, hm⟩ := loopN_cont hm
        refine Wp.loopN (fun s => [(7, .p (.i .i64 (IntKind.i64.wrap r_4.2))), (8, .p (.i .i64 chunkMax_21)), (9, .ptr 0 0)]) (fun s => [.cells 86 [.np 0, .buf 1], .sb 5 s]) ?_ hm ?_
        ·
         exact fse1
        clear hm
        intro o1_55 nx_63 hm
        try dsimp only at hm
        try dsimp only
        refine Wp.seqW fun K30 hK30 hW30 => ?_
        obtain ⟨r_64, hr_64, hm⟩ := call_elim hm
        refine Wp.seqR fun K31 hK31 => ?_
        simp only [go_sem, simprocAttr]
        try refine ⟨sd, ?_⟩
        refine Rg.callO (av := ?av32) [0, 1] (ok_strings_Builder_Len_i1 o1_55 _ hr_64) si si si sg sg ?cont32
        rintro _ _ ⟨rfl, rfl⟩ hv32
        simp only [go_sem, simprocAttr]
        first | apply hK31 | refine ⟨sd, hK31 _ _ ?_⟩
        refine cM hm (fun hc33 hm => ?_) (fun hc33 hm => ?_)
        ·refine Wp.skip ?_
         refine hK30 _ _ ?_
         refine Wp.block ?_
         obtain ⟨r_65, hr_65, hm⟩ := call_elim hm
         obtain ⟨r_66, hr_66, hm⟩ := call_elim hm
         refine Wp.seqR fun K34 hK34 => ?_
         simp only [go_sem, simprocAttr]
         try refine ⟨sd, ?_⟩
         refine Rg.callO (av := ?av35) [0, 1] (ok_strings_Builder_Len_i1 o1_55 _ hr_65) si si si sg sg ?cont35
         rintro _ _ ⟨rfl, rfl⟩ hv35
         simp only [go_sem, simprocAttr]
         try refine ⟨sd, ?_⟩
         refine Rg.callO (av := ?av36) [0, 1] (ok_strings_Builder_Len_i1 o1_55 _ hr_66) si si si sg sg ?cont36
         rintro _ _ ⟨rfl, rfl⟩ hv36
         simp only [go_sem, simprocAttr]
         first | apply hK34 | refine ⟨sd, hK34 _ _ ?_⟩
         obtain ⟨r_67, hr_67, hm⟩ := call_elim hm
         obtain ⟨c_68, hm⟩ := chk_elim hm
         obtain ⟨r_69, hr_69, hm⟩ := call_elim hm
         refine Wp.region fun K37 hK37 => ?_
         simp only [go_sem, simprocAttr]
         try refine ⟨by first | exact sd | ((repeat' apply And.intro) <;> first | assumption | omega | (simp only [List.length_append, List.length_map, List.length_cons, List.length_nil, List.length_set, List.length_replicate] at c_68 ⊢; omega)), ?_⟩
         refine Rg.callO (av := ?av38) [0, 1] (ok_strings_Builder_String_i1 o1_55 _ hr_67) si si si sg sg ?cont38
         rintro _ _ ⟨rfl, rfl⟩ hv38
         simp only [go_sem, simprocAttr]
         try refine ⟨by first | exact sd | ((repeat' apply And.intro) <;> first | assumption | omega | (simp only [List.length_append, List.length_map, List.length_cons, List.length_nil, List.length_set, List.length_replicate] at c_68 ⊢; omega)), ?_⟩
         refine Rg.callO (av := ?av39) [0, 1] (ok_strings_Builder_WriteString_i1 (List.take ((min (min (IntKind.i64.wrap ((IntKind.i64.wrap r_4.2) - r_65)) r_66) chunkMax_21).toNat) r_67) o1_55 _ hr_69) si si si sg sg ?cont39
         rintro _ _ ⟨rfl, rfl⟩ hv39
         simp only [go_sem, simprocAttr]
         first | apply hK37 | refine ⟨by first | exact sd | ((repeat' apply And.intro) <;> first | assumption | omega | (simp only [List.length_append, List.length_map, List.length_cons, List.length_nil, List.length_set, List.length_replicate] at c_68 ⊢; omega)), hK37 _ _ ?_⟩
         simp only [thenQ, blockQ, ↓reduceIte]
         refine ⟨r_69.2, hm, ?_⟩
         exact fse1
        ·refine Wp.exit ?_
         simp only [thenQ, blockQ, ↓reduceIte]
         have hm := hk_62 _ hm
         try dsimp only at hm
         refine hW27 _ _ _ _ ?_ (hcut27 o1_55 hm)
         exact fse1
       clear hK21 hk_22
       refine qS ?_
       refine cM hm (fun hc41 hm => ?_) (fun hc41 hm => ?_)
       ·obtain ⟨c_70, hm⟩ := chk_elim hm
        refine Wp.seqR fun K42 hK42 => ?_
        simp only [go_sem, simprocAttr]
        first | apply hK42 | refine ⟨by first | exact sd | ((repeat' apply And.intro) <;> first | assumption | omega | (simp only [List.length_append, List.length_map, List.length_cons, List.length_nil, List.length_set, List.length_replicate] at c_70 ⊢; omega)), hK42 _ _ ?_⟩
        refine qS ?_
        refine cM hm (fun hc44 hm => ?_) (fun hc44 hm => ?_)
        ·refine qR ?_
         refine hW21 _ _ _ _ ?_ (hcut21 (s_1.length : Int) hm)
         exact fse1
        ·refine Wp.skip ?_
         refine hW21 _ _ _ _ ?_ (hcut21 (IntKind.i64.wrap ((IntKind.i64.wrap (Int.tdiv 8192 (s_1.length : Int))) * (s_1.length : Int))) hm)
         exact fse1
       ·refine Wp.skip ?_
        refine hW21 _ _ _ _ ?_ (hcut21 (IntKind.i64.wrap r_4.2) hm)
        exact fse1
      clear hK19 hk_19
      obtain ⟨c_71, hbc_71, hxc_71, hm⟩ := idxS_elim hm
      replace hxc_71 : ((s_1.getD 0 0).toNat : Int) = c_71 := hxc_71
      refine Wp.seqR fun K46 hK46 => ?_
      simp only [go_sem, simprocAttr, hxc_71]
      first | apply hK46 | refine ⟨sd, hK46 _ _ ?_⟩
      refine Wp.block ?_
      refine Wp.seqW fun K47 hK47 hW47 => ?_
      obtain ⟨k_73, hk_73, hm⟩ := jp_elim hm
      have hcut47 : ∀ s, k_73 s = some z → K47 [(0, .p (.s s_1)), (7, .p (.i .i64 (IntKind.i64.wrap r_4.2))), (43, .p (.b s))] [] := by
       intro t43_72 hs
       have hm := hk_73 _ hs
       clear hs
       try dsimp only at hm
       try dsimp only
       refine hK47 _ _ ?_
       refine cM hm (fun hc48 hm => ?_) (fun hc48 hm => ?_)
       ·refine Wp.block ?_
        obtain ⟨r_74, hr_74, hm⟩ := callG_elim hm
        refine Wp.seqR fun K49 hK49 => ?_
        simp only [go_sem, simprocAttr, hxc_71]
        try refine ⟨sd, ?_⟩
        refine Rg.callX (av := ?av50) (g := decide ((IntKind.i64.wrap r_4.2) ≤ 128)) (fun hg => ok_strings_HasPrefix ((List.append [32, 32, 32, 32, 32, 32, 32, 32, 32, 32, 32, 32, 32, 32, 32, 32, 32, 32, 32, 32, 32, 32, 32, 32, 32, 32, 32, 32, 32, 32, 32, 32, 32, 32, 32, 32, 32, 32, 32, 32, 32, 32, 32, 32, 32, 32, 32, 32, 32, 32, 32, 32, 32, 32, 32, 32, 32, 32, 32, 32, 32, 32, 32, 32] [32, 32, 32, 32, 32, 32, 32, 32, 32, 32, 32, 32, 32, 32, 32, 32, 32, 32, 32, 32, 32, 32, 32, 32, 32, 32, 32, 32, 32, 32, 32, 32, 32, 32, 32, 32, 32, 32, 32, 32, 32, 32, 32, 32, 32, 32, 32, 32, 32, 32, 32, 32, 32, 32, 32, 32, 32, 32, 32, 32, 32, 32, 32, 32]) : Str) s_1 _ (hr_74 hg)) (by simp only [go_sem, simprocAttr, hxc_71]; exact Is.mk) (by simp only [go_sem, simprocAttr, hxc_71]; exact Is.mk) (by simp only [go_sem, simprocAttr, hxc_71]; exact Is.mk) (by simp only [go_sem, simprocAttr, hxc_71]) (by simp only [go_sem, simprocAttr, hxc_71]; exact Is.mk) ?cont50
        intro hv50
        simp only [go_sem, simprocAttr, hxc_71]
        first | apply hK49 | refine ⟨sd, hK49 _ _ ?_⟩
        refine cM hm (fun hc51 hm => ?_) (fun hc51 hm => ?_)
        ·obtain ⟨c_75, hm⟩ := chk_elim hm
         refine Wp.seqR fun K52 hK52 => ?_
         simp only [go_sem, simprocAttr, hxc_71]
         first | apply hK52 | refine ⟨by first | exact sd | ((repeat' apply And.intro) <;> first | assumption | omega | (simp only [List.length_append, List.length_map, List.length_cons, List.length_nil, List.length_set, List.length_replicate] at c_75 ⊢; omega)), hK52 _ _ ?_⟩
         refine Wp.ret ?_
         refine retQ_ret ?_
         cases hm
         simp only [go_sem, simprocAttr, hxc_71]
         try exact se1
        ·obtain ⟨r_76, hr_76, hm⟩ := callG_elim hm
         refine Wp.seqR fun K53 hK53 => ?_
         simp only [go_sem, simprocAttr, hxc_71]
         try refine ⟨sd, ?_⟩
         refine Rg.callX (av := ?av54) (g := decide ((IntKind.i64.wrap r_4.2) ≤ 128)) (fun hg => ok_strings_HasPrefix ((List.append [45, 45, 45, 45, 45, 45, 45, 45, 45, 45, 45, 45, 45, 45, 45, 45, 45, 45, 45, 45, 45, 45, 45, 45, 45, 45, 45, 45, 45, 45, 45, 45, 45, 45, 45, 45, 45, 45, 45, 45, 45, 45, 45, 45, 45, 45, 45, 45, 45, 45, 45, 45, 45, 45, 45, 45, 45, 45, 45, 45, 45, 45, 45, 45] [45, 45, 45, 45, 45, 45, 45, 45, 45, 45, 45, 45, 45, 45, 45, 45, 45, 45, 45, 45, 45, 45, 45, 45, 45, 45, 45, 45, 45, 45, 45, 45, 45, 45, 45, 45, 45, 45, 45, 45, 45, 45, 45, 45, 45, 45, 45, 45, 45, 45, 45, 45, 45, 45, 45, 45, 45, 45, 45, 45, 45, 45, 45, 45]) : Str) s_1 _ (hr_76 hg)) (by simp only [go_sem, simprocAttr, hxc_71]; exact Is.mk) (by simp only [go_sem, simprocAttr, hxc_71]; exact Is.mk) (by simp only [go_sem, simprocAttr, hxc_71]; exact Is.mk) (by simp only [go_sem, simprocAttr, hxc_71]) (by simp only [go_sem, simprocAttr, hxc_71]; exact Is.mk) ?cont54
         intro hv54
         simp only [go_sem, simprocAttr, hxc_71]
         first | apply hK53 | refine ⟨sd, hK53 _ _ ?_⟩
         refine cM hm (fun hc55 hm => ?_) (fun hc55 hm => ?_)
         ·obtain ⟨c_77, hm⟩ := chk_elim hm
          refine Wp.seqR fun K56 hK56 => ?_
          simp only [go_sem, simprocAttr, hxc_71]
          first | apply hK56 | refine ⟨by first | exact sd | ((repeat' apply And.intro) <;> first | assumption | omega | (simp only [List.length_append, List.length_map, List.length_cons, List.length_nil, List.length_set, List.length_replicate] at c_77 ⊢; omega)), hK56 _ _ ?_⟩
          refine Wp.ret ?_
          refine retQ_ret ?_
          cases hm
          simp only [go_sem, simprocAttr, hxc_71]
          try exact se1
         ·obtain ⟨r_78, hr_78, hm⟩ := callG_elim hm
          refine Wp.seqR fun K57 hK57 => ?_
          simp only [go_sem, simprocAttr, hxc_71]
          try refine ⟨sd, ?_⟩
          refine Rg.callX (av := ?av58) (g := decide ((IntKind.i64.wrap r_4.2) ≤ 64)) (fun hg => ok_strings_HasPrefix ([48, 48, 48, 48, 48, 48, 48, 48, 48, 48, 48, 48, 48, 48, 48, 48, 48, 48, 48, 48, 48, 48, 48, 48, 48, 48, 48, 48, 48, 48, 48, 48, 48, 48, 48, 48, 48, 48, 48, 48, 48, 48, 48, 48, 48, 48, 48, 48, 48, 48, 48, 48, 48, 48, 48, 48, 48, 48, 48, 48, 48, 48, 48, 48] : Str) s_1 _ (hr_78 hg)) (by simp only [go_sem, simprocAttr, hxc_71]; exact Is.mk) (by simp only [go_sem, simprocAttr, hxc_71]; exact Is.mk) (by simp only [go_sem, simprocAttr, hxc_71]; exact Is.mk) (by simp only [go_sem, simprocAttr, hxc_71]) (by simp only [go_sem, simprocAttr, hxc_71]; exact Is.mk) ?cont58
          intro hv58
          simp only [go_sem, simprocAttr, hxc_71]
          first | apply hK57 | refine ⟨sd, hK57 _ _ ?_⟩
          refine cM hm (fun hc59 hm => ?_) (fun hc59 hm => ?_)
          ·obtain ⟨c_79, hm⟩ := chk_elim hm
           refine Wp.seqR fun K60 hK60 => ?_
           simp only [go_sem, simprocAttr, hxc_71]
           first | apply hK60 | refine ⟨by first | exact sd | ((repeat' apply And.intro) <;> first | assumption | omega | (simp only [List.length_append, List.length_map, List.length_cons, List.length_nil, List.length_set, List.length_replicate] at c_79 ⊢; omega)), hK60 _ _ ?_⟩
           refine Wp.ret ?_
           refine retQ_ret ?_
           cases hm
           simp only [go_sem, simprocAttr, hxc_71]
           try exact se1
          ·obtain ⟨r_80, hr_80, hm⟩ := callG_elim hm
           refine Wp.seqR fun K61 hK61 => ?_
           simp only [go_sem, simprocAttr, hxc_71]
           try refine ⟨sd, ?_⟩
           refine Rg.callX (av := ?av62) (g := decide ((IntKind.i64.wrap r_4.2) ≤ 128)) (fun hg => ok_strings_HasPrefix ((List.append [61, 61, 61, 61, 61, 61, 61, 61, 61, 61, 61, 61, 61, 61, 61, 61, 61, 61, 61, 61, 61, 61, 61, 61, 61, 61, 61, 61, 61, 61, 61, 61, 61, 61, 61, 61, 61, 61, 61, 61, 61, 61, 61, 61, 61, 61, 61, 61, 61, 61, 61, 61, 61, 61, 61, 61, 61, 61, 61, 61, 61, 61, 61, 61] [61, 61, 61, 61, 61, 61, 61, 61, 61, 61, 61, 61, 61, 61, 61, 61, 61, 61, 61, 61, 61, 61, 61, 61, 61, 61, 61, 61, 61, 61, 61, 61, 61, 61, 61, 61, 61, 61, 61, 61, 61, 61, 61, 61, 61, 61, 61, 61, 61, 61, 61, 61, 61, 61, 61, 61, 61, 61, 61, 61, 61, 61, 61, 61]) : Str) s_1 _ (hr_80 hg)) (by simp only [go_sem, simprocAttr, hxc_71]; exact Is.mk) (by simp only [go_sem, simprocAttr, hxc_71]; exact Is.mk) (by simp only [go_sem, simprocAttr, hxc_71]; exact Is.mk) (by simp only [go_sem, simprocAttr, hxc_71]) (by simp only [go_sem, simprocAttr, hxc_71]; exact Is.mk) ?cont62
           intro hv62
           simp only [go_sem, simprocAttr, hxc_71]
           first | apply hK61 | refine ⟨sd, hK61 _ _ ?_⟩
           refine cM hm (fun hc63 hm => ?_) (fun hc63 hm => ?_)
           ·obtain ⟨c_81, hm⟩ := chk_elim hm
            refine Wp.seqR fun K64 hK64 => ?_
            simp only [go_sem, simprocAttr, hxc_71]
            first | apply hK64 | refine ⟨by first | exact sd | ((repeat' apply And.intro) <;> first | assumption | omega | (simp only [List.length_append, List.length_map, List.length_cons, List.length_nil, List.length_set, List.length_replicate] at c_81 ⊢; omega)), hK64 _ _ ?_⟩
            refine Wp.ret ?_
            refine retQ_ret ?_
            cases hm
            simp only [go_sem, simprocAttr, hxc_71]
            try exact se1
           ·obtain ⟨r_82, hr_82, hm⟩ := callG_elim hm
            refine Wp.seqR fun K65 hK65 => ?_
            simp only [go_sem, simprocAttr, hxc_71]
            try refine ⟨sd, ?_⟩
            refine Rg.callX (av := ?av66) (g := decide ((IntKind.i64.wrap r_4.2) ≤ 64)) (fun hg => ok_strings_HasPrefix ([9, 9, 9, 9, 9, 9, 9, 9, 9, 9, 9, 9, 9, 9, 9, 9, 9, 9, 9, 9, 9, 9, 9, 9, 9, 9, 9, 9, 9, 9, 9, 9, 9, 9, 9, 9, 9, 9, 9, 9, 9, 9, 9, 9, 9, 9, 9, 9, 9, 9, 9, 9, 9, 9, 9, 9, 9, 9, 9, 9, 9, 9, 9, 9] : Str) s_1 _ (hr_82 hg)) (by simp only [go_sem, simprocAttr, hxc_71]; exact Is.mk) (by simp only [go_sem, simprocAttr, hxc_71]; exact Is.mk) (by simp only [go_sem, simprocAttr, hxc_71]; exact Is.mk) (by simp only [go_sem, simprocAttr, hxc_71]) (by simp only [go_sem, simprocAttr, hxc_71]; exact Is.mk) ?cont66
            intro hv66
            simp only [go_sem, simprocAttr, hxc_71]
            first | apply hK65 | refine ⟨sd, hK65 _ _ ?_⟩
            refine cM hm (fun hc67 hm => ?_) (fun hc67 hm => ?_)
            ·obtain ⟨c_83, hm⟩ := chk_elim hm
             refine Wp.seqR fun K68 hK68 => ?_
             simp only [go_sem, simprocAttr, hxc_71]
             first | apply hK68 | refine ⟨by first | exact sd | ((repeat' apply And.intro) <;> first | assumption | omega | (simp only [List.length_append, List.length_map, List.length_cons, List.length_nil, List.length_set, List.length_replicate] at c_83 ⊢; omega)), hK68 _ _ ?_⟩
             refine Wp.ret ?_
             refine retQ_ret ?_
             cases hm
             simp only [go_sem, simprocAttr, hxc_71]
             try exact se1
            ·refine Wp.skip ?_
             refine hW19 _ _ _ _ ?_ (hcut19 () hm)
             simp only [go_sem, simprocAttr, hxc_71]
             try exact se1
       ·refine Wp.skip ?_
        refine hW19 _ _ _ _ ?_ (hcut19 () hm)
        simp only [go_sem, simprocAttr, hxc_71]
        try exact se1
      clear hK47 hk_73
      refine Wp.seqR fun K69 hK69 => ?_
      simp only [go_sem, simprocAttr, hxc_71]
      first | apply hK69 | refine ⟨sd, hK69 _ _ ?_⟩
      refine cM hm (fun hc70 hm => ?_) (fun hc70 hm => ?_)
      ·refine Wp.skip ?_
       refine hW47 _ _ _ _ ?_ (hcut47 (decide (c_71 = 32)) hm)
       simp only [go_sem, simprocAttr, hxc_71]
       try exact se1
      ·refine Wp.seqR fun K71 hK71 => ?_
       simp only [go_sem, simprocAttr, hxc_71]
       first | apply hK71 | refine ⟨sd, hK71 _ _ ?_⟩
       refine cM hm (fun hc72 hm => ?_) (fun hc72 hm => ?_)
       ·refine Wp.skip ?_
        refine hW47 _ _ _ _ ?_ (hcut47 (decide (c_71 = 45)) hm)
        simp only [go_sem, simprocAttr, hxc_71]
        try exact se1
       ·refine Wp.seqR fun K73 hK73 => ?_
        simp only [go_sem, simprocAttr, hxc_71]
        first | apply hK73 | refine ⟨sd, hK73 _ _ ?_⟩
        refine cM hm (fun hc74 hm => ?_) (fun hc74 hm => ?_)
        ·refine Wp.skip ?_
         refine hW47 _ _ _ _ ?_ (hcut47 (decide (c_71 = 48)) hm)
         simp only [go_sem, simprocAttr, hxc_71]
         try exact se1
        ·refine Wp.seqR fun K75 hK75 => ?_
         simp only [go_sem, simprocAttr, hxc_71]
         first | apply hK75 | refine ⟨sd, hK75 _ _ ?_⟩
         refine cM hm (fun hc76 hm => ?_) (fun hc76 hm => ?_)
         ·refine Wp.skip ?_
          refine hW47 _ _ _ _ ?_ (hcut47 (decide (c_71 = 61)) hm)
          simp only [go_sem, simprocAttr, hxc_71]
          try exact se1
         ·refine Wp.region fun K77 hK77 => ?_
          simp only [go_sem, simprocAttr, hxc_71]
          first | apply hK77 | refine ⟨sd, hK77 _ _ ?_⟩
          refine hW47 _ _ _ _ ?_ (hcut47 (decide (c_71 = 9)) hm)
          simp only [go_sem, simprocAttr, hxc_71]
          try exact se1
    clear hK13 hk_5
    refine qS ?_
    refine cM hm (fun hc79 hm => ?_) (fun hc79 hm => ?_)
    ·cases hm
    ·refine Wp.skip ?_
     refine hW13 _ _ _ _ ?_ (hcut13 () hm)
     exact fse1
   clear hK10 hk_3
   refine qS ?_
   refine cM hm (fun hc81 hm => ?_) (fun hc81 hm => ?_)
   ·cases hm
   ·refine Wp.skip ?_
    refine hW10 _ _ _ _ ?_ (hcut10 () hm)
    exact fse1
theorem ok_R_SumOf (s_1 : Str) (z : Str) (hm : R_SumOf s_1 = some z) : Does Tryd.prog 36 [.p (.s s_1)] [] (fun r X => r = .p (.s z) ∧ X = []) := by
 unfold R_SumOf at hm
 refine Does.of_wp 0 27 [.tmp 2] Tryd.func36 rfl (by decide) rfl rfl (Nat.le_of_ble_eq_true rfl) fun B => ?_
 refine qS ?_
 refine qS ?_
 refine Wp.seqW fun K3 hK3 hW3 => ?_
 obtain ⟨k_11, hk_11, hm⟩ := jp_elim hm
 have hcut3 : ∀ s, k_11 s = some z → K3 [(3, .p (.i .u64 s))] [] := by
  intro h_10 hs
  have hm := hk_11 _ hs
  clear hs
  try dsimp only at hm
  try dsimp only
  refine hK3 _ _ ?_
  obtain ⟨r_12, hr_12, hm⟩ := call_elim hm
  refine Wp.seqR fun K4 hK4 => ?_
  simp only [go_sem, simprocAttr]
  try refine ⟨sd, ?_⟩
  refine Rg.callX (av := ?av5) (g := true) (fun hg => ok_strconv_FormatUint h_10 16 _ hr_12) si si si sg si ?cont5
  intro hv5
  simp only [go_sem, simprocAttr]
  first | apply hK4 | refine ⟨sd, hK4 _ _ ?_⟩
  obtain ⟨r_13, hr_13, hm⟩ := call_elim hm
  obtain ⟨c_14, hm⟩ := chk_elim hm
  refine Wp.seqR fun K6 hK6 => ?_
  simp only [go_sem, simprocAttr]
  try refine ⟨by first | exact sd | ((repeat' apply And.intro) <;> first | assumption | omega | (simp only [List.length_append, List.length_map, List.length_cons, List.length_nil, List.length_set, List.length_replicate] at c_14 ⊢; omega)), ?_⟩
  refine Rg.callX (av := ?av7) (g := true) (fun hg => ok_strings_Repeat ([48] : Str) (IntKind.i64.wrap (16 - (r_12.length : Int))) _ hr_13) si si si sg si ?cont7
  intro hv7
  simp only [go_sem, simprocAttr]
  first | apply hK6 | refine ⟨by first | exact sd | ((repeat' apply And.intro) <;> first | assumption | omega | (simp only [List.length_append, List.length_map, List.length_cons, List.length_nil, List.length_set, List.length_replicate] at c_14 ⊢; omega)), hK6 _ _ ?_⟩
  refine Wp.ret ?_
  refine retQ_ret ?_
  cases hm
  exact fse1
 clear hK3 hk_11
 refine qS ?_
 refine Wp.block ?_
 obtain ⟨k_18, hk_18, hm⟩ := forL_cont hm
 refine Wp.fact 0 fun hl_21 => ?_
 replace hl_21 : s_1.length ≤ 274877906944 := by
  simp only [go_sem, simprocAttr, List.length_map] at hl_21
  omega
 refine Wp.forL (fun i_20 s => [(0, .p (.s s_1)), (3, .p (.i .u64 s)), (7, .p (.i .i64 (s_1.length : Int))), (8, .p (.i .i64 (i_20 : Int)))]) (fun i_20 s => []) ?_ hm ?_
 ·
  exact fse1
 clear hm
 intro i_20 h_15 hii_20 hm
 try dsimp only at hm
 try dsimp only
 refine qS ?_
 refine Wp.seqW fun K10 hK10 hW10 => ?_
 refine Wp.cond rfl ⟨⟩ (fun hc10 => ?_) (fun hc10 => ?_)
 rotate_left
 ·refine Wp.exit ?_
  have hm := hk_18 _ (forL_end hm (ge_nat (by first | exact hc10 | simpa using hc10)))
  try dsimp only at hm
  refine hW3 _ _ _ _ ?_ (hcut3 h_15 hm)
  exact fse1
 have hlt10 := lt_nat (by first | exact hc10 | simpa using hc10)
 have hw10 := wrap_succ hlt10 hl_21
 obtain ⟨c_22, nx_19, hxc_22, hyc_22, hnx_19, hm⟩ := forL_step hm hlt10
 clear hxc_22
 refine Wp.skip ?_
 simp only [thenQ]
 refine hK10 _ _ ?_
 refine Wp.seqW fun K11 hK11 hW11 => ?_
 refine Wp.block ?_
 refine Wp.seqR fun K12 hK12 => ?_
 simp only [go_sem, simprocAttr, hw10, hyc_22]
 first | apply hK12 | refine ⟨sd, hK12 _ _ ?_⟩
 refine Wp.region fun K13 hK13 => ?_
 simp only [go_sem, simprocAttr, hw10, hyc_22]
 first | apply hK13 | refine ⟨sd, hK13 _ _ ?_⟩
 refine hK11 _ _ ?_
 refine Wp.region fun K14 hK14 => ?_
 simp only [go_sem, simprocAttr, hw10, hyc_22]
 first | apply hK14 | refine ⟨sd, hK14 _ _ ?_⟩
 simp only [thenQ, blockQ, ↓reduceIte]
 refine ⟨IntKind.u64.wrap ((bitsI .xor .u64 h_15 (IntKind.u64.wrap (c_22.toNat : Int))) * 1099511628211), hlt10, hnx_19 _ hm, ?_⟩
 simp only [go_sem, simprocAttr, hw10, hyc_22]
 try exact se1
theorem ok_R_Made (a_1 : Str) (l_2 : List api_Piece) (z : Str) (hm : R_Made a_1 l_2 = some z) : Does Tryd.prog 37 [.p (.s a_1), .p (.l (List.map enc_api_Piece l_2))] [] (fun r X => r = .p (.s z) ∧ X = []) := by
 unfold R_Made at hm
 refine Does.of_wp 0 32 [.tmp 4] Tryd.func37 rfl (by decide) rfl rfl (Nat.le_of_ble_eq_true rfl) fun B => ?_
 refine qS ?_
 refine qS ?_
 refine Wp.adoptB 0 5 rfl ?_
 simp only [go_sem, simprocAttr]
 refine Wp.seqW fun K3 hK3 hW3 => ?_
 obtain ⟨k_23, hk_23, hm⟩ := jp_elim hm
 have hcut3 : ∀ s, k_23 s = some z → K3 [(5, .ptr 0 0)] [.cells 86 [.np 0, .buf 1], .sb 5 s] := by
  intro o1_22 hs
  have hm := hk_23 _ hs
  clear hs
  try dsimp only at hm
  try dsimp only
  refine hK3 _ _ ?_
  obtain ⟨r_24, hr_24, hm⟩ := call_elim hm
  refine Wp.seqR fun K4 hK4 => ?_
  simp only [go_sem, simprocAttr]
  try refine ⟨sd, ?_⟩
  refine Rg.callO (av := ?av5) [0, 1] (ok_strings_Builder_String_i1 o1_22 _ hr_24) si si si sg sg ?cont5
  rintro _ _ ⟨rfl, rfl⟩ hv5
  simp only [go_sem, simprocAttr]
  first | apply hK4 | refine ⟨sd, hK4 _ _ ?_⟩
  refine Wp.ret ?_
  refine retQ_ret ?_
  cases hm
  exact fse1
 clear hK3 hk_23
 refine qS ?_
 refine Wp.block ?_
 obtain ⟨k_36, hk_36, hm⟩ := forL_cont hm
 refine Wp.fact 8 fun hl_39 => ?_
 replace hl_39 : l_2.length ≤ 274877906944 := by
  simp only [go_sem, simprocAttr, List.length_map] at hl_39
  omega
 refine Wp.forL (fun i_38 s => [(0, .p (.s a_1)), (5, .ptr 0 0), (8, .p (.l (List.map enc_api_Piece l_2))), (9, .p (.i .i64 (l_2.length : Int))), (10, .p (.i .i64 (i_38 : Int)))]) (fun i_38 s => [.cells 86 [.np 0, .buf 1], .sb 5 s]) ?_ hm ?_
 ·
  exact fse1
 clear hm
 intro i_38 o1_31 hii_38 hm
 try dsimp only at hm
 try dsimp only
 refine qS ?_
 refine Wp.seqW fun K8 hK8 hW8 => ?_
 refine Wp.cond rfl ⟨⟩ (fun hc8 => ?_) (fun hc8 => ?_)
 rotate_left
 ·refine Wp.exit ?_
  have hm := hk_36 _ (forL_end hm (ge_nat (by first | exact hc8 | simpa using hc8)))
  try dsimp only at hm
  refine hW3 _ _ _ _ ?_ (hcut3 o1_31 hm)
  exact fse1
 have hlt8 := lt_nat (by first | exact hc8 | simpa using hc8)
 have hw8 := wrap_succ hlt8 hl_39
 obtain ⟨p_40, nx_37, hxp_40, hyp_40, hnx_37, hm⟩ := forL_step hm hlt8
 replace hxp_40 := hxp_40 enc_api_Piece
 refine Wp.skip ?_
 simp only [thenQ]
 refine hK8 _ _ ?_
 refine Wp.seqW fun K9 hK9 hW9 => ?_
 refine Wp.block ?_
 refine Wp.seqR fun K10 hK10 => ?_
 simp only [go_sem, simprocAttr, hw8, hxp_40]
 first | apply hK10 | refine ⟨sd, hK10 _ _ ?_⟩
 refine Wp.seqR fun K11 hK11 => ?_
 simp only [go_sem, simprocAttr, hw8, hxp_40]
 first | apply hK11 | refine ⟨sd, hK11 _ _ ?_⟩
 refine cM hm (fun hc12 hm => ?_) (fun hc12 hm => ?_)
 ·obtain ⟨r_41, hr_41, hm⟩ := call_elim hm
  refine Wp.region fun K13 hK13 => ?_
  simp only [go_sem, simprocAttr, hw8, hxp_40]
  try refine ⟨sd, ?_⟩
  refine Rg.callO (av := ?av14) [0, 1] (ok_strings_Builder_WriteString_i1 p_40.Data o1_31 _ hr_41) (by simp only [go_sem, simprocAttr, hw8, hxp_40]; exact Is.mk) (by simp only [go_sem, simprocAttr, hw8, hxp_40]; exact Is.mk) (by simp only [go_sem, simprocAttr, hw8, hxp_40]; exact Is.mk) (by simp only [go_sem, simprocAttr, hw8, hxp_40]) (by simp only [go_sem, simprocAttr, hw8, hxp_40]) ?cont14
  rintro _ _ ⟨rfl, rfl⟩ hv14
  simp only [go_sem, simprocAttr, hw8, hxp_40]
  first | apply hK13 | refine ⟨sd, hK13 _ _ ?_⟩
  refine hK9 _ _ ?_
  refine Wp.region fun K15 hK15 => ?_
  simp only [go_sem, simprocAttr, hw8, hxp_40]
  first | apply hK15 | refine ⟨sd, hK15 _ _ ?_⟩
  simp only [thenQ, blockQ, ↓reduceIte]
  refine ⟨r_41.2, hlt8, hnx_37 _ hm, ?_⟩
  simp only [go_sem, simprocAttr, hw8, hxp_40]
  try exact se1
 ·obtain ⟨c_42, hm⟩ := chk_elim hm
  obtain ⟨r_43, hr_43, hm⟩ := call_elim hm
  refine Wp.region fun K16 hK16 => ?_
  simp only [go_sem, simprocAttr, hw8, hxp_40]
  try refine ⟨by first | exact sd | ((repeat' apply And.intro) <;> first | assumption | omega | (simp only [List.length_append, List.length_map, List.length_cons, List.length_nil, List.length_set, List.length_replicate] at c_42 ⊢; omega)), ?_⟩
  refine Rg.callO (av := ?av17) [0, 1] (ok_strings_Builder_WriteString_i1 (List.take ((IntKind.i64.wrap (p_40.At + p_40.Long)).toNat - p_40.At.toNat) (List.drop p_40.At.toNat a_1)) o1_31 _ hr_43) (by simp only [go_sem, simprocAttr, hw8, hxp_40]; exact Is.mk) (by simp only [go_sem, simprocAttr, hw8, hxp_40]; exact Is.mk) (by simp only [go_sem, simprocAttr, hw8, hxp_40]; exact Is.mk) (by simp only [go_sem, simprocAttr, hw8, hxp_40]) (by simp only [go_sem, simprocAttr, hw8, hxp_40]) ?cont17
  rintro _ _ ⟨rfl, rfl⟩ hv17
  simp only [go_sem, simprocAttr, hw8, hxp_40]
  first | apply hK16 | refine ⟨by first | exact sd | ((repeat' apply And.intro) <;> first | assumption | omega | (simp only [List.length_append, List.length_map, List.length_cons, List.length_nil, List.length_set, List.length_replicate] at c_42 ⊢; omega)), hK16 _ _ ?_⟩
  refine hK9 _ _ ?_
  refine Wp.region fun K18 hK18 => ?_
  simp only [go_sem, simprocAttr, hw8, hxp_40]
  first | apply hK18 | refine ⟨sd, hK18 _ _ ?_⟩
  simp only [thenQ, blockQ, ↓reduceIte]
  refine ⟨r_43.2, hlt8, hnx_37 _ hm, ?_⟩
  simp only [go_sem, simprocAttr, hw8, hxp_40]
  try exact se1
theorem ok_R_IsSum (s_1 : Str) (z : Bool) (hm : R_IsSum s_1 = some z) : Does Tryd.prog 90 [.p (.s s_1)] [] (fun r X => r = .p (.b z) ∧ X = []) := by
 unfold R_IsSum at hm
 refine Does.of_wp 0 31 [.tmp 2] Tryd.func90 rfl (by decide) rfl rfl (Nat.le_of_ble_eq_true rfl) fun B => ?_
 refine qS ?_
 refine Wp.seqW fun K2 hK2 hW2 => ?_
 obtain ⟨k_9, hk_9, hm⟩ := jp_elim hm
 have hcut2 : ∀ s, k_9 s = some z → K2 [(0, .p (.s s_1))] [] := by
  intro s hs
  have hm := hk_9 _ hs
  clear hs
  try dsimp only at hm
  try dsimp only
  refine hK2 _ _ ?_
  refine qS ?_
  refine Wp.ret ?_
  refine retQ_ret ?_
  cases hm
  exact fse1
 clear hK2 hk_9
 refine qS ?_
 refine Wp.block ?_
 obtain ⟨k_12, hk_12, hm⟩ := forL_cont hm
 refine Wp.fact 0 fun hl_15 => ?_
 replace hl_15 : s_1.length ≤ 274877906944 := by
  simp only [go_sem, simprocAttr, List.length_map] at hl_15
  omega
 refine Wp.forL (fun i_14 s => [(0, .p (.s s_1)), (6, .p (.i .i64 (s_1.length : Int))), (7, .p (.i .i64 (i_14 : Int)))]) (fun i_14 s => []) ?_ hm ?_
 ·
  exact fse1
 clear hm
 intro i_14 s hii_14 hm
 try dsimp only at hm
 try dsimp only
 refine qS ?_
 refine Wp.seqW fun K6 hK6 hW6 => ?_
 refine Wp.cond rfl ⟨⟩ (fun hc6 => ?_) (fun hc6 => ?_)
 rotate_left
 ·refine Wp.exit ?_
  have hm := hk_12 _ (forL_end hm (ge_nat (by first | exact hc6 | simpa using hc6)))
  try dsimp only at hm
  refine hW2 _ _ _ _ ?_ (hcut2 () hm)
  exact fse1
 have hlt6 := lt_nat (by first | exact hc6 | simpa using hc6)
 have hw6 := wrap_succ hlt6 hl_15
 obtain ⟨c_16, nx_13, hxc_16, hyc_16, hnx_13, hm⟩ := forL_step hm hlt6
 clear hxc_16
 refine Wp.skip ?_
 simp only [thenQ]
 refine hK6 _ _ ?_
 refine Wp.seqW fun K7 hK7 hW7 => ?_
 refine Wp.block ?_
 refine Wp.seqR fun K8 hK8 => ?_
 simp only [go_sem, simprocAttr, hw6, hyc_16]
 first | apply hK8 | refine ⟨sd, hK8 _ _ ?_⟩
 refine Wp.seqR fun K9 hK9 => ?_
 simp only [go_sem, simprocAttr, hw6, hyc_16]
 first | apply hK9 | refine ⟨sd, hK9 _ _ ?_⟩
 refine Wp.seqR fun K10 hK10 => ?_
 simp only [go_sem, simprocAttr, hw6, hyc_16]
 first | apply hK10 | refine ⟨sd, hK10 _ _ ?_⟩
 refine cM hm (fun hc11 hm => ?_) (fun hc11 hm => ?_)
 ·refine Wp.seqR fun K12 hK12 => ?_
  simp only [go_sem, simprocAttr, hw6, hyc_16]
  first | apply hK12 | refine ⟨sd, hK12 _ _ ?_⟩
  refine Wp.ret ?_
  refine retQ_ret ?_
  cases hm
  simp only [go_sem, simprocAttr, hw6, hyc_16]
  try exact se1
 ·refine Wp.skip ?_
  refine hK7 _ _ ?_
  refine Wp.region fun K13 hK13 => ?_
  simp only [go_sem, simprocAttr, hw6, hyc_16]
  first | apply hK13 | refine ⟨sd, hK13 _ _ ?_⟩
  simp only [thenQ, blockQ, ↓reduceIte]
  refine ⟨(), hlt6, hnx_13 _ hm, ?_⟩
  simp only [go_sem, simprocAttr, hw6, hyc_16]
  try exact se1
theorem ok_R_when (bad_1 : Bool) (e_2 : Int) (z : Int) (hm : R_when bad_1 e_2 = some z) : Does Tryd.prog 91 [.p (.b bad_1), .p (.i .i64 e_2)] [] (fun r X => r = .p (.i .i64 z) ∧ X = []) := by
 unfold R_when at hm
 refine Does.of_wp 0 7 [.tmp 4] Tryd.func91 rfl (by decide) rfl rfl (Nat.le_of_ble_eq_true rfl) fun B => ?_
 refine qS ?_
 refine Wp.seqW fun K2 hK2 hW2 => ?_
 refine qS ?_
 refine cM hm (fun hc4 hm => ?_) (fun hc4 hm => ?_)
 ·refine qS ?_
  refine Wp.ret ?_
  refine retQ_ret ?_
  cases hm
  exact fse1
 ·refine Wp.skip ?_
  refine hK2 _ _ ?_
  refine qS ?_
  refine Wp.ret ?_
  refine retQ_ret ?_
  cases hm
  exact fse1
theorem ok_R_first (l_1 : List Int) (z : Int) (hm : R_first l_1 = some z) : Does Tryd.prog 63 [.p (.l (List.map ecI_i64 l_1))] [] (fun r X => r = .p (.i .i64 z) ∧ X = []) := by
 unfold R_first at hm
 refine Does.of_wp 0 15 [.tmp 2] Tryd.func63 rfl (by decide) rfl rfl (Nat.le_of_ble_eq_true rfl) fun B => ?_
 refine qS ?_
 refine Wp.seqW fun K2 hK2 hW2 => ?_
 obtain ⟨k_9, hk_9, hm⟩ := jp_elim hm
 have hcut2 : ∀ s, k_9 s = some z → K2 [] [] := by
  intro s hs
  have hm := hk_9 _ hs
  clear hs
  try dsimp only at hm
  try dsimp only
  refine hK2 _ _ ?_
  refine qS ?_
  refine Wp.ret ?_
  refine retQ_ret ?_
  cases hm
  exact fse1
 clear hK2 hk_9
 refine qS ?_
 refine Wp.block ?_
 obtain ⟨k_12, hk_12, hm⟩ := forL_cont hm
 refine Wp.fact 5 fun hl_15 => ?_
 replace hl_15 : l_1.length ≤ 274877906944 := by
  simp only [go_sem, simprocAttr, List.length_map] at hl_15
  omega
 refine Wp.forL (fun i_14 s => [(5, .p (.l (List.map ecI_i64 l_1))), (6, .p (.i .i64 (l_1.length : Int))), (7, .p (.i .i64 (i_14 : Int)))]) (fun i_14 s => []) ?_ hm ?_
 ·
  exact fse1
 clear hm
 intro i_14 s hii_14 hm
 try dsimp only at hm
 try dsimp only
 refine qS ?_
 refine Wp.seqW fun K6 hK6 hW6 => ?_
 refine Wp.cond rfl ⟨⟩ (fun hc6 => ?_) (fun hc6 => ?_)
 rotate_left
 ·refine Wp.exit ?_
  have hm := hk_12 _ (forL_end hm (ge_nat (by first | exact hc6 | simpa using hc6)))
  try dsimp only at hm
  refine hW2 _ _ _ _ ?_ (hcut2 () hm)
  exact fse1
 have hlt6 := lt_nat (by first | exact hc6 | simpa using hc6)
 have hw6 := wrap_succ hlt6 hl_15
 obtain ⟨e_16, nx_13, hxe_16, hye_16, hnx_13, hm⟩ := forL_step hm hlt6
 replace hxe_16 := hxe_16 ecI_i64
 refine Wp.skip ?_
 simp only [thenQ]
 refine hK6 _ _ ?_
 refine Wp.seqW fun K7 hK7 hW7 => ?_
 refine Wp.block ?_
 refine Wp.seqR fun K8 hK8 => ?_
 simp only [go_sem, simprocAttr, hw6, hxe_16]
 first | apply hK8 | refine ⟨sd, hK8 _ _ ?_⟩
 refine Wp.seqR fun K9 hK9 => ?_
 simp only [go_sem, simprocAttr, hw6, hxe_16]
 first | apply hK9 | refine ⟨sd, hK9 _ _ ?_⟩
 refine cM hm (fun hc10 hm => ?_) (fun hc10 hm => ?_)
 ·refine Wp.seqR fun K11 hK11 => ?_
  simp only [go_sem, simprocAttr, hw6, hxe_16]
  first | apply hK11 | refine ⟨sd, hK11 _ _ ?_⟩
  refine Wp.ret ?_
  refine retQ_ret ?_
  cases hm
  simp only [go_sem, simprocAttr, hw6, hxe_16]
  try exact se1
 ·refine Wp.skip ?_
  refine hK7 _ _ ?_
  refine Wp.region fun K12 hK12 => ?_
  simp only [go_sem, simprocAttr, hw6, hxe_16]
  first | apply hK12 | refine ⟨sd, hK12 _ _ ?_⟩
  simp only [thenQ, blockQ, ↓reduceIte]
  refine ⟨(), hlt6, hnx_13 _ hm, ?_⟩
  simp only [go_sem, simprocAttr, hw6, hxe_16]
  try exact se1
theorem ok_R_DeltaError (d_1 : api_Delta) (z : Int) (hm : R_DeltaError d_1 = some z) : Does Tryd.prog 38 [.agg [.p (.i .i64 d_1.Old), .p (.i .i64 d_1.New), .p (.s d_1.OldSum), .p (.s d_1.NewSum), .p (.l (List.map enc_api_Piece d_1.Pieces))]] [] (fun r X => r = .p (.i .i64 z) ∧ X = []) := by
 unfold R_DeltaError at hm
 refine Does.of_wp 0 51 [.tmp 2] Tryd.func38 rfl (by decide) rfl rfl (Nat.le_of_ble_eq_true rfl) fun B => ?_
 refine qS ?_
 refine Wp.seqW fun K2 hK2 hW2 => ?_
 refine Wp.block ?_
 refine qS ?_
 refine cM hm (fun hc4 hm => ?_) (fun hc4 hm => ?_)
 ·refine qS ?_
  refine Wp.ret ?_
  refine retQ_ret ?_
  cases hm
  exact fse1
 ·obtain ⟨r_2, hr_2, hm⟩ := call_elim hm
  obtain ⟨r_3, hr_3, hm⟩ := callG_elim hm
  refine Wp.seqR fun K6 hK6 => ?_
  simp only [go_sem, simprocAttr]
  try refine ⟨sd, ?_⟩
  refine Rg.callX (av := ?av7) (g := true) (fun hg => ok_R_IsSum d_1.OldSum _ hr_2) si si si sg si ?cont7
  intro hv7
  simp only [go_sem, simprocAttr]
  try refine ⟨sd, ?_⟩
  refine Rg.callX (av := ?av8) (g := !(!r_2)) (fun hg => ok_R_IsSum d_1.NewSum _ (hr_3 hg)) si si si sg si ?cont8
  intro hv8
  simp only [go_sem, simprocAttr]
  first | apply hK6 | refine ⟨sd, hK6 _ _ ?_⟩
  refine cM hm (fun hc9 hm => ?_) (fun hc9 hm => ?_)
  ·refine qS ?_
   refine Wp.ret ?_
   refine retQ_ret ?_
   cases hm
   exact fse1
  ·refine Wp.skip ?_
   refine hK2 _ _ ?_
   obtain ⟨r_4, hr_4, hm⟩ := call_elim hm
   refine Wp.seqR fun K11 hK11 => ?_
   simp only [go_sem, simprocAttr]
   try refine ⟨sd, ?_⟩
   refine Rg.callX (av := ?av12) (g := true) (fun hg => ok_R_PiecesError d_1.Pieces d_1.Old _ hr_4) si si si sg si ?cont12
   intro hv12
   simp only [go_sem, simprocAttr]
   first | apply hK11 | refine ⟨sd, hK11 _ _ ?_⟩
   obtain ⟨r_5, hr_5, hm⟩ := call_elim hm
   obtain ⟨r_6, hr_6, hm⟩ := call_elim hm
   refine Wp.seqR fun K13 hK13 => ?_
   simp only [go_sem, simprocAttr]
   try refine ⟨sd, ?_⟩
   refine Rg.callX (av := ?av14) (g := true) (fun hg => ok_R_when (!decide (r_4.1 = d_1.New)) 11 _ hr_5) si si si sg si ?cont14
   intro hv14
   simp only [go_sem, simprocAttr]
   try refine ⟨sd, ?_⟩
   refine Rg.callX (av := ?av15) (g := true) (fun hg => ok_R_first [r_4.2, r_5] _ hr_6) si si si sg si ?cont15
   intro hv15
   simp only [go_sem, simprocAttr]
   first | apply hK13 | refine ⟨sd, hK13 _ _ ?_⟩
   refine Wp.ret ?_
   refine retQ_ret ?_
   cases hm
   exact fse1
theorem ok_delta_isSum (s_1 : Str) (z : Bool) (hm : delta_isSum s_1 = some z) : Does Tryd.prog 93 [.p (.s s_1)] [] (fun r X => r = .p (.b z) ∧ X = []) := by
 unfold delta_isSum at hm
 refine Does.of_wp 0 36 [.tmp 2] Tryd.func93 rfl (by decide) rfl rfl (Nat.le_of_ble_eq_true rfl) fun B => ?_
 refine qS ?_
 refine Wp.seqW fun K2 hK2 hW2 => ?_
 obtain ⟨k_9, hk_9, hm⟩ := jp_elim hm
 have hcut2 : ∀ s, k_9 s = some z → K2 [(0, .p (.s s_1))] [] := by
  intro s hs
  have hm := hk_9 _ hs
  clear hs
  try dsimp only at hm
  try dsimp only
  refine hK2 _ _ ?_
  refine qS ?_
  refine Wp.ret ?_
  refine retQ_ret ?_
  cases hm
  exact fse1
 clear hK2 hk_9
 refine qS ?_
 refine Wp.block ?_
 obtain ⟨k_12, hk_12, hm⟩ := forL_cont hm
 refine Wp.fact 0 fun hl_15 => ?_
 replace hl_15 : s_1.length ≤ 274877906944 := by
  simp only [go_sem, simprocAttr, List.length_map] at hl_15
  omega
 refine Wp.forL (fun i_14 s => [(0, .p (.s s_1)), (3, .p (.i .i64 (i_14 : Int)))]) (fun i_14 s => []) ?_ hm ?_
 ·
  exact fse1
 clear hm
 intro i_14 s hii_14 hm
 try dsimp only at hm
 try dsimp only
 refine Wp.seqW fun K5 hK5 hW5 => ?_
 refine qS ?_
 refine Wp.cond rfl ⟨⟩ (fun hc5 => ?_) (fun hc5 => ?_)
 rotate_left
 ·refine Wp.exit ?_
  have hm := hk_12 _ (forL_end hm (ge_nat (by first | exact hc5 | simpa using hc5)))
  try dsimp only at hm
  refine hW2 _ _ _ _ ?_ (hcut2 () hm)
  exact fse1
 have hlt5 := lt_nat (by first | exact hc5 | simpa using hc5)
 have hw5 := wrap_succ hlt5 hl_15
 obtain ⟨c_16, nx_13, hxc_16, hyc_16, hnx_13, hm⟩ := forL_step hm hlt5
 clear hxc_16
 refine Wp.skip ?_
 simp only [thenQ]
 refine hK5 _ _ ?_
 refine Wp.seqW fun K7 hK7 hW7 => ?_
 refine Wp.block ?_
 refine Wp.seqR fun K8 hK8 => ?_
 simp only [go_sem, simprocAttr, hw5, hyc_16]
 first | apply hK8 | refine ⟨sd, hK8 _ _ ?_⟩
 refine cM hm (fun hc9 hm => ?_) (fun hc9 hm => ?_)
 ·refine Wp.seqR fun K10 hK10 => ?_
  simp only [go_sem, simprocAttr, hw5, hyc_16]
  first | apply hK10 | refine ⟨sd, hK10 _ _ ?_⟩
  refine Wp.ret ?_
  refine retQ_ret ?_
  cases hm
  simp only [go_sem, simprocAttr, hw5, hyc_16]
  try exact se1
 ·refine Wp.skip ?_
  refine hK7 _ _ ?_
  refine Wp.region fun K11 hK11 => ?_
  simp only [go_sem, simprocAttr, hw5, hyc_16]
  first | apply hK11 | refine ⟨sd, hK11 _ _ ?_⟩
  simp only [thenQ, blockQ, ↓reduceIte]
  refine ⟨(), hlt5, hnx_13 _ hm, ?_⟩
  simp only [go_sem, simprocAttr, hw5, hyc_16]
  try exact se1
theorem ok_delta_Check (d_1 : api_Delta) (z : Int) (hm : delta_Check d_1 = some z) : Does Tryd.prog 42 [.agg [.p (.i .i64 d_1.Old), .p (.i .i64 d_1.New), .p (.s d_1.OldSum), .p (.s d_1.NewSum), .p (.l (List.map enc_api_Piece d_1.Pieces))]] [] (fun r X => r = .p (.i .i64 z) ∧ X = []) := by
 unfold delta_Check at hm
 refine Does.of_wp 0 40 [.tmp 2] Tryd.func42 rfl (by decide) rfl rfl (Nat.le_of_ble_eq_true rfl) fun B => ?_
 refine qS ?_
 refine Wp.seqW fun K2 hK2 hW2 => ?_
 obtain ⟨r_2, hr_2, hm⟩ := call_elim hm
 obtain ⟨r_3, hr_3, hm⟩ := callG_elim hm
 refine Wp.seqR fun K3 hK3 => ?_
 simp only [go_sem, simprocAttr]
 try refine ⟨sd, ?_⟩
 refine Rg.callX (av := ?av4) (g := true) (fun hg => ok_delta_outside d_1.Old 0 65536 _ hr_2) si si si sg si ?cont4
 intro hv4
 simp only [go_sem, simprocAttr]
 try refine ⟨sd, ?_⟩
 refine Rg.callX (av := ?av5) (g := !r_2) (fun hg => ok_delta_outside d_1.New 0 65536 _ (hr_3 hg)) si si si sg si ?cont5
 intro hv5
 simp only [go_sem, simprocAttr]
 first | apply hK3 | refine ⟨sd, hK3 _ _ ?_⟩
 refine cM hm (fun hc6 hm => ?_) (fun hc6 hm => ?_)
 ·refine qS ?_
  refine Wp.ret ?_
  refine retQ_ret ?_
  cases hm
  exact fse1
 ·refine Wp.skip ?_
  refine hK2 _ _ ?_
  refine Wp.seqW fun K8 hK8 hW8 => ?_
  obtain ⟨r_4, hr_4, hm⟩ := call_elim hm
  obtain ⟨r_5, hr_5, hm⟩ := callG_elim hm
  refine Wp.seqR fun K9 hK9 => ?_
  simp only [go_sem, simprocAttr]
  try refine ⟨sd, ?_⟩
  refine Rg.callX (av := ?av10) (g := true) (fun hg => ok_delta_isSum d_1.OldSum _ hr_4) si si si sg si ?cont10
  intro hv10
  simp only [go_sem, simprocAttr]
  try refine ⟨sd, ?_⟩
  refine Rg.callX (av := ?av11) (g := !(!r_4)) (fun hg => ok_delta_isSum d_1.NewSum _ (hr_5 hg)) si si si sg si ?cont11
  intro hv11
  simp only [go_sem, simprocAttr]
  first | apply hK9 | refine ⟨sd, hK9 _ _ ?_⟩
  refine cM hm (fun hc12 hm => ?_) (fun hc12 hm => ?_)
  ·refine qS ?_
   refine Wp.ret ?_
   refine retQ_ret ?_
   cases hm
   exact fse1
  ·refine Wp.skip ?_
   refine hK8 _ _ ?_
   obtain ⟨r_6, hr_6, hm⟩ := call_elim hm
   refine Wp.seqR fun K14 hK14 => ?_
   simp only [go_sem, simprocAttr]
   try refine ⟨sd, ?_⟩
   refine Rg.callX (av := ?av15) (g := true) (fun hg => ok_delta_CheckSteps d_1.Pieces d_1.Old _ hr_6) si si si sg si ?cont15
   intro hv15
   simp only [go_sem, simprocAttr]
   first | apply hK14 | refine ⟨sd, hK14 _ _ ?_⟩
   refine Wp.seqW fun K16 hK16 hW16 => ?_
   refine qS ?_
   refine cM hm (fun hc18 hm => ?_) (fun hc18 hm => ?_)
   ·refine qS ?_
    refine Wp.ret ?_
    refine retQ_ret ?_
    cases hm
    exact fse1
   ·refine Wp.skip ?_
    refine hK16 _ _ ?_
    refine qS ?_
    refine Wp.ret ?_
    refine retQ_ret ?_
    cases hm
    exact fse1
theorem ok_disk_SumOf (text_1 : Str) (z : Str) (hm : disk_SumOf text_1 = some z) : Does Tryd.prog 79 [.p (.s text_1)] [] (fun r X => r = .p (.s z) ∧ X = []) := by
 unfold disk_SumOf at hm
 refine Does.of_wp 0 39 [.tmp 2] Tryd.func79 rfl (by decide) rfl rfl (Nat.le_of_ble_eq_true rfl) fun B => ?_
 refine qS ?_
 refine qS ?_
 refine Wp.seqW fun K3 hK3 hW3 => ?_
 obtain ⟨k_11, hk_11, hm⟩ := jp_elim hm
 have hcut3 : ∀ s, k_11 s = some z → K3 [(3, .p (.i .u64 s))] [] := by
  intro n_10 hs
  have hm := hk_11 _ hs
  clear hs
  try dsimp only at hm
  try dsimp only
  refine hK3 _ _ ?_
  refine qS ?_
  refine Wp.seqW fun K5 hK5 hW5 => ?_
  obtain ⟨k_27, hk_27, hm⟩ := jp_elim hm
  have hcut5 : ∀ s, k_27 s = some z → K5 [(5, .buf 0)] [.buf 5 1 (List.map ecI_u8 s)] := by
   intro o0_26 hs
   have hm := hk_27 _ hs
   clear hs
   try dsimp only at hm
   try dsimp only
   refine hK5 _ _ ?_
   refine qS ?_
   refine Wp.ret ?_
   refine retQ_ret ?_
   cases hm
   exact fse1
  clear hK5 hk_27
  refine qS ?_
  refine Wp.block ?_
  obtain ⟨k_37, hk_37, hm⟩ := loopN_cont hm
  refine Wp.loopN (fun s => [(3, .p (.i .u64 n_10)), (5, .buf 0), (22, .p (.i .i64 ((List.replicate 16 0).length : Int))), (23, .p (.i .i64 s.1))]) (fun s => [.buf 5 1 (List.map ecI_u8 s.2)]) ?_ hm ?_
  ·
   exact fse1
  clear hm
  intro s nx_38 hm
  obtain ⟨t23_32, o0_33⟩ := s
  try dsimp only at hm
  try dsimp only
  refine qS ?_
  refine Wp.seqW fun K9 hK9 hW9 => ?_
  refine cM hm (fun hc10 hm => ?_) (fun hc10 hm => ?_)
  ·refine Wp.skip ?_
   refine hK9 _ _ ?_
   refine Wp.seqW fun K11 hK11 hW11 => ?_
   refine Wp.block ?_
   refine qS ?_
   obtain ⟨c_39, hm⟩ := chk_elim hm
   obtain ⟨c_40, hbc_40, hxc_40, hm⟩ := idxS_elim hm
   replace hxc_40 : ((([48, 49, 50, 51, 52, 53, 54, 55, 56, 57, 97, 98, 99, 100, 101, 102] : Str).getD ((bitsI .and .u64 (Int.fdiv n_10 (2 ^ (shI .u64 (IntKind.i64.wrap (60 - (IntKind.i64.wrap (4 * t23_32))))))) 15).toNat) 0).toNat : Int) = c_40 := hxc_40
   obtain ⟨c_41, hm⟩ := chk_elim hm
   refine Wp.region fun K13 hK13 => ?_
   simp only [go_sem, simprocAttr, hxc_40]
   first | apply hK13 | refine ⟨by first | exact sd | ((repeat' apply And.intro) <;> first | assumption | omega | (simp only [List.length_append, List.length_map, List.length_cons, List.length_nil, List.length_set, List.length_replicate] at c_39 c_41 ⊢; omega)), hK13 _ _ ?_⟩
   refine hK11 _ _ ?_
   refine Wp.region fun K14 hK14 => ?_
   simp only [go_sem, simprocAttr, hxc_40]
   first | apply hK14 | refine ⟨sd, hK14 _ _ ?_⟩
   simp only [thenQ, blockQ, ↓reduceIte]
   refine ⟨(IntKind.i64.wrap (t23_32 + 1), List.set o0_33 t23_32.toNat c_40), hm, ?_⟩
   simp only [go_sem, simprocAttr, hxc_40]
   try exact se1
  ·refine Wp.exit ?_
   simp only [thenQ, blockQ, ↓reduceIte]
   have hm := hk_37 _ hm
   try dsimp only at hm
   refine hW5 _ _ _ _ ?_ (hcut5 o0_33 hm)
   exact fse1
 clear hK3 hk_11
 refine qS ?_
 refine Wp.block ?_
 obtain ⟨k_45, hk_45, hm⟩ := forL_cont hm
 refine Wp.fact 0 fun hl_48 => ?_
 replace hl_48 : text_1.length ≤ 274877906944 := by
  simp only [go_sem, simprocAttr, List.length_map] at hl_48
  omega
 refine Wp.forL (fun i_47 s => [(0, .p (.s text_1)), (3, .p (.i .u64 s)), (4, .p (.i .i64 (i_47 : Int)))]) (fun i_47 s => []) ?_ hm ?_
 ·
  exact fse1
 clear hm
 intro i_47 n_42 hii_47 hm
 try dsimp only at hm
 try dsimp only
 refine Wp.seqW fun K16 hK16 hW16 => ?_
 refine qS ?_
 refine Wp.cond rfl ⟨⟩ (fun hc16 => ?_) (fun hc16 => ?_)
 rotate_left
 ·refine Wp.exit ?_
  have hm := hk_45 _ (forL_end hm (ge_nat (by first | exact hc16 | simpa using hc16)))
  try dsimp only at hm
  refine hW3 _ _ _ _ ?_ (hcut3 n_42 hm)
  exact fse1
 have hlt16 := lt_nat (by first | exact hc16 | simpa using hc16)
 have hw16 := wrap_succ hlt16 hl_48
 obtain ⟨c_49, nx_46, hxc_49, hyc_49, hnx_46, hm⟩ := forL_step hm hlt16
 clear hxc_49
 refine Wp.skip ?_
 simp only [thenQ]
 refine hK16 _ _ ?_
 refine Wp.seqW fun K18 hK18 hW18 => ?_
 refine Wp.block ?_
 refine Wp.region fun K19 hK19 => ?_
 simp only [go_sem, simprocAttr, hw16, hyc_49]
 first | apply hK19 | refine ⟨sd, hK19 _ _ ?_⟩
 refine hK18 _ _ ?_
 refine Wp.region fun K20 hK20 => ?_
 simp only [go_sem, simprocAttr, hw16, hyc_49]
 first | apply hK20 | refine ⟨sd, hK20 _ _ ?_⟩
 simp only [thenQ, blockQ, ↓reduceIte]
 refine ⟨IntKind.u64.wrap ((bitsI .xor .u64 n_42 (IntKind.u64.wrap (c_49.toNat : Int))) * 1099511628211), hlt16, hnx_46 _ hm, ?_⟩
 simp only [go_sem, simprocAttr, hw16, hyc_49]
 try exact se1
end Go.Proofs.YthofobeoaimclaaDoor
