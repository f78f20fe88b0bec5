/- That the code does what the models say (part 6). -/
import Derived.Test.YtkekfenkeeiigaaDoorDqWk0
import Derived.Test.YtkekfenkeeiigaaDoorDqWk3
import Derived.Test.YtkekfenkeeiigaaDoorDqWk4
import Derived.Test.YtkekfenkeeiigaaDoorDqWk5
set_option linter.unusedSimpArgs false
set_option linter.unusedVariables false
open Go.Proofs Go.Shelf
namespace Go.Proofs.YtkekfenkeeiigaaDoor
open Go.Vc Go.Md
set_option maxRecDepth 100000
set_option maxHeartbeats 4000000
theorem ok_strings_Repeat (s_1 : Str) (count_2 : Int) (z : Str) (hm : strings_Repeat s_1 count_2 = some z) : Does Tryd.prog 17 [.p (.s s_1), .p (.i .i64 count_2)] [] (fun r X => r = .p (.s z) ∧ X = []) := by
 unfold strings_Repeat at hm
 refine Does.of_wp 0 125 [.tmp 4] Tryd.func17 rfl (by decide) rfl rfl (Nat.le_of_ble_eq_true rfl) fun B => ?_
 refine qS ?_
 refine Wp.seqW fun K2 hK2 hW2 => ?_
 refine qS ?_
 refine Wp.block ?_
 refine qS ?_
 refine cM hm (fun hc5 hm => ?_) (fun hc5 hm => ?_)
 ·refine qS ?_
  refine Wp.ret ?_
  refine retQ_ret ?_
  cases hm
  exact fse3
 ·refine qS ?_
  refine cM hm (fun hc8 hm => ?_) (fun hc8 hm => ?_)
  ·refine qS ?_
   refine Wp.ret ?_
   refine retQ_ret ?_
   cases hm
   exact fse3
  ·refine Wp.skip ?_
   refine hK2 _ _ ?_
   refine Wp.seqW fun K10 hK10 hW10 => ?_
   obtain ⟨k_3, hk_3, hm⟩ := jp_elim hm
   have hcut10 : ∀ s, k_3 s = some z → K10 [(0, .p (.s s_1)), (1, .p (.i .i64 count_2))] [] := by
    intro s hs
    have hm := hk_3 _ hs
    clear hs
    try dsimp only at hm
    try dsimp only
    refine hK10 _ _ ?_
    obtain ⟨r_4, hr_4, hm⟩ := call_elim hm
    refine Wp.seqR fun K11 hK11 => ?_
    simp only [go_sem, simprocAttr]
    try refine ⟨sd, ?_⟩
    refine Rg.callX (av := ?av12) (g := true) (fun hg => ok_math_bits_Mul (IntKind.u64.wrap (s_1.length : Int)) (IntKind.u64.wrap count_2) _ hr_4) si si si sg si ?cont12
    intro hv12
    simp only [go_sem, simprocAttr]
    first | apply hK11 | refine ⟨sd, hK11 _ _ ?_⟩
    refine Wp.seqW fun K13 hK13 hW13 => ?_
    obtain ⟨k_5, hk_5, hm⟩ := jp_elim hm
    have hcut13 : ∀ s, k_5 s = some z → K13 [(0, .p (.s s_1)), (6, .p (.i .u64 r_4.2))] [] := by
     intro s hs
     have hm := hk_5 _ hs
     clear hs
     try dsimp only at hm
     try dsimp only
     refine hK13 _ _ ?_
     refine qS ?_
     refine Wp.seqW fun K15 hK15 hW15 => ?_
     refine qS ?_
     refine cM hm (fun hc17 hm => ?_) (fun hc17 hm => ?_)
     ·refine qS ?_
      refine Wp.ret ?_
      refine retQ_ret ?_
      cases hm
      exact fse3
     ·refine Wp.skip ?_
      refine hK15 _ _ ?_
      refine Wp.seqW fun K19 hK19 hW19 => ?_
      obtain ⟨k_19, hk_19, hm⟩ := jp_elim hm
      have hcut19 : ∀ s, k_19 s = some z → K19 [(0, .p (.s s_1)), (7, .p (.i .i64 (IntKind.i64.wrap r_4.2)))] [] := by
       intro s hs
       have hm := hk_19 _ hs
       clear hs
       try dsimp only at hm
       try dsimp only
       refine hK19 _ _ ?_
       refine qS ?_
       refine Wp.seqW fun K21 hK21 hW21 => ?_
       obtain ⟨k_22, hk_22, hm⟩ := jp_elim hm
       have hcut21 : ∀ s, k_22 s = some z → K21 [(0, .p (.s s_1)), (7, .p (.i .i64 (IntKind.i64.wrap r_4.2))), (8, .p (.i .i64 s))] [] := by
        intro chunkMax_21 hs
        have hm := hk_22 _ hs
        clear hs
        try dsimp only at hm
        try dsimp only
        refine hK21 _ _ ?_
        refine qS ?_
        refine Wp.adoptB 0 5 rfl ?_
        simp only [go_sem, simprocAttr]
        obtain ⟨r_23, hr_23, hm⟩ := call_elim hm
        refine Wp.seqR fun K23 hK23 => ?_
        simp only [go_sem, simprocAttr]
        try refine ⟨sd, ?_⟩
        refine Rg.callO (av := ?av24) [0, 1] (ok_strings_Builder_Grow (IntKind.i64.wrap r_4.2) [] _ hr_23) si si si sg sg ?cont24
        rintro _ _ ⟨rfl, rfl⟩ hv24
        simp only [go_sem, simprocAttr]
        first | apply hK23 | refine ⟨sd, hK23 _ _ ?_⟩
        obtain ⟨r_24, hr_24, hm⟩ := call_elim hm
        refine Wp.seqR fun K25 hK25 => ?_
        simp only [go_sem, simprocAttr]
        try refine ⟨sd, ?_⟩
        refine Rg.callO (av := ?av26) [0, 1] (ok_strings_Builder_WriteString_i1 s_1 [] _ hr_24) si si si sg sg ?cont26
        rintro _ _ ⟨rfl, rfl⟩ hv26
        simp only [go_sem, simprocAttr]
        first | apply hK25 | refine ⟨sd, hK25 _ _ ?_⟩
        refine Wp.seqW fun K27 hK27 hW27 => ?_
        obtain ⟨k_47, hk_47, hm⟩ := jp_elim hm
        have hcut27 : ∀ s, k_47 s = some z → K27 [(9, .ptr 0 0)] [.cells 81 [.np 0, .buf 1], .sb 5 s] := by
         intro o1_46 hs
         have hm := hk_47 _ hs
         clear hs
         try dsimp only at hm
         try dsimp only
         refine hK27 _ _ ?_
         obtain ⟨r_48, hr_48, hm⟩ := call_elim hm
         refine Wp.seqR fun K28 hK28 => ?_
         simp only [go_sem, simprocAttr]
         try refine ⟨sd, ?_⟩
         refine Rg.callO (av := ?av29) [0, 1] (ok_strings_Builder_String_i1 o1_46 _ hr_48) si si si sg sg ?cont29
         rintro _ _ ⟨rfl, rfl⟩ hv29
         simp only [go_sem, simprocAttr]
         first | apply hK28 | refine ⟨sd, hK28 _ _ ?_⟩
         refine Wp.ret ?_
         refine retQ_ret ?_
         cases hm
         exact fse3
        clear hK27 hk_47
        refine Wp.block ?_
        obtain ⟨k_62, hk_62, hm⟩ := loopN_cont hm
        refine Wp.loopN (fun s => [(7, .p (.i .i64 (IntKind.i64.wrap r_4.2))), (8, .p (.i .i64 chunkMax_21)), (9, .ptr 0 0)]) (fun s => [.cells 81 [.np 0, .buf 1], .sb 5 s]) ?_ hm ?_
        ·
         exact fse3
        clear hm
        intro o1_55 nx_63 hm
        try dsimp only at hm
        try dsimp only
        refine Wp.seqW fun K30 hK30 hW30 => ?_
        obtain ⟨r_64, hr_64, hm⟩ := call_elim hm
        refine Wp.seqR fun K31 hK31 => ?_
        simp only [go_sem, simprocAttr]
        try refine ⟨sd, ?_⟩
        refine Rg.callO (av := ?av32) [0, 1] (ok_strings_Builder_Len_i1 o1_55 _ hr_64) si si si sg sg ?cont32
        rintro _ _ ⟨rfl, rfl⟩ hv32
        simp only [go_sem, simprocAttr]
        first | apply hK31 | refine ⟨sd, hK31 _ _ ?_⟩
        refine cM hm (fun hc33 hm => ?_) (fun hc33 hm => ?_)
        ·refine Wp.skip ?_
         refine hK30 _ _ ?_
         refine Wp.block ?_
         obtain ⟨r_65, hr_65, hm⟩ := call_elim hm
         obtain ⟨r_66, hr_66, hm⟩ := call_elim hm
         refine Wp.seqR fun K34 hK34 => ?_
         simp only [go_sem, simprocAttr]
         try refine ⟨sd, ?_⟩
         refine Rg.callO (av := ?av35) [0, 1] (ok_strings_Builder_Len_i1 o1_55 _ hr_65) si si si sg sg ?cont35
         rintro _ _ ⟨rfl, rfl⟩ hv35
         simp only [go_sem, simprocAttr]
         try refine ⟨sd, ?_⟩
         refine Rg.callO (av := ?av36) [0, 1] (ok_strings_Builder_Len_i1 o1_55 _ hr_66) si si si sg sg ?cont36
         rintro _ _ ⟨rfl, rfl⟩ hv36
         simp only [go_sem, simprocAttr]
         first | apply hK34 | refine ⟨sd, hK34 _ _ ?_⟩
         obtain ⟨r_67, hr_67, hm⟩ := call_elim hm
         obtain ⟨c_68, hm⟩ := chk_elim hm
         obtain ⟨r_69, hr_69, hm⟩ := call_elim hm
         refine Wp.region fun K37 hK37 => ?_
         simp only [go_sem, simprocAttr]
         try refine ⟨by first | exact sd | ((repeat' apply And.intro) <;> first | assumption | omega | (simp only [List.length_append, List.length_map, List.length_cons, List.length_nil, List.length_set, List.length_replicate] at c_68 ⊢; omega)), ?_⟩
         refine Rg.callO (av := ?av38) [0, 1] (ok_strings_Builder_String_i1 o1_55 _ hr_67) si si si sg sg ?cont38
         rintro _ _ ⟨rfl, rfl⟩ hv38
         simp only [go_sem, simprocAttr]
         try refine ⟨by first | exact sd | ((repeat' apply And.intro) <;> first | assumption | omega | (simp only [List.length_append, List.length_map, List.length_cons, List.length_nil, List.length_set, List.length_replicate] at c_68 ⊢; omega)), ?_⟩
         refine Rg.callO (av := ?av39) [0, 1] (ok_strings_Builder_WriteString_i1 (List.take ((min (min (IntKind.i64.wrap ((IntKind.i64.wrap r_4.2) - r_65)) r_66) chunkMax_21).toNat) r_67) o1_55 _ hr_69) si si si sg sg ?cont39
         rintro _ _ ⟨rfl, rfl⟩ hv39
         simp only [go_sem, simprocAttr]
         first | apply hK37 | refine ⟨by first | exact sd | ((repeat' apply And.intro) <;> first | assumption | omega | (simp only [List.length_append, List.length_map, List.length_cons, List.length_nil, List.length_set, List.length_replicate] at c_68 ⊢; omega)), hK37 _ _ ?_⟩
         simp only [thenQ, blockQ, ↓reduceIte]
         refine ⟨r_69.2, hm, ?_⟩
         exact fse3
        ·refine Wp.exit ?_
         simp only [thenQ, blockQ, ↓reduceIte]
         have hm := hk_62 _ hm
         try dsimp only at hm
         refine hW27 _ _ _ _ ?_ (hcut27 o1_55 hm)
         exact fse3
       clear hK21 hk_22
       refine qS ?_
       refine cM hm (fun hc41 hm => ?_) (fun hc41 hm => ?_)
       ·obtain ⟨c_70, hm⟩ := chk_elim hm
        refine Wp.seqR fun K42 hK42 => ?_
        simp only [go_sem, simprocAttr]
        first | apply hK42 | refine ⟨by first | exact sd | ((repeat' apply And.intro) <;> first | assumption | omega | (simp only [List.length_append, List.length_map, List.length_cons, List.length_nil, List.length_set, List.length_replicate] at c_70 ⊢; omega)), hK42 _ _ ?_⟩
        refine qS ?_
        refine cM hm (fun hc44 hm => ?_) (fun hc44 hm => ?_)
        ·refine qR ?_
         refine hW21 _ _ _ _ ?_ (hcut21 (s_1.length : Int) hm)
         exact fse3
        ·refine Wp.skip ?_
         refine hW21 _ _ _ _ ?_ (hcut21 (IntKind.i64.wrap ((IntKind.i64.wrap (Int.tdiv 8192 (s_1.length : Int))) * (s_1.length : Int))) hm)
         exact fse3
       ·refine Wp.skip ?_
        refine hW21 _ _ _ _ ?_ (hcut21 (IntKind.i64.wrap r_4.2) hm)
        exact fse3
      clear hK19 hk_19
      obtain ⟨c_71, hbc_71, hxc_71, hm⟩ := idxS_elim hm
      replace hxc_71 : ((s_1.getD 0 0).toNat : Int) = c_71 := hxc_71
      refine Wp.seqR fun K46 hK46 => ?_
      simp only [go_sem, simprocAttr, hxc_71]
      first | apply hK46 | refine ⟨sd, hK46 _ _ ?_⟩
      refine Wp.block ?_
      refine Wp.seqW fun K47 hK47 hW47 => ?_
      obtain ⟨k_73, hk_73, hm⟩ := jp_elim hm
      have hcut47 : ∀ s, k_73 s = some z → K47 [(0, .p (.s s_1)), (7, .p (.i .i64 (IntKind.i64.wrap r_4.2))), (43, .p (.b s))] [] := by
       intro t43_72 hs
       have hm := hk_73 _ hs
       clear hs
       try dsimp only at hm
       try dsimp only
       refine hK47 _ _ ?_
       refine cM hm (fun hc48 hm => ?_) (fun hc48 hm => ?_)
       ·refine Wp.block ?_
        obtain ⟨r_74, hr_74, hm⟩ := callG_elim hm
        refine Wp.seqR fun K49 hK49 => ?_
        simp only [go_sem, simprocAttr, hxc_71]
        try refine ⟨sd, ?_⟩
        refine Rg.callX (av := ?av50) (g := decide ((IntKind.i64.wrap r_4.2) ≤ 128)) (fun hg => ok_strings_HasPrefix ((List.append [32, 32, 32, 32, 32, 32, 32, 32, 32, 32, 32, 32, 32, 32, 32, 32, 32, 32, 32, 32, 32, 32, 32, 32, 32, 32, 32, 32, 32, 32, 32, 32, 32, 32, 32, 32, 32, 32, 32, 32, 32, 32, 32, 32, 32, 32, 32, 32, 32, 32, 32, 32, 32, 32, 32, 32, 32, 32, 32, 32, 32, 32, 32, 32] [32, 32, 32, 32, 32, 32, 32, 32, 32, 32, 32, 32, 32, 32, 32, 32, 32, 32, 32, 32, 32, 32, 32, 32, 32, 32, 32, 32, 32, 32, 32, 32, 32, 32, 32, 32, 32, 32, 32, 32, 32, 32, 32, 32, 32, 32, 32, 32, 32, 32, 32, 32, 32, 32, 32, 32, 32, 32, 32, 32, 32, 32, 32, 32]) : Str) s_1 _ (hr_74 hg)) (by simp only [go_sem, simprocAttr, hxc_71]; exact Is.mk) (by simp only [go_sem, simprocAttr, hxc_71]; exact Is.mk) (by simp only [go_sem, simprocAttr, hxc_71]; exact Is.mk) (by simp only [go_sem, simprocAttr, hxc_71]) (by simp only [go_sem, simprocAttr, hxc_71]; exact Is.mk) ?cont50
        intro hv50
        simp only [go_sem, simprocAttr, hxc_71]
        first | apply hK49 | refine ⟨sd, hK49 _ _ ?_⟩
        refine cM hm (fun hc51 hm => ?_) (fun hc51 hm => ?_)
        ·obtain ⟨c_75, hm⟩ := chk_elim hm
         refine Wp.seqR fun K52 hK52 => ?_
         simp only [go_sem, simprocAttr, hxc_71]
         first | apply hK52 | refine ⟨by first | exact sd | ((repeat' apply And.intro) <;> first | assumption | omega | (simp only [List.length_append, List.length_map, List.length_cons, List.length_nil, List.length_set, List.length_replicate] at c_75 ⊢; omega)), hK52 _ _ ?_⟩
         refine Wp.ret ?_
         refine retQ_ret ?_
         cases hm
         simp only [go_sem, simprocAttr, hxc_71]
         try exact se3
        ·obtain ⟨r_76, hr_76, hm⟩ := callG_elim hm
         refine Wp.seqR fun K53 hK53 => ?_
         simp only [go_sem, simprocAttr, hxc_71]
         try refine ⟨sd, ?_⟩
         refine Rg.callX (av := ?av54) (g := decide ((IntKind.i64.wrap r_4.2) ≤ 128)) (fun hg => ok_strings_HasPrefix ((List.append [45, 45, 45, 45, 45, 45, 45, 45, 45, 45, 45, 45, 45, 45, 45, 45, 45, 45, 45, 45, 45, 45, 45, 45, 45, 45, 45, 45, 45, 45, 45, 45, 45, 45, 45, 45, 45, 45, 45, 45, 45, 45, 45, 45, 45, 45, 45, 45, 45, 45, 45, 45, 45, 45, 45, 45, 45, 45, 45, 45, 45, 45, 45, 45] [45, 45, 45, 45, 45, 45, 45, 45, 45, 45, 45, 45, 45, 45, 45, 45, 45, 45, 45, 45, 45, 45, 45, 45, 45, 45, 45, 45, 45, 45, 45, 45, 45, 45, 45, 45, 45, 45, 45, 45, 45, 45, 45, 45, 45, 45, 45, 45, 45, 45, 45, 45, 45, 45, 45, 45, 45, 45, 45, 45, 45, 45, 45, 45]) : Str) s_1 _ (hr_76 hg)) (by simp only [go_sem, simprocAttr, hxc_71]; exact Is.mk) (by simp only [go_sem, simprocAttr, hxc_71]; exact Is.mk) (by simp only [go_sem, simprocAttr, hxc_71]; exact Is.mk) (by simp only [go_sem, simprocAttr, hxc_71]) (by simp only [go_sem, simprocAttr, hxc_71]; exact Is.mk) ?cont54
         intro hv54
         simp only [go_sem, simprocAttr, hxc_71]
         first | apply hK53 | refine ⟨sd, hK53 _ _ ?_⟩
         refine cM hm (fun hc55 hm => ?_) (fun hc55 hm => ?_)
         ·obtain ⟨c_77, hm⟩ := chk_elim hm
          refine Wp.seqR fun K56 hK56 => ?_
          simp only [go_sem, simprocAttr, hxc_71]
          first | apply hK56 | refine ⟨by first | exact sd | ((repeat' apply And.intro) <;> first | assumption | omega | (simp only [List.length_append, List.length_map, List.length_cons, List.length_nil, List.length_set, List.length_replicate] at c_77 ⊢; omega)), hK56 _ _ ?_⟩
          refine Wp.ret ?_
          refine retQ_ret ?_
          cases hm
          simp only [go_sem, simprocAttr, hxc_71]
          try exact se3
         ·obtain ⟨r_78, hr_78, hm⟩ := callG_elim hm
          refine Wp.seqR fun K57 hK57 => ?_
          simp only [go_sem, simprocAttr, hxc_71]
          try refine ⟨sd, ?_⟩
          refine Rg.callX (av := ?av58) (g := decide ((IntKind.i64.wrap r_4.2) ≤ 64)) (fun hg => ok_strings_HasPrefix ([48, 48, 48, 48, 48, 48, 48, 48, 48, 48, 48, 48, 48, 48, 48, 48, 48, 48, 48, 48, 48, 48, 48, 48, 48, 48, 48, 48, 48, 48, 48, 48, 48, 48, 48, 48, 48, 48, 48, 48, 48, 48, 48, 48, 48, 48, 48, 48, 48, 48, 48, 48, 48, 48, 48, 48, 48, 48, 48, 48, 48, 48, 48, 48] : Str) s_1 _ (hr_78 hg)) (by simp only [go_sem, simprocAttr, hxc_71]; exact Is.mk) (by simp only [go_sem, simprocAttr, hxc_71]; exact Is.mk) (by simp only [go_sem, simprocAttr, hxc_71]; exact Is.mk) (by simp only [go_sem, simprocAttr, hxc_71]) (by simp only [go_sem, simprocAttr, hxc_71]; exact Is.mk) ?cont58
          intro hv58
          simp only [go_sem, simprocAttr, hxc_71]
          first | apply hK57 | refine ⟨sd, hK57 _ _ ?_⟩
          refine cM hm (fun hc59 hm => ?_) (fun hc59 hm => ?_)
          ·obtain ⟨c_79, hm⟩ := chk_elim hm
           refine Wp.seqR fun K60 hK60 => ?_
           simp only [go_sem, simprocAttr, hxc_71]
           first | apply hK60 | refine ⟨by first | exact sd | ((repeat' apply And.intro) <;> first | assumption | omega | (simp only [List.length_append, List.length_map, List.length_cons, List.length_nil, List.length_set, List.length_replicate] at c_79 ⊢; omega)), hK60 _ _ ?_⟩
           refine Wp.ret ?_
           refine retQ_ret ?_
           cases hm
           simp only [go_sem, simprocAttr, hxc_71]
           try exact se3
          ·obtain ⟨r_80, hr_80, hm⟩ := callG_elim hm
           refine Wp.seqR fun K61 hK61 => ?_
           simp only [go_sem, simprocAttr, hxc_71]
           try refine ⟨sd, ?_⟩
           refine Rg.callX (av := ?av62) (g := decide ((IntKind.i64.wrap r_4.2) ≤ 128)) (fun hg => ok_strings_HasPrefix ((List.append [61, 61, 61, 61, 61, 61, 61, 61, 61, 61, 61, 61, 61, 61, 61, 61, 61, 61, 61, 61, 61, 61, 61, 61, 61, 61, 61, 61, 61, 61, 61, 61, 61, 61, 61, 61, 61, 61, 61, 61, 61, 61, 61, 61, 61, 61, 61, 61, 61, 61, 61, 61, 61, 61, 61, 61, 61, 61, 61, 61, 61, 61, 61, 61] [61, 61, 61, 61, 61, 61, 61, 61, 61, 61, 61, 61, 61, 61, 61, 61, 61, 61, 61, 61, 61, 61, 61, 61, 61, 61, 61, 61, 61, 61, 61, 61, 61, 61, 61, 61, 61, 61, 61, 61, 61, 61, 61, 61, 61, 61, 61, 61, 61, 61, 61, 61, 61, 61, 61, 61, 61, 61, 61, 61, 61, 61, 61, 61]) : Str) s_1 _ (hr_80 hg)) (by simp only [go_sem, simprocAttr, hxc_71]; exact Is.mk) (by simp only [go_sem, simprocAttr, hxc_71]; exact Is.mk) (by simp only [go_sem, simprocAttr, hxc_71]; exact Is.mk) (by simp only [go_sem, simprocAttr, hxc_71]) (by simp only [go_sem, simprocAttr, hxc_71]; exact Is.mk) ?cont62
           intro hv62
           simp only [go_sem, simprocAttr, hxc_71]
           first | apply hK61 | refine ⟨sd, hK61 _ _ ?_⟩
           refine cM hm (fun hc63 hm => ?_) (fun hc63 hm => ?_)
           ·obtain ⟨c_81, hm⟩ := chk_elim hm
            refine Wp.seqR fun K64 hK64 => ?_
            simp only [go_sem, simprocAttr, hxc_71]
            first | apply hK64 | refine ⟨by first | exact sd | ((repeat' apply And.intro) <;> first | assumption | omega | (simp only [List.length_append, List.length_map, List.length_cons, List.length_nil, List.length_set, List.length_replicate] at c_81 ⊢; omega)), hK64 _ _ ?_⟩
            refine Wp.ret ?_
            refine retQ_ret ?_
            cases hm
            simp only [go_sem, simprocAttr, hxc_71]
            try exact se3
           ·obtain ⟨r_82, hr_82, hm⟩ := callG_elim hm
            refine Wp.seqR fun K65 hK65 => ?_
            simp only [go_sem, simprocAttr, hxc_71]
            try refine ⟨sd, ?_⟩
            refine Rg.callX (av := ?av66) (g := decide ((IntKind.i64.wrap r_4.2) ≤ 64)) (fun hg => ok_strings_HasPrefix ([9, 9, 9, 9, 9, 9, 9, 9, 9, 9, 9, 9, 9, 9, 9, 9, 9, 9, 9, 9, 9, 9, 9, 9, 9, 9, 9, 9, 9, 9, 9, 9, 9, 9, 9, 9, 9, 9, 9, 9, 9, 9, 9, 9, 9, 9, 9, 9, 9, 9, 9, 9, 9, 9, 9, 9, 9, 9, 9, 9, 9, 9, 9, 9] : Str) s_1 _ (hr_82 hg)) (by simp only [go_sem, simprocAttr, hxc_71]; exact Is.mk) (by simp only [go_sem, simprocAttr, hxc_71]; exact Is.mk) (by simp only [go_sem, simprocAttr, hxc_71]; exact Is.mk) (by simp only [go_sem, simprocAttr, hxc_71]) (by simp only [go_sem, simprocAttr, hxc_71]; exact Is.mk) ?cont66
            intro hv66
            simp only [go_sem, simprocAttr, hxc_71]
            first | apply hK65 | refine ⟨sd, hK65 _ _ ?_⟩
            refine cM hm (fun hc67 hm => ?_) (fun hc67 hm => ?_)
            ·obtain ⟨c_83, hm⟩ := chk_elim hm
             refine Wp.seqR fun K68 hK68 => ?_
             simp only [go_sem, simprocAttr, hxc_71]
             first | apply hK68 | refine ⟨by first | exact sd | ((repeat' apply And.intro) <;> first | assumption | omega | (simp only [List.length_append, List.length_map, List.length_cons, List.length_nil, List.length_set, List.length_replicate] at c_83 ⊢; omega)), hK68 _ _ ?_⟩
             refine Wp.ret ?_
             refine retQ_ret ?_
             cases hm
             simp only [go_sem, simprocAttr, hxc_71]
             try exact se3
            ·refine Wp.skip ?_
             refine hW19 _ _ _ _ ?_ (hcut19 () hm)
             simp only [go_sem, simprocAttr, hxc_71]
             try exact se3
       ·refine Wp.skip ?_
        refine hW19 _ _ _ _ ?_ (hcut19 () hm)
        simp only [go_sem, simprocAttr, hxc_71]
        try exact se3
      clear hK47 hk_73
      refine Wp.seqR fun K69 hK69 => ?_
      simp only [go_sem, simprocAttr, hxc_71]
      first | apply hK69 | refine ⟨sd, hK69 _ _ ?_⟩
      refine cM hm (fun hc70 hm => ?_) (fun hc70 hm => ?_)
      ·refine Wp.skip ?_
       refine hW47 _ _ _ _ ?_ (hcut47 (decide (c_71 = 32)) hm)
       simp only [go_sem, simprocAttr, hxc_71]
       try exact se3
      ·refine Wp.seqR fun K71 hK71 => ?_
       simp only [go_sem, simprocAttr, hxc_71]
       first | apply hK71 | refine ⟨sd, hK71 _ _ ?_⟩
       refine cM hm (fun hc72 hm => ?_) (fun hc72 hm => ?_)
       ·refine Wp.skip ?_
        refine hW47 _ _ _ _ ?_ (hcut47 (decide (c_71 = 45)) hm)
        simp only [go_sem, simprocAttr, hxc_71]
        try exact se3
       ·refine Wp.seqR fun K73 hK73 => ?_
        simp only [go_sem, simprocAttr, hxc_71]
        first | apply hK73 | refine ⟨sd, hK73 _ _ ?_⟩
        refine cM hm (fun hc74 hm => ?_) (fun hc74 hm => ?_)
        ·refine Wp.skip ?_
         refine hW47 _ _ _ _ ?_ (hcut47 (decide (c_71 = 48)) hm)
         simp only [go_sem, simprocAttr, hxc_71]
         try exact se3
        ·refine Wp.seqR fun K75 hK75 => ?_
         simp only [go_sem, simprocAttr, hxc_71]
         first | apply hK75 | refine ⟨sd, hK75 _ _ ?_⟩
         refine cM hm (fun hc76 hm => ?_) (fun hc76 hm => ?_)
         ·refine Wp.skip ?_
          refine hW47 _ _ _ _ ?_ (hcut47 (decide (c_71 = 61)) hm)
          simp only [go_sem, simprocAttr, hxc_71]
          try exact se3
         ·refine Wp.region fun K77 hK77 => ?_
          simp only [go_sem, simprocAttr, hxc_71]
          first | apply hK77 | refine ⟨sd, hK77 _ _ ?_⟩
          refine hW47 _ _ _ _ ?_ (hcut47 (decide (c_71 = 9)) hm)
          simp only [go_sem, simprocAttr, hxc_71]
          try exact se3
    clear hK13 hk_5
    refine qS ?_
    refine cM hm (fun hc79 hm => ?_) (fun hc79 hm => ?_)
    ·cases hm
    ·refine Wp.skip ?_
     refine hW13 _ _ _ _ ?_ (hcut13 () hm)
     exact fse3
   clear hK10 hk_3
   refine qS ?_
   refine cM hm (fun hc81 hm => ?_) (fun hc81 hm => ?_)
   ·cases hm
   ·refine Wp.skip ?_
    refine hW10 _ _ _ _ ?_ (hcut10 () hm)
    exact fse3
theorem ok_R_SumOf (s_1 : Str) (z : Str) (hm : R_SumOf s_1 = some z) : Does Tryd.prog 79 [.p (.s s_1)] [] (fun r X => r = .p (.s z) ∧ X = []) := by
 unfold R_SumOf at hm
 refine Does.of_wp 0 27 [.tmp 2] Tryd.func79 rfl (by decide) rfl rfl (Nat.le_of_ble_eq_true rfl) fun B => ?_
 refine qS ?_
 refine qS ?_
 refine Wp.seqW fun K3 hK3 hW3 => ?_
 obtain ⟨k_11, hk_11, hm⟩ := jp_elim hm
 have hcut3 : ∀ s, k_11 s = some z → K3 [(3, .p (.i .u64 s))] [] := by
  intro h_10 hs
  have hm := hk_11 _ hs
  clear hs
  try dsimp only at hm
  try dsimp only
  refine hK3 _ _ ?_
  obtain ⟨r_12, hr_12, hm⟩ := call_elim hm
  refine Wp.seqR fun K4 hK4 => ?_
  simp only [go_sem, simprocAttr]
  try refine ⟨sd, ?_⟩
  refine Rg.callX (av := ?av5) (g := true) (fun hg => ok_strconv_FormatUint h_10 16 _ hr_12) si si si sg si ?cont5
  intro hv5
  simp only [go_sem, simprocAttr]
  first | apply hK4 | refine ⟨sd, hK4 _ _ ?_⟩
  obtain ⟨r_13, hr_13, hm⟩ := call_elim hm
  obtain ⟨c_14, hm⟩ := chk_elim hm
  refine Wp.seqR fun K6 hK6 => ?_
  simp only [go_sem, simprocAttr]
  try refine ⟨by first | exact sd | ((repeat' apply And.intro) <;> first | assumption | omega | (simp only [List.length_append, List.length_map, List.length_cons, List.length_nil, List.length_set, List.length_replicate] at c_14 ⊢; omega)), ?_⟩
  refine Rg.callX (av := ?av7) (g := true) (fun hg => ok_strings_Repeat ([48] : Str) (IntKind.i64.wrap (16 - (r_12.length : Int))) _ hr_13) si si si sg si ?cont7
  intro hv7
  simp only [go_sem, simprocAttr]
  first | apply hK6 | refine ⟨by first | exact sd | ((repeat' apply And.intro) <;> first | assumption | omega | (simp only [List.length_append, List.length_map, List.length_cons, List.length_nil, List.length_set, List.length_replicate] at c_14 ⊢; omega)), hK6 _ _ ?_⟩
  refine Wp.ret ?_
  refine retQ_ret ?_
  cases hm
  exact fse3
 clear hK3 hk_11
 refine qS ?_
 refine Wp.block ?_
 obtain ⟨k_18, hk_18, hm⟩ := forL_cont hm
 refine Wp.fact 0 fun hl_21 => ?_
 replace hl_21 : s_1.length ≤ 274877906944 := by
  simp only [go_sem, simprocAttr, List.length_map] at hl_21
  omega
 refine Wp.forL (fun i_20 s => [(0, .p (.s s_1)), (3, .p (.i .u64 s)), (7, .p (.i .i64 (s_1.length : Int))), (8, .p (.i .i64 (i_20 : Int)))]) (fun i_20 s => []) ?_ hm ?_
 ·
  exact fse3
 clear hm
 intro i_20 h_15 hii_20 hm
 try dsimp only at hm
 try dsimp only
 refine qS ?_
 refine Wp.seqW fun K10 hK10 hW10 => ?_
 refine Wp.cond rfl ⟨⟩ (fun hc10 => ?_) (fun hc10 => ?_)
 rotate_left
 ·refine Wp.exit ?_
  have hm := hk_18 _ (forL_end hm (ge_nat (by first | exact hc10 | simpa using hc10)))
  try dsimp only at hm
  refine hW3 _ _ _ _ ?_ (hcut3 h_15 hm)
  exact fse3
 have hlt10 := lt_nat (by first | exact hc10 | simpa using hc10)
 have hw10 := wrap_succ hlt10 hl_21
 obtain ⟨c_22, nx_19, hxc_22, hyc_22, hnx_19, hm⟩ := forL_step hm hlt10
 clear hxc_22
 refine Wp.skip ?_
 simp only [thenQ]
 refine hK10 _ _ ?_
 refine Wp.seqW fun K11 hK11 hW11 => ?_
 refine Wp.block ?_
 refine Wp.seqR fun K12 hK12 => ?_
 simp only [go_sem, simprocAttr, hw10, hyc_22]
 first | apply hK12 | refine ⟨sd, hK12 _ _ ?_⟩
 refine Wp.region fun K13 hK13 => ?_
 simp only [go_sem, simprocAttr, hw10, hyc_22]
 first | apply hK13 | refine ⟨sd, hK13 _ _ ?_⟩
 refine hK11 _ _ ?_
 refine Wp.region fun K14 hK14 => ?_
 simp only [go_sem, simprocAttr, hw10, hyc_22]
 first | apply hK14 | refine ⟨sd, hK14 _ _ ?_⟩
 simp only [thenQ, blockQ, ↓reduceIte]
 refine ⟨IntKind.u64.wrap ((bitsI .xor .u64 h_15 (IntKind.u64.wrap (c_22.toNat : Int))) * 1099511628211), hlt10, hnx_19 _ hm, ?_⟩
 simp only [go_sem, simprocAttr, hw10, hyc_22]
 try exact se3
theorem ok_R_groups (n_1 : Int) (z : Str) (hm : R_groups n_1 = some z) : Does Tryd.prog 82 [.p (.i .i64 n_1)] [] (fun r X => r = .p (.s z) ∧ X = []) := by
 unfold R_groups at hm
 refine Does.of_wp 0 22 [.tmp 2] Tryd.func82 rfl (by decide) rfl rfl (Nat.le_of_ble_eq_true rfl) fun B => ?_
 refine qS ?_
 refine qS ?_
 refine Wp.seqW fun K3 hK3 hW3 => ?_
 obtain ⟨k_10, hk_10, hm⟩ := jp_elim hm
 have hcut3 : ∀ s, k_10 s = some z → K3 [(0, .p (.i .i64 s.1)), (3, .p (.s s.2))] [] := by
  intro s hs
  have hm := hk_10 _ hs
  clear hs
  obtain ⟨n_8, out_9⟩ := s
  try dsimp only at hm
  try dsimp only
  refine hK3 _ _ ?_
  obtain ⟨c_11, hm⟩ := chk_elim hm
  refine Wp.seqR fun K4 hK4 => ?_
  simp only [go_sem, simprocAttr]
  first | apply hK4 | refine ⟨by first | exact sd | ((repeat' apply And.intro) <;> first | assumption | omega | (simp only [List.length_append, List.length_map, List.length_cons, List.length_nil, List.length_set, List.length_replicate] at c_11 ⊢; omega)), hK4 _ _ ?_⟩
  refine Wp.ret ?_
  refine retQ_ret ?_
  cases hm
  exact fse3
 clear hK3 hk_10
 refine Wp.block ?_
 obtain ⟨k_15, hk_15, hm⟩ := loopN_cont hm
 refine Wp.loopN (fun s => [(0, .p (.i .i64 s.1)), (3, .p (.s s.2))]) (fun s => []) ?_ hm ?_
 ·
  exact fse3
 clear hm
 intro s nx_16 hm
 obtain ⟨n_12, out_13⟩ := s
 try dsimp only at hm
 try dsimp only
 refine Wp.seqW fun K5 hK5 hW5 => ?_
 refine qS ?_
 refine cM hm (fun hc7 hm => ?_) (fun hc7 hm => ?_)
 ·refine Wp.skip ?_
  refine hK5 _ _ ?_
  refine Wp.block ?_
  obtain ⟨c_17, hm⟩ := chk_elim hm
  refine Wp.seqR fun K8 hK8 => ?_
  simp only [go_sem, simprocAttr]
  first | apply hK8 | refine ⟨by first | exact sd | ((repeat' apply And.intro) <;> first | assumption | omega | (simp only [List.length_append, List.length_map, List.length_cons, List.length_nil, List.length_set, List.length_replicate] at c_17 ⊢; omega)), hK8 _ _ ?_⟩
  refine qR ?_
  simp only [thenQ, blockQ, ↓reduceIte]
  refine ⟨(Int.fdiv n_12 (2 ^ (shI .i64 7)), out_13 ++ (Go.Vc.strOf [bitsI .or .u8 (IntKind.u8.wrap (bitsI .and .i64 n_12 127)) 128])), hm, ?_⟩
  exact fse3
 ·refine Wp.exit ?_
  simp only [thenQ, blockQ, ↓reduceIte]
  have hm := hk_15 _ hm
  try dsimp only at hm
  refine hW3 _ _ _ _ ?_ (hcut3 (n_12, out_13) hm)
  exact fse3
theorem ok_R_rawSum (s_1 : Str) (z : Str) (hm : R_rawSum s_1 = some z) : Does Tryd.prog 83 [.p (.s s_1)] [] (fun r X => r = .p (.s z) ∧ X = []) := by
 unfold R_rawSum at hm
 refine Does.of_wp 0 30 [.tmp 2] Tryd.func83 rfl (by decide) rfl rfl (Nat.le_of_ble_eq_true rfl) fun B => ?_
 refine qS ?_
 obtain ⟨r_2, hr_2, hm⟩ := call_elim hm
 refine Wp.seqR fun K2 hK2 => ?_
 simp only [go_sem, simprocAttr]
 try refine ⟨sd, ?_⟩
 refine Rg.callF (av := ?av3) (ok_strconv_ParseUint s_1 16 64 _ hr_2) si si sg ?cont3
 intro hv3
 simp only [go_sem, simprocAttr]
 first | apply hK2 | refine ⟨sd, hK2 _ _ ?_⟩
 refine qS ?_
 refine Wp.seqW fun K5 hK5 hW5 => ?_
 obtain ⟨k_15, hk_15, hm⟩ := jp_elim hm
 have hcut5 : ∀ s, k_15 s = some z → K5 [(5, .buf 0)] [.buf 5 1 (List.map ecI_u8 s)] := by
  intro o0_14 hs
  have hm := hk_15 _ hs
  clear hs
  try dsimp only at hm
  try dsimp only
  refine hK5 _ _ ?_
  refine qS ?_
  refine Wp.ret ?_
  refine retQ_ret ?_
  cases hm
  exact fse3
 clear hK5 hk_15
 refine qS ?_
 refine Wp.block ?_
 obtain ⟨k_23, hk_23, hm⟩ := loopN_cont hm
 refine Wp.loopN (fun s => [(3, .p (.i .u64 r_2)), (5, .buf 0), (14, .p (.i .i64 ((List.replicate 8 0).length : Int))), (15, .p (.i .i64 s.1))]) (fun s => [.buf 5 1 (List.map ecI_u8 s.2)]) ?_ hm ?_
 ·
  exact fse3
 clear hm
 intro s nx_24 hm
 obtain ⟨t15_19, o0_20⟩ := s
 try dsimp only at hm
 try dsimp only
 refine qS ?_
 refine Wp.seqW fun K9 hK9 hW9 => ?_
 refine cM hm (fun hc10 hm => ?_) (fun hc10 hm => ?_)
 ·refine Wp.skip ?_
  refine hK9 _ _ ?_
  refine Wp.seqW fun K11 hK11 hW11 => ?_
  refine Wp.block ?_
  refine qS ?_
  obtain ⟨c_25, hm⟩ := chk_elim hm
  obtain ⟨c_26, hm⟩ := chk_elim hm
  refine Wp.region fun K13 hK13 => ?_
  simp only [go_sem, simprocAttr]
  first | apply hK13 | refine ⟨by first | exact sd | ((repeat' apply And.intro) <;> first | assumption | omega | (simp only [List.length_append, List.length_map, List.length_cons, List.length_nil, List.length_set, List.length_replicate] at c_25 c_26 ⊢; omega)), hK13 _ _ ?_⟩
  refine hK11 _ _ ?_
  refine qR ?_
  simp only [thenQ, blockQ, ↓reduceIte]
  refine ⟨(IntKind.i64.wrap (t15_19 + 1), List.set o0_20 t15_19.toNat (IntKind.u8.wrap (Int.fdiv r_2 (2 ^ (shI .u64 (IntKind.i64.wrap (56 - (IntKind.i64.wrap (8 * t15_19))))))))), hm, ?_⟩
  exact fse3
 ·refine Wp.exit ?_
  simp only [thenQ, blockQ, ↓reduceIte]
  have hm := hk_23 _ hm
  try dsimp only at hm
  refine hW5 _ _ _ _ ?_ (hcut5 o0_20 hm)
  exact fse3
theorem ok_R_PrintDelta (d_1 : api_Delta) (z : Str) (hm : R_PrintDelta d_1 = some z) : Does Tryd.prog 35 [.agg [.p (.i .i64 d_1.Old), .p (.i .i64 d_1.New), .p (.s d_1.OldSum), .p (.s d_1.NewSum), .p (.l (List.map enc_api_Piece d_1.Pieces))]] [] (fun r X => r = .p (.s z) ∧ X = []) := by
 unfold R_PrintDelta at hm
 refine Does.of_wp 0 64 [.tmp 2] Tryd.func35 rfl (by decide) rfl rfl (Nat.le_of_ble_eq_true rfl) fun B => ?_
 refine qS ?_
 obtain ⟨r_2, hr_2, hm⟩ := call_elim hm
 obtain ⟨c_3, hm⟩ := chk_elim hm
 obtain ⟨r_4, hr_4, hm⟩ := call_elim hm
 obtain ⟨c_5, hm⟩ := chk_elim hm
 obtain ⟨r_6, hr_6, hm⟩ := call_elim hm
 obtain ⟨c_7, hm⟩ := chk_elim hm
 obtain ⟨r_8, hr_8, hm⟩ := call_elim hm
 obtain ⟨c_9, hm⟩ := chk_elim hm
 obtain ⟨r_10, hr_10, hm⟩ := call_elim hm
 obtain ⟨c_11, hm⟩ := chk_elim hm
 refine Wp.seqD (plan := pl [(0, none), (1, none), (2, none), (3, none), (4, none), (5, none), (6, none), (7, none), (8, none), (9, none), (10, none), (11, none), (12, none), (13, none), (14, none), (15, none), (16, none), (17, none), (18, none), (19, none), (20, none), (21, none)]) (by kernel_rfl) rfl (by kernel_rfl) fun K2 hK2 => ?_
 simp only [go_sem, simprocAttr]
 try refine ⟨by first | exact sd | ((repeat' apply And.intro) <;> first | assumption | omega | (simp only [List.length_append, List.length_map, List.length_cons, List.length_nil, List.length_set, List.length_replicate] at c_3 c_5 c_7 c_9 c_11 ⊢; omega)), ?_⟩
 refine Dr.callF (av := ?av3) (g := true) (o := ?o3) (fun hg => ok_R_groups d_1.Old _ hr_2) si si si si sg si ?cont3
 simp only [go_sem, simprocAttr]
 try refine ⟨by first | exact sd | ((repeat' apply And.intro) <;> first | assumption | omega | (simp only [List.length_append, List.length_map, List.length_cons, List.length_nil, List.length_set, List.length_replicate] at c_3 c_5 c_7 c_9 c_11 ⊢; omega)), ?_⟩
 refine Dr.callF (av := ?av4) (g := true) (o := ?o4) (fun hg => ok_R_groups d_1.New _ hr_4) si si si si sg si ?cont4
 simp only [go_sem, simprocAttr]
 try refine ⟨by first | exact sd | ((repeat' apply And.intro) <;> first | assumption | omega | (simp only [List.length_append, List.length_map, List.length_cons, List.length_nil, List.length_set, List.length_replicate] at c_3 c_5 c_7 c_9 c_11 ⊢; omega)), ?_⟩
 refine Dr.callF (av := ?av5) (g := true) (o := ?o5) (fun hg => ok_R_rawSum d_1.OldSum _ hr_6) si si si si sg si ?cont5
 simp only [go_sem, simprocAttr]
 try refine ⟨by first | exact sd | ((repeat' apply And.intro) <;> first | assumption | omega | (simp only [List.length_append, List.length_map, List.length_cons, List.length_nil, List.length_set, List.length_replicate] at c_3 c_5 c_7 c_9 c_11 ⊢; omega)), ?_⟩
 refine Dr.callF (av := ?av6) (g := true) (o := ?o6) (fun hg => ok_R_rawSum d_1.NewSum _ hr_8) si si si si sg si ?cont6
 simp only [go_sem, simprocAttr]
 try refine ⟨by first | exact sd | ((repeat' apply And.intro) <;> first | assumption | omega | (simp only [List.length_append, List.length_map, List.length_cons, List.length_nil, List.length_set, List.length_replicate] at c_3 c_5 c_7 c_9 c_11 ⊢; omega)), ?_⟩
 refine Dr.callF (av := ?av7) (g := true) (o := ?o7) (fun hg => ok_R_groups (d_1.Pieces.length : Int) _ hr_10) si si si si sg si ?cont7
 simp only [go_sem, simprocAttr]
 first | apply hK2 | refine ⟨by first | exact sd | ((repeat' apply And.intro) <;> first | assumption | omega | (simp only [List.length_append, List.length_map, List.length_cons, List.length_nil, List.length_set, List.length_replicate] at c_3 c_5 c_7 c_9 c_11 ⊢; omega)), hK2 _ _ ?_⟩
 refine qS ?_
 refine Wp.adoptB 1 5 rfl ?_
 simp only [go_sem, simprocAttr]
 obtain ⟨r_12, hr_12, hm⟩ := call_elim hm
 refine Wp.seqR fun K9 hK9 => ?_
 simp only [go_sem, simprocAttr]
 try refine ⟨sd, ?_⟩
 refine Rg.callO (av := ?av10) [1, 2] (ok_strings_Builder_WriteString_i1 (((((([79, 70, 68, 49] : Str) ++ r_2) ++ r_4) ++ r_6) ++ r_8) ++ r_10) [] _ hr_12) si si si sg sg ?cont10
 rintro _ _ ⟨rfl, rfl⟩ hv10
 simp only [go_sem, simprocAttr]
 first | apply hK9 | refine ⟨sd, hK9 _ _ ?_⟩
 refine Wp.seqW fun K11 hK11 hW11 => ?_
 obtain ⟨k_60, hk_60, hm⟩ := jp_elim hm
 have hcut11 : ∀ s, k_60 s = some z → K11 [(4, .ptr 1 0)] [.cells 41 [.top, .top, .top, .top, .top], .cells 81 [.np 1, .buf 2], .sb 5 s] := by
  intro o2_59 hs
  have hm := hk_60 _ hs
  clear hs
  try dsimp only at hm
  try dsimp only
  refine hK11 _ _ ?_
  obtain ⟨r_61, hr_61, hm⟩ := call_elim hm
  obtain ⟨r_62, hr_62, hm⟩ := call_elim hm
  obtain ⟨r_63, hr_63, hm⟩ := call_elim hm
  obtain ⟨r_64, hr_64, hm⟩ := call_elim hm
  obtain ⟨c_65, hm⟩ := chk_elim hm
  refine Wp.seqR fun K12 hK12 => ?_
  simp only [go_sem, simprocAttr]
  try refine ⟨by first | exact sd | ((repeat' apply And.intro) <;> first | assumption | omega | (simp only [List.length_append, List.length_map, List.length_cons, List.length_nil, List.length_set, List.length_replicate] at c_65 ⊢; omega)), ?_⟩
  refine Rg.callO (av := ?av13) [1, 2] (ok_strings_Builder_String_i1 o2_59 _ hr_61) si si si sg sg ?cont13
  rintro _ _ ⟨rfl, rfl⟩ hv13
  simp only [go_sem, simprocAttr]
  try refine ⟨by first | exact sd | ((repeat' apply And.intro) <;> first | assumption | omega | (simp only [List.length_append, List.length_map, List.length_cons, List.length_nil, List.length_set, List.length_replicate] at c_65 ⊢; omega)), ?_⟩
  refine Rg.callO (av := ?av14) [1, 2] (ok_strings_Builder_String_i1 o2_59 _ hr_62) si si si sg sg ?cont14
  rintro _ _ ⟨rfl, rfl⟩ hv14
  simp only [go_sem, simprocAttr]
  try refine ⟨by first | exact sd | ((repeat' apply And.intro) <;> first | assumption | omega | (simp only [List.length_append, List.length_map, List.length_cons, List.length_nil, List.length_set, List.length_replicate] at c_65 ⊢; omega)), ?_⟩
  refine Rg.callX (av := ?av15) (g := true) (fun hg => ok_R_SumOf r_62 _ hr_63) si si si sg si ?cont15
  intro hv15
  simp only [go_sem, simprocAttr]
  try refine ⟨by first | exact sd | ((repeat' apply And.intro) <;> first | assumption | omega | (simp only [List.length_append, List.length_map, List.length_cons, List.length_nil, List.length_set, List.length_replicate] at c_65 ⊢; omega)), ?_⟩
  refine Rg.callX (av := ?av16) (g := true) (fun hg => ok_R_rawSum r_63 _ hr_64) si si si sg si ?cont16
  intro hv16
  simp only [go_sem, simprocAttr]
  first | apply hK12 | refine ⟨by first | exact sd | ((repeat' apply And.intro) <;> first | assumption | omega | (simp only [List.length_append, List.length_map, List.length_cons, List.length_nil, List.length_set, List.length_replicate] at c_65 ⊢; omega)), hK12 _ _ ?_⟩
  refine Wp.ret ?_
  refine retQ_ret ?_
  cases hm
  exact fse3
 clear hK11 hk_60
 refine qS ?_
 refine Wp.block ?_
 obtain ⟨k_89, hk_89, hm⟩ := forL_cont hm
 refine Wp.fact 31 fun hl_92 => ?_
 replace hl_92 : d_1.Pieces.length ≤ 274877906944 := by
  simp only [go_sem, simprocAttr, List.length_map] at hl_92
  omega
 refine Wp.forL (fun i_91 s => [(4, .ptr 1 0), (31, .p (.l (List.map enc_api_Piece d_1.Pieces))), (32, .p (.i .i64 (d_1.Pieces.length : Int))), (33, .p (.i .i64 (i_91 : Int)))]) (fun i_91 s => [.cells 41 [.p (.i .i64 d_1.Old), .p (.i .i64 d_1.New), .p (.s d_1.OldSum), .p (.s d_1.NewSum), .p (.l (List.map enc_api_Piece d_1.Pieces))], .cells 81 [.np 1, .buf 2], .sb 5 s]) ?_ hm ?_
 ·
  exact fse3
 clear hm
 intro i_91 o2_78 hii_91 hm
 try dsimp only at hm
 try dsimp only
 refine qS ?_
 refine Wp.seqW fun K19 hK19 hW19 => ?_
 refine Wp.cond rfl ⟨⟩ (fun hc19 => ?_) (fun hc19 => ?_)
 rotate_left
 ·refine Wp.exit ?_
  have hm := hk_89 _ (forL_end hm (ge_nat (by first | exact hc19 | simpa using hc19)))
  try dsimp only at hm
  refine hW11 _ _ _ _ ?_ (hcut11 o2_78 hm)
  exact fse3
 have hlt19 := lt_nat (by first | exact hc19 | simpa using hc19)
 have hw19 := wrap_succ hlt19 hl_92
 obtain ⟨p_93, nx_90, hxp_93, hyp_93, hnx_90, hm⟩ := forL_step hm hlt19
 replace hxp_93 := hxp_93 enc_api_Piece
 refine Wp.skip ?_
 simp only [thenQ]
 refine hK19 _ _ ?_
 refine Wp.seqW fun K20 hK20 hW20 => ?_
 refine Wp.block ?_
 refine Wp.seqR fun K21 hK21 => ?_
 simp only [go_sem, simprocAttr, hw19, hxp_93]
 first | apply hK21 | refine ⟨sd, hK21 _ _ ?_⟩
 refine Wp.seqR fun K22 hK22 => ?_
 simp only [go_sem, simprocAttr, hw19, hxp_93]
 first | apply hK22 | refine ⟨sd, hK22 _ _ ?_⟩
 refine cM hm (fun hc23 hm => ?_) (fun hc23 hm => ?_)
 ·obtain ⟨r_94, hr_94, hm⟩ := call_elim hm
  obtain ⟨c_95, hm⟩ := chk_elim hm
  obtain ⟨c_96, hm⟩ := chk_elim hm
  obtain ⟨r_97, hr_97, hm⟩ := call_elim hm
  refine Wp.regD (plan := pl [(0, none), (1, none), (2, none), (3, none), (4, none), (5, none), (6, none), (7, none), (8, some [])]) (by kernel_rfl) rfl (by kernel_rfl) fun K24 hK24 => ?_
  simp only [go_sem, simprocAttr, hw19, hxp_93]
  try refine ⟨by first | exact sd | ((repeat' apply And.intro) <;> first | assumption | omega | (simp only [List.length_append, List.length_map, List.length_cons, List.length_nil, List.length_set, List.length_replicate] at c_95 c_96 ⊢; omega)), ?_⟩
  refine Dr.callF (av := ?av25) (g := true) (o := ?o25) (fun hg => ok_R_groups (p_93.Data.length : Int) _ hr_94) (by simp only [go_sem, simprocAttr, hw19, hxp_93]; exact Is.mk) (by simp only [go_sem, simprocAttr, hw19, hxp_93]; exact Is.mk) (by simp only [go_sem, simprocAttr, hw19, hxp_93]; exact Is.mk) (by simp only [go_sem, simprocAttr, hw19, hxp_93]; exact Is.mk) (by simp only [go_sem, simprocAttr, hw19, hxp_93]) (by simp only [go_sem, simprocAttr, hw19, hxp_93]; exact Is.mk) ?cont25
  simp only [go_sem, simprocAttr, hw19, hxp_93]
  try refine ⟨by first | exact sd | ((repeat' apply And.intro) <;> first | assumption | omega | (simp only [List.length_append, List.length_map, List.length_cons, List.length_nil, List.length_set, List.length_replicate] at c_95 c_96 ⊢; omega)), ?_⟩
  refine Dr.of_br (Br.callS (av := ?av26) (o := ?o26) 2 [1, 2] (ok_strings_Builder_WriteString_i1 ((([1] : Str) ++ r_94) ++ p_93.Data) o2_78 _ hr_97) (by simp only [go_sem, simprocAttr, hw19, hxp_93]; exact Is.mk) (by simp only [go_sem, simprocAttr, hw19, hxp_93]; exact Is.mk) (by simp only [go_sem, simprocAttr, hw19, hxp_93]; exact Is.mk) (by simp only [go_sem, simprocAttr, hw19, hxp_93]; exact Is.mk) (by simp only [go_sem, simprocAttr, hw19, hxp_93]; first | exact Is.mk | (simp only [List.map_append, List.map_cons, List.map_nil, eN_enc_delta_state, ecB, ecI_i64, ecI_u8, ecS, iN_enc_delta_state]; exact Is.mk)) (by simp only [go_sem, simprocAttr, hw19, hxp_93]) (by simp only [go_sem, simprocAttr, hw19, hxp_93]) (by simp only [go_sem, simprocAttr, hw19, hxp_93]) (by simp only [go_sem, simprocAttr, hw19, hxp_93]) ?cont26)
  simp only [go_sem, simprocAttr, hw19, hxp_93]
  first | apply hK24 | refine ⟨by first | exact sd | ((repeat' apply And.intro) <;> first | assumption | omega | (simp only [List.length_append, List.length_map, List.length_cons, List.length_nil, List.length_set, List.length_replicate] at c_95 c_96 ⊢; omega)), hK24 _ _ ?_⟩
  refine hK20 _ _ ?_
  refine Wp.region fun K27 hK27 => ?_
  simp only [go_sem, simprocAttr, hw19, hxp_93]
  first | apply hK27 | refine ⟨sd, hK27 _ _ ?_⟩
  simp only [thenQ, blockQ, ↓reduceIte]
  refine ⟨r_97.2, hlt19, hnx_90 _ hm, ?_⟩
  simp only [go_sem, simprocAttr, hw19, hxp_93]
  try exact se3
 ·obtain ⟨r_98, hr_98, hm⟩ := call_elim hm
  obtain ⟨c_99, hm⟩ := chk_elim hm
  obtain ⟨r_100, hr_100, hm⟩ := call_elim hm
  obtain ⟨c_101, hm⟩ := chk_elim hm
  obtain ⟨r_102, hr_102, hm⟩ := call_elim hm
  refine Wp.regD (plan := pl [(0, none), (1, none), (2, none), (3, none), (4, none), (5, none), (6, none), (7, none), (8, some [])]) (by kernel_rfl) rfl (by kernel_rfl) fun K28 hK28 => ?_
  simp only [go_sem, simprocAttr, hw19, hxp_93]
  try refine ⟨by first | exact sd | ((repeat' apply And.intro) <;> first | assumption | omega | (simp only [List.length_append, List.length_map, List.length_cons, List.length_nil, List.length_set, List.length_replicate] at c_99 c_101 ⊢; omega)), ?_⟩
  refine Dr.callF (av := ?av29) (g := true) (o := ?o29) (fun hg => ok_R_groups p_93.At _ hr_98) (by simp only [go_sem, simprocAttr, hw19, hxp_93]; exact Is.mk) (by simp only [go_sem, simprocAttr, hw19, hxp_93]; exact Is.mk) (by simp only [go_sem, simprocAttr, hw19, hxp_93]; exact Is.mk) (by simp only [go_sem, simprocAttr, hw19, hxp_93]; exact Is.mk) (by simp only [go_sem, simprocAttr, hw19, hxp_93]) (by simp only [go_sem, simprocAttr, hw19, hxp_93]; exact Is.mk) ?cont29
  simp only [go_sem, simprocAttr, hw19, hxp_93]
  try refine ⟨by first | exact sd | ((repeat' apply And.intro) <;> first | assumption | omega | (simp only [List.length_append, List.length_map, List.length_cons, List.length_nil, List.length_set, List.length_replicate] at c_99 c_101 ⊢; omega)), ?_⟩
  refine Dr.callF (av := ?av30) (g := true) (o := ?o30) (fun hg => ok_R_groups p_93.Long _ hr_100) (by simp only [go_sem, simprocAttr, hw19, hxp_93]; exact Is.mk) (by simp only [go_sem, simprocAttr, hw19, hxp_93]; exact Is.mk) (by simp only [go_sem, simprocAttr, hw19, hxp_93]; exact Is.mk) (by simp only [go_sem, simprocAttr, hw19, hxp_93]; exact Is.mk) (by simp only [go_sem, simprocAttr, hw19, hxp_93]) (by simp only [go_sem, simprocAttr, hw19, hxp_93]; exact Is.mk) ?cont30
  simp only [go_sem, simprocAttr, hw19, hxp_93]
  try refine ⟨by first | exact sd | ((repeat' apply And.intro) <;> first | assumption | omega | (simp only [List.length_append, List.length_map, List.length_cons, List.length_nil, List.length_set, List.length_replicate] at c_99 c_101 ⊢; omega)), ?_⟩
  refine Dr.of_br (Br.callS (av := ?av31) (o := ?o31) 2 [1, 2] (ok_strings_Builder_WriteString_i1 ((([0] : Str) ++ r_98) ++ r_100) o2_78 _ hr_102) (by simp only [go_sem, simprocAttr, hw19, hxp_93]; exact Is.mk) (by simp only [go_sem, simprocAttr, hw19, hxp_93]; exact Is.mk) (by simp only [go_sem, simprocAttr, hw19, hxp_93]; exact Is.mk) (by simp only [go_sem, simprocAttr, hw19, hxp_93]; exact Is.mk) (by simp only [go_sem, simprocAttr, hw19, hxp_93]; first | exact Is.mk | (simp only [List.map_append, List.map_cons, List.map_nil, eN_enc_delta_state, ecB, ecI_i64, ecI_u8, ecS, iN_enc_delta_state]; exact Is.mk)) (by simp only [go_sem, simprocAttr, hw19, hxp_93]) (by simp only [go_sem, simprocAttr, hw19, hxp_93]) (by simp only [go_sem, simprocAttr, hw19, hxp_93]) (by simp only [go_sem, simprocAttr, hw19, hxp_93]) ?cont31)
  simp only [go_sem, simprocAttr, hw19, hxp_93]
  first | apply hK28 | refine ⟨by first | exact sd | ((repeat' apply And.intro) <;> first | assumption | omega | (simp only [List.length_append, List.length_map, List.length_cons, List.length_nil, List.length_set, List.length_replicate] at c_99 c_101 ⊢; omega)), hK28 _ _ ?_⟩
  refine hK20 _ _ ?_
  refine Wp.region fun K32 hK32 => ?_
  simp only [go_sem, simprocAttr, hw19, hxp_93]
  first | apply hK32 | refine ⟨sd, hK32 _ _ ?_⟩
  simp only [thenQ, blockQ, ↓reduceIte]
  refine ⟨r_102.2, hlt19, hnx_90 _ hm, ?_⟩
  simp only [go_sem, simprocAttr, hw19, hxp_93]
  try exact se3
theorem ok_R_IsSum (s_1 : Str) (z : Bool) (hm : R_IsSum s_1 = some z) : Does Tryd.prog 84 [.p (.s s_1)] [] (fun r X => r = .p (.b z) ∧ X = []) := by
 unfold R_IsSum at hm
 refine Does.of_wp 0 31 [.tmp 2] Tryd.func84 rfl (by decide) rfl rfl (Nat.le_of_ble_eq_true rfl) fun B => ?_
 refine qS ?_
 refine Wp.seqW fun K2 hK2 hW2 => ?_
 obtain ⟨k_9, hk_9, hm⟩ := jp_elim hm
 have hcut2 : ∀ s, k_9 s = some z → K2 [(0, .p (.s s_1))] [] := by
  intro s hs
  have hm := hk_9 _ hs
  clear hs
  try dsimp only at hm
  try dsimp only
  refine hK2 _ _ ?_
  refine qS ?_
  refine Wp.ret ?_
  refine retQ_ret ?_
  cases hm
  exact fse3
 clear hK2 hk_9
 refine qS ?_
 refine Wp.block ?_
 obtain ⟨k_12, hk_12, hm⟩ := forL_cont hm
 refine Wp.fact 0 fun hl_15 => ?_
 replace hl_15 : s_1.length ≤ 274877906944 := by
  simp only [go_sem, simprocAttr, List.length_map] at hl_15
  omega
 refine Wp.forL (fun i_14 s => [(0, .p (.s s_1)), (6, .p (.i .i64 (s_1.length : Int))), (7, .p (.i .i64 (i_14 : Int)))]) (fun i_14 s => []) ?_ hm ?_
 ·
  exact fse3
 clear hm
 intro i_14 s hii_14 hm
 try dsimp only at hm
 try dsimp only
 refine qS ?_
 refine Wp.seqW fun K6 hK6 hW6 => ?_
 refine Wp.cond rfl ⟨⟩ (fun hc6 => ?_) (fun hc6 => ?_)
 rotate_left
 ·refine Wp.exit ?_
  have hm := hk_12 _ (forL_end hm (ge_nat (by first | exact hc6 | simpa using hc6)))
  try dsimp only at hm
  refine hW2 _ _ _ _ ?_ (hcut2 () hm)
  exact fse3
 have hlt6 := lt_nat (by first | exact hc6 | simpa using hc6)
 have hw6 := wrap_succ hlt6 hl_15
 obtain ⟨c_16, nx_13, hxc_16, hyc_16, hnx_13, hm⟩ := forL_step hm hlt6
 clear hxc_16
 refine Wp.skip ?_
 simp only [thenQ]
 refine hK6 _ _ ?_
 refine Wp.seqW fun K7 hK7 hW7 => ?_
 refine Wp.block ?_
 refine Wp.seqR fun K8 hK8 => ?_
 simp only [go_sem, simprocAttr, hw6, hyc_16]
 first | apply hK8 | refine ⟨sd, hK8 _ _ ?_⟩
 refine Wp.seqR fun K9 hK9 => ?_
 simp only [go_sem, simprocAttr, hw6, hyc_16]
 first | apply hK9 | refine ⟨sd, hK9 _ _ ?_⟩
 refine Wp.seqR fun K10 hK10 => ?_
 simp only [go_sem, simprocAttr, hw6, hyc_16]
 first | apply hK10 | refine ⟨sd, hK10 _ _ ?_⟩
 refine cM hm (fun hc11 hm => ?_) (fun hc11 hm => ?_)
 ·refine Wp.seqR fun K12 hK12 => ?_
  simp only [go_sem, simprocAttr, hw6, hyc_16]
  first | apply hK12 | refine ⟨sd, hK12 _ _ ?_⟩
  refine Wp.ret ?_
  refine retQ_ret ?_
  cases hm
  simp only [go_sem, simprocAttr, hw6, hyc_16]
  try exact se3
 ·refine Wp.skip ?_
  refine hK7 _ _ ?_
  refine Wp.region fun K13 hK13 => ?_
  simp only [go_sem, simprocAttr, hw6, hyc_16]
  first | apply hK13 | refine ⟨sd, hK13 _ _ ?_⟩
  simp only [thenQ, blockQ, ↓reduceIte]
  refine ⟨(), hlt6, hnx_13 _ hm, ?_⟩
  simp only [go_sem, simprocAttr, hw6, hyc_16]
  try exact se3
theorem ok_R_PiecesError (l_1 : List api_Piece) (old_2 : Int) (z : Int × Int) (hm : R_PiecesError l_1 old_2 = some z) : Does Tryd.prog 85 [.p (.l (List.map enc_api_Piece l_1)), .p (.i .i64 old_2)] [] (fun r X => r = .tup [.p (.i .i64 z.1), .p (.i .i64 z.2)] ∧ X = []) := by
 unfold R_PiecesError at hm
 refine Does.of_wp 0 73 [.tmp 4, .tmp 5] Tryd.func85 rfl (by decide) rfl rfl (Nat.le_of_ble_eq_true rfl) fun B => ?_
 refine qS ?_
 refine Wp.seqW fun K2 hK2 hW2 => ?_
 refine qS ?_
 refine cM hm (fun hc4 hm => ?_) (fun hc4 hm => ?_)
 ·refine qS ?_
  refine Wp.ret ?_
  refine retQ_ret ?_
  cases hm
  exact fse3
 ·refine Wp.skip ?_
  refine hK2 _ _ ?_
  refine Wp.seqW fun K6 hK6 hW6 => ?_
  refine qS ?_
  refine cM hm (fun hc8 hm => ?_) (fun hc8 hm => ?_)
  ·refine qS ?_
   refine Wp.ret ?_
   refine retQ_ret ?_
   cases hm
   exact fse3
  ·refine Wp.skip ?_
   refine hK6 _ _ ?_
   refine qS ?_
   refine Wp.seqW fun K11 hK11 hW11 => ?_
   obtain ⟨k_12, hk_12, hm⟩ := jp_elim hm
   have hcut11 : ∀ s, k_12 s = some z → K11 [(6, .p (.i .i64 s))] [] := by
    intro n_11 hs
    have hm := hk_12 _ hs
    clear hs
    try dsimp only at hm
    try dsimp only
    refine hK11 _ _ ?_
    refine Wp.seqW fun K12 hK12 hW12 => ?_
    refine qS ?_
    refine cM hm (fun hc14 hm => ?_) (fun hc14 hm => ?_)
    ·refine qS ?_
     refine Wp.ret ?_
     refine retQ_ret ?_
     cases hm
     exact fse3
    ·refine Wp.skip ?_
     refine hK12 _ _ ?_
     refine qS ?_
     refine Wp.ret ?_
     refine retQ_ret ?_
     cases hm
     exact fse3
   clear hK11 hk_12
   refine qS ?_
   refine Wp.block ?_
   obtain ⟨k_16, hk_16, hm⟩ := forL_cont hm
   refine Wp.fact 18 fun hl_19 => ?_
   replace hl_19 : l_1.length ≤ 274877906944 := by
    simp only [go_sem, simprocAttr, List.length_map] at hl_19
    omega
   refine Wp.forL (fun i_18 s => [(1, .p (.i .i64 old_2)), (6, .p (.i .i64 s)), (18, .p (.l (List.map enc_api_Piece l_1))), (19, .p (.i .i64 (l_1.length : Int))), (20, .p (.i .i64 (i_18 : Int)))]) (fun i_18 s => []) ?_ hm ?_
   ·
    exact fse3
   clear hm
   intro i_18 n_13 hii_18 hm
   try dsimp only at hm
   try dsimp only
   refine qS ?_
   refine Wp.seqW fun K19 hK19 hW19 => ?_
   refine Wp.cond rfl ⟨⟩ (fun hc19 => ?_) (fun hc19 => ?_)
   rotate_left
   ·refine Wp.exit ?_
    have hm := hk_16 _ (forL_end hm (ge_nat (by first | exact hc19 | simpa using hc19)))
    try dsimp only at hm
    refine hW11 _ _ _ _ ?_ (hcut11 n_13 hm)
    exact fse3
   have hlt19 := lt_nat (by first | exact hc19 | simpa using hc19)
   have hw19 := wrap_succ hlt19 hl_19
   obtain ⟨p_20, nx_17, hxp_20, hyp_20, hnx_17, hm⟩ := forL_step hm hlt19
   replace hxp_20 := hxp_20 enc_api_Piece
   refine Wp.skip ?_
   simp only [thenQ]
   refine hK19 _ _ ?_
   refine Wp.seqW fun K20 hK20 hW20 => ?_
   refine Wp.block ?_
   refine Wp.seqR fun K21 hK21 => ?_
   simp only [go_sem, simprocAttr, hw19, hxp_20]
   first | apply hK21 | refine ⟨sd, hK21 _ _ ?_⟩
   refine Wp.block ?_
   refine Wp.seqR fun K22 hK22 => ?_
   simp only [go_sem, simprocAttr, hw19, hxp_20]
   first | apply hK22 | refine ⟨sd, hK22 _ _ ?_⟩
   refine cM hm (fun hc23 hm => ?_) (fun hc23 hm => ?_)
   ·refine Wp.seqW fun K24 hK24 hW24 => ?_
    refine Wp.seqR fun K25 hK25 => ?_
    simp only [go_sem, simprocAttr, hw19, hxp_20]
    first | apply hK25 | refine ⟨sd, hK25 _ _ ?_⟩
    refine cM hm (fun hc26 hm => ?_) (fun hc26 hm => ?_)
    ·refine Wp.seqR fun K27 hK27 => ?_
     simp only [go_sem, simprocAttr, hw19, hxp_20]
     first | apply hK27 | refine ⟨sd, hK27 _ _ ?_⟩
     refine Wp.ret ?_
     refine retQ_ret ?_
     cases hm
     simp only [go_sem, simprocAttr, hw19, hxp_20]
     try exact se3
    ·refine Wp.skip ?_
     refine hK24 _ _ ?_
     refine Wp.region fun K28 hK28 => ?_
     simp only [go_sem, simprocAttr, hw19, hxp_20]
     first | apply hK28 | refine ⟨sd, hK28 _ _ ?_⟩
     refine hK20 _ _ ?_
     refine Wp.region fun K29 hK29 => ?_
     simp only [go_sem, simprocAttr, hw19, hxp_20]
     first | apply hK29 | refine ⟨sd, hK29 _ _ ?_⟩
     simp only [thenQ, blockQ, ↓reduceIte]
     refine ⟨IntKind.i64.wrap (n_13 + (p_20.Data.length : Int)), hlt19, hnx_17 _ hm, ?_⟩
     simp only [go_sem, simprocAttr, hw19, hxp_20]
     try exact se3
   ·refine Wp.seqR fun K30 hK30 => ?_
    simp only [go_sem, simprocAttr, hw19, hxp_20]
    first | apply hK30 | refine ⟨sd, hK30 _ _ ?_⟩
    refine cM hm (fun hc31 hm => ?_) (fun hc31 hm => ?_)
    ·refine Wp.seqR fun K32 hK32 => ?_
     simp only [go_sem, simprocAttr, hw19, hxp_20]
     first | apply hK32 | refine ⟨sd, hK32 _ _ ?_⟩
     refine Wp.ret ?_
     refine retQ_ret ?_
     cases hm
     simp only [go_sem, simprocAttr, hw19, hxp_20]
     try exact se3
    ·refine Wp.region fun K33 hK33 => ?_
     simp only [go_sem, simprocAttr, hw19, hxp_20]
     first | apply hK33 | refine ⟨sd, hK33 _ _ ?_⟩
     refine hK20 _ _ ?_
     refine Wp.region fun K34 hK34 => ?_
     simp only [go_sem, simprocAttr, hw19, hxp_20]
     first | apply hK34 | refine ⟨sd, hK34 _ _ ?_⟩
     simp only [thenQ, blockQ, ↓reduceIte]
     refine ⟨IntKind.i64.wrap (n_13 + p_20.Long), hlt19, hnx_17 _ hm, ?_⟩
     simp only [go_sem, simprocAttr, hw19, hxp_20]
     try exact se3
end Go.Proofs.YtkekfenkeeiigaaDoor
