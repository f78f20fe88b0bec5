/- That the code does what the models say (part 4). -/
import Derived.Test.YtkekfenkeeiigaaDoorLbWk0
import Derived.Test.YtkekfenkeeiigaaDoorLbWk1
import Derived.Test.YtkekfenkeeiigaaDoorLbWk2
import Derived.Test.YtkekfenkeeiigaaDoorLbWk3
set_option linter.unusedSimpArgs false
set_option linter.unusedVariables false
open Go.Proofs Go.Shelf
namespace Go.Proofs.YtkekfenkeeiigaaDoor
open Go.Vc Go.Md
set_option maxRecDepth 100000
set_option maxHeartbeats 4000000
theorem ok_strings_Repeat (s_1 : Str) (count_2 : Int) (z : Str) (hm : strings_Repeat s_1 count_2 = some z) : Does Tryd.prog 17 [.p (.s s_1), .p (.i .i64 count_2)] [] (fun r X => r = .p (.s z) ∧ X = []) := by
 unfold strings_Repeat at hm
 refine Does.of_wp 0 125 [.tmp 4] Tryd.func17 rfl (by decide) rfl rfl (Nat.le_of_ble_eq_true rfl) fun B => ?_
 refine qS ?_
 refine Wp.seqW fun K2 hK2 hW2 => ?_
 refine qS ?_
 refine Wp.block ?_
 refine qS ?_
 refine cM hm (fun hc5 hm => ?_) (fun hc5 hm => ?_)
 ·refine qS ?_
  refine Wp.ret ?_
  refine retQ_ret ?_
  cases hm
  exact fse3
 ·refine qS ?_
  refine cM hm (fun hc8 hm => ?_) (fun hc8 hm => ?_)
  ·refine qS ?_
   refine Wp.ret ?_
   refine retQ_ret ?_
   cases hm
   exact fse3
  ·refine Wp.skip ?_
   refine hK2 _ _ ?_
   refine Wp.seqW fun K10 hK10 hW10 => ?_
   obtain ⟨k_3, hk_3, hm⟩ := jp_elim hm
   have hcut10 : ∀ s, k_3 s = some z → K10 [(0, .p (.s s_1)), (1, .p (.i .i64 count_2))] [] := by
    intro s hs
    have hm := hk_3 _ hs
    clear hs
    try dsimp only at hm
    try dsimp only
    refine hK10 _ _ ?_
    obtain ⟨r_4, hr_4, hm⟩ := call_elim hm
    refine Wp.seqR fun K11 hK11 => ?_
    simp only [go_sem, simprocAttr]
    try refine ⟨sd, ?_⟩
    refine Rg.callX (av := ?av12) (g := true) (fun hg => ok_math_bits_Mul (IntKind.u64.wrap (s_1.length : Int)) (IntKind.u64.wrap count_2) _ hr_4) si si si sg si ?cont12
    intro hv12
    simp only [go_sem, simprocAttr]
    first | apply hK11 | refine ⟨sd, hK11 _ _ ?_⟩
    refine Wp.seqW fun K13 hK13 hW13 => ?_
    obtain ⟨k_5, hk_5, hm⟩ := jp_elim hm
    have hcut13 : ∀ s, k_5 s = some z → K13 [(0, .p (.s s_1)), (6, .p (.i .u64 r_4.2))] [] := by
     intro s hs
     have hm := hk_5 _ hs
     clear hs
     try dsimp only at hm
     try dsimp only
     refine hK13 _ _ ?_
     refine qS ?_
     refine Wp.seqW fun K15 hK15 hW15 => ?_
     refine qS ?_
     refine cM hm (fun hc17 hm => ?_) (fun hc17 hm => ?_)
     ·refine qS ?_
      refine Wp.ret ?_
      refine retQ_ret ?_
      cases hm
      exact fse3
     ·refine Wp.skip ?_
      refine hK15 _ _ ?_
      refine Wp.seqW fun K19 hK19 hW19 => ?_
      obtain ⟨k_19, hk_19, hm⟩ := jp_elim hm
      have hcut19 : ∀ s, k_19 s = some z → K19 [(0, .p (.s s_1)), (7, .p (.i .i64 (IntKind.i64.wrap r_4.2)))] [] := by
       intro s hs
       have hm := hk_19 _ hs
       clear hs
       try dsimp only at hm
       try dsimp only
       refine hK19 _ _ ?_
       refine qS ?_
       refine Wp.seqW fun K21 hK21 hW21 => ?_
       obtain ⟨k_22, hk_22, hm⟩ := jp_elim hm
       have hcut21 : ∀ s, k_22 s = some z → K21 [(0, .p (.s s_1)), (7, .p (.i .i64 (IntKind.i64.wrap r_4.2))), (8, .p (.i .i64 s))] [] := by
        intro chunkMax_21 hs
        have hm := hk_22 _ hs
        clear hs
        try dsimp only at hm
        try dsimp only
        refine hK21 _ _ ?_
        refine qS ?_
        refine Wp.adoptB 0 5 rfl ?_
        simp only [go_sem, simprocAttr]
        obtain ⟨r_23, hr_23, hm⟩ := call_elim hm
        refine Wp.seqR fun K23 hK23 => ?_
        simp only [go_sem, simprocAttr]
        try refine ⟨sd, ?_⟩
        refine Rg.callO (av := ?av24) [0, 1] (ok_strings_Builder_Grow (IntKind.i64.wrap r_4.2) [] _ hr_23) si si si sg sg ?cont24
        rintro _ _ ⟨rfl, rfl⟩ hv24
        simp only [go_sem, simprocAttr]
        first | apply hK23 | refine ⟨sd, hK23 _ _ ?_⟩
        obtain ⟨r_24, hr_24, hm⟩ := call_elim hm
        refine Wp.seqR fun K25 hK25 => ?_
        simp only [go_sem, simprocAttr]
        try refine ⟨sd, ?_⟩
        refine Rg.callO (av := ?av26) [0, 1] (ok_strings_Builder_WriteString_i1 s_1 [] _ hr_24) si si si sg sg ?cont26
        rintro _ _ ⟨rfl, rfl⟩ hv26
        simp only [go_sem, simprocAttr]
        first | apply hK25 | refine ⟨sd, hK25 _ _ ?_⟩
        refine Wp.seqW fun K27 hK27 hW27 => ?_
        obtain ⟨k_47, hk_47, hm⟩ := jp_elim hm
        have hcut27 : ∀ s, k_47 s = some z → K27 [(9, .ptr 0 0)] [.cells 81 [.np 0, .buf 1], .sb 5 s] := by
         intro o1_46 hs
         have hm := hk_47 _ hs
         clear hs
         try dsimp only at hm
         try dsimp only
         refine hK27 _ _ ?_
         obtain ⟨r_48, hr_48, hm⟩ := call_elim hm
         refine Wp.seqR fun K28 hK28 => ?_
         simp only [go_sem, simprocAttr]
         try refine ⟨sd, ?_⟩
         refine Rg.callO (av := ?av29) [0, 1] (ok_strings_Builder_String_i1 o1_46 _ hr_48) si si si sg sg ?cont29
         rintro _ _ ⟨rfl, rfl⟩ hv29
         simp only [go_sem, simprocAttr]
         first | apply hK28 | refine ⟨sd, hK28 _ _ ?_⟩
         refine Wp.ret ?_
         refine retQ_ret ?_
         cases hm
         exact fse3
        clear hK27 hk_47
        refine Wp.block ?_
        obtain ⟨k_62, hk_62, hm⟩ := loopN_cont hm
        refine Wp.loopN (fun s => [(7, .p (.i .i64 (IntKind.i64.wrap r_4.2))), (8, .p (.i .i64 chunkMax_21)), (9, .ptr 0 0)]) (fun s => [.cells 81 [.np 0, .buf 1], .sb 5 s]) ?_ hm ?_
        ·
         exact fse3
        clear hm
        intro o1_55 nx_63 hm
        try dsimp only at hm
        try dsimp only
        refine Wp.seqW fun K30 hK30 hW30 => ?_
        obtain ⟨r_64, hr_64, hm⟩ := call_elim hm
        refine Wp.seqR fun K31 hK31 => ?_
        simp only [go_sem, simprocAttr]
        try refine ⟨sd, ?_⟩
        refine Rg.callO (av := ?av32) [0, 1] (ok_strings_Builder_Len_i1 o1_55 _ hr_64) si si si sg sg ?cont32
        rintro _ _ ⟨rfl, rfl⟩ hv32
        simp only [go_sem, simprocAttr]
        first | apply hK31 | refine ⟨sd, hK31 _ _ ?_⟩
        refine cM hm (fun hc33 hm => ?_) (fun hc33 hm => ?_)
        ·refine Wp.skip ?_
         refine hK30 _ _ ?_
         refine Wp.block ?_
         obtain ⟨r_65, hr_65, hm⟩ := call_elim hm
         obtain ⟨r_66, hr_66, hm⟩ := call_elim hm
         refine Wp.seqR fun K34 hK34 => ?_
         simp only [go_sem, simprocAttr]
         try refine ⟨sd, ?_⟩
         refine Rg.callO (av := ?av35) [0, 1] (ok_strings_Builder_Len_i1 o1_55 _ hr_65) si si si sg sg ?cont35
         rintro _ _ ⟨rfl, rfl⟩ hv35
         simp only [go_sem, simprocAttr]
         try refine ⟨sd, ?_⟩
         refine Rg.callO (av := ?av36) [0, 1] (ok_strings_Builder_Len_i1 o1_55 _ hr_66) si si si sg sg ?cont36
         rintro _ _ ⟨rfl, rfl⟩ hv36
         simp only [go_sem, simprocAttr]
         first | apply hK34 | refine ⟨sd, hK34 _ _ ?_⟩
         obtain ⟨r_67, hr_67, hm⟩ := call_elim hm
         obtain ⟨c_68, hm⟩ := chk_elim hm
         obtain ⟨r_69, hr_69, hm⟩ := call_elim hm
         refine Wp.region fun K37 hK37 => ?_
         simp only [go_sem, simprocAttr]
         try refine ⟨by first | exact sd | ((repeat' apply And.intro) <;> first | assumption | omega | (simp only [List.length_append, List.length_map, List.length_cons, List.length_nil, List.length_set, List.length_replicate] at c_68 ⊢; omega)), ?_⟩
         refine Rg.callO (av := ?av38) [0, 1] (ok_strings_Builder_String_i1 o1_55 _ hr_67) si si si sg sg ?cont38
         rintro _ _ ⟨rfl, rfl⟩ hv38
         simp only [go_sem, simprocAttr]
         try refine ⟨by first | exact sd | ((repeat' apply And.intro) <;> first | assumption | omega | (simp only [List.length_append, List.length_map, List.length_cons, List.length_nil, List.length_set, List.length_replicate] at c_68 ⊢; omega)), ?_⟩
         refine Rg.callO (av := ?av39) [0, 1] (ok_strings_Builder_WriteString_i1 (List.take ((min (min (IntKind.i64.wrap ((IntKind.i64.wrap r_4.2) - r_65)) r_66) chunkMax_21).toNat) r_67) o1_55 _ hr_69) si si si sg sg ?cont39
         rintro _ _ ⟨rfl, rfl⟩ hv39
         simp only [go_sem, simprocAttr]
         first | apply hK37 | refine ⟨by first | exact sd | ((repeat' apply And.intro) <;> first | assumption | omega | (simp only [List.length_append, List.length_map, List.length_cons, List.length_nil, List.length_set, List.length_replicate] at c_68 ⊢; omega)), hK37 _ _ ?_⟩
         simp only [thenQ, blockQ, ↓reduceIte]
         refine ⟨r_69.2, hm, ?_⟩
         exact fse3
        ·refine Wp.exit ?_
         simp only [thenQ, blockQ, ↓reduceIte]
         have hm := hk_62 _ hm
         try dsimp only at hm
         refine hW27 _ _ _ _ ?_ (hcut27 o1_55 hm)
         exact fse3
       clear hK21 hk_22
       refine qS ?_
       refine cM hm (fun hc41 hm => ?_) (fun hc41 hm => ?_)
       ·obtain ⟨c_70, hm⟩ := chk_elim hm
        refine Wp.seqR fun K42 hK42 => ?_
        simp only [go_sem, simprocAttr]
        first | apply hK42 | refine ⟨by first | exact sd | ((repeat' apply And.intro) <;> first | assumption | omega | (simp only [List.length_append, List.length_map, List.length_cons, List.length_nil, List.length_set, List.length_replicate] at c_70 ⊢; omega)), hK42 _ _ ?_⟩
        refine qS ?_
        refine cM hm (fun hc44 hm => ?_) (fun hc44 hm => ?_)
        ·refine qR ?_
         refine hW21 _ _ _ _ ?_ (hcut21 (s_1.length : Int) hm)
         exact fse3
        ·refine Wp.skip ?_
         refine hW21 _ _ _ _ ?_ (hcut21 (IntKind.i64.wrap ((IntKind.i64.wrap (Int.tdiv 8192 (s_1.length : Int))) * (s_1.length : Int))) hm)
         exact fse3
       ·refine Wp.skip ?_
        refine hW21 _ _ _ _ ?_ (hcut21 (IntKind.i64.wrap r_4.2) hm)
        exact fse3
      clear hK19 hk_19
      obtain ⟨c_71, hbc_71, hxc_71, hm⟩ := idxS_elim hm
      replace hxc_71 : ((s_1.getD 0 0).toNat : Int) = c_71 := hxc_71
      refine Wp.seqR fun K46 hK46 => ?_
      simp only [go_sem, simprocAttr, hxc_71]
      first | apply hK46 | refine ⟨sd, hK46 _ _ ?_⟩
      refine Wp.block ?_
      refine Wp.seqW fun K47 hK47 hW47 => ?_
      obtain ⟨k_73, hk_73, hm⟩ := jp_elim hm
      have hcut47 : ∀ s, k_73 s = some z → K47 [(0, .p (.s s_1)), (7, .p (.i .i64 (IntKind.i64.wrap r_4.2))), (43, .p (.b s))] [] := by
       intro t43_72 hs
       have hm := hk_73 _ hs
       clear hs
       try dsimp only at hm
       try dsimp only
       refine hK47 _ _ ?_
       refine cM hm (fun hc48 hm => ?_) (fun hc48 hm => ?_)
       ·refine Wp.block ?_
        obtain ⟨r_74, hr_74, hm⟩ := callG_elim hm
        refine Wp.seqR fun K49 hK49 => ?_
        simp only [go_sem, simprocAttr, hxc_71]
        try refine ⟨sd, ?_⟩
        refine Rg.callX (av := ?av50) (g := decide ((IntKind.i64.wrap r_4.2) ≤ 128)) (fun hg => ok_strings_HasPrefix ((List.append [32, 32, 32, 32, 32, 32, 32, 32, 32, 32, 32, 32, 32, 32, 32, 32, 32, 32, 32, 32, 32, 32, 32, 32, 32, 32, 32, 32, 32, 32, 32, 32, 32, 32, 32, 32, 32, 32, 32, 32, 32, 32, 32, 32, 32, 32, 32, 32, 32, 32, 32, 32, 32, 32, 32, 32, 32, 32, 32, 32, 32, 32, 32, 32] [32, 32, 32, 32, 32, 32, 32, 32, 32, 32, 32, 32, 32, 32, 32, 32, 32, 32, 32, 32, 32, 32, 32, 32, 32, 32, 32, 32, 32, 32, 32, 32, 32, 32, 32, 32, 32, 32, 32, 32, 32, 32, 32, 32, 32, 32, 32, 32, 32, 32, 32, 32, 32, 32, 32, 32, 32, 32, 32, 32, 32, 32, 32, 32]) : Str) s_1 _ (hr_74 hg)) (by simp only [go_sem, simprocAttr, hxc_71]; exact Is.mk) (by simp only [go_sem, simprocAttr, hxc_71]; exact Is.mk) (by simp only [go_sem, simprocAttr, hxc_71]; exact Is.mk) (by simp only [go_sem, simprocAttr, hxc_71]) (by simp only [go_sem, simprocAttr, hxc_71]; exact Is.mk) ?cont50
        intro hv50
        simp only [go_sem, simprocAttr, hxc_71]
        first | apply hK49 | refine ⟨sd, hK49 _ _ ?_⟩
        refine cM hm (fun hc51 hm => ?_) (fun hc51 hm => ?_)
        ·obtain ⟨c_75, hm⟩ := chk_elim hm
         refine Wp.seqR fun K52 hK52 => ?_
         simp only [go_sem, simprocAttr, hxc_71]
         first | apply hK52 | refine ⟨by first | exact sd | ((repeat' apply And.intro) <;> first | assumption | omega | (simp only [List.length_append, List.length_map, List.length_cons, List.length_nil, List.length_set, List.length_replicate] at c_75 ⊢; omega)), hK52 _ _ ?_⟩
         refine Wp.ret ?_
         refine retQ_ret ?_
         cases hm
         simp only [go_sem, simprocAttr, hxc_71]
         try exact se3
        ·obtain ⟨r_76, hr_76, hm⟩ := callG_elim hm
         refine Wp.seqR fun K53 hK53 => ?_
         simp only [go_sem, simprocAttr, hxc_71]
         try refine ⟨sd, ?_⟩
         refine Rg.callX (av := ?av54) (g := decide ((IntKind.i64.wrap r_4.2) ≤ 128)) (fun hg => ok_strings_HasPrefix ((List.append [45, 45, 45, 45, 45, 45, 45, 45, 45, 45, 45, 45, 45, 45, 45, 45, 45, 45, 45, 45, 45, 45, 45, 45, 45, 45, 45, 45, 45, 45, 45, 45, 45, 45, 45, 45, 45, 45, 45, 45, 45, 45, 45, 45, 45, 45, 45, 45, 45, 45, 45, 45, 45, 45, 45, 45, 45, 45, 45, 45, 45, 45, 45, 45] [45, 45, 45, 45, 45, 45, 45, 45, 45, 45, 45, 45, 45, 45, 45, 45, 45, 45, 45, 45, 45, 45, 45, 45, 45, 45, 45, 45, 45, 45, 45, 45, 45, 45, 45, 45, 45, 45, 45, 45, 45, 45, 45, 45, 45, 45, 45, 45, 45, 45, 45, 45, 45, 45, 45, 45, 45, 45, 45, 45, 45, 45, 45, 45]) : Str) s_1 _ (hr_76 hg)) (by simp only [go_sem, simprocAttr, hxc_71]; exact Is.mk) (by simp only [go_sem, simprocAttr, hxc_71]; exact Is.mk) (by simp only [go_sem, simprocAttr, hxc_71]; exact Is.mk) (by simp only [go_sem, simprocAttr, hxc_71]) (by simp only [go_sem, simprocAttr, hxc_71]; exact Is.mk) ?cont54
         intro hv54
         simp only [go_sem, simprocAttr, hxc_71]
         first | apply hK53 | refine ⟨sd, hK53 _ _ ?_⟩
         refine cM hm (fun hc55 hm => ?_) (fun hc55 hm => ?_)
         ·obtain ⟨c_77, hm⟩ := chk_elim hm
          refine Wp.seqR fun K56 hK56 => ?_
          simp only [go_sem, simprocAttr, hxc_71]
          first | apply hK56 | refine ⟨by first | exact sd | ((repeat' apply And.intro) <;> first | assumption | omega | (simp only [List.length_append, List.length_map, List.length_cons, List.length_nil, List.length_set, List.length_replicate] at c_77 ⊢; omega)), hK56 _ _ ?_⟩
          refine Wp.ret ?_
          refine retQ_ret ?_
          cases hm
          simp only [go_sem, simprocAttr, hxc_71]
          try exact se3
         ·obtain ⟨r_78, hr_78, hm⟩ := callG_elim hm
          refine Wp.seqR fun K57 hK57 => ?_
          simp only [go_sem, simprocAttr, hxc_71]
          try refine ⟨sd, ?_⟩
          refine Rg.callX (av := ?av58) (g := decide ((IntKind.i64.wrap r_4.2) ≤ 64)) (fun hg => ok_strings_HasPrefix ([48, 48, 48, 48, 48, 48, 48, 48, 48, 48, 48, 48, 48, 48, 48, 48, 48, 48, 48, 48, 48, 48, 48, 48, 48, 48, 48, 48, 48, 48, 48, 48, 48, 48, 48, 48, 48, 48, 48, 48, 48, 48, 48, 48, 48, 48, 48, 48, 48, 48, 48, 48, 48, 48, 48, 48, 48, 48, 48, 48, 48, 48, 48, 48] : Str) s_1 _ (hr_78 hg)) (by simp only [go_sem, simprocAttr, hxc_71]; exact Is.mk) (by simp only [go_sem, simprocAttr, hxc_71]; exact Is.mk) (by simp only [go_sem, simprocAttr, hxc_71]; exact Is.mk) (by simp only [go_sem, simprocAttr, hxc_71]) (by simp only [go_sem, simprocAttr, hxc_71]; exact Is.mk) ?cont58
          intro hv58
          simp only [go_sem, simprocAttr, hxc_71]
          first | apply hK57 | refine ⟨sd, hK57 _ _ ?_⟩
          refine cM hm (fun hc59 hm => ?_) (fun hc59 hm => ?_)
          ·obtain ⟨c_79, hm⟩ := chk_elim hm
           refine Wp.seqR fun K60 hK60 => ?_
           simp only [go_sem, simprocAttr, hxc_71]
           first | apply hK60 | refine ⟨by first | exact sd | ((repeat' apply And.intro) <;> first | assumption | omega | (simp only [List.length_append, List.length_map, List.length_cons, List.length_nil, List.length_set, List.length_replicate] at c_79 ⊢; omega)), hK60 _ _ ?_⟩
           refine Wp.ret ?_
           refine retQ_ret ?_
           cases hm
           simp only [go_sem, simprocAttr, hxc_71]
           try exact se3
          ·obtain ⟨r_80, hr_80, hm⟩ := callG_elim hm
           refine Wp.seqR fun K61 hK61 => ?_
           simp only [go_sem, simprocAttr, hxc_71]
           try refine ⟨sd, ?_⟩
           refine Rg.callX (av := ?av62) (g := decide ((IntKind.i64.wrap r_4.2) ≤ 128)) (fun hg => ok_strings_HasPrefix ((List.append [61, 61, 61, 61, 61, 61, 61, 61, 61, 61, 61, 61, 61, 61, 61, 61, 61, 61, 61, 61, 61, 61, 61, 61, 61, 61, 61, 61, 61, 61, 61, 61, 61, 61, 61, 61, 61, 61, 61, 61, 61, 61, 61, 61, 61, 61, 61, 61, 61, 61, 61, 61, 61, 61, 61, 61, 61, 61, 61, 61, 61, 61, 61, 61] [61, 61, 61, 61, 61, 61, 61, 61, 61, 61, 61, 61, 61, 61, 61, 61, 61, 61, 61, 61, 61, 61, 61, 61, 61, 61, 61, 61, 61, 61, 61, 61, 61, 61, 61, 61, 61, 61, 61, 61, 61, 61, 61, 61, 61, 61, 61, 61, 61, 61, 61, 61, 61, 61, 61, 61, 61, 61, 61, 61, 61, 61, 61, 61]) : Str) s_1 _ (hr_80 hg)) (by simp only [go_sem, simprocAttr, hxc_71]; exact Is.mk) (by simp only [go_sem, simprocAttr, hxc_71]; exact Is.mk) (by simp only [go_sem, simprocAttr, hxc_71]; exact Is.mk) (by simp only [go_sem, simprocAttr, hxc_71]) (by simp only [go_sem, simprocAttr, hxc_71]; exact Is.mk) ?cont62
           intro hv62
           simp only [go_sem, simprocAttr, hxc_71]
           first | apply hK61 | refine ⟨sd, hK61 _ _ ?_⟩
           refine cM hm (fun hc63 hm => ?_) (fun hc63 hm => ?_)
           ·obtain ⟨c_81, hm⟩ := chk_elim hm
            refine Wp.seqR fun K64 hK64 => ?_
            simp only [go_sem, simprocAttr, hxc_71]
            first | apply hK64 | refine ⟨by first | exact sd | ((repeat' apply And.intro) <;> first | assumption | omega | (simp only [List.length_append, List.length_map, List.length_cons, List.length_nil, List.length_set, List.length_replicate] at c_81 ⊢; omega)), hK64 _ _ ?_⟩
            refine Wp.ret ?_
            refine retQ_ret ?_
            cases hm
            simp only [go_sem, simprocAttr, hxc_71]
            try exact se3
           ·obtain ⟨r_82, hr_82, hm⟩ := callG_elim hm
            refine Wp.seqR fun K65 hK65 => ?_
            simp only [go_sem, simprocAttr, hxc_71]
            try refine ⟨sd, ?_⟩
            refine Rg.callX (av := ?av66) (g := decide ((IntKind.i64.wrap r_4.2) ≤ 64)) (fun hg => ok_strings_HasPrefix ([9, 9, 9, 9, 9, 9, 9, 9, 9, 9, 9, 9, 9, 9, 9, 9, 9, 9, 9, 9, 9, 9, 9, 9, 9, 9, 9, 9, 9, 9, 9, 9, 9, 9, 9, 9, 9, 9, 9, 9, 9, 9, 9, 9, 9, 9, 9, 9, 9, 9, 9, 9, 9, 9, 9, 9, 9, 9, 9, 9, 9, 9, 9, 9] : Str) s_1 _ (hr_82 hg)) (by simp only [go_sem, simprocAttr, hxc_71]; exact Is.mk) (by simp only [go_sem, simprocAttr, hxc_71]; exact Is.mk) (by simp only [go_sem, simprocAttr, hxc_71]; exact Is.mk) (by simp only [go_sem, simprocAttr, hxc_71]) (by simp only [go_sem, simprocAttr, hxc_71]; exact Is.mk) ?cont66
            intro hv66
            simp only [go_sem, simprocAttr, hxc_71]
            first | apply hK65 | refine ⟨sd, hK65 _ _ ?_⟩
            refine cM hm (fun hc67 hm => ?_) (fun hc67 hm => ?_)
            ·obtain ⟨c_83, hm⟩ := chk_elim hm
             refine Wp.seqR fun K68 hK68 => ?_
             simp only [go_sem, simprocAttr, hxc_71]
             first | apply hK68 | refine ⟨by first | exact sd | ((repeat' apply And.intro) <;> first | assumption | omega | (simp only [List.length_append, List.length_map, List.length_cons, List.length_nil, List.length_set, List.length_replicate] at c_83 ⊢; omega)), hK68 _ _ ?_⟩
             refine Wp.ret ?_
             refine retQ_ret ?_
             cases hm
             simp only [go_sem, simprocAttr, hxc_71]
             try exact se3
            ·refine Wp.skip ?_
             refine hW19 _ _ _ _ ?_ (hcut19 () hm)
             simp only [go_sem, simprocAttr, hxc_71]
             try exact se3
       ·refine Wp.skip ?_
        refine hW19 _ _ _ _ ?_ (hcut19 () hm)
        simp only [go_sem, simprocAttr, hxc_71]
        try exact se3
      clear hK47 hk_73
      refine Wp.seqR fun K69 hK69 => ?_
      simp only [go_sem, simprocAttr, hxc_71]
      first | apply hK69 | refine ⟨sd, hK69 _ _ ?_⟩
      refine cM hm (fun hc70 hm => ?_) (fun hc70 hm => ?_)
      ·refine Wp.skip ?_
       refine hW47 _ _ _ _ ?_ (hcut47 (decide (c_71 = 32)) hm)
       simp only [go_sem, simprocAttr, hxc_71]
       try exact se3
      ·refine Wp.seqR fun K71 hK71 => ?_
       simp only [go_sem, simprocAttr, hxc_71]
       first | apply hK71 | refine ⟨sd, hK71 _ _ ?_⟩
       refine cM hm (fun hc72 hm => ?_) (fun hc72 hm => ?_)
       ·refine Wp.skip ?_
        refine hW47 _ _ _ _ ?_ (hcut47 (decide (c_71 = 45)) hm)
        simp only [go_sem, simprocAttr, hxc_71]
        try exact se3
       ·refine Wp.seqR fun K73 hK73 => ?_
        simp only [go_sem, simprocAttr, hxc_71]
        first | apply hK73 | refine ⟨sd, hK73 _ _ ?_⟩
        refine cM hm (fun hc74 hm => ?_) (fun hc74 hm => ?_)
        ·refine Wp.skip ?_
         refine hW47 _ _ _ _ ?_ (hcut47 (decide (c_71 = 48)) hm)
         simp only [go_sem, simprocAttr, hxc_71]
         try exact se3
        ·refine Wp.seqR fun K75 hK75 => ?_
         simp only [go_sem, simprocAttr, hxc_71]
         first | apply hK75 | refine ⟨sd, hK75 _ _ ?_⟩
         refine cM hm (fun hc76 hm => ?_) (fun hc76 hm => ?_)
         ·refine Wp.skip ?_
          refine hW47 _ _ _ _ ?_ (hcut47 (decide (c_71 = 61)) hm)
          simp only [go_sem, simprocAttr, hxc_71]
          try exact se3
         ·refine Wp.region fun K77 hK77 => ?_
          simp only [go_sem, simprocAttr, hxc_71]
          first | apply hK77 | refine ⟨sd, hK77 _ _ ?_⟩
          refine hW47 _ _ _ _ ?_ (hcut47 (decide (c_71 = 9)) hm)
          simp only [go_sem, simprocAttr, hxc_71]
          try exact se3
    clear hK13 hk_5
    refine qS ?_
    refine cM hm (fun hc79 hm => ?_) (fun hc79 hm => ?_)
    ·cases hm
    ·refine Wp.skip ?_
     refine hW13 _ _ _ _ ?_ (hcut13 () hm)
     exact fse3
   clear hK10 hk_3
   refine qS ?_
   refine cM hm (fun hc81 hm => ?_) (fun hc81 hm => ?_)
   ·cases hm
   ·refine Wp.skip ?_
    refine hW10 _ _ _ _ ?_ (hcut10 () hm)
    exact fse3
theorem ok_Law_LinesAreBounded (a_1 : Str) (many_2 : Int) (z : Bool) (hm : Law_LinesAreBounded a_1 many_2 = some z) : Does Tryd.prog 4 [.p (.s a_1), .p (.i .i64 many_2)] [] (fun r X => r = .p (.b z) ∧ X = []) := by
 unfold Law_LinesAreBounded at hm
 refine Does.of_wp 0 46 [.tmp 4] Tryd.func4 rfl (by decide) rfl rfl (Nat.le_of_ble_eq_true rfl) fun B => ?_
 refine qS ?_
 refine Wp.seqW fun K2 hK2 hW2 => ?_
 obtain ⟨r_3, hr_3, hm⟩ := call_elim hm
 refine Wp.seqR fun K3 hK3 => ?_
 simp only [go_sem, simprocAttr]
 try refine ⟨sd, ?_⟩
 refine Rg.callX (av := ?av4) (g := true) (fun hg => ok_Law_landed  _ hr_3) si si si sg si ?cont4
 intro hv4
 simp only [go_sem, simprocAttr]
 first | apply hK3 | refine ⟨sd, hK3 _ _ ?_⟩
 refine cM hm (fun hc5 hm => ?_) (fun hc5 hm => ?_)
 ·refine qS ?_
  refine Wp.ret ?_
  refine retQ_ret ?_
  cases hm
  exact fse3
 ·refine Wp.skip ?_
  refine hK2 _ _ ?_
  obtain ⟨r_4, hr_4, hm⟩ := call_elim hm
  refine Wp.seqR fun K7 hK7 => ?_
  simp only [go_sem, simprocAttr]
  try refine ⟨sd, ?_⟩
  refine Rg.callX (av := ?av8) (g := true) (fun hg => ok_strings_Repeat ([10] : Str) (min (max many_2 0) 1100) _ hr_4) si si si sg si ?cont8
  intro hv8
  simp only [go_sem, simprocAttr]
  first | apply hK7 | refine ⟨sd, hK7 _ _ ?_⟩
  obtain ⟨r_5, hr_5, hm⟩ := call_elim hm
  refine Wp.seqR fun K9 hK9 => ?_
  simp only [go_sem, simprocAttr]
  try refine ⟨sd, ?_⟩
  refine Rg.callF (av := ?av10) (ok_delta_Lines a_1 r_4 _ hr_5) si si sg ?cont10
  intro hv10
  simp only [go_sem, simprocAttr]
  first | apply hK9 | refine ⟨sd, hK9 _ _ ?_⟩
  obtain ⟨r_6, hr_6, hm⟩ := call_elim hm
  refine Wp.seqR fun K11 hK11 => ?_
  simp only [go_sem, simprocAttr]
  try refine ⟨sd, ?_⟩
  refine Rg.callX (av := ?av12) (g := true) (fun hg => ok_delta_Merge r_4 a_1 [] _ hr_6) si si si sg si ?cont12
  intro hv12
  simp only [go_sem, simprocAttr]
  first | apply hK11 | refine ⟨sd, hK11 _ _ ?_⟩
  refine Wp.seqW fun K13 hK13 hW13 => ?_
  obtain ⟨r_7, hr_7, hm⟩ := call_elim hm
  refine Wp.seqR fun K14 hK14 => ?_
  simp only [go_sem, simprocAttr]
  try refine ⟨sd, ?_⟩
  refine Rg.callX (av := ?av15) (g := true) (fun hg => ok_R_LinesError a_1 r_4 _ hr_7) si si si sg si ?cont15
  intro hv15
  simp only [go_sem, simprocAttr]
  first | apply hK14 | refine ⟨sd, hK14 _ _ ?_⟩
  refine qS ?_
  refine cM hm (fun hc17 hm => ?_) (fun hc17 hm => ?_)
  ·refine qS ?_
   refine Wp.ret ?_
   refine retQ_ret ?_
   cases hm
   exact fse3
  ·refine Wp.skip ?_
   refine hK13 _ _ ?_
   refine qS ?_
   refine Wp.ret ?_
   refine retQ_ret ?_
   cases hm
   exact fse3
end Go.Proofs.YtkekfenkeeiigaaDoor
