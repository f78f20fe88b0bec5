/- That the code does what the models say (part 3). -/
import Derived.Test.YtbbkahmljdogiaaDoorKcWk0
import Derived.Test.YtbbkahmljdogiaaDoorKcWk1
import Derived.Test.YtbbkahmljdogiaaDoorKcWk2
set_option linter.unusedSimpArgs false
set_option linter.unusedVariables false
open Go.Proofs Go.Shelf
namespace Go.Proofs.YtbbkahmljdogiaaDoor
open Go.Vc Go.Md
set_option maxRecDepth 100000
set_option maxHeartbeats 4000000
theorem ok_math_bits_Mul64 (x_1 : Int) (y_2 : Int) (z : Int × Int) (hm : math_bits_Mul64 x_1 y_2 = some z) : Does Tryd.prog 74 [.p (.i .u64 x_1), .p (.i .u64 y_2)] [] (fun r X => r = .tup [.p (.i .u64 z.1), .p (.i .u64 z.2)] ∧ X = []) := by
 unfold math_bits_Mul64 at hm
 refine Does.of_wp 0 51 [.tmp 4, .tmp 5] Tryd.func74 rfl (by decide) rfl rfl (Nat.le_of_ble_eq_true rfl) fun B => ?_
 refine qS ?_
 refine qS ?_
 refine qS ?_
 refine qS ?_
 refine qS ?_
 refine qS ?_
 refine qS ?_
 refine qS ?_
 refine qS ?_
 refine qS ?_
 refine qS ?_
 refine qS ?_
 refine Wp.ret ?_
 refine retQ_ret ?_
 cases hm
 exact fse2
theorem ok_math_bits_Mul (x_1 : Int) (y_2 : Int) (z : Int × Int) (hm : math_bits_Mul x_1 y_2 = some z) : Does Tryd.prog 57 [.p (.i .u64 x_1), .p (.i .u64 y_2)] [] (fun r X => r = .tup [.p (.i .u64 z.1), .p (.i .u64 z.2)] ∧ X = []) := by
 unfold math_bits_Mul at hm
 refine Does.of_wp 0 30 [.tmp 4, .tmp 5] Tryd.func57 rfl (by decide) rfl rfl (Nat.le_of_ble_eq_true rfl) fun B => ?_
 refine qS ?_
 refine Wp.seqW fun K2 hK2 hW2 => ?_
 refine Wp.cond rfl ⟨⟩ (fun hc3 => ?_) (fun hc3 => ?_)
 ·cases hc3
 refine Wp.skip ?_
 refine hK2 _ _ ?_
 obtain ⟨r_3, hr_3, hm⟩ := call_elim hm
 refine Wp.seqR fun K4 hK4 => ?_
 simp only [go_sem, simprocAttr]
 try refine ⟨sd, ?_⟩
 refine Rg.callX (av := ?av5) (g := true) (fun hg => ok_math_bits_Mul64 x_1 y_2 _ hr_3) si si si sg si ?cont5
 intro hv5
 simp only [go_sem, simprocAttr]
 first | apply hK4 | refine ⟨sd, hK4 _ _ ?_⟩
 refine qS ?_
 refine Wp.ret ?_
 refine retQ_ret ?_
 cases hm
 exact fse2
theorem ok_internal_stringslite_HasPrefix (s_1 : Str) (prefix_2 : Str) (z : Bool) (hm : internal_stringslite_HasPrefix s_1 prefix_2 = some z) : Does Tryd.prog 75 [.p (.s s_1), .p (.s prefix_2)] [] (fun r X => r = .p (.b z) ∧ X = []) := by
 unfold internal_stringslite_HasPrefix at hm
 refine Does.of_wp 0 18 [.tmp 4] Tryd.func75 rfl (by decide) rfl rfl (Nat.le_of_ble_eq_true rfl) fun B => ?_
 refine qS ?_
 obtain ⟨c_3, hm⟩ := chk_elim hm
 refine Wp.seqR fun K2 hK2 => ?_
 simp only [go_sem, simprocAttr]
 first | apply hK2 | refine ⟨by first | exact sd | ((repeat' apply And.intro) <;> first | assumption | omega | (simp only [List.length_append, List.length_map, List.length_cons, List.length_nil, List.length_set, List.length_replicate] at c_3 ⊢; omega)), hK2 _ _ ?_⟩
 refine Wp.ret ?_
 refine retQ_ret ?_
 cases hm
 exact fse2
theorem ok_strings_HasPrefix (s_1 : Str) (prefix_2 : Str) (z : Bool) (hm : strings_HasPrefix s_1 prefix_2 = some z) : Does Tryd.prog 58 [.p (.s s_1), .p (.s prefix_2)] [] (fun r X => r = .p (.b z) ∧ X = []) := by
 unfold strings_HasPrefix at hm
 refine Does.of_wp 0 8 [.tmp 4] Tryd.func58 rfl (by decide) rfl rfl (Nat.le_of_ble_eq_true rfl) fun B => ?_
 refine qS ?_
 obtain ⟨r_3, hr_3, hm⟩ := call_elim hm
 refine Wp.seqR fun K2 hK2 => ?_
 simp only [go_sem, simprocAttr]
 try refine ⟨sd, ?_⟩
 refine Rg.callX (av := ?av3) (g := true) (fun hg => ok_internal_stringslite_HasPrefix s_1 prefix_2 _ hr_3) si si si sg si ?cont3
 intro hv3
 simp only [go_sem, simprocAttr]
 first | apply hK2 | refine ⟨sd, hK2 _ _ ?_⟩
 refine Wp.ret ?_
 refine retQ_ret ?_
 cases hm
 exact fse2
theorem ok_strings_Builder_Grow (n : Int) (o0 : Str) (z : Unit) (hm : strings_Builder_Grow n o0 = some z) : Does Tryd.prog 59 [.ptr 0 0, .p (.i .i64 n)] [.cells 90 [.np 0, .buf 1], .sb 5 o0] (fun r X => r = .tup [] ∧ X = [.cells 90 [.np 0, .buf 1], .sb 5 o0]) := by
 obtain ⟨h, -⟩ := chk_elim hm
 obtain ⟨k, rfl⟩ := Int.eq_ofNat_of_zero_le h.1
 exact Does.grow growLay growExt k o0 (by omega)
theorem ok_strings_Builder_copyCheck_i1 (o1_1 : Str) (z : Unit) (hm : strings_Builder_copyCheck_i1 o1_1 = some z) : Does Tryd.prog 76 [.ptr 0 0] [.cells 90 [.nil, .buf 1], .sb 5 o1_1] (fun r X => r = .tup [] ∧ X = [.cells 90 [.ptr 0 0, .buf 1], .sb 5 o1_1]) := by
 unfold strings_Builder_copyCheck_i1 at hm
 refine Does.of_wp 2 20 [] Tryd.func76 rfl (by decide) rfl rfl (Nat.le_of_ble_eq_true rfl) fun B => ?_
 refine qS ?_
 refine Wp.cond rfl ⟨⟩ (fun hc2 => ?_) (fun hc2 => ?_)
 rotate_left
 ·cases hc2
 refine Wp.region fun K3 hK3 => ?_
 simp only [go_sem, simprocAttr]
 try refine ⟨sd, ?_⟩
 refine Rg.callI (v := ?av4) (g := true) nvi_89 si si sg ?cont4
 simp only [go_sem, simprocAttr]
 first | apply hK3 | refine ⟨sd, hK3 _ _ ?_⟩
 refine retQ_normal ?_
 cases hm
 exact fse2
theorem ok_strings_Builder_copyCheck_i2 (o1_1 : Str) (z : Unit) (hm : strings_Builder_copyCheck_i2 o1_1 = some z) : Does Tryd.prog 76 [.ptr 0 0] [.cells 90 [.ptr 0 0, .buf 1], .sb 5 o1_1] (fun r X => r = .tup [] ∧ X = [.cells 90 [.ptr 0 0, .buf 1], .sb 5 o1_1]) := by
 unfold strings_Builder_copyCheck_i2 at hm
 refine Does.of_wp 2 20 [] Tryd.func76 rfl (by decide) rfl rfl (Nat.le_of_ble_eq_true rfl) fun B => ?_
 refine qS ?_
 refine Wp.cond rfl ⟨⟩ (fun hc2 => ?_) (fun hc2 => ?_)
 ·cases hc2
 refine qS ?_
 refine Wp.cond rfl ⟨⟩ (fun hc4 => ?_) (fun hc4 => ?_)
 ·cases hc4
 refine Wp.skip ?_
 refine retQ_normal ?_
 cases hm
 exact fse2
theorem ok_strings_Builder_copyCheck_np (o0 : Str) (z : Unit) (hm : strings_Builder_copyCheck_np o0 = some z) : Does Tryd.prog 76 [.ptr 0 0] [.cells 90 [.np 0, .buf 1], .sb 5 o0] (fun r X => r = .tup [] ∧ X = [.cells 90 [.np 0, .buf 1], .sb 5 o0]) :=
 Does.np (ok_strings_Builder_copyCheck_i1 o0 () rfl) (ok_strings_Builder_copyCheck_i2 o0 () rfl)
theorem ok_strings_Builder_WriteString_i1 (s_1 : Str) (o1_2 : Str) (z : Int × Str) (hm : strings_Builder_WriteString_i1 s_1 o1_2 = some z) : Does Tryd.prog 60 [.ptr 0 0, .p (.s s_1)] [.cells 90 [.np 0, .buf 1], .sb 5 o1_2] (fun r X => r = .tup [.p (.i .i64 z.1), .raw .nilIface] ∧ X = [.cells 90 [.np 0, .buf 1], .sb 5 z.2]) := by
 unfold strings_Builder_WriteString_i1 at hm
 refine Does.of_wp 2 19 [.tmp 4, .tmp 5] Tryd.func60 rfl (by decide) rfl rfl (Nat.le_of_ble_eq_true rfl) fun B => ?_
 refine qS ?_
 obtain ⟨r_5, hr_5, hm⟩ := call_elim hm
 refine Wp.seqR fun K2 hK2 => ?_
 simp only [go_sem, simprocAttr]
 try refine ⟨sd, ?_⟩
 refine Rg.callO (av := ?av3) [0, 1] (ok_strings_Builder_copyCheck_np o1_2 _ hr_5) si si si sg sg ?cont3
 rintro _ _ ⟨rfl, rfl⟩ hv3
 simp only [go_sem, simprocAttr]
 first | apply hK2 | refine ⟨sd, hK2 _ _ ?_⟩
 obtain ⟨c_6, hm⟩ := chk_elim hm
 refine Wp.seqR fun K4 hK4 => ?_
 simp only [go_sem, simprocAttr]
 first | apply hK4 | refine ⟨by first | exact sd | ((repeat' apply And.intro) <;> first | assumption | omega | (simp only [List.length_append, List.length_map, List.length_cons, List.length_nil, List.length_set, List.length_replicate] at c_6 ⊢; omega)), hK4 _ _ ?_⟩
 refine qS ?_
 refine Wp.ret ?_
 refine retQ_ret ?_
 cases hm
 exact fse2
theorem ok_strings_Builder_Len_i1 (o1_1 : Str) (z : Int) (hm : strings_Builder_Len_i1 o1_1 = some z) : Does Tryd.prog 61 [.ptr 0 0] [.cells 90 [.np 0, .buf 1], .sb 5 o1_1] (fun r X => r = .p (.i .i64 z) ∧ X = [.cells 90 [.np 0, .buf 1], .sb 5 o1_1]) := by
 unfold strings_Builder_Len_i1 at hm
 refine Does.of_wp 2 8 [.tmp 2] Tryd.func61 rfl (by decide) rfl rfl (Nat.le_of_ble_eq_true rfl) fun B => ?_
 refine qS ?_
 refine qS ?_
 refine Wp.ret ?_
 refine retQ_ret ?_
 cases hm
 exact fse2
theorem ok_strings_Builder_String_i1 (o1_1 : Str) (z : Str) (hm : strings_Builder_String_i1 o1_1 = some z) : Does Tryd.prog 62 [.ptr 0 0] [.cells 90 [.np 0, .buf 1], .sb 5 o1_1] (fun r X => r = .p (.s z) ∧ X = [.cells 90 [.np 0, .buf 1], .sb 5 o1_1]) := by
 unfold strings_Builder_String_i1 at hm
 refine Does.of_wp 2 14 [.tmp 2] Tryd.func62 rfl (by decide) rfl rfl (Nat.le_of_ble_eq_true rfl) fun B => ?_
 refine qS ?_
 refine Wp.seqD (plan := pl [(0, none), (1, none), (2, none), (3, none), (5, none), (6, none), (7, none), (8, none), (9, none), (4, some [5, 6, 7, 8, 9]), (10, some []), (11, none)]) (by kernel_rfl) rfl (by kernel_rfl) fun K2 hK2 => ?_
 simp only [go_sem, simprocAttr]
 first | apply hK2 | refine ⟨sd, hK2 _ _ ?_⟩
 refine Wp.ret ?_
 refine retQ_ret ?_
 cases hm
 exact fse2
theorem ok_strings_Repeat (s_1 : Str) (count_2 : Int) (z : Str) (hm : strings_Repeat s_1 count_2 = some z) : Does Tryd.prog 45 [.p (.s s_1), .p (.i .i64 count_2)] [] (fun r X => r = .p (.s z) ∧ X = []) := by
 unfold strings_Repeat at hm
 refine Does.of_wp 0 125 [.tmp 4] Tryd.func45 rfl (by decide) rfl rfl (Nat.le_of_ble_eq_true rfl) fun B => ?_
 refine qS ?_
 refine Wp.seqW fun K2 hK2 hW2 => ?_
 refine qS ?_
 refine Wp.block ?_
 refine qS ?_
 refine cM hm (fun hc5 hm => ?_) (fun hc5 hm => ?_)
 ·refine qS ?_
  refine Wp.ret ?_
  refine retQ_ret ?_
  cases hm
  exact fse2
 ·refine qS ?_
  refine cM hm (fun hc8 hm => ?_) (fun hc8 hm => ?_)
  ·refine qS ?_
   refine Wp.ret ?_
   refine retQ_ret ?_
   cases hm
   exact fse2
  ·refine Wp.skip ?_
   refine hK2 _ _ ?_
   refine Wp.seqW fun K10 hK10 hW10 => ?_
   obtain ⟨k_3, hk_3, hm⟩ := jp_elim hm
   have hcut10 : ∀ s, k_3 s = some z → K10 [(0, .p (.s s_1)), (1, .p (.i .i64 count_2))] [] := by
    intro s hs
    have hm := hk_3 _ hs
    clear hs
    try dsimp only at hm
    try dsimp only
    refine hK10 _ _ ?_
    obtain ⟨r_4, hr_4, hm⟩ := call_elim hm
    refine Wp.seqR fun K11 hK11 => ?_
    simp only [go_sem, simprocAttr]
    try refine ⟨sd, ?_⟩
    refine Rg.callX (av := ?av12) (g := true) (fun hg => ok_math_bits_Mul (IntKind.u64.wrap (s_1.length : Int)) (IntKind.u64.wrap count_2) _ hr_4) si si si sg si ?cont12
    intro hv12
    simp only [go_sem, simprocAttr]
    first | apply hK11 | refine ⟨sd, hK11 _ _ ?_⟩
    refine Wp.seqW fun K13 hK13 hW13 => ?_
    obtain ⟨k_5, hk_5, hm⟩ := jp_elim hm
    have hcut13 : ∀ s, k_5 s = some z → K13 [(0, .p (.s s_1)), (6, .p (.i .u64 r_4.2))] [] := by
     intro s hs
     have hm := hk_5 _ hs
     clear hs
     try dsimp only at hm
     try dsimp only
     refine hK13 _ _ ?_
     refine qS ?_
     refine Wp.seqW fun K15 hK15 hW15 => ?_
     refine qS ?_
     refine cM hm (fun hc17 hm => ?_) (fun hc17 hm => ?_)
     ·refine qS ?_
      refine Wp.ret ?_
      refine retQ_ret ?_
      cases hm
      exact fse2
     ·refine Wp.skip ?_
      refine hK15 _ _ ?_
      refine Wp.seqW fun K19 hK19 hW19 => ?_
      obtain ⟨k_19, hk_19, hm⟩ := jp_elim hm
      have hcut19 : ∀ s, k_19 s = some z → K19 [(0, .p (.s s_1)), (7, .p (.i .i64 (IntKind.i64.wrap r_4.2)))] [] := by
       intro s hs
       have hm := hk_19 _ hs
       clear hs
       try dsimp only at hm
       try dsimp only
       refine hK19 _ _ ?_
       refine qS ?_
       refine Wp.seqW fun K21 hK21 hW21 => ?_
       obtain ⟨k_22, hk_22, hm⟩ := jp_elim hm
       have hcut21 : ∀ s, k_22 s = some z → K21 [(0, .p (.s s_1)), (7, .p (.i .i64 (IntKind.i64.wrap r_4.2))), (8, .p (.i .i64 s))] [] := by
        intro chunkMax_21 hs
        have hm := hk_22 _ hs
        clear hs
        try dsimp only at hm
        try dsimp only
        refine hK21 _ _ ?_
        refine qS ?_
        refine Wp.adoptB 0 5 rfl ?_
        simp only [go_sem, simprocAttr]
        obtain ⟨r_23, hr_23, hm⟩ := call_elim hm
        refine Wp.seqR fun K23 hK23 => ?_
        simp only [go_sem, simprocAttr]
        try refine ⟨sd, ?_⟩
        refine Rg.callO (av := ?av24) [0, 1] (ok_strings_Builder_Grow (IntKind.i64.wrap r_4.2) [] _ hr_23) si si si sg sg ?cont24
        rintro _ _ ⟨rfl, rfl⟩ hv24
        simp only [go_sem, simprocAttr]
        first | apply hK23 | refine ⟨sd, hK23 _ _ ?_⟩
        obtain ⟨r_24, hr_24, hm⟩ := call_elim hm
        refine Wp.seqR fun K25 hK25 => ?_
        simp only [go_sem, simprocAttr]
        try refine ⟨sd, ?_⟩
        refine Rg.callO (av := ?av26) [0, 1] (ok_strings_Builder_WriteString_i1 s_1 [] _ hr_24) si si si sg sg ?cont26
        rintro _ _ ⟨rfl, rfl⟩ hv26
        simp only [go_sem, simprocAttr]
        first | apply hK25 | refine ⟨sd, hK25 _ _ ?_⟩
        refine Wp.seqW fun K27 hK27 hW27 => ?_
        obtain ⟨k_47, hk_47, hm⟩ := jp_elim hm
        have hcut27 : ∀ s, k_47 s = some z → K27 [(9, .ptr 0 0)] [.cells 90 [.np 0, .buf 1], .sb 5 s] := by
         intro o1_46 hs
         have hm := hk_47 _ hs
         clear hs
         try dsimp only at hm
         try dsimp only
         refine hK27 _ _ ?_
         obtain ⟨r_48, hr_48, hm⟩ := call_elim hm
         refine Wp.seqR fun K28 hK28 => ?_
         simp only [go_sem, simprocAttr]
         try refine ⟨sd, ?_⟩
         refine Rg.callO (av := ?av29) [0, 1] (ok_strings_Builder_String_i1 o1_46 _ hr_48) si si si sg sg ?cont29
         rintro _ _ ⟨rfl, rfl⟩ hv29
         simp only [go_sem, simprocAttr]
         first | apply hK28 | refine ⟨sd, hK28 _ _ ?_⟩
         refine Wp.ret ?_
         refine retQ_ret ?_
         cases hm
         exact fse2
        clear hK27 hk_47
        refine Wp.block ?_
        obtain ⟨k_62, hk_62, hm⟩ := loopN_cont hm
        refine Wp.loopN (fun s => [(7, .p (.i .i64 (IntKind.i64.wrap r_4.2))), (8, .p (.i .i64 chunkMax_21)), (9, .ptr 0 0)]) (fun s => [.cells 90 [.np 0, .buf 1], .sb 5 s]) ?_ hm ?_
        ·
         exact fse2
        clear hm
        intro o1_55 nx_63 hm
        try dsimp only at hm
        try dsimp only
        refine Wp.seqW fun K30 hK30 hW30 => ?_
        obtain ⟨r_64, hr_64, hm⟩ := call_elim hm
        refine Wp.seqR fun K31 hK31 => ?_
        simp only [go_sem, simprocAttr]
        try refine ⟨sd, ?_⟩
        refine Rg.callO (av := ?av32) [0, 1] (ok_strings_Builder_Len_i1 o1_55 _ hr_64) si si si sg sg ?cont32
        rintro _ _ ⟨rfl, rfl⟩ hv32
        simp only [go_sem, simprocAttr]
        first | apply hK31 | refine ⟨sd, hK31 _ _ ?_⟩
        refine cM hm (fun hc33 hm => ?_) (fun hc33 hm => ?_)
        ·refine Wp.skip ?_
         refine hK30 _ _ ?_
         refine Wp.block ?_
         obtain ⟨r_65, hr_65, hm⟩ := call_elim hm
         obtain ⟨r_66, hr_66, hm⟩ := call_elim hm
         refine Wp.seqR fun K34 hK34 => ?_
         simp only [go_sem, simprocAttr]
         try refine ⟨sd, ?_⟩
         refine Rg.callO (av := ?av35) [0, 1] (ok_strings_Builder_Len_i1 o1_55 _ hr_65) si si si sg sg ?cont35
         rintro _ _ ⟨rfl, rfl⟩ hv35
         simp only [go_sem, simprocAttr]
         try refine ⟨sd, ?_⟩
         refine Rg.callO (av := ?av36) [0, 1] (ok_strings_Builder_Len_i1 o1_55 _ hr_66) si si si sg sg ?cont36
         rintro _ _ ⟨rfl, rfl⟩ hv36
         simp only [go_sem, simprocAttr]
         first | apply hK34 | refine ⟨sd, hK34 _ _ ?_⟩
         obtain ⟨r_67, hr_67, hm⟩ := call_elim hm
         obtain ⟨c_68, hm⟩ := chk_elim hm
         obtain ⟨r_69, hr_69, hm⟩ := call_elim hm
         refine Wp.region fun K37 hK37 => ?_
         simp only [go_sem, simprocAttr]
         try refine ⟨by first | exact sd | ((repeat' apply And.intro) <;> first | assumption | omega | (simp only [List.length_append, List.length_map, List.length_cons, List.length_nil, List.length_set, List.length_replicate] at c_68 ⊢; omega)), ?_⟩
         refine Rg.callO (av := ?av38) [0, 1] (ok_strings_Builder_String_i1 o1_55 _ hr_67) si si si sg sg ?cont38
         rintro _ _ ⟨rfl, rfl⟩ hv38
         simp only [go_sem, simprocAttr]
         try refine ⟨by first | exact sd | ((repeat' apply And.intro) <;> first | assumption | omega | (simp only [List.length_append, List.length_map, List.length_cons, List.length_nil, List.length_set, List.length_replicate] at c_68 ⊢; omega)), ?_⟩
         refine Rg.callO (av := ?av39) [0, 1] (ok_strings_Builder_WriteString_i1 (List.take ((min (min (IntKind.i64.wrap ((IntKind.i64.wrap r_4.2) - r_65)) r_66) chunkMax_21).toNat) r_67) o1_55 _ hr_69) si si si sg sg ?cont39
         rintro _ _ ⟨rfl, rfl⟩ hv39
         simp only [go_sem, simprocAttr]
         first | apply hK37 | refine ⟨by first | exact sd | ((repeat' apply And.intro) <;> first | assumption | omega | (simp only [List.length_append, List.length_map, List.length_cons, List.length_nil, List.length_set, List.length_replicate] at c_68 ⊢; omega)), hK37 _ _ ?_⟩
         simp only [thenQ, blockQ, ↓reduceIte]
         refine ⟨r_69.2, hm, ?_⟩
         exact fse2
        ·refine Wp.exit ?_
         simp only [thenQ, blockQ, ↓reduceIte]
         have hm := hk_62 _ hm
         try dsimp only at hm
         refine hW27 _ _ _ _ ?_ (hcut27 o1_55 hm)
         exact fse2
       clear hK21 hk_22
       refine qS ?_
       refine cM hm (fun hc41 hm => ?_) (fun hc41 hm => ?_)
       ·obtain ⟨c_70, hm⟩ := chk_elim hm
        refine Wp.seqR fun K42 hK42 => ?_
        simp only [go_sem, simprocAttr]
        first | apply hK42 | refine ⟨by first | exact sd | ((repeat' apply And.intro) <;> first | assumption | omega | (simp only [List.length_append, List.length_map, List.length_cons, List.length_nil, List.length_set, List.length_replicate] at c_70 ⊢; omega)), hK42 _ _ ?_⟩
        refine qS ?_
        refine cM hm (fun hc44 hm => ?_) (fun hc44 hm => ?_)
        ·refine qR ?_
         refine hW21 _ _ _ _ ?_ (hcut21 (s_1.length : Int) hm)
         exact fse2
        ·refine Wp.skip ?_
         refine hW21 _ _ _ _ ?_ (hcut21 (IntKind.i64.wrap ((IntKind.i64.wrap (Int.tdiv 8192 (s_1.length : Int))) * (s_1.length : Int))) hm)
         exact fse2
       ·refine Wp.skip ?_
        refine hW21 _ _ _ _ ?_ (hcut21 (IntKind.i64.wrap r_4.2) hm)
        exact fse2
      clear hK19 hk_19
      obtain ⟨c_71, hbc_71, hxc_71, hm⟩ := idxS_elim hm
      replace hxc_71 : ((s_1.getD 0 0).toNat : Int) = c_71 := hxc_71
      refine Wp.seqR fun K46 hK46 => ?_
      simp only [go_sem, simprocAttr, hxc_71]
      first | apply hK46 | refine ⟨sd, hK46 _ _ ?_⟩
      refine Wp.block ?_
      refine Wp.seqW fun K47 hK47 hW47 => ?_
      obtain ⟨k_73, hk_73, hm⟩ := jp_elim hm
      have hcut47 : ∀ s, k_73 s = some z → K47 [(0, .p (.s s_1)), (7, .p (.i .i64 (IntKind.i64.wrap r_4.2))), (43, .p (.b s))] [] := by
       intro t43_72 hs
       have hm := hk_73 _ hs
       clear hs
       try dsimp only at hm
       try dsimp only
       refine hK47 _ _ ?_
       refine cM hm (fun hc48 hm => ?_) (fun hc48 hm => ?_)
       ·refine Wp.block ?_
        obtain ⟨r_74, hr_74, hm⟩ := callG_elim hm
        refine Wp.seqR fun K49 hK49 => ?_
        simp only [go_sem, simprocAttr, hxc_71]
        try refine ⟨sd, ?_⟩
        refine Rg.callX (av := ?av50) (g := decide ((IntKind.i64.wrap r_4.2) ≤ 128)) (fun hg => ok_strings_HasPrefix ((List.append [32, 32, 32, 32, 32, 32, 32, 32, 32, 32, 32, 32, 32, 32, 32, 32, 32, 32, 32, 32, 32, 32, 32, 32, 32, 32, 32, 32, 32, 32, 32, 32, 32, 32, 32, 32, 32, 32, 32, 32, 32, 32, 32, 32, 32, 32, 32, 32, 32, 32, 32, 32, 32, 32, 32, 32, 32, 32, 32, 32, 32, 32, 32, 32] [32, 32, 32, 32, 32, 32, 32, 32, 32, 32, 32, 32, 32, 32, 32, 32, 32, 32, 32, 32, 32, 32, 32, 32, 32, 32, 32, 32, 32, 32, 32, 32, 32, 32, 32, 32, 32, 32, 32, 32, 32, 32, 32, 32, 32, 32, 32, 32, 32, 32, 32, 32, 32, 32, 32, 32, 32, 32, 32, 32, 32, 32, 32, 32]) : Str) s_1 _ (hr_74 hg)) (by simp only [go_sem, simprocAttr, hxc_71]; exact Is.mk) (by simp only [go_sem, simprocAttr, hxc_71]; exact Is.mk) (by simp only [go_sem, simprocAttr, hxc_71]; exact Is.mk) (by simp only [go_sem, simprocAttr, hxc_71]) (by simp only [go_sem, simprocAttr, hxc_71]; exact Is.mk) ?cont50
        intro hv50
        simp only [go_sem, simprocAttr, hxc_71]
        first | apply hK49 | refine ⟨sd, hK49 _ _ ?_⟩
        refine cM hm (fun hc51 hm => ?_) (fun hc51 hm => ?_)
        ·obtain ⟨c_75, hm⟩ := chk_elim hm
         refine Wp.seqR fun K52 hK52 => ?_
         simp only [go_sem, simprocAttr, hxc_71]
         first | apply hK52 | refine ⟨by first | exact sd | ((repeat' apply And.intro) <;> first | assumption | omega | (simp only [List.length_append, List.length_map, List.length_cons, List.length_nil, List.length_set, List.length_replicate] at c_75 ⊢; omega)), hK52 _ _ ?_⟩
         refine Wp.ret ?_
         refine retQ_ret ?_
         cases hm
         simp only [go_sem, simprocAttr, hxc_71]
         try exact se2
        ·obtain ⟨r_76, hr_76, hm⟩ := callG_elim hm
         refine Wp.seqR fun K53 hK53 => ?_
         simp only [go_sem, simprocAttr, hxc_71]
         try refine ⟨sd, ?_⟩
         refine Rg.callX (av := ?av54) (g := decide ((IntKind.i64.wrap r_4.2) ≤ 128)) (fun hg => ok_strings_HasPrefix ((List.append [45, 45, 45, 45, 45, 45, 45, 45, 45, 45, 45, 45, 45, 45, 45, 45, 45, 45, 45, 45, 45, 45, 45, 45, 45, 45, 45, 45, 45, 45, 45, 45, 45, 45, 45, 45, 45, 45, 45, 45, 45, 45, 45, 45, 45, 45, 45, 45, 45, 45, 45, 45, 45, 45, 45, 45, 45, 45, 45, 45, 45, 45, 45, 45] [45, 45, 45, 45, 45, 45, 45, 45, 45, 45, 45, 45, 45, 45, 45, 45, 45, 45, 45, 45, 45, 45, 45, 45, 45, 45, 45, 45, 45, 45, 45, 45, 45, 45, 45, 45, 45, 45, 45, 45, 45, 45, 45, 45, 45, 45, 45, 45, 45, 45, 45, 45, 45, 45, 45, 45, 45, 45, 45, 45, 45, 45, 45, 45]) : Str) s_1 _ (hr_76 hg)) (by simp only [go_sem, simprocAttr, hxc_71]; exact Is.mk) (by simp only [go_sem, simprocAttr, hxc_71]; exact Is.mk) (by simp only [go_sem, simprocAttr, hxc_71]; exact Is.mk) (by simp only [go_sem, simprocAttr, hxc_71]) (by simp only [go_sem, simprocAttr, hxc_71]; exact Is.mk) ?cont54
         intro hv54
         simp only [go_sem, simprocAttr, hxc_71]
         first | apply hK53 | refine ⟨sd, hK53 _ _ ?_⟩
         refine cM hm (fun hc55 hm => ?_) (fun hc55 hm => ?_)
         ·obtain ⟨c_77, hm⟩ := chk_elim hm
          refine Wp.seqR fun K56 hK56 => ?_
          simp only [go_sem, simprocAttr, hxc_71]
          first | apply hK56 | refine ⟨by first | exact sd | ((repeat' apply And.intro) <;> first | assumption | omega | (simp only [List.length_append, List.length_map, List.length_cons, List.length_nil, List.length_set, List.length_replicate] at c_77 ⊢; omega)), hK56 _ _ ?_⟩
          refine Wp.ret ?_
          refine retQ_ret ?_
          cases hm
          simp only [go_sem, simprocAttr, hxc_71]
          try exact se2
         ·obtain ⟨r_78, hr_78, hm⟩ := callG_elim hm
          refine Wp.seqR fun K57 hK57 => ?_
          simp only [go_sem, simprocAttr, hxc_71]
          try refine ⟨sd, ?_⟩
          refine Rg.callX (av := ?av58) (g := decide ((IntKind.i64.wrap r_4.2) ≤ 64)) (fun hg => ok_strings_HasPrefix ([48, 48, 48, 48, 48, 48, 48, 48, 48, 48, 48, 48, 48, 48, 48, 48, 48, 48, 48, 48, 48, 48, 48, 48, 48, 48, 48, 48, 48, 48, 48, 48, 48, 48, 48, 48, 48, 48, 48, 48, 48, 48, 48, 48, 48, 48, 48, 48, 48, 48, 48, 48, 48, 48, 48, 48, 48, 48, 48, 48, 48, 48, 48, 48] : Str) s_1 _ (hr_78 hg)) (by simp only [go_sem, simprocAttr, hxc_71]; exact Is.mk) (by simp only [go_sem, simprocAttr, hxc_71]; exact Is.mk) (by simp only [go_sem, simprocAttr, hxc_71]; exact Is.mk) (by simp only [go_sem, simprocAttr, hxc_71]) (by simp only [go_sem, simprocAttr, hxc_71]; exact Is.mk) ?cont58
          intro hv58
          simp only [go_sem, simprocAttr, hxc_71]
          first | apply hK57 | refine ⟨sd, hK57 _ _ ?_⟩
          refine cM hm (fun hc59 hm => ?_) (fun hc59 hm => ?_)
          ·obtain ⟨c_79, hm⟩ := chk_elim hm
           refine Wp.seqR fun K60 hK60 => ?_
           simp only [go_sem, simprocAttr, hxc_71]
           first | apply hK60 | refine ⟨by first | exact sd | ((repeat' apply And.intro) <;> first | assumption | omega | (simp only [List.length_append, List.length_map, List.length_cons, List.length_nil, List.length_set, List.length_replicate] at c_79 ⊢; omega)), hK60 _ _ ?_⟩
           refine Wp.ret ?_
           refine retQ_ret ?_
           cases hm
           simp only [go_sem, simprocAttr, hxc_71]
           try exact se2
          ·obtain ⟨r_80, hr_80, hm⟩ := callG_elim hm
           refine Wp.seqR fun K61 hK61 => ?_
           simp only [go_sem, simprocAttr, hxc_71]
           try refine ⟨sd, ?_⟩
           refine Rg.callX (av := ?av62) (g := decide ((IntKind.i64.wrap r_4.2) ≤ 128)) (fun hg => ok_strings_HasPrefix ((List.append [61, 61, 61, 61, 61, 61, 61, 61, 61, 61, 61, 61, 61, 61, 61, 61, 61, 61, 61, 61, 61, 61, 61, 61, 61, 61, 61, 61, 61, 61, 61, 61, 61, 61, 61, 61, 61, 61, 61, 61, 61, 61, 61, 61, 61, 61, 61, 61, 61, 61, 61, 61, 61, 61, 61, 61, 61, 61, 61, 61, 61, 61, 61, 61] [61, 61, 61, 61, 61, 61, 61, 61, 61, 61, 61, 61, 61, 61, 61, 61, 61, 61, 61, 61, 61, 61, 61, 61, 61, 61, 61, 61, 61, 61, 61, 61, 61, 61, 61, 61, 61, 61, 61, 61, 61, 61, 61, 61, 61, 61, 61, 61, 61, 61, 61, 61, 61, 61, 61, 61, 61, 61, 61, 61, 61, 61, 61, 61]) : Str) s_1 _ (hr_80 hg)) (by simp only [go_sem, simprocAttr, hxc_71]; exact Is.mk) (by simp only [go_sem, simprocAttr, hxc_71]; exact Is.mk) (by simp only [go_sem, simprocAttr, hxc_71]; exact Is.mk) (by simp only [go_sem, simprocAttr, hxc_71]) (by simp only [go_sem, simprocAttr, hxc_71]; exact Is.mk) ?cont62
           intro hv62
           simp only [go_sem, simprocAttr, hxc_71]
           first | apply hK61 | refine ⟨sd, hK61 _ _ ?_⟩
           refine cM hm (fun hc63 hm => ?_) (fun hc63 hm => ?_)
           ·obtain ⟨c_81, hm⟩ := chk_elim hm
            refine Wp.seqR fun K64 hK64 => ?_
            simp only [go_sem, simprocAttr, hxc_71]
            first | apply hK64 | refine ⟨by first | exact sd | ((repeat' apply And.intro) <;> first | assumption | omega | (simp only [List.length_append, List.length_map, List.length_cons, List.length_nil, List.length_set, List.length_replicate] at c_81 ⊢; omega)), hK64 _ _ ?_⟩
            refine Wp.ret ?_
            refine retQ_ret ?_
            cases hm
            simp only [go_sem, simprocAttr, hxc_71]
            try exact se2
           ·obtain ⟨r_82, hr_82, hm⟩ := callG_elim hm
            refine Wp.seqR fun K65 hK65 => ?_
            simp only [go_sem, simprocAttr, hxc_71]
            try refine ⟨sd, ?_⟩
            refine Rg.callX (av := ?av66) (g := decide ((IntKind.i64.wrap r_4.2) ≤ 64)) (fun hg => ok_strings_HasPrefix ([9, 9, 9, 9, 9, 9, 9, 9, 9, 9, 9, 9, 9, 9, 9, 9, 9, 9, 9, 9, 9, 9, 9, 9, 9, 9, 9, 9, 9, 9, 9, 9, 9, 9, 9, 9, 9, 9, 9, 9, 9, 9, 9, 9, 9, 9, 9, 9, 9, 9, 9, 9, 9, 9, 9, 9, 9, 9, 9, 9, 9, 9, 9, 9] : Str) s_1 _ (hr_82 hg)) (by simp only [go_sem, simprocAttr, hxc_71]; exact Is.mk) (by simp only [go_sem, simprocAttr, hxc_71]; exact Is.mk) (by simp only [go_sem, simprocAttr, hxc_71]; exact Is.mk) (by simp only [go_sem, simprocAttr, hxc_71]) (by simp only [go_sem, simprocAttr, hxc_71]; exact Is.mk) ?cont66
            intro hv66
            simp only [go_sem, simprocAttr, hxc_71]
            first | apply hK65 | refine ⟨sd, hK65 _ _ ?_⟩
            refine cM hm (fun hc67 hm => ?_) (fun hc67 hm => ?_)
            ·obtain ⟨c_83, hm⟩ := chk_elim hm
             refine Wp.seqR fun K68 hK68 => ?_
             simp only [go_sem, simprocAttr, hxc_71]
             first | apply hK68 | refine ⟨by first | exact sd | ((repeat' apply And.intro) <;> first | assumption | omega | (simp only [List.length_append, List.length_map, List.length_cons, List.length_nil, List.length_set, List.length_replicate] at c_83 ⊢; omega)), hK68 _ _ ?_⟩
             refine Wp.ret ?_
             refine retQ_ret ?_
             cases hm
             simp only [go_sem, simprocAttr, hxc_71]
             try exact se2
            ·refine Wp.skip ?_
             refine hW19 _ _ _ _ ?_ (hcut19 () hm)
             simp only [go_sem, simprocAttr, hxc_71]
             try exact se2
       ·refine Wp.skip ?_
        refine hW19 _ _ _ _ ?_ (hcut19 () hm)
        simp only [go_sem, simprocAttr, hxc_71]
        try exact se2
      clear hK47 hk_73
      refine Wp.seqR fun K69 hK69 => ?_
      simp only [go_sem, simprocAttr, hxc_71]
      first | apply hK69 | refine ⟨sd, hK69 _ _ ?_⟩
      refine cM hm (fun hc70 hm => ?_) (fun hc70 hm => ?_)
      ·refine Wp.skip ?_
       refine hW47 _ _ _ _ ?_ (hcut47 (decide (c_71 = 32)) hm)
       simp only [go_sem, simprocAttr, hxc_71]
       try exact se2
      ·refine Wp.seqR fun K71 hK71 => ?_
       simp only [go_sem, simprocAttr, hxc_71]
       first | apply hK71 | refine ⟨sd, hK71 _ _ ?_⟩
       refine cM hm (fun hc72 hm => ?_) (fun hc72 hm => ?_)
       ·refine Wp.skip ?_
        refine hW47 _ _ _ _ ?_ (hcut47 (decide (c_71 = 45)) hm)
        simp only [go_sem, simprocAttr, hxc_71]
        try exact se2
       ·refine Wp.seqR fun K73 hK73 => ?_
        simp only [go_sem, simprocAttr, hxc_71]
        first | apply hK73 | refine ⟨sd, hK73 _ _ ?_⟩
        refine cM hm (fun hc74 hm => ?_) (fun hc74 hm => ?_)
        ·refine Wp.skip ?_
         refine hW47 _ _ _ _ ?_ (hcut47 (decide (c_71 = 48)) hm)
         simp only [go_sem, simprocAttr, hxc_71]
         try exact se2
        ·refine Wp.seqR fun K75 hK75 => ?_
         simp only [go_sem, simprocAttr, hxc_71]
         first | apply hK75 | refine ⟨sd, hK75 _ _ ?_⟩
         refine cM hm (fun hc76 hm => ?_) (fun hc76 hm => ?_)
         ·refine Wp.skip ?_
          refine hW47 _ _ _ _ ?_ (hcut47 (decide (c_71 = 61)) hm)
          simp only [go_sem, simprocAttr, hxc_71]
          try exact se2
         ·refine Wp.region fun K77 hK77 => ?_
          simp only [go_sem, simprocAttr, hxc_71]
          first | apply hK77 | refine ⟨sd, hK77 _ _ ?_⟩
          refine hW47 _ _ _ _ ?_ (hcut47 (decide (c_71 = 9)) hm)
          simp only [go_sem, simprocAttr, hxc_71]
          try exact se2
    clear hK13 hk_5
    refine qS ?_
    refine cM hm (fun hc79 hm => ?_) (fun hc79 hm => ?_)
    ·cases hm
    ·refine Wp.skip ?_
     refine hW13 _ _ _ _ ?_ (hcut13 () hm)
     exact fse2
   clear hK10 hk_3
   refine qS ?_
   refine cM hm (fun hc81 hm => ?_) (fun hc81 hm => ?_)
   ·cases hm
   ·refine Wp.skip ?_
    refine hW10 _ _ _ _ ?_ (hcut10 () hm)
    exact fse2
theorem ok_R_SumOf (s_1 : Str) (z : Str) (hm : R_SumOf s_1 = some z) : Does Tryd.prog 22 [.p (.s s_1)] [] (fun r X => r = .p (.s z) ∧ X = []) := by
 unfold R_SumOf at hm
 refine Does.of_wp 0 27 [.tmp 2] Tryd.func22 rfl (by decide) rfl rfl (Nat.le_of_ble_eq_true rfl) fun B => ?_
 refine qS ?_
 refine qS ?_
 refine Wp.seqW fun K3 hK3 hW3 => ?_
 obtain ⟨k_11, hk_11, hm⟩ := jp_elim hm
 have hcut3 : ∀ s, k_11 s = some z → K3 [(3, .p (.i .u64 s))] [] := by
  intro h_10 hs
  have hm := hk_11 _ hs
  clear hs
  try dsimp only at hm
  try dsimp only
  refine hK3 _ _ ?_
  obtain ⟨r_12, hr_12, hm⟩ := call_elim hm
  refine Wp.seqR fun K4 hK4 => ?_
  simp only [go_sem, simprocAttr]
  try refine ⟨sd, ?_⟩
  refine Rg.callX (av := ?av5) (g := true) (fun hg => ok_strconv_FormatUint h_10 16 _ hr_12) si si si sg si ?cont5
  intro hv5
  simp only [go_sem, simprocAttr]
  first | apply hK4 | refine ⟨sd, hK4 _ _ ?_⟩
  obtain ⟨r_13, hr_13, hm⟩ := call_elim hm
  obtain ⟨c_14, hm⟩ := chk_elim hm
  refine Wp.seqR fun K6 hK6 => ?_
  simp only [go_sem, simprocAttr]
  try refine ⟨by first | exact sd | ((repeat' apply And.intro) <;> first | assumption | omega | (simp only [List.length_append, List.length_map, List.length_cons, List.length_nil, List.length_set, List.length_replicate] at c_14 ⊢; omega)), ?_⟩
  refine Rg.callX (av := ?av7) (g := true) (fun hg => ok_strings_Repeat ([48] : Str) (IntKind.i64.wrap (16 - (r_12.length : Int))) _ hr_13) si si si sg si ?cont7
  intro hv7
  simp only [go_sem, simprocAttr]
  first | apply hK6 | refine ⟨by first | exact sd | ((repeat' apply And.intro) <;> first | assumption | omega | (simp only [List.length_append, List.length_map, List.length_cons, List.length_nil, List.length_set, List.length_replicate] at c_14 ⊢; omega)), hK6 _ _ ?_⟩
  refine Wp.ret ?_
  refine retQ_ret ?_
  cases hm
  exact fse2
 clear hK3 hk_11
 refine qS ?_
 refine Wp.block ?_
 obtain ⟨k_18, hk_18, hm⟩ := forL_cont hm
 refine Wp.fact 0 fun hl_21 => ?_
 replace hl_21 : s_1.length ≤ 274877906944 := by
  simp only [go_sem, simprocAttr, List.length_map] at hl_21
  omega
 refine Wp.forL (fun i_20 s => [(0, .p (.s s_1)), (3, .p (.i .u64 s)), (7, .p (.i .i64 (s_1.length : Int))), (8, .p (.i .i64 (i_20 : Int)))]) (fun i_20 s => []) ?_ hm ?_
 ·
  exact fse2
 clear hm
 intro i_20 h_15 hii_20 hm
 try dsimp only at hm
 try dsimp only
 refine qS ?_
 refine Wp.seqW fun K10 hK10 hW10 => ?_
 refine Wp.cond rfl ⟨⟩ (fun hc10 => ?_) (fun hc10 => ?_)
 rotate_left
 ·refine Wp.exit ?_
  have hm := hk_18 _ (forL_end hm (ge_nat (by first | exact hc10 | simpa using hc10)))
  try dsimp only at hm
  refine hW3 _ _ _ _ ?_ (hcut3 h_15 hm)
  exact fse2
 have hlt10 := lt_nat (by first | exact hc10 | simpa using hc10)
 have hw10 := wrap_succ hlt10 hl_21
 obtain ⟨c_22, nx_19, hxc_22, hyc_22, hnx_19, hm⟩ := forL_step hm hlt10
 clear hxc_22
 refine Wp.skip ?_
 simp only [thenQ]
 refine hK10 _ _ ?_
 refine Wp.seqW fun K11 hK11 hW11 => ?_
 refine Wp.block ?_
 refine Wp.seqR fun K12 hK12 => ?_
 simp only [go_sem, simprocAttr, hw10, hyc_22]
 first | apply hK12 | refine ⟨sd, hK12 _ _ ?_⟩
 refine Wp.region fun K13 hK13 => ?_
 simp only [go_sem, simprocAttr, hw10, hyc_22]
 first | apply hK13 | refine ⟨sd, hK13 _ _ ?_⟩
 refine hK11 _ _ ?_
 refine Wp.region fun K14 hK14 => ?_
 simp only [go_sem, simprocAttr, hw10, hyc_22]
 first | apply hK14 | refine ⟨sd, hK14 _ _ ?_⟩
 simp only [thenQ, blockQ, ↓reduceIte]
 refine ⟨IntKind.u64.wrap ((bitsI .xor .u64 h_15 (IntKind.u64.wrap (c_22.toNat : Int))) * 1099511628211), hlt10, hnx_19 _ hm, ?_⟩
 simp only [go_sem, simprocAttr, hw10, hyc_22]
 try exact se2
theorem ok_internal_bytealg_CompareString (a_1 : Str) (b_2 : Str) (z : Int) (hm : internal_bytealg_CompareString a_1 b_2 = some z) : Does Tryd.prog 63 [.p (.s a_1), .p (.s b_2)] [] (fun r X => r = .p (.i .i64 z) ∧ X = []) := by
 unfold internal_bytealg_CompareString at hm
 refine Does.of_wp 0 8 [.tmp 4] Tryd.func63 rfl (by decide) rfl rfl (Nat.le_of_ble_eq_true rfl) fun B => ?_
 refine qS ?_
 have hb_3 := cmpB_bd a_1 b_2
 refine Wp.seqR fun K2 hK2 => ?_
 simp only [go_sem, simprocAttr]
 try refine ⟨sd, ?_⟩
 refine Rg.callN (av := ?av3) (g := true) (fun hg => nv_78 a_1 b_2) si si si sg si ?cont3
 intro hv3
 simp only [go_sem, simprocAttr]
 first | apply hK2 | refine ⟨sd, hK2 _ _ ?_⟩
 refine Wp.ret ?_
 refine retQ_ret ?_
 cases hm
 exact fse2
theorem ok_strings_Compare (a_1 : Str) (b_2 : Str) (z : Int) (hm : strings_Compare a_1 b_2 = some z) : Does Tryd.prog 47 [.p (.s a_1), .p (.s b_2)] [] (fun r X => r = .p (.i .i64 z) ∧ X = []) := by
 unfold strings_Compare at hm
 refine Does.of_wp 0 8 [.tmp 4] Tryd.func47 rfl (by decide) rfl rfl (Nat.le_of_ble_eq_true rfl) fun B => ?_
 refine qS ?_
 obtain ⟨r_3, hr_3, hm⟩ := call_elim hm
 refine Wp.seqR fun K2 hK2 => ?_
 simp only [go_sem, simprocAttr]
 try refine ⟨sd, ?_⟩
 refine Rg.callX (av := ?av3) (g := true) (fun hg => ok_internal_bytealg_CompareString a_1 b_2 _ hr_3) si si si sg si ?cont3
 intro hv3
 simp only [go_sem, simprocAttr]
 first | apply hK2 | refine ⟨sd, hK2 _ _ ?_⟩
 refine Wp.ret ?_
 refine retQ_ret ?_
 cases hm
 exact fse2
theorem ok_cmp_Or_int (vals_1 : List Int) (z : Int) (hm : cmp_Or_int vals_1 = some z) : Does Tryd.prog 46 [.p (.l (List.map ecI_i64 vals_1))] [] (fun r X => r = .p (.i .i64 z) ∧ X = []) := by
 unfold cmp_Or_int at hm
 refine Does.of_wp 0 18 [.tmp 2] Tryd.func46 rfl (by decide) rfl rfl (Nat.le_of_ble_eq_true rfl) fun B => ?_
 refine qS ?_
 refine qS ?_
 refine Wp.seqW fun K3 hK3 hW3 => ?_
 obtain ⟨k_9, hk_9, hm⟩ := jp_elim hm
 have hcut3 : ∀ s, k_9 s = some z → K3 [(3, .p (.i .i64 0))] [] := by
  intro s hs
  have hm := hk_9 _ hs
  clear hs
  try dsimp only at hm
  try dsimp only
  refine hK3 _ _ ?_
  refine qS ?_
  refine Wp.ret ?_
  refine retQ_ret ?_
  cases hm
  exact fse2
 clear hK3 hk_9
 refine qS ?_
 refine Wp.block ?_
 obtain ⟨k_12, hk_12, hm⟩ := forL_cont hm
 refine Wp.fact 6 fun hl_15 => ?_
 replace hl_15 : vals_1.length ≤ 274877906944 := by
  simp only [go_sem, simprocAttr, List.length_map] at hl_15
  omega
 refine Wp.forL (fun i_14 s => [(3, .p (.i .i64 0)), (6, .p (.l (List.map ecI_i64 vals_1))), (7, .p (.i .i64 (vals_1.length : Int))), (8, .p (.i .i64 (i_14 : Int)))]) (fun i_14 s => []) ?_ hm ?_
 ·
  exact fse2
 clear hm
 intro i_14 s hii_14 hm
 try dsimp only at hm
 try dsimp only
 refine qS ?_
 refine Wp.seqW fun K7 hK7 hW7 => ?_
 refine Wp.cond rfl ⟨⟩ (fun hc7 => ?_) (fun hc7 => ?_)
 rotate_left
 ·refine Wp.exit ?_
  have hm := hk_12 _ (forL_end hm (ge_nat (by first | exact hc7 | simpa using hc7)))
  try dsimp only at hm
  refine hW3 _ _ _ _ ?_ (hcut3 () hm)
  exact fse2
 have hlt7 := lt_nat (by first | exact hc7 | simpa using hc7)
 have hw7 := wrap_succ hlt7 hl_15
 obtain ⟨n_16, nx_13, hxn_16, hyn_16, hnx_13, hm⟩ := forL_step hm hlt7
 replace hxn_16 := hxn_16 ecI_i64
 refine Wp.skip ?_
 simp only [thenQ]
 refine hK7 _ _ ?_
 refine Wp.seqW fun K8 hK8 hW8 => ?_
 refine Wp.block ?_
 refine Wp.seqR fun K9 hK9 => ?_
 simp only [go_sem, simprocAttr, hw7, hxn_16]
 first | apply hK9 | refine ⟨sd, hK9 _ _ ?_⟩
 refine Wp.seqR fun K10 hK10 => ?_
 simp only [go_sem, simprocAttr, hw7, hxn_16]
 first | apply hK10 | refine ⟨sd, hK10 _ _ ?_⟩
 refine cM hm (fun hc11 hm => ?_) (fun hc11 hm => ?_)
 ·refine Wp.seqR fun K12 hK12 => ?_
  simp only [go_sem, simprocAttr, hw7, hxn_16]
  first | apply hK12 | refine ⟨sd, hK12 _ _ ?_⟩
  refine Wp.ret ?_
  refine retQ_ret ?_
  cases hm
  simp only [go_sem, simprocAttr, hw7, hxn_16]
  try exact se2
 ·refine Wp.skip ?_
  refine hK8 _ _ ?_
  refine Wp.region fun K13 hK13 => ?_
  simp only [go_sem, simprocAttr, hw7, hxn_16]
  first | apply hK13 | refine ⟨sd, hK13 _ _ ?_⟩
  simp only [thenQ, blockQ, ↓reduceIte]
  refine ⟨(), hlt7, hnx_13 _ hm, ?_⟩
  simp only [go_sem, simprocAttr, hw7, hxn_16]
  try exact se2
theorem ok_R_heldOrder (a_1 : api_Held) (b_2 : api_Held) (z : Int) (hm : R_heldOrder a_1 b_2 = some z) : Does Tryd.prog 23 [.agg [.p (.s a_1.Owner), .p (.i .i64 a_1.Kind), .p (.s a_1.Path), .p (.s a_1.Sum), .p (.s a_1.Base)], .agg [.p (.s b_2.Owner), .p (.i .i64 b_2.Kind), .p (.s b_2.Path), .p (.s b_2.Sum), .p (.s b_2.Base)]] [] (fun r X => r = .p (.i .i64 z) ∧ X = []) := by
 unfold R_heldOrder at hm
 refine Does.of_wp 0 24 [.tmp 4] Tryd.func23 rfl (by decide) rfl rfl (Nat.le_of_ble_eq_true rfl) fun B => ?_
 refine qS ?_
 obtain ⟨r_3, hr_3, hm⟩ := call_elim hm
 obtain ⟨r_4, hr_4, hm⟩ := call_elim hm
 obtain ⟨r_5, hr_5, hm⟩ := call_elim hm
 obtain ⟨r_6, hr_6, hm⟩ := call_elim hm
 obtain ⟨r_7, hr_7, hm⟩ := call_elim hm
 refine Wp.seqD (plan := pl [(0, none), (1, none), (2, none), (3, none), (4, none), (5, none), (6, none), (7, none), (8, none), (9, none), (10, none), (11, none), (12, none), (13, none), (14, none), (15, none), (16, none), (17, some []), (18, none), (19, none)]) (by kernel_rfl) rfl (by kernel_rfl) fun K2 hK2 => ?_
 simp only [go_sem, simprocAttr]
 try refine ⟨sd, ?_⟩
 refine Dr.callF (av := ?av3) (g := true) (o := ?o3) (fun hg => ok_strings_Compare a_1.Owner b_2.Owner _ hr_3) si si si si sg si ?cont3
 simp only [go_sem, simprocAttr]
 try refine ⟨sd, ?_⟩
 refine Dr.callF (av := ?av4) (g := true) (o := ?o4) (fun hg => ok_R_thingOf a_1.Kind _ hr_4) si si si si sg si ?cont4
 simp only [go_sem, simprocAttr]
 try refine ⟨sd, ?_⟩
 refine Dr.callF (av := ?av5) (g := true) (o := ?o5) (fun hg => ok_R_thingOf b_2.Kind _ hr_5) si si si si sg si ?cont5
 simp only [go_sem, simprocAttr]
 try refine ⟨sd, ?_⟩
 refine Dr.callF (av := ?av6) (g := true) (o := ?o6) (fun hg => ok_strings_Compare a_1.Path b_2.Path _ hr_6) si si si si sg si ?cont6
 simp only [go_sem, simprocAttr]
 try refine ⟨sd, ?_⟩
 refine Dr.callF (av := ?av7) (g := true) (o := ?o7) (fun hg => ok_cmp_Or_int [r_3, IntKind.i64.wrap (r_4 - r_5), r_6] _ hr_7) si si si si sg si ?cont7
 simp only [go_sem, simprocAttr]
 first | apply hK2 | refine ⟨sd, hK2 _ _ ?_⟩
 refine Wp.ret ?_
 refine retQ_ret ?_
 cases hm
 exact fse2
end Go.Proofs.YtbbkahmljdogiaaDoor
