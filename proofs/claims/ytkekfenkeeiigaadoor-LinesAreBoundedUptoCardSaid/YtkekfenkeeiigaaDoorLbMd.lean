/- Models of the functions that the statement reaches: what each computes, in plain words. -/
import Derived.Test.YtkekfenkeeiigaaDoorVc4
set_option linter.unusedVariables false
namespace Go.Md
open Go.Vc
instance theTabs : Tabs := ⟨fun b => none, fun b => false, fun e => bif Nat.beq e 57 then some (0, 3, 1) else none⟩
theorem nest_3 : Tabs.nest 3 = none := rfl
attribute [go_sem] nest_3
theorem nest_5 : Tabs.nest 5 = none := rfl
attribute [go_sem] nest_5
theorem nest_9 : Tabs.nest 9 = none := rfl
attribute [go_sem] nest_9
theorem nest_25 : Tabs.nest 25 = none := rfl
attribute [go_sem] nest_25
theorem nest_29 : Tabs.nest 29 = none := rfl
attribute [go_sem] nest_29
theorem nest_49 : Tabs.nest 49 = none := rfl
attribute [go_sem] nest_49
theorem nest_57 : Tabs.nest 57 = some (0, 3, 1) := rfl
attribute [go_sem] nest_57
theorem nest_63 : Tabs.nest 63 = none := rfl
attribute [go_sem] nest_63
theorem nest_115 : Tabs.nest 115 = none := rfl
attribute [go_sem] nest_115
theorem nest_138 : Tabs.nest 138 = none := rfl
attribute [go_sem] nest_138
theorem nest_157 : Tabs.nest 157 = none := rfl
attribute [go_sem] nest_157
def ecB (b : Bool) : List Dt := [.b b]
def ecS (x : Str) : List Dt := [.s x]
def ecI_i8 (n : Int) : List Dt := [.i .i8 n]
def ecI_i16 (n : Int) : List Dt := [.i .i16 n]
def ecI_i32 (n : Int) : List Dt := [.i .i32 n]
def ecI_i64 (n : Int) : List Dt := [.i .i64 n]
def ecI_u8 (n : Int) : List Dt := [.i .u8 n]
def ecI_u16 (n : Int) : List Dt := [.i .u16 n]
def ecI_u32 (n : Int) : List Dt := [.i .u32 n]
def ecI_u64 (n : Int) : List Dt := [.i .u64 n]
theorem dec1_s : ∀ r, hasR r [.s] → ∃ x, r = ecS x := by
 intro r h
 rcases r with _ | ⟨d, _ | _⟩ <;> simp only [hasR, and_false, and_true] at h
 cases d <;> simp only [hasT] at h
 exact ⟨_, rfl⟩
theorem dec1_i64 : ∀ r, hasR r [.i .i64] → ∃ x, r = ecI_i64 x := by
 intro r h
 rcases r with _ | ⟨d, _ | _⟩ <;> simp only [hasR, and_false, and_true] at h
 cases d <;> simp only [hasT] at h
 subst h
 exact ⟨_, rfl⟩
theorem dec1_u8 : ∀ r, hasR r [.i .u8] → ∃ x, r = ecI_u8 x := by
 intro r h
 rcases r with _ | ⟨d, _ | _⟩ <;> simp only [hasR, and_false, and_true] at h
 cases d <;> simp only [hasT] at h
 subst h
 exact ⟨_, rfl⟩
structure Arr2_Int where
 a0 : Int
 a1 : Int
def enc_Arr2_Int (x : Arr2_Int) : List Dt := [.i .i64 x.a0, .i .i64 x.a1]
def sh_Arr2_Int : List Sh := [.i .i64, .i .i64]
theorem dec_Arr2_Int : ∀ r, hasR r sh_Arr2_Int → ∃ x : Arr2_Int, r = enc_Arr2_Int x := by
 intro r h
 unfold sh_Arr2_Int at h
 rcases r with _ | ⟨d0, _ | ⟨d1, _ | _⟩⟩ <;> simp only [hasR, and_false, and_true] at h
 obtain ⟨h0, h1⟩ := h
 cases d0 <;> simp only [hasT] at h0
 subst h0
 cases d1 <;> simp only [hasT] at h1
 subst h1
 exact ⟨⟨_, _⟩, rfl⟩
def encL_ecI_i64 (x : List Int) : List Dt := [.l (List.map ecI_i64 x)]
def eN_encL_ecI_i64 (x : List Int) : List Dt := [.b false]
def iN_encL_ecI_i64 (x : List Int) : List (List Dt) := List.map ecI_i64 x
theorem mrg_57 (l : List (List Int)) : mrg 0 (List.map eN_encL_ecI_i64 l) (List.map iN_encL_ecI_i64 l) = List.map encL_ecI_i64 l := mrg_map (fun _ => rfl) l
theorem sz_eN_encL_ecI_i64 : ∀ l, szOk (1) (List.map eN_encL_ecI_i64 l) = True := fun l => eq_true (by intro r hr; obtain ⟨x, _, rfl⟩ := List.mem_map.1 hr; rfl)
attribute [go_sem] mrg_57 sz_eN_encL_ecI_i64 eN_encL_ecI_i64 iN_encL_ecI_i64
theorem sz_ecB : ∀ l, szOk (1) (List.map ecB l) = True := fun l => eq_true (by intro r hr; obtain ⟨x, _, rfl⟩ := List.mem_map.1 hr; rfl)
theorem sz_ecS : ∀ l, szOk (1) (List.map ecS l) = True := fun l => eq_true (by intro r hr; obtain ⟨x, _, rfl⟩ := List.mem_map.1 hr; rfl)
theorem sz_ecI_i64 : ∀ l, szOk (1) (List.map ecI_i64 l) = True := fun l => eq_true (by intro r hr; obtain ⟨x, _, rfl⟩ := List.mem_map.1 hr; rfl)
theorem sz_ecI_u8 : ∀ l, szOk (1) (List.map ecI_u8 l) = True := fun l => eq_true (by intro r hr; obtain ⟨x, _, rfl⟩ := List.mem_map.1 hr; rfl)
theorem sz_ecI_u64 : ∀ l, szOk (1) (List.map ecI_u64 l) = True := fun l => eq_true (by intro r hr; obtain ⟨x, _, rfl⟩ := List.mem_map.1 hr; rfl)
theorem sz_ecI_i32 : ∀ l, szOk (1) (List.map ecI_i32 l) = True := fun l => eq_true (by intro r hr; obtain ⟨x, _, rfl⟩ := List.mem_map.1 hr; rfl)
theorem sz_ecI_u32 : ∀ l, szOk (1) (List.map ecI_u32 l) = True := fun l => eq_true (by intro r hr; obtain ⟨x, _, rfl⟩ := List.mem_map.1 hr; rfl)
theorem sz_enc_Arr2_Int : ∀ l, szOk (2) (List.map enc_Arr2_Int l) = True := fun l => eq_true (by intro r hr; obtain ⟨x, _, rfl⟩ := List.mem_map.1 hr; rfl)
theorem sz_encL_ecI_i64 : ∀ l, szOk (1) (List.map encL_ecI_i64 l) = True := fun l => eq_true (by intro r hr; obtain ⟨x, _, rfl⟩ := List.mem_map.1 hr; rfl)
theorem allB_enc : ∀ l : List Int, allB (List.map ecI_u8 l) = True
 | [] => by simp only [List.map_nil, allB]
 | _ :: l => by simp only [List.map_cons, ecI_u8, allB, allB_enc l, and_self]
theorem unB_enc : ∀ l : List Int, unB (List.map ecI_u8 l) = Go.Vc.strOf l
 | [] => by simp only [List.map_nil, unB, Go.Vc.strOf]
 | _ :: l => by simp only [List.map_cons, ecI_u8, unB, unB_enc l, Go.Vc.strOf]
theorem bR_enc (l : Str) : bR l = List.map ecI_u8 (bytesOf l) := by simp [bR, bytesOf, ecI_u8]
attribute [go_sem] allB_enc unB_enc bR_enc
attribute [go_sem] ecB ecS ecI_i64 ecI_u8 ecI_u64 ecI_i32 ecI_u32 enc_Arr2_Int encL_ecI_i64 sz_ecB sz_ecS sz_ecI_i64 sz_ecI_u8 sz_ecI_u64 sz_ecI_i32 sz_ecI_u32 sz_enc_Arr2_Int sz_encL_ecI_i64
noncomputable def ver_isSmall (c_1 : Int) : Option Bool :=
 some ((decide (97 ≤ c_1)) && (decide (c_1 ≤ 122)))
noncomputable def ver_isDigit (c_1 : Int) : Option Bool :=
 some ((decide (48 ≤ c_1)) && (decide (c_1 ≤ 57)))
noncomputable def ver_IsName_1 (c_1 : Int) : Option Bool :=
 call (ver_isSmall c_1) fun r_2 =>
 callG (!r_2) (ver_isDigit c_1) false fun r_3 =>
 some (((r_2 || r_3) || (decide (c_1 = 45))) || (decide (c_1 = 46)))
noncomputable def ver_each_i1 (s_1 : Str) (most_2 : Int) : Option Bool :=
 jp (S := Unit) (fun _ =>
  some ((!decide (s_1 = [])) && (decide ((s_1.length : Int) ≤ most_2)))) fun k_12 =>
 forL s_1 0 (fun i_18 c_20 s nx_17 k_16 =>
  call (ver_IsName_1 (c_20.toNat : Int)) fun r_21 =>
  bif !r_21 then
   some false
  else
  nx_17 ()) () (fun _ =>
  k_12 ())
noncomputable def ver_IsName (s_1 : Str) : Option Bool :=
 call (ver_each_i1 s_1 40) fun r_2 =>
 chk (r_2 = true → (0 ≤ 0 ∧ 0 < (s_1.length : Int))) <|
 callG r_2 (ver_isSmall ((s_1.getD 0 0).toNat : Int)) false fun r_4 =>
 some (r_2 && r_4)
noncomputable def Law_landed  : Option Bool :=
 call (ver_IsName ([97] : Str)) fun r_1 =>
 some r_1
noncomputable def internal_stringslite_IndexByte (s_1 : Str) (c_2 : Int) : Option Int :=
 some (ixByte s_1 c_2)
noncomputable def internal_stringslite_Index (s_1 : Str) (substr_2 : Str) : Option Int :=
 bif ((decide ((substr_2.length : Int) = 0)) || (decide (substr_2 = s_1))) then
  some 0
 else
 bif decide ((substr_2.length : Int) = 1) then
  idxS substr_2 0 fun c_3 =>
  call (internal_stringslite_IndexByte s_1 c_3) fun r_4 =>
  some r_4
 else
 bif decide ((s_1.length : Int) ≤ (substr_2.length : Int)) then
  some (-1)
 else
 none
noncomputable def strings_Index (s_1 : Str) (substr_2 : Str) : Option Int :=
 call (internal_stringslite_Index s_1 substr_2) fun r_3 =>
 some r_3
noncomputable def strings_Count (s_1 : Str) (substr_2 : Str) : Option Int :=
 bif decide ((substr_2.length : Int) = 0) then
  none
 else
 bif decide ((substr_2.length : Int) = 1) then
  idxS substr_2 0 fun c_3 =>
  some (cntByte s_1 c_3)
 else
 loopN Fuel (fun s nx_15 k_14 =>
  match s with
  | (s_10, n_11) =>
   call (strings_Index s_10 substr_2) fun r_16 =>
   bif decide (r_16 = (-1)) then
    some n_11
   else
   chk (0 ≤ IntKind.i64.wrap (r_16 + (substr_2.length : Int)) ∧ IntKind.i64.wrap (r_16 + (substr_2.length : Int)) ≤ (s_10.length : Int)) <|
   nx_15 (List.drop ((IntKind.i64.wrap (r_16 + (substr_2.length : Int))).toNat) s_10, IntKind.i64.wrap (n_11 + 1))) (s_1, 0) (fun s => match s with
  | (s_10, n_11) =>
   none)
noncomputable def strings_genSplit (s_1 : Str) (sep_2 : Str) (sepSave_3 : Int) (n_4 : Int) : Option (List Str) :=
 bif decide (n_4 = 0) then
  some []
 else
 bif decide (sep_2 = []) then
  none
 else
 jp (S := Int) (fun n_6 =>
  chk (0 ≤ min n_6 (IntKind.i64.wrap ((s_1.length : Int) + 1)) ∧ min n_6 (IntKind.i64.wrap ((s_1.length : Int) + 1)) ≤ min n_6 (IntKind.i64.wrap ((s_1.length : Int) + 1)) ∧ min n_6 (IntKind.i64.wrap ((s_1.length : Int) + 1)) ≤ 274877906944) <|
  jp (S := Str × Int × List Str) (fun s => match s with
   | (s_28, i_29, o0_30) =>
    chk (0 ≤ i_29 ∧ i_29 < (o0_30.length : Int)) <|
    chk (0 ≤ IntKind.i64.wrap (i_29 + 1) ∧ IntKind.i64.wrap (i_29 + 1) ≤ ((List.set o0_30 i_29.toNat s_28).length : Int)) <|
    some (List.take ((IntKind.i64.wrap (i_29 + 1)).toNat) (List.set o0_30 i_29.toNat s_28))) fun k_31 =>
  loopN Fuel (fun s nx_48 k_47 =>
   match s with
   | (s_40, i_41, o0_42) =>
    bif decide (i_41 < (IntKind.i64.wrap ((min n_6 (IntKind.i64.wrap ((s_1.length : Int) + 1))) - 1))) then
     call (strings_Index s_40 sep_2) fun r_49 =>
     bif decide (r_49 < 0) then
      k_47 (s_40, i_41, o0_42)
     else
     chk (0 ≤ IntKind.i64.wrap (r_49 + sepSave_3) ∧ IntKind.i64.wrap (r_49 + sepSave_3) ≤ (s_40.length : Int)) <|
     chk (0 ≤ i_41 ∧ i_41 < (o0_42.length : Int)) <|
     chk (0 ≤ IntKind.i64.wrap (r_49 + (sep_2.length : Int)) ∧ IntKind.i64.wrap (r_49 + (sep_2.length : Int)) ≤ (s_40.length : Int)) <|
     nx_48 (List.drop ((IntKind.i64.wrap (r_49 + (sep_2.length : Int))).toNat) s_40, IntKind.i64.wrap (i_41 + 1), List.set o0_42 i_41.toNat (List.take ((IntKind.i64.wrap (r_49 + sepSave_3)).toNat) s_40))
    else
    k_47 (s_40, i_41, o0_42)) (s_1, 0, List.replicate ((min n_6 (IntKind.i64.wrap ((s_1.length : Int) + 1))).toNat) []) (fun s => match s with
   | (s_40, i_41, o0_42) =>
    k_31 (s_40, i_41, o0_42))) fun k_7 =>
 bif decide (n_4 < 0) then
  call (strings_Count s_1 sep_2) fun r_53 =>
  k_7 (IntKind.i64.wrap (r_53 + 1))
 else
 k_7 n_4
noncomputable def strings_SplitAfter (s_1 : Str) (sep_2 : Str) : Option (List Str) :=
 call (strings_genSplit s_1 sep_2 (sep_2.length : Int) (-1)) fun r_3 =>
 some r_3
noncomputable def delta_linesOf (s_1 : Str) : Option (List Str) :=
 call (strings_SplitAfter s_1 ([10] : Str)) fun r_2 =>
 idx r_2 (IntKind.i64.wrap ((r_2.length : Int) - 1)) fun s_3 =>
 bif decide (s_3 = []) then
  chk (0 ≤ IntKind.i64.wrap ((r_2.length : Int) - 1) ∧ IntKind.i64.wrap ((r_2.length : Int) - 1) ≤ (r_2.length : Int)) <|
  some (List.take ((IntKind.i64.wrap ((r_2.length : Int) - 1)).toNat) r_2)
 else
 some r_2
noncomputable def delta_linesFault (s_1 : Str) (l_2 : List Str) : Option Int :=
 bif ((decide (65536 < (s_1.length : Int))) || (decide (1000 < (l_2.length : Int)))) then
  some 4
 else
 some 0
noncomputable def delta_numbered_i1 (l_1 : List Str) (m0_2 : List (Str × Int)) : Option (List Int × (List (Str × Int))) :=
 jp (S := (List (Str × Int)) × List Int) (fun s => match s with
  | (m0_93, o1_94) =>
   some (o1_94, m0_93)) fun k_95 =>
 forL l_1 0 (fun i_116 s_118 s nx_115 k_114 =>
  match s with
  | (m0_105, o1_106) =>
   letv (alook m0_105 s_118) fun q_119 =>
   bif !q_119.isSome then
    chk ((aset m0_105 s_118 (m0_105.length : Int)).length ≤ 274877906944) <|
    chk ((o1_106 ++ [(m0_105.length : Int)]).length ≤ 274877906944) <|
    nx_115 (aset m0_105 s_118 (m0_105.length : Int), o1_106 ++ [(m0_105.length : Int)])
   else
   chk ((o1_106 ++ [(q_119.getD 0)]).length ≤ 274877906944) <|
   nx_115 (m0_105, o1_106 ++ [(q_119.getD 0)])) (m0_2, []) (fun s => match s with
  | (m0_105, o1_106) =>
   k_95 (m0_105, o1_106))
noncomputable def slices_Index_int_int (s_1 : List Int) (v_2 : Int) : Option Int :=
 jp (S := Unit) (fun _ =>
  some (-1)) fun k_10 =>
 forL s_1 0 (fun i_15 n_17 s nx_14 k_13 =>
  bif decide (v_2 = n_17) then
   some (i_15 : Int)
  else
  nx_14 ()) () (fun _ =>
  k_10 ())
noncomputable def delta_common (x_1 : List Str) (y_2 : List Str) : Option (List Arr2_Int) :=
 call (delta_numbered_i1 x_1 []) fun r_3 =>
 call (delta_numbered_i1 y_2 r_3.2) fun r_4 =>
 chk (0 ≤ IntKind.i64.wrap ((r_3.1.length : Int) + 1) ∧ IntKind.i64.wrap ((r_3.1.length : Int) + 1) ≤ IntKind.i64.wrap ((r_3.1.length : Int) + 1) ∧ IntKind.i64.wrap ((r_3.1.length : Int) + 1) ≤ 274877906944) <|
 letv (List.replicate ((IntKind.i64.wrap ((r_3.1.length : Int) + 1)).toNat) []) fun v_6 =>
 jp (S := List (List Int)) (fun o1_31 =>
  jp (S := List (List Int)) (fun o1_650 =>
   jp (S := List Arr2_Int) (fun o3_772 =>
    some o3_772) fun k_773 =>
   forL r_3.1 0 (fun i_855 n_857 s nx_854 k_853 =>
    match s with
    | (k_813, o3_815) =>
     chk (0 ≤ k_813 ∧ k_813 ≤ (r_4.1.length : Int)) <|
     call (slices_Index_int_int (List.drop k_813.toNat r_4.1) n_857) fun r_859 =>
     chk ((!(decide (r_859 < 0))) = true → (0 ≤ IntKind.i64.wrap ((i_855 : Int) + 1) ∧ IntKind.i64.wrap ((i_855 : Int) + 1) < (o1_650.length : Int))) <|
     chk ((!(decide (r_859 < 0))) = true → (0 ≤ IntKind.i64.wrap ((IntKind.i64.wrap (k_813 + r_859)) + 1) ∧ IntKind.i64.wrap ((IntKind.i64.wrap (k_813 + r_859)) + 1) < ((o1_650.getD ((IntKind.i64.wrap ((i_855 : Int) + 1)).toNat) []).length : Int))) <|
     chk ((!(decide (r_859 < 0))) = true → (0 ≤ (i_855 : Int) ∧ (i_855 : Int) < (o1_650.length : Int))) <|
     chk ((!(decide (r_859 < 0))) = true → (0 ≤ k_813 ∧ k_813 < ((o1_650.getD i_855 []).length : Int))) <|
     bif ((decide (r_859 < 0)) || (!decide ((IntKind.i64.wrap (1 + ((o1_650.getD ((IntKind.i64.wrap ((i_855 : Int) + 1)).toNat) []).getD ((IntKind.i64.wrap ((IntKind.i64.wrap (k_813 + r_859)) + 1)).toNat) 0))) = ((o1_650.getD i_855 []).getD k_813.toNat 0)))) then
      nx_854 (k_813, o3_815)
     else
     chk ((o3_815 ++ [(Arr2_Int.mk (i_855 : Int) (IntKind.i64.wrap (k_813 + r_859)))]).length ≤ 274877906944) <|
     nx_854 (IntKind.i64.wrap (k_813 + (IntKind.i64.wrap (r_859 + 1))), o3_815 ++ [(Arr2_Int.mk (i_855 : Int) (IntKind.i64.wrap (k_813 + r_859)))])) (0, []) (fun s => match s with
    | (k_813, o3_815) =>
     k_773 o3_815)) fun k_651 =>
  loopN Fuel (fun s nx_1306 k_1305 =>
   match s with
   | (i_1099, o1_1100) =>
    bif decide (0 ≤ i_1099) then
     jp (S := List (List Int)) (fun o1_1408 =>
      nx_1306 (IntKind.i64.wrap (i_1099 - 1), o1_1408)) fun k_1409 =>
     loopN Fuel (fun s nx_1478 k_1477 =>
      match s with
      | (k_1443, o1_1444) =>
       bif decide (0 ≤ k_1443) then
        chk (0 ≤ i_1099 ∧ i_1099 < (o1_1444.length : Int)) <|
        chk (0 ≤ IntKind.i64.wrap (i_1099 + 1) ∧ IntKind.i64.wrap (i_1099 + 1) < (o1_1444.length : Int)) <|
        chk (0 ≤ k_1443 ∧ k_1443 < ((o1_1444.getD ((IntKind.i64.wrap (i_1099 + 1)).toNat) []).length : Int)) <|
        chk (0 ≤ i_1099 ∧ i_1099 < (o1_1444.length : Int)) <|
        chk (0 ≤ IntKind.i64.wrap (k_1443 + 1) ∧ IntKind.i64.wrap (k_1443 + 1) < ((o1_1444.getD i_1099.toNat []).length : Int)) <|
        chk (0 ≤ k_1443 ∧ k_1443 < ((o1_1444.getD i_1099.toNat []).length : Int)) <|
        letv (List.set o1_1444 i_1099.toNat (List.set (o1_1444.getD i_1099.toNat []) k_1443.toNat (max ((o1_1444.getD ((IntKind.i64.wrap (i_1099 + 1)).toNat) []).getD k_1443.toNat 0) ((o1_1444.getD i_1099.toNat []).getD ((IntKind.i64.wrap (k_1443 + 1)).toNat) 0)))) fun v_1486 =>
        idx r_3.1 i_1099 fun n_1494 =>
        idx r_4.1 k_1443 fun n_1495 =>
        bif decide (n_1494 = n_1495) then
         chk (0 ≤ i_1099 ∧ i_1099 < (v_1486.length : Int)) <|
         chk (0 ≤ i_1099 ∧ i_1099 < (v_1486.length : Int)) <|
         chk (0 ≤ k_1443 ∧ k_1443 < ((v_1486.getD i_1099.toNat []).length : Int)) <|
         chk (0 ≤ IntKind.i64.wrap (i_1099 + 1) ∧ IntKind.i64.wrap (i_1099 + 1) < (v_1486.length : Int)) <|
         chk (0 ≤ IntKind.i64.wrap (k_1443 + 1) ∧ IntKind.i64.wrap (k_1443 + 1) < ((v_1486.getD ((IntKind.i64.wrap (i_1099 + 1)).toNat) []).length : Int)) <|
         chk (0 ≤ k_1443 ∧ k_1443 < ((v_1486.getD i_1099.toNat []).length : Int)) <|
         letv (List.set v_1486 i_1099.toNat (List.set (v_1486.getD i_1099.toNat []) k_1443.toNat (max ((v_1486.getD i_1099.toNat []).getD k_1443.toNat 0) (IntKind.i64.wrap (1 + ((v_1486.getD ((IntKind.i64.wrap (i_1099 + 1)).toNat) []).getD ((IntKind.i64.wrap (k_1443 + 1)).toNat) 0)))))) fun v_1503 =>
         nx_1478 (IntKind.i64.wrap (k_1443 - 1), v_1503)
        else
        nx_1478 (IntKind.i64.wrap (k_1443 - 1), v_1486)
       else
       k_1477 (k_1443, o1_1444)) (IntKind.i64.wrap ((r_4.1.length : Int) - 1), o1_1100) (fun s => match s with
      | (k_1443, o1_1444) =>
       k_1409 o1_1444)
    else
    k_1305 (i_1099, o1_1100)) (IntKind.i64.wrap ((r_3.1.length : Int) - 1), o1_31) (fun s => match s with
   | (i_1099, o1_1100) =>
    k_651 o1_1100)) fun k_32 =>
 loopN Fuel (fun s nx_1527 k_1526 =>
  match s with
  | (t29_1518, o1_1519) =>
   bif decide (t29_1518 < (v_6.length : Int)) then
    chk (0 ≤ IntKind.i64.wrap ((r_4.1.length : Int) + 1) ∧ IntKind.i64.wrap ((r_4.1.length : Int) + 1) ≤ IntKind.i64.wrap ((r_4.1.length : Int) + 1) ∧ IntKind.i64.wrap ((r_4.1.length : Int) + 1) ≤ 274877906944) <|
    chk (0 ≤ t29_1518 ∧ t29_1518 < (o1_1519.length : Int)) <|
    letv (List.set o1_1519 t29_1518.toNat (List.replicate ((IntKind.i64.wrap ((r_4.1.length : Int) + 1)).toNat) 0)) fun v_1531 =>
    nx_1527 (IntKind.i64.wrap (t29_1518 + 1), v_1531)
   else
   k_1526 (t29_1518, o1_1519)) (0, v_6) (fun s => match s with
  | (t29_1518, o1_1519) =>
   k_32 o1_1519)
noncomputable def delta_Lines (a_1 : Str) (b_2 : Str) : Option (List Arr2_Int × Int) :=
 call (delta_linesOf a_1) fun r_3 =>
 call (delta_linesOf b_2) fun r_4 =>
 call (delta_linesFault a_1 r_3) fun r_5 =>
 bif !decide (r_5 = 0) then
  some ([], r_5)
 else
 call (delta_linesFault b_2 r_4) fun r_6 =>
 bif !decide (r_6 = 0) then
  some ([], r_6)
 else
 call (delta_common r_3 r_4) fun r_7 =>
 some (r_7, 0)
noncomputable def delta_places (pairs_1 : List Arr2_Int) (many_2 : Int) : Option (List Int) :=
 chk (0 ≤ many_2 ∧ many_2 ≤ many_2 ∧ many_2 ≤ 274877906944) <|
 jp (S := List Int) (fun o0_12 =>
  jp (S := List Int) (fun o0_27 =>
   some o0_27) fun k_28 =>
  forL pairs_1 0 (fun i_38 x_40 o0_33 nx_37 k_36 =>
   chk (0 ≤ x_40.a0 ∧ x_40.a0 < (o0_33.length : Int)) <|
   nx_37 (List.set o0_33 x_40.a0.toNat x_40.a1)) o0_12 (fun o0_33 =>
   k_28 o0_33)) fun k_13 =>
 loopN Fuel (fun s nx_48 k_47 =>
  match s with
  | (t13_44, o0_45) =>
   bif decide (t13_44 < ((List.replicate many_2.toNat 0).length : Int)) then
    chk (0 ≤ t13_44 ∧ t13_44 < (o0_45.length : Int)) <|
    nx_48 (IntKind.i64.wrap (t13_44 + 1), List.set o0_45 t13_44.toNat (-1))
   else
   k_47 (t13_44, o0_45)) (0, List.replicate many_2.toNat 0) (fun s => match s with
  | (t13_44, o0_45) =>
   k_13 o0_45)
noncomputable def strings_Builder_Grow (n : Int) (o0 : Str) : Option Unit := chk (0 ≤ n ∧ n ≤ 274877906944) <| some ()
noncomputable def strings_Builder_copyCheck_i1 (o1_1 : Str) : Option Unit :=
 some ()
noncomputable def strings_Builder_copyCheck_i2 (o1_1 : Str) : Option Unit :=
 some ()
noncomputable def strings_Builder_copyCheck_np (o0 : Str) : Option Unit := some ()
noncomputable def strings_Builder_WriteString_i1 (s_1 : Str) (o1_2 : Str) : Option (Int × Str) :=
 call (strings_Builder_copyCheck_np o1_2) fun r_5 =>
 chk ((o1_2 ++ s_1).length ≤ 274877906944) <|
 some ((s_1.length : Int), o1_2 ++ s_1)
noncomputable def strings_Builder_String_i1 (o1_1 : Str) : Option Str :=
 some o1_1
noncomputable def strings_Join (elems_1 : List Str) (sep_2 : Str) : Option Str :=
 bif decide ((elems_1.length : Int) = 0) then
  some []
 else
 bif decide ((elems_1.length : Int) = 1) then
  idx elems_1 0 fun s_3 =>
  some s_3
 else
 jp (S := Int) (fun n_5 =>
  jp (S := Int) (fun n_15 =>
   call (strings_Builder_Grow n_15 []) fun r_17 =>
   idx elems_1 0 fun s_18 =>
   call (strings_Builder_WriteString_i1 s_18 []) fun r_19 =>
   jp (S := Str) (fun o1_37 =>
    call (strings_Builder_String_i1 o1_37) fun r_39 =>
    some r_39) fun k_38 =>
   chk (0 ≤ 1 ∧ 1 ≤ (elems_1.length : Int)) <|
   forL (List.drop 1 elems_1) 0 (fun i_52 s_54 o1_46 nx_51 k_50 =>
    call (strings_Builder_WriteString_i1 sep_2 o1_46) fun r_55 =>
    call (strings_Builder_WriteString_i1 s_54 r_55.2) fun r_56 =>
    nx_51 r_56.2) r_19.2 (fun o1_46 =>
    k_38 o1_46)) fun k_16 =>
  forL elems_1 0 (fun i_62 s_64 n_57 nx_61 k_60 =>
   bif decide ((IntKind.i64.wrap (9223372036854775807 - n_57)) < (s_64.length : Int)) then
    none
   else
   nx_61 (IntKind.i64.wrap (n_57 + (s_64.length : Int)))) n_5 (fun n_57 =>
   k_16 n_57)) fun k_6 =>
 bif decide (0 < (sep_2.length : Int)) then
  chk (¬ (IntKind.i64.wrap ((elems_1.length : Int) - 1)) = 0) <|
  bif decide ((IntKind.i64.wrap (Int.tdiv 9223372036854775807 (IntKind.i64.wrap ((elems_1.length : Int) - 1)))) ≤ (sep_2.length : Int)) then
   none
  else
  k_6 (IntKind.i64.wrap (0 + (IntKind.i64.wrap ((sep_2.length : Int) * (IntKind.i64.wrap ((elems_1.length : Int) - 1))))))
 else
 k_6 0
noncomputable def internal_stringslite_HasSuffix (s_1 : Str) (suffix_2 : Str) : Option Bool :=
 chk ((decide ((suffix_2.length : Int) ≤ (s_1.length : Int))) = true → (0 ≤ IntKind.i64.wrap ((s_1.length : Int) - (suffix_2.length : Int)) ∧ IntKind.i64.wrap ((s_1.length : Int) - (suffix_2.length : Int)) ≤ (s_1.length : Int))) <|
 some ((decide ((suffix_2.length : Int) ≤ (s_1.length : Int))) && (decide ((List.drop ((IntKind.i64.wrap ((s_1.length : Int) - (suffix_2.length : Int))).toNat) s_1) = suffix_2)))
noncomputable def strings_HasSuffix (s_1 : Str) (suffix_2 : Str) : Option Bool :=
 call (internal_stringslite_HasSuffix s_1 suffix_2) fun r_3 =>
 some r_3
noncomputable def delta_ended (s_1 : Str) : Option Str :=
 callG (!decide (s_1 = [])) (strings_HasSuffix s_1 ([10] : Str)) false fun r_2 =>
 bif ((!decide (s_1 = [])) && (!r_2)) then
  chk ((s_1 ++ ([10] : Str)).length ≤ 274877906944) <|
  some (s_1 ++ ([10] : Str))
 else
 some s_1
noncomputable def delta_settle (base_1 : Str) (a_2 : Str) (b_3 : Str) : Option (Str × Bool) :=
 bif decide (a_2 = base_1) then
  some (b_3, false)
 else
 bif ((decide (b_3 = base_1)) || (decide (a_2 = b_3))) then
  some (a_2, false)
 else
 call (delta_ended a_2) fun r_4 =>
 chk ((([60, 60, 60, 60, 60, 60, 60, 10] : Str) ++ r_4).length ≤ 274877906944) <|
 chk (((([60, 60, 60, 60, 60, 60, 60, 10] : Str) ++ r_4) ++ ([61, 61, 61, 61, 61, 61, 61, 10] : Str)).length ≤ 274877906944) <|
 call (delta_ended b_3) fun r_7 =>
 chk ((((([60, 60, 60, 60, 60, 60, 60, 10] : Str) ++ r_4) ++ ([61, 61, 61, 61, 61, 61, 61, 10] : Str)) ++ r_7).length ≤ 274877906944) <|
 chk (((((([60, 60, 60, 60, 60, 60, 60, 10] : Str) ++ r_4) ++ ([61, 61, 61, 61, 61, 61, 61, 10] : Str)) ++ r_7) ++ ([62, 62, 62, 62, 62, 62, 62, 10] : Str)).length ≤ 274877906944) <|
 some ((((([60, 60, 60, 60, 60, 60, 60, 10] : Str) ++ r_4) ++ ([61, 61, 61, 61, 61, 61, 61, 10] : Str)) ++ r_7) ++ ([62, 62, 62, 62, 62, 62, 62, 10] : Str), true)
noncomputable def delta_Merge_1_i1 (toX_1 : Int) (toY_2 : Int) (toZ_3 : Int) (o0_0_4 : List Str) (o1_0_5 : Int) (o2_0_6 : List Str) (o3_0_7 : Int) (o4_0_8 : List Str) (o5_0_9 : Int) (o7_10 : Str) (o8_0_11 : Int) : Option (Str × Int) :=
 chk (0 ≤ o1_0_5 ∧ o1_0_5 ≤ (o0_0_4.length : Int) ∧ 0 ≤ toX_1 ∧ toX_1 ≤ (o0_0_4.length : Int) ∧ o1_0_5 ≤ toX_1) <|
 call (strings_Join (List.take (toX_1.toNat - o1_0_5.toNat) (List.drop o1_0_5.toNat o0_0_4)) []) fun r_21 =>
 chk (0 ≤ o3_0_7 ∧ o3_0_7 ≤ (o2_0_6.length : Int) ∧ 0 ≤ toY_2 ∧ toY_2 ≤ (o2_0_6.length : Int) ∧ o3_0_7 ≤ toY_2) <|
 call (strings_Join (List.take (toY_2.toNat - o3_0_7.toNat) (List.drop o3_0_7.toNat o2_0_6)) []) fun r_23 =>
 chk (0 ≤ o5_0_9 ∧ o5_0_9 ≤ (o4_0_8.length : Int) ∧ 0 ≤ toZ_3 ∧ toZ_3 ≤ (o4_0_8.length : Int) ∧ o5_0_9 ≤ toZ_3) <|
 call (strings_Join (List.take (toZ_3.toNat - o5_0_9.toNat) (List.drop o5_0_9.toNat o4_0_8)) []) fun r_25 =>
 call (delta_settle r_21 r_23 r_25) fun r_26 =>
 call (strings_Builder_WriteString_i1 r_26.1 o7_10) fun r_27 =>
 bif r_26.2 then
  some (r_27.2, IntKind.i64.wrap (o8_0_11 + 1))
 else
 some (r_27.2, o8_0_11)
noncomputable def strings_Builder_Len_i1 (o1_1 : Str) : Option Int :=
 some (o1_1.length : Int)
noncomputable def delta_Merge (base_1 : Str) (a_2 : Str) (b_3 : Str) : Option (Str × Int × Int) :=
 call (delta_Lines base_1 a_2) fun r_4 =>
 bif !decide (r_4.2 = 0) then
  some ([], 0, r_4.2)
 else
 call (delta_Lines base_1 b_3) fun r_5 =>
 bif !decide (r_5.2 = 0) then
  some ([], 0, r_5.2)
 else
 call (delta_linesOf base_1) fun r_6 =>
 call (delta_linesOf a_2) fun r_7 =>
 call (delta_linesOf b_3) fun r_8 =>
 call (delta_places r_4.1 (r_6.length : Int)) fun r_12 =>
 call (delta_places r_5.1 (r_6.length : Int)) fun r_13 =>
 jp (S := Str × Int × Int × Int × Int) (fun s => match s with
  | (o4_46, o5_0_47, o6_0_48, o7_0_49, o8_0_50) =>
   call (delta_Merge_1_i1 (r_6.length : Int) (r_7.length : Int) (r_8.length : Int) r_6 o6_0_48 r_7 o7_0_49 r_8 o8_0_50 o4_46 o5_0_47) fun r_52 =>
   call (strings_Builder_Len_i1 r_52.1) fun r_53 =>
   bif decide (65536 < r_53) then
    some ([], 0, 4)
   else
   call (strings_Builder_String_i1 r_52.1) fun r_55 =>
   some (r_55, r_52.2, 0)) fun k_51 =>
 loopN Fuel (fun s nx_78 k_77 =>
  match s with
  | (t59_64, o4_65, o5_0_66, o6_0_67, o7_0_68, o8_0_69) =>
   bif decide (t59_64 < (r_6.length : Int)) then
    idx r_12 t59_64 fun n_79 =>
    chk ((!(decide (n_79 < 0))) = true → (0 ≤ t59_64 ∧ t59_64 < (r_13.length : Int))) <|
    bif ((decide (n_79 < 0)) || (decide ((r_13.getD t59_64.toNat 0) < 0))) then
     nx_78 (IntKind.i64.wrap (t59_64 + 1), o4_65, o5_0_66, o6_0_67, o7_0_68, o8_0_69)
    else
    idx r_13 t59_64 fun n_82 =>
    call (delta_Merge_1_i1 t59_64 n_79 n_82 r_6 o6_0_67 r_7 o7_0_68 r_8 o8_0_69 o4_65 o5_0_66) fun r_83 =>
    idx r_6 t59_64 fun s_84 =>
    call (strings_Builder_WriteString_i1 s_84 r_83.1) fun r_85 =>
    nx_78 (IntKind.i64.wrap (t59_64 + 1), r_85.2, r_83.2, IntKind.i64.wrap (t59_64 + 1), IntKind.i64.wrap (n_79 + 1), IntKind.i64.wrap (n_82 + 1))
   else
   k_77 (t59_64, o4_65, o5_0_66, o6_0_67, o7_0_68, o8_0_69)) (0, [], 0, 0, 0, 0) (fun s => match s with
  | (t59_64, o4_65, o5_0_66, o6_0_67, o7_0_68, o8_0_69) =>
   k_51 (o4_65, o5_0_66, o6_0_67, o7_0_68, o8_0_69))
noncomputable def R_linesOf (s_1 : Str) : Option (List Str) :=
 call (strings_SplitAfter s_1 ([10] : Str)) fun r_2 =>
 idx r_2 (IntKind.i64.wrap ((r_2.length : Int) - 1)) fun s_3 =>
 bif decide (s_3 = []) then
  chk (0 ≤ IntKind.i64.wrap ((r_2.length : Int) - 1) ∧ IntKind.i64.wrap ((r_2.length : Int) - 1) ≤ (r_2.length : Int)) <|
  some (List.take ((IntKind.i64.wrap ((r_2.length : Int) - 1)).toNat) r_2)
 else
 some r_2
noncomputable def R_LinesError (a_1 : Str) (b_2 : Str) : Option Int :=
 jp (S := Unit) (fun _ =>
  some 0) fun k_12 =>
 forL [a_1, b_2] 0 (fun i_18 s_20 s nx_17 k_16 =>
  callG (!(decide (65536 < (s_20.length : Int)))) (R_linesOf s_20) [] fun r_21 =>
  bif ((decide (65536 < (s_20.length : Int))) || (decide (1000 < (r_21.length : Int)))) then
   some 4
  else
  nx_17 ()) () (fun _ =>
  k_12 ())
noncomputable def math_bits_Mul64 (x_1 : Int) (y_2 : Int) : Option (Int × Int) :=
 some (IntKind.u64.wrap ((IntKind.u64.wrap ((IntKind.u64.wrap ((Int.fdiv x_1 (2 ^ (shI .u64 32))) * (Int.fdiv y_2 (2 ^ (shI .u64 32))))) + (Int.fdiv (IntKind.u64.wrap ((IntKind.u64.wrap ((Int.fdiv x_1 (2 ^ (shI .u64 32))) * (bitsI .and .u64 y_2 4294967295))) + (Int.fdiv (IntKind.u64.wrap ((bitsI .and .u64 x_1 4294967295) * (bitsI .and .u64 y_2 4294967295))) (2 ^ (shI .u64 32))))) (2 ^ (shI .u64 32))))) + (Int.fdiv (IntKind.u64.wrap ((bitsI .and .u64 (IntKind.u64.wrap ((IntKind.u64.wrap ((Int.fdiv x_1 (2 ^ (shI .u64 32))) * (bitsI .and .u64 y_2 4294967295))) + (Int.fdiv (IntKind.u64.wrap ((bitsI .and .u64 x_1 4294967295) * (bitsI .and .u64 y_2 4294967295))) (2 ^ (shI .u64 32))))) 4294967295) + (IntKind.u64.wrap ((bitsI .and .u64 x_1 4294967295) * (Int.fdiv y_2 (2 ^ (shI .u64 32))))))) (2 ^ (shI .u64 32)))), IntKind.u64.wrap (x_1 * y_2))
noncomputable def math_bits_Mul (x_1 : Int) (y_2 : Int) : Option (Int × Int) :=
 call (math_bits_Mul64 x_1 y_2) fun r_3 =>
 some (r_3.1, r_3.2)
noncomputable def internal_stringslite_HasPrefix (s_1 : Str) (prefix_2 : Str) : Option Bool :=
 chk ((decide ((prefix_2.length : Int) ≤ (s_1.length : Int))) = true → (0 ≤ (prefix_2.length : Int) ∧ (prefix_2.length : Int) ≤ (s_1.length : Int))) <|
 some ((decide ((prefix_2.length : Int) ≤ (s_1.length : Int))) && (decide ((List.take prefix_2.length s_1) = prefix_2)))
noncomputable def strings_HasPrefix (s_1 : Str) (prefix_2 : Str) : Option Bool :=
 call (internal_stringslite_HasPrefix s_1 prefix_2) fun r_3 =>
 some r_3
noncomputable def strings_Repeat (s_1 : Str) (count_2 : Int) : Option Str :=
 bif decide (count_2 = 0) then
  some []
 else
 bif decide (count_2 = 1) then
  some s_1
 else
 jp (S := Unit) (fun _ =>
  call (math_bits_Mul (IntKind.u64.wrap (s_1.length : Int)) (IntKind.u64.wrap count_2)) fun r_4 =>
  jp (S := Unit) (fun _ =>
   bif decide ((s_1.length : Int) = 0) then
    some []
   else
   jp (S := Unit) (fun _ =>
    jp (S := Int) (fun chunkMax_21 =>
     call (strings_Builder_Grow (IntKind.i64.wrap r_4.2) []) fun r_23 =>
     call (strings_Builder_WriteString_i1 s_1 []) fun r_24 =>
     jp (S := Str) (fun o1_46 =>
      call (strings_Builder_String_i1 o1_46) fun r_48 =>
      some r_48) fun k_47 =>
     loopN Fuel (fun o1_55 nx_63 k_62 =>
      call (strings_Builder_Len_i1 o1_55) fun r_64 =>
      bif decide (r_64 < (IntKind.i64.wrap r_4.2)) then
       call (strings_Builder_Len_i1 o1_55) fun r_65 =>
       call (strings_Builder_Len_i1 o1_55) fun r_66 =>
       call (strings_Builder_String_i1 o1_55) fun r_67 =>
       chk (0 ≤ min (min (IntKind.i64.wrap ((IntKind.i64.wrap r_4.2) - r_65)) r_66) chunkMax_21 ∧ min (min (IntKind.i64.wrap ((IntKind.i64.wrap r_4.2) - r_65)) r_66) chunkMax_21 ≤ (r_67.length : Int)) <|
       call (strings_Builder_WriteString_i1 (List.take ((min (min (IntKind.i64.wrap ((IntKind.i64.wrap r_4.2) - r_65)) r_66) chunkMax_21).toNat) r_67) o1_55) fun r_69 =>
       nx_63 r_69.2
      else
      k_62 o1_55) r_24.2 (fun o1_55 =>
      k_47 o1_55)) fun k_22 =>
    bif decide (8192 < (IntKind.i64.wrap r_4.2)) then
     chk (¬ (s_1.length : Int) = 0) <|
     bif decide ((IntKind.i64.wrap ((IntKind.i64.wrap (Int.tdiv 8192 (s_1.length : Int))) * (s_1.length : Int))) = 0) then
      k_22 (s_1.length : Int)
     else
     k_22 (IntKind.i64.wrap ((IntKind.i64.wrap (Int.tdiv 8192 (s_1.length : Int))) * (s_1.length : Int)))
    else
    k_22 (IntKind.i64.wrap r_4.2)) fun k_19 =>
   idxS s_1 0 fun c_71 =>
   jp (S := Bool) (fun t43_72 =>
    bif t43_72 then
     callG (decide ((IntKind.i64.wrap r_4.2) ≤ 128)) (strings_HasPrefix ((List.append [32, 32, 32, 32, 32, 32, 32, 32, 32, 32, 32, 32, 32, 32, 32, 32, 32, 32, 32, 32, 32, 32, 32, 32, 32, 32, 32, 32, 32, 32, 32, 32, 32, 32, 32, 32, 32, 32, 32, 32, 32, 32, 32, 32, 32, 32, 32, 32, 32, 32, 32, 32, 32, 32, 32, 32, 32, 32, 32, 32, 32, 32, 32, 32] [32, 32, 32, 32, 32, 32, 32, 32, 32, 32, 32, 32, 32, 32, 32, 32, 32, 32, 32, 32, 32, 32, 32, 32, 32, 32, 32, 32, 32, 32, 32, 32, 32, 32, 32, 32, 32, 32, 32, 32, 32, 32, 32, 32, 32, 32, 32, 32, 32, 32, 32, 32, 32, 32, 32, 32, 32, 32, 32, 32, 32, 32, 32, 32]) : Str) s_1) false fun r_74 =>
     bif ((decide ((IntKind.i64.wrap r_4.2) ≤ 128)) && r_74) then
      chk (0 ≤ IntKind.i64.wrap r_4.2 ∧ IntKind.i64.wrap r_4.2 ≤ (((List.append [32, 32, 32, 32, 32, 32, 32, 32, 32, 32, 32, 32, 32, 32, 32, 32, 32, 32, 32, 32, 32, 32, 32, 32, 32, 32, 32, 32, 32, 32, 32, 32, 32, 32, 32, 32, 32, 32, 32, 32, 32, 32, 32, 32, 32, 32, 32, 32, 32, 32, 32, 32, 32, 32, 32, 32, 32, 32, 32, 32, 32, 32, 32, 32] [32, 32, 32, 32, 32, 32, 32, 32, 32, 32, 32, 32, 32, 32, 32, 32, 32, 32, 32, 32, 32, 32, 32, 32, 32, 32, 32, 32, 32, 32, 32, 32, 32, 32, 32, 32, 32, 32, 32, 32, 32, 32, 32, 32, 32, 32, 32, 32, 32, 32, 32, 32, 32, 32, 32, 32, 32, 32, 32, 32, 32, 32, 32, 32]) : Str).length : Int)) <|
      some (List.take ((IntKind.i64.wrap r_4.2).toNat) ((List.append [32, 32, 32, 32, 32, 32, 32, 32, 32, 32, 32, 32, 32, 32, 32, 32, 32, 32, 32, 32, 32, 32, 32, 32, 32, 32, 32, 32, 32, 32, 32, 32, 32, 32, 32, 32, 32, 32, 32, 32, 32, 32, 32, 32, 32, 32, 32, 32, 32, 32, 32, 32, 32, 32, 32, 32, 32, 32, 32, 32, 32, 32, 32, 32] [32, 32, 32, 32, 32, 32, 32, 32, 32, 32, 32, 32, 32, 32, 32, 32, 32, 32, 32, 32, 32, 32, 32, 32, 32, 32, 32, 32, 32, 32, 32, 32, 32, 32, 32, 32, 32, 32, 32, 32, 32, 32, 32, 32, 32, 32, 32, 32, 32, 32, 32, 32, 32, 32, 32, 32, 32, 32, 32, 32, 32, 32, 32, 32]) : Str))
     else
     callG (decide ((IntKind.i64.wrap r_4.2) ≤ 128)) (strings_HasPrefix ((List.append [45, 45, 45, 45, 45, 45, 45, 45, 45, 45, 45, 45, 45, 45, 45, 45, 45, 45, 45, 45, 45, 45, 45, 45, 45, 45, 45, 45, 45, 45, 45, 45, 45, 45, 45, 45, 45, 45, 45, 45, 45, 45, 45, 45, 45, 45, 45, 45, 45, 45, 45, 45, 45, 45, 45, 45, 45, 45, 45, 45, 45, 45, 45, 45] [45, 45, 45, 45, 45, 45, 45, 45, 45, 45, 45, 45, 45, 45, 45, 45, 45, 45, 45, 45, 45, 45, 45, 45, 45, 45, 45, 45, 45, 45, 45, 45, 45, 45, 45, 45, 45, 45, 45, 45, 45, 45, 45, 45, 45, 45, 45, 45, 45, 45, 45, 45, 45, 45, 45, 45, 45, 45, 45, 45, 45, 45, 45, 45]) : Str) s_1) false fun r_76 =>
     bif ((decide ((IntKind.i64.wrap r_4.2) ≤ 128)) && r_76) then
      chk (0 ≤ IntKind.i64.wrap r_4.2 ∧ IntKind.i64.wrap r_4.2 ≤ (((List.append [45, 45, 45, 45, 45, 45, 45, 45, 45, 45, 45, 45, 45, 45, 45, 45, 45, 45, 45, 45, 45, 45, 45, 45, 45, 45, 45, 45, 45, 45, 45, 45, 45, 45, 45, 45, 45, 45, 45, 45, 45, 45, 45, 45, 45, 45, 45, 45, 45, 45, 45, 45, 45, 45, 45, 45, 45, 45, 45, 45, 45, 45, 45, 45] [45, 45, 45, 45, 45, 45, 45, 45, 45, 45, 45, 45, 45, 45, 45, 45, 45, 45, 45, 45, 45, 45, 45, 45, 45, 45, 45, 45, 45, 45, 45, 45, 45, 45, 45, 45, 45, 45, 45, 45, 45, 45, 45, 45, 45, 45, 45, 45, 45, 45, 45, 45, 45, 45, 45, 45, 45, 45, 45, 45, 45, 45, 45, 45]) : Str).length : Int)) <|
      some (List.take ((IntKind.i64.wrap r_4.2).toNat) ((List.append [45, 45, 45, 45, 45, 45, 45, 45, 45, 45, 45, 45, 45, 45, 45, 45, 45, 45, 45, 45, 45, 45, 45, 45, 45, 45, 45, 45, 45, 45, 45, 45, 45, 45, 45, 45, 45, 45, 45, 45, 45, 45, 45, 45, 45, 45, 45, 45, 45, 45, 45, 45, 45, 45, 45, 45, 45, 45, 45, 45, 45, 45, 45, 45] [45, 45, 45, 45, 45, 45, 45, 45, 45, 45, 45, 45, 45, 45, 45, 45, 45, 45, 45, 45, 45, 45, 45, 45, 45, 45, 45, 45, 45, 45, 45, 45, 45, 45, 45, 45, 45, 45, 45, 45, 45, 45, 45, 45, 45, 45, 45, 45, 45, 45, 45, 45, 45, 45, 45, 45, 45, 45, 45, 45, 45, 45, 45, 45]) : Str))
     else
     callG (decide ((IntKind.i64.wrap r_4.2) ≤ 64)) (strings_HasPrefix ([48, 48, 48, 48, 48, 48, 48, 48, 48, 48, 48, 48, 48, 48, 48, 48, 48, 48, 48, 48, 48, 48, 48, 48, 48, 48, 48, 48, 48, 48, 48, 48, 48, 48, 48, 48, 48, 48, 48, 48, 48, 48, 48, 48, 48, 48, 48, 48, 48, 48, 48, 48, 48, 48, 48, 48, 48, 48, 48, 48, 48, 48, 48, 48] : Str) s_1) false fun r_78 =>
     bif ((decide ((IntKind.i64.wrap r_4.2) ≤ 64)) && r_78) then
      chk (0 ≤ IntKind.i64.wrap r_4.2 ∧ IntKind.i64.wrap r_4.2 ≤ (([48, 48, 48, 48, 48, 48, 48, 48, 48, 48, 48, 48, 48, 48, 48, 48, 48, 48, 48, 48, 48, 48, 48, 48, 48, 48, 48, 48, 48, 48, 48, 48, 48, 48, 48, 48, 48, 48, 48, 48, 48, 48, 48, 48, 48, 48, 48, 48, 48, 48, 48, 48, 48, 48, 48, 48, 48, 48, 48, 48, 48, 48, 48, 48] : Str).length : Int)) <|
      some (List.take ((IntKind.i64.wrap r_4.2).toNat) ([48, 48, 48, 48, 48, 48, 48, 48, 48, 48, 48, 48, 48, 48, 48, 48, 48, 48, 48, 48, 48, 48, 48, 48, 48, 48, 48, 48, 48, 48, 48, 48, 48, 48, 48, 48, 48, 48, 48, 48, 48, 48, 48, 48, 48, 48, 48, 48, 48, 48, 48, 48, 48, 48, 48, 48, 48, 48, 48, 48, 48, 48, 48, 48] : Str))
     else
     callG (decide ((IntKind.i64.wrap r_4.2) ≤ 128)) (strings_HasPrefix ((List.append [61, 61, 61, 61, 61, 61, 61, 61, 61, 61, 61, 61, 61, 61, 61, 61, 61, 61, 61, 61, 61, 61, 61, 61, 61, 61, 61, 61, 61, 61, 61, 61, 61, 61, 61, 61, 61, 61, 61, 61, 61, 61, 61, 61, 61, 61, 61, 61, 61, 61, 61, 61, 61, 61, 61, 61, 61, 61, 61, 61, 61, 61, 61, 61] [61, 61, 61, 61, 61, 61, 61, 61, 61, 61, 61, 61, 61, 61, 61, 61, 61, 61, 61, 61, 61, 61, 61, 61, 61, 61, 61, 61, 61, 61, 61, 61, 61, 61, 61, 61, 61, 61, 61, 61, 61, 61, 61, 61, 61, 61, 61, 61, 61, 61, 61, 61, 61, 61, 61, 61, 61, 61, 61, 61, 61, 61, 61, 61]) : Str) s_1) false fun r_80 =>
     bif ((decide ((IntKind.i64.wrap r_4.2) ≤ 128)) && r_80) then
      chk (0 ≤ IntKind.i64.wrap r_4.2 ∧ IntKind.i64.wrap r_4.2 ≤ (((List.append [61, 61, 61, 61, 61, 61, 61, 61, 61, 61, 61, 61, 61, 61, 61, 61, 61, 61, 61, 61, 61, 61, 61, 61, 61, 61, 61, 61, 61, 61, 61, 61, 61, 61, 61, 61, 61, 61, 61, 61, 61, 61, 61, 61, 61, 61, 61, 61, 61, 61, 61, 61, 61, 61, 61, 61, 61, 61, 61, 61, 61, 61, 61, 61] [61, 61, 61, 61, 61, 61, 61, 61, 61, 61, 61, 61, 61, 61, 61, 61, 61, 61, 61, 61, 61, 61, 61, 61, 61, 61, 61, 61, 61, 61, 61, 61, 61, 61, 61, 61, 61, 61, 61, 61, 61, 61, 61, 61, 61, 61, 61, 61, 61, 61, 61, 61, 61, 61, 61, 61, 61, 61, 61, 61, 61, 61, 61, 61]) : Str).length : Int)) <|
      some (List.take ((IntKind.i64.wrap r_4.2).toNat) ((List.append [61, 61, 61, 61, 61, 61, 61, 61, 61, 61, 61, 61, 61, 61, 61, 61, 61, 61, 61, 61, 61, 61, 61, 61, 61, 61, 61, 61, 61, 61, 61, 61, 61, 61, 61, 61, 61, 61, 61, 61, 61, 61, 61, 61, 61, 61, 61, 61, 61, 61, 61, 61, 61, 61, 61, 61, 61, 61, 61, 61, 61, 61, 61, 61] [61, 61, 61, 61, 61, 61, 61, 61, 61, 61, 61, 61, 61, 61, 61, 61, 61, 61, 61, 61, 61, 61, 61, 61, 61, 61, 61, 61, 61, 61, 61, 61, 61, 61, 61, 61, 61, 61, 61, 61, 61, 61, 61, 61, 61, 61, 61, 61, 61, 61, 61, 61, 61, 61, 61, 61, 61, 61, 61, 61, 61, 61, 61, 61]) : Str))
     else
     callG (decide ((IntKind.i64.wrap r_4.2) ≤ 64)) (strings_HasPrefix ([9, 9, 9, 9, 9, 9, 9, 9, 9, 9, 9, 9, 9, 9, 9, 9, 9, 9, 9, 9, 9, 9, 9, 9, 9, 9, 9, 9, 9, 9, 9, 9, 9, 9, 9, 9, 9, 9, 9, 9, 9, 9, 9, 9, 9, 9, 9, 9, 9, 9, 9, 9, 9, 9, 9, 9, 9, 9, 9, 9, 9, 9, 9, 9] : Str) s_1) false fun r_82 =>
     bif ((decide ((IntKind.i64.wrap r_4.2) ≤ 64)) && r_82) then
      chk (0 ≤ IntKind.i64.wrap r_4.2 ∧ IntKind.i64.wrap r_4.2 ≤ (([9, 9, 9, 9, 9, 9, 9, 9, 9, 9, 9, 9, 9, 9, 9, 9, 9, 9, 9, 9, 9, 9, 9, 9, 9, 9, 9, 9, 9, 9, 9, 9, 9, 9, 9, 9, 9, 9, 9, 9, 9, 9, 9, 9, 9, 9, 9, 9, 9, 9, 9, 9, 9, 9, 9, 9, 9, 9, 9, 9, 9, 9, 9, 9] : Str).length : Int)) <|
      some (List.take ((IntKind.i64.wrap r_4.2).toNat) ([9, 9, 9, 9, 9, 9, 9, 9, 9, 9, 9, 9, 9, 9, 9, 9, 9, 9, 9, 9, 9, 9, 9, 9, 9, 9, 9, 9, 9, 9, 9, 9, 9, 9, 9, 9, 9, 9, 9, 9, 9, 9, 9, 9, 9, 9, 9, 9, 9, 9, 9, 9, 9, 9, 9, 9, 9, 9, 9, 9, 9, 9, 9, 9] : Str))
     else
     k_19 ()
    else
    k_19 ()) fun k_73 =>
   bif decide (c_71 = 32) then
    k_73 (decide (c_71 = 32))
   else
   bif decide (c_71 = 45) then
    k_73 (decide (c_71 = 45))
   else
   bif decide (c_71 = 48) then
    k_73 (decide (c_71 = 48))
   else
   bif decide (c_71 = 61) then
    k_73 (decide (c_71 = 61))
   else
   k_73 (decide (c_71 = 9))) fun k_5 =>
  bif ((decide (0 < r_4.1)) || (decide (9223372036854775807 < r_4.2))) then
   none
  else
  k_5 ()) fun k_3 =>
 bif decide (count_2 < 0) then
  none
 else
 k_3 ()
noncomputable def Law_LinesAreBounded (a_1 : Str) (many_2 : Int) : Option Bool :=
 call (Law_landed) fun r_3 =>
 bif !r_3 then
  some false
 else
 call (strings_Repeat ([10] : Str) (min (max many_2 0) 1100)) fun r_4 =>
 call (delta_Lines a_1 r_4) fun r_5 =>
 call (delta_Merge r_4 a_1 []) fun r_6 =>
 call (R_LinesError a_1 r_4) fun r_7 =>
 bif !decide (r_7 = 0) then
  some ((decide (r_5.2 = r_7)) && (decide (r_6.2.2 = r_7)))
 else
 some (decide (r_5.2 = 0))
end Go.Md
