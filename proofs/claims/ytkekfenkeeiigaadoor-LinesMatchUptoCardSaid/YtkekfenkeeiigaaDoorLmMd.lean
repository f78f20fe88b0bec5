/- Models of the functions that the statement reaches: what each computes, in plain words. -/
import Derived.Test.YtkekfenkeeiigaaDoorVc4
set_option linter.unusedVariables false
namespace Go.Md
open Go.Vc
instance theTabs : Tabs := ⟨fun b => none, fun b => false, fun e => bif Nat.beq e 57 then some (0, 3, 1) else none⟩
theorem nest_3 : Tabs.nest 3 = none := rfl
attribute [go_sem] nest_3
theorem nest_5 : Tabs.nest 5 = none := rfl
attribute [go_sem] nest_5
theorem nest_9 : Tabs.nest 9 = none := rfl
attribute [go_sem] nest_9
theorem nest_25 : Tabs.nest 25 = none := rfl
attribute [go_sem] nest_25
theorem nest_29 : Tabs.nest 29 = none := rfl
attribute [go_sem] nest_29
theorem nest_49 : Tabs.nest 49 = none := rfl
attribute [go_sem] nest_49
theorem nest_57 : Tabs.nest 57 = some (0, 3, 1) := rfl
attribute [go_sem] nest_57
theorem nest_63 : Tabs.nest 63 = none := rfl
attribute [go_sem] nest_63
theorem nest_115 : Tabs.nest 115 = none := rfl
attribute [go_sem] nest_115
theorem nest_138 : Tabs.nest 138 = none := rfl
attribute [go_sem] nest_138
theorem nest_157 : Tabs.nest 157 = none := rfl
attribute [go_sem] nest_157
def ecB (b : Bool) : List Dt := [.b b]
def ecS (x : Str) : List Dt := [.s x]
def ecI_i8 (n : Int) : List Dt := [.i .i8 n]
def ecI_i16 (n : Int) : List Dt := [.i .i16 n]
def ecI_i32 (n : Int) : List Dt := [.i .i32 n]
def ecI_i64 (n : Int) : List Dt := [.i .i64 n]
def ecI_u8 (n : Int) : List Dt := [.i .u8 n]
def ecI_u16 (n : Int) : List Dt := [.i .u16 n]
def ecI_u32 (n : Int) : List Dt := [.i .u32 n]
def ecI_u64 (n : Int) : List Dt := [.i .u64 n]
theorem dec1_s : ∀ r, hasR r [.s] → ∃ x, r = ecS x := by
 intro r h
 rcases r with _ | ⟨d, _ | _⟩ <;> simp only [hasR, and_false, and_true] at h
 cases d <;> simp only [hasT] at h
 exact ⟨_, rfl⟩
theorem dec1_i64 : ∀ r, hasR r [.i .i64] → ∃ x, r = ecI_i64 x := by
 intro r h
 rcases r with _ | ⟨d, _ | _⟩ <;> simp only [hasR, and_false, and_true] at h
 cases d <;> simp only [hasT] at h
 subst h
 exact ⟨_, rfl⟩
theorem dec1_u8 : ∀ r, hasR r [.i .u8] → ∃ x, r = ecI_u8 x := by
 intro r h
 rcases r with _ | ⟨d, _ | _⟩ <;> simp only [hasR, and_false, and_true] at h
 cases d <;> simp only [hasT] at h
 subst h
 exact ⟨_, rfl⟩
structure Arr2_Int where
 a0 : Int
 a1 : Int
def enc_Arr2_Int (x : Arr2_Int) : List Dt := [.i .i64 x.a0, .i .i64 x.a1]
def sh_Arr2_Int : List Sh := [.i .i64, .i .i64]
theorem dec_Arr2_Int : ∀ r, hasR r sh_Arr2_Int → ∃ x : Arr2_Int, r = enc_Arr2_Int x := by
 intro r h
 unfold sh_Arr2_Int at h
 rcases r with _ | ⟨d0, _ | ⟨d1, _ | _⟩⟩ <;> simp only [hasR, and_false, and_true] at h
 obtain ⟨h0, h1⟩ := h
 cases d0 <;> simp only [hasT] at h0
 subst h0
 cases d1 <;> simp only [hasT] at h1
 subst h1
 exact ⟨⟨_, _⟩, rfl⟩
def encL_ecI_i64 (x : List Int) : List Dt := [.l (List.map ecI_i64 x)]
def eN_encL_ecI_i64 (x : List Int) : List Dt := [.b false]
def iN_encL_ecI_i64 (x : List Int) : List (List Dt) := List.map ecI_i64 x
theorem mrg_57 (l : List (List Int)) : mrg 0 (List.map eN_encL_ecI_i64 l) (List.map iN_encL_ecI_i64 l) = List.map encL_ecI_i64 l := mrg_map (fun _ => rfl) l
theorem sz_eN_encL_ecI_i64 : ∀ l, szOk (1) (List.map eN_encL_ecI_i64 l) = True := fun l => eq_true (by intro r hr; obtain ⟨x, _, rfl⟩ := List.mem_map.1 hr; rfl)
attribute [go_sem] mrg_57 sz_eN_encL_ecI_i64 eN_encL_ecI_i64 iN_encL_ecI_i64
theorem sz_ecB : ∀ l, szOk (1) (List.map ecB l) = True := fun l => eq_true (by intro r hr; obtain ⟨x, _, rfl⟩ := List.mem_map.1 hr; rfl)
theorem sz_ecS : ∀ l, szOk (1) (List.map ecS l) = True := fun l => eq_true (by intro r hr; obtain ⟨x, _, rfl⟩ := List.mem_map.1 hr; rfl)
theorem sz_ecI_i64 : ∀ l, szOk (1) (List.map ecI_i64 l) = True := fun l => eq_true (by intro r hr; obtain ⟨x, _, rfl⟩ := List.mem_map.1 hr; rfl)
theorem sz_ecI_u8 : ∀ l, szOk (1) (List.map ecI_u8 l) = True := fun l => eq_true (by intro r hr; obtain ⟨x, _, rfl⟩ := List.mem_map.1 hr; rfl)
theorem sz_ecI_u64 : ∀ l, szOk (1) (List.map ecI_u64 l) = True := fun l => eq_true (by intro r hr; obtain ⟨x, _, rfl⟩ := List.mem_map.1 hr; rfl)
theorem sz_ecI_i32 : ∀ l, szOk (1) (List.map ecI_i32 l) = True := fun l => eq_true (by intro r hr; obtain ⟨x, _, rfl⟩ := List.mem_map.1 hr; rfl)
theorem sz_ecI_u32 : ∀ l, szOk (1) (List.map ecI_u32 l) = True := fun l => eq_true (by intro r hr; obtain ⟨x, _, rfl⟩ := List.mem_map.1 hr; rfl)
theorem sz_enc_Arr2_Int : ∀ l, szOk (2) (List.map enc_Arr2_Int l) = True := fun l => eq_true (by intro r hr; obtain ⟨x, _, rfl⟩ := List.mem_map.1 hr; rfl)
theorem sz_encL_ecI_i64 : ∀ l, szOk (1) (List.map encL_ecI_i64 l) = True := fun l => eq_true (by intro r hr; obtain ⟨x, _, rfl⟩ := List.mem_map.1 hr; rfl)
theorem allB_enc : ∀ l : List Int, allB (List.map ecI_u8 l) = True
 | [] => by simp only [List.map_nil, allB]
 | _ :: l => by simp only [List.map_cons, ecI_u8, allB, allB_enc l, and_self]
theorem unB_enc : ∀ l : List Int, unB (List.map ecI_u8 l) = Go.Vc.strOf l
 | [] => by simp only [List.map_nil, unB, Go.Vc.strOf]
 | _ :: l => by simp only [List.map_cons, ecI_u8, unB, unB_enc l, Go.Vc.strOf]
theorem bR_enc (l : Str) : bR l = List.map ecI_u8 (bytesOf l) := by simp [bR, bytesOf, ecI_u8]
attribute [go_sem] allB_enc unB_enc bR_enc
attribute [go_sem] ecB ecS ecI_i64 ecI_u8 ecI_u64 ecI_i32 ecI_u32 enc_Arr2_Int encL_ecI_i64 sz_ecB sz_ecS sz_ecI_i64 sz_ecI_u8 sz_ecI_u64 sz_ecI_i32 sz_ecI_u32 sz_enc_Arr2_Int sz_encL_ecI_i64
noncomputable def ver_isSmall (c_1 : Int) : Option Bool :=
 some ((decide (97 ≤ c_1)) && (decide (c_1 ≤ 122)))
noncomputable def ver_isDigit (c_1 : Int) : Option Bool :=
 some ((decide (48 ≤ c_1)) && (decide (c_1 ≤ 57)))
noncomputable def ver_IsName_1 (c_1 : Int) : Option Bool :=
 call (ver_isSmall c_1) fun r_2 =>
 callG (!r_2) (ver_isDigit c_1) false fun r_3 =>
 some (((r_2 || r_3) || (decide (c_1 = 45))) || (decide (c_1 = 46)))
noncomputable def ver_each_i1 (s_1 : Str) (most_2 : Int) : Option Bool :=
 jp (S := Unit) (fun _ =>
  some ((!decide (s_1 = [])) && (decide ((s_1.length : Int) ≤ most_2)))) fun k_12 =>
 forL s_1 0 (fun i_18 c_20 s nx_17 k_16 =>
  call (ver_IsName_1 (c_20.toNat : Int)) fun r_21 =>
  bif !r_21 then
   some false
  else
  nx_17 ()) () (fun _ =>
  k_12 ())
noncomputable def ver_IsName (s_1 : Str) : Option Bool :=
 call (ver_each_i1 s_1 40) fun r_2 =>
 chk (r_2 = true → (0 ≤ 0 ∧ 0 < (s_1.length : Int))) <|
 callG r_2 (ver_isSmall ((s_1.getD 0 0).toNat : Int)) false fun r_4 =>
 some (r_2 && r_4)
noncomputable def Law_landed  : Option Bool :=
 call (ver_IsName ([97] : Str)) fun r_1 =>
 some r_1
noncomputable def Law_short (s_1 : Str) : Option Str :=
 chk (0 ≤ min (s_1.length : Int) 600 ∧ min (s_1.length : Int) 600 ≤ (s_1.length : Int)) <|
 some (List.take ((min (s_1.length : Int) 600).toNat) s_1)
noncomputable def internal_stringslite_IndexByte (s_1 : Str) (c_2 : Int) : Option Int :=
 some (ixByte s_1 c_2)
noncomputable def internal_stringslite_Index (s_1 : Str) (substr_2 : Str) : Option Int :=
 bif ((decide ((substr_2.length : Int) = 0)) || (decide (substr_2 = s_1))) then
  some 0
 else
 bif decide ((substr_2.length : Int) = 1) then
  idxS substr_2 0 fun c_3 =>
  call (internal_stringslite_IndexByte s_1 c_3) fun r_4 =>
  some r_4
 else
 bif decide ((s_1.length : Int) ≤ (substr_2.length : Int)) then
  some (-1)
 else
 none
noncomputable def strings_Index (s_1 : Str) (substr_2 : Str) : Option Int :=
 call (internal_stringslite_Index s_1 substr_2) fun r_3 =>
 some r_3
noncomputable def strings_Count (s_1 : Str) (substr_2 : Str) : Option Int :=
 bif decide ((substr_2.length : Int) = 0) then
  none
 else
 bif decide ((substr_2.length : Int) = 1) then
  idxS substr_2 0 fun c_3 =>
  some (cntByte s_1 c_3)
 else
 loopN Fuel (fun s nx_15 k_14 =>
  match s with
  | (s_10, n_11) =>
   call (strings_Index s_10 substr_2) fun r_16 =>
   bif decide (r_16 = (-1)) then
    some n_11
   else
   chk (0 ≤ IntKind.i64.wrap (r_16 + (substr_2.length : Int)) ∧ IntKind.i64.wrap (r_16 + (substr_2.length : Int)) ≤ (s_10.length : Int)) <|
   nx_15 (List.drop ((IntKind.i64.wrap (r_16 + (substr_2.length : Int))).toNat) s_10, IntKind.i64.wrap (n_11 + 1))) (s_1, 0) (fun s => match s with
  | (s_10, n_11) =>
   none)
noncomputable def strings_genSplit (s_1 : Str) (sep_2 : Str) (sepSave_3 : Int) (n_4 : Int) : Option (List Str) :=
 bif decide (n_4 = 0) then
  some []
 else
 bif decide (sep_2 = []) then
  none
 else
 jp (S := Int) (fun n_6 =>
  chk (0 ≤ min n_6 (IntKind.i64.wrap ((s_1.length : Int) + 1)) ∧ min n_6 (IntKind.i64.wrap ((s_1.length : Int) + 1)) ≤ min n_6 (IntKind.i64.wrap ((s_1.length : Int) + 1)) ∧ min n_6 (IntKind.i64.wrap ((s_1.length : Int) + 1)) ≤ 274877906944) <|
  jp (S := Str × Int × List Str) (fun s => match s with
   | (s_28, i_29, o0_30) =>
    chk (0 ≤ i_29 ∧ i_29 < (o0_30.length : Int)) <|
    chk (0 ≤ IntKind.i64.wrap (i_29 + 1) ∧ IntKind.i64.wrap (i_29 + 1) ≤ ((List.set o0_30 i_29.toNat s_28).length : Int)) <|
    some (List.take ((IntKind.i64.wrap (i_29 + 1)).toNat) (List.set o0_30 i_29.toNat s_28))) fun k_31 =>
  loopN Fuel (fun s nx_48 k_47 =>
   match s with
   | (s_40, i_41, o0_42) =>
    bif decide (i_41 < (IntKind.i64.wrap ((min n_6 (IntKind.i64.wrap ((s_1.length : Int) + 1))) - 1))) then
     call (strings_Index s_40 sep_2) fun r_49 =>
     bif decide (r_49 < 0) then
      k_47 (s_40, i_41, o0_42)
     else
     chk (0 ≤ IntKind.i64.wrap (r_49 + sepSave_3) ∧ IntKind.i64.wrap (r_49 + sepSave_3) ≤ (s_40.length : Int)) <|
     chk (0 ≤ i_41 ∧ i_41 < (o0_42.length : Int)) <|
     chk (0 ≤ IntKind.i64.wrap (r_49 + (sep_2.length : Int)) ∧ IntKind.i64.wrap (r_49 + (sep_2.length : Int)) ≤ (s_40.length : Int)) <|
     nx_48 (List.drop ((IntKind.i64.wrap (r_49 + (sep_2.length : Int))).toNat) s_40, IntKind.i64.wrap (i_41 + 1), List.set o0_42 i_41.toNat (List.take ((IntKind.i64.wrap (r_49 + sepSave_3)).toNat) s_40))
    else
    k_47 (s_40, i_41, o0_42)) (s_1, 0, List.replicate ((min n_6 (IntKind.i64.wrap ((s_1.length : Int) + 1))).toNat) []) (fun s => match s with
   | (s_40, i_41, o0_42) =>
    k_31 (s_40, i_41, o0_42))) fun k_7 =>
 bif decide (n_4 < 0) then
  call (strings_Count s_1 sep_2) fun r_53 =>
  k_7 (IntKind.i64.wrap (r_53 + 1))
 else
 k_7 n_4
noncomputable def strings_SplitAfter (s_1 : Str) (sep_2 : Str) : Option (List Str) :=
 call (strings_genSplit s_1 sep_2 (sep_2.length : Int) (-1)) fun r_3 =>
 some r_3
noncomputable def delta_linesOf (s_1 : Str) : Option (List Str) :=
 call (strings_SplitAfter s_1 ([10] : Str)) fun r_2 =>
 idx r_2 (IntKind.i64.wrap ((r_2.length : Int) - 1)) fun s_3 =>
 bif decide (s_3 = []) then
  chk (0 ≤ IntKind.i64.wrap ((r_2.length : Int) - 1) ∧ IntKind.i64.wrap ((r_2.length : Int) - 1) ≤ (r_2.length : Int)) <|
  some (List.take ((IntKind.i64.wrap ((r_2.length : Int) - 1)).toNat) r_2)
 else
 some r_2
noncomputable def delta_linesFault (s_1 : Str) (l_2 : List Str) : Option Int :=
 bif ((decide (65536 < (s_1.length : Int))) || (decide (1000 < (l_2.length : Int)))) then
  some 4
 else
 some 0
noncomputable def delta_numbered_i1 (l_1 : List Str) (m0_2 : List (Str × Int)) : Option (List Int × (List (Str × Int))) :=
 jp (S := (List (Str × Int)) × List Int) (fun s => match s with
  | (m0_93, o1_94) =>
   some (o1_94, m0_93)) fun k_95 =>
 forL l_1 0 (fun i_116 s_118 s nx_115 k_114 =>
  match s with
  | (m0_105, o1_106) =>
   letv (alook m0_105 s_118) fun q_119 =>
   bif !q_119.isSome then
    chk ((aset m0_105 s_118 (m0_105.length : Int)).length ≤ 274877906944) <|
    chk ((o1_106 ++ [(m0_105.length : Int)]).length ≤ 274877906944) <|
    nx_115 (aset m0_105 s_118 (m0_105.length : Int), o1_106 ++ [(m0_105.length : Int)])
   else
   chk ((o1_106 ++ [(q_119.getD 0)]).length ≤ 274877906944) <|
   nx_115 (m0_105, o1_106 ++ [(q_119.getD 0)])) (m0_2, []) (fun s => match s with
  | (m0_105, o1_106) =>
   k_95 (m0_105, o1_106))
noncomputable def slices_Index_int_int (s_1 : List Int) (v_2 : Int) : Option Int :=
 jp (S := Unit) (fun _ =>
  some (-1)) fun k_10 =>
 forL s_1 0 (fun i_15 n_17 s nx_14 k_13 =>
  bif decide (v_2 = n_17) then
   some (i_15 : Int)
  else
  nx_14 ()) () (fun _ =>
  k_10 ())
noncomputable def delta_common (x_1 : List Str) (y_2 : List Str) : Option (List Arr2_Int) :=
 call (delta_numbered_i1 x_1 []) fun r_3 =>
 call (delta_numbered_i1 y_2 r_3.2) fun r_4 =>
 chk (0 ≤ IntKind.i64.wrap ((r_3.1.length : Int) + 1) ∧ IntKind.i64.wrap ((r_3.1.length : Int) + 1) ≤ IntKind.i64.wrap ((r_3.1.length : Int) + 1) ∧ IntKind.i64.wrap ((r_3.1.length : Int) + 1) ≤ 274877906944) <|
 letv (List.replicate ((IntKind.i64.wrap ((r_3.1.length : Int) + 1)).toNat) []) fun v_6 =>
 jp (S := List (List Int)) (fun o1_31 =>
  jp (S := List (List Int)) (fun o1_650 =>
   jp (S := List Arr2_Int) (fun o3_772 =>
    some o3_772) fun k_773 =>
   forL r_3.1 0 (fun i_855 n_857 s nx_854 k_853 =>
    match s with
    | (k_813, o3_815) =>
     chk (0 ≤ k_813 ∧ k_813 ≤ (r_4.1.length : Int)) <|
     call (slices_Index_int_int (List.drop k_813.toNat r_4.1) n_857) fun r_859 =>
     chk ((!(decide (r_859 < 0))) = true → (0 ≤ IntKind.i64.wrap ((i_855 : Int) + 1) ∧ IntKind.i64.wrap ((i_855 : Int) + 1) < (o1_650.length : Int))) <|
     chk ((!(decide (r_859 < 0))) = true → (0 ≤ IntKind.i64.wrap ((IntKind.i64.wrap (k_813 + r_859)) + 1) ∧ IntKind.i64.wrap ((IntKind.i64.wrap (k_813 + r_859)) + 1) < ((o1_650.getD ((IntKind.i64.wrap ((i_855 : Int) + 1)).toNat) []).length : Int))) <|
     chk ((!(decide (r_859 < 0))) = true → (0 ≤ (i_855 : Int) ∧ (i_855 : Int) < (o1_650.length : Int))) <|
     chk ((!(decide (r_859 < 0))) = true → (0 ≤ k_813 ∧ k_813 < ((o1_650.getD i_855 []).length : Int))) <|
     bif ((decide (r_859 < 0)) || (!decide ((IntKind.i64.wrap (1 + ((o1_650.getD ((IntKind.i64.wrap ((i_855 : Int) + 1)).toNat) []).getD ((IntKind.i64.wrap ((IntKind.i64.wrap (k_813 + r_859)) + 1)).toNat) 0))) = ((o1_650.getD i_855 []).getD k_813.toNat 0)))) then
      nx_854 (k_813, o3_815)
     else
     chk ((o3_815 ++ [(Arr2_Int.mk (i_855 : Int) (IntKind.i64.wrap (k_813 + r_859)))]).length ≤ 274877906944) <|
     nx_854 (IntKind.i64.wrap (k_813 + (IntKind.i64.wrap (r_859 + 1))), o3_815 ++ [(Arr2_Int.mk (i_855 : Int) (IntKind.i64.wrap (k_813 + r_859)))])) (0, []) (fun s => match s with
    | (k_813, o3_815) =>
     k_773 o3_815)) fun k_651 =>
  loopN Fuel (fun s nx_1306 k_1305 =>
   match s with
   | (i_1099, o1_1100) =>
    bif decide (0 ≤ i_1099) then
     jp (S := List (List Int)) (fun o1_1408 =>
      nx_1306 (IntKind.i64.wrap (i_1099 - 1), o1_1408)) fun k_1409 =>
     loopN Fuel (fun s nx_1478 k_1477 =>
      match s with
      | (k_1443, o1_1444) =>
       bif decide (0 ≤ k_1443) then
        chk (0 ≤ i_1099 ∧ i_1099 < (o1_1444.length : Int)) <|
        chk (0 ≤ IntKind.i64.wrap (i_1099 + 1) ∧ IntKind.i64.wrap (i_1099 + 1) < (o1_1444.length : Int)) <|
        chk (0 ≤ k_1443 ∧ k_1443 < ((o1_1444.getD ((IntKind.i64.wrap (i_1099 + 1)).toNat) []).length : Int)) <|
        chk (0 ≤ i_1099 ∧ i_1099 < (o1_1444.length : Int)) <|
        chk (0 ≤ IntKind.i64.wrap (k_1443 + 1) ∧ IntKind.i64.wrap (k_1443 + 1) < ((o1_1444.getD i_1099.toNat []).length : Int)) <|
        chk (0 ≤ k_1443 ∧ k_1443 < ((o1_1444.getD i_1099.toNat []).length : Int)) <|
        letv (List.set o1_1444 i_1099.toNat (List.set (o1_1444.getD i_1099.toNat []) k_1443.toNat (max ((o1_1444.getD ((IntKind.i64.wrap (i_1099 + 1)).toNat) []).getD k_1443.toNat 0) ((o1_1444.getD i_1099.toNat []).getD ((IntKind.i64.wrap (k_1443 + 1)).toNat) 0)))) fun v_1486 =>
        idx r_3.1 i_1099 fun n_1494 =>
        idx r_4.1 k_1443 fun n_1495 =>
        bif decide (n_1494 = n_1495) then
         chk (0 ≤ i_1099 ∧ i_1099 < (v_1486.length : Int)) <|
         chk (0 ≤ i_1099 ∧ i_1099 < (v_1486.length : Int)) <|
         chk (0 ≤ k_1443 ∧ k_1443 < ((v_1486.getD i_1099.toNat []).length : Int)) <|
         chk (0 ≤ IntKind.i64.wrap (i_1099 + 1) ∧ IntKind.i64.wrap (i_1099 + 1) < (v_1486.length : Int)) <|
         chk (0 ≤ IntKind.i64.wrap (k_1443 + 1) ∧ IntKind.i64.wrap (k_1443 + 1) < ((v_1486.getD ((IntKind.i64.wrap (i_1099 + 1)).toNat) []).length : Int)) <|
         chk (0 ≤ k_1443 ∧ k_1443 < ((v_1486.getD i_1099.toNat []).length : Int)) <|
         letv (List.set v_1486 i_1099.toNat (List.set (v_1486.getD i_1099.toNat []) k_1443.toNat (max ((v_1486.getD i_1099.toNat []).getD k_1443.toNat 0) (IntKind.i64.wrap (1 + ((v_1486.getD ((IntKind.i64.wrap (i_1099 + 1)).toNat) []).getD ((IntKind.i64.wrap (k_1443 + 1)).toNat) 0)))))) fun v_1503 =>
         nx_1478 (IntKind.i64.wrap (k_1443 - 1), v_1503)
        else
        nx_1478 (IntKind.i64.wrap (k_1443 - 1), v_1486)
       else
       k_1477 (k_1443, o1_1444)) (IntKind.i64.wrap ((r_4.1.length : Int) - 1), o1_1100) (fun s => match s with
      | (k_1443, o1_1444) =>
       k_1409 o1_1444)
    else
    k_1305 (i_1099, o1_1100)) (IntKind.i64.wrap ((r_3.1.length : Int) - 1), o1_31) (fun s => match s with
   | (i_1099, o1_1100) =>
    k_651 o1_1100)) fun k_32 =>
 loopN Fuel (fun s nx_1527 k_1526 =>
  match s with
  | (t29_1518, o1_1519) =>
   bif decide (t29_1518 < (v_6.length : Int)) then
    chk (0 ≤ IntKind.i64.wrap ((r_4.1.length : Int) + 1) ∧ IntKind.i64.wrap ((r_4.1.length : Int) + 1) ≤ IntKind.i64.wrap ((r_4.1.length : Int) + 1) ∧ IntKind.i64.wrap ((r_4.1.length : Int) + 1) ≤ 274877906944) <|
    chk (0 ≤ t29_1518 ∧ t29_1518 < (o1_1519.length : Int)) <|
    letv (List.set o1_1519 t29_1518.toNat (List.replicate ((IntKind.i64.wrap ((r_4.1.length : Int) + 1)).toNat) 0)) fun v_1531 =>
    nx_1527 (IntKind.i64.wrap (t29_1518 + 1), v_1531)
   else
   k_1526 (t29_1518, o1_1519)) (0, v_6) (fun s => match s with
  | (t29_1518, o1_1519) =>
   k_32 o1_1519)
noncomputable def delta_Lines (a_1 : Str) (b_2 : Str) : Option (List Arr2_Int × Int) :=
 call (delta_linesOf a_1) fun r_3 =>
 call (delta_linesOf b_2) fun r_4 =>
 call (delta_linesFault a_1 r_3) fun r_5 =>
 bif !decide (r_5 = 0) then
  some ([], r_5)
 else
 call (delta_linesFault b_2 r_4) fun r_6 =>
 bif !decide (r_6 = 0) then
  some ([], r_6)
 else
 call (delta_common r_3 r_4) fun r_7 =>
 some (r_7, 0)
noncomputable def Law_lines (s_1 : Str) : Option (List Str) :=
 call (strings_SplitAfter s_1 ([10] : Str)) fun r_2 =>
 idx r_2 (IntKind.i64.wrap ((r_2.length : Int) - 1)) fun s_3 =>
 bif decide (s_3 = []) then
  chk (0 ≤ IntKind.i64.wrap ((r_2.length : Int) - 1) ∧ IntKind.i64.wrap ((r_2.length : Int) - 1) ≤ (r_2.length : Int)) <|
  some (List.take ((IntKind.i64.wrap ((r_2.length : Int) - 1)).toNat) r_2)
 else
 some r_2
noncomputable def slices_Clone_int_int_new (s_1 : List Int) : Option (List Int) :=
 anyOf (fun b_5 : Bool => b_5 = true → s_1 = []) fun b_5 =>
 bif b_5 then
  some []
 else
 chk (([] ++ s_1).length ≤ 274877906944) <|
 some ([] ++ s_1)
noncomputable def R_fits (x_1 : List Str) (y_2 : List Str) (places_3 : List Int) (left_4 : Int) (long_5 : List (List Int)) : Option Bool :=
 jp (S := Int) (fun j_115 =>
  idx places_3 (IntKind.i64.wrap ((places_3.length : Int) - 1)) fun n_117 =>
  idx long_5 (IntKind.i64.wrap (n_117 + 1)) fun l_118 =>
  idx l_118 j_115 fun n_119 =>
  some (decide (left_4 ≤ n_119))) fun k_116 =>
 forL places_3 0 (fun i_176 n_178 j_120 nx_175 k_174 =>
  jp (S := Int) (fun j_203 =>
   nx_175 j_203) fun k_204 =>
  jp (S := Int) (fun j_216 =>
   bif decide (j_216 = (y_2.length : Int)) then
    some false
   else
   k_204 (IntKind.i64.wrap (j_216 + 1))) fun k_217 =>
  loopN Fuel (fun j_218 nx_224 k_223 =>
   chk ((decide (j_218 < (y_2.length : Int))) = true → (0 ≤ j_218 ∧ j_218 < (y_2.length : Int))) <|
   chk ((decide (j_218 < (y_2.length : Int))) = true → (0 ≤ n_178 ∧ n_178 < (x_1.length : Int))) <|
   bif ((decide (j_218 < (y_2.length : Int))) && (!decide ((y_2.getD j_218.toNat []) = (x_1.getD n_178.toNat [])))) then
    nx_224 (IntKind.i64.wrap (j_218 + 1))
   else
   k_223 j_218) j_120 (fun j_218 =>
   k_217 j_218)) 0 (fun j_120 =>
  k_116 j_120)
noncomputable def R_Pairs (x_1 : List Str) (y_2 : List Str) : Option (List Arr2_Int) :=
 chk (0 ≤ IntKind.i64.wrap ((x_1.length : Int) + 1) ∧ IntKind.i64.wrap ((x_1.length : Int) + 1) ≤ IntKind.i64.wrap ((x_1.length : Int) + 1) ∧ IntKind.i64.wrap ((x_1.length : Int) + 1) ≤ 274877906944) <|
 letv (List.replicate ((IntKind.i64.wrap ((x_1.length : Int) + 1)).toNat) []) fun v_4 =>
 jp (S := List (List Int)) (fun o0_29 =>
  jp (S := List (List Int)) (fun o0_648 =>
   jp (S := List Int) (fun o2_674 =>
    jp (S := List Arr2_Int) (fun o3_807 =>
     some o3_807) fun k_808 =>
    forC o2_674.length 0 (fun i_898 s nx_897 k_896 =>
     match s with
     | (j_852, o3_854) =>
      jp (S := Int × List Arr2_Int) (fun s => match s with
       | (j_919, o3_920) =>
        nx_897 (j_919, o3_920)) fun k_921 =>
      jp (S := Int) (fun j_930 =>
       chk ((o3_854 ++ [(Arr2_Int.mk (o2_674.getD i_898 0) j_930)]).length ≤ 274877906944) <|
       k_921 (IntKind.i64.wrap (j_930 + 1), o3_854 ++ [(Arr2_Int.mk (o2_674.getD i_898 0) j_930)])) fun k_931 =>
      loopN Fuel (fun j_933 nx_937 k_936 =>
       idx y_2 j_933 fun s_938 =>
       idx x_1 (o2_674.getD i_898 0) fun s_939 =>
       bif !decide (s_938 = s_939) then
        nx_937 (IntKind.i64.wrap (j_933 + 1))
       else
       k_936 j_933) j_852 (fun j_933 =>
       k_931 j_933)) (0, []) (fun s => match s with
     | (j_852, o3_854) =>
      k_808 o3_854)) fun k_675 =>
   chk (0 ≤ 0 ∧ 0 < (o0_648.length : Int)) <|
   chk (0 ≤ 0 ∧ 0 < ((o0_648.getD 0 []).length : Int)) <|
   loopN Fuel (fun s nx_959 k_958 =>
    match s with
    | (i_951, left_952, o2_953) =>
     bif decide (0 < left_952) then
      call (slices_Clone_int_int_new o2_953) fun r_960 =>
      chk ((r_960 ++ [i_951]).length ≤ 274877906944) <|
      call (R_fits x_1 y_2 (r_960 ++ [i_951]) (IntKind.i64.wrap (left_952 - 1)) o0_648) fun r_962 =>
      bif r_962 then
       chk ((o2_953 ++ [i_951]).length ≤ 274877906944) <|
       nx_959 (IntKind.i64.wrap (i_951 + 1), IntKind.i64.wrap (left_952 - 1), o2_953 ++ [i_951])
      else
      nx_959 (IntKind.i64.wrap (i_951 + 1), left_952, o2_953)
     else
     k_958 (i_951, left_952, o2_953)) (0, ((o0_648.getD 0 []).getD 0 0), []) (fun s => match s with
    | (i_951, left_952, o2_953) =>
     k_675 o2_953)) fun k_649 =>
  loopN Fuel (fun s nx_1376 k_1375 =>
   match s with
   | (i_1169, o0_1170) =>
    bif decide (0 ≤ i_1169) then
     jp (S := List (List Int)) (fun o0_1478 =>
      nx_1376 (IntKind.i64.wrap (i_1169 - 1), o0_1478)) fun k_1479 =>
     loopN Fuel (fun s nx_1548 k_1547 =>
      match s with
      | (j_1513, o0_1514) =>
       bif decide (0 ≤ j_1513) then
        chk (0 ≤ i_1169 ∧ i_1169 < (o0_1514.length : Int)) <|
        chk (0 ≤ IntKind.i64.wrap (i_1169 + 1) ∧ IntKind.i64.wrap (i_1169 + 1) < (o0_1514.length : Int)) <|
        chk (0 ≤ j_1513 ∧ j_1513 < ((o0_1514.getD ((IntKind.i64.wrap (i_1169 + 1)).toNat) []).length : Int)) <|
        chk (0 ≤ i_1169 ∧ i_1169 < (o0_1514.length : Int)) <|
        chk (0 ≤ IntKind.i64.wrap (j_1513 + 1) ∧ IntKind.i64.wrap (j_1513 + 1) < ((o0_1514.getD i_1169.toNat []).length : Int)) <|
        chk (0 ≤ j_1513 ∧ j_1513 < ((o0_1514.getD i_1169.toNat []).length : Int)) <|
        letv (List.set o0_1514 i_1169.toNat (List.set (o0_1514.getD i_1169.toNat []) j_1513.toNat (max ((o0_1514.getD ((IntKind.i64.wrap (i_1169 + 1)).toNat) []).getD j_1513.toNat 0) ((o0_1514.getD i_1169.toNat []).getD ((IntKind.i64.wrap (j_1513 + 1)).toNat) 0)))) fun v_1556 =>
        idx x_1 i_1169 fun s_1564 =>
        idx y_2 j_1513 fun s_1565 =>
        bif decide (s_1564 = s_1565) then
         chk (0 ≤ i_1169 ∧ i_1169 < (v_1556.length : Int)) <|
         chk (0 ≤ i_1169 ∧ i_1169 < (v_1556.length : Int)) <|
         chk (0 ≤ j_1513 ∧ j_1513 < ((v_1556.getD i_1169.toNat []).length : Int)) <|
         chk (0 ≤ IntKind.i64.wrap (i_1169 + 1) ∧ IntKind.i64.wrap (i_1169 + 1) < (v_1556.length : Int)) <|
         chk (0 ≤ IntKind.i64.wrap (j_1513 + 1) ∧ IntKind.i64.wrap (j_1513 + 1) < ((v_1556.getD ((IntKind.i64.wrap (i_1169 + 1)).toNat) []).length : Int)) <|
         chk (0 ≤ j_1513 ∧ j_1513 < ((v_1556.getD i_1169.toNat []).length : Int)) <|
         letv (List.set v_1556 i_1169.toNat (List.set (v_1556.getD i_1169.toNat []) j_1513.toNat (max ((v_1556.getD i_1169.toNat []).getD j_1513.toNat 0) (IntKind.i64.wrap (1 + ((v_1556.getD ((IntKind.i64.wrap (i_1169 + 1)).toNat) []).getD ((IntKind.i64.wrap (j_1513 + 1)).toNat) 0)))))) fun v_1573 =>
         nx_1548 (IntKind.i64.wrap (j_1513 - 1), v_1573)
        else
        nx_1548 (IntKind.i64.wrap (j_1513 - 1), v_1556)
       else
       k_1547 (j_1513, o0_1514)) (IntKind.i64.wrap ((y_2.length : Int) - 1), o0_1170) (fun s => match s with
      | (j_1513, o0_1514) =>
       k_1479 o0_1514)
    else
    k_1375 (i_1169, o0_1170)) (IntKind.i64.wrap ((x_1.length : Int) - 1), o0_29) (fun s => match s with
   | (i_1169, o0_1170) =>
    k_649 o0_1170)) fun k_30 =>
 loopN Fuel (fun s nx_1597 k_1596 =>
  match s with
  | (t27_1588, o0_1589) =>
   bif decide (t27_1588 < (v_4.length : Int)) then
    chk (0 ≤ IntKind.i64.wrap ((y_2.length : Int) + 1) ∧ IntKind.i64.wrap ((y_2.length : Int) + 1) ≤ IntKind.i64.wrap ((y_2.length : Int) + 1) ∧ IntKind.i64.wrap ((y_2.length : Int) + 1) ≤ 274877906944) <|
    chk (0 ≤ t27_1588 ∧ t27_1588 < (o0_1589.length : Int)) <|
    letv (List.set o0_1589 t27_1588.toNat (List.replicate ((IntKind.i64.wrap ((y_2.length : Int) + 1)).toNat) 0)) fun v_1601 =>
    nx_1597 (IntKind.i64.wrap (t27_1588 + 1), v_1601)
   else
   k_1596 (t27_1588, o0_1589)) (0, v_4) (fun s => match s with
  | (t27_1588, o0_1589) =>
   k_30 o0_1589)
noncomputable def slices_Equal_2_int_2_int (s1_1 : List Arr2_Int) (s2_2 : List Arr2_Int) : Option Bool :=
 bif !decide ((s1_1.length : Int) = (s2_2.length : Int)) then
  some false
 else
 jp (S := Unit) (fun _ =>
  some true) fun k_12 =>
 forL s1_1 0 (fun i_18 x_20 s nx_17 k_16 =>
  idx s2_2 (i_18 : Int) fun x_21 =>
  bif !((decide (x_20.a0 = x_21.a0)) && (decide (x_20.a1 = x_21.a1))) then
   some false
  else
  nx_17 ()) () (fun _ =>
  k_12 ())
noncomputable def delta_places (pairs_1 : List Arr2_Int) (many_2 : Int) : Option (List Int) :=
 chk (0 ≤ many_2 ∧ many_2 ≤ many_2 ∧ many_2 ≤ 274877906944) <|
 jp (S := List Int) (fun o0_12 =>
  jp (S := List Int) (fun o0_27 =>
   some o0_27) fun k_28 =>
  forL pairs_1 0 (fun i_38 x_40 o0_33 nx_37 k_36 =>
   chk (0 ≤ x_40.a0 ∧ x_40.a0 < (o0_33.length : Int)) <|
   nx_37 (List.set o0_33 x_40.a0.toNat x_40.a1)) o0_12 (fun o0_33 =>
   k_28 o0_33)) fun k_13 =>
 loopN Fuel (fun s nx_48 k_47 =>
  match s with
  | (t13_44, o0_45) =>
   bif decide (t13_44 < ((List.replicate many_2.toNat 0).length : Int)) then
    chk (0 ≤ t13_44 ∧ t13_44 < (o0_45.length : Int)) <|
    nx_48 (IntKind.i64.wrap (t13_44 + 1), List.set o0_45 t13_44.toNat (-1))
   else
   k_47 (t13_44, o0_45)) (0, List.replicate many_2.toNat 0) (fun s => match s with
  | (t13_44, o0_45) =>
   k_13 o0_45)
noncomputable def strings_Builder_Grow (n : Int) (o0 : Str) : Option Unit := chk (0 ≤ n ∧ n ≤ 274877906944) <| some ()
noncomputable def strings_Builder_copyCheck_i1 (o1_1 : Str) : Option Unit :=
 some ()
noncomputable def strings_Builder_copyCheck_i2 (o1_1 : Str) : Option Unit :=
 some ()
noncomputable def strings_Builder_copyCheck_np (o0 : Str) : Option Unit := some ()
noncomputable def strings_Builder_WriteString_i1 (s_1 : Str) (o1_2 : Str) : Option (Int × Str) :=
 call (strings_Builder_copyCheck_np o1_2) fun r_5 =>
 chk ((o1_2 ++ s_1).length ≤ 274877906944) <|
 some ((s_1.length : Int), o1_2 ++ s_1)
noncomputable def strings_Builder_String_i1 (o1_1 : Str) : Option Str :=
 some o1_1
noncomputable def strings_Join (elems_1 : List Str) (sep_2 : Str) : Option Str :=
 bif decide ((elems_1.length : Int) = 0) then
  some []
 else
 bif decide ((elems_1.length : Int) = 1) then
  idx elems_1 0 fun s_3 =>
  some s_3
 else
 jp (S := Int) (fun n_5 =>
  jp (S := Int) (fun n_15 =>
   call (strings_Builder_Grow n_15 []) fun r_17 =>
   idx elems_1 0 fun s_18 =>
   call (strings_Builder_WriteString_i1 s_18 []) fun r_19 =>
   jp (S := Str) (fun o1_37 =>
    call (strings_Builder_String_i1 o1_37) fun r_39 =>
    some r_39) fun k_38 =>
   chk (0 ≤ 1 ∧ 1 ≤ (elems_1.length : Int)) <|
   forL (List.drop 1 elems_1) 0 (fun i_52 s_54 o1_46 nx_51 k_50 =>
    call (strings_Builder_WriteString_i1 sep_2 o1_46) fun r_55 =>
    call (strings_Builder_WriteString_i1 s_54 r_55.2) fun r_56 =>
    nx_51 r_56.2) r_19.2 (fun o1_46 =>
    k_38 o1_46)) fun k_16 =>
  forL elems_1 0 (fun i_62 s_64 n_57 nx_61 k_60 =>
   bif decide ((IntKind.i64.wrap (9223372036854775807 - n_57)) < (s_64.length : Int)) then
    none
   else
   nx_61 (IntKind.i64.wrap (n_57 + (s_64.length : Int)))) n_5 (fun n_57 =>
   k_16 n_57)) fun k_6 =>
 bif decide (0 < (sep_2.length : Int)) then
  chk (¬ (IntKind.i64.wrap ((elems_1.length : Int) - 1)) = 0) <|
  bif decide ((IntKind.i64.wrap (Int.tdiv 9223372036854775807 (IntKind.i64.wrap ((elems_1.length : Int) - 1)))) ≤ (sep_2.length : Int)) then
   none
  else
  k_6 (IntKind.i64.wrap (0 + (IntKind.i64.wrap ((sep_2.length : Int) * (IntKind.i64.wrap ((elems_1.length : Int) - 1))))))
 else
 k_6 0
noncomputable def internal_stringslite_HasSuffix (s_1 : Str) (suffix_2 : Str) : Option Bool :=
 chk ((decide ((suffix_2.length : Int) ≤ (s_1.length : Int))) = true → (0 ≤ IntKind.i64.wrap ((s_1.length : Int) - (suffix_2.length : Int)) ∧ IntKind.i64.wrap ((s_1.length : Int) - (suffix_2.length : Int)) ≤ (s_1.length : Int))) <|
 some ((decide ((suffix_2.length : Int) ≤ (s_1.length : Int))) && (decide ((List.drop ((IntKind.i64.wrap ((s_1.length : Int) - (suffix_2.length : Int))).toNat) s_1) = suffix_2)))
noncomputable def strings_HasSuffix (s_1 : Str) (suffix_2 : Str) : Option Bool :=
 call (internal_stringslite_HasSuffix s_1 suffix_2) fun r_3 =>
 some r_3
noncomputable def delta_ended (s_1 : Str) : Option Str :=
 callG (!decide (s_1 = [])) (strings_HasSuffix s_1 ([10] : Str)) false fun r_2 =>
 bif ((!decide (s_1 = [])) && (!r_2)) then
  chk ((s_1 ++ ([10] : Str)).length ≤ 274877906944) <|
  some (s_1 ++ ([10] : Str))
 else
 some s_1
noncomputable def delta_settle (base_1 : Str) (a_2 : Str) (b_3 : Str) : Option (Str × Bool) :=
 bif decide (a_2 = base_1) then
  some (b_3, false)
 else
 bif ((decide (b_3 = base_1)) || (decide (a_2 = b_3))) then
  some (a_2, false)
 else
 call (delta_ended a_2) fun r_4 =>
 chk ((([60, 60, 60, 60, 60, 60, 60, 10] : Str) ++ r_4).length ≤ 274877906944) <|
 chk (((([60, 60, 60, 60, 60, 60, 60, 10] : Str) ++ r_4) ++ ([61, 61, 61, 61, 61, 61, 61, 10] : Str)).length ≤ 274877906944) <|
 call (delta_ended b_3) fun r_7 =>
 chk ((((([60, 60, 60, 60, 60, 60, 60, 10] : Str) ++ r_4) ++ ([61, 61, 61, 61, 61, 61, 61, 10] : Str)) ++ r_7).length ≤ 274877906944) <|
 chk (((((([60, 60, 60, 60, 60, 60, 60, 10] : Str) ++ r_4) ++ ([61, 61, 61, 61, 61, 61, 61, 10] : Str)) ++ r_7) ++ ([62, 62, 62, 62, 62, 62, 62, 10] : Str)).length ≤ 274877906944) <|
 some ((((([60, 60, 60, 60, 60, 60, 60, 10] : Str) ++ r_4) ++ ([61, 61, 61, 61, 61, 61, 61, 10] : Str)) ++ r_7) ++ ([62, 62, 62, 62, 62, 62, 62, 10] : Str), true)
noncomputable def delta_Merge_1_i1 (toX_1 : Int) (toY_2 : Int) (toZ_3 : Int) (o0_0_4 : List Str) (o1_0_5 : Int) (o2_0_6 : List Str) (o3_0_7 : Int) (o4_0_8 : List Str) (o5_0_9 : Int) (o7_10 : Str) (o8_0_11 : Int) : Option (Str × Int) :=
 chk (0 ≤ o1_0_5 ∧ o1_0_5 ≤ (o0_0_4.length : Int) ∧ 0 ≤ toX_1 ∧ toX_1 ≤ (o0_0_4.length : Int) ∧ o1_0_5 ≤ toX_1) <|
 call (strings_Join (List.take (toX_1.toNat - o1_0_5.toNat) (List.drop o1_0_5.toNat o0_0_4)) []) fun r_21 =>
 chk (0 ≤ o3_0_7 ∧ o3_0_7 ≤ (o2_0_6.length : Int) ∧ 0 ≤ toY_2 ∧ toY_2 ≤ (o2_0_6.length : Int) ∧ o3_0_7 ≤ toY_2) <|
 call (strings_Join (List.take (toY_2.toNat - o3_0_7.toNat) (List.drop o3_0_7.toNat o2_0_6)) []) fun r_23 =>
 chk (0 ≤ o5_0_9 ∧ o5_0_9 ≤ (o4_0_8.length : Int) ∧ 0 ≤ toZ_3 ∧ toZ_3 ≤ (o4_0_8.length : Int) ∧ o5_0_9 ≤ toZ_3) <|
 call (strings_Join (List.take (toZ_3.toNat - o5_0_9.toNat) (List.drop o5_0_9.toNat o4_0_8)) []) fun r_25 =>
 call (delta_settle r_21 r_23 r_25) fun r_26 =>
 call (strings_Builder_WriteString_i1 r_26.1 o7_10) fun r_27 =>
 bif r_26.2 then
  some (r_27.2, IntKind.i64.wrap (o8_0_11 + 1))
 else
 some (r_27.2, o8_0_11)
noncomputable def strings_Builder_Len_i1 (o1_1 : Str) : Option Int :=
 some (o1_1.length : Int)
noncomputable def delta_Merge (base_1 : Str) (a_2 : Str) (b_3 : Str) : Option (Str × Int × Int) :=
 call (delta_Lines base_1 a_2) fun r_4 =>
 bif !decide (r_4.2 = 0) then
  some ([], 0, r_4.2)
 else
 call (delta_Lines base_1 b_3) fun r_5 =>
 bif !decide (r_5.2 = 0) then
  some ([], 0, r_5.2)
 else
 call (delta_linesOf base_1) fun r_6 =>
 call (delta_linesOf a_2) fun r_7 =>
 call (delta_linesOf b_3) fun r_8 =>
 call (delta_places r_4.1 (r_6.length : Int)) fun r_12 =>
 call (delta_places r_5.1 (r_6.length : Int)) fun r_13 =>
 jp (S := Str × Int × Int × Int × Int) (fun s => match s with
  | (o4_46, o5_0_47, o6_0_48, o7_0_49, o8_0_50) =>
   call (delta_Merge_1_i1 (r_6.length : Int) (r_7.length : Int) (r_8.length : Int) r_6 o6_0_48 r_7 o7_0_49 r_8 o8_0_50 o4_46 o5_0_47) fun r_52 =>
   call (strings_Builder_Len_i1 r_52.1) fun r_53 =>
   bif decide (65536 < r_53) then
    some ([], 0, 4)
   else
   call (strings_Builder_String_i1 r_52.1) fun r_55 =>
   some (r_55, r_52.2, 0)) fun k_51 =>
 loopN Fuel (fun s nx_78 k_77 =>
  match s with
  | (t59_64, o4_65, o5_0_66, o6_0_67, o7_0_68, o8_0_69) =>
   bif decide (t59_64 < (r_6.length : Int)) then
    idx r_12 t59_64 fun n_79 =>
    chk ((!(decide (n_79 < 0))) = true → (0 ≤ t59_64 ∧ t59_64 < (r_13.length : Int))) <|
    bif ((decide (n_79 < 0)) || (decide ((r_13.getD t59_64.toNat 0) < 0))) then
     nx_78 (IntKind.i64.wrap (t59_64 + 1), o4_65, o5_0_66, o6_0_67, o7_0_68, o8_0_69)
    else
    idx r_13 t59_64 fun n_82 =>
    call (delta_Merge_1_i1 t59_64 n_79 n_82 r_6 o6_0_67 r_7 o7_0_68 r_8 o8_0_69 o4_65 o5_0_66) fun r_83 =>
    idx r_6 t59_64 fun s_84 =>
    call (strings_Builder_WriteString_i1 s_84 r_83.1) fun r_85 =>
    nx_78 (IntKind.i64.wrap (t59_64 + 1), r_85.2, r_83.2, IntKind.i64.wrap (t59_64 + 1), IntKind.i64.wrap (n_79 + 1), IntKind.i64.wrap (n_82 + 1))
   else
   k_77 (t59_64, o4_65, o5_0_66, o6_0_67, o7_0_68, o8_0_69)) (0, [], 0, 0, 0, 0) (fun s => match s with
  | (t59_64, o4_65, o5_0_66, o6_0_67, o7_0_68, o8_0_69) =>
   k_51 (o4_65, o5_0_66, o6_0_67, o7_0_68, o8_0_69))
noncomputable def R_linesOf (s_1 : Str) : Option (List Str) :=
 call (strings_SplitAfter s_1 ([10] : Str)) fun r_2 =>
 idx r_2 (IntKind.i64.wrap ((r_2.length : Int) - 1)) fun s_3 =>
 bif decide (s_3 = []) then
  chk (0 ≤ IntKind.i64.wrap ((r_2.length : Int) - 1) ∧ IntKind.i64.wrap ((r_2.length : Int) - 1) ≤ (r_2.length : Int)) <|
  some (List.take ((IntKind.i64.wrap ((r_2.length : Int) - 1)).toNat) r_2)
 else
 some r_2
noncomputable def R_LinesError (a_1 : Str) (b_2 : Str) : Option Int :=
 jp (S := Unit) (fun _ =>
  some 0) fun k_12 =>
 forL [a_1, b_2] 0 (fun i_18 s_20 s nx_17 k_16 =>
  callG (!(decide (65536 < (s_20.length : Int)))) (R_linesOf s_20) [] fun r_21 =>
  bif ((decide (65536 < (s_20.length : Int))) || (decide (1000 < (r_21.length : Int)))) then
   some 4
  else
  nx_17 ()) () (fun _ =>
  k_12 ())
noncomputable def R_first (l_1 : List Int) : Option Int :=
 jp (S := Unit) (fun _ =>
  some 0) fun k_9 =>
 forL l_1 0 (fun i_14 e_16 s nx_13 k_12 =>
  bif !decide (e_16 = 0) then
   some e_16
  else
  nx_13 ()) () (fun _ =>
  k_9 ())
noncomputable def R_MergeTexts_2_i1 (m_1 : Arr2_Int) (o0_0_2 : Int) (o0_1_3 : Int) : Option Bool :=
 some (decide (m_1.a0 = o0_0_2))
noncomputable def slices_IndexFunc_2_int_2_int_i1 (s_1 : List Arr2_Int) (o0_0_2 : Int) (o0_1_3 : Int) : Option Int :=
 jp (S := Unit) (fun _ =>
  some (-1)) fun k_32 =>
 forL s_1 0 (fun i_38 x_40 s nx_37 k_36 =>
  call (R_MergeTexts_2_i1 x_40 o0_0_2 o0_1_3) fun r_41 =>
  bif r_41 then
   some (i_38 : Int)
  else
  nx_37 ()) () (fun _ =>
  k_32 ())
noncomputable def R_MergeTexts_1_1 (s_1 : Str) : Option Str :=
 callG (!decide (s_1 = [])) (strings_HasSuffix s_1 ([10] : Str)) false fun r_2 =>
 bif ((!decide (s_1 = [])) && (!r_2)) then
  chk ((s_1 ++ ([10] : Str)).length ≤ 274877906944) <|
  some (s_1 ++ ([10] : Str))
 else
 some s_1
noncomputable def R_MergeTexts_1_i1 (i_1 : Int) (j_2 : Int) (k_3 : Int) (o0_0_4 : List Str) (o1_0_5 : Int) (o2_0_6 : List Str) (o3_0_7 : Int) (o4_0_8 : List Str) (o5_0_9 : Int) (o6_0_10 : Str) (o7_0_11 : Int) : Option (Str × Int) :=
 chk (0 ≤ o1_0_5 ∧ o1_0_5 ≤ (o0_0_4.length : Int) ∧ 0 ≤ i_1 ∧ i_1 ≤ (o0_0_4.length : Int) ∧ o1_0_5 ≤ i_1) <|
 call (strings_Join (List.take (i_1.toNat - o1_0_5.toNat) (List.drop o1_0_5.toNat o0_0_4)) []) fun r_28 =>
 chk (0 ≤ o3_0_7 ∧ o3_0_7 ≤ (o2_0_6.length : Int) ∧ 0 ≤ j_2 ∧ j_2 ≤ (o2_0_6.length : Int) ∧ o3_0_7 ≤ j_2) <|
 call (strings_Join (List.take (j_2.toNat - o3_0_7.toNat) (List.drop o3_0_7.toNat o2_0_6)) []) fun r_30 =>
 chk (0 ≤ o5_0_9 ∧ o5_0_9 ≤ (o4_0_8.length : Int) ∧ 0 ≤ k_3 ∧ k_3 ≤ (o4_0_8.length : Int) ∧ o5_0_9 ≤ k_3) <|
 call (strings_Join (List.take (k_3.toNat - o5_0_9.toNat) (List.drop o5_0_9.toNat o4_0_8)) []) fun r_32 =>
 bif decide (r_30 = r_28) then
  chk ((o6_0_10 ++ r_32).length ≤ 274877906944) <|
  some (o6_0_10 ++ r_32, o7_0_11)
 else
 bif ((decide (r_32 = r_28)) || (decide (r_32 = r_30))) then
  chk ((o6_0_10 ++ r_30).length ≤ 274877906944) <|
  some (o6_0_10 ++ r_30, o7_0_11)
 else
 call (R_MergeTexts_1_1 r_30) fun r_35 =>
 chk ((([60, 60, 60, 60, 60, 60, 60, 10] : Str) ++ r_35).length ≤ 274877906944) <|
 chk (((([60, 60, 60, 60, 60, 60, 60, 10] : Str) ++ r_35) ++ ([61, 61, 61, 61, 61, 61, 61, 10] : Str)).length ≤ 274877906944) <|
 call (R_MergeTexts_1_1 r_32) fun r_38 =>
 chk ((((([60, 60, 60, 60, 60, 60, 60, 10] : Str) ++ r_35) ++ ([61, 61, 61, 61, 61, 61, 61, 10] : Str)) ++ r_38).length ≤ 274877906944) <|
 chk (((((([60, 60, 60, 60, 60, 60, 60, 10] : Str) ++ r_35) ++ ([61, 61, 61, 61, 61, 61, 61, 10] : Str)) ++ r_38) ++ ([62, 62, 62, 62, 62, 62, 62, 10] : Str)).length ≤ 274877906944) <|
 chk ((o6_0_10 ++ ((((([60, 60, 60, 60, 60, 60, 60, 10] : Str) ++ r_35) ++ ([61, 61, 61, 61, 61, 61, 61, 10] : Str)) ++ r_38) ++ ([62, 62, 62, 62, 62, 62, 62, 10] : Str))).length ≤ 274877906944) <|
 some (o6_0_10 ++ ((((([60, 60, 60, 60, 60, 60, 60, 10] : Str) ++ r_35) ++ ([61, 61, 61, 61, 61, 61, 61, 10] : Str)) ++ r_38) ++ ([62, 62, 62, 62, 62, 62, 62, 10] : Str)), IntKind.i64.wrap (o7_0_11 + 1))
noncomputable def R_MergeTexts (base_1 : Str) (a_2 : Str) (b_3 : Str) : Option (Str × Int × Int) :=
 call (R_LinesError base_1 a_2) fun r_4 =>
 call (R_LinesError base_1 b_3) fun r_5 =>
 call (R_first [r_4, r_5]) fun r_6 =>
 bif !decide (r_6 = 0) then
  some ([], 0, r_6)
 else
 call (R_linesOf base_1) fun r_7 =>
 call (R_linesOf a_2) fun r_8 =>
 call (R_linesOf b_3) fun r_9 =>
 call (R_Pairs r_7 r_8) fun r_13 =>
 call (R_Pairs r_7 r_9) fun r_14 =>
 jp (S := Str × Int × Int × Int × Int) (fun s => match s with
  | (o3_0_46, o4_0_47, o5_0_48, o6_0_49, o7_0_50) =>
   call (R_MergeTexts_1_i1 (r_7.length : Int) (r_8.length : Int) (r_9.length : Int) r_7 o5_0_48 r_8 o6_0_49 r_9 o7_0_50 o3_0_46 o4_0_47) fun r_52 =>
   bif decide (65536 < (r_52.1.length : Int)) then
    some ([], 0, 4)
   else
   some (r_52.1, r_52.2, 0)) fun k_51 =>
 forL r_13 0 (fun i_74 x_76 s nx_73 k_72 =>
  match s with
  | (o3_0_61, o4_0_62, o5_0_63, o6_0_64, o7_0_65) =>
   call (slices_IndexFunc_2_int_2_int_i1 r_14 x_76.a0 x_76.a1) fun r_77 =>
   bif decide (r_77 < 0) then
    nx_73 (o3_0_61, o4_0_62, o5_0_63, o6_0_64, o7_0_65)
   else
   idx r_14 r_77 fun x_78 =>
   call (R_MergeTexts_1_i1 x_76.a0 x_76.a1 x_78.a1 r_7 o5_0_63 r_8 o6_0_64 r_9 o7_0_65 o3_0_61 o4_0_62) fun r_79 =>
   idx r_7 x_76.a0 fun s_80 =>
   chk ((r_79.1 ++ s_80).length ≤ 274877906944) <|
   nx_73 (r_79.1 ++ s_80, r_79.2, IntKind.i64.wrap (x_76.a0 + 1), IntKind.i64.wrap (x_76.a1 + 1), IntKind.i64.wrap (x_78.a1 + 1))) ([], 0, 0, 0, 0) (fun s => match s with
  | (o3_0_61, o4_0_62, o5_0_63, o6_0_64, o7_0_65) =>
   k_51 (o3_0_61, o4_0_62, o5_0_63, o6_0_64, o7_0_65))
noncomputable def Law_LinesMatch (base_1 : Str) (a_2 : Str) (b_3 : Str) : Option Bool :=
 call (Law_landed) fun r_4 =>
 bif !r_4 then
  some false
 else
 call (Law_short base_1) fun r_5 =>
 call (Law_short a_2) fun r_6 =>
 call (Law_short b_3) fun r_7 =>
 call (delta_Lines r_5 r_6) fun r_8 =>
 callG (!(!decide (r_8.2 = 0))) (Law_lines r_5) [] fun r_9 =>
 callG (!(!decide (r_8.2 = 0))) (Law_lines r_6) [] fun r_10 =>
 callG (!(!decide (r_8.2 = 0))) (R_Pairs r_9 r_10) [] fun r_11 =>
 callG (!(!decide (r_8.2 = 0))) (slices_Equal_2_int_2_int r_8.1 r_11) false fun r_12 =>
 bif ((!decide (r_8.2 = 0)) || (!r_12)) then
  some false
 else
 call (delta_Merge r_5 r_6 r_7) fun r_13 =>
 call (R_MergeTexts r_5 r_6 r_7) fun r_14 =>
 letv ((((!decide (r_13.1 = r_14.1)) || (!decide (r_13.2.1 = r_14.2.1))) || (!decide (r_13.2.2 = r_14.2.2)))) fun v_15 =>
 bif v_15 then
  some false
 else
 call (delta_Merge r_5 r_5 r_7) fun r_17 =>
 call (delta_Merge r_5 r_6 r_5) fun r_18 =>
 letv (((((decide (r_17.2.2 = 0)) && (decide (r_18.2.2 = 0))) && (decide (r_17.1 = r_7))) && (decide (r_18.1 = r_6)))) fun v_19 =>
 some ((v_19 && (decide (r_17.2.1 = 0))) && (decide (r_18.2.1 = 0)))
end Go.Md
