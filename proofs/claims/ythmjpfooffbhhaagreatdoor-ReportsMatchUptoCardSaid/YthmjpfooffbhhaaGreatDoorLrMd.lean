/- Models of the functions that the statement reaches: what each computes, in plain words. -/
import Derived.Test.YthmjpfooffbhhaaGreatDoorVc3
set_option linter.unusedVariables false
namespace Go.Md
open Go.Vc
def tabL_1 : List Int := [1, 10, 100, 1000, 10000, 100000, 1000000, 10000000, 100000000, 1000000000, 10000000000, 100000000000, 1000000000000, 10000000000000, 100000000000000, 1000000000000000, 10000000000000000, 100000000000000000, 1000000000000000000, 10000000000000000000]
theorem tabL_1_len : tabL_1.length = 20 := rfl
instance theTabs : Tabs := ⟨fun b => bif Nat.beq b 1 then some (.u64, tabL_1) else none, fun b => bif Nat.beq b 2 then true else false⟩
theorem ifc_2 : Tabs.ifc 2 = true := rfl
theorem tab_1 : Tabs.tab 1 = some (.u64, tabL_1) := rfl
attribute [go_sem] tab_1 tabL_1_len
def ecB (b : Bool) : List Dt := [.b b]
def ecS (x : Str) : List Dt := [.s x]
def ecI_i8 (n : Int) : List Dt := [.i .i8 n]
def ecI_i16 (n : Int) : List Dt := [.i .i16 n]
def ecI_i32 (n : Int) : List Dt := [.i .i32 n]
def ecI_i64 (n : Int) : List Dt := [.i .i64 n]
def ecI_u8 (n : Int) : List Dt := [.i .u8 n]
def ecI_u16 (n : Int) : List Dt := [.i .u16 n]
def ecI_u32 (n : Int) : List Dt := [.i .u32 n]
def ecI_u64 (n : Int) : List Dt := [.i .u64 n]
theorem dec1_s : ∀ r, hasR r [.s] → ∃ x, r = ecS x := by
 intro r h
 rcases r with _ | ⟨d, _ | _⟩ <;> simp only [hasR, and_false, and_true] at h
 cases d <;> simp only [hasT] at h
 exact ⟨_, rfl⟩
theorem dec1_i64 : ∀ r, hasR r [.i .i64] → ∃ x, r = ecI_i64 x := by
 intro r h
 rcases r with _ | ⟨d, _ | _⟩ <;> simp only [hasR, and_false, and_true] at h
 cases d <;> simp only [hasT] at h
 subst h
 exact ⟨_, rfl⟩
theorem dec1_u8 : ∀ r, hasR r [.i .u8] → ∃ x, r = ecI_u8 x := by
 intro r h
 rcases r with _ | ⟨d, _ | _⟩ <;> simp only [hasR, and_false, and_true] at h
 cases d <;> simp only [hasT] at h
 subst h
 exact ⟨_, rfl⟩
structure api_Version where
 Major : Int
 Minor : Int
 Patch : Int
 Early : Str
def enc_api_Version (x : api_Version) : List Dt := [.i .i64 x.Major, .i .i64 x.Minor, .i .i64 x.Patch, .s x.Early]
def sh_api_Version : List Sh := [.i .i64, .i .i64, .i .i64, .s]
theorem dec_api_Version : ∀ r, hasR r sh_api_Version → ∃ x : api_Version, r = enc_api_Version x := by
 intro r h
 unfold sh_api_Version at h
 rcases r with _ | ⟨d0, _ | ⟨d1, _ | ⟨d2, _ | ⟨d3, _ | _⟩⟩⟩⟩ <;> simp only [hasR, and_false, and_true] at h
 obtain ⟨h0, h1, h2, h3⟩ := h
 cases d0 <;> simp only [hasT] at h0
 subst h0
 cases d1 <;> simp only [hasT] at h1
 subst h1
 cases d2 <;> simp only [hasT] at h2
 subst h2
 cases d3 <;> simp only [hasT] at h3
 exact ⟨⟨_, _, _, _⟩, rfl⟩
structure api_Record where
 Time : Int
 Kind : Int
 Pack : Str
 From : api_Version
 To : api_Version
 Result : Int
 Note : Str
def enc_api_Record (x : api_Record) : List Dt := [.i .i64 x.Time, .i .i64 x.Kind, .s x.Pack, .i .i64 x.From.Major, .i .i64 x.From.Minor, .i .i64 x.From.Patch, .s x.From.Early, .i .i64 x.To.Major, .i .i64 x.To.Minor, .i .i64 x.To.Patch, .s x.To.Early, .i .i64 x.Result, .s x.Note]
def sh_api_Record : List Sh := [.i .i64, .i .i64, .s, .i .i64, .i .i64, .i .i64, .s, .i .i64, .i .i64, .i .i64, .s, .i .i64, .s]
set_option maxRecDepth 100000 in
theorem dec_api_Record : ∀ r, hasR r sh_api_Record → ∃ x : api_Record, r = enc_api_Record x := by
 intro r h
 unfold sh_api_Record at h
 rcases r with _ | ⟨d0, _ | ⟨d1, _ | ⟨d2, _ | ⟨d3, _ | ⟨d4, _ | ⟨d5, _ | ⟨d6, _ | ⟨d7, _ | ⟨d8, _ | ⟨d9, _ | ⟨d10, _ | ⟨d11, _ | ⟨d12, _ | _⟩⟩⟩⟩⟩⟩⟩⟩⟩⟩⟩⟩⟩ <;> simp only [hasR, and_false, and_true] at h
 obtain ⟨h0, h1, h2, h3, h4, h5, h6, h7, h8, h9, h10, h11, h12⟩ := h
 cases d0 <;> simp only [hasT] at h0
 subst h0
 cases d1 <;> simp only [hasT] at h1
 subst h1
 cases d2 <;> simp only [hasT] at h2
 cases d3 <;> simp only [hasT] at h3
 subst h3
 cases d4 <;> simp only [hasT] at h4
 subst h4
 cases d5 <;> simp only [hasT] at h5
 subst h5
 cases d6 <;> simp only [hasT] at h6
 cases d7 <;> simp only [hasT] at h7
 subst h7
 cases d8 <;> simp only [hasT] at h8
 subst h8
 cases d9 <;> simp only [hasT] at h9
 subst h9
 cases d10 <;> simp only [hasT] at h10
 cases d11 <;> simp only [hasT] at h11
 subst h11
 cases d12 <;> simp only [hasT] at h12
 exact ⟨⟨_, _, _, ⟨_, _, _, _⟩, ⟨_, _, _, _⟩, _, _⟩, rfl⟩
structure api_Had where
 Pack : Str
 Version : api_Version
 Since : Int
def enc_api_Had (x : api_Had) : List Dt := [.s x.Pack, .i .i64 x.Version.Major, .i .i64 x.Version.Minor, .i .i64 x.Version.Patch, .s x.Version.Early, .i .i64 x.Since]
def sh_api_Had : List Sh := [.s, .i .i64, .i .i64, .i .i64, .s, .i .i64]
theorem dec_api_Had : ∀ r, hasR r sh_api_Had → ∃ x : api_Had, r = enc_api_Had x := by
 intro r h
 unfold sh_api_Had at h
 rcases r with _ | ⟨d0, _ | ⟨d1, _ | ⟨d2, _ | ⟨d3, _ | ⟨d4, _ | ⟨d5, _ | _⟩⟩⟩⟩⟩⟩ <;> simp only [hasR, and_false, and_true] at h
 obtain ⟨h0, h1, h2, h3, h4, h5⟩ := h
 cases d0 <;> simp only [hasT] at h0
 cases d1 <;> simp only [hasT] at h1
 subst h1
 cases d2 <;> simp only [hasT] at h2
 subst h2
 cases d3 <;> simp only [hasT] at h3
 subst h3
 cases d4 <;> simp only [hasT] at h4
 cases d5 <;> simp only [hasT] at h5
 subst h5
 exact ⟨⟨_, ⟨_, _, _, _⟩, _⟩, rfl⟩
structure log_had where
 v : api_Version
 since : Int
def enc_log_had (x : log_had) : List Dt := [.i .i64 x.v.Major, .i .i64 x.v.Minor, .i .i64 x.v.Patch, .s x.v.Early, .i .i64 x.since]
def sh_log_had : List Sh := [.i .i64, .i .i64, .i .i64, .s, .i .i64]
theorem dec_log_had : ∀ r, hasR r sh_log_had → ∃ x : log_had, r = enc_log_had x := by
 intro r h
 unfold sh_log_had at h
 rcases r with _ | ⟨d0, _ | ⟨d1, _ | ⟨d2, _ | ⟨d3, _ | ⟨d4, _ | _⟩⟩⟩⟩⟩ <;> simp only [hasR, and_false, and_true] at h
 obtain ⟨h0, h1, h2, h3, h4⟩ := h
 cases d0 <;> simp only [hasT] at h0
 subst h0
 cases d1 <;> simp only [hasT] at h1
 subst h1
 cases d2 <;> simp only [hasT] at h2
 subst h2
 cases d3 <;> simp only [hasT] at h3
 cases d4 <;> simp only [hasT] at h4
 subst h4
 exact ⟨⟨⟨_, _, _, _⟩, _⟩, rfl⟩
structure log_done where
 well : Int
 failed : Int
def enc_log_done (x : log_done) : List Dt := [.i .i64 x.well, .i .i64 x.failed]
def sh_log_done : List Sh := [.i .i64, .i .i64]
theorem dec_log_done : ∀ r, hasR r sh_log_done → ∃ x : log_done, r = enc_log_done x := by
 intro r h
 unfold sh_log_done at h
 rcases r with _ | ⟨d0, _ | ⟨d1, _ | _⟩⟩ <;> simp only [hasR, and_false, and_true] at h
 obtain ⟨h0, h1⟩ := h
 cases d0 <;> simp only [hasT] at h0
 subst h0
 cases d1 <;> simp only [hasT] at h1
 subst h1
 exact ⟨⟨_, _⟩, rfl⟩
theorem sz_ecB : ∀ l, szOk (1) (List.map ecB l) = True := fun l => eq_true (by intro r hr; obtain ⟨x, _, rfl⟩ := List.mem_map.1 hr; rfl)
theorem sz_ecS : ∀ l, szOk (1) (List.map ecS l) = True := fun l => eq_true (by intro r hr; obtain ⟨x, _, rfl⟩ := List.mem_map.1 hr; rfl)
theorem sz_ecI_i64 : ∀ l, szOk (1) (List.map ecI_i64 l) = True := fun l => eq_true (by intro r hr; obtain ⟨x, _, rfl⟩ := List.mem_map.1 hr; rfl)
theorem sz_ecI_u8 : ∀ l, szOk (1) (List.map ecI_u8 l) = True := fun l => eq_true (by intro r hr; obtain ⟨x, _, rfl⟩ := List.mem_map.1 hr; rfl)
theorem sz_ecI_u64 : ∀ l, szOk (1) (List.map ecI_u64 l) = True := fun l => eq_true (by intro r hr; obtain ⟨x, _, rfl⟩ := List.mem_map.1 hr; rfl)
theorem sz_ecI_i32 : ∀ l, szOk (1) (List.map ecI_i32 l) = True := fun l => eq_true (by intro r hr; obtain ⟨x, _, rfl⟩ := List.mem_map.1 hr; rfl)
theorem sz_ecI_u32 : ∀ l, szOk (1) (List.map ecI_u32 l) = True := fun l => eq_true (by intro r hr; obtain ⟨x, _, rfl⟩ := List.mem_map.1 hr; rfl)
theorem sz_enc_api_Version : ∀ l, szOk (4) (List.map enc_api_Version l) = True := fun l => eq_true (by intro r hr; obtain ⟨x, _, rfl⟩ := List.mem_map.1 hr; rfl)
theorem sz_enc_api_Record : ∀ l, szOk (13) (List.map enc_api_Record l) = True := fun l => eq_true (by intro r hr; obtain ⟨x, _, rfl⟩ := List.mem_map.1 hr; rfl)
theorem sz_enc_api_Had : ∀ l, szOk (6) (List.map enc_api_Had l) = True := fun l => eq_true (by intro r hr; obtain ⟨x, _, rfl⟩ := List.mem_map.1 hr; rfl)
theorem sz_enc_log_had : ∀ l, szOk (5) (List.map enc_log_had l) = True := fun l => eq_true (by intro r hr; obtain ⟨x, _, rfl⟩ := List.mem_map.1 hr; rfl)
theorem sz_enc_log_done : ∀ l, szOk (2) (List.map enc_log_done l) = True := fun l => eq_true (by intro r hr; obtain ⟨x, _, rfl⟩ := List.mem_map.1 hr; rfl)
theorem allB_enc : ∀ l : List Int, allB (List.map ecI_u8 l) = True
 | [] => by simp only [List.map_nil, allB]
 | _ :: l => by simp only [List.map_cons, ecI_u8, allB, allB_enc l, and_self]
theorem unB_enc : ∀ l : List Int, unB (List.map ecI_u8 l) = Go.Vc.strOf l
 | [] => by simp only [List.map_nil, unB, Go.Vc.strOf]
 | _ :: l => by simp only [List.map_cons, ecI_u8, unB, unB_enc l, Go.Vc.strOf]
theorem bR_enc (l : Str) : bR l = List.map ecI_u8 (bytesOf l) := by simp [bR, bytesOf, ecI_u8]
attribute [go_sem] allB_enc unB_enc bR_enc
attribute [go_sem] ecB ecS ecI_i64 ecI_u8 ecI_u64 ecI_i32 ecI_u32 enc_api_Version enc_api_Record enc_api_Had enc_log_had enc_log_done sz_ecB sz_ecS sz_ecI_i64 sz_ecI_u8 sz_ecI_u64 sz_ecI_i32 sz_ecI_u32 sz_enc_api_Version sz_enc_api_Record sz_enc_api_Had sz_enc_log_had sz_enc_log_done
noncomputable def ver_isSmall (c_1 : Int) : Option Bool :=
 some ((decide (97 ≤ c_1)) && (decide (c_1 ≤ 122)))
noncomputable def ver_isDigit (c_1 : Int) : Option Bool :=
 some ((decide (48 ≤ c_1)) && (decide (c_1 ≤ 57)))
noncomputable def ver_IsName_1 (c_1 : Int) : Option Bool :=
 call (ver_isSmall c_1) fun r_2 =>
 callG (!r_2) (ver_isDigit c_1) false fun r_3 =>
 some (((r_2 || r_3) || (decide (c_1 = 45))) || (decide (c_1 = 46)))
noncomputable def ver_each_i1 (s_1 : Str) (most_2 : Int) : Option Bool :=
 jp (S := Unit) (fun _ =>
  some ((!decide (s_1 = [])) && (decide ((s_1.length : Int) ≤ most_2)))) fun k_12 =>
 forL s_1 0 (fun i_18 c_20 s nx_17 k_16 =>
  call (ver_IsName_1 (c_20.toNat : Int)) fun r_21 =>
  bif !r_21 then
   some false
  else
  nx_17 ()) () (fun _ =>
  k_12 ())
noncomputable def ver_IsName (s_1 : Str) : Option Bool :=
 call (ver_each_i1 s_1 40) fun r_2 =>
 chk (r_2 = true → (0 ≤ 0 ∧ 0 < (s_1.length : Int))) <|
 callG r_2 (ver_isSmall ((s_1.getD 0 0).toNat : Int)) false fun r_4 =>
 some (r_2 && r_4)
noncomputable def Law_landed  : Option Bool :=
 call (ver_IsName ([97] : Str)) fun r_1 =>
 some r_1
noncomputable def slices_Clone_api_Record_api_Record_new (s_1 : List api_Record) : Option (List api_Record) :=
 anyOf (fun b_5 : Bool => b_5 = true → s_1 = []) fun b_5 =>
 bif b_5 then
  some []
 else
 chk (([] ++ s_1).length ≤ 274877906944) <|
 some ([] ++ s_1)
noncomputable def Law_could_1 (a_1 : api_Record) (b_2 : api_Record) : Option Int :=
 some (IntKind.i64.wrap (a_1.Time - b_2.Time))
noncomputable def slices_insertionSortCmpFunc_api_Record_i1 (a_1 : Int) (b_2 : Int) (o0_3 : List api_Record) : Option (List api_Record) :=
 loopN Fuel (fun s nx_673 k_672 =>
  match s with
  | (i_538, o0_539) =>
   bif decide (i_538 < b_2) then
    jp (S := List api_Record) (fun o0_739 =>
     nx_673 (IntKind.i64.wrap (i_538 + 1), o0_739)) fun k_740 =>
    loopN Fuel (fun s nx_785 k_784 =>
     match s with
     | (j_762, o0_763) =>
      chk ((decide (a_1 < j_762)) = true → (0 ≤ j_762 ∧ j_762 < (o0_763.length : Int))) <|
      chk ((decide (a_1 < j_762)) = true → (0 ≤ IntKind.i64.wrap (j_762 - 1) ∧ IntKind.i64.wrap (j_762 - 1) < (o0_763.length : Int))) <|
      callG (decide (a_1 < j_762)) (Law_could_1 (o0_763.getD j_762.toNat (api_Record.mk 0 0 [] (api_Version.mk 0 0 0 []) (api_Version.mk 0 0 0 []) 0 [])) (o0_763.getD ((IntKind.i64.wrap (j_762 - 1)).toNat) (api_Record.mk 0 0 [] (api_Version.mk 0 0 0 []) (api_Version.mk 0 0 0 []) 0 []))) 0 fun r_788 =>
      bif ((decide (a_1 < j_762)) && (decide (r_788 < 0))) then
       chk (0 ≤ IntKind.i64.wrap (j_762 - 1) ∧ IntKind.i64.wrap (j_762 - 1) < (o0_763.length : Int)) <|
       chk (0 ≤ j_762 ∧ j_762 < (o0_763.length : Int)) <|
       chk (0 ≤ j_762 ∧ j_762 < (o0_763.length : Int)) <|
       chk (0 ≤ IntKind.i64.wrap (j_762 - 1) ∧ IntKind.i64.wrap (j_762 - 1) < ((List.set o0_763 j_762.toNat (o0_763.getD ((IntKind.i64.wrap (j_762 - 1)).toNat) (api_Record.mk 0 0 [] (api_Version.mk 0 0 0 []) (api_Version.mk 0 0 0 []) 0 []))).length : Int)) <|
       nx_785 (IntKind.i64.wrap (j_762 - 1), List.set (List.set o0_763 j_762.toNat (o0_763.getD ((IntKind.i64.wrap (j_762 - 1)).toNat) (api_Record.mk 0 0 [] (api_Version.mk 0 0 0 []) (api_Version.mk 0 0 0 []) 0 []))) ((IntKind.i64.wrap (j_762 - 1)).toNat) (o0_763.getD j_762.toNat (api_Record.mk 0 0 [] (api_Version.mk 0 0 0 []) (api_Version.mk 0 0 0 []) 0 [])))
      else
      k_784 (j_762, o0_763)) (i_538, o0_539) (fun s => match s with
     | (j_762, o0_763) =>
      k_740 o0_763)
   else
   k_672 (i_538, o0_539)) (IntKind.i64.wrap (a_1 + 1), o0_3) (fun s => match s with
  | (i_538, o0_539) =>
   some o0_539)
noncomputable def slices_swapRangeCmpFunc_api_Record_i1 (a_1 : Int) (b_2 : Int) (n_3 : Int) (o0_4 : List api_Record) : Option (List api_Record) :=
 loopN Fuel (fun s nx_44 k_43 =>
  match s with
  | (i_35, o0_36) =>
   bif decide (i_35 < n_3) then
    chk (0 ≤ IntKind.i64.wrap (b_2 + i_35) ∧ IntKind.i64.wrap (b_2 + i_35) < (o0_36.length : Int)) <|
    chk (0 ≤ IntKind.i64.wrap (a_1 + i_35) ∧ IntKind.i64.wrap (a_1 + i_35) < (o0_36.length : Int)) <|
    chk (0 ≤ IntKind.i64.wrap (a_1 + i_35) ∧ IntKind.i64.wrap (a_1 + i_35) < (o0_36.length : Int)) <|
    chk (0 ≤ IntKind.i64.wrap (b_2 + i_35) ∧ IntKind.i64.wrap (b_2 + i_35) < ((List.set o0_36 ((IntKind.i64.wrap (a_1 + i_35)).toNat) (o0_36.getD ((IntKind.i64.wrap (b_2 + i_35)).toNat) (api_Record.mk 0 0 [] (api_Version.mk 0 0 0 []) (api_Version.mk 0 0 0 []) 0 []))).length : Int)) <|
    nx_44 (IntKind.i64.wrap (i_35 + 1), List.set (List.set o0_36 ((IntKind.i64.wrap (a_1 + i_35)).toNat) (o0_36.getD ((IntKind.i64.wrap (b_2 + i_35)).toNat) (api_Record.mk 0 0 [] (api_Version.mk 0 0 0 []) (api_Version.mk 0 0 0 []) 0 []))) ((IntKind.i64.wrap (b_2 + i_35)).toNat) (o0_36.getD ((IntKind.i64.wrap (a_1 + i_35)).toNat) (api_Record.mk 0 0 [] (api_Version.mk 0 0 0 []) (api_Version.mk 0 0 0 []) 0 [])))
   else
   k_43 (i_35, o0_36)) (0, o0_4) (fun s => match s with
  | (i_35, o0_36) =>
   some o0_36)
noncomputable def slices_rotateCmpFunc_api_Record_i1 (a_1 : Int) (m_2 : Int) (b_3 : Int) (o0_4 : List api_Record) : Option (List api_Record) :=
 jp (S := Int × List api_Record) (fun s => match s with
  | (i_48, o0_49) =>
   call (slices_swapRangeCmpFunc_api_Record_i1 (IntKind.i64.wrap (m_2 - i_48)) m_2 i_48 o0_49) fun r_51 =>
   some r_51) fun k_50 =>
 loopN Fuel (fun s nx_62 k_61 =>
  match s with
  | (i_56, j_57, o0_58) =>
   bif !decide (i_56 = j_57) then
    bif decide (j_57 < i_56) then
     call (slices_swapRangeCmpFunc_api_Record_i1 (IntKind.i64.wrap (m_2 - i_56)) m_2 j_57 o0_58) fun r_63 =>
     nx_62 (IntKind.i64.wrap (i_56 - j_57), j_57, r_63)
    else
    call (slices_swapRangeCmpFunc_api_Record_i1 (IntKind.i64.wrap (m_2 - i_56)) (IntKind.i64.wrap ((IntKind.i64.wrap (m_2 + j_57)) - i_56)) i_56 o0_58) fun r_64 =>
    nx_62 (i_56, IntKind.i64.wrap (j_57 - i_56), r_64)
   else
   k_61 (i_56, j_57, o0_58)) (IntKind.i64.wrap (m_2 - a_1), IntKind.i64.wrap (b_3 - m_2), o0_4) (fun s => match s with
  | (i_56, j_57, o0_58) =>
   k_50 (i_56, o0_58))
noncomputable def slices_symMergeCmpFunc_api_Record_i1 : Nat → Int → Int → Int → List api_Record → Option (List api_Record)
 | 0, _, _, _, _ => none
 | nrec + 1, a_1, m_2, b_3, o0_4 =>
  jp (S := Unit) (fun _ =>
   jp (S := Unit) (fun _ =>
    letv (IntKind.i64.wrap (Int.fdiv (IntKind.u64.wrap (IntKind.i64.wrap (a_1 + b_3))) (2 ^ (shI .u64 1)))) fun v_4051 =>
    jp (S := Int × Int) (fun s => match s with
     | (start_4053, r_4054) =>
      jp (S := Int) (fun start_4178 =>
       jp (S := List api_Record) (fun o0_4183 =>
        jp (S := List api_Record) (fun o0_4186 =>
         letv (((decide (v_4051 < (IntKind.i64.wrap ((IntKind.i64.wrap (v_4051 + m_2)) - start_4178)))) && (decide ((IntKind.i64.wrap ((IntKind.i64.wrap (v_4051 + m_2)) - start_4178)) < b_3)))) fun v_4188 =>
         bif v_4188 then
          call (slices_symMergeCmpFunc_api_Record_i1 nrec v_4051 (IntKind.i64.wrap ((IntKind.i64.wrap (v_4051 + m_2)) - start_4178)) b_3 o0_4186) fun r_4190 =>
          some r_4190
         else
         some o0_4186) fun k_4187 =>
        bif ((decide (a_1 < start_4178)) && (decide (start_4178 < v_4051))) then
         call (slices_symMergeCmpFunc_api_Record_i1 nrec a_1 start_4178 v_4051 o0_4183) fun r_4191 =>
         k_4187 r_4191
        else
        k_4187 o0_4183) fun k_4184 =>
       letv (((decide (start_4178 < m_2)) && (decide (m_2 < (IntKind.i64.wrap ((IntKind.i64.wrap (v_4051 + m_2)) - start_4178)))))) fun v_4192 =>
       bif v_4192 then
        call (slices_rotateCmpFunc_api_Record_i1 start_4178 m_2 (IntKind.i64.wrap ((IntKind.i64.wrap (v_4051 + m_2)) - start_4178)) o0_4) fun r_4194 =>
        k_4184 r_4194
       else
       k_4184 o0_4) fun k_4179 =>
      loopN Fuel (fun s nx_4257 k_4256 =>
       match s with
       | (start_4195, r_4196) =>
        bif decide (start_4195 < r_4196) then
         letv (IntKind.i64.wrap (Int.fdiv (IntKind.u64.wrap (IntKind.i64.wrap (start_4195 + r_4196))) (2 ^ (shI .u64 1)))) fun v_4258 =>
         chk (0 ≤ IntKind.i64.wrap ((IntKind.i64.wrap ((IntKind.i64.wrap (v_4051 + m_2)) - 1)) - v_4258) ∧ IntKind.i64.wrap ((IntKind.i64.wrap ((IntKind.i64.wrap (v_4051 + m_2)) - 1)) - v_4258) < (o0_4.length : Int)) <|
         letv ((o0_4.getD ((IntKind.i64.wrap ((IntKind.i64.wrap ((IntKind.i64.wrap (v_4051 + m_2)) - 1)) - v_4258)).toNat) (api_Record.mk 0 0 [] (api_Version.mk 0 0 0 []) (api_Version.mk 0 0 0 []) 0 [])).Time) fun v_4261 =>
         letv ((o0_4.getD ((IntKind.i64.wrap ((IntKind.i64.wrap ((IntKind.i64.wrap (v_4051 + m_2)) - 1)) - v_4258)).toNat) (api_Record.mk 0 0 [] (api_Version.mk 0 0 0 []) (api_Version.mk 0 0 0 []) 0 [])).Kind) fun v_4263 =>
         letv ((o0_4.getD ((IntKind.i64.wrap ((IntKind.i64.wrap ((IntKind.i64.wrap (v_4051 + m_2)) - 1)) - v_4258)).toNat) (api_Record.mk 0 0 [] (api_Version.mk 0 0 0 []) (api_Version.mk 0 0 0 []) 0 [])).Pack) fun v_4265 =>
         letv (((o0_4.getD ((IntKind.i64.wrap ((IntKind.i64.wrap ((IntKind.i64.wrap (v_4051 + m_2)) - 1)) - v_4258)).toNat) (api_Record.mk 0 0 [] (api_Version.mk 0 0 0 []) (api_Version.mk 0 0 0 []) 0 [])).From).Major) fun v_4267 =>
         letv (((o0_4.getD ((IntKind.i64.wrap ((IntKind.i64.wrap ((IntKind.i64.wrap (v_4051 + m_2)) - 1)) - v_4258)).toNat) (api_Record.mk 0 0 [] (api_Version.mk 0 0 0 []) (api_Version.mk 0 0 0 []) 0 [])).From).Minor) fun v_4269 =>
         letv (((o0_4.getD ((IntKind.i64.wrap ((IntKind.i64.wrap ((IntKind.i64.wrap (v_4051 + m_2)) - 1)) - v_4258)).toNat) (api_Record.mk 0 0 [] (api_Version.mk 0 0 0 []) (api_Version.mk 0 0 0 []) 0 [])).From).Patch) fun v_4271 =>
         letv (((o0_4.getD ((IntKind.i64.wrap ((IntKind.i64.wrap ((IntKind.i64.wrap (v_4051 + m_2)) - 1)) - v_4258)).toNat) (api_Record.mk 0 0 [] (api_Version.mk 0 0 0 []) (api_Version.mk 0 0 0 []) 0 [])).From).Early) fun v_4273 =>
         letv (((o0_4.getD ((IntKind.i64.wrap ((IntKind.i64.wrap ((IntKind.i64.wrap (v_4051 + m_2)) - 1)) - v_4258)).toNat) (api_Record.mk 0 0 [] (api_Version.mk 0 0 0 []) (api_Version.mk 0 0 0 []) 0 [])).To).Major) fun v_4275 =>
         letv (((o0_4.getD ((IntKind.i64.wrap ((IntKind.i64.wrap ((IntKind.i64.wrap (v_4051 + m_2)) - 1)) - v_4258)).toNat) (api_Record.mk 0 0 [] (api_Version.mk 0 0 0 []) (api_Version.mk 0 0 0 []) 0 [])).To).Minor) fun v_4277 =>
         letv (((o0_4.getD ((IntKind.i64.wrap ((IntKind.i64.wrap ((IntKind.i64.wrap (v_4051 + m_2)) - 1)) - v_4258)).toNat) (api_Record.mk 0 0 [] (api_Version.mk 0 0 0 []) (api_Version.mk 0 0 0 []) 0 [])).To).Patch) fun v_4279 =>
         letv (((o0_4.getD ((IntKind.i64.wrap ((IntKind.i64.wrap ((IntKind.i64.wrap (v_4051 + m_2)) - 1)) - v_4258)).toNat) (api_Record.mk 0 0 [] (api_Version.mk 0 0 0 []) (api_Version.mk 0 0 0 []) 0 [])).To).Early) fun v_4281 =>
         letv ((o0_4.getD ((IntKind.i64.wrap ((IntKind.i64.wrap ((IntKind.i64.wrap (v_4051 + m_2)) - 1)) - v_4258)).toNat) (api_Record.mk 0 0 [] (api_Version.mk 0 0 0 []) (api_Version.mk 0 0 0 []) 0 [])).Result) fun v_4283 =>
         letv ((o0_4.getD ((IntKind.i64.wrap ((IntKind.i64.wrap ((IntKind.i64.wrap (v_4051 + m_2)) - 1)) - v_4258)).toNat) (api_Record.mk 0 0 [] (api_Version.mk 0 0 0 []) (api_Version.mk 0 0 0 []) 0 [])).Note) fun v_4285 =>
         chk (0 ≤ v_4258 ∧ v_4258 < (o0_4.length : Int)) <|
         letv ((o0_4.getD v_4258.toNat (api_Record.mk 0 0 [] (api_Version.mk 0 0 0 []) (api_Version.mk 0 0 0 []) 0 [])).Time) fun v_4288 =>
         letv ((o0_4.getD v_4258.toNat (api_Record.mk 0 0 [] (api_Version.mk 0 0 0 []) (api_Version.mk 0 0 0 []) 0 [])).Kind) fun v_4290 =>
         letv ((o0_4.getD v_4258.toNat (api_Record.mk 0 0 [] (api_Version.mk 0 0 0 []) (api_Version.mk 0 0 0 []) 0 [])).Pack) fun v_4292 =>
         letv (((o0_4.getD v_4258.toNat (api_Record.mk 0 0 [] (api_Version.mk 0 0 0 []) (api_Version.mk 0 0 0 []) 0 [])).From).Major) fun v_4294 =>
         letv (((o0_4.getD v_4258.toNat (api_Record.mk 0 0 [] (api_Version.mk 0 0 0 []) (api_Version.mk 0 0 0 []) 0 [])).From).Minor) fun v_4296 =>
         letv (((o0_4.getD v_4258.toNat (api_Record.mk 0 0 [] (api_Version.mk 0 0 0 []) (api_Version.mk 0 0 0 []) 0 [])).From).Patch) fun v_4298 =>
         letv (((o0_4.getD v_4258.toNat (api_Record.mk 0 0 [] (api_Version.mk 0 0 0 []) (api_Version.mk 0 0 0 []) 0 [])).From).Early) fun v_4300 =>
         letv (((o0_4.getD v_4258.toNat (api_Record.mk 0 0 [] (api_Version.mk 0 0 0 []) (api_Version.mk 0 0 0 []) 0 [])).To).Major) fun v_4302 =>
         letv (((o0_4.getD v_4258.toNat (api_Record.mk 0 0 [] (api_Version.mk 0 0 0 []) (api_Version.mk 0 0 0 []) 0 [])).To).Minor) fun v_4304 =>
         letv (((o0_4.getD v_4258.toNat (api_Record.mk 0 0 [] (api_Version.mk 0 0 0 []) (api_Version.mk 0 0 0 []) 0 [])).To).Patch) fun v_4306 =>
         letv (((o0_4.getD v_4258.toNat (api_Record.mk 0 0 [] (api_Version.mk 0 0 0 []) (api_Version.mk 0 0 0 []) 0 [])).To).Early) fun v_4308 =>
         letv ((o0_4.getD v_4258.toNat (api_Record.mk 0 0 [] (api_Version.mk 0 0 0 []) (api_Version.mk 0 0 0 []) 0 [])).Result) fun v_4310 =>
         letv ((o0_4.getD v_4258.toNat (api_Record.mk 0 0 [] (api_Version.mk 0 0 0 []) (api_Version.mk 0 0 0 []) 0 [])).Note) fun v_4312 =>
         call (Law_could_1 (api_Record.mk v_4261 v_4263 v_4265 (api_Version.mk v_4267 v_4269 v_4271 v_4273) (api_Version.mk v_4275 v_4277 v_4279 v_4281) v_4283 v_4285) (api_Record.mk v_4288 v_4290 v_4292 (api_Version.mk v_4294 v_4296 v_4298 v_4300) (api_Version.mk v_4302 v_4304 v_4306 v_4308) v_4310 v_4312)) fun r_4314 =>
         bif !(decide (r_4314 < 0)) then
          nx_4257 (IntKind.i64.wrap (v_4258 + 1), r_4196)
         else
         nx_4257 (start_4195, v_4258)
        else
        k_4256 (start_4195, r_4196)) (start_4053, r_4054) (fun s => match s with
       | (start_4195, r_4196) =>
        k_4179 start_4195)) fun k_4055 =>
    bif decide (v_4051 < m_2) then
     k_4055 (IntKind.i64.wrap ((IntKind.i64.wrap (v_4051 + m_2)) - b_3), v_4051)
    else
    k_4055 (a_1, m_2)) fun k_4050 =>
   bif decide ((IntKind.i64.wrap (b_3 - m_2)) = 1) then
    jp (S := Int) (fun i_4439 =>
     jp (S := List api_Record) (fun o0_4632 =>
      some o0_4632) fun k_4633 =>
     loopN Fuel (fun s nx_4762 k_4761 =>
      match s with
      | (k_4697, o0_4698) =>
       bif decide (i_4439 < k_4697) then
        chk (0 ≤ IntKind.i64.wrap (k_4697 - 1) ∧ IntKind.i64.wrap (k_4697 - 1) < (o0_4698.length : Int)) <|
        letv ((o0_4698.getD ((IntKind.i64.wrap (k_4697 - 1)).toNat) (api_Record.mk 0 0 [] (api_Version.mk 0 0 0 []) (api_Version.mk 0 0 0 []) 0 [])).Time) fun v_4764 =>
        letv ((o0_4698.getD ((IntKind.i64.wrap (k_4697 - 1)).toNat) (api_Record.mk 0 0 [] (api_Version.mk 0 0 0 []) (api_Version.mk 0 0 0 []) 0 [])).Kind) fun v_4766 =>
        letv ((o0_4698.getD ((IntKind.i64.wrap (k_4697 - 1)).toNat) (api_Record.mk 0 0 [] (api_Version.mk 0 0 0 []) (api_Version.mk 0 0 0 []) 0 [])).Pack) fun v_4768 =>
        letv (((o0_4698.getD ((IntKind.i64.wrap (k_4697 - 1)).toNat) (api_Record.mk 0 0 [] (api_Version.mk 0 0 0 []) (api_Version.mk 0 0 0 []) 0 [])).From).Major) fun v_4770 =>
        letv (((o0_4698.getD ((IntKind.i64.wrap (k_4697 - 1)).toNat) (api_Record.mk 0 0 [] (api_Version.mk 0 0 0 []) (api_Version.mk 0 0 0 []) 0 [])).From).Minor) fun v_4772 =>
        letv (((o0_4698.getD ((IntKind.i64.wrap (k_4697 - 1)).toNat) (api_Record.mk 0 0 [] (api_Version.mk 0 0 0 []) (api_Version.mk 0 0 0 []) 0 [])).From).Patch) fun v_4774 =>
        letv (((o0_4698.getD ((IntKind.i64.wrap (k_4697 - 1)).toNat) (api_Record.mk 0 0 [] (api_Version.mk 0 0 0 []) (api_Version.mk 0 0 0 []) 0 [])).From).Early) fun v_4776 =>
        letv (((o0_4698.getD ((IntKind.i64.wrap (k_4697 - 1)).toNat) (api_Record.mk 0 0 [] (api_Version.mk 0 0 0 []) (api_Version.mk 0 0 0 []) 0 [])).To).Major) fun v_4778 =>
        letv (((o0_4698.getD ((IntKind.i64.wrap (k_4697 - 1)).toNat) (api_Record.mk 0 0 [] (api_Version.mk 0 0 0 []) (api_Version.mk 0 0 0 []) 0 [])).To).Minor) fun v_4780 =>
        letv (((o0_4698.getD ((IntKind.i64.wrap (k_4697 - 1)).toNat) (api_Record.mk 0 0 [] (api_Version.mk 0 0 0 []) (api_Version.mk 0 0 0 []) 0 [])).To).Patch) fun v_4782 =>
        letv (((o0_4698.getD ((IntKind.i64.wrap (k_4697 - 1)).toNat) (api_Record.mk 0 0 [] (api_Version.mk 0 0 0 []) (api_Version.mk 0 0 0 []) 0 [])).To).Early) fun v_4784 =>
        letv ((o0_4698.getD ((IntKind.i64.wrap (k_4697 - 1)).toNat) (api_Record.mk 0 0 [] (api_Version.mk 0 0 0 []) (api_Version.mk 0 0 0 []) 0 [])).Result) fun v_4786 =>
        letv ((o0_4698.getD ((IntKind.i64.wrap (k_4697 - 1)).toNat) (api_Record.mk 0 0 [] (api_Version.mk 0 0 0 []) (api_Version.mk 0 0 0 []) 0 [])).Note) fun v_4788 =>
        chk (0 ≤ k_4697 ∧ k_4697 < (o0_4698.length : Int)) <|
        letv ((o0_4698.getD k_4697.toNat (api_Record.mk 0 0 [] (api_Version.mk 0 0 0 []) (api_Version.mk 0 0 0 []) 0 [])).Time) fun v_4791 =>
        letv ((o0_4698.getD k_4697.toNat (api_Record.mk 0 0 [] (api_Version.mk 0 0 0 []) (api_Version.mk 0 0 0 []) 0 [])).Kind) fun v_4793 =>
        letv ((o0_4698.getD k_4697.toNat (api_Record.mk 0 0 [] (api_Version.mk 0 0 0 []) (api_Version.mk 0 0 0 []) 0 [])).Pack) fun v_4795 =>
        letv (((o0_4698.getD k_4697.toNat (api_Record.mk 0 0 [] (api_Version.mk 0 0 0 []) (api_Version.mk 0 0 0 []) 0 [])).From).Major) fun v_4797 =>
        letv (((o0_4698.getD k_4697.toNat (api_Record.mk 0 0 [] (api_Version.mk 0 0 0 []) (api_Version.mk 0 0 0 []) 0 [])).From).Minor) fun v_4799 =>
        letv (((o0_4698.getD k_4697.toNat (api_Record.mk 0 0 [] (api_Version.mk 0 0 0 []) (api_Version.mk 0 0 0 []) 0 [])).From).Patch) fun v_4801 =>
        letv (((o0_4698.getD k_4697.toNat (api_Record.mk 0 0 [] (api_Version.mk 0 0 0 []) (api_Version.mk 0 0 0 []) 0 [])).From).Early) fun v_4803 =>
        letv (((o0_4698.getD k_4697.toNat (api_Record.mk 0 0 [] (api_Version.mk 0 0 0 []) (api_Version.mk 0 0 0 []) 0 [])).To).Major) fun v_4805 =>
        letv (((o0_4698.getD k_4697.toNat (api_Record.mk 0 0 [] (api_Version.mk 0 0 0 []) (api_Version.mk 0 0 0 []) 0 [])).To).Minor) fun v_4807 =>
        letv (((o0_4698.getD k_4697.toNat (api_Record.mk 0 0 [] (api_Version.mk 0 0 0 []) (api_Version.mk 0 0 0 []) 0 [])).To).Patch) fun v_4809 =>
        letv (((o0_4698.getD k_4697.toNat (api_Record.mk 0 0 [] (api_Version.mk 0 0 0 []) (api_Version.mk 0 0 0 []) 0 [])).To).Early) fun v_4811 =>
        letv ((o0_4698.getD k_4697.toNat (api_Record.mk 0 0 [] (api_Version.mk 0 0 0 []) (api_Version.mk 0 0 0 []) 0 [])).Result) fun v_4813 =>
        letv ((o0_4698.getD k_4697.toNat (api_Record.mk 0 0 [] (api_Version.mk 0 0 0 []) (api_Version.mk 0 0 0 []) 0 [])).Note) fun v_4815 =>
        chk (0 ≤ k_4697 ∧ k_4697 < (o0_4698.length : Int)) <|
        letv (List.set o0_4698 k_4697.toNat (api_Record.mk v_4764 v_4766 v_4768 (api_Version.mk v_4770 v_4772 v_4774 v_4776) (api_Version.mk v_4778 v_4780 v_4782 v_4784) v_4786 v_4788)) fun v_4818 =>
        chk (0 ≤ IntKind.i64.wrap (k_4697 - 1) ∧ IntKind.i64.wrap (k_4697 - 1) < (v_4818.length : Int)) <|
        letv (List.set v_4818 ((IntKind.i64.wrap (k_4697 - 1)).toNat) (api_Record.mk v_4791 v_4793 v_4795 (api_Version.mk v_4797 v_4799 v_4801 v_4803) (api_Version.mk v_4805 v_4807 v_4809 v_4811) v_4813 v_4815)) fun v_4821 =>
        nx_4762 (IntKind.i64.wrap (k_4697 - 1), v_4821)
       else
       k_4761 (k_4697, o0_4698)) (m_2, o0_4) (fun s => match s with
      | (k_4697, o0_4698) =>
       k_4633 o0_4698)) fun k_4440 =>
    loopN Fuel (fun s nx_4887 k_4886 =>
     match s with
     | (i_4825, j_4826) =>
      bif decide (i_4825 < j_4826) then
       letv (IntKind.i64.wrap (Int.fdiv (IntKind.u64.wrap (IntKind.i64.wrap (i_4825 + j_4826))) (2 ^ (shI .u64 1)))) fun v_4888 =>
       chk (0 ≤ m_2 ∧ m_2 < (o0_4.length : Int)) <|
       letv ((o0_4.getD m_2.toNat (api_Record.mk 0 0 [] (api_Version.mk 0 0 0 []) (api_Version.mk 0 0 0 []) 0 [])).Time) fun v_4891 =>
       letv ((o0_4.getD m_2.toNat (api_Record.mk 0 0 [] (api_Version.mk 0 0 0 []) (api_Version.mk 0 0 0 []) 0 [])).Kind) fun v_4893 =>
       letv ((o0_4.getD m_2.toNat (api_Record.mk 0 0 [] (api_Version.mk 0 0 0 []) (api_Version.mk 0 0 0 []) 0 [])).Pack) fun v_4895 =>
       letv (((o0_4.getD m_2.toNat (api_Record.mk 0 0 [] (api_Version.mk 0 0 0 []) (api_Version.mk 0 0 0 []) 0 [])).From).Major) fun v_4897 =>
       letv (((o0_4.getD m_2.toNat (api_Record.mk 0 0 [] (api_Version.mk 0 0 0 []) (api_Version.mk 0 0 0 []) 0 [])).From).Minor) fun v_4899 =>
       letv (((o0_4.getD m_2.toNat (api_Record.mk 0 0 [] (api_Version.mk 0 0 0 []) (api_Version.mk 0 0 0 []) 0 [])).From).Patch) fun v_4901 =>
       letv (((o0_4.getD m_2.toNat (api_Record.mk 0 0 [] (api_Version.mk 0 0 0 []) (api_Version.mk 0 0 0 []) 0 [])).From).Early) fun v_4903 =>
       letv (((o0_4.getD m_2.toNat (api_Record.mk 0 0 [] (api_Version.mk 0 0 0 []) (api_Version.mk 0 0 0 []) 0 [])).To).Major) fun v_4905 =>
       letv (((o0_4.getD m_2.toNat (api_Record.mk 0 0 [] (api_Version.mk 0 0 0 []) (api_Version.mk 0 0 0 []) 0 [])).To).Minor) fun v_4907 =>
       letv (((o0_4.getD m_2.toNat (api_Record.mk 0 0 [] (api_Version.mk 0 0 0 []) (api_Version.mk 0 0 0 []) 0 [])).To).Patch) fun v_4909 =>
       letv (((o0_4.getD m_2.toNat (api_Record.mk 0 0 [] (api_Version.mk 0 0 0 []) (api_Version.mk 0 0 0 []) 0 [])).To).Early) fun v_4911 =>
       letv ((o0_4.getD m_2.toNat (api_Record.mk 0 0 [] (api_Version.mk 0 0 0 []) (api_Version.mk 0 0 0 []) 0 [])).Result) fun v_4913 =>
       letv ((o0_4.getD m_2.toNat (api_Record.mk 0 0 [] (api_Version.mk 0 0 0 []) (api_Version.mk 0 0 0 []) 0 [])).Note) fun v_4915 =>
       chk (0 ≤ v_4888 ∧ v_4888 < (o0_4.length : Int)) <|
       letv ((o0_4.getD v_4888.toNat (api_Record.mk 0 0 [] (api_Version.mk 0 0 0 []) (api_Version.mk 0 0 0 []) 0 [])).Time) fun v_4918 =>
       letv ((o0_4.getD v_4888.toNat (api_Record.mk 0 0 [] (api_Version.mk 0 0 0 []) (api_Version.mk 0 0 0 []) 0 [])).Kind) fun v_4920 =>
       letv ((o0_4.getD v_4888.toNat (api_Record.mk 0 0 [] (api_Version.mk 0 0 0 []) (api_Version.mk 0 0 0 []) 0 [])).Pack) fun v_4922 =>
       letv (((o0_4.getD v_4888.toNat (api_Record.mk 0 0 [] (api_Version.mk 0 0 0 []) (api_Version.mk 0 0 0 []) 0 [])).From).Major) fun v_4924 =>
       letv (((o0_4.getD v_4888.toNat (api_Record.mk 0 0 [] (api_Version.mk 0 0 0 []) (api_Version.mk 0 0 0 []) 0 [])).From).Minor) fun v_4926 =>
       letv (((o0_4.getD v_4888.toNat (api_Record.mk 0 0 [] (api_Version.mk 0 0 0 []) (api_Version.mk 0 0 0 []) 0 [])).From).Patch) fun v_4928 =>
       letv (((o0_4.getD v_4888.toNat (api_Record.mk 0 0 [] (api_Version.mk 0 0 0 []) (api_Version.mk 0 0 0 []) 0 [])).From).Early) fun v_4930 =>
       letv (((o0_4.getD v_4888.toNat (api_Record.mk 0 0 [] (api_Version.mk 0 0 0 []) (api_Version.mk 0 0 0 []) 0 [])).To).Major) fun v_4932 =>
       letv (((o0_4.getD v_4888.toNat (api_Record.mk 0 0 [] (api_Version.mk 0 0 0 []) (api_Version.mk 0 0 0 []) 0 [])).To).Minor) fun v_4934 =>
       letv (((o0_4.getD v_4888.toNat (api_Record.mk 0 0 [] (api_Version.mk 0 0 0 []) (api_Version.mk 0 0 0 []) 0 [])).To).Patch) fun v_4936 =>
       letv (((o0_4.getD v_4888.toNat (api_Record.mk 0 0 [] (api_Version.mk 0 0 0 []) (api_Version.mk 0 0 0 []) 0 [])).To).Early) fun v_4938 =>
       letv ((o0_4.getD v_4888.toNat (api_Record.mk 0 0 [] (api_Version.mk 0 0 0 []) (api_Version.mk 0 0 0 []) 0 [])).Result) fun v_4940 =>
       letv ((o0_4.getD v_4888.toNat (api_Record.mk 0 0 [] (api_Version.mk 0 0 0 []) (api_Version.mk 0 0 0 []) 0 [])).Note) fun v_4942 =>
       call (Law_could_1 (api_Record.mk v_4891 v_4893 v_4895 (api_Version.mk v_4897 v_4899 v_4901 v_4903) (api_Version.mk v_4905 v_4907 v_4909 v_4911) v_4913 v_4915) (api_Record.mk v_4918 v_4920 v_4922 (api_Version.mk v_4924 v_4926 v_4928 v_4930) (api_Version.mk v_4932 v_4934 v_4936 v_4938) v_4940 v_4942)) fun r_4944 =>
       bif !(decide (r_4944 < 0)) then
        nx_4887 (IntKind.i64.wrap (v_4888 + 1), j_4826)
       else
       nx_4887 (i_4825, v_4888)
      else
      k_4886 (i_4825, j_4826)) (a_1, m_2) (fun s => match s with
     | (i_4825, j_4826) =>
      k_4440 i_4825)
   else
   k_4050 ()) fun k_3419 =>
  bif decide ((IntKind.i64.wrap (m_2 - a_1)) = 1) then
   jp (S := Int) (fun i_5069 =>
    jp (S := List api_Record) (fun o0_5262 =>
     some o0_5262) fun k_5263 =>
    loopN Fuel (fun s nx_5392 k_5391 =>
     match s with
     | (k_5327, o0_5328) =>
      bif decide (k_5327 < (IntKind.i64.wrap (i_5069 - 1))) then
       chk (0 ≤ IntKind.i64.wrap (k_5327 + 1) ∧ IntKind.i64.wrap (k_5327 + 1) < (o0_5328.length : Int)) <|
       letv ((o0_5328.getD ((IntKind.i64.wrap (k_5327 + 1)).toNat) (api_Record.mk 0 0 [] (api_Version.mk 0 0 0 []) (api_Version.mk 0 0 0 []) 0 [])).Time) fun v_5394 =>
       letv ((o0_5328.getD ((IntKind.i64.wrap (k_5327 + 1)).toNat) (api_Record.mk 0 0 [] (api_Version.mk 0 0 0 []) (api_Version.mk 0 0 0 []) 0 [])).Kind) fun v_5396 =>
       letv ((o0_5328.getD ((IntKind.i64.wrap (k_5327 + 1)).toNat) (api_Record.mk 0 0 [] (api_Version.mk 0 0 0 []) (api_Version.mk 0 0 0 []) 0 [])).Pack) fun v_5398 =>
       letv (((o0_5328.getD ((IntKind.i64.wrap (k_5327 + 1)).toNat) (api_Record.mk 0 0 [] (api_Version.mk 0 0 0 []) (api_Version.mk 0 0 0 []) 0 [])).From).Major) fun v_5400 =>
       letv (((o0_5328.getD ((IntKind.i64.wrap (k_5327 + 1)).toNat) (api_Record.mk 0 0 [] (api_Version.mk 0 0 0 []) (api_Version.mk 0 0 0 []) 0 [])).From).Minor) fun v_5402 =>
       letv (((o0_5328.getD ((IntKind.i64.wrap (k_5327 + 1)).toNat) (api_Record.mk 0 0 [] (api_Version.mk 0 0 0 []) (api_Version.mk 0 0 0 []) 0 [])).From).Patch) fun v_5404 =>
       letv (((o0_5328.getD ((IntKind.i64.wrap (k_5327 + 1)).toNat) (api_Record.mk 0 0 [] (api_Version.mk 0 0 0 []) (api_Version.mk 0 0 0 []) 0 [])).From).Early) fun v_5406 =>
       letv (((o0_5328.getD ((IntKind.i64.wrap (k_5327 + 1)).toNat) (api_Record.mk 0 0 [] (api_Version.mk 0 0 0 []) (api_Version.mk 0 0 0 []) 0 [])).To).Major) fun v_5408 =>
       letv (((o0_5328.getD ((IntKind.i64.wrap (k_5327 + 1)).toNat) (api_Record.mk 0 0 [] (api_Version.mk 0 0 0 []) (api_Version.mk 0 0 0 []) 0 [])).To).Minor) fun v_5410 =>
       letv (((o0_5328.getD ((IntKind.i64.wrap (k_5327 + 1)).toNat) (api_Record.mk 0 0 [] (api_Version.mk 0 0 0 []) (api_Version.mk 0 0 0 []) 0 [])).To).Patch) fun v_5412 =>
       letv (((o0_5328.getD ((IntKind.i64.wrap (k_5327 + 1)).toNat) (api_Record.mk 0 0 [] (api_Version.mk 0 0 0 []) (api_Version.mk 0 0 0 []) 0 [])).To).Early) fun v_5414 =>
       letv ((o0_5328.getD ((IntKind.i64.wrap (k_5327 + 1)).toNat) (api_Record.mk 0 0 [] (api_Version.mk 0 0 0 []) (api_Version.mk 0 0 0 []) 0 [])).Result) fun v_5416 =>
       letv ((o0_5328.getD ((IntKind.i64.wrap (k_5327 + 1)).toNat) (api_Record.mk 0 0 [] (api_Version.mk 0 0 0 []) (api_Version.mk 0 0 0 []) 0 [])).Note) fun v_5418 =>
       chk (0 ≤ k_5327 ∧ k_5327 < (o0_5328.length : Int)) <|
       letv ((o0_5328.getD k_5327.toNat (api_Record.mk 0 0 [] (api_Version.mk 0 0 0 []) (api_Version.mk 0 0 0 []) 0 [])).Time) fun v_5421 =>
       letv ((o0_5328.getD k_5327.toNat (api_Record.mk 0 0 [] (api_Version.mk 0 0 0 []) (api_Version.mk 0 0 0 []) 0 [])).Kind) fun v_5423 =>
       letv ((o0_5328.getD k_5327.toNat (api_Record.mk 0 0 [] (api_Version.mk 0 0 0 []) (api_Version.mk 0 0 0 []) 0 [])).Pack) fun v_5425 =>
       letv (((o0_5328.getD k_5327.toNat (api_Record.mk 0 0 [] (api_Version.mk 0 0 0 []) (api_Version.mk 0 0 0 []) 0 [])).From).Major) fun v_5427 =>
       letv (((o0_5328.getD k_5327.toNat (api_Record.mk 0 0 [] (api_Version.mk 0 0 0 []) (api_Version.mk 0 0 0 []) 0 [])).From).Minor) fun v_5429 =>
       letv (((o0_5328.getD k_5327.toNat (api_Record.mk 0 0 [] (api_Version.mk 0 0 0 []) (api_Version.mk 0 0 0 []) 0 [])).From).Patch) fun v_5431 =>
       letv (((o0_5328.getD k_5327.toNat (api_Record.mk 0 0 [] (api_Version.mk 0 0 0 []) (api_Version.mk 0 0 0 []) 0 [])).From).Early) fun v_5433 =>
       letv (((o0_5328.getD k_5327.toNat (api_Record.mk 0 0 [] (api_Version.mk 0 0 0 []) (api_Version.mk 0 0 0 []) 0 [])).To).Major) fun v_5435 =>
       letv (((o0_5328.getD k_5327.toNat (api_Record.mk 0 0 [] (api_Version.mk 0 0 0 []) (api_Version.mk 0 0 0 []) 0 [])).To).Minor) fun v_5437 =>
       letv (((o0_5328.getD k_5327.toNat (api_Record.mk 0 0 [] (api_Version.mk 0 0 0 []) (api_Version.mk 0 0 0 []) 0 [])).To).Patch) fun v_5439 =>
       letv (((o0_5328.getD k_5327.toNat (api_Record.mk 0 0 [] (api_Version.mk 0 0 0 []) (api_Version.mk 0 0 0 []) 0 [])).To).Early) fun v_5441 =>
       letv ((o0_5328.getD k_5327.toNat (api_Record.mk 0 0 [] (api_Version.mk 0 0 0 []) (api_Version.mk 0 0 0 []) 0 [])).Result) fun v_5443 =>
       letv ((o0_5328.getD k_5327.toNat (api_Record.mk 0 0 [] (api_Version.mk 0 0 0 []) (api_Version.mk 0 0 0 []) 0 [])).Note) fun v_5445 =>
       chk (0 ≤ k_5327 ∧ k_5327 < (o0_5328.length : Int)) <|
       letv (List.set o0_5328 k_5327.toNat (api_Record.mk v_5394 v_5396 v_5398 (api_Version.mk v_5400 v_5402 v_5404 v_5406) (api_Version.mk v_5408 v_5410 v_5412 v_5414) v_5416 v_5418)) fun v_5448 =>
       chk (0 ≤ IntKind.i64.wrap (k_5327 + 1) ∧ IntKind.i64.wrap (k_5327 + 1) < (v_5448.length : Int)) <|
       letv (List.set v_5448 ((IntKind.i64.wrap (k_5327 + 1)).toNat) (api_Record.mk v_5421 v_5423 v_5425 (api_Version.mk v_5427 v_5429 v_5431 v_5433) (api_Version.mk v_5435 v_5437 v_5439 v_5441) v_5443 v_5445)) fun v_5451 =>
       nx_5392 (IntKind.i64.wrap (k_5327 + 1), v_5451)
      else
      k_5391 (k_5327, o0_5328)) (a_1, o0_4) (fun s => match s with
     | (k_5327, o0_5328) =>
      k_5263 o0_5328)) fun k_5070 =>
   loopN Fuel (fun s nx_5517 k_5516 =>
    match s with
    | (i_5455, j_5456) =>
     bif decide (i_5455 < j_5456) then
      letv (IntKind.i64.wrap (Int.fdiv (IntKind.u64.wrap (IntKind.i64.wrap (i_5455 + j_5456))) (2 ^ (shI .u64 1)))) fun v_5518 =>
      chk (0 ≤ v_5518 ∧ v_5518 < (o0_4.length : Int)) <|
      letv ((o0_4.getD v_5518.toNat (api_Record.mk 0 0 [] (api_Version.mk 0 0 0 []) (api_Version.mk 0 0 0 []) 0 [])).Time) fun v_5521 =>
      letv ((o0_4.getD v_5518.toNat (api_Record.mk 0 0 [] (api_Version.mk 0 0 0 []) (api_Version.mk 0 0 0 []) 0 [])).Kind) fun v_5523 =>
      letv ((o0_4.getD v_5518.toNat (api_Record.mk 0 0 [] (api_Version.mk 0 0 0 []) (api_Version.mk 0 0 0 []) 0 [])).Pack) fun v_5525 =>
      letv (((o0_4.getD v_5518.toNat (api_Record.mk 0 0 [] (api_Version.mk 0 0 0 []) (api_Version.mk 0 0 0 []) 0 [])).From).Major) fun v_5527 =>
      letv (((o0_4.getD v_5518.toNat (api_Record.mk 0 0 [] (api_Version.mk 0 0 0 []) (api_Version.mk 0 0 0 []) 0 [])).From).Minor) fun v_5529 =>
      letv (((o0_4.getD v_5518.toNat (api_Record.mk 0 0 [] (api_Version.mk 0 0 0 []) (api_Version.mk 0 0 0 []) 0 [])).From).Patch) fun v_5531 =>
      letv (((o0_4.getD v_5518.toNat (api_Record.mk 0 0 [] (api_Version.mk 0 0 0 []) (api_Version.mk 0 0 0 []) 0 [])).From).Early) fun v_5533 =>
      letv (((o0_4.getD v_5518.toNat (api_Record.mk 0 0 [] (api_Version.mk 0 0 0 []) (api_Version.mk 0 0 0 []) 0 [])).To).Major) fun v_5535 =>
      letv (((o0_4.getD v_5518.toNat (api_Record.mk 0 0 [] (api_Version.mk 0 0 0 []) (api_Version.mk 0 0 0 []) 0 [])).To).Minor) fun v_5537 =>
      letv (((o0_4.getD v_5518.toNat (api_Record.mk 0 0 [] (api_Version.mk 0 0 0 []) (api_Version.mk 0 0 0 []) 0 [])).To).Patch) fun v_5539 =>
      letv (((o0_4.getD v_5518.toNat (api_Record.mk 0 0 [] (api_Version.mk 0 0 0 []) (api_Version.mk 0 0 0 []) 0 [])).To).Early) fun v_5541 =>
      letv ((o0_4.getD v_5518.toNat (api_Record.mk 0 0 [] (api_Version.mk 0 0 0 []) (api_Version.mk 0 0 0 []) 0 [])).Result) fun v_5543 =>
      letv ((o0_4.getD v_5518.toNat (api_Record.mk 0 0 [] (api_Version.mk 0 0 0 []) (api_Version.mk 0 0 0 []) 0 [])).Note) fun v_5545 =>
      chk (0 ≤ a_1 ∧ a_1 < (o0_4.length : Int)) <|
      letv ((o0_4.getD a_1.toNat (api_Record.mk 0 0 [] (api_Version.mk 0 0 0 []) (api_Version.mk 0 0 0 []) 0 [])).Time) fun v_5548 =>
      letv ((o0_4.getD a_1.toNat (api_Record.mk 0 0 [] (api_Version.mk 0 0 0 []) (api_Version.mk 0 0 0 []) 0 [])).Kind) fun v_5550 =>
      letv ((o0_4.getD a_1.toNat (api_Record.mk 0 0 [] (api_Version.mk 0 0 0 []) (api_Version.mk 0 0 0 []) 0 [])).Pack) fun v_5552 =>
      letv (((o0_4.getD a_1.toNat (api_Record.mk 0 0 [] (api_Version.mk 0 0 0 []) (api_Version.mk 0 0 0 []) 0 [])).From).Major) fun v_5554 =>
      letv (((o0_4.getD a_1.toNat (api_Record.mk 0 0 [] (api_Version.mk 0 0 0 []) (api_Version.mk 0 0 0 []) 0 [])).From).Minor) fun v_5556 =>
      letv (((o0_4.getD a_1.toNat (api_Record.mk 0 0 [] (api_Version.mk 0 0 0 []) (api_Version.mk 0 0 0 []) 0 [])).From).Patch) fun v_5558 =>
      letv (((o0_4.getD a_1.toNat (api_Record.mk 0 0 [] (api_Version.mk 0 0 0 []) (api_Version.mk 0 0 0 []) 0 [])).From).Early) fun v_5560 =>
      letv (((o0_4.getD a_1.toNat (api_Record.mk 0 0 [] (api_Version.mk 0 0 0 []) (api_Version.mk 0 0 0 []) 0 [])).To).Major) fun v_5562 =>
      letv (((o0_4.getD a_1.toNat (api_Record.mk 0 0 [] (api_Version.mk 0 0 0 []) (api_Version.mk 0 0 0 []) 0 [])).To).Minor) fun v_5564 =>
      letv (((o0_4.getD a_1.toNat (api_Record.mk 0 0 [] (api_Version.mk 0 0 0 []) (api_Version.mk 0 0 0 []) 0 [])).To).Patch) fun v_5566 =>
      letv (((o0_4.getD a_1.toNat (api_Record.mk 0 0 [] (api_Version.mk 0 0 0 []) (api_Version.mk 0 0 0 []) 0 [])).To).Early) fun v_5568 =>
      letv ((o0_4.getD a_1.toNat (api_Record.mk 0 0 [] (api_Version.mk 0 0 0 []) (api_Version.mk 0 0 0 []) 0 [])).Result) fun v_5570 =>
      letv ((o0_4.getD a_1.toNat (api_Record.mk 0 0 [] (api_Version.mk 0 0 0 []) (api_Version.mk 0 0 0 []) 0 [])).Note) fun v_5572 =>
      call (Law_could_1 (api_Record.mk v_5521 v_5523 v_5525 (api_Version.mk v_5527 v_5529 v_5531 v_5533) (api_Version.mk v_5535 v_5537 v_5539 v_5541) v_5543 v_5545) (api_Record.mk v_5548 v_5550 v_5552 (api_Version.mk v_5554 v_5556 v_5558 v_5560) (api_Version.mk v_5562 v_5564 v_5566 v_5568) v_5570 v_5572)) fun r_5574 =>
      bif decide (r_5574 < 0) then
       nx_5517 (IntKind.i64.wrap (v_5518 + 1), j_5456)
      else
      nx_5517 (i_5455, v_5518)
     else
     k_5516 (i_5455, j_5456)) (m_2, b_3) (fun s => match s with
    | (i_5455, j_5456) =>
     k_5070 i_5455)
  else
  k_3419 ()
noncomputable def slices_stableCmpFunc_api_Record_i1 (n_1 : Int) (o0_2 : List api_Record) : Option (List api_Record) :=
 jp (S := Int × List api_Record) (fun s => match s with
  | (a_114, o0_115) =>
   call (slices_insertionSortCmpFunc_api_Record_i1 a_114 n_1 o0_115) fun r_117 =>
   loopN Fuel (fun s nx_170 k_169 =>
    match s with
    | (blockSize_143, o0_144) =>
     bif decide (blockSize_143 < n_1) then
      jp (S := Int × List api_Record) (fun s => match s with
       | (a_181, o0_182) =>
        bif decide ((IntKind.i64.wrap (a_181 + blockSize_143)) < n_1) then
         call (slices_symMergeCmpFunc_api_Record_i1 Fuel a_181 (IntKind.i64.wrap (a_181 + blockSize_143)) n_1 o0_182) fun r_184 =>
         nx_170 (IntKind.i64.wrap (blockSize_143 * 2), r_184)
        else
        nx_170 (IntKind.i64.wrap (blockSize_143 * 2), o0_182)) fun k_183 =>
      loopN Fuel (fun s nx_193 k_192 =>
       match s with
       | (a_188, b_189, o0_190) =>
        bif decide (b_189 ≤ n_1) then
         call (slices_symMergeCmpFunc_api_Record_i1 Fuel a_188 (IntKind.i64.wrap (a_188 + blockSize_143)) b_189 o0_190) fun r_194 =>
         nx_193 (b_189, IntKind.i64.wrap (b_189 + (IntKind.i64.wrap (2 * blockSize_143))), r_194)
        else
        k_192 (a_188, b_189, o0_190)) (0, IntKind.i64.wrap (2 * blockSize_143), o0_144) (fun s => match s with
       | (a_188, b_189, o0_190) =>
        k_183 (a_188, o0_190))
     else
     k_169 (blockSize_143, o0_144)) (20, r_117) (fun s => match s with
    | (blockSize_143, o0_144) =>
     some o0_144)) fun k_116 =>
 loopN Fuel (fun s nx_203 k_202 =>
  match s with
  | (a_198, b_199, o0_200) =>
   bif decide (b_199 ≤ n_1) then
    call (slices_insertionSortCmpFunc_api_Record_i1 a_198 b_199 o0_200) fun r_204 =>
    nx_203 (b_199, IntKind.i64.wrap (b_199 + 20), r_204)
   else
   k_202 (a_198, b_199, o0_200)) (0, 20, o0_2) (fun s => match s with
  | (a_198, b_199, o0_200) =>
   k_116 (a_198, o0_200))
noncomputable def slices_SortStableFunc_api_Record_api_Record_i1 (o0_1 : List api_Record) : Option (List api_Record) :=
 call (slices_stableCmpFunc_api_Record_i1 (o0_1.length : Int) o0_1) fun r_3 =>
 some r_3
noncomputable def R_when (bad_1 : Bool) (e_2 : Int) : Option Int :=
 bif bad_1 then
  some e_2
 else
 some 0
noncomputable def R_IsName (s_1 : Str) : Option Bool :=
 jp (S := Unit) (fun _ =>
  some ((!decide (s_1 = [])) && (decide ((s_1.length : Int) ≤ 40)))) fun k_9 =>
 forL s_1 0 (fun i_14 c_16 s nx_13 k_12 =>
  bif (((decide ((i_14 : Int) = 0)) && (!((decide (97 ≤ (c_16.toNat : Int))) && (decide ((c_16.toNat : Int) ≤ 122))))) || ((((!((decide (97 ≤ (c_16.toNat : Int))) && (decide ((c_16.toNat : Int) ≤ 122)))) && ((decide ((c_16.toNat : Int) < 48)) || (decide (57 < (c_16.toNat : Int))))) && (!decide ((c_16.toNat : Int) = 45))) && (!decide ((c_16.toNat : Int) = 46)))) then
   some false
  else
  nx_13 ()) () (fun _ =>
  k_9 ())
noncomputable def R_first (l_1 : List Int) : Option Int :=
 jp (S := Unit) (fun _ =>
  some 0) fun k_9 =>
 forL l_1 0 (fun i_14 e_16 s nx_13 k_12 =>
  bif !decide (e_16 = 0) then
   some e_16
  else
  nx_13 ()) () (fun _ =>
  k_9 ())
noncomputable def R_In (n_1 : Int) (low_2 : Int) (high_3 : Int) : Option Bool :=
 some ((decide (low_2 ≤ n_1)) && (decide (n_1 ≤ high_3)))
noncomputable def internal_stringslite_IndexByte (s_1 : Str) (c_2 : Int) : Option Int :=
 some (ixByte s_1 c_2)
noncomputable def internal_stringslite_Index (s_1 : Str) (substr_2 : Str) : Option Int :=
 bif ((decide ((substr_2.length : Int) = 0)) || (decide (substr_2 = s_1))) then
  some 0
 else
 bif decide ((substr_2.length : Int) = 1) then
  idxS substr_2 0 fun c_3 =>
  call (internal_stringslite_IndexByte s_1 c_3) fun r_4 =>
  some r_4
 else
 bif decide ((s_1.length : Int) ≤ (substr_2.length : Int)) then
  some (-1)
 else
 none
noncomputable def strings_Index (s_1 : Str) (substr_2 : Str) : Option Int :=
 call (internal_stringslite_Index s_1 substr_2) fun r_3 =>
 some r_3
noncomputable def strings_Count (s_1 : Str) (substr_2 : Str) : Option Int :=
 bif decide ((substr_2.length : Int) = 0) then
  none
 else
 bif decide ((substr_2.length : Int) = 1) then
  idxS substr_2 0 fun c_3 =>
  some (cntByte s_1 c_3)
 else
 loopN Fuel (fun s nx_15 k_14 =>
  match s with
  | (s_10, n_11) =>
   call (strings_Index s_10 substr_2) fun r_16 =>
   bif decide (r_16 = (-1)) then
    some n_11
   else
   chk (0 ≤ IntKind.i64.wrap (r_16 + (substr_2.length : Int)) ∧ IntKind.i64.wrap (r_16 + (substr_2.length : Int)) ≤ (s_10.length : Int)) <|
   nx_15 (List.drop ((IntKind.i64.wrap (r_16 + (substr_2.length : Int))).toNat) s_10, IntKind.i64.wrap (n_11 + 1))) (s_1, 0) (fun s => match s with
  | (s_10, n_11) =>
   some 0)
noncomputable def strings_genSplit (s_1 : Str) (sep_2 : Str) (sepSave_3 : Int) (n_4 : Int) : Option (List Str) :=
 bif decide (n_4 = 0) then
  some []
 else
 bif decide (sep_2 = []) then
  none
 else
 jp (S := Int) (fun n_6 =>
  chk (0 ≤ min n_6 (IntKind.i64.wrap ((s_1.length : Int) + 1)) ∧ min n_6 (IntKind.i64.wrap ((s_1.length : Int) + 1)) ≤ min n_6 (IntKind.i64.wrap ((s_1.length : Int) + 1)) ∧ min n_6 (IntKind.i64.wrap ((s_1.length : Int) + 1)) ≤ 274877906944) <|
  jp (S := Str × Int × List Str) (fun s => match s with
   | (s_28, i_29, o0_30) =>
    chk (0 ≤ i_29 ∧ i_29 < (o0_30.length : Int)) <|
    chk (0 ≤ IntKind.i64.wrap (i_29 + 1) ∧ IntKind.i64.wrap (i_29 + 1) ≤ ((List.set o0_30 i_29.toNat s_28).length : Int)) <|
    some (List.take ((IntKind.i64.wrap (i_29 + 1)).toNat) (List.set o0_30 i_29.toNat s_28))) fun k_31 =>
  loopN Fuel (fun s nx_48 k_47 =>
   match s with
   | (s_40, i_41, o0_42) =>
    bif decide (i_41 < (IntKind.i64.wrap ((min n_6 (IntKind.i64.wrap ((s_1.length : Int) + 1))) - 1))) then
     call (strings_Index s_40 sep_2) fun r_49 =>
     bif decide (r_49 < 0) then
      k_47 (s_40, i_41, o0_42)
     else
     chk (0 ≤ IntKind.i64.wrap (r_49 + sepSave_3) ∧ IntKind.i64.wrap (r_49 + sepSave_3) ≤ (s_40.length : Int)) <|
     chk (0 ≤ i_41 ∧ i_41 < (o0_42.length : Int)) <|
     chk (0 ≤ IntKind.i64.wrap (r_49 + (sep_2.length : Int)) ∧ IntKind.i64.wrap (r_49 + (sep_2.length : Int)) ≤ (s_40.length : Int)) <|
     nx_48 (List.drop ((IntKind.i64.wrap (r_49 + (sep_2.length : Int))).toNat) s_40, IntKind.i64.wrap (i_41 + 1), List.set o0_42 i_41.toNat (List.take ((IntKind.i64.wrap (r_49 + sepSave_3)).toNat) s_40))
    else
    k_47 (s_40, i_41, o0_42)) (s_1, 0, List.replicate ((min n_6 (IntKind.i64.wrap ((s_1.length : Int) + 1))).toNat) []) (fun s => match s with
   | (s_40, i_41, o0_42) =>
    k_31 (s_40, i_41, o0_42))) fun k_7 =>
 bif decide (n_4 < 0) then
  call (strings_Count s_1 sep_2) fun r_53 =>
  k_7 (IntKind.i64.wrap (r_53 + 1))
 else
 k_7 n_4
noncomputable def strings_Split (s_1 : Str) (sep_2 : Str) : Option (List Str) :=
 call (strings_genSplit s_1 sep_2 0 (-1)) fun r_3 =>
 some r_3
noncomputable def strings_Trim (s cut : Str) : Option Str := chk (cut.length ≤ 4294967280 ∧ (cut.all fun c => decide (c.toNat < 128)) = true) <| some (Go.Lib.trimS s cut)
noncomputable def strings_IndexByte (s_1 : Str) (c_2 : Int) : Option Int :=
 call (internal_stringslite_IndexByte s_1 c_2) fun r_3 =>
 some r_3
noncomputable def R_inner (s_1 : Str) (bytes_2 : Str) : Option Bool :=
 jp (S := Unit) (fun _ =>
  some true) fun k_12 =>
 forL s_1 0 (fun i_18 c_20 s nx_17 k_16 =>
  call (strings_IndexByte bytes_2 (c_20.toNat : Int)) fun r_21 =>
  bif decide (r_21 < 0) then
   some false
  else
  nx_17 ()) () (fun _ =>
  k_12 ())
noncomputable def R_Of (s_1 : Str) (bytes_2 : Str) : Option Bool :=
 call (strings_Trim s_1 bytes_2) fun r_3 =>
 callG (decide (r_3 = [])) (R_inner s_1 bytes_2) false fun r_4 =>
 some ((decide (r_3 = [])) && r_4)
noncomputable def R_VersionError (l_1 : List api_Version) : Option Int :=
 jp (S := Unit) (fun _ =>
  some 0) fun k_144 =>
 forL l_1 0 (fun i_217 v_219 s nx_216 k_215 =>
  jp (S := Unit) (fun _ =>
   nx_216 ()) fun k_253 =>
  jp (S := Unit) (fun _ =>
   bif decide (v_219.Early = []) then
    k_253 ()
   else
   bif decide (40 < (v_219.Early.length : Int)) then
    some 2
   else
   call (strings_Split v_219.Early ([46] : Str)) fun r_264 =>
   forL r_264 0 (fun i_272 s_274 s nx_271 k_270 =>
    callG (!((decide (s_274 = [])) || (decide (10 < (s_274.length : Int))))) (R_Of s_274 ([97, 98, 99, 100, 101, 102, 103, 104, 105, 106, 107, 108, 109, 110, 111, 112, 113, 114, 115, 116, 117, 118, 119, 120, 121, 122, 48, 49, 50, 51, 52, 53, 54, 55, 56, 57] : Str)) false fun r_275 =>
    callG (!(((decide (s_274 = [])) || (decide (10 < (s_274.length : Int)))) || (!r_275))) (R_Of s_274 ([48, 49, 50, 51, 52, 53, 54, 55, 56, 57] : Str)) false fun r_276 =>
    chk (((!(((decide (s_274 = [])) || (decide (10 < (s_274.length : Int)))) || (!r_275))) && (r_276 && (decide (1 < (s_274.length : Int))))) = true → (0 ≤ 0 ∧ 0 < (s_274.length : Int))) <|
    bif ((((decide (s_274 = [])) || (decide (10 < (s_274.length : Int)))) || (!r_275)) || ((r_276 && (decide (1 < (s_274.length : Int)))) && (decide (((s_274.getD 0 0).toNat : Int) = 48)))) then
     some 2
    else
    nx_271 ()) () (fun _ =>
    k_253 ())) fun k_263 =>
  forL [v_219.Major, v_219.Minor, v_219.Patch] 0 (fun i_283 n_285 s nx_282 k_281 =>
   call (R_In n_285 0 999999) fun r_286 =>
   bif !r_286 then
    some 3
   else
   nx_282 ()) () (fun _ =>
   k_263 ())) () (fun _ =>
  k_144 ())
noncomputable def cmp_isNaN_int (x_1 : Int) : Option Bool :=
 some (!decide (x_1 = x_1))
noncomputable def cmp_Compare_int (x_1 : Int) (y_2 : Int) : Option Int :=
 call (cmp_isNaN_int x_1) fun r_3 =>
 call (cmp_isNaN_int y_2) fun r_4 =>
 bif r_3 then
  bif r_4 then
   some 0
  else
  some (-1)
 else
 bif r_4 then
  some 1
 else
 bif decide (x_1 < y_2) then
  some (-1)
 else
 bif decide (y_2 < x_1) then
  some 1
 else
 some 0
noncomputable def cmp_Or_int (vals_1 : List Int) : Option Int :=
 jp (S := Unit) (fun _ =>
  some 0) fun k_9 =>
 forL vals_1 0 (fun i_14 n_16 s nx_13 k_12 =>
  bif !decide (n_16 = 0) then
   some n_16
  else
  nx_13 ()) () (fun _ =>
  k_9 ())
noncomputable def strconv_Atoi (s : Str) : Option Int := chk (s.length ≤ 18) <| some (atoiN s)
noncomputable def internal_bytealg_CompareString (a_1 : Str) (b_2 : Str) : Option Int :=
 some (cmpB a_1 b_2)
noncomputable def strings_Compare (a_1 : Str) (b_2 : Str) : Option Int :=
 call (internal_bytealg_CompareString a_1 b_2) fun r_3 =>
 some r_3
noncomputable def R_CompareOf (a_1 : api_Version) (b_2 : api_Version) : Option Int :=
 call (cmp_Compare_int a_1.Major b_2.Major) fun r_3 =>
 call (cmp_Compare_int a_1.Minor b_2.Minor) fun r_4 =>
 call (cmp_Compare_int a_1.Patch b_2.Patch) fun r_5 =>
 call (cmp_Or_int [r_3, r_4, r_5]) fun r_6 =>
 bif !decide (r_6 = 0) then
  some r_6
 else
 bif ((decide (a_1.Early = [])) || (decide (b_2.Early = []))) then
  call (cmp_Compare_int (min 1 (b_2.Early.length : Int)) (min 1 (a_1.Early.length : Int))) fun r_7 =>
  some r_7
 else
 call (strings_Split a_1.Early ([46] : Str)) fun r_11 =>
 call (strings_Split b_2.Early ([46] : Str)) fun r_12 =>
 jp (S := Unit) (fun _ =>
  call (cmp_Compare_int (r_11.length : Int) (r_12.length : Int)) fun r_51 =>
  some r_51) fun k_50 =>
 loopN Fuel (fun t64_64 nx_77 k_76 =>
  bif decide (t64_64 < (min (r_11.length : Int) (r_12.length : Int))) then
   idx r_11 t64_64 fun s_78 =>
   call (R_Of s_78 ([48, 49, 50, 51, 52, 53, 54, 55, 56, 57] : Str)) fun r_79 =>
   idx r_12 t64_64 fun s_80 =>
   call (R_Of s_80 ([48, 49, 50, 51, 52, 53, 54, 55, 56, 57] : Str)) fun r_81 =>
   call (strconv_Atoi s_78) fun r_82 =>
   call (strconv_Atoi s_80) fun r_83 =>
   call (strings_Compare s_78 s_80) fun r_84 =>
   jp (S := Int) (fun c_86 =>
    bif !decide (c_86 = 0) then
     some c_86
    else
    nx_77 (IntKind.i64.wrap (t64_64 + 1))) fun k_87 =>
   bif (r_79 && r_81) then
    call (cmp_Compare_int r_82 r_83) fun r_88 =>
    k_87 r_88
   else
   bif r_79 then
    k_87 (-1)
   else
   bif r_81 then
    k_87 1
   else
   k_87 r_84
  else
  k_76 t64_64) 0 (fun t64_64 =>
  k_50 ())
noncomputable def R_IsValue (s_1 : Str) : Option Bool :=
 jp (S := Unit) (fun _ =>
  some (decide ((s_1.length : Int) ≤ 1000))) fun k_9 =>
 forL s_1 0 (fun i_14 c_16 s nx_13 k_12 =>
  bif ((decide ((c_16.toNat : Int) < 32)) || (decide (126 < (c_16.toNat : Int)))) then
   some false
  else
  nx_13 ()) () (fun _ =>
  k_9 ())
noncomputable def R_RecordError (r_1 : api_Record) : Option Int :=
 call (R_when ((decide (r_1.Time < 0)) || (decide (1099511627776 < r_1.Time))) 3) fun r_2 =>
 call (R_when ((decide (r_1.Kind < 1)) || (decide (6 < r_1.Kind))) 1) fun r_3 =>
 call (R_IsName r_1.Pack) fun r_4 =>
 call (R_when (!r_4) 5) fun r_5 =>
 call (R_first [r_2, r_3, r_5]) fun r_6 =>
 jp (S := Int) (fun e_10 =>
  bif !decide (e_10 = 0) then
   some e_10
  else
  bif ((!decide ((!((decide (r_1.From.Major = 0)) && ((decide (r_1.From.Minor = 0)) && ((decide (r_1.From.Patch = 0)) && (decide (r_1.From.Early = [])))))) = (((decide (r_1.Kind = 2)) || (decide (r_1.Kind = 3))) || (decide (r_1.Kind = 4))))) || ((!decide ((!((decide (r_1.To.Major = 0)) && ((decide (r_1.To.Minor = 0)) && ((decide (r_1.To.Patch = 0)) && (decide (r_1.To.Early = [])))))) = (!decide (r_1.Kind = 4)))) && (!decide (r_1.Kind = 6)))) then
   some 2
  else
  call (R_CompareOf r_1.From r_1.To) fun r_12 =>
  call (R_when (((decide (r_1.Kind = 2)) && (decide (0 ≤ r_12))) || ((decide (r_1.Kind = 3)) && (decide (r_12 ≤ 0)))) 11) fun r_13 =>
  call (R_when ((decide (r_1.Result < 0)) || (decide (18 < r_1.Result))) 3) fun r_14 =>
  call (R_IsValue r_1.Note) fun r_15 =>
  call (R_when (!r_15) 2) fun r_16 =>
  call (R_first [r_13, r_14, r_16]) fun r_17 =>
  some r_17) fun k_11 =>
 bif decide (r_6 = 0) then
  call (R_VersionError [r_1.From]) fun r_18 =>
  call (R_VersionError [r_1.To]) fun r_19 =>
  call (R_first [r_18, r_19]) fun r_20 =>
  k_11 r_20
 else
 k_11 r_6
noncomputable def R_could_i1 (r_1 : api_Record) (m0_2 : List (Str × api_Had)) : Option (Bool × (List (Str × api_Had))) :=
 letv (alook m0_2 r_1.Pack) fun q_15 =>
 jp (S := Unit) (fun _ =>
  bif !decide (r_1.Result = 0) then
   some (true, m0_2)
  else
  jp (S := Bool) (fun t48_20 =>
   bif t48_20 then
    chk ((aset m0_2 r_1.Pack (api_Had.mk r_1.Pack r_1.To r_1.Time)).length ≤ 274877906944) <|
    some (true, aset m0_2 r_1.Pack (api_Had.mk r_1.Pack r_1.To r_1.Time))
   else
   bif decide (r_1.Kind = 4) then
    some (true, adel m0_2 r_1.Pack)
   else
   some (true, m0_2)) fun k_21 =>
  bif decide (r_1.Kind = 1) then
   k_21 (decide (r_1.Kind = 1))
  else
  bif decide (r_1.Kind = 2) then
   k_21 (decide (r_1.Kind = 2))
  else
  k_21 (decide (r_1.Kind = 3))) fun k_19 =>
 bif decide (r_1.Kind = 1) then
  bif q_15.isSome then
   some (false, m0_2)
  else
  k_19 ()
 else
 bif decide (r_1.Kind = 5) then
  bif ((!q_15.isSome) || (!((decide ((((q_15.getD (api_Had.mk [] (api_Version.mk 0 0 0 []) 0)).Version).Major) = r_1.To.Major)) && ((decide ((((q_15.getD (api_Had.mk [] (api_Version.mk 0 0 0 []) 0)).Version).Minor) = r_1.To.Minor)) && ((decide ((((q_15.getD (api_Had.mk [] (api_Version.mk 0 0 0 []) 0)).Version).Patch) = r_1.To.Patch)) && (decide ((((q_15.getD (api_Had.mk [] (api_Version.mk 0 0 0 []) 0)).Version).Early) = r_1.To.Early))))))) then
   some (false, m0_2)
  else
  k_19 ()
 else
 jp (S := Bool) (fun t30_25 =>
  bif t30_25 then
   bif ((!q_15.isSome) || (!((decide ((((q_15.getD (api_Had.mk [] (api_Version.mk 0 0 0 []) 0)).Version).Major) = r_1.From.Major)) && ((decide ((((q_15.getD (api_Had.mk [] (api_Version.mk 0 0 0 []) 0)).Version).Minor) = r_1.From.Minor)) && ((decide ((((q_15.getD (api_Had.mk [] (api_Version.mk 0 0 0 []) 0)).Version).Patch) = r_1.From.Patch)) && (decide ((((q_15.getD (api_Had.mk [] (api_Version.mk 0 0 0 []) 0)).Version).Early) = r_1.From.Early))))))) then
    some (false, m0_2)
   else
   k_19 ()
  else
  k_19 ()) fun k_26 =>
 bif decide (r_1.Kind = 2) then
  k_26 (decide (r_1.Kind = 2))
 else
 bif decide (r_1.Kind = 3) then
  k_26 (decide (r_1.Kind = 3))
 else
 k_26 (decide (r_1.Kind = 4))
noncomputable def R_RecordsError (l_1 : List api_Record) : Option Int :=
 bif decide (5000 < (l_1.length : Int)) then
  some 4
 else
 jp (S := Unit) (fun _ =>
  some 0) fun k_48 =>
 forL l_1 0 (fun i_80 r_82 m0_64 nx_79 k_78 =>
  call (R_RecordError r_82) fun r_83 =>
  jp (S := Int) (fun e_86 =>
   jp (S := Int × (List (Str × api_Had))) (fun s => match s with
    | (e_89, m0_90) =>
     bif !decide (e_89 = 0) then
      some e_89
     else
     nx_79 m0_90) fun k_91 =>
   callG (decide (e_86 = 0)) (R_could_i1 r_82 m0_64) (false, m0_64) fun r_92 =>
   bif ((decide (e_86 = 0)) && (!r_92.1)) then
    k_91 (12, r_92.2)
   else
   k_91 (e_86, r_92.2)) fun k_87 =>
  chk (((decide (r_83 = 0)) && (decide (0 < (i_80 : Int)))) = true → (0 ≤ IntKind.i64.wrap ((i_80 : Int) - 1) ∧ IntKind.i64.wrap ((i_80 : Int) - 1) < (l_1.length : Int))) <|
  bif (((decide (r_83 = 0)) && (decide (0 < (i_80 : Int)))) && (decide (r_82.Time < ((l_1.getD ((IntKind.i64.wrap ((i_80 : Int) - 1)).toNat) (api_Record.mk 0 0 [] (api_Version.mk 0 0 0 []) (api_Version.mk 0 0 0 []) 0 [])).Time)))) then
   k_87 7
  else
  k_87 r_83) [] (fun m0_64 =>
  k_48 ())
noncomputable def Law_could (l_1 : List api_Record) (raw_2 : Bool) : Option (List api_Record) :=
 bif raw_2 then
  some l_1
 else
 chk (0 ≤ min (l_1.length : Int) 60 ∧ min (l_1.length : Int) 60 ≤ (l_1.length : Int)) <|
 call (slices_Clone_api_Record_api_Record_new (List.take ((min (l_1.length : Int) 60).toNat) l_1)) fun r_4 =>
 call (slices_SortStableFunc_api_Record_api_Record_i1 r_4) fun r_5 =>
 jp (S := List api_Record) (fun o1_42 =>
  some o1_42) fun k_43 =>
 forC r_5.length 0 (fun i_67 o1_55 nx_66 k_65 =>
  call (R_RecordError (r_5.getD i_67 (api_Record.mk 0 0 [] (api_Version.mk 0 0 0 []) (api_Version.mk 0 0 0 []) 0 []))) fun r_71 =>
  callG (decide (r_71 = 0)) (slices_Clone_api_Record_api_Record_new o1_55) [] fun r_72 =>
  chk ((decide (r_71 = 0)) = true → (r_72 ++ [(r_5.getD i_67 (api_Record.mk 0 0 [] (api_Version.mk 0 0 0 []) (api_Version.mk 0 0 0 []) 0 []))]).length ≤ 274877906944) <|
  callG (decide (r_71 = 0)) (R_RecordsError (r_72 ++ [(r_5.getD i_67 (api_Record.mk 0 0 [] (api_Version.mk 0 0 0 []) (api_Version.mk 0 0 0 []) 0 []))])) 0 fun r_74 =>
  bif ((decide (r_71 = 0)) && (decide (r_74 = 0))) then
   chk ((o1_55 ++ [(r_5.getD i_67 (api_Record.mk 0 0 [] (api_Version.mk 0 0 0 []) (api_Version.mk 0 0 0 []) 0 []))]).length ≤ 274877906944) <|
   nx_66 (o1_55 ++ [(r_5.getD i_67 (api_Record.mk 0 0 [] (api_Version.mk 0 0 0 []) (api_Version.mk 0 0 0 []) 0 []))])
  else
  nx_66 o1_55) [] (fun o1_55 =>
  k_43 o1_55)
noncomputable def log_newTable  : Option ((List (Str × log_had)) × Int) :=
 some ([], 0)
noncomputable def log_outside (n_1 : Int) (low_2 : Int) (high_3 : Int) : Option Bool :=
 some ((decide (n_1 < low_2)) || (decide (high_3 < n_1)))
noncomputable def ver_outside (n_1 : Int) (low_2 : Int) (high_3 : Int) : Option Bool :=
 some ((decide (n_1 < low_2)) || (decide (high_3 < n_1)))
noncomputable def ver_isEarly_1 (c_1 : Int) : Option Bool :=
 call (ver_isSmall c_1) fun r_2 =>
 callG (!r_2) (ver_isDigit c_1) false fun r_3 =>
 some (r_2 || r_3)
noncomputable def ver_each_i2 (s_1 : Str) (most_2 : Int) : Option Bool :=
 jp (S := Unit) (fun _ =>
  some ((!decide (s_1 = [])) && (decide ((s_1.length : Int) ≤ most_2)))) fun k_12 =>
 forL s_1 0 (fun i_18 c_20 s nx_17 k_16 =>
  call (ver_isEarly_1 (c_20.toNat : Int)) fun r_21 =>
  bif !r_21 then
   some false
  else
  nx_17 ()) () (fun _ =>
  k_12 ())
noncomputable def ver_each_i3 (s_1 : Str) (most_2 : Int) : Option Bool :=
 jp (S := Unit) (fun _ =>
  some ((!decide (s_1 = [])) && (decide ((s_1.length : Int) ≤ most_2)))) fun k_12 =>
 forL s_1 0 (fun i_18 c_20 s nx_17 k_16 =>
  call (ver_isDigit (c_20.toNat : Int)) fun r_21 =>
  bif !r_21 then
   some false
  else
  nx_17 ()) () (fun _ =>
  k_12 ())
noncomputable def ver_isNumeral (s_1 : Str) : Option Bool :=
 call (ver_each_i3 s_1 10) fun r_2 =>
 some r_2
noncomputable def ver_isEarly (s_1 : Str) : Option Bool :=
 jp (S := Unit) (fun _ =>
  some (decide ((s_1.length : Int) ≤ 40))) fun k_16 =>
 call (strings_Split s_1 ([46] : Str)) fun r_17 =>
 forL r_17 0 (fun i_25 s_27 s nx_24 k_23 =>
  call (ver_each_i2 s_27 10) fun r_28 =>
  callG (!(!r_28)) (ver_isNumeral s_27) false fun r_29 =>
  chk (((!(!r_28)) && r_29) = true → (0 ≤ 0 ∧ 0 < (s_27.length : Int))) <|
  bif ((!r_28) || ((r_29 && (decide (((s_27.getD 0 0).toNat : Int) = 48))) && (!decide (s_27 = ([48] : Str))))) then
   some false
  else
  nx_24 ()) () (fun _ =>
  k_16 ())
noncomputable def ver_Check (v_1 : api_Version) : Option Int :=
 jp (S := Unit) (fun _ =>
  callG (!decide (v_1.Early = [])) (ver_isEarly v_1.Early) false fun r_18 =>
  bif ((!decide (v_1.Early = [])) && (!r_18)) then
   some 2
  else
  some 0) fun k_17 =>
 call (ver_outside v_1.Major 0 999999) fun r_31 =>
 bif r_31 then
  some 3
 else
 call (ver_outside v_1.Minor 0 999999) fun r_32 =>
 bif r_32 then
  some 3
 else
 call (ver_outside v_1.Patch 0 999999) fun r_33 =>
 bif r_33 then
  some 3
 else
 k_17 ()
noncomputable def log_uses (kind_1 : Int) : Option (Bool × Bool) :=
 jp (S := Bool) (fun t5_2 =>
  bif t5_2 then
   some (true, true)
  else
  bif decide (kind_1 = 4) then
   some (true, false)
  else
  some (false, true)) fun k_3 =>
 bif decide (kind_1 = 2) then
  k_3 (decide (kind_1 = 2))
 else
 k_3 (decide (kind_1 = 3))
noncomputable def ver_compareWords (a_1 : Str) (b_2 : Str) : Option Int :=
 call (ver_isNumeral a_1) fun r_3 =>
 call (ver_isNumeral b_2) fun r_4 =>
 jp (S := Unit) (fun _ =>
  call (strings_Compare a_1 b_2) fun r_7 =>
  some r_7) fun k_6 =>
 bif (r_3 && r_4) then
  bif !decide ((a_1.length : Int) = (b_2.length : Int)) then
   call (cmp_Compare_int (a_1.length : Int) (b_2.length : Int)) fun r_8 =>
   some r_8
  else
  k_6 ()
 else
 bif r_3 then
  some (-1)
 else
 bif r_4 then
  some 1
 else
 k_6 ()
noncomputable def ver_compareEarly (a_1 : Str) (b_2 : Str) : Option Int :=
 bif decide (a_1 = b_2) then
  some 0
 else
 bif decide (a_1 = []) then
  some 1
 else
 bif decide (b_2 = []) then
  some (-1)
 else
 call (strings_Split a_1 ([46] : Str)) fun r_3 =>
 call (strings_Split b_2 ([46] : Str)) fun r_4 =>
 jp (S := Unit) (fun _ =>
  call (cmp_Compare_int (r_3.length : Int) (r_4.length : Int)) fun r_15 =>
  some r_15) fun k_14 =>
 loopN Fuel (fun t28_16 nx_21 k_20 =>
  bif decide (t28_16 < (min (r_3.length : Int) (r_4.length : Int))) then
   idx r_3 t28_16 fun s_22 =>
   idx r_4 t28_16 fun s_23 =>
   call (ver_compareWords s_22 s_23) fun r_24 =>
   bif !decide (r_24 = 0) then
    some r_24
   else
   nx_21 (IntKind.i64.wrap (t28_16 + 1))
  else
  k_20 t28_16) 0 (fun t28_16 =>
  k_14 ())
noncomputable def ver_Order (a_1 : api_Version) (b_2 : api_Version) : Option Int :=
 call (cmp_Compare_int a_1.Major b_2.Major) fun r_3 =>
 call (cmp_Compare_int a_1.Minor b_2.Minor) fun r_4 =>
 call (cmp_Compare_int a_1.Patch b_2.Patch) fun r_5 =>
 call (ver_compareEarly a_1.Early b_2.Early) fun r_6 =>
 call (cmp_Or_int [r_3, r_4, r_5, r_6]) fun r_7 =>
 some r_7
noncomputable def ver_IsValue_1 (c_1 : Int) : Option Bool :=
 some ((decide (32 ≤ c_1)) && (decide (c_1 ≤ 126)))
noncomputable def ver_each_i4 (s_1 : Str) (most_2 : Int) : Option Bool :=
 jp (S := Unit) (fun _ =>
  some ((!decide (s_1 = [])) && (decide ((s_1.length : Int) ≤ most_2)))) fun k_12 =>
 forL s_1 0 (fun i_18 c_20 s nx_17 k_16 =>
  call (ver_IsValue_1 (c_20.toNat : Int)) fun r_21 =>
  bif !r_21 then
   some false
  else
  nx_17 ()) () (fun _ =>
  k_12 ())
noncomputable def ver_IsValue (s_1 : Str) : Option Bool :=
 callG (!(decide (s_1 = []))) (ver_each_i4 s_1 1000) false fun r_2 =>
 some ((decide (s_1 = [])) || r_2)
noncomputable def log_CheckRecord (r_1 : api_Record) : Option Int :=
 call (log_outside r_1.Time 0 1099511627776) fun r_2 =>
 bif r_2 then
  some 3
 else
 call (log_outside r_1.Kind 1 6) fun r_3 =>
 bif r_3 then
  some 1
 else
 call (ver_IsName r_1.Pack) fun r_4 =>
 bif !r_4 then
  some 5
 else
 jp (S := Unit) (fun _ =>
  call (log_uses r_1.Kind) fun r_20 =>
  bif ((!decide (r_20.1 = (!((decide (r_1.From.Major = 0)) && ((decide (r_1.From.Minor = 0)) && ((decide (r_1.From.Patch = 0)) && (decide (r_1.From.Early = [])))))))) || ((!decide (r_20.2 = (!((decide (r_1.To.Major = 0)) && ((decide (r_1.To.Minor = 0)) && ((decide (r_1.To.Patch = 0)) && (decide (r_1.To.Early = [])))))))) && (!decide (r_1.Kind = 6)))) then
   some 2
  else
  call (ver_Order r_1.From r_1.To) fun r_21 =>
  bif (((decide (r_1.Kind = 2)) && (decide (0 ≤ r_21))) || ((decide (r_1.Kind = 3)) && (decide (r_21 ≤ 0)))) then
   some 11
  else
  call (log_outside r_1.Result 0 18) fun r_22 =>
  bif r_22 then
   some 3
  else
  call (ver_IsValue r_1.Note) fun r_23 =>
  bif !r_23 then
   some 2
  else
  some 0) fun k_19 =>
 call (ver_Check r_1.From) fun r_36 =>
 bif !decide (r_36 = 0) then
  some r_36
 else
 call (ver_Check r_1.To) fun r_37 =>
 bif !decide (r_37 = 0) then
  some r_37
 else
 k_19 ()
noncomputable def log_table_fault_i1 (r_1 : api_Record) (o0_1_2 : Int) (m1_3 : List (Str × log_had)) : Option Int :=
 bif decide (r_1.Time < o0_1_2) then
  some 7
 else
 letv (alook m1_3 r_1.Pack) fun q_12 =>
 jp (S := Bool) (fun bad_16 =>
  bif bad_16 then
   some 12
  else
  some 0) fun k_17 =>
 bif decide (r_1.Kind = 1) then
  k_17 q_12.isSome
 else
 jp (S := Bool) (fun t30_18 =>
  bif t30_18 then
   k_17 ((!q_12.isSome) || (!((decide ((((q_12.getD (log_had.mk (api_Version.mk 0 0 0 []) 0)).v).Major) = r_1.From.Major)) && ((decide ((((q_12.getD (log_had.mk (api_Version.mk 0 0 0 []) 0)).v).Minor) = r_1.From.Minor)) && ((decide ((((q_12.getD (log_had.mk (api_Version.mk 0 0 0 []) 0)).v).Patch) = r_1.From.Patch)) && (decide ((((q_12.getD (log_had.mk (api_Version.mk 0 0 0 []) 0)).v).Early) = r_1.From.Early)))))))
  else
  bif decide (r_1.Kind = 5) then
   k_17 ((!q_12.isSome) || (!((decide ((((q_12.getD (log_had.mk (api_Version.mk 0 0 0 []) 0)).v).Major) = r_1.To.Major)) && ((decide ((((q_12.getD (log_had.mk (api_Version.mk 0 0 0 []) 0)).v).Minor) = r_1.To.Minor)) && ((decide ((((q_12.getD (log_had.mk (api_Version.mk 0 0 0 []) 0)).v).Patch) = r_1.To.Patch)) && (decide ((((q_12.getD (log_had.mk (api_Version.mk 0 0 0 []) 0)).v).Early) = r_1.To.Early)))))))
  else
  k_17 false) fun k_19 =>
 bif decide (r_1.Kind = 2) then
  k_19 (decide (r_1.Kind = 2))
 else
 bif decide (r_1.Kind = 3) then
  k_19 (decide (r_1.Kind = 3))
 else
 k_19 (decide (r_1.Kind = 4))
noncomputable def log_table_add_i1 (r_1 : api_Record) (o0_1_2 : Int) (m1_3 : List (Str × log_had)) : Option (Int × (List (Str × log_had))) :=
 bif !decide (r_1.Result = 0) then
  some (r_1.Time, m1_3)
 else
 jp (S := Bool) (fun t14_9 =>
  bif t14_9 then
   chk ((aset m1_3 r_1.Pack (log_had.mk r_1.To r_1.Time)).length ≤ 274877906944) <|
   some (r_1.Time, aset m1_3 r_1.Pack (log_had.mk r_1.To r_1.Time))
  else
  bif decide (r_1.Kind = 4) then
   some (r_1.Time, adel m1_3 r_1.Pack)
  else
  some (r_1.Time, m1_3)) fun k_10 =>
 bif decide (r_1.Kind = 1) then
  k_10 (decide (r_1.Kind = 1))
 else
 bif decide (r_1.Kind = 2) then
  k_10 (decide (r_1.Kind = 2))
 else
 k_10 (decide (r_1.Kind = 3))
noncomputable def log_check (l_1 : List api_Record) : Option Int :=
 bif decide (5000 < (l_1.length : Int)) then
  some 4
 else
 call (log_newTable) fun r_2 =>
 jp (S := Unit) (fun _ =>
  some 0) fun k_23 =>
 forL l_1 0 (fun i_38 r_40 s nx_37 k_36 =>
  match s with
  | (m0_30, o1_1_31) =>
   call (log_CheckRecord r_40) fun r_41 =>
   bif !decide (r_41 = 0) then
    some r_41
   else
   call (log_table_fault_i1 r_40 o1_1_31 m0_30) fun r_42 =>
   bif !decide (r_42 = 0) then
    some r_42
   else
   call (log_table_add_i1 r_40 o1_1_31 m0_30) fun r_43 =>
   nx_37 (r_43.2, r_43.1)) (r_2.1, r_2.2) (fun s => match s with
  | (m0_30, o1_1_31) =>
   k_23 ())
noncomputable def log_behind (l_1 : List api_Record) : Option ((List (Str × log_had)) × Int) :=
 call (log_newTable) fun r_34 =>
 jp (S := (List (Str × log_had)) × Int) (fun s => match s with
  | (m0_49, o1_1_50) =>
   some (m0_49, o1_1_50)) fun k_51 =>
 forL l_1 0 (fun i_62 r_64 s nx_61 k_60 =>
  match s with
  | (m0_56, o1_1_57) =>
   call (log_table_add_i1 r_64 o1_1_57 m0_56) fun r_65 =>
   nx_61 (r_65.2, r_65.1)) (r_34.1, r_34.2) (fun s => match s with
  | (m0_56, o1_1_57) =>
   k_51 (m0_56, o1_1_57))
noncomputable def slices_Sort_str (o0 : List Str) : Option (List Str) := some (sortS o0)
noncomputable def R_keys_api_Had_i1 (m0_1 : List (Str × api_Had)) : Option (List Str) :=
 jp (S := List Str) (fun o2_74 =>
  call (slices_Sort_str o2_74) fun r_76 =>
  some r_76) fun k_75 =>
 forM (fun e_97 o2_85 nx_91 k_90 =>
  chk ((o2_85 ++ [e_97.1]).length ≤ 274877906944) <|
  nx_91 (o2_85 ++ [e_97.1])) m0_1.length m0_1 [] (fun o2_85 =>
  k_75 o2_85)
noncomputable def R_Installed (l_1 : List api_Record) : Option (List api_Had) :=
 jp (S := (List (Str × api_Had))) (fun m0_15 =>
  jp (S := List api_Had) (fun o1_37 =>
   some o1_37) fun k_38 =>
  call (R_keys_api_Had_i1 m0_15) fun r_39 =>
  forL r_39 0 (fun i_53 s_55 o1_46 nx_52 k_51 =>
   letv (alook m0_15 s_55) fun q_56 =>
   chk ((o1_46 ++ [(q_56.getD (api_Had.mk [] (api_Version.mk 0 0 0 []) 0))]).length ≤ 274877906944) <|
   nx_52 (o1_46 ++ [(q_56.getD (api_Had.mk [] (api_Version.mk 0 0 0 []) 0))])) [] (fun o1_46 =>
   k_38 o1_46)) fun k_16 =>
 forL l_1 0 (fun i_68 r_70 m0_63 nx_67 k_66 =>
  call (R_could_i1 r_70 m0_63) fun r_71 =>
  nx_67 r_71.2) [] (fun m0_63 =>
  k_16 m0_63)
noncomputable def log_timed (l_1 : List api_Record) (times_2 : List Int) : Option Int :=
 call (log_check l_1) fun r_3 =>
 bif !decide (r_3 = 0) then
  some r_3
 else
 jp (S := Unit) (fun _ =>
  some 0) fun k_13 =>
 forL times_2 0 (fun i_19 n_21 s nx_18 k_17 =>
  call (log_outside n_21 0 1099511627776) fun r_22 =>
  bif r_22 then
   some 3
  else
  nx_18 ()) () (fun _ =>
  k_13 ())
noncomputable def log_until_1 (r_1 : api_Record) (t_2 : Int) : Option Int :=
 bif decide (r_1.Time ≤ t_2) then
  some (-1)
 else
 some 1
noncomputable def slices_BinarySearchFunc_api_Record_api_Record_int_i1 (x_1 : List api_Record) (target_2 : Int) : Option (Int × Bool) :=
 jp (S := Int) (fun i_11 =>
  chk ((decide (i_11 < (x_1.length : Int))) = true → (0 ≤ i_11 ∧ i_11 < (x_1.length : Int))) <|
  callG (decide (i_11 < (x_1.length : Int))) (log_until_1 (api_Record.mk ((x_1.getD i_11.toNat (api_Record.mk 0 0 [] (api_Version.mk 0 0 0 []) (api_Version.mk 0 0 0 []) 0 [])).Time) ((x_1.getD i_11.toNat (api_Record.mk 0 0 [] (api_Version.mk 0 0 0 []) (api_Version.mk 0 0 0 []) 0 [])).Kind) ((x_1.getD i_11.toNat (api_Record.mk 0 0 [] (api_Version.mk 0 0 0 []) (api_Version.mk 0 0 0 []) 0 [])).Pack) (api_Version.mk (((x_1.getD i_11.toNat (api_Record.mk 0 0 [] (api_Version.mk 0 0 0 []) (api_Version.mk 0 0 0 []) 0 [])).From).Major) (((x_1.getD i_11.toNat (api_Record.mk 0 0 [] (api_Version.mk 0 0 0 []) (api_Version.mk 0 0 0 []) 0 [])).From).Minor) (((x_1.getD i_11.toNat (api_Record.mk 0 0 [] (api_Version.mk 0 0 0 []) (api_Version.mk 0 0 0 []) 0 [])).From).Patch) (((x_1.getD i_11.toNat (api_Record.mk 0 0 [] (api_Version.mk 0 0 0 []) (api_Version.mk 0 0 0 []) 0 [])).From).Early)) (api_Version.mk (((x_1.getD i_11.toNat (api_Record.mk 0 0 [] (api_Version.mk 0 0 0 []) (api_Version.mk 0 0 0 []) 0 [])).To).Major) (((x_1.getD i_11.toNat (api_Record.mk 0 0 [] (api_Version.mk 0 0 0 []) (api_Version.mk 0 0 0 []) 0 [])).To).Minor) (((x_1.getD i_11.toNat (api_Record.mk 0 0 [] (api_Version.mk 0 0 0 []) (api_Version.mk 0 0 0 []) 0 [])).To).Patch) (((x_1.getD i_11.toNat (api_Record.mk 0 0 [] (api_Version.mk 0 0 0 []) (api_Version.mk 0 0 0 []) 0 [])).To).Early)) ((x_1.getD i_11.toNat (api_Record.mk 0 0 [] (api_Version.mk 0 0 0 []) (api_Version.mk 0 0 0 []) 0 [])).Result) ((x_1.getD i_11.toNat (api_Record.mk 0 0 [] (api_Version.mk 0 0 0 []) (api_Version.mk 0 0 0 []) 0 [])).Note)) target_2) 0 fun r_14 =>
  some (i_11, ((decide (i_11 < (x_1.length : Int))) && (decide (r_14 = 0))))) fun k_12 =>
 loopN Fuel (fun s nx_21 k_20 =>
  match s with
  | (i_16, j_17) =>
   bif decide (i_16 < j_17) then
    idx x_1 (IntKind.i64.wrap (Int.fdiv (IntKind.u64.wrap (IntKind.i64.wrap (i_16 + j_17))) (2 ^ (shI .u64 1)))) fun r_22 =>
    call (log_until_1 r_22 target_2) fun r_23 =>
    bif decide (r_23 < 0) then
     nx_21 (IntKind.i64.wrap ((IntKind.i64.wrap (Int.fdiv (IntKind.u64.wrap (IntKind.i64.wrap (i_16 + j_17))) (2 ^ (shI .u64 1)))) + 1), j_17)
    else
    nx_21 (i_16, IntKind.i64.wrap (Int.fdiv (IntKind.u64.wrap (IntKind.i64.wrap (i_16 + j_17))) (2 ^ (shI .u64 1))))
   else
   k_20 (i_16, j_17)) (0, (x_1.length : Int)) (fun s => match s with
  | (i_16, j_17) =>
   k_12 i_16)
noncomputable def log_until (l_1 : List api_Record) (time_2 : Int) : Option Int :=
 call (slices_BinarySearchFunc_api_Record_api_Record_int_i1 l_1 time_2) fun r_3 =>
 some r_3.1
noncomputable def log_span (l_1 : List api_Record) (from_2 : Int) (to_3 : Int) : Option (List api_Record × Int) :=
 call (log_timed l_1 [from_2, to_3]) fun r_4 =>
 bif !decide (r_4 = 0) then
  some ([], r_4)
 else
 bif decide (to_3 < from_2) then
  some ([], 7)
 else
 call (log_until l_1 (IntKind.i64.wrap (from_2 - 1))) fun r_5 =>
 call (log_until l_1 (IntKind.i64.wrap (to_3 - 1))) fun r_6 =>
 chk (0 ≤ r_5 ∧ r_5 ≤ (l_1.length : Int) ∧ 0 ≤ r_6 ∧ r_6 ≤ (l_1.length : Int) ∧ r_5 ≤ r_6) <|
 some (List.take (r_6.toNat - r_5.toNat) (List.drop r_5.toNat l_1), 0)
noncomputable def maps_Keys_map_string_log_done_string_log_done_i1 (m0_1 : List (Str × log_done)) : Option Unit :=
 some ()
noncomputable def slices_Sorted_keys_65 (m1 : List (Str × log_done)) : Option (List Str) := some (sortS (m1.map (·.1)))
noncomputable def strconv_Itoa (n : Int) : Option Str := chk (-9223372036854775808 ≤ n ∧ n ≤ 9223372036854775807) <| some (Go.Lib.itoa n)
noncomputable def ver_text (v_1 : api_Version) : Option Str :=
 call (strconv_Itoa v_1.Major) fun r_2 =>
 chk ((r_2 ++ ([46] : Str)).length ≤ 274877906944) <|
 call (strconv_Itoa v_1.Minor) fun r_4 =>
 chk (((r_2 ++ ([46] : Str)) ++ r_4).length ≤ 274877906944) <|
 chk ((((r_2 ++ ([46] : Str)) ++ r_4) ++ ([46] : Str)).length ≤ 274877906944) <|
 call (strconv_Itoa v_1.Patch) fun r_7 =>
 chk (((((r_2 ++ ([46] : Str)) ++ r_4) ++ ([46] : Str)) ++ r_7).length ≤ 274877906944) <|
 bif !decide (v_1.Early = []) then
  chk ((([45] : Str) ++ v_1.Early).length ≤ 274877906944) <|
  chk ((((((r_2 ++ ([46] : Str)) ++ r_4) ++ ([46] : Str)) ++ r_7) ++ (([45] : Str) ++ v_1.Early)).length ≤ 274877906944) <|
  some (((((r_2 ++ ([46] : Str)) ++ r_4) ++ ([46] : Str)) ++ r_7) ++ (([45] : Str) ++ v_1.Early))
 else
 some ((((r_2 ++ ([46] : Str)) ++ r_4) ++ ([46] : Str)) ++ r_7)
noncomputable def ver_Print (v_1 : api_Version) : Option (Str × Int) :=
 call (ver_Check v_1) fun r_2 =>
 bif !decide (r_2 = 0) then
  some ([], r_2)
 else
 call (ver_text v_1) fun r_3 =>
 some (r_3, 0)
noncomputable def strings_Builder_copyCheck_i1 (o1_1 : Str) : Option Unit :=
 some ()
noncomputable def strings_Builder_copyCheck_i2 (o1_1 : Str) : Option Unit :=
 some ()
noncomputable def strings_Builder_copyCheck_np (o0 : Str) : Option Unit := some ()
noncomputable def strings_Builder_WriteString_i1 (s_1 : Str) (o1_2 : Str) : Option (Int × Str) :=
 call (strings_Builder_copyCheck_np o1_2) fun r_5 =>
 chk ((o1_2 ++ s_1).length ≤ 274877906944) <|
 some ((s_1.length : Int), o1_2 ++ s_1)
noncomputable def strings_Builder_String_i1 (o1_1 : Str) : Option Str :=
 some o1_1
noncomputable def log_Report (l_1 : List api_Record) (from_2 : Int) (to_3 : Int) : Option (Str × Int) :=
 call (log_span l_1 from_2 to_3) fun r_4 =>
 bif !decide (r_4.2 = 0) then
  some ([], r_4.2)
 else
 jp (S := (List (Str × log_done))) (fun m0_39 =>
  call (log_until l_1 (IntKind.i64.wrap (to_3 - 1))) fun r_41 =>
  chk (0 ≤ r_41 ∧ r_41 ≤ (l_1.length : Int)) <|
  call (log_behind (List.take r_41.toNat l_1)) fun r_43 =>
  jp (S := Str) (fun o4_148 =>
   call (strings_Builder_String_i1 o4_148) fun r_150 =>
   some (r_150, 0)) fun k_149 =>
  call (maps_Keys_map_string_log_done_string_log_done_i1 m0_39) fun r_151 =>
  call (slices_Sorted_keys_65 m0_39) fun r_152 =>
  forL r_152 0 (fun i_222 s_224 o4_198 nx_221 k_220 =>
   letv (alook m0_39 s_224) fun q_225 =>
   jp (S := Str) (fun version_230 =>
    chk ((s_224 ++ ([58, 32] : Str)).length ≤ 274877906944) <|
    call (strconv_Itoa ((q_225.getD (log_done.mk 0 0)).well)) fun r_233 =>
    chk (((s_224 ++ ([58, 32] : Str)) ++ r_233).length ≤ 274877906944) <|
    chk ((((s_224 ++ ([58, 32] : Str)) ++ r_233) ++ ([32, 100, 111, 110, 101, 44, 32] : Str)).length ≤ 274877906944) <|
    call (strconv_Itoa ((q_225.getD (log_done.mk 0 0)).failed)) fun r_236 =>
    chk (((((s_224 ++ ([58, 32] : Str)) ++ r_233) ++ ([32, 100, 111, 110, 101, 44, 32] : Str)) ++ r_236).length ≤ 274877906944) <|
    chk ((((((s_224 ++ ([58, 32] : Str)) ++ r_233) ++ ([32, 100, 111, 110, 101, 44, 32] : Str)) ++ r_236) ++ ([32, 102, 97, 105, 108, 101, 100, 44, 32, 110, 111, 119, 32] : Str)).length ≤ 274877906944) <|
    chk (((((((s_224 ++ ([58, 32] : Str)) ++ r_233) ++ ([32, 100, 111, 110, 101, 44, 32] : Str)) ++ r_236) ++ ([32, 102, 97, 105, 108, 101, 100, 44, 32, 110, 111, 119, 32] : Str)) ++ version_230).length ≤ 274877906944) <|
    chk ((((((((s_224 ++ ([58, 32] : Str)) ++ r_233) ++ ([32, 100, 111, 110, 101, 44, 32] : Str)) ++ r_236) ++ ([32, 102, 97, 105, 108, 101, 100, 44, 32, 110, 111, 119, 32] : Str)) ++ version_230) ++ ([10] : Str)).length ≤ 274877906944) <|
    call (strings_Builder_WriteString_i1 (((((((s_224 ++ ([58, 32] : Str)) ++ r_233) ++ ([32, 100, 111, 110, 101, 44, 32] : Str)) ++ r_236) ++ ([32, 102, 97, 105, 108, 101, 100, 44, 32, 110, 111, 119, 32] : Str)) ++ version_230) ++ ([10] : Str)) o4_198) fun r_241 =>
    nx_221 r_241.2) fun k_231 =>
   letv (alook r_43.1 s_224) fun q_242 =>
   bif q_242.isSome then
    call (ver_Print ((q_242.getD (log_had.mk (api_Version.mk 0 0 0 []) 0)).v)) fun r_244 =>
    k_231 r_244.1
   else
   k_231 ([45] : Str)) [] (fun o4_198 =>
   k_149 o4_198)) fun k_40 =>
 forL r_4.1 0 (fun i_268 r_270 m0_256 nx_267 k_266 =>
  letv (alook m0_256 r_270.Pack) fun q_271 =>
  bif decide (r_270.Kind = 6) then
   chk ((aset m0_256 r_270.Pack (q_271.getD (log_done.mk 0 0))).length ≤ 274877906944) <|
   nx_267 (aset m0_256 r_270.Pack (q_271.getD (log_done.mk 0 0)))
  else
  bif decide (r_270.Result = 0) then
   chk ((aset m0_256 r_270.Pack (log_done.mk (IntKind.i64.wrap (((q_271.getD (log_done.mk 0 0)).well) + 1)) ((q_271.getD (log_done.mk 0 0)).failed))).length ≤ 274877906944) <|
   nx_267 (aset m0_256 r_270.Pack (log_done.mk (IntKind.i64.wrap (((q_271.getD (log_done.mk 0 0)).well) + 1)) ((q_271.getD (log_done.mk 0 0)).failed)))
  else
  chk ((aset m0_256 r_270.Pack (log_done.mk ((q_271.getD (log_done.mk 0 0)).well) (IntKind.i64.wrap (((q_271.getD (log_done.mk 0 0)).failed) + 1)))).length ≤ 274877906944) <|
  nx_267 (aset m0_256 r_270.Pack (log_done.mk ((q_271.getD (log_done.mk 0 0)).well) (IntKind.i64.wrap (((q_271.getD (log_done.mk 0 0)).failed) + 1))))) [] (fun m0_256 =>
  k_40 m0_256)
noncomputable def R_Until_1_i1 (r_1 : api_Record) (o0_0_2 : Int) : Option Bool :=
 some (decide (o0_0_2 < r_1.Time))
noncomputable def slices_IndexFunc_api_Record_api_Record_i1 (s_1 : List api_Record) (o0_0_2 : Int) : Option Int :=
 jp (S := Unit) (fun _ =>
  some (-1)) fun k_31 =>
 forL s_1 0 (fun i_37 r_39 s nx_36 k_35 =>
  call (R_Until_1_i1 r_39 o0_0_2) fun r_40 =>
  bif r_40 then
   some (i_37 : Int)
  else
  nx_36 ()) () (fun _ =>
  k_31 ())
noncomputable def R_Until (l_1 : List api_Record) (time_2 : Int) : Option (List api_Record) :=
 call (slices_IndexFunc_api_Record_api_Record_i1 l_1 time_2) fun r_3 =>
 bif decide (r_3 < 0) then
  some l_1
 else
 chk (0 ≤ r_3 ∧ r_3 ≤ (l_1.length : Int)) <|
 some (List.take r_3.toNat l_1)
noncomputable def R_keys_int_i1 (m0_1 : List (Str × Int)) : Option (List Str) :=
 jp (S := List Str) (fun o2_74 =>
  call (slices_Sort_str o2_74) fun r_76 =>
  some r_76) fun k_75 =>
 forM (fun e_97 o2_85 nx_91 k_90 =>
  chk ((o2_85 ++ [e_97.1]).length ≤ 274877906944) <|
  nx_91 (o2_85 ++ [e_97.1])) m0_1.length m0_1 [] (fun o2_85 =>
  k_75 o2_85)
noncomputable def R_VersionText (v_1 : api_Version) : Option Str :=
 call (strconv_Itoa v_1.Major) fun r_2 =>
 chk ((r_2 ++ ([46] : Str)).length ≤ 274877906944) <|
 call (strconv_Itoa v_1.Minor) fun r_4 =>
 chk (((r_2 ++ ([46] : Str)) ++ r_4).length ≤ 274877906944) <|
 chk ((((r_2 ++ ([46] : Str)) ++ r_4) ++ ([46] : Str)).length ≤ 274877906944) <|
 call (strconv_Itoa v_1.Patch) fun r_7 =>
 chk (((((r_2 ++ ([46] : Str)) ++ r_4) ++ ([46] : Str)) ++ r_7).length ≤ 274877906944) <|
 bif !decide (v_1.Early = []) then
  chk ((([45] : Str) ++ v_1.Early).length ≤ 274877906944) <|
  chk ((((((r_2 ++ ([46] : Str)) ++ r_4) ++ ([46] : Str)) ++ r_7) ++ (([45] : Str) ++ v_1.Early)).length ≤ 274877906944) <|
  some (((((r_2 ++ ([46] : Str)) ++ r_4) ++ ([46] : Str)) ++ r_7) ++ (([45] : Str) ++ v_1.Early))
 else
 some ((((r_2 ++ ([46] : Str)) ++ r_4) ++ ([46] : Str)) ++ r_7)
noncomputable def R_ReportOf (l_1 : List api_Record) (from_2 : Int) (to_3 : Int) : Option Str :=
 jp (S := (List (Str × Int)) × (List (Str × Int))) (fun s => match s with
  | (m0_51, m1_52) =>
   call (R_Until l_1 (IntKind.i64.wrap (to_3 - 1))) fun r_54 =>
   call (R_Installed r_54) fun r_55 =>
   jp (S := Str) (fun out_214 =>
    some out_214) fun k_215 =>
   call (R_keys_int_i1 m0_51) fun r_216 =>
   forL r_216 0 (fun i_297 s_299 out_217 nx_296 k_295 =>
    jp (S := Str) (fun out_336 =>
     nx_296 out_336) fun k_337 =>
    jp (S := Str) (fun v_348 =>
     chk ((s_299 ++ ([58, 32] : Str)).length ≤ 274877906944) <|
     letv (alook m0_51 s_299) fun q_351 =>
     call (strconv_Itoa (q_351.getD 0)) fun r_353 =>
     chk (((s_299 ++ ([58, 32] : Str)) ++ r_353).length ≤ 274877906944) <|
     chk ((((s_299 ++ ([58, 32] : Str)) ++ r_353) ++ ([32, 100, 111, 110, 101, 44, 32] : Str)).length ≤ 274877906944) <|
     letv (alook m1_52 s_299) fun q_356 =>
     call (strconv_Itoa (q_356.getD 0)) fun r_358 =>
     chk (((((s_299 ++ ([58, 32] : Str)) ++ r_353) ++ ([32, 100, 111, 110, 101, 44, 32] : Str)) ++ r_358).length ≤ 274877906944) <|
     chk ((((((s_299 ++ ([58, 32] : Str)) ++ r_353) ++ ([32, 100, 111, 110, 101, 44, 32] : Str)) ++ r_358) ++ ([32, 102, 97, 105, 108, 101, 100, 44, 32, 110, 111, 119, 32] : Str)).length ≤ 274877906944) <|
     chk (((((((s_299 ++ ([58, 32] : Str)) ++ r_353) ++ ([32, 100, 111, 110, 101, 44, 32] : Str)) ++ r_358) ++ ([32, 102, 97, 105, 108, 101, 100, 44, 32, 110, 111, 119, 32] : Str)) ++ v_348).length ≤ 274877906944) <|
     chk ((((((((s_299 ++ ([58, 32] : Str)) ++ r_353) ++ ([32, 100, 111, 110, 101, 44, 32] : Str)) ++ r_358) ++ ([32, 102, 97, 105, 108, 101, 100, 44, 32, 110, 111, 119, 32] : Str)) ++ v_348) ++ ([10] : Str)).length ≤ 274877906944) <|
     chk ((out_217 ++ (((((((s_299 ++ ([58, 32] : Str)) ++ r_353) ++ ([32, 100, 111, 110, 101, 44, 32] : Str)) ++ r_358) ++ ([32, 102, 97, 105, 108, 101, 100, 44, 32, 110, 111, 119, 32] : Str)) ++ v_348) ++ ([10] : Str))).length ≤ 274877906944) <|
     k_337 (out_217 ++ (((((((s_299 ++ ([58, 32] : Str)) ++ r_353) ++ ([32, 100, 111, 110, 101, 44, 32] : Str)) ++ r_358) ++ ([32, 102, 97, 105, 108, 101, 100, 44, 32, 110, 111, 119, 32] : Str)) ++ v_348) ++ ([10] : Str)))) fun k_349 =>
    forL r_55 0 (fun i_370 h_372 v_364 nx_369 k_368 =>
     bif decide (h_372.Pack = s_299) then
      call (R_VersionText h_372.Version) fun r_373 =>
      nx_369 r_373
     else
     nx_369 v_364) ([45] : Str) (fun v_364 =>
     k_349 v_364)) [] (fun out_217 =>
    k_215 out_217)) fun k_53 =>
 forL l_1 0 (fun i_406 r_408 s nx_405 k_404 =>
  match s with
  | (m0_389, m1_390) =>
   bif ((decide (r_408.Time < from_2)) || (decide (to_3 ≤ r_408.Time))) then
    nx_405 (m0_389, m1_390)
   else
   letv (alook m0_389 r_408.Pack) fun q_409 =>
   chk ((aset m0_389 r_408.Pack (IntKind.i64.wrap ((q_409.getD 0) + 0))).length ≤ 274877906944) <|
   bif decide (r_408.Kind = 6) then
    nx_405 (aset m0_389 r_408.Pack (IntKind.i64.wrap ((q_409.getD 0) + 0)), m1_390)
   else
   bif decide (r_408.Result = 0) then
    letv (alook (aset m0_389 r_408.Pack (IntKind.i64.wrap ((q_409.getD 0) + 0))) r_408.Pack) fun q_413 =>
    chk ((aset (aset m0_389 r_408.Pack (IntKind.i64.wrap ((q_409.getD 0) + 0))) r_408.Pack (IntKind.i64.wrap ((q_413.getD 0) + 1))).length ≤ 274877906944) <|
    nx_405 (aset (aset m0_389 r_408.Pack (IntKind.i64.wrap ((q_409.getD 0) + 0))) r_408.Pack (IntKind.i64.wrap ((q_413.getD 0) + 1)), m1_390)
   else
   letv (alook m1_390 r_408.Pack) fun q_417 =>
   chk ((aset m1_390 r_408.Pack (IntKind.i64.wrap ((q_417.getD 0) + 1))).length ≤ 274877906944) <|
   nx_405 (aset m0_389 r_408.Pack (IntKind.i64.wrap ((q_409.getD 0) + 0)), aset m1_390 r_408.Pack (IntKind.i64.wrap ((q_417.getD 0) + 1)))) ([], []) (fun s => match s with
  | (m0_389, m1_390) =>
   k_53 (m0_389, m1_390))
noncomputable def Law_ReportsMatch (l_1 : List api_Record) (raw_2 : Bool) (from_3 : Int) (to_4 : Int) : Option Bool :=
 call (Law_landed) fun r_5 =>
 bif !r_5 then
  some false
 else
 call (Law_could l_1 raw_2) fun r_6 =>
 call (log_Report r_6 from_3 to_4) fun r_7 =>
 call (R_RecordsError r_6) fun r_8 =>
 jp (S := Int) (fun f_11 =>
  bif !decide (f_11 = 0) then
   some ((decide (r_7.2 = f_11)) && (decide (r_7.1 = [])))
  else
  callG (decide (r_7.2 = 0)) (R_ReportOf r_6 from_3 to_4) [] fun r_13 =>
  some ((decide (r_7.2 = 0)) && (decide (r_7.1 = r_13)))) fun k_12 =>
 bif !decide (r_8 = 0) then
  k_12 r_8
 else
 letv (((((decide (from_3 < 0)) || (decide (1099511627776 < from_3))) || (decide (to_4 < 0))) || (decide (1099511627776 < to_4)))) fun v_14 =>
 bif v_14 then
  k_12 3
 else
 bif decide (to_4 < from_3) then
  k_12 7
 else
 k_12 r_8
end Go.Md
