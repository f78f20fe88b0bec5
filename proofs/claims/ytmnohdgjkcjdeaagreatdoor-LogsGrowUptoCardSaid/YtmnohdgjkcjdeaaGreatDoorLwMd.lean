/- Models of the functions that the statement reaches: what each computes, in plain words. -/
import Derived.Test.YtmnohdgjkcjdeaaGreatDoorVc3
set_option linter.unusedVariables false
namespace Go.Md
open Go.Vc
def tabL_3 : List Int := [1, 10, 100, 1000, 10000, 100000, 1000000, 10000000, 100000000, 1000000000, 10000000000, 100000000000, 1000000000000, 10000000000000, 100000000000000, 1000000000000000, 10000000000000000, 100000000000000000, 1000000000000000000, 10000000000000000000]
theorem tabL_3_len : tabL_3.length = 20 := rfl
def tabL_7 : List Int := [0, 1, 56, 2, 57, 49, 28, 3, 61, 58, 42, 50, 38, 29, 17, 4, 62, 47, 59, 36, 45, 43, 51, 22, 53, 39, 33, 30, 24, 18, 12, 5, 63, 55, 48, 27, 60, 41, 37, 16, 46, 35, 44, 21, 52, 32, 23, 11, 54, 26, 40, 15, 34, 20, 31, 10, 25, 14, 19, 9, 13, 8, 7, 6]
theorem tabL_7_len : tabL_7.length = 64 := rfl
instance theTabs : Tabs := ⟨fun b => bif Nat.beq b 3 then some (.u64, tabL_3) else bif Nat.beq b 7 then some (.u8, tabL_7) else none, fun b => bif Nat.beq b 1 then true else bif Nat.beq b 2 then true else false⟩
theorem ifc_1 : Tabs.ifc 1 = true := rfl
theorem ifc_2 : Tabs.ifc 2 = true := rfl
theorem tab_3 : Tabs.tab 3 = some (.u64, tabL_3) := rfl
attribute [go_sem] tab_3 tabL_3_len
theorem tab_7 : Tabs.tab 7 = some (.u8, tabL_7) := rfl
attribute [go_sem] tab_7 tabL_7_len
def ecB (b : Bool) : List Dt := [.b b]
def ecS (x : Str) : List Dt := [.s x]
def ecI_i8 (n : Int) : List Dt := [.i .i8 n]
def ecI_i16 (n : Int) : List Dt := [.i .i16 n]
def ecI_i32 (n : Int) : List Dt := [.i .i32 n]
def ecI_i64 (n : Int) : List Dt := [.i .i64 n]
def ecI_u8 (n : Int) : List Dt := [.i .u8 n]
def ecI_u16 (n : Int) : List Dt := [.i .u16 n]
def ecI_u32 (n : Int) : List Dt := [.i .u32 n]
def ecI_u64 (n : Int) : List Dt := [.i .u64 n]
theorem dec1_s : ∀ r, hasR r [.s] → ∃ x, r = ecS x := by
 intro r h
 rcases r with _ | ⟨d, _ | _⟩ <;> simp only [hasR, and_false, and_true] at h
 cases d <;> simp only [hasT] at h
 exact ⟨_, rfl⟩
theorem dec1_i64 : ∀ r, hasR r [.i .i64] → ∃ x, r = ecI_i64 x := by
 intro r h
 rcases r with _ | ⟨d, _ | _⟩ <;> simp only [hasR, and_false, and_true] at h
 cases d <;> simp only [hasT] at h
 subst h
 exact ⟨_, rfl⟩
theorem dec1_u8 : ∀ r, hasR r [.i .u8] → ∃ x, r = ecI_u8 x := by
 intro r h
 rcases r with _ | ⟨d, _ | _⟩ <;> simp only [hasR, and_false, and_true] at h
 cases d <;> simp only [hasT] at h
 subst h
 exact ⟨_, rfl⟩
structure api_Version where
 Major : Int
 Minor : Int
 Patch : Int
 Early : Str
def enc_api_Version (x : api_Version) : List Dt := [.i .i64 x.Major, .i .i64 x.Minor, .i .i64 x.Patch, .s x.Early]
def sh_api_Version : List Sh := [.i .i64, .i .i64, .i .i64, .s]
theorem dec_api_Version : ∀ r, hasR r sh_api_Version → ∃ x : api_Version, r = enc_api_Version x := by
 intro r h
 unfold sh_api_Version at h
 rcases r with _ | ⟨d0, _ | ⟨d1, _ | ⟨d2, _ | ⟨d3, _ | _⟩⟩⟩⟩ <;> simp only [hasR, and_false, and_true] at h
 obtain ⟨h0, h1, h2, h3⟩ := h
 cases d0 <;> simp only [hasT] at h0
 subst h0
 cases d1 <;> simp only [hasT] at h1
 subst h1
 cases d2 <;> simp only [hasT] at h2
 subst h2
 cases d3 <;> simp only [hasT] at h3
 exact ⟨⟨_, _, _, _⟩, rfl⟩
structure api_Record where
 Time : Int
 Kind : Int
 Pack : Str
 From : api_Version
 To : api_Version
 Result : Int
 Note : Str
def enc_api_Record (x : api_Record) : List Dt := [.i .i64 x.Time, .i .i64 x.Kind, .s x.Pack, .i .i64 x.From.Major, .i .i64 x.From.Minor, .i .i64 x.From.Patch, .s x.From.Early, .i .i64 x.To.Major, .i .i64 x.To.Minor, .i .i64 x.To.Patch, .s x.To.Early, .i .i64 x.Result, .s x.Note]
def sh_api_Record : List Sh := [.i .i64, .i .i64, .s, .i .i64, .i .i64, .i .i64, .s, .i .i64, .i .i64, .i .i64, .s, .i .i64, .s]
set_option maxRecDepth 100000 in
theorem dec_api_Record : ∀ r, hasR r sh_api_Record → ∃ x : api_Record, r = enc_api_Record x := by
 intro r h
 unfold sh_api_Record at h
 rcases r with _ | ⟨d0, _ | ⟨d1, _ | ⟨d2, _ | ⟨d3, _ | ⟨d4, _ | ⟨d5, _ | ⟨d6, _ | ⟨d7, _ | ⟨d8, _ | ⟨d9, _ | ⟨d10, _ | ⟨d11, _ | ⟨d12, _ | _⟩⟩⟩⟩⟩⟩⟩⟩⟩⟩⟩⟩⟩ <;> simp only [hasR, and_false, and_true] at h
 obtain ⟨h0, h1, h2, h3, h4, h5, h6, h7, h8, h9, h10, h11, h12⟩ := h
 cases d0 <;> simp only [hasT] at h0
 subst h0
 cases d1 <;> simp only [hasT] at h1
 subst h1
 cases d2 <;> simp only [hasT] at h2
 cases d3 <;> simp only [hasT] at h3
 subst h3
 cases d4 <;> simp only [hasT] at h4
 subst h4
 cases d5 <;> simp only [hasT] at h5
 subst h5
 cases d6 <;> simp only [hasT] at h6
 cases d7 <;> simp only [hasT] at h7
 subst h7
 cases d8 <;> simp only [hasT] at h8
 subst h8
 cases d9 <;> simp only [hasT] at h9
 subst h9
 cases d10 <;> simp only [hasT] at h10
 cases d11 <;> simp only [hasT] at h11
 subst h11
 cases d12 <;> simp only [hasT] at h12
 exact ⟨⟨_, _, _, ⟨_, _, _, _⟩, ⟨_, _, _, _⟩, _, _⟩, rfl⟩
structure log_had where
 v : api_Version
 since : Int
def enc_log_had (x : log_had) : List Dt := [.i .i64 x.v.Major, .i .i64 x.v.Minor, .i .i64 x.v.Patch, .s x.v.Early, .i .i64 x.since]
def sh_log_had : List Sh := [.i .i64, .i .i64, .i .i64, .s, .i .i64]
theorem dec_log_had : ∀ r, hasR r sh_log_had → ∃ x : log_had, r = enc_log_had x := by
 intro r h
 unfold sh_log_had at h
 rcases r with _ | ⟨d0, _ | ⟨d1, _ | ⟨d2, _ | ⟨d3, _ | ⟨d4, _ | _⟩⟩⟩⟩⟩ <;> simp only [hasR, and_false, and_true] at h
 obtain ⟨h0, h1, h2, h3, h4⟩ := h
 cases d0 <;> simp only [hasT] at h0
 subst h0
 cases d1 <;> simp only [hasT] at h1
 subst h1
 cases d2 <;> simp only [hasT] at h2
 subst h2
 cases d3 <;> simp only [hasT] at h3
 cases d4 <;> simp only [hasT] at h4
 subst h4
 exact ⟨⟨⟨_, _, _, _⟩, _⟩, rfl⟩
structure api_Had where
 Pack : Str
 Version : api_Version
 Since : Int
def enc_api_Had (x : api_Had) : List Dt := [.s x.Pack, .i .i64 x.Version.Major, .i .i64 x.Version.Minor, .i .i64 x.Version.Patch, .s x.Version.Early, .i .i64 x.Since]
def sh_api_Had : List Sh := [.s, .i .i64, .i .i64, .i .i64, .s, .i .i64]
theorem dec_api_Had : ∀ r, hasR r sh_api_Had → ∃ x : api_Had, r = enc_api_Had x := by
 intro r h
 unfold sh_api_Had at h
 rcases r with _ | ⟨d0, _ | ⟨d1, _ | ⟨d2, _ | ⟨d3, _ | ⟨d4, _ | ⟨d5, _ | _⟩⟩⟩⟩⟩⟩ <;> simp only [hasR, and_false, and_true] at h
 obtain ⟨h0, h1, h2, h3, h4, h5⟩ := h
 cases d0 <;> simp only [hasT] at h0
 cases d1 <;> simp only [hasT] at h1
 subst h1
 cases d2 <;> simp only [hasT] at h2
 subst h2
 cases d3 <;> simp only [hasT] at h3
 subst h3
 cases d4 <;> simp only [hasT] at h4
 cases d5 <;> simp only [hasT] at h5
 subst h5
 exact ⟨⟨_, ⟨_, _, _, _⟩, _⟩, rfl⟩
def encL_enc_api_Record (x : List api_Record) : List Dt := [.l (List.map enc_api_Record x)]
def encL_enc_api_Had (x : List api_Had) : List Dt := [.l (List.map enc_api_Had x)]
theorem sz_ecB : ∀ l, szOk (1) (List.map ecB l) = True := fun l => eq_true (by intro r hr; obtain ⟨x, _, rfl⟩ := List.mem_map.1 hr; rfl)
theorem sz_ecS : ∀ l, szOk (1) (List.map ecS l) = True := fun l => eq_true (by intro r hr; obtain ⟨x, _, rfl⟩ := List.mem_map.1 hr; rfl)
theorem sz_ecI_i64 : ∀ l, szOk (1) (List.map ecI_i64 l) = True := fun l => eq_true (by intro r hr; obtain ⟨x, _, rfl⟩ := List.mem_map.1 hr; rfl)
theorem sz_ecI_u8 : ∀ l, szOk (1) (List.map ecI_u8 l) = True := fun l => eq_true (by intro r hr; obtain ⟨x, _, rfl⟩ := List.mem_map.1 hr; rfl)
theorem sz_ecI_u64 : ∀ l, szOk (1) (List.map ecI_u64 l) = True := fun l => eq_true (by intro r hr; obtain ⟨x, _, rfl⟩ := List.mem_map.1 hr; rfl)
theorem sz_ecI_i32 : ∀ l, szOk (1) (List.map ecI_i32 l) = True := fun l => eq_true (by intro r hr; obtain ⟨x, _, rfl⟩ := List.mem_map.1 hr; rfl)
theorem sz_ecI_u32 : ∀ l, szOk (1) (List.map ecI_u32 l) = True := fun l => eq_true (by intro r hr; obtain ⟨x, _, rfl⟩ := List.mem_map.1 hr; rfl)
theorem sz_enc_api_Version : ∀ l, szOk (4) (List.map enc_api_Version l) = True := fun l => eq_true (by intro r hr; obtain ⟨x, _, rfl⟩ := List.mem_map.1 hr; rfl)
theorem sz_enc_api_Record : ∀ l, szOk (13) (List.map enc_api_Record l) = True := fun l => eq_true (by intro r hr; obtain ⟨x, _, rfl⟩ := List.mem_map.1 hr; rfl)
theorem sz_enc_log_had : ∀ l, szOk (5) (List.map enc_log_had l) = True := fun l => eq_true (by intro r hr; obtain ⟨x, _, rfl⟩ := List.mem_map.1 hr; rfl)
theorem sz_enc_api_Had : ∀ l, szOk (6) (List.map enc_api_Had l) = True := fun l => eq_true (by intro r hr; obtain ⟨x, _, rfl⟩ := List.mem_map.1 hr; rfl)
theorem sz_encL_enc_api_Record : ∀ l, szOk (1) (List.map encL_enc_api_Record l) = True := fun l => eq_true (by intro r hr; obtain ⟨x, _, rfl⟩ := List.mem_map.1 hr; rfl)
theorem sz_encL_enc_api_Had : ∀ l, szOk (1) (List.map encL_enc_api_Had l) = True := fun l => eq_true (by intro r hr; obtain ⟨x, _, rfl⟩ := List.mem_map.1 hr; rfl)
theorem allB_enc : ∀ l : List Int, allB (List.map ecI_u8 l) = True
 | [] => by simp only [List.map_nil, allB]
 | _ :: l => by simp only [List.map_cons, ecI_u8, allB, allB_enc l, and_self]
theorem unB_enc : ∀ l : List Int, unB (List.map ecI_u8 l) = Go.Vc.strOf l
 | [] => by simp only [List.map_nil, unB, Go.Vc.strOf]
 | _ :: l => by simp only [List.map_cons, ecI_u8, unB, unB_enc l, Go.Vc.strOf]
theorem bR_enc (l : Str) : bR l = List.map ecI_u8 (bytesOf l) := by simp [bR, bytesOf, ecI_u8]
attribute [go_sem] allB_enc unB_enc bR_enc
attribute [go_sem] ecB ecS ecI_i64 ecI_u8 ecI_u64 ecI_i32 ecI_u32 enc_api_Version enc_api_Record enc_log_had enc_api_Had encL_enc_api_Record encL_enc_api_Had sz_ecB sz_ecS sz_ecI_i64 sz_ecI_u8 sz_ecI_u64 sz_ecI_i32 sz_ecI_u32 sz_enc_api_Version sz_enc_api_Record sz_enc_log_had sz_enc_api_Had sz_encL_enc_api_Record sz_encL_enc_api_Had
noncomputable def ver_isSmall (c_1 : Int) : Option Bool :=
 some ((decide (97 ≤ c_1)) && (decide (c_1 ≤ 122)))
noncomputable def ver_isDigit (c_1 : Int) : Option Bool :=
 some ((decide (48 ≤ c_1)) && (decide (c_1 ≤ 57)))
noncomputable def ver_IsName_1 (c_1 : Int) : Option Bool :=
 call (ver_isSmall c_1) fun r_2 =>
 callG (!r_2) (ver_isDigit c_1) false fun r_3 =>
 some (((r_2 || r_3) || (decide (c_1 = 45))) || (decide (c_1 = 46)))
noncomputable def ver_each_i1 (s_1 : Str) (most_2 : Int) : Option Bool :=
 jp (S := Unit) (fun _ =>
  some ((!decide (s_1 = [])) && (decide ((s_1.length : Int) ≤ most_2)))) fun k_12 =>
 forL s_1 0 (fun i_18 c_20 s nx_17 k_16 =>
  call (ver_IsName_1 (c_20.toNat : Int)) fun r_21 =>
  bif !r_21 then
   some false
  else
  nx_17 ()) () (fun _ =>
  k_12 ())
noncomputable def ver_IsName (s_1 : Str) : Option Bool :=
 call (ver_each_i1 s_1 40) fun r_2 =>
 chk (r_2 = true → (0 ≤ 0 ∧ 0 < (s_1.length : Int))) <|
 callG r_2 (ver_isSmall ((s_1.getD 0 0).toNat : Int)) false fun r_4 =>
 some (r_2 && r_4)
noncomputable def Law_landed  : Option Bool :=
 call (ver_IsName ([97] : Str)) fun r_1 =>
 some r_1
noncomputable def log_newTable  : Option ((List (Str × log_had)) × Int) :=
 some ([], 0)
noncomputable def log_New  : Option ((List (Str × log_had)) × Int × Str) :=
 call (log_newTable) fun r_2 =>
 some (r_2.1, r_2.2, [])
noncomputable def R_when (bad_1 : Bool) (e_2 : Int) : Option Int :=
 bif bad_1 then
  some e_2
 else
 some 0
noncomputable def R_IsName (s_1 : Str) : Option Bool :=
 jp (S := Unit) (fun _ =>
  some ((!decide (s_1 = [])) && (decide ((s_1.length : Int) ≤ 40)))) fun k_9 =>
 forL s_1 0 (fun i_14 c_16 s nx_13 k_12 =>
  bif (((decide ((i_14 : Int) = 0)) && (!((decide (97 ≤ (c_16.toNat : Int))) && (decide ((c_16.toNat : Int) ≤ 122))))) || ((((!((decide (97 ≤ (c_16.toNat : Int))) && (decide ((c_16.toNat : Int) ≤ 122)))) && ((decide ((c_16.toNat : Int) < 48)) || (decide (57 < (c_16.toNat : Int))))) && (!decide ((c_16.toNat : Int) = 45))) && (!decide ((c_16.toNat : Int) = 46)))) then
   some false
  else
  nx_13 ()) () (fun _ =>
  k_9 ())
noncomputable def R_first (l_1 : List Int) : Option Int :=
 jp (S := Unit) (fun _ =>
  some 0) fun k_9 =>
 forL l_1 0 (fun i_14 e_16 s nx_13 k_12 =>
  bif !decide (e_16 = 0) then
   some e_16
  else
  nx_13 ()) () (fun _ =>
  k_9 ())
noncomputable def R_In (n_1 : Int) (low_2 : Int) (high_3 : Int) : Option Bool :=
 some ((decide (low_2 ≤ n_1)) && (decide (n_1 ≤ high_3)))
noncomputable def internal_stringslite_IndexByte (s_1 : Str) (c_2 : Int) : Option Int :=
 some (ixByte s_1 c_2)
noncomputable def internal_stringslite_Index (s_1 : Str) (substr_2 : Str) : Option Int :=
 bif ((decide ((substr_2.length : Int) = 0)) || (decide (substr_2 = s_1))) then
  some 0
 else
 bif decide ((substr_2.length : Int) = 1) then
  idxS substr_2 0 fun c_3 =>
  call (internal_stringslite_IndexByte s_1 c_3) fun r_4 =>
  some r_4
 else
 bif decide ((s_1.length : Int) ≤ (substr_2.length : Int)) then
  some (-1)
 else
 none
noncomputable def strings_Index (s_1 : Str) (substr_2 : Str) : Option Int :=
 call (internal_stringslite_Index s_1 substr_2) fun r_3 =>
 some r_3
noncomputable def strings_Count (s_1 : Str) (substr_2 : Str) : Option Int :=
 bif decide ((substr_2.length : Int) = 0) then
  none
 else
 bif decide ((substr_2.length : Int) = 1) then
  idxS substr_2 0 fun c_3 =>
  some (cntByte s_1 c_3)
 else
 loopN Fuel (fun s nx_15 k_14 =>
  match s with
  | (s_10, n_11) =>
   call (strings_Index s_10 substr_2) fun r_16 =>
   bif decide (r_16 = (-1)) then
    some n_11
   else
   chk (0 ≤ IntKind.i64.wrap (r_16 + (substr_2.length : Int)) ∧ IntKind.i64.wrap (r_16 + (substr_2.length : Int)) ≤ (s_10.length : Int)) <|
   nx_15 (List.drop ((IntKind.i64.wrap (r_16 + (substr_2.length : Int))).toNat) s_10, IntKind.i64.wrap (n_11 + 1))) (s_1, 0) (fun s => match s with
  | (s_10, n_11) =>
   some 0)
noncomputable def strings_genSplit (s_1 : Str) (sep_2 : Str) (sepSave_3 : Int) (n_4 : Int) : Option (List Str) :=
 bif decide (n_4 = 0) then
  some []
 else
 bif decide (sep_2 = []) then
  none
 else
 jp (S := Int) (fun n_6 =>
  chk (0 ≤ min n_6 (IntKind.i64.wrap ((s_1.length : Int) + 1)) ∧ min n_6 (IntKind.i64.wrap ((s_1.length : Int) + 1)) ≤ min n_6 (IntKind.i64.wrap ((s_1.length : Int) + 1)) ∧ min n_6 (IntKind.i64.wrap ((s_1.length : Int) + 1)) ≤ 274877906944) <|
  jp (S := Str × Int × List Str) (fun s => match s with
   | (s_28, i_29, o0_30) =>
    chk (0 ≤ i_29 ∧ i_29 < (o0_30.length : Int)) <|
    chk (0 ≤ IntKind.i64.wrap (i_29 + 1) ∧ IntKind.i64.wrap (i_29 + 1) ≤ ((List.set o0_30 i_29.toNat s_28).length : Int)) <|
    some (List.take ((IntKind.i64.wrap (i_29 + 1)).toNat) (List.set o0_30 i_29.toNat s_28))) fun k_31 =>
  loopN Fuel (fun s nx_48 k_47 =>
   match s with
   | (s_40, i_41, o0_42) =>
    bif decide (i_41 < (IntKind.i64.wrap ((min n_6 (IntKind.i64.wrap ((s_1.length : Int) + 1))) - 1))) then
     call (strings_Index s_40 sep_2) fun r_49 =>
     bif decide (r_49 < 0) then
      k_47 (s_40, i_41, o0_42)
     else
     chk (0 ≤ IntKind.i64.wrap (r_49 + sepSave_3) ∧ IntKind.i64.wrap (r_49 + sepSave_3) ≤ (s_40.length : Int)) <|
     chk (0 ≤ i_41 ∧ i_41 < (o0_42.length : Int)) <|
     chk (0 ≤ IntKind.i64.wrap (r_49 + (sep_2.length : Int)) ∧ IntKind.i64.wrap (r_49 + (sep_2.length : Int)) ≤ (s_40.length : Int)) <|
     nx_48 (List.drop ((IntKind.i64.wrap (r_49 + (sep_2.length : Int))).toNat) s_40, IntKind.i64.wrap (i_41 + 1), List.set o0_42 i_41.toNat (List.take ((IntKind.i64.wrap (r_49 + sepSave_3)).toNat) s_40))
    else
    k_47 (s_40, i_41, o0_42)) (s_1, 0, List.replicate ((min n_6 (IntKind.i64.wrap ((s_1.length : Int) + 1))).toNat) []) (fun s => match s with
   | (s_40, i_41, o0_42) =>
    k_31 (s_40, i_41, o0_42))) fun k_7 =>
 bif decide (n_4 < 0) then
  call (strings_Count s_1 sep_2) fun r_53 =>
  k_7 (IntKind.i64.wrap (r_53 + 1))
 else
 k_7 n_4
noncomputable def strings_Split (s_1 : Str) (sep_2 : Str) : Option (List Str) :=
 call (strings_genSplit s_1 sep_2 0 (-1)) fun r_3 =>
 some r_3
noncomputable def strings_Trim (s cut : Str) : Option Str := chk (cut.length ≤ 4294967280 ∧ (cut.all fun c => decide (c.toNat < 128)) = true) <| some (Go.Lib.trimS s cut)
noncomputable def strings_IndexByte (s_1 : Str) (c_2 : Int) : Option Int :=
 call (internal_stringslite_IndexByte s_1 c_2) fun r_3 =>
 some r_3
noncomputable def R_inner (s_1 : Str) (bytes_2 : Str) : Option Bool :=
 jp (S := Unit) (fun _ =>
  some true) fun k_12 =>
 forL s_1 0 (fun i_18 c_20 s nx_17 k_16 =>
  call (strings_IndexByte bytes_2 (c_20.toNat : Int)) fun r_21 =>
  bif decide (r_21 < 0) then
   some false
  else
  nx_17 ()) () (fun _ =>
  k_12 ())
noncomputable def R_Of (s_1 : Str) (bytes_2 : Str) : Option Bool :=
 call (strings_Trim s_1 bytes_2) fun r_3 =>
 callG (decide (r_3 = [])) (R_inner s_1 bytes_2) false fun r_4 =>
 some ((decide (r_3 = [])) && r_4)
noncomputable def R_VersionError (l_1 : List api_Version) : Option Int :=
 jp (S := Unit) (fun _ =>
  some 0) fun k_144 =>
 forL l_1 0 (fun i_217 v_219 s nx_216 k_215 =>
  jp (S := Unit) (fun _ =>
   nx_216 ()) fun k_253 =>
  jp (S := Unit) (fun _ =>
   bif decide (v_219.Early = []) then
    k_253 ()
   else
   bif decide (40 < (v_219.Early.length : Int)) then
    some 2
   else
   call (strings_Split v_219.Early ([46] : Str)) fun r_264 =>
   forL r_264 0 (fun i_272 s_274 s nx_271 k_270 =>
    callG (!((decide (s_274 = [])) || (decide (10 < (s_274.length : Int))))) (R_Of s_274 ([97, 98, 99, 100, 101, 102, 103, 104, 105, 106, 107, 108, 109, 110, 111, 112, 113, 114, 115, 116, 117, 118, 119, 120, 121, 122, 48, 49, 50, 51, 52, 53, 54, 55, 56, 57] : Str)) false fun r_275 =>
    callG (!(((decide (s_274 = [])) || (decide (10 < (s_274.length : Int)))) || (!r_275))) (R_Of s_274 ([48, 49, 50, 51, 52, 53, 54, 55, 56, 57] : Str)) false fun r_276 =>
    chk (((!(((decide (s_274 = [])) || (decide (10 < (s_274.length : Int)))) || (!r_275))) && (r_276 && (decide (1 < (s_274.length : Int))))) = true → (0 ≤ 0 ∧ 0 < (s_274.length : Int))) <|
    bif ((((decide (s_274 = [])) || (decide (10 < (s_274.length : Int)))) || (!r_275)) || ((r_276 && (decide (1 < (s_274.length : Int)))) && (decide (((s_274.getD 0 0).toNat : Int) = 48)))) then
     some 2
    else
    nx_271 ()) () (fun _ =>
    k_253 ())) fun k_263 =>
  forL [v_219.Major, v_219.Minor, v_219.Patch] 0 (fun i_283 n_285 s nx_282 k_281 =>
   call (R_In n_285 0 999999) fun r_286 =>
   bif !r_286 then
    some 3
   else
   nx_282 ()) () (fun _ =>
   k_263 ())) () (fun _ =>
  k_144 ())
noncomputable def cmp_isNaN_int (x_1 : Int) : Option Bool :=
 some (!decide (x_1 = x_1))
noncomputable def cmp_Compare_int (x_1 : Int) (y_2 : Int) : Option Int :=
 call (cmp_isNaN_int x_1) fun r_3 =>
 call (cmp_isNaN_int y_2) fun r_4 =>
 bif r_3 then
  bif r_4 then
   some 0
  else
  some (-1)
 else
 bif r_4 then
  some 1
 else
 bif decide (x_1 < y_2) then
  some (-1)
 else
 bif decide (y_2 < x_1) then
  some 1
 else
 some 0
noncomputable def cmp_Or_int (vals_1 : List Int) : Option Int :=
 jp (S := Unit) (fun _ =>
  some 0) fun k_9 =>
 forL vals_1 0 (fun i_14 n_16 s nx_13 k_12 =>
  bif !decide (n_16 = 0) then
   some n_16
  else
  nx_13 ()) () (fun _ =>
  k_9 ())
noncomputable def strconv_Atoi (s : Str) : Option (Int × Bool) := some (atoiV s, atoiE s)
noncomputable def internal_bytealg_CompareString (a_1 : Str) (b_2 : Str) : Option Int :=
 some (cmpB a_1 b_2)
noncomputable def strings_Compare (a_1 : Str) (b_2 : Str) : Option Int :=
 call (internal_bytealg_CompareString a_1 b_2) fun r_3 =>
 some r_3
noncomputable def R_CompareOf (a_1 : api_Version) (b_2 : api_Version) : Option Int :=
 call (cmp_Compare_int a_1.Major b_2.Major) fun r_3 =>
 call (cmp_Compare_int a_1.Minor b_2.Minor) fun r_4 =>
 call (cmp_Compare_int a_1.Patch b_2.Patch) fun r_5 =>
 call (cmp_Or_int [r_3, r_4, r_5]) fun r_6 =>
 bif !decide (r_6 = 0) then
  some r_6
 else
 bif ((decide (a_1.Early = [])) || (decide (b_2.Early = []))) then
  call (cmp_Compare_int (min 1 (b_2.Early.length : Int)) (min 1 (a_1.Early.length : Int))) fun r_7 =>
  some r_7
 else
 call (strings_Split a_1.Early ([46] : Str)) fun r_11 =>
 call (strings_Split b_2.Early ([46] : Str)) fun r_12 =>
 jp (S := Unit) (fun _ =>
  call (cmp_Compare_int (r_11.length : Int) (r_12.length : Int)) fun r_51 =>
  some r_51) fun k_50 =>
 loopN Fuel (fun t64_64 nx_77 k_76 =>
  bif decide (t64_64 < (min (r_11.length : Int) (r_12.length : Int))) then
   idx r_11 t64_64 fun s_78 =>
   call (R_Of s_78 ([48, 49, 50, 51, 52, 53, 54, 55, 56, 57] : Str)) fun r_79 =>
   idx r_12 t64_64 fun s_80 =>
   call (R_Of s_80 ([48, 49, 50, 51, 52, 53, 54, 55, 56, 57] : Str)) fun r_81 =>
   call (strconv_Atoi s_78) fun r_82 =>
   call (strconv_Atoi s_80) fun r_83 =>
   call (strings_Compare s_78 s_80) fun r_84 =>
   jp (S := Int) (fun c_86 =>
    bif !decide (c_86 = 0) then
     some c_86
    else
    nx_77 (IntKind.i64.wrap (t64_64 + 1))) fun k_87 =>
   bif (r_79 && r_81) then
    call (cmp_Compare_int r_82.1 r_83.1) fun r_88 =>
    k_87 r_88
   else
   bif r_79 then
    k_87 (-1)
   else
   bif r_81 then
    k_87 1
   else
   k_87 r_84
  else
  k_76 t64_64) 0 (fun t64_64 =>
  k_50 ())
noncomputable def R_IsValue (s_1 : Str) : Option Bool :=
 jp (S := Unit) (fun _ =>
  some (decide ((s_1.length : Int) ≤ 1000))) fun k_9 =>
 forL s_1 0 (fun i_14 c_16 s nx_13 k_12 =>
  bif ((decide ((c_16.toNat : Int) < 32)) || (decide (126 < (c_16.toNat : Int)))) then
   some false
  else
  nx_13 ()) () (fun _ =>
  k_9 ())
noncomputable def R_RecordError (r_1 : api_Record) : Option Int :=
 call (R_when ((decide (r_1.Time < 0)) || (decide (1099511627776 < r_1.Time))) 3) fun r_2 =>
 call (R_when ((decide (r_1.Kind < 1)) || (decide (6 < r_1.Kind))) 1) fun r_3 =>
 call (R_IsName r_1.Pack) fun r_4 =>
 call (R_when (!r_4) 5) fun r_5 =>
 call (R_first [r_2, r_3, r_5]) fun r_6 =>
 jp (S := Int) (fun e_10 =>
  bif !decide (e_10 = 0) then
   some e_10
  else
  bif ((!decide ((!((decide (r_1.From.Major = 0)) && ((decide (r_1.From.Minor = 0)) && ((decide (r_1.From.Patch = 0)) && (decide (r_1.From.Early = [])))))) = (((decide (r_1.Kind = 2)) || (decide (r_1.Kind = 3))) || (decide (r_1.Kind = 4))))) || ((!decide ((!((decide (r_1.To.Major = 0)) && ((decide (r_1.To.Minor = 0)) && ((decide (r_1.To.Patch = 0)) && (decide (r_1.To.Early = [])))))) = (!decide (r_1.Kind = 4)))) && (!decide (r_1.Kind = 6)))) then
   some 2
  else
  call (R_CompareOf r_1.From r_1.To) fun r_12 =>
  call (R_when (((decide (r_1.Kind = 2)) && (decide (0 ≤ r_12))) || ((decide (r_1.Kind = 3)) && (decide (r_12 ≤ 0)))) 11) fun r_13 =>
  call (R_when ((decide (r_1.Result < 0)) || (decide (18 < r_1.Result))) 3) fun r_14 =>
  call (R_IsValue r_1.Note) fun r_15 =>
  call (R_when (!r_15) 2) fun r_16 =>
  call (R_first [r_13, r_14, r_16]) fun r_17 =>
  some r_17) fun k_11 =>
 bif decide (r_6 = 0) then
  call (R_VersionError [r_1.From]) fun r_18 =>
  call (R_VersionError [r_1.To]) fun r_19 =>
  call (R_first [r_18, r_19]) fun r_20 =>
  k_11 r_20
 else
 k_11 r_6
noncomputable def slices_Clone_api_Record_api_Record_new (s_1 : List api_Record) : Option (List api_Record) :=
 anyOf (fun b_5 : Bool => b_5 = true → s_1 = []) fun b_5 =>
 bif b_5 then
  some []
 else
 chk (([] ++ s_1).length ≤ 274877906944) <|
 some ([] ++ s_1)
noncomputable def R_could_i1 (r_1 : api_Record) (m0_2 : List (Str × api_Had)) : Option (Bool × (List (Str × api_Had))) :=
 letv (alook m0_2 r_1.Pack) fun q_15 =>
 jp (S := Unit) (fun _ =>
  bif !decide (r_1.Result = 0) then
   some (true, m0_2)
  else
  jp (S := Bool) (fun t48_20 =>
   bif t48_20 then
    chk ((aset m0_2 r_1.Pack (api_Had.mk r_1.Pack r_1.To r_1.Time)).length ≤ 274877906944) <|
    some (true, aset m0_2 r_1.Pack (api_Had.mk r_1.Pack r_1.To r_1.Time))
   else
   bif decide (r_1.Kind = 4) then
    some (true, adel m0_2 r_1.Pack)
   else
   some (true, m0_2)) fun k_21 =>
  bif decide (r_1.Kind = 1) then
   k_21 (decide (r_1.Kind = 1))
  else
  bif decide (r_1.Kind = 2) then
   k_21 (decide (r_1.Kind = 2))
  else
  k_21 (decide (r_1.Kind = 3))) fun k_19 =>
 bif decide (r_1.Kind = 1) then
  bif q_15.isSome then
   some (false, m0_2)
  else
  k_19 ()
 else
 bif decide (r_1.Kind = 5) then
  bif ((!q_15.isSome) || (!((decide ((((q_15.getD (api_Had.mk [] (api_Version.mk 0 0 0 []) 0)).Version).Major) = r_1.To.Major)) && ((decide ((((q_15.getD (api_Had.mk [] (api_Version.mk 0 0 0 []) 0)).Version).Minor) = r_1.To.Minor)) && ((decide ((((q_15.getD (api_Had.mk [] (api_Version.mk 0 0 0 []) 0)).Version).Patch) = r_1.To.Patch)) && (decide ((((q_15.getD (api_Had.mk [] (api_Version.mk 0 0 0 []) 0)).Version).Early) = r_1.To.Early))))))) then
   some (false, m0_2)
  else
  k_19 ()
 else
 jp (S := Bool) (fun t30_25 =>
  bif t30_25 then
   bif ((!q_15.isSome) || (!((decide ((((q_15.getD (api_Had.mk [] (api_Version.mk 0 0 0 []) 0)).Version).Major) = r_1.From.Major)) && ((decide ((((q_15.getD (api_Had.mk [] (api_Version.mk 0 0 0 []) 0)).Version).Minor) = r_1.From.Minor)) && ((decide ((((q_15.getD (api_Had.mk [] (api_Version.mk 0 0 0 []) 0)).Version).Patch) = r_1.From.Patch)) && (decide ((((q_15.getD (api_Had.mk [] (api_Version.mk 0 0 0 []) 0)).Version).Early) = r_1.From.Early))))))) then
    some (false, m0_2)
   else
   k_19 ()
  else
  k_19 ()) fun k_26 =>
 bif decide (r_1.Kind = 2) then
  k_26 (decide (r_1.Kind = 2))
 else
 bif decide (r_1.Kind = 3) then
  k_26 (decide (r_1.Kind = 3))
 else
 k_26 (decide (r_1.Kind = 4))
noncomputable def R_RecordsError (l_1 : List api_Record) : Option Int :=
 bif decide (5000 < (l_1.length : Int)) then
  some 4
 else
 jp (S := Unit) (fun _ =>
  some 0) fun k_48 =>
 forL l_1 0 (fun i_80 r_82 m0_64 nx_79 k_78 =>
  call (R_RecordError r_82) fun r_83 =>
  jp (S := Int) (fun e_86 =>
   jp (S := Int × (List (Str × api_Had))) (fun s => match s with
    | (e_89, m0_90) =>
     bif !decide (e_89 = 0) then
      some e_89
     else
     nx_79 m0_90) fun k_91 =>
   callG (decide (e_86 = 0)) (R_could_i1 r_82 m0_64) (false, m0_64) fun r_92 =>
   bif ((decide (e_86 = 0)) && (!r_92.1)) then
    k_91 (12, r_92.2)
   else
   k_91 (e_86, r_92.2)) fun k_87 =>
  chk (((decide (r_83 = 0)) && (decide (0 < (i_80 : Int)))) = true → (0 ≤ IntKind.i64.wrap ((i_80 : Int) - 1) ∧ IntKind.i64.wrap ((i_80 : Int) - 1) < (l_1.length : Int))) <|
  bif (((decide (r_83 = 0)) && (decide (0 < (i_80 : Int)))) && (decide (r_82.Time < ((l_1.getD ((IntKind.i64.wrap ((i_80 : Int) - 1)).toNat) (api_Record.mk 0 0 [] (api_Version.mk 0 0 0 []) (api_Version.mk 0 0 0 []) 0 [])).Time)))) then
   k_87 7
  else
  k_87 r_83) [] (fun m0_64 =>
  k_48 ())
noncomputable def log_outside (n_1 : Int) (low_2 : Int) (high_3 : Int) : Option Bool :=
 some ((decide (n_1 < low_2)) || (decide (high_3 < n_1)))
noncomputable def ver_outside (n_1 : Int) (low_2 : Int) (high_3 : Int) : Option Bool :=
 some ((decide (n_1 < low_2)) || (decide (high_3 < n_1)))
noncomputable def ver_isEarly_1 (c_1 : Int) : Option Bool :=
 call (ver_isSmall c_1) fun r_2 =>
 callG (!r_2) (ver_isDigit c_1) false fun r_3 =>
 some (r_2 || r_3)
noncomputable def ver_each_i2 (s_1 : Str) (most_2 : Int) : Option Bool :=
 jp (S := Unit) (fun _ =>
  some ((!decide (s_1 = [])) && (decide ((s_1.length : Int) ≤ most_2)))) fun k_12 =>
 forL s_1 0 (fun i_18 c_20 s nx_17 k_16 =>
  call (ver_isEarly_1 (c_20.toNat : Int)) fun r_21 =>
  bif !r_21 then
   some false
  else
  nx_17 ()) () (fun _ =>
  k_12 ())
noncomputable def ver_each_i3 (s_1 : Str) (most_2 : Int) : Option Bool :=
 jp (S := Unit) (fun _ =>
  some ((!decide (s_1 = [])) && (decide ((s_1.length : Int) ≤ most_2)))) fun k_12 =>
 forL s_1 0 (fun i_18 c_20 s nx_17 k_16 =>
  call (ver_isDigit (c_20.toNat : Int)) fun r_21 =>
  bif !r_21 then
   some false
  else
  nx_17 ()) () (fun _ =>
  k_12 ())
noncomputable def ver_isNumeral (s_1 : Str) : Option Bool :=
 call (ver_each_i3 s_1 10) fun r_2 =>
 some r_2
noncomputable def ver_isEarly (s_1 : Str) : Option Bool :=
 jp (S := Unit) (fun _ =>
  some (decide ((s_1.length : Int) ≤ 40))) fun k_16 =>
 call (strings_Split s_1 ([46] : Str)) fun r_17 =>
 forL r_17 0 (fun i_25 s_27 s nx_24 k_23 =>
  call (ver_each_i2 s_27 10) fun r_28 =>
  callG (!(!r_28)) (ver_isNumeral s_27) false fun r_29 =>
  chk (((!(!r_28)) && r_29) = true → (0 ≤ 0 ∧ 0 < (s_27.length : Int))) <|
  bif ((!r_28) || ((r_29 && (decide (((s_27.getD 0 0).toNat : Int) = 48))) && (!decide (s_27 = ([48] : Str))))) then
   some false
  else
  nx_24 ()) () (fun _ =>
  k_16 ())
noncomputable def ver_Check (v_1 : api_Version) : Option Int :=
 jp (S := Unit) (fun _ =>
  callG (!decide (v_1.Early = [])) (ver_isEarly v_1.Early) false fun r_18 =>
  bif ((!decide (v_1.Early = [])) && (!r_18)) then
   some 2
  else
  some 0) fun k_17 =>
 call (ver_outside v_1.Major 0 999999) fun r_31 =>
 bif r_31 then
  some 3
 else
 call (ver_outside v_1.Minor 0 999999) fun r_32 =>
 bif r_32 then
  some 3
 else
 call (ver_outside v_1.Patch 0 999999) fun r_33 =>
 bif r_33 then
  some 3
 else
 k_17 ()
noncomputable def log_uses (kind_1 : Int) : Option (Bool × Bool) :=
 jp (S := Bool) (fun t5_2 =>
  bif t5_2 then
   some (true, true)
  else
  bif decide (kind_1 = 4) then
   some (true, false)
  else
  some (false, true)) fun k_3 =>
 bif decide (kind_1 = 2) then
  k_3 (decide (kind_1 = 2))
 else
 k_3 (decide (kind_1 = 3))
noncomputable def ver_compareWords (a_1 : Str) (b_2 : Str) : Option Int :=
 call (ver_isNumeral a_1) fun r_3 =>
 call (ver_isNumeral b_2) fun r_4 =>
 jp (S := Unit) (fun _ =>
  call (strings_Compare a_1 b_2) fun r_7 =>
  some r_7) fun k_6 =>
 bif (r_3 && r_4) then
  bif !decide ((a_1.length : Int) = (b_2.length : Int)) then
   call (cmp_Compare_int (a_1.length : Int) (b_2.length : Int)) fun r_8 =>
   some r_8
  else
  k_6 ()
 else
 bif r_3 then
  some (-1)
 else
 bif r_4 then
  some 1
 else
 k_6 ()
noncomputable def ver_compareEarly (a_1 : Str) (b_2 : Str) : Option Int :=
 bif decide (a_1 = b_2) then
  some 0
 else
 bif decide (a_1 = []) then
  some 1
 else
 bif decide (b_2 = []) then
  some (-1)
 else
 call (strings_Split a_1 ([46] : Str)) fun r_3 =>
 call (strings_Split b_2 ([46] : Str)) fun r_4 =>
 jp (S := Unit) (fun _ =>
  call (cmp_Compare_int (r_3.length : Int) (r_4.length : Int)) fun r_15 =>
  some r_15) fun k_14 =>
 loopN Fuel (fun t28_16 nx_21 k_20 =>
  bif decide (t28_16 < (min (r_3.length : Int) (r_4.length : Int))) then
   idx r_3 t28_16 fun s_22 =>
   idx r_4 t28_16 fun s_23 =>
   call (ver_compareWords s_22 s_23) fun r_24 =>
   bif !decide (r_24 = 0) then
    some r_24
   else
   nx_21 (IntKind.i64.wrap (t28_16 + 1))
  else
  k_20 t28_16) 0 (fun t28_16 =>
  k_14 ())
noncomputable def ver_Order (a_1 : api_Version) (b_2 : api_Version) : Option Int :=
 call (cmp_Compare_int a_1.Major b_2.Major) fun r_3 =>
 call (cmp_Compare_int a_1.Minor b_2.Minor) fun r_4 =>
 call (cmp_Compare_int a_1.Patch b_2.Patch) fun r_5 =>
 call (ver_compareEarly a_1.Early b_2.Early) fun r_6 =>
 call (cmp_Or_int [r_3, r_4, r_5, r_6]) fun r_7 =>
 some r_7
noncomputable def ver_IsValue_1 (c_1 : Int) : Option Bool :=
 some ((decide (32 ≤ c_1)) && (decide (c_1 ≤ 126)))
noncomputable def ver_each_i4 (s_1 : Str) (most_2 : Int) : Option Bool :=
 jp (S := Unit) (fun _ =>
  some ((!decide (s_1 = [])) && (decide ((s_1.length : Int) ≤ most_2)))) fun k_12 =>
 forL s_1 0 (fun i_18 c_20 s nx_17 k_16 =>
  call (ver_IsValue_1 (c_20.toNat : Int)) fun r_21 =>
  bif !r_21 then
   some false
  else
  nx_17 ()) () (fun _ =>
  k_12 ())
noncomputable def ver_IsValue (s_1 : Str) : Option Bool :=
 callG (!(decide (s_1 = []))) (ver_each_i4 s_1 1000) false fun r_2 =>
 some ((decide (s_1 = [])) || r_2)
noncomputable def log_CheckRecord (r_1 : api_Record) : Option Int :=
 call (log_outside r_1.Time 0 1099511627776) fun r_2 =>
 bif r_2 then
  some 3
 else
 call (log_outside r_1.Kind 1 6) fun r_3 =>
 bif r_3 then
  some 1
 else
 call (ver_IsName r_1.Pack) fun r_4 =>
 bif !r_4 then
  some 5
 else
 jp (S := Unit) (fun _ =>
  call (log_uses r_1.Kind) fun r_20 =>
  bif ((!decide (r_20.1 = (!((decide (r_1.From.Major = 0)) && ((decide (r_1.From.Minor = 0)) && ((decide (r_1.From.Patch = 0)) && (decide (r_1.From.Early = [])))))))) || ((!decide (r_20.2 = (!((decide (r_1.To.Major = 0)) && ((decide (r_1.To.Minor = 0)) && ((decide (r_1.To.Patch = 0)) && (decide (r_1.To.Early = [])))))))) && (!decide (r_1.Kind = 6)))) then
   some 2
  else
  call (ver_Order r_1.From r_1.To) fun r_21 =>
  bif (((decide (r_1.Kind = 2)) && (decide (0 ≤ r_21))) || ((decide (r_1.Kind = 3)) && (decide (r_21 ≤ 0)))) then
   some 11
  else
  call (log_outside r_1.Result 0 18) fun r_22 =>
  bif r_22 then
   some 3
  else
  call (ver_IsValue r_1.Note) fun r_23 =>
  bif !r_23 then
   some 2
  else
  some 0) fun k_19 =>
 call (ver_Check r_1.From) fun r_36 =>
 bif !decide (r_36 = 0) then
  some r_36
 else
 call (ver_Check r_1.To) fun r_37 =>
 bif !decide (r_37 = 0) then
  some r_37
 else
 k_19 ()
noncomputable def log_table_fault_i1 (r_1 : api_Record) (o0_1_2 : Int) (m1_3 : List (Str × log_had)) : Option Int :=
 bif decide (r_1.Time < o0_1_2) then
  some 7
 else
 letv (alook m1_3 r_1.Pack) fun q_12 =>
 jp (S := Bool) (fun bad_16 =>
  bif bad_16 then
   some 12
  else
  some 0) fun k_17 =>
 bif decide (r_1.Kind = 1) then
  k_17 q_12.isSome
 else
 jp (S := Bool) (fun t30_18 =>
  bif t30_18 then
   k_17 ((!q_12.isSome) || (!((decide ((((q_12.getD (log_had.mk (api_Version.mk 0 0 0 []) 0)).v).Major) = r_1.From.Major)) && ((decide ((((q_12.getD (log_had.mk (api_Version.mk 0 0 0 []) 0)).v).Minor) = r_1.From.Minor)) && ((decide ((((q_12.getD (log_had.mk (api_Version.mk 0 0 0 []) 0)).v).Patch) = r_1.From.Patch)) && (decide ((((q_12.getD (log_had.mk (api_Version.mk 0 0 0 []) 0)).v).Early) = r_1.From.Early)))))))
  else
  bif decide (r_1.Kind = 5) then
   k_17 ((!q_12.isSome) || (!((decide ((((q_12.getD (log_had.mk (api_Version.mk 0 0 0 []) 0)).v).Major) = r_1.To.Major)) && ((decide ((((q_12.getD (log_had.mk (api_Version.mk 0 0 0 []) 0)).v).Minor) = r_1.To.Minor)) && ((decide ((((q_12.getD (log_had.mk (api_Version.mk 0 0 0 []) 0)).v).Patch) = r_1.To.Patch)) && (decide ((((q_12.getD (log_had.mk (api_Version.mk 0 0 0 []) 0)).v).Early) = r_1.To.Early)))))))
  else
  k_17 false) fun k_19 =>
 bif decide (r_1.Kind = 2) then
  k_19 (decide (r_1.Kind = 2))
 else
 bif decide (r_1.Kind = 3) then
  k_19 (decide (r_1.Kind = 3))
 else
 k_19 (decide (r_1.Kind = 4))
noncomputable def strconv_Itoa (n : Int) : Option Str := chk (-9223372036854775808 ≤ n ∧ n ≤ 9223372036854775807) <| some (Go.Lib.itoa n)
noncomputable def log_kindWords  : Option (List Str) :=
 some [[], ([105, 110, 115, 116, 97, 108, 108] : Str), ([117, 112, 100, 97, 116, 101] : Str), ([98, 97, 99, 107] : Str), ([114, 101, 109, 111, 118, 101] : Str), ([114, 101, 112, 97, 105, 114] : Str), ([99, 104, 101, 99, 107] : Str)]
noncomputable def ver_text (v_1 : api_Version) : Option Str :=
 call (strconv_Itoa v_1.Major) fun r_2 =>
 chk ((r_2 ++ ([46] : Str)).length ≤ 274877906944) <|
 call (strconv_Itoa v_1.Minor) fun r_4 =>
 chk (((r_2 ++ ([46] : Str)) ++ r_4).length ≤ 274877906944) <|
 chk ((((r_2 ++ ([46] : Str)) ++ r_4) ++ ([46] : Str)).length ≤ 274877906944) <|
 call (strconv_Itoa v_1.Patch) fun r_7 =>
 chk (((((r_2 ++ ([46] : Str)) ++ r_4) ++ ([46] : Str)) ++ r_7).length ≤ 274877906944) <|
 bif !decide (v_1.Early = []) then
  chk ((([45] : Str) ++ v_1.Early).length ≤ 274877906944) <|
  chk ((((((r_2 ++ ([46] : Str)) ++ r_4) ++ ([46] : Str)) ++ r_7) ++ (([45] : Str) ++ v_1.Early)).length ≤ 274877906944) <|
  some (((((r_2 ++ ([46] : Str)) ++ r_4) ++ ([46] : Str)) ++ r_7) ++ (([45] : Str) ++ v_1.Early))
 else
 some ((((r_2 ++ ([46] : Str)) ++ r_4) ++ ([46] : Str)) ++ r_7)
noncomputable def ver_Print (v_1 : api_Version) : Option (Str × Int) :=
 call (ver_Check v_1) fun r_2 =>
 bif !decide (r_2 = 0) then
  some ([], r_2)
 else
 call (ver_text v_1) fun r_3 =>
 some (r_3, 0)
noncomputable def log_versionText (v_1 : api_Version) : Option Str :=
 bif ((decide (v_1.Major = 0)) && ((decide (v_1.Minor = 0)) && ((decide (v_1.Patch = 0)) && (decide (v_1.Early = []))))) then
  some ([45] : Str)
 else
 call (ver_Print v_1) fun r_2 =>
 some r_2.1
noncomputable def disk_Quote (s_1 : Str) : Option Str :=
 chk (0 ≤ 0 ∧ 0 ≤ IntKind.i64.wrap ((s_1.length : Int) + 2) ∧ IntKind.i64.wrap ((s_1.length : Int) + 2) ≤ 274877906944) <|
 chk (((List.replicate 0 0) ++ [34]).length ≤ 274877906944) <|
 jp (S := List Int) (fun o0_32 =>
  chk ((o0_32 ++ [34]).length ≤ 274877906944) <|
  some (Go.Vc.strOf (o0_32 ++ [34]))) fun k_33 =>
 forL s_1 0 (fun i_54 c_56 o0_44 nx_53 k_52 =>
  bif ((decide ((c_56.toNat : Int) = 92)) || (decide ((c_56.toNat : Int) = 34))) then
   chk ((o0_44 ++ [92, (c_56.toNat : Int)]).length ≤ 274877906944) <|
   nx_53 (o0_44 ++ [92, (c_56.toNat : Int)])
  else
  bif decide ((c_56.toNat : Int) = 10) then
   chk ((o0_44 ++ [92, 110]).length ≤ 274877906944) <|
   nx_53 (o0_44 ++ [92, 110])
  else
  bif ((decide ((c_56.toNat : Int) < 32)) || (decide (126 < (c_56.toNat : Int)))) then
   idxS ([48, 49, 50, 51, 52, 53, 54, 55, 56, 57, 97, 98, 99, 100, 101, 102] : Str) (Int.fdiv (c_56.toNat : Int) (2 ^ (shI .u8 4))) fun c_59 =>
   idxS ([48, 49, 50, 51, 52, 53, 54, 55, 56, 57, 97, 98, 99, 100, 101, 102] : Str) (bitsI .and .u8 (c_56.toNat : Int) 15) fun c_60 =>
   chk ((o0_44 ++ [92, 120, c_59, c_60]).length ≤ 274877906944) <|
   nx_53 (o0_44 ++ [92, 120, c_59, c_60])
  else
  chk ((o0_44 ++ [(c_56.toNat : Int)]).length ≤ 274877906944) <|
  nx_53 (o0_44 ++ [(c_56.toNat : Int)])) ((List.replicate 0 0) ++ [34]) (fun o0_44 =>
  k_33 o0_44)
noncomputable def strings_Builder_Grow (n : Int) (o0 : Str) : Option Unit := chk (0 ≤ n ∧ n ≤ 274877906944) <| some ()
noncomputable def strings_Builder_copyCheck_i1 (o1_1 : Str) : Option Unit :=
 some ()
noncomputable def strings_Builder_copyCheck_i2 (o1_1 : Str) : Option Unit :=
 some ()
noncomputable def strings_Builder_copyCheck_np (o0 : Str) : Option Unit := some ()
noncomputable def strings_Builder_WriteString_i1 (s_1 : Str) (o1_2 : Str) : Option (Int × Str) :=
 call (strings_Builder_copyCheck_np o1_2) fun r_5 =>
 chk ((o1_2 ++ s_1).length ≤ 274877906944) <|
 some ((s_1.length : Int), o1_2 ++ s_1)
noncomputable def strings_Builder_String_i1 (o1_1 : Str) : Option Str :=
 some o1_1
noncomputable def strings_Join (elems_1 : List Str) (sep_2 : Str) : Option Str :=
 bif decide ((elems_1.length : Int) = 0) then
  some []
 else
 bif decide ((elems_1.length : Int) = 1) then
  idx elems_1 0 fun s_3 =>
  some s_3
 else
 jp (S := Int) (fun n_5 =>
  jp (S := Int) (fun n_15 =>
   call (strings_Builder_Grow n_15 []) fun r_17 =>
   idx elems_1 0 fun s_18 =>
   call (strings_Builder_WriteString_i1 s_18 []) fun r_19 =>
   jp (S := Str) (fun o1_37 =>
    call (strings_Builder_String_i1 o1_37) fun r_39 =>
    some r_39) fun k_38 =>
   chk (0 ≤ 1 ∧ 1 ≤ (elems_1.length : Int)) <|
   forL (List.drop 1 elems_1) 0 (fun i_52 s_54 o1_46 nx_51 k_50 =>
    call (strings_Builder_WriteString_i1 sep_2 o1_46) fun r_55 =>
    call (strings_Builder_WriteString_i1 s_54 r_55.2) fun r_56 =>
    nx_51 r_56.2) r_19.2 (fun o1_46 =>
    k_38 o1_46)) fun k_16 =>
  forL elems_1 0 (fun i_62 s_64 n_57 nx_61 k_60 =>
   bif decide ((IntKind.i64.wrap (9223372036854775807 - n_57)) < (s_64.length : Int)) then
    none
   else
   nx_61 (IntKind.i64.wrap (n_57 + (s_64.length : Int)))) n_5 (fun n_57 =>
   k_16 n_57)) fun k_6 =>
 bif decide (0 < (sep_2.length : Int)) then
  chk (¬ (IntKind.i64.wrap ((elems_1.length : Int) - 1)) = 0) <|
  bif decide ((IntKind.i64.wrap (Int.tdiv 9223372036854775807 (IntKind.i64.wrap ((elems_1.length : Int) - 1)))) ≤ (sep_2.length : Int)) then
   none
  else
  k_6 (IntKind.i64.wrap (0 + (IntKind.i64.wrap ((sep_2.length : Int) * (IntKind.i64.wrap ((elems_1.length : Int) - 1))))))
 else
 k_6 0
noncomputable def log_recordText (r_1 : api_Record) : Option Str :=
 call (strconv_Itoa r_1.Time) fun r_4 =>
 call (log_kindWords) fun r_5 =>
 idx r_5 r_1.Kind fun s_6 =>
 call (log_versionText r_1.From) fun r_7 =>
 call (log_versionText r_1.To) fun r_8 =>
 call (strconv_Itoa r_1.Result) fun r_9 =>
 call (disk_Quote r_1.Note) fun r_10 =>
 call (strings_Join [r_4, s_6, r_1.Pack, r_7, r_8, r_9, r_10] ([32] : Str)) fun r_11 =>
 some r_11
noncomputable def disk_SumOf (text_1 : Str) : Option Str :=
 jp (S := Int) (fun n_10 =>
  jp (S := List Int) (fun o0_26 =>
   some (Go.Vc.strOf o0_26)) fun k_27 =>
  loopN Fuel (fun s nx_38 k_37 =>
   match s with
   | (t23_32, o0_33) =>
    bif decide (t23_32 < ((List.replicate 16 0).length : Int)) then
     chk (0 ≤ (IntKind.i64.wrap (60 - (IntKind.i64.wrap (4 * t23_32))))) <|
     idxS ([48, 49, 50, 51, 52, 53, 54, 55, 56, 57, 97, 98, 99, 100, 101, 102] : Str) (bitsI .and .u64 (Int.fdiv n_10 (2 ^ (shI .u64 (IntKind.i64.wrap (60 - (IntKind.i64.wrap (4 * t23_32))))))) 15) fun c_40 =>
     chk (0 ≤ t23_32 ∧ t23_32 < (o0_33.length : Int)) <|
     nx_38 (IntKind.i64.wrap (t23_32 + 1), List.set o0_33 t23_32.toNat c_40)
    else
    k_37 (t23_32, o0_33)) (0, List.replicate 16 0) (fun s => match s with
   | (t23_32, o0_33) =>
    k_27 o0_33)) fun k_11 =>
 forL text_1 0 (fun i_47 c_49 n_42 nx_46 k_45 =>
  nx_46 (IntKind.u64.wrap ((bitsI .xor .u64 n_42 (IntKind.u64.wrap (c_49.toNat : Int))) * 1099511628211))) 14695981039346656037 (fun n_42 =>
  k_11 n_42)
noncomputable def log_table_add_i1 (r_1 : api_Record) (o0_1_2 : Int) (m1_3 : List (Str × log_had)) : Option (Int × (List (Str × log_had))) :=
 bif !decide (r_1.Result = 0) then
  some (r_1.Time, m1_3)
 else
 jp (S := Bool) (fun t14_9 =>
  bif t14_9 then
   chk ((aset m1_3 r_1.Pack (log_had.mk r_1.To r_1.Time)).length ≤ 274877906944) <|
   some (r_1.Time, aset m1_3 r_1.Pack (log_had.mk r_1.To r_1.Time))
  else
  bif decide (r_1.Kind = 4) then
   some (r_1.Time, adel m1_3 r_1.Pack)
  else
  some (r_1.Time, m1_3)) fun k_10 =>
 bif decide (r_1.Kind = 1) then
  k_10 (decide (r_1.Kind = 1))
 else
 bif decide (r_1.Kind = 2) then
  k_10 (decide (r_1.Kind = 2))
 else
 k_10 (decide (r_1.Kind = 3))
noncomputable def log_Log_Add_i1 (r_1 : api_Record) (o0_2_2 : Str) (o1_3 : List api_Record) (o2_4 : List Str) (o3_1_5 : Int) (m4_6 : List (Str × log_had)) : Option (Int × Str × List api_Record × List Str × Int × (List (Str × log_had))) :=
 call (log_CheckRecord r_1) fun r_20 =>
 bif !decide (r_20 = 0) then
  some (r_20, o0_2_2, o1_3, o2_4, o3_1_5, m4_6)
 else
 call (log_table_fault_i1 r_1 o3_1_5 m4_6) fun r_21 =>
 bif decide (r_21 = 7) then
  some (r_21, o0_2_2, o1_3, o2_4, o3_1_5, m4_6)
 else
 bif decide (5000 ≤ (o1_3.length : Int)) then
  some (15, o0_2_2, o1_3, o2_4, o3_1_5, m4_6)
 else
 bif !decide (r_21 = 0) then
  some (r_21, o0_2_2, o1_3, o2_4, o3_1_5, m4_6)
 else
 call (log_recordText r_1) fun r_22 =>
 chk ((o0_2_2 ++ r_22).length ≤ 274877906944) <|
 call (disk_SumOf (o0_2_2 ++ r_22)) fun r_24 =>
 chk ((o1_3 ++ [r_1]).length ≤ 274877906944) <|
 chk ((r_22 ++ ([32] : Str)).length ≤ 274877906944) <|
 chk (((r_22 ++ ([32] : Str)) ++ r_24).length ≤ 274877906944) <|
 chk ((((r_22 ++ ([32] : Str)) ++ r_24) ++ ([10] : Str)).length ≤ 274877906944) <|
 chk ((o2_4 ++ [((r_22 ++ ([32] : Str)) ++ r_24) ++ ([10] : Str)]).length ≤ 274877906944) <|
 call (log_table_add_i1 r_1 o3_1_5 m4_6) fun r_30 =>
 some (0, r_24, o1_3 ++ [r_1], o2_4 ++ [((r_22 ++ ([32] : Str)) ++ r_24) ++ ([10] : Str)], r_30.1, r_30.2)
noncomputable def R_recordWords  : Option (List Str) :=
 some [[], ([105, 110, 115, 116, 97, 108, 108] : Str), ([117, 112, 100, 97, 116, 101] : Str), ([98, 97, 99, 107] : Str), ([114, 101, 109, 111, 118, 101] : Str), ([114, 101, 112, 97, 105, 114] : Str), ([99, 104, 101, 99, 107] : Str)]
noncomputable def R_VersionText (v_1 : api_Version) : Option Str :=
 call (strconv_Itoa v_1.Major) fun r_2 =>
 chk ((r_2 ++ ([46] : Str)).length ≤ 274877906944) <|
 call (strconv_Itoa v_1.Minor) fun r_4 =>
 chk (((r_2 ++ ([46] : Str)) ++ r_4).length ≤ 274877906944) <|
 chk ((((r_2 ++ ([46] : Str)) ++ r_4) ++ ([46] : Str)).length ≤ 274877906944) <|
 call (strconv_Itoa v_1.Patch) fun r_7 =>
 chk (((((r_2 ++ ([46] : Str)) ++ r_4) ++ ([46] : Str)) ++ r_7).length ≤ 274877906944) <|
 bif !decide (v_1.Early = []) then
  chk ((([45] : Str) ++ v_1.Early).length ≤ 274877906944) <|
  chk ((((((r_2 ++ ([46] : Str)) ++ r_4) ++ ([46] : Str)) ++ r_7) ++ (([45] : Str) ++ v_1.Early)).length ≤ 274877906944) <|
  some (((((r_2 ++ ([46] : Str)) ++ r_4) ++ ([46] : Str)) ++ r_7) ++ (([45] : Str) ++ v_1.Early))
 else
 some ((((r_2 ++ ([46] : Str)) ++ r_4) ++ ([46] : Str)) ++ r_7)
noncomputable def R_RecordText_1 (v_1 : api_Version) : Option Str :=
 bif ((decide (v_1.Major = 0)) && ((decide (v_1.Minor = 0)) && ((decide (v_1.Patch = 0)) && (decide (v_1.Early = []))))) then
  some ([45] : Str)
 else
 call (R_VersionText v_1) fun r_2 =>
 some r_2
noncomputable def R_Quote (s_1 : Str) : Option Str :=
 jp (S := Str) (fun out_32 =>
  chk ((out_32 ++ ([34] : Str)).length ≤ 274877906944) <|
  some (out_32 ++ ([34] : Str))) fun k_33 =>
 forL s_1 0 (fun i_51 c_53 out_35 nx_50 k_49 =>
  bif ((decide ((c_53.toNat : Int) = 34)) || (decide ((c_53.toNat : Int) = 92))) then
   chk (0 ≤ (i_51 : Int) ∧ (i_51 : Int) ≤ (s_1.length : Int) ∧ 0 ≤ IntKind.i64.wrap ((i_51 : Int) + 1) ∧ IntKind.i64.wrap ((i_51 : Int) + 1) ≤ (s_1.length : Int) ∧ (i_51 : Int) ≤ IntKind.i64.wrap ((i_51 : Int) + 1)) <|
   chk ((([92] : Str) ++ (List.take ((IntKind.i64.wrap ((i_51 : Int) + 1)).toNat - i_51) (List.drop i_51 s_1))).length ≤ 274877906944) <|
   chk ((out_35 ++ (([92] : Str) ++ (List.take ((IntKind.i64.wrap ((i_51 : Int) + 1)).toNat - i_51) (List.drop i_51 s_1)))).length ≤ 274877906944) <|
   nx_50 (out_35 ++ (([92] : Str) ++ (List.take ((IntKind.i64.wrap ((i_51 : Int) + 1)).toNat - i_51) (List.drop i_51 s_1))))
  else
  bif decide ((c_53.toNat : Int) = 10) then
   chk ((out_35 ++ ([92, 110] : Str)).length ≤ 274877906944) <|
   nx_50 (out_35 ++ ([92, 110] : Str))
  else
  bif ((decide ((c_53.toNat : Int) < 32)) || (decide (126 < (c_53.toNat : Int)))) then
   chk (0 ≤ Int.fdiv (c_53.toNat : Int) (2 ^ (shI .u8 4)) ∧ Int.fdiv (c_53.toNat : Int) (2 ^ (shI .u8 4)) ≤ (([48, 49, 50, 51, 52, 53, 54, 55, 56, 57, 97, 98, 99, 100, 101, 102] : Str).length : Int) ∧ 0 ≤ IntKind.u8.wrap ((Int.fdiv (c_53.toNat : Int) (2 ^ (shI .u8 4))) + 1) ∧ IntKind.u8.wrap ((Int.fdiv (c_53.toNat : Int) (2 ^ (shI .u8 4))) + 1) ≤ (([48, 49, 50, 51, 52, 53, 54, 55, 56, 57, 97, 98, 99, 100, 101, 102] : Str).length : Int) ∧ Int.fdiv (c_53.toNat : Int) (2 ^ (shI .u8 4)) ≤ IntKind.u8.wrap ((Int.fdiv (c_53.toNat : Int) (2 ^ (shI .u8 4))) + 1)) <|
   chk ((([92, 120] : Str) ++ (List.take ((IntKind.u8.wrap ((Int.fdiv (c_53.toNat : Int) (2 ^ (shI .u8 4))) + 1)).toNat - (Int.fdiv (c_53.toNat : Int) (2 ^ (shI .u8 4))).toNat) (List.drop ((Int.fdiv (c_53.toNat : Int) (2 ^ (shI .u8 4))).toNat) ([48, 49, 50, 51, 52, 53, 54, 55, 56, 57, 97, 98, 99, 100, 101, 102] : Str)))).length ≤ 274877906944) <|
   chk (0 ≤ bitsI .and .u8 (c_53.toNat : Int) 15 ∧ bitsI .and .u8 (c_53.toNat : Int) 15 ≤ (([48, 49, 50, 51, 52, 53, 54, 55, 56, 57, 97, 98, 99, 100, 101, 102] : Str).length : Int) ∧ 0 ≤ IntKind.u8.wrap ((bitsI .and .u8 (c_53.toNat : Int) 15) + 1) ∧ IntKind.u8.wrap ((bitsI .and .u8 (c_53.toNat : Int) 15) + 1) ≤ (([48, 49, 50, 51, 52, 53, 54, 55, 56, 57, 97, 98, 99, 100, 101, 102] : Str).length : Int) ∧ bitsI .and .u8 (c_53.toNat : Int) 15 ≤ IntKind.u8.wrap ((bitsI .and .u8 (c_53.toNat : Int) 15) + 1)) <|
   chk (((([92, 120] : Str) ++ (List.take ((IntKind.u8.wrap ((Int.fdiv (c_53.toNat : Int) (2 ^ (shI .u8 4))) + 1)).toNat - (Int.fdiv (c_53.toNat : Int) (2 ^ (shI .u8 4))).toNat) (List.drop ((Int.fdiv (c_53.toNat : Int) (2 ^ (shI .u8 4))).toNat) ([48, 49, 50, 51, 52, 53, 54, 55, 56, 57, 97, 98, 99, 100, 101, 102] : Str)))) ++ (List.take ((IntKind.u8.wrap ((bitsI .and .u8 (c_53.toNat : Int) 15) + 1)).toNat - (bitsI .and .u8 (c_53.toNat : Int) 15).toNat) (List.drop ((bitsI .and .u8 (c_53.toNat : Int) 15).toNat) ([48, 49, 50, 51, 52, 53, 54, 55, 56, 57, 97, 98, 99, 100, 101, 102] : Str)))).length ≤ 274877906944) <|
   chk ((out_35 ++ ((([92, 120] : Str) ++ (List.take ((IntKind.u8.wrap ((Int.fdiv (c_53.toNat : Int) (2 ^ (shI .u8 4))) + 1)).toNat - (Int.fdiv (c_53.toNat : Int) (2 ^ (shI .u8 4))).toNat) (List.drop ((Int.fdiv (c_53.toNat : Int) (2 ^ (shI .u8 4))).toNat) ([48, 49, 50, 51, 52, 53, 54, 55, 56, 57, 97, 98, 99, 100, 101, 102] : Str)))) ++ (List.take ((IntKind.u8.wrap ((bitsI .and .u8 (c_53.toNat : Int) 15) + 1)).toNat - (bitsI .and .u8 (c_53.toNat : Int) 15).toNat) (List.drop ((bitsI .and .u8 (c_53.toNat : Int) 15).toNat) ([48, 49, 50, 51, 52, 53, 54, 55, 56, 57, 97, 98, 99, 100, 101, 102] : Str))))).length ≤ 274877906944) <|
   nx_50 (out_35 ++ ((([92, 120] : Str) ++ (List.take ((IntKind.u8.wrap ((Int.fdiv (c_53.toNat : Int) (2 ^ (shI .u8 4))) + 1)).toNat - (Int.fdiv (c_53.toNat : Int) (2 ^ (shI .u8 4))).toNat) (List.drop ((Int.fdiv (c_53.toNat : Int) (2 ^ (shI .u8 4))).toNat) ([48, 49, 50, 51, 52, 53, 54, 55, 56, 57, 97, 98, 99, 100, 101, 102] : Str)))) ++ (List.take ((IntKind.u8.wrap ((bitsI .and .u8 (c_53.toNat : Int) 15) + 1)).toNat - (bitsI .and .u8 (c_53.toNat : Int) 15).toNat) (List.drop ((bitsI .and .u8 (c_53.toNat : Int) 15).toNat) ([48, 49, 50, 51, 52, 53, 54, 55, 56, 57, 97, 98, 99, 100, 101, 102] : Str)))))
  else
  chk (0 ≤ (i_51 : Int) ∧ (i_51 : Int) ≤ (s_1.length : Int) ∧ 0 ≤ IntKind.i64.wrap ((i_51 : Int) + 1) ∧ IntKind.i64.wrap ((i_51 : Int) + 1) ≤ (s_1.length : Int) ∧ (i_51 : Int) ≤ IntKind.i64.wrap ((i_51 : Int) + 1)) <|
  chk ((out_35 ++ (List.take ((IntKind.i64.wrap ((i_51 : Int) + 1)).toNat - i_51) (List.drop i_51 s_1))).length ≤ 274877906944) <|
  nx_50 (out_35 ++ (List.take ((IntKind.i64.wrap ((i_51 : Int) + 1)).toNat - i_51) (List.drop i_51 s_1)))) ([34] : Str) (fun out_35 =>
  k_33 out_35)
noncomputable def R_RecordText (r_1 : api_Record) : Option Str :=
 call (strconv_Itoa r_1.Time) fun r_4 =>
 call (R_recordWords) fun r_5 =>
 idx r_5 r_1.Kind fun s_6 =>
 call (R_RecordText_1 r_1.From) fun r_7 =>
 call (R_RecordText_1 r_1.To) fun r_8 =>
 call (strconv_Itoa r_1.Result) fun r_9 =>
 call (R_Quote r_1.Note) fun r_10 =>
 call (strings_Join [r_4, s_6, r_1.Pack, r_7, r_8, r_9, r_10] ([32] : Str)) fun r_11 =>
 some r_11
noncomputable def internal_strconv_isPowerOfTwo (x_1 : Int) : Option Bool :=
 some (decide ((bitsI .and .i64 x_1 (IntKind.i64.wrap (x_1 - 1))) = 0))
noncomputable def math_bits_TrailingZeros64 (x_1 : Int) : Option Int :=
 bif decide (x_1 = 0) then
  some 64
 else
 chk (0 ≤ Int.fdiv (IntKind.u64.wrap ((bitsI .and .u64 x_1 (IntKind.u64.wrap (-x_1))) * 285870213051353865)) (2 ^ (shI .u64 58)) ∧ Int.fdiv (IntKind.u64.wrap ((bitsI .and .u64 x_1 (IntKind.u64.wrap (-x_1))) * 285870213051353865)) (2 ^ (shI .u64 58)) < (64 : Int)) <|
 some (IntKind.i64.wrap (tabL_7.getD ((Int.fdiv (IntKind.u64.wrap ((bitsI .and .u64 x_1 (IntKind.u64.wrap (-x_1))) * 285870213051353865)) (2 ^ (shI .u64 58))).toNat) 0))
noncomputable def math_bits_TrailingZeros (x_1 : Int) : Option Int :=
 call (math_bits_TrailingZeros64 x_1) fun r_2 =>
 some r_2
noncomputable def internal_strconv_formatBits (dst_1 : List Int) (u_2 : Int) (base_3 : Int) (neg_4 : Bool) (append__5 : Bool) : Option (List Int × Str) :=
 jp (S := Unit) (fun _ =>
  jp (S := Int) (fun u_7 =>
   jp (S := Int × List Int) (fun s => match s with
    | (i_87, o0_88) =>
     jp (S := Int × List Int) (fun s => match s with
      | (i_91, o0_92) =>
       bif append__5 then
        chk (o0_92.length = 65 ∧ 0 ≤ i_91 ∧ i_91 ≤ (65 : Int)) <|
        none
       else
       chk (o0_92.length = 65 ∧ 0 ≤ i_91 ∧ i_91 ≤ (65 : Int)) <|
       some ([], Go.Vc.strOf (List.take (65 - i_91.toNat) (List.drop i_91.toNat o0_92)))) fun k_93 =>
     bif neg_4 then
      chk (0 ≤ IntKind.i64.wrap (i_87 - 1) ∧ IntKind.i64.wrap (i_87 - 1) < (65 : Int) ∧ 65 = o0_88.length) <|
      k_93 (IntKind.i64.wrap (i_87 - 1), List.set o0_88 ((IntKind.i64.wrap (i_87 - 1)).toNat) 45)
     else
     k_93 (i_87, o0_88)) fun k_89 =>
   call (internal_strconv_isPowerOfTwo base_3) fun r_97 =>
   bif r_97 then
    call (math_bits_TrailingZeros (IntKind.u64.wrap base_3)) fun r_98 =>
    jp (S := Int × Int × List Int) (fun s => match s with
     | (u_115, i_116, o0_117) =>
      idxS ([48, 49, 50, 51, 52, 53, 54, 55, 56, 57, 97, 98, 99, 100, 101, 102, 103, 104, 105, 106, 107, 108, 109, 110, 111, 112, 113, 114, 115, 116, 117, 118, 119, 120, 121, 122] : Str) u_115 fun c_119 =>
      chk (0 ≤ IntKind.i64.wrap (i_116 - 1) ∧ IntKind.i64.wrap (i_116 - 1) < (65 : Int) ∧ 65 = o0_117.length) <|
      k_89 (IntKind.i64.wrap (i_116 - 1), List.set o0_117 ((IntKind.i64.wrap (i_116 - 1)).toNat) c_119)) fun k_118 =>
    loopN Fuel (fun s nx_133 k_132 =>
     match s with
     | (u_126, i_127, o0_128) =>
      bif decide ((IntKind.u64.wrap base_3) ≤ u_126) then
       idxS ([48, 49, 50, 51, 52, 53, 54, 55, 56, 57, 97, 98, 99, 100, 101, 102, 103, 104, 105, 106, 107, 108, 109, 110, 111, 112, 113, 114, 115, 116, 117, 118, 119, 120, 121, 122] : Str) (bitsI .and .u64 u_126 (IntKind.u64.wrap ((IntKind.u64.wrap base_3) - 1))) fun c_134 =>
       chk (0 ≤ IntKind.i64.wrap (i_127 - 1) ∧ IntKind.i64.wrap (i_127 - 1) < (65 : Int) ∧ 65 = o0_128.length) <|
       chk (0 ≤ (IntKind.u64.wrap r_98)) <|
       nx_133 (Int.fdiv u_126 (2 ^ (shI .u64 (IntKind.u64.wrap r_98))), IntKind.i64.wrap (i_127 - 1), List.set o0_128 ((IntKind.i64.wrap (i_127 - 1)).toNat) c_134)
      else
      k_132 (u_126, i_127, o0_128)) (u_7, 65, List.replicate 65 0) (fun s => match s with
     | (u_126, i_127, o0_128) =>
      k_118 (u_126, i_127, o0_128))
   else
   jp (S := Int × Int × List Int) (fun s => match s with
    | (u_153, i_154, o0_155) =>
     idxS ([48, 49, 50, 51, 52, 53, 54, 55, 56, 57, 97, 98, 99, 100, 101, 102, 103, 104, 105, 106, 107, 108, 109, 110, 111, 112, 113, 114, 115, 116, 117, 118, 119, 120, 121, 122] : Str) u_153 fun c_157 =>
     chk (0 ≤ IntKind.i64.wrap (i_154 - 1) ∧ IntKind.i64.wrap (i_154 - 1) < (65 : Int) ∧ 65 = o0_155.length) <|
     k_89 (IntKind.i64.wrap (i_154 - 1), List.set o0_155 ((IntKind.i64.wrap (i_154 - 1)).toNat) c_157)) fun k_156 =>
   loopN Fuel (fun s nx_171 k_170 =>
    match s with
    | (u_164, i_165, o0_166) =>
     bif decide ((IntKind.u64.wrap base_3) ≤ u_164) then
      chk (¬ (IntKind.u64.wrap base_3) = 0) <|
      idxS ([48, 49, 50, 51, 52, 53, 54, 55, 56, 57, 97, 98, 99, 100, 101, 102, 103, 104, 105, 106, 107, 108, 109, 110, 111, 112, 113, 114, 115, 116, 117, 118, 119, 120, 121, 122] : Str) (IntKind.u64.wrap (u_164 - (IntKind.u64.wrap ((IntKind.u64.wrap (Int.tdiv u_164 (IntKind.u64.wrap base_3))) * (IntKind.u64.wrap base_3))))) fun c_173 =>
      chk (0 ≤ IntKind.i64.wrap (i_165 - 1) ∧ IntKind.i64.wrap (i_165 - 1) < (65 : Int) ∧ 65 = o0_166.length) <|
      nx_171 (IntKind.u64.wrap (Int.tdiv u_164 (IntKind.u64.wrap base_3)), IntKind.i64.wrap (i_165 - 1), List.set o0_166 ((IntKind.i64.wrap (i_165 - 1)).toNat) c_173)
     else
     k_170 (u_164, i_165, o0_166)) (u_7, 65, List.replicate 65 0) (fun s => match s with
    | (u_164, i_165, o0_166) =>
     k_156 (u_164, i_165, o0_166))) fun k_8 =>
  bif neg_4 then
   k_8 (IntKind.u64.wrap (-u_2))
  else
  k_8 u_2) fun k_6 =>
 bif (((decide (base_3 < 2)) || (decide (base_3 = 10))) || (decide (36 < base_3))) then
  none
 else
 k_6 ()
noncomputable def internal_strconv_FormatUint (i_1 : Int) (base_2 : Int) : Option Str :=
 bif decide (base_2 = 10) then
  bif decide (i_1 < 100) then
   none
  else
  none
 else
 call (internal_strconv_formatBits [] i_1 base_2 false false) fun r_3 =>
 some r_3.2
noncomputable def strconv_FormatUint (i_1 : Int) (base_2 : Int) : Option Str :=
 call (internal_strconv_FormatUint i_1 base_2) fun r_3 =>
 some r_3
noncomputable def math_bits_Mul64 (x_1 : Int) (y_2 : Int) : Option (Int × Int) :=
 some (IntKind.u64.wrap ((IntKind.u64.wrap ((IntKind.u64.wrap ((Int.fdiv x_1 (2 ^ (shI .u64 32))) * (Int.fdiv y_2 (2 ^ (shI .u64 32))))) + (Int.fdiv (IntKind.u64.wrap ((IntKind.u64.wrap ((Int.fdiv x_1 (2 ^ (shI .u64 32))) * (bitsI .and .u64 y_2 4294967295))) + (Int.fdiv (IntKind.u64.wrap ((bitsI .and .u64 x_1 4294967295) * (bitsI .and .u64 y_2 4294967295))) (2 ^ (shI .u64 32))))) (2 ^ (shI .u64 32))))) + (Int.fdiv (IntKind.u64.wrap ((bitsI .and .u64 (IntKind.u64.wrap ((IntKind.u64.wrap ((Int.fdiv x_1 (2 ^ (shI .u64 32))) * (bitsI .and .u64 y_2 4294967295))) + (Int.fdiv (IntKind.u64.wrap ((bitsI .and .u64 x_1 4294967295) * (bitsI .and .u64 y_2 4294967295))) (2 ^ (shI .u64 32))))) 4294967295) + (IntKind.u64.wrap ((bitsI .and .u64 x_1 4294967295) * (Int.fdiv y_2 (2 ^ (shI .u64 32))))))) (2 ^ (shI .u64 32)))), IntKind.u64.wrap (x_1 * y_2))
noncomputable def math_bits_Mul (x_1 : Int) (y_2 : Int) : Option (Int × Int) :=
 call (math_bits_Mul64 x_1 y_2) fun r_3 =>
 some (r_3.1, r_3.2)
noncomputable def internal_stringslite_HasPrefix (s_1 : Str) (prefix_2 : Str) : Option Bool :=
 chk ((decide ((prefix_2.length : Int) ≤ (s_1.length : Int))) = true → (0 ≤ (prefix_2.length : Int) ∧ (prefix_2.length : Int) ≤ (s_1.length : Int))) <|
 some ((decide ((prefix_2.length : Int) ≤ (s_1.length : Int))) && (decide ((List.take prefix_2.length s_1) = prefix_2)))
noncomputable def strings_HasPrefix (s_1 : Str) (prefix_2 : Str) : Option Bool :=
 call (internal_stringslite_HasPrefix s_1 prefix_2) fun r_3 =>
 some r_3
noncomputable def strings_Builder_Len_i1 (o1_1 : Str) : Option Int :=
 some (o1_1.length : Int)
noncomputable def strings_Repeat (s_1 : Str) (count_2 : Int) : Option Str :=
 bif decide (count_2 = 0) then
  some []
 else
 bif decide (count_2 = 1) then
  some s_1
 else
 jp (S := Unit) (fun _ =>
  call (math_bits_Mul (IntKind.u64.wrap (s_1.length : Int)) (IntKind.u64.wrap count_2)) fun r_4 =>
  jp (S := Unit) (fun _ =>
   bif decide ((s_1.length : Int) = 0) then
    some []
   else
   jp (S := Unit) (fun _ =>
    jp (S := Int) (fun chunkMax_21 =>
     call (strings_Builder_Grow (IntKind.i64.wrap r_4.2) []) fun r_23 =>
     call (strings_Builder_WriteString_i1 s_1 []) fun r_24 =>
     jp (S := Str) (fun o1_46 =>
      call (strings_Builder_String_i1 o1_46) fun r_48 =>
      some r_48) fun k_47 =>
     loopN Fuel (fun o1_55 nx_63 k_62 =>
      call (strings_Builder_Len_i1 o1_55) fun r_64 =>
      bif decide (r_64 < (IntKind.i64.wrap r_4.2)) then
       call (strings_Builder_Len_i1 o1_55) fun r_65 =>
       call (strings_Builder_Len_i1 o1_55) fun r_66 =>
       call (strings_Builder_String_i1 o1_55) fun r_67 =>
       chk (0 ≤ min (min (IntKind.i64.wrap ((IntKind.i64.wrap r_4.2) - r_65)) r_66) chunkMax_21 ∧ min (min (IntKind.i64.wrap ((IntKind.i64.wrap r_4.2) - r_65)) r_66) chunkMax_21 ≤ (r_67.length : Int)) <|
       call (strings_Builder_WriteString_i1 (List.take ((min (min (IntKind.i64.wrap ((IntKind.i64.wrap r_4.2) - r_65)) r_66) chunkMax_21).toNat) r_67) o1_55) fun r_69 =>
       nx_63 r_69.2
      else
      k_62 o1_55) r_24.2 (fun o1_55 =>
      k_47 o1_55)) fun k_22 =>
    bif decide (8192 < (IntKind.i64.wrap r_4.2)) then
     chk (¬ (s_1.length : Int) = 0) <|
     bif decide ((IntKind.i64.wrap ((IntKind.i64.wrap (Int.tdiv 8192 (s_1.length : Int))) * (s_1.length : Int))) = 0) then
      k_22 (s_1.length : Int)
     else
     k_22 (IntKind.i64.wrap ((IntKind.i64.wrap (Int.tdiv 8192 (s_1.length : Int))) * (s_1.length : Int)))
    else
    k_22 (IntKind.i64.wrap r_4.2)) fun k_19 =>
   idxS s_1 0 fun c_71 =>
   jp (S := Bool) (fun t43_72 =>
    bif t43_72 then
     callG (decide ((IntKind.i64.wrap r_4.2) ≤ 128)) (strings_HasPrefix ((List.append [32, 32, 32, 32, 32, 32, 32, 32, 32, 32, 32, 32, 32, 32, 32, 32, 32, 32, 32, 32, 32, 32, 32, 32, 32, 32, 32, 32, 32, 32, 32, 32, 32, 32, 32, 32, 32, 32, 32, 32, 32, 32, 32, 32, 32, 32, 32, 32, 32, 32, 32, 32, 32, 32, 32, 32, 32, 32, 32, 32, 32, 32, 32, 32] [32, 32, 32, 32, 32, 32, 32, 32, 32, 32, 32, 32, 32, 32, 32, 32, 32, 32, 32, 32, 32, 32, 32, 32, 32, 32, 32, 32, 32, 32, 32, 32, 32, 32, 32, 32, 32, 32, 32, 32, 32, 32, 32, 32, 32, 32, 32, 32, 32, 32, 32, 32, 32, 32, 32, 32, 32, 32, 32, 32, 32, 32, 32, 32]) : Str) s_1) false fun r_74 =>
     bif ((decide ((IntKind.i64.wrap r_4.2) ≤ 128)) && r_74) then
      chk (0 ≤ IntKind.i64.wrap r_4.2 ∧ IntKind.i64.wrap r_4.2 ≤ (((List.append [32, 32, 32, 32, 32, 32, 32, 32, 32, 32, 32, 32, 32, 32, 32, 32, 32, 32, 32, 32, 32, 32, 32, 32, 32, 32, 32, 32, 32, 32, 32, 32, 32, 32, 32, 32, 32, 32, 32, 32, 32, 32, 32, 32, 32, 32, 32, 32, 32, 32, 32, 32, 32, 32, 32, 32, 32, 32, 32, 32, 32, 32, 32, 32] [32, 32, 32, 32, 32, 32, 32, 32, 32, 32, 32, 32, 32, 32, 32, 32, 32, 32, 32, 32, 32, 32, 32, 32, 32, 32, 32, 32, 32, 32, 32, 32, 32, 32, 32, 32, 32, 32, 32, 32, 32, 32, 32, 32, 32, 32, 32, 32, 32, 32, 32, 32, 32, 32, 32, 32, 32, 32, 32, 32, 32, 32, 32, 32]) : Str).length : Int)) <|
      some (List.take ((IntKind.i64.wrap r_4.2).toNat) ((List.append [32, 32, 32, 32, 32, 32, 32, 32, 32, 32, 32, 32, 32, 32, 32, 32, 32, 32, 32, 32, 32, 32, 32, 32, 32, 32, 32, 32, 32, 32, 32, 32, 32, 32, 32, 32, 32, 32, 32, 32, 32, 32, 32, 32, 32, 32, 32, 32, 32, 32, 32, 32, 32, 32, 32, 32, 32, 32, 32, 32, 32, 32, 32, 32] [32, 32, 32, 32, 32, 32, 32, 32, 32, 32, 32, 32, 32, 32, 32, 32, 32, 32, 32, 32, 32, 32, 32, 32, 32, 32, 32, 32, 32, 32, 32, 32, 32, 32, 32, 32, 32, 32, 32, 32, 32, 32, 32, 32, 32, 32, 32, 32, 32, 32, 32, 32, 32, 32, 32, 32, 32, 32, 32, 32, 32, 32, 32, 32]) : Str))
     else
     callG (decide ((IntKind.i64.wrap r_4.2) ≤ 128)) (strings_HasPrefix ((List.append [45, 45, 45, 45, 45, 45, 45, 45, 45, 45, 45, 45, 45, 45, 45, 45, 45, 45, 45, 45, 45, 45, 45, 45, 45, 45, 45, 45, 45, 45, 45, 45, 45, 45, 45, 45, 45, 45, 45, 45, 45, 45, 45, 45, 45, 45, 45, 45, 45, 45, 45, 45, 45, 45, 45, 45, 45, 45, 45, 45, 45, 45, 45, 45] [45, 45, 45, 45, 45, 45, 45, 45, 45, 45, 45, 45, 45, 45, 45, 45, 45, 45, 45, 45, 45, 45, 45, 45, 45, 45, 45, 45, 45, 45, 45, 45, 45, 45, 45, 45, 45, 45, 45, 45, 45, 45, 45, 45, 45, 45, 45, 45, 45, 45, 45, 45, 45, 45, 45, 45, 45, 45, 45, 45, 45, 45, 45, 45]) : Str) s_1) false fun r_76 =>
     bif ((decide ((IntKind.i64.wrap r_4.2) ≤ 128)) && r_76) then
      chk (0 ≤ IntKind.i64.wrap r_4.2 ∧ IntKind.i64.wrap r_4.2 ≤ (((List.append [45, 45, 45, 45, 45, 45, 45, 45, 45, 45, 45, 45, 45, 45, 45, 45, 45, 45, 45, 45, 45, 45, 45, 45, 45, 45, 45, 45, 45, 45, 45, 45, 45, 45, 45, 45, 45, 45, 45, 45, 45, 45, 45, 45, 45, 45, 45, 45, 45, 45, 45, 45, 45, 45, 45, 45, 45, 45, 45, 45, 45, 45, 45, 45] [45, 45, 45, 45, 45, 45, 45, 45, 45, 45, 45, 45, 45, 45, 45, 45, 45, 45, 45, 45, 45, 45, 45, 45, 45, 45, 45, 45, 45, 45, 45, 45, 45, 45, 45, 45, 45, 45, 45, 45, 45, 45, 45, 45, 45, 45, 45, 45, 45, 45, 45, 45, 45, 45, 45, 45, 45, 45, 45, 45, 45, 45, 45, 45]) : Str).length : Int)) <|
      some (List.take ((IntKind.i64.wrap r_4.2).toNat) ((List.append [45, 45, 45, 45, 45, 45, 45, 45, 45, 45, 45, 45, 45, 45, 45, 45, 45, 45, 45, 45, 45, 45, 45, 45, 45, 45, 45, 45, 45, 45, 45, 45, 45, 45, 45, 45, 45, 45, 45, 45, 45, 45, 45, 45, 45, 45, 45, 45, 45, 45, 45, 45, 45, 45, 45, 45, 45, 45, 45, 45, 45, 45, 45, 45] [45, 45, 45, 45, 45, 45, 45, 45, 45, 45, 45, 45, 45, 45, 45, 45, 45, 45, 45, 45, 45, 45, 45, 45, 45, 45, 45, 45, 45, 45, 45, 45, 45, 45, 45, 45, 45, 45, 45, 45, 45, 45, 45, 45, 45, 45, 45, 45, 45, 45, 45, 45, 45, 45, 45, 45, 45, 45, 45, 45, 45, 45, 45, 45]) : Str))
     else
     callG (decide ((IntKind.i64.wrap r_4.2) ≤ 64)) (strings_HasPrefix ([48, 48, 48, 48, 48, 48, 48, 48, 48, 48, 48, 48, 48, 48, 48, 48, 48, 48, 48, 48, 48, 48, 48, 48, 48, 48, 48, 48, 48, 48, 48, 48, 48, 48, 48, 48, 48, 48, 48, 48, 48, 48, 48, 48, 48, 48, 48, 48, 48, 48, 48, 48, 48, 48, 48, 48, 48, 48, 48, 48, 48, 48, 48, 48] : Str) s_1) false fun r_78 =>
     bif ((decide ((IntKind.i64.wrap r_4.2) ≤ 64)) && r_78) then
      chk (0 ≤ IntKind.i64.wrap r_4.2 ∧ IntKind.i64.wrap r_4.2 ≤ (([48, 48, 48, 48, 48, 48, 48, 48, 48, 48, 48, 48, 48, 48, 48, 48, 48, 48, 48, 48, 48, 48, 48, 48, 48, 48, 48, 48, 48, 48, 48, 48, 48, 48, 48, 48, 48, 48, 48, 48, 48, 48, 48, 48, 48, 48, 48, 48, 48, 48, 48, 48, 48, 48, 48, 48, 48, 48, 48, 48, 48, 48, 48, 48] : Str).length : Int)) <|
      some (List.take ((IntKind.i64.wrap r_4.2).toNat) ([48, 48, 48, 48, 48, 48, 48, 48, 48, 48, 48, 48, 48, 48, 48, 48, 48, 48, 48, 48, 48, 48, 48, 48, 48, 48, 48, 48, 48, 48, 48, 48, 48, 48, 48, 48, 48, 48, 48, 48, 48, 48, 48, 48, 48, 48, 48, 48, 48, 48, 48, 48, 48, 48, 48, 48, 48, 48, 48, 48, 48, 48, 48, 48] : Str))
     else
     callG (decide ((IntKind.i64.wrap r_4.2) ≤ 128)) (strings_HasPrefix ((List.append [61, 61, 61, 61, 61, 61, 61, 61, 61, 61, 61, 61, 61, 61, 61, 61, 61, 61, 61, 61, 61, 61, 61, 61, 61, 61, 61, 61, 61, 61, 61, 61, 61, 61, 61, 61, 61, 61, 61, 61, 61, 61, 61, 61, 61, 61, 61, 61, 61, 61, 61, 61, 61, 61, 61, 61, 61, 61, 61, 61, 61, 61, 61, 61] [61, 61, 61, 61, 61, 61, 61, 61, 61, 61, 61, 61, 61, 61, 61, 61, 61, 61, 61, 61, 61, 61, 61, 61, 61, 61, 61, 61, 61, 61, 61, 61, 61, 61, 61, 61, 61, 61, 61, 61, 61, 61, 61, 61, 61, 61, 61, 61, 61, 61, 61, 61, 61, 61, 61, 61, 61, 61, 61, 61, 61, 61, 61, 61]) : Str) s_1) false fun r_80 =>
     bif ((decide ((IntKind.i64.wrap r_4.2) ≤ 128)) && r_80) then
      chk (0 ≤ IntKind.i64.wrap r_4.2 ∧ IntKind.i64.wrap r_4.2 ≤ (((List.append [61, 61, 61, 61, 61, 61, 61, 61, 61, 61, 61, 61, 61, 61, 61, 61, 61, 61, 61, 61, 61, 61, 61, 61, 61, 61, 61, 61, 61, 61, 61, 61, 61, 61, 61, 61, 61, 61, 61, 61, 61, 61, 61, 61, 61, 61, 61, 61, 61, 61, 61, 61, 61, 61, 61, 61, 61, 61, 61, 61, 61, 61, 61, 61] [61, 61, 61, 61, 61, 61, 61, 61, 61, 61, 61, 61, 61, 61, 61, 61, 61, 61, 61, 61, 61, 61, 61, 61, 61, 61, 61, 61, 61, 61, 61, 61, 61, 61, 61, 61, 61, 61, 61, 61, 61, 61, 61, 61, 61, 61, 61, 61, 61, 61, 61, 61, 61, 61, 61, 61, 61, 61, 61, 61, 61, 61, 61, 61]) : Str).length : Int)) <|
      some (List.take ((IntKind.i64.wrap r_4.2).toNat) ((List.append [61, 61, 61, 61, 61, 61, 61, 61, 61, 61, 61, 61, 61, 61, 61, 61, 61, 61, 61, 61, 61, 61, 61, 61, 61, 61, 61, 61, 61, 61, 61, 61, 61, 61, 61, 61, 61, 61, 61, 61, 61, 61, 61, 61, 61, 61, 61, 61, 61, 61, 61, 61, 61, 61, 61, 61, 61, 61, 61, 61, 61, 61, 61, 61] [61, 61, 61, 61, 61, 61, 61, 61, 61, 61, 61, 61, 61, 61, 61, 61, 61, 61, 61, 61, 61, 61, 61, 61, 61, 61, 61, 61, 61, 61, 61, 61, 61, 61, 61, 61, 61, 61, 61, 61, 61, 61, 61, 61, 61, 61, 61, 61, 61, 61, 61, 61, 61, 61, 61, 61, 61, 61, 61, 61, 61, 61, 61, 61]) : Str))
     else
     callG (decide ((IntKind.i64.wrap r_4.2) ≤ 64)) (strings_HasPrefix ([9, 9, 9, 9, 9, 9, 9, 9, 9, 9, 9, 9, 9, 9, 9, 9, 9, 9, 9, 9, 9, 9, 9, 9, 9, 9, 9, 9, 9, 9, 9, 9, 9, 9, 9, 9, 9, 9, 9, 9, 9, 9, 9, 9, 9, 9, 9, 9, 9, 9, 9, 9, 9, 9, 9, 9, 9, 9, 9, 9, 9, 9, 9, 9] : Str) s_1) false fun r_82 =>
     bif ((decide ((IntKind.i64.wrap r_4.2) ≤ 64)) && r_82) then
      chk (0 ≤ IntKind.i64.wrap r_4.2 ∧ IntKind.i64.wrap r_4.2 ≤ (([9, 9, 9, 9, 9, 9, 9, 9, 9, 9, 9, 9, 9, 9, 9, 9, 9, 9, 9, 9, 9, 9, 9, 9, 9, 9, 9, 9, 9, 9, 9, 9, 9, 9, 9, 9, 9, 9, 9, 9, 9, 9, 9, 9, 9, 9, 9, 9, 9, 9, 9, 9, 9, 9, 9, 9, 9, 9, 9, 9, 9, 9, 9, 9] : Str).length : Int)) <|
      some (List.take ((IntKind.i64.wrap r_4.2).toNat) ([9, 9, 9, 9, 9, 9, 9, 9, 9, 9, 9, 9, 9, 9, 9, 9, 9, 9, 9, 9, 9, 9, 9, 9, 9, 9, 9, 9, 9, 9, 9, 9, 9, 9, 9, 9, 9, 9, 9, 9, 9, 9, 9, 9, 9, 9, 9, 9, 9, 9, 9, 9, 9, 9, 9, 9, 9, 9, 9, 9, 9, 9, 9, 9] : Str))
     else
     k_19 ()
    else
    k_19 ()) fun k_73 =>
   bif decide (c_71 = 32) then
    k_73 (decide (c_71 = 32))
   else
   bif decide (c_71 = 45) then
    k_73 (decide (c_71 = 45))
   else
   bif decide (c_71 = 48) then
    k_73 (decide (c_71 = 48))
   else
   bif decide (c_71 = 61) then
    k_73 (decide (c_71 = 61))
   else
   k_73 (decide (c_71 = 9))) fun k_5 =>
  bif ((decide (0 < r_4.1)) || (decide (9223372036854775807 < r_4.2))) then
   none
  else
  k_5 ()) fun k_3 =>
 bif decide (count_2 < 0) then
  none
 else
 k_3 ()
noncomputable def R_SumOf (s_1 : Str) : Option Str :=
 jp (S := Int) (fun h_10 =>
  call (strconv_FormatUint h_10 16) fun r_12 =>
  call (strings_Repeat ([48] : Str) (IntKind.i64.wrap (16 - (r_12.length : Int)))) fun r_13 =>
  chk ((r_13 ++ r_12).length ≤ 274877906944) <|
  some (r_13 ++ r_12)) fun k_11 =>
 forL s_1 0 (fun i_20 c_22 h_15 nx_19 k_18 =>
  nx_19 (IntKind.u64.wrap ((bitsI .xor .u64 h_15 (IntKind.u64.wrap (c_22.toNat : Int))) * 1099511628211))) 14695981039346656037 (fun h_15 =>
  k_11 h_15)
noncomputable def R_LogText (l_1 : List api_Record) : Option (Str × Str) :=
 jp (S := Str × Str) (fun s => match s with
  | (sum_35, o1_36) =>
   call (strings_Builder_String_i1 o1_36) fun r_38 =>
   some (r_38, sum_35)) fun k_37 =>
 forL l_1 0 (fun i_62 r_64 s nx_61 k_60 =>
  match s with
  | (sum_49, o1_51) =>
   call (R_RecordText r_64) fun r_65 =>
   chk ((sum_49 ++ r_65).length ≤ 274877906944) <|
   call (R_SumOf (sum_49 ++ r_65)) fun r_67 =>
   chk ((r_65 ++ ([32] : Str)).length ≤ 274877906944) <|
   chk (((r_65 ++ ([32] : Str)) ++ r_67).length ≤ 274877906944) <|
   chk ((((r_65 ++ ([32] : Str)) ++ r_67) ++ ([10] : Str)).length ≤ 274877906944) <|
   call (strings_Builder_WriteString_i1 (((r_65 ++ ([32] : Str)) ++ r_67) ++ ([10] : Str)) o1_51) fun r_71 =>
   nx_61 (r_67, r_71.2)) ([], []) (fun s => match s with
  | (sum_49, o1_51) =>
   k_37 (sum_49, o1_51))
noncomputable def log_Log_Records_i1 (o0_2_1 : Str) (o1_2 : List api_Record) (o2_3 : List Str) (o3_1_4 : Int) (m4_5 : List (Str × log_had)) : Option (List api_Record) :=
 chk (([] ++ o1_2).length ≤ 274877906944) <|
 some ([] ++ o1_2)
noncomputable def slices_Equal_api_Record_api_Record (s1_1 : List api_Record) (s2_2 : List api_Record) : Option Bool :=
 bif !decide ((s1_1.length : Int) = (s2_2.length : Int)) then
  some false
 else
 jp (S := Unit) (fun _ =>
  some true) fun k_12 =>
 forL s1_1 0 (fun i_18 r_20 s nx_17 k_16 =>
  idx s2_2 (i_18 : Int) fun r_21 =>
  bif !((decide (r_20.Time = r_21.Time)) && ((decide (r_20.Kind = r_21.Kind)) && ((decide (r_20.Pack = r_21.Pack)) && ((decide (r_20.From.Major = r_21.From.Major)) && ((decide (r_20.From.Minor = r_21.From.Minor)) && ((decide (r_20.From.Patch = r_21.From.Patch)) && ((decide (r_20.From.Early = r_21.From.Early)) && ((decide (r_20.To.Major = r_21.To.Major)) && ((decide (r_20.To.Minor = r_21.To.Minor)) && ((decide (r_20.To.Patch = r_21.To.Patch)) && ((decide (r_20.To.Early = r_21.To.Early)) && ((decide (r_20.Result = r_21.Result)) && (decide (r_20.Note = r_21.Note)))))))))))))) then
   some false
  else
  nx_17 ()) () (fun _ =>
  k_12 ())
noncomputable def log_Log_Text_i1 (o0_2_1 : Str) (o1_2 : List api_Record) (o2_3 : List Str) (o3_1_4 : Int) (m4_5 : List (Str × log_had)) : Option Str :=
 call (strings_Join o2_3 []) fun r_7 =>
 some r_7
noncomputable def log_Log_Sum_i1 (o0_2_1 : Str) (o1_2 : List api_Record) (o2_3 : List Str) (o3_1_4 : Int) (m4_5 : List (Str × log_had)) : Option Str :=
 some o0_2_1
noncomputable def internal_stringslite_Cut (s_1 : Str) (sep_2 : Str) : Option (Str × Str × Bool) :=
 call (internal_stringslite_Index s_1 sep_2) fun r_3 =>
 bif decide (0 ≤ r_3) then
  chk (0 ≤ r_3 ∧ r_3 ≤ (s_1.length : Int)) <|
  chk (0 ≤ IntKind.i64.wrap (r_3 + (sep_2.length : Int)) ∧ IntKind.i64.wrap (r_3 + (sep_2.length : Int)) ≤ (s_1.length : Int)) <|
  some (List.take r_3.toNat s_1, List.drop ((IntKind.i64.wrap (r_3 + (sep_2.length : Int))).toNat) s_1, true)
 else
 some (s_1, [], false)
noncomputable def strings_Cut (s_1 : Str) (sep_2 : Str) : Option (Str × Str × Bool) :=
 call (internal_stringslite_Cut s_1 sep_2) fun r_3 =>
 some (r_3.1, r_3.2.1, r_3.2.2)
noncomputable def internal_bytealg_LastIndexByteString (s_1 : Str) (c_2 : Int) : Option Int :=
 jp (S := Unit) (fun _ =>
  some (-1)) fun k_8 =>
 loopN Fuel (fun i_9 nx_12 k_11 =>
  bif decide (0 ≤ i_9) then
   idxS s_1 i_9 fun c_13 =>
   bif decide (c_13 = c_2) then
    some i_9
   else
   nx_12 (IntKind.i64.wrap (i_9 - 1))
  else
  k_11 i_9) (IntKind.i64.wrap ((s_1.length : Int) - 1)) (fun i_9 =>
  k_8 ())
noncomputable def strings_LastIndexByte (s_1 : Str) (c_2 : Int) : Option Int :=
 call (internal_bytealg_LastIndexByteString s_1 c_2) fun r_3 =>
 some r_3
noncomputable def strings_SplitN (s_1 : Str) (sep_2 : Str) (n_3 : Int) : Option (List Str) :=
 call (strings_genSplit s_1 sep_2 0 n_3) fun r_4 =>
 some r_4
noncomputable def log_number (s_1 : Str) : Option (Int × Bool) :=
 chk ((!((decide (s_1 = [])) || (decide (18 < (s_1.length : Int))))) = true → (0 ≤ 0 ∧ 0 < (s_1.length : Int))) <|
 bif (((decide (s_1 = [])) || (decide (18 < (s_1.length : Int)))) || ((decide (((s_1.getD 0 0).toNat : Int) = 48)) && (!decide (s_1 = ([48] : Str))))) then
  some (0, false)
 else
 jp (S := Unit) (fun _ =>
  call (strconv_Atoi s_1) fun r_11 =>
  some (r_11.1, r_11.2)) fun k_10 =>
 forL s_1 0 (fun i_16 c_18 s nx_15 k_14 =>
  bif ((decide ((c_18.toNat : Int) < 48)) || (decide (57 < (c_18.toNat : Int)))) then
   some (0, false)
  else
  nx_15 ()) () (fun _ =>
  k_10 ())
noncomputable def ver_number (s_1 : Str) : Option (Int × Bool) :=
 call (ver_each_i3 s_1 9) fun r_2 =>
 chk ((!(!r_2)) = true → (0 ≤ 0 ∧ 0 < (s_1.length : Int))) <|
 bif ((!r_2) || ((decide (((s_1.getD 0 0).toNat : Int) = 48)) && (!decide (s_1 = ([48] : Str))))) then
  some (0, false)
 else
 call (strconv_Atoi s_1) fun r_4 =>
 some (r_4.1, r_4.2)
noncomputable def ver_Parse (text_1 : Str) : Option (api_Version × Int) :=
 call (strings_Cut text_1 ([45] : Str)) fun r_2 =>
 call (strings_Split r_2.1 ([46] : Str)) fun r_3 =>
 bif ((!decide ((r_3.length : Int) = 3)) || (r_2.2.2 && (decide (r_2.2.1 = [])))) then
  some ((api_Version.mk 0 0 0 []), 8)
 else
 jp (S := Int × Int × Int) (fun s => match s with
  | (o1_0_11, o1_1_12, o1_2_13) =>
   call (ver_Check (api_Version.mk o1_0_11 o1_1_12 o1_2_13 r_2.2.1)) fun r_15 =>
   bif !decide (r_15 = 0) then
    some ((api_Version.mk 0 0 0 []), r_15)
   else
   some ((api_Version.mk o1_0_11 o1_1_12 o1_2_13 r_2.2.1), 0)) fun k_14 =>
 chk ((r_3.length : Int) = 3) <|
 idx r_3 0 fun s_17 =>
 call (ver_number s_17) fun r_18 =>
 bif !r_18.2 then
  some ((api_Version.mk 0 0 0 []), 8)
 else
 idx r_3 1 fun s_19 =>
 call (ver_number s_19) fun r_20 =>
 bif !r_20.2 then
  some ((api_Version.mk 0 0 0 []), 8)
 else
 idx r_3 2 fun s_21 =>
 call (ver_number s_21) fun r_22 =>
 bif !r_22.2 then
  some ((api_Version.mk 0 0 0 []), 8)
 else
 k_14 (r_18.1, r_20.1, r_22.1)
noncomputable def log_versionOf (s_1 : Str) : Option (api_Version × Bool) :=
 bif decide (s_1 = ([45] : Str)) then
  some ((api_Version.mk 0 0 0 []), true)
 else
 call (ver_Parse s_1) fun r_2 =>
 some (r_2.1, ((decide (r_2.2 = 0)) && (!((decide (r_2.1.Major = 0)) && ((decide (r_2.1.Minor = 0)) && ((decide (r_2.1.Patch = 0)) && (decide (r_2.1.Early = []))))))))
noncomputable def disk_escape (s_1 : Str) : Option (Int × Int) :=
 bif decide (s_1 = []) then
  some (0, 0)
 else
 idxS s_1 0 fun c_2 =>
 bif ((decide (c_2 = 92)) || (decide (c_2 = 34))) then
  some (c_2, 1)
 else
 bif decide (c_2 = 110) then
  some (10, 1)
 else
 bif ((!decide (c_2 = 120)) || (decide ((s_1.length : Int) < 3))) then
  some (0, 0)
 else
 idxS s_1 1 fun c_3 =>
 call (strings_IndexByte ([48, 49, 50, 51, 52, 53, 54, 55, 56, 57, 97, 98, 99, 100, 101, 102] : Str) c_3) fun r_4 =>
 idxS s_1 2 fun c_5 =>
 call (strings_IndexByte ([48, 49, 50, 51, 52, 53, 54, 55, 56, 57, 97, 98, 99, 100, 101, 102] : Str) c_5) fun r_6 =>
 bif ((decide (r_4 < 0)) || (decide (r_6 < 0))) then
  some (0, 0)
 else
 bif (((decide (32 ≤ (IntKind.u8.wrap (IntKind.i64.wrap ((IntKind.i64.wrap (16 * r_4)) + r_6))))) && (decide ((IntKind.u8.wrap (IntKind.i64.wrap ((IntKind.i64.wrap (16 * r_4)) + r_6))) ≤ 126))) || (decide ((IntKind.u8.wrap (IntKind.i64.wrap ((IntKind.i64.wrap (16 * r_4)) + r_6))) = 10))) then
  some (0, 0)
 else
 some (IntKind.u8.wrap (IntKind.i64.wrap ((IntKind.i64.wrap (16 * r_4)) + r_6)), 3)
noncomputable def disk_Unquote (s_1 : Str) : Option (Str × Int) :=
 chk ((!(decide ((s_1.length : Int) < 2))) = true → (0 ≤ 0 ∧ 0 < (s_1.length : Int))) <|
 chk ((!((decide ((s_1.length : Int) < 2)) || (!decide (((s_1.getD 0 0).toNat : Int) = 34)))) = true → (0 ≤ IntKind.i64.wrap ((s_1.length : Int) - 1) ∧ IntKind.i64.wrap ((s_1.length : Int) - 1) < (s_1.length : Int))) <|
 bif (((decide ((s_1.length : Int) < 2)) || (!decide (((s_1.getD 0 0).toNat : Int) = 34))) || (!decide (((s_1.getD ((IntKind.i64.wrap ((s_1.length : Int) - 1)).toNat) 0).toNat : Int) = 34))) then
  some ([], 8)
 else
 chk (0 ≤ 1 ∧ 1 ≤ (s_1.length : Int) ∧ 0 ≤ IntKind.i64.wrap ((s_1.length : Int) - 1) ∧ IntKind.i64.wrap ((s_1.length : Int) - 1) ≤ (s_1.length : Int) ∧ 1 ≤ IntKind.i64.wrap ((s_1.length : Int) - 1)) <|
 chk (0 ≤ 0 ∧ 0 ≤ ((List.take ((IntKind.i64.wrap ((s_1.length : Int) - 1)).toNat - 1) (List.drop 1 s_1)).length : Int) ∧ ((List.take ((IntKind.i64.wrap ((s_1.length : Int) - 1)).toNat - 1) (List.drop 1 s_1)).length : Int) ≤ 274877906944) <|
 jp (S := List Int) (fun o0_26 =>
  some (Go.Vc.strOf o0_26, 0)) fun k_27 =>
 loopN Fuel (fun s nx_42 k_41 =>
  match s with
  | (i_34, o0_35) =>
   bif decide (i_34 < ((List.take ((IntKind.i64.wrap ((s_1.length : Int) - 1)).toNat - 1) (List.drop 1 s_1)).length : Int)) then
    idxS (List.take ((IntKind.i64.wrap ((s_1.length : Int) - 1)).toNat - 1) (List.drop 1 s_1)) i_34 fun c_43 =>
    bif (((decide (c_43 < 32)) || (decide (126 < c_43))) || (decide (c_43 = 34))) then
     some ([], 8)
    else
    bif decide (c_43 = 92) then
     chk (0 ≤ IntKind.i64.wrap (i_34 + 1) ∧ IntKind.i64.wrap (i_34 + 1) ≤ ((List.take ((IntKind.i64.wrap ((s_1.length : Int) - 1)).toNat - 1) (List.drop 1 s_1)).length : Int)) <|
     call (disk_escape (List.drop ((IntKind.i64.wrap (i_34 + 1)).toNat) (List.take ((IntKind.i64.wrap ((s_1.length : Int) - 1)).toNat - 1) (List.drop 1 s_1)))) fun r_45 =>
     bif decide (r_45.2 = 0) then
      some ([], 8)
     else
     chk ((o0_35 ++ [r_45.1]).length ≤ 274877906944) <|
     nx_42 (IntKind.i64.wrap ((IntKind.i64.wrap (i_34 + r_45.2)) + 1), o0_35 ++ [r_45.1])
    else
    chk ((o0_35 ++ [c_43]).length ≤ 274877906944) <|
    nx_42 (IntKind.i64.wrap (i_34 + 1), o0_35 ++ [c_43])
   else
   k_41 (i_34, o0_35)) (0, List.replicate 0 0) (fun s => match s with
  | (i_34, o0_35) =>
   k_27 o0_35)
noncomputable def log_ParseRecord (line_1 : Str) : Option (api_Record × Int) :=
 call (strings_SplitN line_1 ([32] : Str) 7) fun r_2 =>
 chk ((!(!decide ((r_2.length : Int) = 7))) = true → (0 ≤ 2 ∧ 2 < (r_2.length : Int))) <|
 bif ((!decide ((r_2.length : Int) = 7)) || (decide ((r_2.getD 2 []) = []))) then
  some ((api_Record.mk 0 0 [] (api_Version.mk 0 0 0 []) (api_Version.mk 0 0 0 []) 0 []), 8)
 else
 idx r_2 2 fun s_5 =>
 jp (S := Int) (fun o1_1_23 =>
  idx r_2 0 fun s_25 =>
  call (log_number s_25) fun r_26 =>
  idx r_2 3 fun s_27 =>
  call (log_versionOf s_27) fun r_28 =>
  idx r_2 4 fun s_29 =>
  call (log_versionOf s_29) fun r_30 =>
  idx r_2 5 fun s_31 =>
  call (log_number s_31) fun r_32 =>
  idx r_2 6 fun s_33 =>
  call (disk_Unquote s_33) fun r_34 =>
  bif ((((((decide (o1_1_23 = 0)) || (!r_26.2)) || (!r_28.2)) || (!r_30.2)) || (!r_32.2)) || (!decide (r_34.2 = 0))) then
   some ((api_Record.mk 0 0 [] (api_Version.mk 0 0 0 []) (api_Version.mk 0 0 0 []) 0 []), 8)
  else
  call (log_CheckRecord (api_Record.mk r_26.1 o1_1_23 s_5 r_28.1 r_30.1 r_32.1 r_34.1)) fun r_35 =>
  bif !decide (r_35 = 0) then
   some ((api_Record.mk 0 0 [] (api_Version.mk 0 0 0 []) (api_Version.mk 0 0 0 []) 0 []), r_35)
  else
  some ((api_Record.mk r_26.1 o1_1_23 s_5 r_28.1 r_30.1 r_32.1 r_34.1), 0)) fun k_24 =>
 call (log_kindWords) fun r_36 =>
 forL r_36 0 (fun i_48 s_50 o1_1_42 nx_47 k_46 =>
  chk ((decide (0 < (i_48 : Int))) = true → (0 ≤ 1 ∧ 1 < (r_2.length : Int))) <|
  bif ((decide (0 < (i_48 : Int))) && (decide (s_50 = (r_2.getD 1 [])))) then
   nx_47 (i_48 : Int)
  else
  nx_47 o1_1_42) 0 (fun o1_1_42 =>
  k_24 o1_1_42)
noncomputable def log_Open (text_1 : Str) : Option (Int × Int × (List (Str × log_had)) × Int × Str × List api_Record × List Str) :=
 bif decide (4194304 < (text_1.length : Int)) then
  none
 else
 call (log_New) fun r_220 =>
 jp (S := (List (Str × log_had)) × Int × Str × List api_Record × List Str) (fun s => match s with
  | (m0_324, o1_1_325, o2_2_326, o3_327, o4_328) =>
   some ((o3_327.length : Int), 0, m0_324, o1_1_325, o2_2_326, o3_327, o4_328)) fun k_329 =>
 loopN Fuel (fun s nx_416 k_415 =>
  match s with
  | (text_393, m0_394, o1_1_395, o2_2_396, o3_397, o4_398) =>
   call (strings_Cut text_393 ([10] : Str)) fun r_417 =>
   call (strings_LastIndexByte r_417.1 32) fun r_418 =>
   bif ((!r_417.2.2) || (decide (r_418 < 0))) then
    k_415 (text_393, m0_394, o1_1_395, o2_2_396, o3_397, o4_398)
   else
   chk (0 ≤ r_418 ∧ r_418 ≤ (r_417.1.length : Int)) <|
   call (log_ParseRecord (List.take r_418.toNat r_417.1)) fun r_420 =>
   chk ((!(!decide (r_420.2 = 0))) = true → (0 ≤ IntKind.i64.wrap (r_418 + 1) ∧ IntKind.i64.wrap (r_418 + 1) ≤ (r_417.1.length : Int))) <|
   chk ((!(!decide (r_420.2 = 0))) = true → (0 ≤ r_418 ∧ r_418 ≤ (r_417.1.length : Int))) <|
   chk ((!(!decide (r_420.2 = 0))) = true → (o2_2_396 ++ (List.take r_418.toNat r_417.1)).length ≤ 274877906944) <|
   callG (!(!decide (r_420.2 = 0))) (disk_SumOf (o2_2_396 ++ (List.take r_418.toNat r_417.1))) [] fun r_424 =>
   callG (!((!decide (r_420.2 = 0)) || (!decide ((List.drop ((IntKind.i64.wrap (r_418 + 1)).toNat) r_417.1) = r_424)))) (log_Log_Add_i1 r_420.1 o2_2_396 o3_397 o4_398 o1_1_395 m0_394) (0, o2_2_396, o3_397, o4_398, o1_1_395, m0_394) fun r_425 =>
   bif (((!decide (r_420.2 = 0)) || (!decide ((List.drop ((IntKind.i64.wrap (r_418 + 1)).toNat) r_417.1) = r_424))) || (!decide (r_425.1 = 0))) then
    k_415 (text_393, r_425.2.2.2.2.2, r_425.2.2.2.2.1, r_425.2.1, r_425.2.2.1, r_425.2.2.2.1)
   else
   nx_416 (r_417.2.1, r_425.2.2.2.2.2, r_425.2.2.2.2.1, r_425.2.1, r_425.2.2.1, r_425.2.2.2.1)) (text_1, r_220.1, r_220.2.1, r_220.2.2, [], []) (fun s => match s with
  | (text_393, m0_394, o1_1_395, o2_2_396, o3_397, o4_398) =>
   k_329 (m0_394, o1_1_395, o2_2_396, o3_397, o4_398))
noncomputable def Law_LogsGrow (l_1 : List api_Record) : Option Bool :=
 call (Law_landed) fun r_2 =>
 bif !r_2 then
  some false
 else
 call (log_New) fun r_3 =>
 jp (S := (List (Str × log_had)) × Int × Str × List api_Record × List api_Record × List Str) (fun s => match s with
  | (m0_314, o1_1_315, o2_2_316, o3_317, o4_318, o5_319) =>
   call (log_Log_Text_i1 o2_2_316 o4_318 o5_319 o1_1_315 m0_314) fun r_321 =>
   call (log_Open r_321) fun r_322 =>
   callG ((decide (r_322.2.1 = 0)) && (decide (r_322.1 = (o3_317.length : Int)))) (log_Log_Records_i1 r_322.2.2.2.2.1 r_322.2.2.2.2.2.1 r_322.2.2.2.2.2.2 r_322.2.2.2.1 r_322.2.2.1) [] fun r_323 =>
   callG ((decide (r_322.2.1 = 0)) && (decide (r_322.1 = (o3_317.length : Int)))) (slices_Equal_api_Record_api_Record r_323 o3_317) false fun r_324 =>
   callG (((decide (r_322.2.1 = 0)) && (decide (r_322.1 = (o3_317.length : Int)))) && r_324) (log_Log_Sum_i1 r_322.2.2.2.2.1 r_322.2.2.2.2.2.1 r_322.2.2.2.2.2.2 r_322.2.2.2.1 r_322.2.2.1) [] fun r_325 =>
   callG (((decide (r_322.2.1 = 0)) && (decide (r_322.1 = (o3_317.length : Int)))) && r_324) (log_Log_Sum_i1 o2_2_316 o4_318 o5_319 o1_1_315 m0_314) [] fun r_326 =>
   letv (((((decide (r_322.2.1 = 0)) && (decide (r_322.1 = (o3_317.length : Int)))) && r_324) && (decide (r_325 = r_326)))) fun v_327 =>
   some v_327) fun k_320 =>
 chk (0 ≤ min (l_1.length : Int) 60 ∧ min (l_1.length : Int) 60 ≤ (l_1.length : Int)) <|
 forL (List.take ((min (l_1.length : Int) 60).toNat) l_1) 0 (fun i_582 r_584 s nx_581 k_580 =>
  match s with
  | (m0_514, o1_1_515, o2_2_516, o3_517, o4_518, o5_519) =>
   call (R_RecordError r_584) fun r_585 =>
   jp (S := Int) (fun e_605 =>
    jp (S := Int) (fun e_610 =>
     call (log_Log_Add_i1 r_584 o2_2_516 o4_518 o5_519 o1_1_515 m0_514) fun r_612 =>
     bif !decide (r_612.1 = e_610) then
      some false
     else
     jp (S := List api_Record) (fun o3_614 =>
      call (R_LogText o3_614) fun r_616 =>
      call (log_Log_Records_i1 r_612.2.1 r_612.2.2.1 r_612.2.2.2.1 r_612.2.2.2.2.1 r_612.2.2.2.2.2) fun r_617 =>
      call (slices_Equal_api_Record_api_Record r_617 o3_614) fun r_618 =>
      callG (!(!r_618)) (log_Log_Text_i1 r_612.2.1 r_612.2.2.1 r_612.2.2.2.1 r_612.2.2.2.2.1 r_612.2.2.2.2.2) [] fun r_619 =>
      callG (!((!r_618) || (!decide (r_619 = r_616.1)))) (log_Log_Sum_i1 r_612.2.1 r_612.2.2.1 r_612.2.2.2.1 r_612.2.2.2.2.1 r_612.2.2.2.2.2) [] fun r_620 =>
      bif (((!r_618) || (!decide (r_619 = r_616.1))) || (!decide (r_620 = r_616.2))) then
       some false
      else
      nx_581 (r_612.2.2.2.2.2, r_612.2.2.2.2.1, r_612.2.1, o3_614, r_612.2.2.1, r_612.2.2.2.1)) fun k_615 =>
     bif decide (e_610 = 0) then
      chk ((o3_517 ++ [r_584]).length ≤ 274877906944) <|
      k_615 (o3_517 ++ [r_584])
     else
     k_615 o3_517) fun k_611 =>
    bif decide (e_605 = 0) then
     call (slices_Clone_api_Record_api_Record_new o3_517) fun r_622 =>
     chk ((r_622 ++ [r_584]).length ≤ 274877906944) <|
     call (R_RecordsError (r_622 ++ [r_584])) fun r_624 =>
     k_611 r_624
    else
    k_611 e_605) fun k_606 =>
   chk (((decide (r_585 = 0)) && (decide (0 < (o3_517.length : Int)))) = true → (0 ≤ IntKind.i64.wrap ((o3_517.length : Int) - 1) ∧ IntKind.i64.wrap ((o3_517.length : Int) - 1) < (o3_517.length : Int))) <|
   letv ((o3_517.getD ((IntKind.i64.wrap ((o3_517.length : Int) - 1)).toNat) (api_Record.mk 0 0 [] (api_Version.mk 0 0 0 []) (api_Version.mk 0 0 0 []) 0 [])).Time) fun v_626 =>
   letv ((((decide (r_585 = 0)) && (decide (0 < (o3_517.length : Int)))) && (decide (r_584.Time < v_626)))) fun v_628 =>
   bif v_628 then
    k_606 7
   else
   k_606 r_585) (r_3.1, r_3.2.1, r_3.2.2, [], [], []) (fun s => match s with
  | (m0_514, o1_1_515, o2_2_516, o3_517, o4_518, o5_519) =>
   k_320 (m0_514, o1_1_515, o2_2_516, o3_517, o4_518, o5_519))
end Go.Md
