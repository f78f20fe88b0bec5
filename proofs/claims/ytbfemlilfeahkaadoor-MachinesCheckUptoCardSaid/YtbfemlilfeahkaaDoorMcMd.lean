/- Models of the functions that the statement reaches: what each computes, in plain words. -/
import Derived.Test.YtbfemlilfeahkaaDoorVc2
set_option linter.unusedVariables false
namespace Go.Md
open Go.Vc
def encB (b : Bool) : List Dt := [.b b]
def encS (x : Str) : List Dt := [.s x]
def encI_i8 (n : Int) : List Dt := [.i .i8 n]
def encI_i16 (n : Int) : List Dt := [.i .i16 n]
def encI_i32 (n : Int) : List Dt := [.i .i32 n]
def encI_i64 (n : Int) : List Dt := [.i .i64 n]
def encI_u8 (n : Int) : List Dt := [.i .u8 n]
def encI_u16 (n : Int) : List Dt := [.i .u16 n]
def encI_u32 (n : Int) : List Dt := [.i .u32 n]
def encI_u64 (n : Int) : List Dt := [.i .u64 n]
theorem dec1_s : ∀ r, hasR r [.s] → ∃ x, r = encS x := by
  intro r h
  rcases r with _ | ⟨d, _ | _⟩ <;> simp only [hasR, and_false, and_true] at h
  cases d <;> simp only [hasT] at h
  exact ⟨_, rfl⟩
theorem dec1_i64 : ∀ r, hasR r [.i .i64] → ∃ x, r = encI_i64 x := by
  intro r h
  rcases r with _ | ⟨d, _ | _⟩ <;> simp only [hasR, and_false, and_true] at h
  cases d <;> simp only [hasT] at h
  subst h
  exact ⟨_, rfl⟩
theorem dec1_u8 : ∀ r, hasR r [.i .u8] → ∃ x, r = encI_u8 x := by
  intro r h
  rcases r with _ | ⟨d, _ | _⟩ <;> simp only [hasR, and_false, and_true] at h
  cases d <;> simp only [hasT] at h
  subst h
  exact ⟨_, rfl⟩
structure api_Setting where
  Key : Str
  Value : Str
def enc_api_Setting (x : api_Setting) : List Dt := [.s x.Key, .s x.Value]
def sh_api_Setting : List Sh := [.s, .s]
theorem dec_api_Setting : ∀ r, hasR r sh_api_Setting → ∃ x : api_Setting, r = enc_api_Setting x := by
  intro r h
  unfold sh_api_Setting at h
  rcases r with _ | ⟨d0, _ | ⟨d1, _ | _⟩⟩ <;> simp only [hasR, and_false, and_true] at h
  obtain ⟨h0, h1⟩ := h
  cases d0 <;> simp only [hasT] at h0
  cases d1 <;> simp only [hasT] at h1
  exact ⟨⟨_, _⟩, rfl⟩
structure api_File where
  Path : Str
  Data : Str
  Runs : Bool
def enc_api_File (x : api_File) : List Dt := [.s x.Path, .s x.Data, .b x.Runs]
def sh_api_File : List Sh := [.s, .s, .b]
theorem dec_api_File : ∀ r, hasR r sh_api_File → ∃ x : api_File, r = enc_api_File x := by
  intro r h
  unfold sh_api_File at h
  rcases r with _ | ⟨d0, _ | ⟨d1, _ | ⟨d2, _ | _⟩⟩⟩ <;> simp only [hasR, and_false, and_true] at h
  obtain ⟨h0, h1, h2⟩ := h
  cases d0 <;> simp only [hasT] at h0
  cases d1 <;> simp only [hasT] at h1
  cases d2 <;> simp only [hasT] at h2
  exact ⟨⟨_, _, _⟩, rfl⟩
structure api_Service where
  Name : Str
  Path : Str
  Auto : Bool
  On : Bool
def enc_api_Service (x : api_Service) : List Dt := [.s x.Name, .s x.Path, .b x.Auto, .b x.On]
def sh_api_Service : List Sh := [.s, .s, .b, .b]
theorem dec_api_Service : ∀ r, hasR r sh_api_Service → ∃ x : api_Service, r = enc_api_Service x := by
  intro r h
  unfold sh_api_Service at h
  rcases r with _ | ⟨d0, _ | ⟨d1, _ | ⟨d2, _ | ⟨d3, _ | _⟩⟩⟩⟩ <;> simp only [hasR, and_false, and_true] at h
  obtain ⟨h0, h1, h2, h3⟩ := h
  cases d0 <;> simp only [hasT] at h0
  cases d1 <;> simp only [hasT] at h1
  cases d2 <;> simp only [hasT] at h2
  cases d3 <;> simp only [hasT] at h3
  exact ⟨⟨_, _, _, _⟩, rfl⟩
structure api_Machine where
  Facts : List api_Setting
  Files : List api_File
  Settings : List api_Setting
  Services : List api_Service
def enc_api_Machine (x : api_Machine) : List Dt := [.l (List.map enc_api_Setting x.Facts), .l (List.map enc_api_File x.Files), .l (List.map enc_api_Setting x.Settings), .l (List.map enc_api_Service x.Services)]
def sh_api_Machine : List Sh := [.l sh_api_Setting, .l sh_api_File, .l sh_api_Setting, .l sh_api_Service]
theorem dec_api_Machine : ∀ r, hasR r sh_api_Machine → ∃ x : api_Machine, r = enc_api_Machine x := by
  intro r h
  unfold sh_api_Machine at h
  rcases r with _ | ⟨d0, _ | ⟨d1, _ | ⟨d2, _ | ⟨d3, _ | _⟩⟩⟩⟩ <;> simp only [hasR, and_false, and_true] at h
  obtain ⟨h0, h1, h2, h3⟩ := h
  cases d0 <;> simp only [hasT] at h0
  obtain ⟨l0, rfl⟩ := hasRs_map dec_api_Setting h0
  cases d1 <;> simp only [hasT] at h1
  obtain ⟨l1, rfl⟩ := hasRs_map dec_api_File h1
  cases d2 <;> simp only [hasT] at h2
  obtain ⟨l2, rfl⟩ := hasRs_map dec_api_Setting h2
  cases d3 <;> simp only [hasT] at h3
  obtain ⟨l3, rfl⟩ := hasRs_map dec_api_Service h3
  exact ⟨⟨_, _, _, _⟩, rfl⟩
theorem sz_encB : ∀ l, szOk (1) (List.map encB l) = True := fun l => eq_true (by intro r hr; obtain ⟨x, _, rfl⟩ := List.mem_map.1 hr; rfl)
theorem sz_encS : ∀ l, szOk (1) (List.map encS l) = True := fun l => eq_true (by intro r hr; obtain ⟨x, _, rfl⟩ := List.mem_map.1 hr; rfl)
theorem sz_encI_i64 : ∀ l, szOk (1) (List.map encI_i64 l) = True := fun l => eq_true (by intro r hr; obtain ⟨x, _, rfl⟩ := List.mem_map.1 hr; rfl)
theorem sz_encI_u8 : ∀ l, szOk (1) (List.map encI_u8 l) = True := fun l => eq_true (by intro r hr; obtain ⟨x, _, rfl⟩ := List.mem_map.1 hr; rfl)
theorem sz_encI_u64 : ∀ l, szOk (1) (List.map encI_u64 l) = True := fun l => eq_true (by intro r hr; obtain ⟨x, _, rfl⟩ := List.mem_map.1 hr; rfl)
theorem sz_encI_i32 : ∀ l, szOk (1) (List.map encI_i32 l) = True := fun l => eq_true (by intro r hr; obtain ⟨x, _, rfl⟩ := List.mem_map.1 hr; rfl)
theorem sz_encI_u32 : ∀ l, szOk (1) (List.map encI_u32 l) = True := fun l => eq_true (by intro r hr; obtain ⟨x, _, rfl⟩ := List.mem_map.1 hr; rfl)
theorem sz_enc_api_Setting : ∀ l, szOk (2) (List.map enc_api_Setting l) = True := fun l => eq_true (by intro r hr; obtain ⟨x, _, rfl⟩ := List.mem_map.1 hr; rfl)
theorem sz_enc_api_File : ∀ l, szOk (3) (List.map enc_api_File l) = True := fun l => eq_true (by intro r hr; obtain ⟨x, _, rfl⟩ := List.mem_map.1 hr; rfl)
theorem sz_enc_api_Service : ∀ l, szOk (4) (List.map enc_api_Service l) = True := fun l => eq_true (by intro r hr; obtain ⟨x, _, rfl⟩ := List.mem_map.1 hr; rfl)
theorem sz_enc_api_Machine : ∀ l, szOk (4) (List.map enc_api_Machine l) = True := fun l => eq_true (by intro r hr; obtain ⟨x, _, rfl⟩ := List.mem_map.1 hr; rfl)
theorem allB_enc : ∀ l : List Int, allB (List.map encI_u8 l) = True
  | [] => by simp only [List.map_nil, allB]
  | _ :: l => by simp only [List.map_cons, encI_u8, allB, allB_enc l, and_self]
theorem unB_enc : ∀ l : List Int, unB (List.map encI_u8 l) = strOf l
  | [] => by simp only [List.map_nil, unB, strOf]
  | _ :: l => by simp only [List.map_cons, encI_u8, unB, unB_enc l, strOf]
theorem bR_enc (l : Str) : bR l = List.map encI_u8 (bytesOf l) := by simp [bR, bytesOf, encI_u8]
attribute [go_sem] allB_enc unB_enc bR_enc
attribute [go_sem] encB encS encI_i64 encI_u8 encI_u64 encI_i32 encI_u32 enc_api_Setting enc_api_File enc_api_Service enc_api_Machine sz_encB sz_encS sz_encI_i64 sz_encI_u8 sz_encI_u64 sz_encI_i32 sz_encI_u32 sz_enc_api_Setting sz_enc_api_File sz_enc_api_Service sz_enc_api_Machine
def ver_isSmall (c_1 : Int) : Option Bool :=
  some ((decide (97 ≤ c_1)) && (decide (c_1 ≤ 122)))
def ver_isDigit (c_1 : Int) : Option Bool :=
  some ((decide (48 ≤ c_1)) && (decide (c_1 ≤ 57)))
def ver_IsName_1 (c_1 : Int) : Option Bool :=
  call (ver_isSmall c_1) fun r_2 =>
  callG (!r_2) (ver_isDigit c_1) false fun r_3 =>
  some (((r_2 || r_3) || (decide (c_1 = 45))) || (decide (c_1 = 46)))
def ver_each_i1 (s_1 : Str) (most_2 : Int) : Option Bool :=
  jp (S := Unit) (fun _ =>
    some ((!decide (s_1 = [])) && (decide ((s_1.length : Int) ≤ most_2)))) fun k_12 =>
  forL s_1 0 (fun i_18 c_20 s nx_17 k_16 =>
    call (ver_IsName_1 (c_20.toNat : Int)) fun r_21 =>
    bif !r_21 then
      some false
    else
    nx_17 ()) () (fun _ =>
    k_12 ())
def ver_IsName (s_1 : Str) : Option Bool :=
  call (ver_each_i1 s_1 40) fun r_2 =>
  chk (r_2 = true → (0 ≤ 0 ∧ 0 < (s_1.length : Int))) <|
  callG r_2 (ver_isSmall ((s_1.getD 0 0).toNat : Int)) false fun r_4 =>
  some (r_2 && r_4)
def Law_landed  : Option Bool :=
  call (ver_IsName ([97] : Str)) fun r_1 =>
  some r_1
def R_IsName (s_1 : Str) : Option Bool :=
  jp (S := Unit) (fun _ =>
    some ((!decide (s_1 = [])) && (decide ((s_1.length : Int) ≤ 40)))) fun k_9 =>
  forL s_1 0 (fun i_14 c_16 s nx_13 k_12 =>
    bif (((decide ((i_14 : Int) = 0)) && (!((decide (97 ≤ (c_16.toNat : Int))) && (decide ((c_16.toNat : Int) ≤ 122))))) || ((((!((decide (97 ≤ (c_16.toNat : Int))) && (decide ((c_16.toNat : Int) ≤ 122)))) && ((decide ((c_16.toNat : Int) < 48)) || (decide (57 < (c_16.toNat : Int))))) && (!decide ((c_16.toNat : Int) = 45))) && (!decide ((c_16.toNat : Int) = 46)))) then
      some false
    else
    nx_13 ()) () (fun _ =>
    k_9 ())
def R_when (bad_1 : Bool) (e_2 : Int) : Option Int :=
  bif bad_1 then
    some e_2
  else
  some 0
def R_IsValue (s_1 : Str) : Option Bool :=
  jp (S := Unit) (fun _ =>
    some (decide ((s_1.length : Int) ≤ 1000))) fun k_9 =>
  forL s_1 0 (fun i_14 c_16 s nx_13 k_12 =>
    bif ((decide ((c_16.toNat : Int) < 32)) || (decide (126 < (c_16.toNat : Int)))) then
      some false
    else
    nx_13 ()) () (fun _ =>
    k_9 ())
def R_Check_1_i1 (i_1 : Int) (s_2 : Str) (o0_0_3 : Str) : Option (Int × Str) :=
  call (R_when ((decide (0 < i_1)) && (strLt s_2 o0_0_3 || decide (s_2 = o0_0_3))) 7) fun r_5 =>
  some (r_5, s_2)
def R_first (l_1 : List Int) : Option Int :=
  jp (S := Unit) (fun _ =>
    some 0) fun k_9 =>
  forL l_1 0 (fun i_14 e_16 s nx_13 k_12 =>
    bif !decide (e_16 = 0) then
      some e_16
    else
    nx_13 ()) () (fun _ =>
    k_9 ())
def internal_stringslite_IndexByte (s_1 : Str) (c_2 : Int) : Option Int :=
  some (ixByte s_1 c_2)
def internal_stringslite_Index (s_1 : Str) (substr_2 : Str) : Option Int :=
  bif ((decide ((substr_2.length : Int) = 0)) || (decide (substr_2 = s_1))) then
    some 0
  else
  bif decide ((substr_2.length : Int) = 1) then
    idxS substr_2 0 fun c_3 =>
    call (internal_stringslite_IndexByte s_1 c_3) fun r_4 =>
    some r_4
  else
  bif decide ((s_1.length : Int) ≤ (substr_2.length : Int)) then
    some (-1)
  else
  none
def strings_Index (s_1 : Str) (substr_2 : Str) : Option Int :=
  call (internal_stringslite_Index s_1 substr_2) fun r_3 =>
  some r_3
def strings_Count (s_1 : Str) (substr_2 : Str) : Option Int :=
  bif decide ((substr_2.length : Int) = 0) then
    none
  else
  bif decide ((substr_2.length : Int) = 1) then
    idxS substr_2 0 fun c_3 =>
    some (cntByte s_1 c_3)
  else
  loopN Fuel (fun s nx_15 k_14 =>
    match s with
    | (s_10, n_11) =>
      call (strings_Index s_10 substr_2) fun r_16 =>
      bif decide (r_16 = (-1)) then
        some n_11
      else
      chk (0 ≤ IntKind.i64.wrap (r_16 + (substr_2.length : Int)) ∧ IntKind.i64.wrap (r_16 + (substr_2.length : Int)) ≤ (s_10.length : Int)) <|
      nx_15 (List.drop ((IntKind.i64.wrap (r_16 + (substr_2.length : Int))).toNat) s_10, IntKind.i64.wrap (n_11 + 1))) (s_1, 0) (fun s => match s with
    | (s_10, n_11) =>
      some 0)
def strings_genSplit (s_1 : Str) (sep_2 : Str) (sepSave_3 : Int) (n_4 : Int) : Option (List Str) :=
  bif decide (n_4 = 0) then
    some []
  else
  bif decide (sep_2 = []) then
    none
  else
  jp (S := Int) (fun n_6 =>
    chk (0 ≤ min n_6 (IntKind.i64.wrap ((s_1.length : Int) + 1)) ∧ min n_6 (IntKind.i64.wrap ((s_1.length : Int) + 1)) ≤ min n_6 (IntKind.i64.wrap ((s_1.length : Int) + 1)) ∧ min n_6 (IntKind.i64.wrap ((s_1.length : Int) + 1)) ≤ 274877906944) <|
    jp (S := Str × Int × List Str) (fun s => match s with
      | (s_31, i_32, o0_33) =>
        chk (0 ≤ i_32 ∧ i_32 < (o0_33.length : Int)) <|
        chk (0 ≤ IntKind.i64.wrap (i_32 + 1) ∧ IntKind.i64.wrap (i_32 + 1) ≤ ((List.set o0_33 i_32.toNat s_31).length : Int)) <|
        some (List.take ((IntKind.i64.wrap (i_32 + 1)).toNat) (List.set o0_33 i_32.toNat s_31))) fun k_34 =>
    loopN Fuel (fun s nx_54 k_53 =>
      match s with
      | (s_45, i_46, o0_47) =>
        bif decide (i_46 < (IntKind.i64.wrap ((min n_6 (IntKind.i64.wrap ((s_1.length : Int) + 1))) - 1))) then
          call (strings_Index s_45 sep_2) fun r_55 =>
          bif decide (r_55 < 0) then
            k_53 (s_45, i_46, o0_47)
          else
          chk (0 ≤ IntKind.i64.wrap (r_55 + sepSave_3) ∧ IntKind.i64.wrap (r_55 + sepSave_3) ≤ (s_45.length : Int)) <|
          chk (0 ≤ i_46 ∧ i_46 < (o0_47.length : Int)) <|
          chk (0 ≤ IntKind.i64.wrap (r_55 + (sep_2.length : Int)) ∧ IntKind.i64.wrap (r_55 + (sep_2.length : Int)) ≤ (s_45.length : Int)) <|
          nx_54 (List.drop ((IntKind.i64.wrap (r_55 + (sep_2.length : Int))).toNat) s_45, IntKind.i64.wrap (i_46 + 1), List.set o0_47 i_46.toNat (List.take ((IntKind.i64.wrap (r_55 + sepSave_3)).toNat) s_45))
        else
        k_53 (s_45, i_46, o0_47)) (s_1, 0, List.replicate ((min n_6 (IntKind.i64.wrap ((s_1.length : Int) + 1))).toNat) []) (fun s => match s with
      | (s_45, i_46, o0_47) =>
        k_34 (s_45, i_46, o0_47))) fun k_7 =>
  bif decide (n_4 < 0) then
    call (strings_Count s_1 sep_2) fun r_60 =>
    k_7 (IntKind.i64.wrap (r_60 + 1))
  else
  k_7 n_4
def strings_Split (s_1 : Str) (sep_2 : Str) : Option (List Str) :=
  call (strings_genSplit s_1 sep_2 0 (-1)) fun r_3 =>
  some r_3
def R_isPart (s_1 : Str) : Option Bool :=
  jp (S := Unit) (fun _ =>
    some ((((!decide (s_1 = [])) && (decide ((s_1.length : Int) ≤ 40))) && (!decide (s_1 = ([46] : Str)))) && (!decide (s_1 = ([46, 46] : Str))))) fun k_9 =>
  forL s_1 0 (fun i_14 c_16 s nx_13 k_12 =>
    bif (((((((decide ((c_16.toNat : Int) < 97)) || (decide (122 < (c_16.toNat : Int)))) && ((decide ((c_16.toNat : Int) < 65)) || (decide (90 < (c_16.toNat : Int))))) && ((decide ((c_16.toNat : Int) < 48)) || (decide (57 < (c_16.toNat : Int))))) && (!decide ((c_16.toNat : Int) = 45))) && (!decide ((c_16.toNat : Int) = 46))) && (!decide ((c_16.toNat : Int) = 95))) then
      some false
    else
    nx_13 ()) () (fun _ =>
    k_9 ())
def R_IsPath (s_1 : Str) : Option Bool :=
  jp (S := Unit) (fun _ =>
    some (decide ((s_1.length : Int) ≤ 200))) fun k_12 =>
  call (strings_Split s_1 ([47] : Str)) fun r_13 =>
  forL r_13 0 (fun i_19 s_21 s nx_18 k_17 =>
    call (R_isPart s_21) fun r_22 =>
    bif !r_22 then
      some false
    else
    nx_18 ()) () (fun _ =>
    k_12 ())
def R_fileError (f_1 : api_File) : Option Int :=
  call (R_IsPath f_1.Path) fun r_2 =>
  call (R_when (!r_2) 5) fun r_3 =>
  call (R_when (decide (65536 < (f_1.Data.length : Int))) 4) fun r_4 =>
  call (R_first [r_3, r_4]) fun r_5 =>
  some r_5
def R_settingError (s_1 : api_Setting) : Option Int :=
  call (R_IsPath s_1.Key) fun r_2 =>
  call (R_when (!r_2) 5) fun r_3 =>
  call (R_IsValue s_1.Value) fun r_4 =>
  call (R_when (!r_4) 2) fun r_5 =>
  call (R_first [r_3, r_5]) fun r_6 =>
  some r_6
def R_serviceError (s_1 : api_Service) : Option Int :=
  call (R_IsName s_1.Name) fun r_2 =>
  callG (!(!r_2)) (R_IsPath s_1.Path) false fun r_3 =>
  call (R_when ((!r_2) || (!r_3)) 5) fun r_4 =>
  some r_4
def R_Check (m_1 : api_Machine) : Option Int :=
  bif ((((decide (100 < (m_1.Facts.length : Int))) || (decide (2000 < (m_1.Files.length : Int)))) || (decide (2000 < (m_1.Settings.length : Int)))) || (decide (100 < (m_1.Services.length : Int)))) then
    some 4
  else
  jp (S := Str) (fun o1_0_35 =>
    jp (S := Str) (fun o1_0_246 =>
      jp (S := Str) (fun o1_0_269 =>
        jp (S := Unit) (fun _ =>
          some 0) fun k_292 =>
        forL m_1.Services 0 (fun i_306 s_308 o1_0_299 nx_305 k_304 =>
          call (R_serviceError s_308) fun r_309 =>
          call (R_Check_1_i1 (i_306 : Int) s_308.Name o1_0_299) fun r_310 =>
          call (R_first [r_309, r_310.1]) fun r_311 =>
          bif !decide (r_311 = 0) then
            some r_311
          else
          nx_305 r_310.2) o1_0_269 (fun o1_0_299 =>
          k_292 ())) fun k_270 =>
      forL m_1.Settings 0 (fun i_325 s_327 o1_0_318 nx_324 k_323 =>
        call (R_settingError s_327) fun r_328 =>
        call (R_Check_1_i1 (i_325 : Int) s_327.Key o1_0_318) fun r_329 =>
        call (R_first [r_328, r_329.1]) fun r_330 =>
        bif !decide (r_330 = 0) then
          some r_330
        else
        nx_324 r_329.2) o1_0_246 (fun o1_0_318 =>
        k_270 o1_0_318)) fun k_247 =>
    forL m_1.Files 0 (fun i_471 f_473 s nx_470 k_469 =>
      match s with
      | (o1_0_400, m2_401) =>
        jp (S := Str) (fun o1_0_505 =>
          nx_470 (o1_0_505, aset m2_401 f_473.Path true)) fun k_506 =>
        call (R_fileError f_473) fun r_507 =>
        call (R_Check_1_i1 (i_471 : Int) f_473.Path o1_0_400) fun r_508 =>
        call (R_first [r_507, r_508.1]) fun r_509 =>
        jp (S := Int) (fun e_522 =>
          bif !decide (e_522 = 0) then
            some e_522
          else
          chk ((aset m2_401 f_473.Path true).length ≤ 274877906944) <|
          k_506 r_508.2) fun k_523 =>
        bif decide (r_509 = 0) then
          loopN Fuel (fun s nx_533 k_532 =>
            match s with
            | (e_526, t94_527) =>
              bif decide (t94_527 < (f_473.Path.length : Int)) then
                idxS f_473.Path t94_527 fun c_534 =>
                chk ((decide (c_534 = 47)) = true → (0 ≤ t94_527 ∧ t94_527 ≤ (f_473.Path.length : Int))) <|
                letv (alook m2_401 (List.take t94_527.toNat f_473.Path)) fun q_536 =>
                bif ((decide (c_534 = 47)) && (q_536.getD false)) then
                  nx_533 (11, IntKind.i64.wrap (t94_527 + 1))
                else
                nx_533 (e_526, IntKind.i64.wrap (t94_527 + 1))
              else
              k_532 (e_526, t94_527)) (r_509, 0) (fun s => match s with
            | (e_526, t94_527) =>
              k_523 e_526)
        else
        k_523 r_509) (o1_0_35, []) (fun s => match s with
      | (o1_0_400, m2_401) =>
        k_247 o1_0_400)) fun k_36 =>
  forL m_1.Facts 0 (fun i_557 s_559 o1_0_547 nx_556 k_555 =>
    call (R_IsName s_559.Key) fun r_560 =>
    call (R_when (!r_560) 5) fun r_561 =>
    call (R_IsValue s_559.Value) fun r_562 =>
    call (R_when (!r_562) 2) fun r_563 =>
    call (R_Check_1_i1 (i_557 : Int) s_559.Key o1_0_547) fun r_564 =>
    call (R_first [r_561, r_563, r_564.1]) fun r_565 =>
    bif !decide (r_565 = 0) then
      some r_565
    else
    nx_556 r_564.2) [] (fun o1_0_547 =>
    k_36 o1_0_547)
def ver_IsValue_1 (c_1 : Int) : Option Bool :=
  some ((decide (32 ≤ c_1)) && (decide (c_1 ≤ 126)))
def ver_each_i2 (s_1 : Str) (most_2 : Int) : Option Bool :=
  jp (S := Unit) (fun _ =>
    some ((!decide (s_1 = [])) && (decide ((s_1.length : Int) ≤ most_2)))) fun k_12 =>
  forL s_1 0 (fun i_18 c_20 s nx_17 k_16 =>
    call (ver_IsValue_1 (c_20.toNat : Int)) fun r_21 =>
    bif !r_21 then
      some false
    else
    nx_17 ()) () (fun _ =>
    k_12 ())
def ver_IsValue (s_1 : Str) : Option Bool :=
  callG (!(decide (s_1 = []))) (ver_each_i2 s_1 1000) false fun r_2 =>
  some ((decide (s_1 = [])) || r_2)
def disk_settingFault_i1 (s_1 : api_Setting) : Option Int :=
  call (ver_IsName s_1.Key) fun r_2 =>
  bif !r_2 then
    some 5
  else
  call (ver_IsValue s_1.Value) fun r_3 =>
  bif !r_3 then
    some 2
  else
  some 0
def disk_Check_1 (s_1 : api_Setting) : Option Int :=
  call (disk_settingFault_i1 s_1) fun r_2 =>
  some r_2
def disk_keyOf (s_1 : api_Setting) : Option Str :=
  some s_1.Key
def disk_eachFault_api_Setting_i1 (l_1 : List api_Setting) : Option Int :=
  jp (S := Unit) (fun _ =>
    some 0) fun k_19 =>
  forL l_1 0 (fun i_29 s_31 s nx_28 k_27 =>
    call (disk_Check_1 s_31) fun r_32 =>
    bif !decide (r_32 = 0) then
      some r_32
    else
    callG (decide (0 < (i_29 : Int))) (disk_keyOf s_31) [] fun r_33 =>
    chk ((decide (0 < (i_29 : Int))) = true → (0 ≤ IntKind.i64.wrap ((i_29 : Int) - 1) ∧ IntKind.i64.wrap ((i_29 : Int) - 1) < (l_1.length : Int))) <|
    callG (decide (0 < (i_29 : Int))) (disk_keyOf (api_Setting.mk ((l_1.getD ((IntKind.i64.wrap ((i_29 : Int) - 1)).toNat) (api_Setting.mk [] [])).Key) ((l_1.getD ((IntKind.i64.wrap ((i_29 : Int) - 1)).toNat) (api_Setting.mk [] [])).Value))) [] fun r_35 =>
    bif ((decide (0 < (i_29 : Int))) && (strLt r_33 r_35 || decide (r_33 = r_35))) then
      some 7
    else
    nx_28 ()) () (fun _ =>
    k_19 ())
def ver_isPart_1 (c_1 : Int) : Option Bool :=
  call (ver_isSmall c_1) fun r_2 =>
  callG (!(r_2 || ((decide (65 ≤ c_1)) && (decide (c_1 ≤ 90))))) (ver_isDigit c_1) false fun r_3 =>
  some (((((r_2 || ((decide (65 ≤ c_1)) && (decide (c_1 ≤ 90)))) || r_3) || (decide (c_1 = 45))) || (decide (c_1 = 46))) || (decide (c_1 = 95)))
def ver_each_i3 (s_1 : Str) (most_2 : Int) : Option Bool :=
  jp (S := Unit) (fun _ =>
    some ((!decide (s_1 = [])) && (decide ((s_1.length : Int) ≤ most_2)))) fun k_12 =>
  forL s_1 0 (fun i_18 c_20 s nx_17 k_16 =>
    call (ver_isPart_1 (c_20.toNat : Int)) fun r_21 =>
    bif !r_21 then
      some false
    else
    nx_17 ()) () (fun _ =>
    k_12 ())
def ver_isPart (s_1 : Str) : Option Bool :=
  call (ver_each_i3 s_1 40) fun r_2 =>
  some ((r_2 && (!decide (s_1 = ([46] : Str)))) && (!decide (s_1 = ([46, 46] : Str))))
def ver_IsPath (s_1 : Str) : Option Bool :=
  jp (S := Unit) (fun _ =>
    some (decide ((s_1.length : Int) ≤ 200))) fun k_12 =>
  call (strings_Split s_1 ([47] : Str)) fun r_13 =>
  forL r_13 0 (fun i_19 s_21 s nx_18 k_17 =>
    call (ver_isPart s_21) fun r_22 =>
    bif !r_22 then
      some false
    else
    nx_18 ()) () (fun _ =>
    k_12 ())
def disk_fileFault (f_1 : api_File) : Option Int :=
  call (ver_IsPath f_1.Path) fun r_2 =>
  bif !r_2 then
    some 5
  else
  bif decide (65536 < (f_1.Data.length : Int)) then
    some 4
  else
  some 0
def disk_Check_2_i1 (dir_1 : Str) (m1_2 : List (Str × Bool)) : Option Bool :=
  letv (alook m1_2 dir_1) fun q_5 =>
  some (!(q_5.getD false))
def disk_above_i1 (path_1 : Str) (m1_2 : List (Str × Bool)) : Option Bool :=
  jp (S := Unit) (fun _ =>
    some true) fun k_37 =>
  forL path_1 0 (fun i_44 c_46 s nx_43 k_42 =>
    chk ((decide ((c_46.toNat : Int) = 47)) = true → (0 ≤ (i_44 : Int) ∧ (i_44 : Int) ≤ (path_1.length : Int))) <|
    callG (decide ((c_46.toNat : Int) = 47)) (disk_Check_2_i1 (List.take i_44 path_1) m1_2) false fun r_48 =>
    bif ((decide ((c_46.toNat : Int) = 47)) && (!r_48)) then
      some false
    else
    nx_43 ()) () (fun _ =>
    k_37 ())
def disk_settingFault_i2 (s_1 : api_Setting) : Option Int :=
  call (ver_IsPath s_1.Key) fun r_2 =>
  bif !r_2 then
    some 5
  else
  call (ver_IsValue s_1.Value) fun r_3 =>
  bif !r_3 then
    some 2
  else
  some 0
def disk_Check_3 (s_1 : api_Setting) : Option Int :=
  call (disk_settingFault_i2 s_1) fun r_2 =>
  some r_2
def disk_eachFault_api_Setting_i2 (l_1 : List api_Setting) : Option Int :=
  jp (S := Unit) (fun _ =>
    some 0) fun k_19 =>
  forL l_1 0 (fun i_29 s_31 s nx_28 k_27 =>
    call (disk_Check_3 s_31) fun r_32 =>
    bif !decide (r_32 = 0) then
      some r_32
    else
    callG (decide (0 < (i_29 : Int))) (disk_keyOf s_31) [] fun r_33 =>
    chk ((decide (0 < (i_29 : Int))) = true → (0 ≤ IntKind.i64.wrap ((i_29 : Int) - 1) ∧ IntKind.i64.wrap ((i_29 : Int) - 1) < (l_1.length : Int))) <|
    callG (decide (0 < (i_29 : Int))) (disk_keyOf (api_Setting.mk ((l_1.getD ((IntKind.i64.wrap ((i_29 : Int) - 1)).toNat) (api_Setting.mk [] [])).Key) ((l_1.getD ((IntKind.i64.wrap ((i_29 : Int) - 1)).toNat) (api_Setting.mk [] [])).Value))) [] fun r_35 =>
    bif ((decide (0 < (i_29 : Int))) && (strLt r_33 r_35 || decide (r_33 = r_35))) then
      some 7
    else
    nx_28 ()) () (fun _ =>
    k_19 ())
def disk_serviceFault (s_1 : api_Service) : Option Int :=
  call (ver_IsName s_1.Name) fun r_2 =>
  callG (!(!r_2)) (ver_IsPath s_1.Path) false fun r_3 =>
  bif ((!r_2) || (!r_3)) then
    some 5
  else
  some 0
def disk_nameOf (s_1 : api_Service) : Option Str :=
  some s_1.Name
def disk_eachFault_api_Service_i1 (l_1 : List api_Service) : Option Int :=
  jp (S := Unit) (fun _ =>
    some 0) fun k_19 =>
  forL l_1 0 (fun i_29 s_31 s nx_28 k_27 =>
    call (disk_serviceFault s_31) fun r_32 =>
    bif !decide (r_32 = 0) then
      some r_32
    else
    callG (decide (0 < (i_29 : Int))) (disk_nameOf s_31) [] fun r_33 =>
    chk ((decide (0 < (i_29 : Int))) = true → (0 ≤ IntKind.i64.wrap ((i_29 : Int) - 1) ∧ IntKind.i64.wrap ((i_29 : Int) - 1) < (l_1.length : Int))) <|
    callG (decide (0 < (i_29 : Int))) (disk_nameOf (api_Service.mk ((l_1.getD ((IntKind.i64.wrap ((i_29 : Int) - 1)).toNat) (api_Service.mk [] [] false false)).Name) ((l_1.getD ((IntKind.i64.wrap ((i_29 : Int) - 1)).toNat) (api_Service.mk [] [] false false)).Path) ((l_1.getD ((IntKind.i64.wrap ((i_29 : Int) - 1)).toNat) (api_Service.mk [] [] false false)).Auto) ((l_1.getD ((IntKind.i64.wrap ((i_29 : Int) - 1)).toNat) (api_Service.mk [] [] false false)).On))) [] fun r_35 =>
    bif ((decide (0 < (i_29 : Int))) && (strLt r_33 r_35 || decide (r_33 = r_35))) then
      some 7
    else
    nx_28 ()) () (fun _ =>
    k_19 ())
def disk_Check (m_1 : api_Machine) : Option Int :=
  bif ((((decide (100 < (m_1.Facts.length : Int))) || (decide (2000 < (m_1.Files.length : Int)))) || (decide (2000 < (m_1.Settings.length : Int)))) || (decide (100 < (m_1.Services.length : Int)))) then
    some 4
  else
  call (disk_eachFault_api_Setting_i1 m_1.Facts) fun r_2 =>
  bif !decide (r_2 = 0) then
    some r_2
  else
  jp (S := Unit) (fun _ =>
    call (disk_eachFault_api_Setting_i2 m_1.Settings) fun r_28 =>
    bif !decide (r_28 = 0) then
      some r_28
    else
    call (disk_eachFault_api_Service_i1 m_1.Services) fun r_29 =>
    some r_29) fun k_27 =>
  forL m_1.Files 0 (fun i_47 f_49 s nx_46 k_45 =>
    match s with
    | (before_37, m1_39) =>
      call (disk_fileFault f_49) fun r_50 =>
      bif !decide (r_50 = 0) then
        some r_50
      else
      bif ((decide (0 < (i_47 : Int))) && (strLt f_49.Path before_37 || decide (f_49.Path = before_37))) then
        some 7
      else
      call (disk_above_i1 f_49.Path m1_39) fun r_51 =>
      bif !r_51 then
        some 11
      else
      chk ((aset m1_39 f_49.Path true).length ≤ 274877906944) <|
      nx_46 (f_49.Path, aset m1_39 f_49.Path true)) ([], []) (fun s => match s with
    | (before_37, m1_39) =>
      k_27 ())
def disk_Size (m_1 : api_Machine) : Option (Int × Int) :=
  call (disk_Check m_1) fun r_2 =>
  bif !decide (r_2 = 0) then
    some (0, r_2)
  else
  jp (S := Int) (fun n_11 =>
    some (n_11, 0)) fun k_12 =>
  forL m_1.Files 0 (fun i_18 f_20 n_13 nx_17 k_16 =>
    nx_17 (IntKind.i64.wrap (n_13 + (f_20.Data.length : Int)))) 0 (fun n_13 =>
    k_12 n_13)
def disk_Print (m_1 : api_Machine) : Option (Str × Int) :=
  call (disk_Check m_1) fun r_2 =>
  bif !decide (r_2 = 0) then
    some ([], r_2)
  else
  none
def disk_SumOf (text_1 : Str) : Option Str :=
  jp (S := Int) (fun n_10 =>
    jp (S := List Int) (fun o0_29 =>
      some (strOf o0_29)) fun k_30 =>
    loopN Fuel (fun s nx_43 k_42 =>
      match s with
      | (t23_36, o0_37) =>
        bif decide (t23_36 < ((List.replicate 16 0).length : Int)) then
          chk (0 ≤ (IntKind.i64.wrap (60 - (IntKind.i64.wrap (4 * t23_36))))) <|
          idxS ([48, 49, 50, 51, 52, 53, 54, 55, 56, 57, 97, 98, 99, 100, 101, 102] : Str) (bitsI .and .u64 (Int.fdiv n_10 (2 ^ (shI .u64 (IntKind.i64.wrap (60 - (IntKind.i64.wrap (4 * t23_36))))))) 15) fun c_45 =>
          chk (0 ≤ t23_36 ∧ t23_36 < (o0_37.length : Int)) <|
          nx_43 (IntKind.i64.wrap (t23_36 + 1), List.set o0_37 t23_36.toNat c_45)
        else
        k_42 (t23_36, o0_37)) (0, List.replicate 16 0) (fun s => match s with
      | (t23_36, o0_37) =>
        k_30 o0_37)) fun k_11 =>
  forL text_1 0 (fun i_53 c_55 n_48 nx_52 k_51 =>
    nx_52 (IntKind.u64.wrap ((bitsI .xor .u64 n_48 (IntKind.u64.wrap (c_55.toNat : Int))) * 1099511628211))) 14695981039346656037 (fun n_48 =>
    k_11 n_48)
def disk_Sum (m_1 : api_Machine) : Option (Str × Int) :=
  call (disk_Print m_1) fun r_2 =>
  bif !decide (r_2.2 = 0) then
    some ([], r_2.2)
  else
  call (disk_SumOf r_2.1) fun r_3 =>
  some (r_3, 0)
def disk_Boot (m_1 : api_Machine) : Option (api_Machine × Int) :=
  call (disk_Check m_1) fun r_2 =>
  bif !decide (r_2 = 0) then
    some ((api_Machine.mk [] [] [] []), r_2)
  else
  none
def slices_Equal_api_Setting_api_Setting (s1_1 : List api_Setting) (s2_2 : List api_Setting) : Option Bool :=
  bif !decide ((s1_1.length : Int) = (s2_2.length : Int)) then
    some false
  else
  jp (S := Unit) (fun _ =>
    some true) fun k_12 =>
  forL s1_1 0 (fun i_18 s_20 s nx_17 k_16 =>
    idx s2_2 (i_18 : Int) fun s_21 =>
    bif !((decide (s_20.Key = s_21.Key)) && (decide (s_20.Value = s_21.Value))) then
      some false
    else
    nx_17 ()) () (fun _ =>
    k_12 ())
def slices_Equal_api_File_api_File (s1_1 : List api_File) (s2_2 : List api_File) : Option Bool :=
  bif !decide ((s1_1.length : Int) = (s2_2.length : Int)) then
    some false
  else
  jp (S := Unit) (fun _ =>
    some true) fun k_12 =>
  forL s1_1 0 (fun i_18 f_20 s nx_17 k_16 =>
    idx s2_2 (i_18 : Int) fun f_21 =>
    bif !((decide (f_20.Path = f_21.Path)) && ((decide (f_20.Data = f_21.Data)) && (decide (f_20.Runs = f_21.Runs)))) then
      some false
    else
    nx_17 ()) () (fun _ =>
    k_12 ())
def slices_Equal_api_Service_api_Service (s1_1 : List api_Service) (s2_2 : List api_Service) : Option Bool :=
  bif !decide ((s1_1.length : Int) = (s2_2.length : Int)) then
    some false
  else
  jp (S := Unit) (fun _ =>
    some true) fun k_12 =>
  forL s1_1 0 (fun i_18 s_20 s nx_17 k_16 =>
    idx s2_2 (i_18 : Int) fun s_21 =>
    bif !((decide (s_20.Name = s_21.Name)) && ((decide (s_20.Path = s_21.Path)) && ((decide (s_20.Auto = s_21.Auto)) && (decide (s_20.On = s_21.On))))) then
      some false
    else
    nx_17 ()) () (fun _ =>
    k_12 ())
def R_Same (a_1 : api_Machine) (b_2 : api_Machine) : Option Bool :=
  call (slices_Equal_api_Setting_api_Setting a_1.Facts b_2.Facts) fun r_3 =>
  callG r_3 (slices_Equal_api_File_api_File a_1.Files b_2.Files) false fun r_4 =>
  callG (r_3 && r_4) (slices_Equal_api_Setting_api_Setting a_1.Settings b_2.Settings) false fun r_5 =>
  callG ((r_3 && r_4) && r_5) (slices_Equal_api_Service_api_Service a_1.Services b_2.Services) false fun r_6 =>
  some (((r_3 && r_4) && r_5) && r_6)
def Law_zero (m_1 : api_Machine) : Option Bool :=
  call (R_Same m_1 (api_Machine.mk [] [] [] [])) fun r_2 =>
  some r_2
def Law_MachinesCheck (m_1 : api_Machine) : Option Bool :=
  call (Law_landed) fun r_2 =>
  bif !r_2 then
    some false
  else
  call (R_Check m_1) fun r_3 =>
  call (disk_Check m_1) fun r_4 =>
  bif !decide (r_4 = r_3) then
    some false
  else
  bif decide (r_3 = 0) then
    some true
  else
  call (disk_Size m_1) fun r_5 =>
  call (disk_Sum m_1) fun r_6 =>
  call (disk_Print m_1) fun r_7 =>
  call (disk_Boot m_1) fun r_8 =>
  callG ((((decide (r_5.2 = r_3)) && (decide (r_6.2 = r_3))) && (decide (r_7.2 = r_3))) && (decide (r_8.2 = r_3))) (Law_zero (api_Machine.mk r_8.1.Facts r_8.1.Files r_8.1.Settings r_8.1.Services)) false fun r_9 =>
  some (((((decide (r_5.2 = r_3)) && (decide (r_6.2 = r_3))) && (decide (r_7.2 = r_3))) && (decide (r_8.2 = r_3))) && r_9)
end Go.Md
