/- Models of the functions that the statement reaches: what each computes, in plain words. -/
import Derived.Test.YtbfemlilfeahkaaDoorVc2
set_option linter.unusedVariables false
namespace Go.Md
open Go.Vc
def encB (b : Bool) : List Dt := [.b b]
def encS (x : Str) : List Dt := [.s x]
def encI_i8 (n : Int) : List Dt := [.i .i8 n]
def encI_i16 (n : Int) : List Dt := [.i .i16 n]
def encI_i32 (n : Int) : List Dt := [.i .i32 n]
def encI_i64 (n : Int) : List Dt := [.i .i64 n]
def encI_u8 (n : Int) : List Dt := [.i .u8 n]
def encI_u16 (n : Int) : List Dt := [.i .u16 n]
def encI_u32 (n : Int) : List Dt := [.i .u32 n]
def encI_u64 (n : Int) : List Dt := [.i .u64 n]
theorem dec1_s : ∀ r, hasR r [.s] → ∃ x, r = encS x := by
  intro r h
  rcases r with _ | ⟨d, _ | _⟩ <;> simp only [hasR, and_false, and_true] at h
  cases d <;> simp only [hasT] at h
  exact ⟨_, rfl⟩
theorem dec1_i64 : ∀ r, hasR r [.i .i64] → ∃ x, r = encI_i64 x := by
  intro r h
  rcases r with _ | ⟨d, _ | _⟩ <;> simp only [hasR, and_false, and_true] at h
  cases d <;> simp only [hasT] at h
  subst h
  exact ⟨_, rfl⟩
theorem dec1_u8 : ∀ r, hasR r [.i .u8] → ∃ x, r = encI_u8 x := by
  intro r h
  rcases r with _ | ⟨d, _ | _⟩ <;> simp only [hasR, and_false, and_true] at h
  cases d <;> simp only [hasT] at h
  subst h
  exact ⟨_, rfl⟩
structure api_Setting where
  Key : Str
  Value : Str
def enc_api_Setting (x : api_Setting) : List Dt := [.s x.Key, .s x.Value]
def sh_api_Setting : List Sh := [.s, .s]
theorem dec_api_Setting : ∀ r, hasR r sh_api_Setting → ∃ x : api_Setting, r = enc_api_Setting x := by
  intro r h
  unfold sh_api_Setting at h
  rcases r with _ | ⟨d0, _ | ⟨d1, _ | _⟩⟩ <;> simp only [hasR, and_false, and_true] at h
  obtain ⟨h0, h1⟩ := h
  cases d0 <;> simp only [hasT] at h0
  cases d1 <;> simp only [hasT] at h1
  exact ⟨⟨_, _⟩, rfl⟩
structure api_File where
  Path : Str
  Data : Str
  Runs : Bool
def enc_api_File (x : api_File) : List Dt := [.s x.Path, .s x.Data, .b x.Runs]
def sh_api_File : List Sh := [.s, .s, .b]
theorem dec_api_File : ∀ r, hasR r sh_api_File → ∃ x : api_File, r = enc_api_File x := by
  intro r h
  unfold sh_api_File at h
  rcases r with _ | ⟨d0, _ | ⟨d1, _ | ⟨d2, _ | _⟩⟩⟩ <;> simp only [hasR, and_false, and_true] at h
  obtain ⟨h0, h1, h2⟩ := h
  cases d0 <;> simp only [hasT] at h0
  cases d1 <;> simp only [hasT] at h1
  cases d2 <;> simp only [hasT] at h2
  exact ⟨⟨_, _, _⟩, rfl⟩
structure api_Service where
  Name : Str
  Path : Str
  Auto : Bool
  On : Bool
def enc_api_Service (x : api_Service) : List Dt := [.s x.Name, .s x.Path, .b x.Auto, .b x.On]
def sh_api_Service : List Sh := [.s, .s, .b, .b]
theorem dec_api_Service : ∀ r, hasR r sh_api_Service → ∃ x : api_Service, r = enc_api_Service x := by
  intro r h
  unfold sh_api_Service at h
  rcases r with _ | ⟨d0, _ | ⟨d1, _ | ⟨d2, _ | ⟨d3, _ | _⟩⟩⟩⟩ <;> simp only [hasR, and_false, and_true] at h
  obtain ⟨h0, h1, h2, h3⟩ := h
  cases d0 <;> simp only [hasT] at h0
  cases d1 <;> simp only [hasT] at h1
  cases d2 <;> simp only [hasT] at h2
  cases d3 <;> simp only [hasT] at h3
  exact ⟨⟨_, _, _, _⟩, rfl⟩
structure api_Machine where
  Facts : List api_Setting
  Files : List api_File
  Settings : List api_Setting
  Services : List api_Service
def enc_api_Machine (x : api_Machine) : List Dt := [.l (List.map enc_api_Setting x.Facts), .l (List.map enc_api_File x.Files), .l (List.map enc_api_Setting x.Settings), .l (List.map enc_api_Service x.Services)]
def sh_api_Machine : List Sh := [.l sh_api_Setting, .l sh_api_File, .l sh_api_Setting, .l sh_api_Service]
theorem dec_api_Machine : ∀ r, hasR r sh_api_Machine → ∃ x : api_Machine, r = enc_api_Machine x := by
  intro r h
  unfold sh_api_Machine at h
  rcases r with _ | ⟨d0, _ | ⟨d1, _ | ⟨d2, _ | ⟨d3, _ | _⟩⟩⟩⟩ <;> simp only [hasR, and_false, and_true] at h
  obtain ⟨h0, h1, h2, h3⟩ := h
  cases d0 <;> simp only [hasT] at h0
  obtain ⟨l0, rfl⟩ := hasRs_map dec_api_Setting h0
  cases d1 <;> simp only [hasT] at h1
  obtain ⟨l1, rfl⟩ := hasRs_map dec_api_File h1
  cases d2 <;> simp only [hasT] at h2
  obtain ⟨l2, rfl⟩ := hasRs_map dec_api_Setting h2
  cases d3 <;> simp only [hasT] at h3
  obtain ⟨l3, rfl⟩ := hasRs_map dec_api_Service h3
  exact ⟨⟨_, _, _, _⟩, rfl⟩
structure disk_line where
  word : Str
  file : api_File
  setting : api_Setting
  service : api_Service
def enc_disk_line (x : disk_line) : List Dt := [.s x.word, .s x.file.Path, .s x.file.Data, .b x.file.Runs, .s x.setting.Key, .s x.setting.Value, .s x.service.Name, .s x.service.Path, .b x.service.Auto, .b x.service.On]
def sh_disk_line : List Sh := [.s, .s, .s, .b, .s, .s, .s, .s, .b, .b]
theorem dec_disk_line : ∀ r, hasR r sh_disk_line → ∃ x : disk_line, r = enc_disk_line x := by
  intro r h
  unfold sh_disk_line at h
  rcases r with _ | ⟨d0, _ | ⟨d1, _ | ⟨d2, _ | ⟨d3, _ | ⟨d4, _ | ⟨d5, _ | ⟨d6, _ | ⟨d7, _ | ⟨d8, _ | ⟨d9, _ | _⟩⟩⟩⟩⟩⟩⟩⟩⟩⟩ <;> simp only [hasR, and_false, and_true] at h
  obtain ⟨h0, h1, h2, h3, h4, h5, h6, h7, h8, h9⟩ := h
  cases d0 <;> simp only [hasT] at h0
  cases d1 <;> simp only [hasT] at h1
  cases d2 <;> simp only [hasT] at h2
  cases d3 <;> simp only [hasT] at h3
  cases d4 <;> simp only [hasT] at h4
  cases d5 <;> simp only [hasT] at h5
  cases d6 <;> simp only [hasT] at h6
  cases d7 <;> simp only [hasT] at h7
  cases d8 <;> simp only [hasT] at h8
  cases d9 <;> simp only [hasT] at h9
  exact ⟨⟨_, ⟨_, _, _⟩, ⟨_, _⟩, ⟨_, _, _, _⟩⟩, rfl⟩
structure api_Change where
  Kind : Int
  File : api_File
  Setting : api_Setting
  Service : api_Service
def enc_api_Change (x : api_Change) : List Dt := [.i .i64 x.Kind, .s x.File.Path, .s x.File.Data, .b x.File.Runs, .s x.Setting.Key, .s x.Setting.Value, .s x.Service.Name, .s x.Service.Path, .b x.Service.Auto, .b x.Service.On]
def sh_api_Change : List Sh := [.i .i64, .s, .s, .b, .s, .s, .s, .s, .b, .b]
theorem dec_api_Change : ∀ r, hasR r sh_api_Change → ∃ x : api_Change, r = enc_api_Change x := by
  intro r h
  unfold sh_api_Change at h
  rcases r with _ | ⟨d0, _ | ⟨d1, _ | ⟨d2, _ | ⟨d3, _ | ⟨d4, _ | ⟨d5, _ | ⟨d6, _ | ⟨d7, _ | ⟨d8, _ | ⟨d9, _ | _⟩⟩⟩⟩⟩⟩⟩⟩⟩⟩ <;> simp only [hasR, and_false, and_true] at h
  obtain ⟨h0, h1, h2, h3, h4, h5, h6, h7, h8, h9⟩ := h
  cases d0 <;> simp only [hasT] at h0
  subst h0
  cases d1 <;> simp only [hasT] at h1
  cases d2 <;> simp only [hasT] at h2
  cases d3 <;> simp only [hasT] at h3
  cases d4 <;> simp only [hasT] at h4
  cases d5 <;> simp only [hasT] at h5
  cases d6 <;> simp only [hasT] at h6
  cases d7 <;> simp only [hasT] at h7
  cases d8 <;> simp only [hasT] at h8
  cases d9 <;> simp only [hasT] at h9
  exact ⟨⟨_, ⟨_, _, _⟩, ⟨_, _⟩, ⟨_, _, _, _⟩⟩, rfl⟩
structure api_Item where
  Kind : Int
  File : api_File
  Setting : api_Setting
  Service : api_Service
def enc_api_Item (x : api_Item) : List Dt := [.i .i64 x.Kind, .s x.File.Path, .s x.File.Data, .b x.File.Runs, .s x.Setting.Key, .s x.Setting.Value, .s x.Service.Name, .s x.Service.Path, .b x.Service.Auto, .b x.Service.On]
def sh_api_Item : List Sh := [.i .i64, .s, .s, .b, .s, .s, .s, .s, .b, .b]
theorem dec_api_Item : ∀ r, hasR r sh_api_Item → ∃ x : api_Item, r = enc_api_Item x := by
  intro r h
  unfold sh_api_Item at h
  rcases r with _ | ⟨d0, _ | ⟨d1, _ | ⟨d2, _ | ⟨d3, _ | ⟨d4, _ | ⟨d5, _ | ⟨d6, _ | ⟨d7, _ | ⟨d8, _ | ⟨d9, _ | _⟩⟩⟩⟩⟩⟩⟩⟩⟩⟩ <;> simp only [hasR, and_false, and_true] at h
  obtain ⟨h0, h1, h2, h3, h4, h5, h6, h7, h8, h9⟩ := h
  cases d0 <;> simp only [hasT] at h0
  subst h0
  cases d1 <;> simp only [hasT] at h1
  cases d2 <;> simp only [hasT] at h2
  cases d3 <;> simp only [hasT] at h3
  cases d4 <;> simp only [hasT] at h4
  cases d5 <;> simp only [hasT] at h5
  cases d6 <;> simp only [hasT] at h6
  cases d7 <;> simp only [hasT] at h7
  cases d8 <;> simp only [hasT] at h8
  cases d9 <;> simp only [hasT] at h9
  exact ⟨⟨_, ⟨_, _, _⟩, ⟨_, _⟩, ⟨_, _, _, _⟩⟩, rfl⟩
structure api_Held where
  Owner : Str
  Kind : Int
  Path : Str
  Sum : Str
  Base : Str
def enc_api_Held (x : api_Held) : List Dt := [.s x.Owner, .i .i64 x.Kind, .s x.Path, .s x.Sum, .s x.Base]
def sh_api_Held : List Sh := [.s, .i .i64, .s, .s, .s]
theorem dec_api_Held : ∀ r, hasR r sh_api_Held → ∃ x : api_Held, r = enc_api_Held x := by
  intro r h
  unfold sh_api_Held at h
  rcases r with _ | ⟨d0, _ | ⟨d1, _ | ⟨d2, _ | ⟨d3, _ | ⟨d4, _ | _⟩⟩⟩⟩⟩ <;> simp only [hasR, and_false, and_true] at h
  obtain ⟨h0, h1, h2, h3, h4⟩ := h
  cases d0 <;> simp only [hasT] at h0
  cases d1 <;> simp only [hasT] at h1
  subst h1
  cases d2 <;> simp only [hasT] at h2
  cases d3 <;> simp only [hasT] at h3
  cases d4 <;> simp only [hasT] at h4
  exact ⟨⟨_, _, _, _, _⟩, rfl⟩
structure api_Keep where
  Held : List api_Held
def enc_api_Keep (x : api_Keep) : List Dt := [.l (List.map enc_api_Held x.Held)]
def sh_api_Keep : List Sh := [.l sh_api_Held]
theorem dec_api_Keep : ∀ r, hasR r sh_api_Keep → ∃ x : api_Keep, r = enc_api_Keep x := by
  intro r h
  unfold sh_api_Keep at h
  rcases r with _ | ⟨d0, _ | _⟩ <;> simp only [hasR, and_false, and_true] at h
  have h0 := h
  cases d0 <;> simp only [hasT] at h0
  obtain ⟨l0, rfl⟩ := hasRs_map dec_api_Held h0
  exact ⟨⟨_⟩, rfl⟩
structure outref1_place where
  t : Int
  p : Str
def enc_outref1_place (x : outref1_place) : List Dt := [.i .i64 x.t, .s x.p]
def sh_outref1_place : List Sh := [.i .i64, .s]
theorem dec_outref1_place : ∀ r, hasR r sh_outref1_place → ∃ x : outref1_place, r = enc_outref1_place x := by
  intro r h
  unfold sh_outref1_place at h
  rcases r with _ | ⟨d0, _ | ⟨d1, _ | _⟩⟩ <;> simp only [hasR, and_false, and_true] at h
  obtain ⟨h0, h1⟩ := h
  cases d0 <;> simp only [hasT] at h0
  subst h0
  cases d1 <;> simp only [hasT] at h1
  exact ⟨⟨_, _⟩, rfl⟩
theorem sz_encB : ∀ l, szOk (1) (List.map encB l) = True := fun l => eq_true (by intro r hr; obtain ⟨x, _, rfl⟩ := List.mem_map.1 hr; rfl)
theorem sz_encS : ∀ l, szOk (1) (List.map encS l) = True := fun l => eq_true (by intro r hr; obtain ⟨x, _, rfl⟩ := List.mem_map.1 hr; rfl)
theorem sz_encI_i64 : ∀ l, szOk (1) (List.map encI_i64 l) = True := fun l => eq_true (by intro r hr; obtain ⟨x, _, rfl⟩ := List.mem_map.1 hr; rfl)
theorem sz_encI_u8 : ∀ l, szOk (1) (List.map encI_u8 l) = True := fun l => eq_true (by intro r hr; obtain ⟨x, _, rfl⟩ := List.mem_map.1 hr; rfl)
theorem sz_encI_u64 : ∀ l, szOk (1) (List.map encI_u64 l) = True := fun l => eq_true (by intro r hr; obtain ⟨x, _, rfl⟩ := List.mem_map.1 hr; rfl)
theorem sz_encI_i32 : ∀ l, szOk (1) (List.map encI_i32 l) = True := fun l => eq_true (by intro r hr; obtain ⟨x, _, rfl⟩ := List.mem_map.1 hr; rfl)
theorem sz_encI_u32 : ∀ l, szOk (1) (List.map encI_u32 l) = True := fun l => eq_true (by intro r hr; obtain ⟨x, _, rfl⟩ := List.mem_map.1 hr; rfl)
theorem sz_enc_api_Setting : ∀ l, szOk (2) (List.map enc_api_Setting l) = True := fun l => eq_true (by intro r hr; obtain ⟨x, _, rfl⟩ := List.mem_map.1 hr; rfl)
theorem sz_enc_api_File : ∀ l, szOk (3) (List.map enc_api_File l) = True := fun l => eq_true (by intro r hr; obtain ⟨x, _, rfl⟩ := List.mem_map.1 hr; rfl)
theorem sz_enc_api_Service : ∀ l, szOk (4) (List.map enc_api_Service l) = True := fun l => eq_true (by intro r hr; obtain ⟨x, _, rfl⟩ := List.mem_map.1 hr; rfl)
theorem sz_enc_api_Machine : ∀ l, szOk (4) (List.map enc_api_Machine l) = True := fun l => eq_true (by intro r hr; obtain ⟨x, _, rfl⟩ := List.mem_map.1 hr; rfl)
theorem sz_enc_disk_line : ∀ l, szOk (10) (List.map enc_disk_line l) = True := fun l => eq_true (by intro r hr; obtain ⟨x, _, rfl⟩ := List.mem_map.1 hr; rfl)
theorem sz_enc_api_Change : ∀ l, szOk (10) (List.map enc_api_Change l) = True := fun l => eq_true (by intro r hr; obtain ⟨x, _, rfl⟩ := List.mem_map.1 hr; rfl)
theorem sz_enc_api_Item : ∀ l, szOk (10) (List.map enc_api_Item l) = True := fun l => eq_true (by intro r hr; obtain ⟨x, _, rfl⟩ := List.mem_map.1 hr; rfl)
theorem sz_enc_api_Held : ∀ l, szOk (5) (List.map enc_api_Held l) = True := fun l => eq_true (by intro r hr; obtain ⟨x, _, rfl⟩ := List.mem_map.1 hr; rfl)
theorem sz_enc_api_Keep : ∀ l, szOk (1) (List.map enc_api_Keep l) = True := fun l => eq_true (by intro r hr; obtain ⟨x, _, rfl⟩ := List.mem_map.1 hr; rfl)
theorem sz_enc_outref1_place : ∀ l, szOk (2) (List.map enc_outref1_place l) = True := fun l => eq_true (by intro r hr; obtain ⟨x, _, rfl⟩ := List.mem_map.1 hr; rfl)
theorem allB_enc : ∀ l : List Int, allB (List.map encI_u8 l) = True
  | [] => by simp only [List.map_nil, allB]
  | _ :: l => by simp only [List.map_cons, encI_u8, allB, allB_enc l, and_self]
theorem unB_enc : ∀ l : List Int, unB (List.map encI_u8 l) = strOf l
  | [] => by simp only [List.map_nil, unB, strOf]
  | _ :: l => by simp only [List.map_cons, encI_u8, unB, unB_enc l, strOf]
theorem bR_enc (l : Str) : bR l = List.map encI_u8 (bytesOf l) := by simp [bR, bytesOf, encI_u8]
attribute [go_sem] allB_enc unB_enc bR_enc
attribute [go_sem] encB encS encI_i64 encI_u8 encI_u64 encI_i32 encI_u32 enc_api_Setting enc_api_File enc_api_Service enc_api_Machine enc_disk_line enc_api_Change enc_api_Item enc_api_Held enc_api_Keep enc_outref1_place sz_encB sz_encS sz_encI_i64 sz_encI_u8 sz_encI_u64 sz_encI_i32 sz_encI_u32 sz_enc_api_Setting sz_enc_api_File sz_enc_api_Service sz_enc_api_Machine sz_enc_disk_line sz_enc_api_Change sz_enc_api_Item sz_enc_api_Held sz_enc_api_Keep sz_enc_outref1_place
def ver_isSmall (c_1 : Int) : Option Bool :=
  some ((decide (97 ≤ c_1)) && (decide (c_1 ≤ 122)))
def ver_isDigit (c_1 : Int) : Option Bool :=
  some ((decide (48 ≤ c_1)) && (decide (c_1 ≤ 57)))
def ver_IsName_1 (c_1 : Int) : Option Bool :=
  call (ver_isSmall c_1) fun r_2 =>
  callG (!r_2) (ver_isDigit c_1) false fun r_3 =>
  some (((r_2 || r_3) || (decide (c_1 = 45))) || (decide (c_1 = 46)))
def ver_each_i1 (s_1 : Str) (most_2 : Int) : Option Bool :=
  jp (S := Unit) (fun _ =>
    some ((!decide (s_1 = [])) && (decide ((s_1.length : Int) ≤ most_2)))) fun k_12 =>
  forL s_1 0 (fun i_18 c_20 s nx_17 k_16 =>
    call (ver_IsName_1 (c_20.toNat : Int)) fun r_21 =>
    bif !r_21 then
      some false
    else
    nx_17 ()) () (fun _ =>
    k_12 ())
def ver_IsName (s_1 : Str) : Option Bool :=
  call (ver_each_i1 s_1 40) fun r_2 =>
  chk (r_2 = true → (0 ≤ 0 ∧ 0 < (s_1.length : Int))) <|
  callG r_2 (ver_isSmall ((s_1.getD 0 0).toNat : Int)) false fun r_4 =>
  some (r_2 && r_4)
def Law_landed  : Option Bool :=
  call (ver_IsName ([97] : Str)) fun r_1 =>
  some r_1
def R_IsName (s_1 : Str) : Option Bool :=
  jp (S := Unit) (fun _ =>
    some ((!decide (s_1 = [])) && (decide ((s_1.length : Int) ≤ 40)))) fun k_9 =>
  forL s_1 0 (fun i_14 c_16 s nx_13 k_12 =>
    bif (((decide ((i_14 : Int) = 0)) && (!((decide (97 ≤ (c_16.toNat : Int))) && (decide ((c_16.toNat : Int) ≤ 122))))) || ((((!((decide (97 ≤ (c_16.toNat : Int))) && (decide ((c_16.toNat : Int) ≤ 122)))) && ((decide ((c_16.toNat : Int) < 48)) || (decide (57 < (c_16.toNat : Int))))) && (!decide ((c_16.toNat : Int) = 45))) && (!decide ((c_16.toNat : Int) = 46)))) then
      some false
    else
    nx_13 ()) () (fun _ =>
    k_9 ())
def R_when (bad_1 : Bool) (e_2 : Int) : Option Int :=
  bif bad_1 then
    some e_2
  else
  some 0
def R_IsValue (s_1 : Str) : Option Bool :=
  jp (S := Unit) (fun _ =>
    some (decide ((s_1.length : Int) ≤ 1000))) fun k_9 =>
  forL s_1 0 (fun i_14 c_16 s nx_13 k_12 =>
    bif ((decide ((c_16.toNat : Int) < 32)) || (decide (126 < (c_16.toNat : Int)))) then
      some false
    else
    nx_13 ()) () (fun _ =>
    k_9 ())
def R_first (l_1 : List Int) : Option Int :=
  jp (S := Unit) (fun _ =>
    some 0) fun k_9 =>
  forL l_1 0 (fun i_14 e_16 s nx_13 k_12 =>
    bif !decide (e_16 = 0) then
      some e_16
    else
    nx_13 ()) () (fun _ =>
    k_9 ())
def internal_stringslite_IndexByte (s_1 : Str) (c_2 : Int) : Option Int :=
  some (ixByte s_1 c_2)
def internal_stringslite_Index (s_1 : Str) (substr_2 : Str) : Option Int :=
  bif ((decide ((substr_2.length : Int) = 0)) || (decide (substr_2 = s_1))) then
    some 0
  else
  bif decide ((substr_2.length : Int) = 1) then
    idxS substr_2 0 fun c_3 =>
    call (internal_stringslite_IndexByte s_1 c_3) fun r_4 =>
    some r_4
  else
  bif decide ((s_1.length : Int) ≤ (substr_2.length : Int)) then
    some (-1)
  else
  none
def strings_Index (s_1 : Str) (substr_2 : Str) : Option Int :=
  call (internal_stringslite_Index s_1 substr_2) fun r_3 =>
  some r_3
def strings_Count (s_1 : Str) (substr_2 : Str) : Option Int :=
  bif decide ((substr_2.length : Int) = 0) then
    none
  else
  bif decide ((substr_2.length : Int) = 1) then
    idxS substr_2 0 fun c_3 =>
    some (cntByte s_1 c_3)
  else
  loopN Fuel (fun s nx_15 k_14 =>
    match s with
    | (s_10, n_11) =>
      call (strings_Index s_10 substr_2) fun r_16 =>
      bif decide (r_16 = (-1)) then
        some n_11
      else
      chk (0 ≤ IntKind.i64.wrap (r_16 + (substr_2.length : Int)) ∧ IntKind.i64.wrap (r_16 + (substr_2.length : Int)) ≤ (s_10.length : Int)) <|
      nx_15 (List.drop ((IntKind.i64.wrap (r_16 + (substr_2.length : Int))).toNat) s_10, IntKind.i64.wrap (n_11 + 1))) (s_1, 0) (fun s => match s with
    | (s_10, n_11) =>
      some 0)
def strings_genSplit (s_1 : Str) (sep_2 : Str) (sepSave_3 : Int) (n_4 : Int) : Option (List Str) :=
  bif decide (n_4 = 0) then
    some []
  else
  bif decide (sep_2 = []) then
    none
  else
  jp (S := Int) (fun n_6 =>
    chk (0 ≤ min n_6 (IntKind.i64.wrap ((s_1.length : Int) + 1)) ∧ min n_6 (IntKind.i64.wrap ((s_1.length : Int) + 1)) ≤ min n_6 (IntKind.i64.wrap ((s_1.length : Int) + 1)) ∧ min n_6 (IntKind.i64.wrap ((s_1.length : Int) + 1)) ≤ 274877906944) <|
    jp (S := Str × Int × List Str) (fun s => match s with
      | (s_31, i_32, o0_33) =>
        chk (0 ≤ i_32 ∧ i_32 < (o0_33.length : Int)) <|
        chk (0 ≤ IntKind.i64.wrap (i_32 + 1) ∧ IntKind.i64.wrap (i_32 + 1) ≤ ((List.set o0_33 i_32.toNat s_31).length : Int)) <|
        some (List.take ((IntKind.i64.wrap (i_32 + 1)).toNat) (List.set o0_33 i_32.toNat s_31))) fun k_34 =>
    loopN Fuel (fun s nx_54 k_53 =>
      match s with
      | (s_45, i_46, o0_47) =>
        bif decide (i_46 < (IntKind.i64.wrap ((min n_6 (IntKind.i64.wrap ((s_1.length : Int) + 1))) - 1))) then
          call (strings_Index s_45 sep_2) fun r_55 =>
          bif decide (r_55 < 0) then
            k_53 (s_45, i_46, o0_47)
          else
          chk (0 ≤ IntKind.i64.wrap (r_55 + sepSave_3) ∧ IntKind.i64.wrap (r_55 + sepSave_3) ≤ (s_45.length : Int)) <|
          chk (0 ≤ i_46 ∧ i_46 < (o0_47.length : Int)) <|
          chk (0 ≤ IntKind.i64.wrap (r_55 + (sep_2.length : Int)) ∧ IntKind.i64.wrap (r_55 + (sep_2.length : Int)) ≤ (s_45.length : Int)) <|
          nx_54 (List.drop ((IntKind.i64.wrap (r_55 + (sep_2.length : Int))).toNat) s_45, IntKind.i64.wrap (i_46 + 1), List.set o0_47 i_46.toNat (List.take ((IntKind.i64.wrap (r_55 + sepSave_3)).toNat) s_45))
        else
        k_53 (s_45, i_46, o0_47)) (s_1, 0, List.replicate ((min n_6 (IntKind.i64.wrap ((s_1.length : Int) + 1))).toNat) []) (fun s => match s with
      | (s_45, i_46, o0_47) =>
        k_34 (s_45, i_46, o0_47))) fun k_7 =>
  bif decide (n_4 < 0) then
    call (strings_Count s_1 sep_2) fun r_60 =>
    k_7 (IntKind.i64.wrap (r_60 + 1))
  else
  k_7 n_4
def strings_Split (s_1 : Str) (sep_2 : Str) : Option (List Str) :=
  call (strings_genSplit s_1 sep_2 0 (-1)) fun r_3 =>
  some r_3
def R_isPart (s_1 : Str) : Option Bool :=
  jp (S := Unit) (fun _ =>
    some ((((!decide (s_1 = [])) && (decide ((s_1.length : Int) ≤ 40))) && (!decide (s_1 = ([46] : Str)))) && (!decide (s_1 = ([46, 46] : Str))))) fun k_9 =>
  forL s_1 0 (fun i_14 c_16 s nx_13 k_12 =>
    bif (((((((decide ((c_16.toNat : Int) < 97)) || (decide (122 < (c_16.toNat : Int)))) && ((decide ((c_16.toNat : Int) < 65)) || (decide (90 < (c_16.toNat : Int))))) && ((decide ((c_16.toNat : Int) < 48)) || (decide (57 < (c_16.toNat : Int))))) && (!decide ((c_16.toNat : Int) = 45))) && (!decide ((c_16.toNat : Int) = 46))) && (!decide ((c_16.toNat : Int) = 95))) then
      some false
    else
    nx_13 ()) () (fun _ =>
    k_9 ())
def R_IsPath (s_1 : Str) : Option Bool :=
  jp (S := Unit) (fun _ =>
    some (decide ((s_1.length : Int) ≤ 200))) fun k_12 =>
  call (strings_Split s_1 ([47] : Str)) fun r_13 =>
  forL r_13 0 (fun i_19 s_21 s nx_18 k_17 =>
    call (R_isPart s_21) fun r_22 =>
    bif !r_22 then
      some false
    else
    nx_18 ()) () (fun _ =>
    k_12 ())
def R_fileError (f_1 : api_File) : Option Int :=
  call (R_IsPath f_1.Path) fun r_2 =>
  call (R_when (!r_2) 5) fun r_3 =>
  call (R_when (decide (65536 < (f_1.Data.length : Int))) 4) fun r_4 =>
  call (R_first [r_3, r_4]) fun r_5 =>
  some r_5
def R_settingError (s_1 : api_Setting) : Option Int :=
  call (R_IsPath s_1.Key) fun r_2 =>
  call (R_when (!r_2) 5) fun r_3 =>
  call (R_IsValue s_1.Value) fun r_4 =>
  call (R_when (!r_4) 2) fun r_5 =>
  call (R_first [r_3, r_5]) fun r_6 =>
  some r_6
def R_serviceError (s_1 : api_Service) : Option Int :=
  call (R_IsName s_1.Name) fun r_2 =>
  callG (!(!r_2)) (R_IsPath s_1.Path) false fun r_3 =>
  call (R_when ((!r_2) || (!r_3)) 5) fun r_4 =>
  some r_4
def ver_IsValue_1 (c_1 : Int) : Option Bool :=
  some ((decide (32 ≤ c_1)) && (decide (c_1 ≤ 126)))
def ver_each_i2 (s_1 : Str) (most_2 : Int) : Option Bool :=
  jp (S := Unit) (fun _ =>
    some ((!decide (s_1 = [])) && (decide ((s_1.length : Int) ≤ most_2)))) fun k_12 =>
  forL s_1 0 (fun i_18 c_20 s nx_17 k_16 =>
    call (ver_IsValue_1 (c_20.toNat : Int)) fun r_21 =>
    bif !r_21 then
      some false
    else
    nx_17 ()) () (fun _ =>
    k_12 ())
def ver_IsValue (s_1 : Str) : Option Bool :=
  callG (!(decide (s_1 = []))) (ver_each_i2 s_1 1000) false fun r_2 =>
  some ((decide (s_1 = [])) || r_2)
def ver_isPart_1 (c_1 : Int) : Option Bool :=
  call (ver_isSmall c_1) fun r_2 =>
  callG (!(r_2 || ((decide (65 ≤ c_1)) && (decide (c_1 ≤ 90))))) (ver_isDigit c_1) false fun r_3 =>
  some (((((r_2 || ((decide (65 ≤ c_1)) && (decide (c_1 ≤ 90)))) || r_3) || (decide (c_1 = 45))) || (decide (c_1 = 46))) || (decide (c_1 = 95)))
def ver_each_i3 (s_1 : Str) (most_2 : Int) : Option Bool :=
  jp (S := Unit) (fun _ =>
    some ((!decide (s_1 = [])) && (decide ((s_1.length : Int) ≤ most_2)))) fun k_12 =>
  forL s_1 0 (fun i_18 c_20 s nx_17 k_16 =>
    call (ver_isPart_1 (c_20.toNat : Int)) fun r_21 =>
    bif !r_21 then
      some false
    else
    nx_17 ()) () (fun _ =>
    k_12 ())
def ver_isPart (s_1 : Str) : Option Bool :=
  call (ver_each_i3 s_1 40) fun r_2 =>
  some ((r_2 && (!decide (s_1 = ([46] : Str)))) && (!decide (s_1 = ([46, 46] : Str))))
def ver_IsPath (s_1 : Str) : Option Bool :=
  jp (S := Unit) (fun _ =>
    some (decide ((s_1.length : Int) ≤ 200))) fun k_12 =>
  call (strings_Split s_1 ([47] : Str)) fun r_13 =>
  forL r_13 0 (fun i_19 s_21 s nx_18 k_17 =>
    call (ver_isPart s_21) fun r_22 =>
    bif !r_22 then
      some false
    else
    nx_18 ()) () (fun _ =>
    k_12 ())
def disk_fileFault (f_1 : api_File) : Option Int :=
  call (ver_IsPath f_1.Path) fun r_2 =>
  bif !r_2 then
    some 5
  else
  bif decide (65536 < (f_1.Data.length : Int)) then
    some 4
  else
  some 0
def disk_settingFault_i2 (s_1 : api_Setting) : Option Int :=
  call (ver_IsPath s_1.Key) fun r_2 =>
  bif !r_2 then
    some 5
  else
  call (ver_IsValue s_1.Value) fun r_3 =>
  bif !r_3 then
    some 2
  else
  some 0
def disk_serviceFault (s_1 : api_Service) : Option Int :=
  call (ver_IsName s_1.Name) fun r_2 =>
  callG (!(!r_2)) (ver_IsPath s_1.Path) false fun r_3 =>
  bif ((!r_2) || (!r_3)) then
    some 5
  else
  some 0
def disk_Quote (s_1 : Str) : Option Str :=
  chk (0 ≤ 0 ∧ 0 ≤ IntKind.i64.wrap ((s_1.length : Int) + 2) ∧ IntKind.i64.wrap ((s_1.length : Int) + 2) ≤ 274877906944) <|
  chk (((List.replicate 0 0) ++ [34]).length ≤ 274877906944) <|
  jp (S := List Int) (fun o0_32 =>
    chk ((o0_32 ++ [34]).length ≤ 274877906944) <|
    some (strOf (o0_32 ++ [34]))) fun k_33 =>
  forL s_1 0 (fun i_54 c_56 o0_44 nx_53 k_52 =>
    bif ((decide ((c_56.toNat : Int) = 92)) || (decide ((c_56.toNat : Int) = 34))) then
      chk ((o0_44 ++ [92, (c_56.toNat : Int)]).length ≤ 274877906944) <|
      nx_53 (o0_44 ++ [92, (c_56.toNat : Int)])
    else
    bif decide ((c_56.toNat : Int) = 10) then
      chk ((o0_44 ++ [92, 110]).length ≤ 274877906944) <|
      nx_53 (o0_44 ++ [92, 110])
    else
    bif ((decide ((c_56.toNat : Int) < 32)) || (decide (126 < (c_56.toNat : Int)))) then
      idxS ([48, 49, 50, 51, 52, 53, 54, 55, 56, 57, 97, 98, 99, 100, 101, 102] : Str) (Int.fdiv (c_56.toNat : Int) (2 ^ (shI .u8 4))) fun c_59 =>
      idxS ([48, 49, 50, 51, 52, 53, 54, 55, 56, 57, 97, 98, 99, 100, 101, 102] : Str) (bitsI .and .u8 (c_56.toNat : Int) 15) fun c_60 =>
      chk ((o0_44 ++ [92, 120, c_59, c_60]).length ≤ 274877906944) <|
      nx_53 (o0_44 ++ [92, 120, c_59, c_60])
    else
    chk ((o0_44 ++ [(c_56.toNat : Int)]).length ≤ 274877906944) <|
    nx_53 (o0_44 ++ [(c_56.toNat : Int)])) ((List.replicate 0 0) ++ [34]) (fun o0_44 =>
    k_33 o0_44)
def disk_settingLine (word_1 : Str) (s_2 : api_Setting) : Option Str :=
  chk ((word_1 ++ ([32] : Str)).length ≤ 274877906944) <|
  chk (((word_1 ++ ([32] : Str)) ++ s_2.Key).length ≤ 274877906944) <|
  chk ((((word_1 ++ ([32] : Str)) ++ s_2.Key) ++ ([32] : Str)).length ≤ 274877906944) <|
  call (disk_Quote s_2.Value) fun r_6 =>
  chk (((((word_1 ++ ([32] : Str)) ++ s_2.Key) ++ ([32] : Str)) ++ r_6).length ≤ 274877906944) <|
  chk ((((((word_1 ++ ([32] : Str)) ++ s_2.Key) ++ ([32] : Str)) ++ r_6) ++ ([10] : Str)).length ≤ 274877906944) <|
  some (((((word_1 ++ ([32] : Str)) ++ s_2.Key) ++ ([32] : Str)) ++ r_6) ++ ([10] : Str))
def strings_Builder_copyCheck_i1 (o1_1 : Str) : Option Unit :=
  some ()
def strings_Builder_copyCheck_i2 (o1_1 : Str) : Option Unit :=
  some ()
def strings_Builder_copyCheck_np (o0 : Str) : Option Unit := some ()
def strings_Builder_WriteString_i1 (s_1 : Str) (o1_2 : Str) : Option (Int × Str) :=
  call (strings_Builder_copyCheck_np o1_2) fun r_5 =>
  chk ((o1_2 ++ s_1).length ≤ 274877906944) <|
  some ((s_1.length : Int), o1_2 ++ s_1)
def disk_fileLine (word_1 : Str) (runs_2 : Str) (f_3 : api_File) : Option Str :=
  jp (S := Str) (fun word_4 =>
    chk ((word_4 ++ ([32] : Str)).length ≤ 274877906944) <|
    chk (((word_4 ++ ([32] : Str)) ++ f_3.Path).length ≤ 274877906944) <|
    chk ((((word_4 ++ ([32] : Str)) ++ f_3.Path) ++ ([32] : Str)).length ≤ 274877906944) <|
    call (disk_Quote f_3.Data) fun r_9 =>
    chk (((((word_4 ++ ([32] : Str)) ++ f_3.Path) ++ ([32] : Str)) ++ r_9).length ≤ 274877906944) <|
    chk ((((((word_4 ++ ([32] : Str)) ++ f_3.Path) ++ ([32] : Str)) ++ r_9) ++ ([10] : Str)).length ≤ 274877906944) <|
    some (((((word_4 ++ ([32] : Str)) ++ f_3.Path) ++ ([32] : Str)) ++ r_9) ++ ([10] : Str))) fun k_5 =>
  bif f_3.Runs then
    k_5 runs_2
  else
  k_5 word_1
def disk_bit (b_1 : Bool) : Option Str :=
  bif b_1 then
    some ([49] : Str)
  else
  some ([48] : Str)
def disk_serviceLine (s_1 : api_Service) : Option Str :=
  chk ((([115, 101, 114, 118, 105, 99, 101, 32] : Str) ++ s_1.Name).length ≤ 274877906944) <|
  chk (((([115, 101, 114, 118, 105, 99, 101, 32] : Str) ++ s_1.Name) ++ ([32] : Str)).length ≤ 274877906944) <|
  chk ((((([115, 101, 114, 118, 105, 99, 101, 32] : Str) ++ s_1.Name) ++ ([32] : Str)) ++ s_1.Path).length ≤ 274877906944) <|
  chk (((((([115, 101, 114, 118, 105, 99, 101, 32] : Str) ++ s_1.Name) ++ ([32] : Str)) ++ s_1.Path) ++ ([32] : Str)).length ≤ 274877906944) <|
  call (disk_bit s_1.Auto) fun r_6 =>
  chk ((((((([115, 101, 114, 118, 105, 99, 101, 32] : Str) ++ s_1.Name) ++ ([32] : Str)) ++ s_1.Path) ++ ([32] : Str)) ++ r_6).length ≤ 274877906944) <|
  chk (((((((([115, 101, 114, 118, 105, 99, 101, 32] : Str) ++ s_1.Name) ++ ([32] : Str)) ++ s_1.Path) ++ ([32] : Str)) ++ r_6) ++ ([32] : Str)).length ≤ 274877906944) <|
  call (disk_bit s_1.On) fun r_9 =>
  chk ((((((((([115, 101, 114, 118, 105, 99, 101, 32] : Str) ++ s_1.Name) ++ ([32] : Str)) ++ s_1.Path) ++ ([32] : Str)) ++ r_6) ++ ([32] : Str)) ++ r_9).length ≤ 274877906944) <|
  chk (((((((((([115, 101, 114, 118, 105, 99, 101, 32] : Str) ++ s_1.Name) ++ ([32] : Str)) ++ s_1.Path) ++ ([32] : Str)) ++ r_6) ++ ([32] : Str)) ++ r_9) ++ ([10] : Str)).length ≤ 274877906944) <|
  some ((((((((([115, 101, 114, 118, 105, 99, 101, 32] : Str) ++ s_1.Name) ++ ([32] : Str)) ++ s_1.Path) ++ ([32] : Str)) ++ r_6) ++ ([32] : Str)) ++ r_9) ++ ([10] : Str))
def strings_Builder_String_i1 (o1_1 : Str) : Option Str :=
  some o1_1
def disk_sized (s_1 : Str) : Option (Str × Int) :=
  bif decide (4194304 < (s_1.length : Int)) then
    some ([], 4)
  else
  some (s_1, 0)
def internal_stringslite_Cut (s_1 : Str) (sep_2 : Str) : Option (Str × Str × Bool) :=
  call (internal_stringslite_Index s_1 sep_2) fun r_3 =>
  bif decide (0 ≤ r_3) then
    chk (0 ≤ r_3 ∧ r_3 ≤ (s_1.length : Int)) <|
    chk (0 ≤ IntKind.i64.wrap (r_3 + (sep_2.length : Int)) ∧ IntKind.i64.wrap (r_3 + (sep_2.length : Int)) ≤ (s_1.length : Int)) <|
    some (List.take r_3.toNat s_1, List.drop ((IntKind.i64.wrap (r_3 + (sep_2.length : Int))).toNat) s_1, true)
  else
  some (s_1, [], false)
def strings_Cut (s_1 : Str) (sep_2 : Str) : Option (Str × Str × Bool) :=
  call (internal_stringslite_Cut s_1 sep_2) fun r_3 =>
  some (r_3.1, r_3.2.1, r_3.2.2)
def strings_IndexByte (s_1 : Str) (c_2 : Int) : Option Int :=
  call (internal_stringslite_IndexByte s_1 c_2) fun r_3 =>
  some r_3
def disk_escape (s_1 : Str) : Option (Int × Int) :=
  bif decide (s_1 = []) then
    some (0, 0)
  else
  idxS s_1 0 fun c_2 =>
  bif ((decide (c_2 = 92)) || (decide (c_2 = 34))) then
    some (c_2, 1)
  else
  bif decide (c_2 = 110) then
    some (10, 1)
  else
  bif ((!decide (c_2 = 120)) || (decide ((s_1.length : Int) < 3))) then
    some (0, 0)
  else
  idxS s_1 1 fun c_3 =>
  call (strings_IndexByte ([48, 49, 50, 51, 52, 53, 54, 55, 56, 57, 97, 98, 99, 100, 101, 102] : Str) c_3) fun r_4 =>
  idxS s_1 2 fun c_5 =>
  call (strings_IndexByte ([48, 49, 50, 51, 52, 53, 54, 55, 56, 57, 97, 98, 99, 100, 101, 102] : Str) c_5) fun r_6 =>
  bif ((decide (r_4 < 0)) || (decide (r_6 < 0))) then
    some (0, 0)
  else
  bif (((decide (32 ≤ (IntKind.u8.wrap (IntKind.i64.wrap ((IntKind.i64.wrap (16 * r_4)) + r_6))))) && (decide ((IntKind.u8.wrap (IntKind.i64.wrap ((IntKind.i64.wrap (16 * r_4)) + r_6))) ≤ 126))) || (decide ((IntKind.u8.wrap (IntKind.i64.wrap ((IntKind.i64.wrap (16 * r_4)) + r_6))) = 10))) then
    some (0, 0)
  else
  some (IntKind.u8.wrap (IntKind.i64.wrap ((IntKind.i64.wrap (16 * r_4)) + r_6)), 3)
def disk_Unquote (s_1 : Str) : Option (Str × Int) :=
  chk ((!(decide ((s_1.length : Int) < 2))) = true → (0 ≤ 0 ∧ 0 < (s_1.length : Int))) <|
  chk ((!((decide ((s_1.length : Int) < 2)) || (!decide (((s_1.getD 0 0).toNat : Int) = 34)))) = true → (0 ≤ IntKind.i64.wrap ((s_1.length : Int) - 1) ∧ IntKind.i64.wrap ((s_1.length : Int) - 1) < (s_1.length : Int))) <|
  bif (((decide ((s_1.length : Int) < 2)) || (!decide (((s_1.getD 0 0).toNat : Int) = 34))) || (!decide (((s_1.getD ((IntKind.i64.wrap ((s_1.length : Int) - 1)).toNat) 0).toNat : Int) = 34))) then
    some ([], 8)
  else
  chk (0 ≤ 1 ∧ 1 ≤ (s_1.length : Int) ∧ 0 ≤ IntKind.i64.wrap ((s_1.length : Int) - 1) ∧ IntKind.i64.wrap ((s_1.length : Int) - 1) ≤ (s_1.length : Int) ∧ 1 ≤ IntKind.i64.wrap ((s_1.length : Int) - 1)) <|
  chk (0 ≤ 0 ∧ 0 ≤ ((List.take ((IntKind.i64.wrap ((s_1.length : Int) - 1)).toNat - 1) (List.drop 1 s_1)).length : Int) ∧ ((List.take ((IntKind.i64.wrap ((s_1.length : Int) - 1)).toNat - 1) (List.drop 1 s_1)).length : Int) ≤ 274877906944) <|
  jp (S := List Int) (fun o0_26 =>
    some (strOf o0_26, 0)) fun k_27 =>
  loopN Fuel (fun s nx_42 k_41 =>
    match s with
    | (i_34, o0_35) =>
      bif decide (i_34 < ((List.take ((IntKind.i64.wrap ((s_1.length : Int) - 1)).toNat - 1) (List.drop 1 s_1)).length : Int)) then
        idxS (List.take ((IntKind.i64.wrap ((s_1.length : Int) - 1)).toNat - 1) (List.drop 1 s_1)) i_34 fun c_43 =>
        bif (((decide (c_43 < 32)) || (decide (126 < c_43))) || (decide (c_43 = 34))) then
          some ([], 8)
        else
        bif decide (c_43 = 92) then
          chk (0 ≤ IntKind.i64.wrap (i_34 + 1) ∧ IntKind.i64.wrap (i_34 + 1) ≤ ((List.take ((IntKind.i64.wrap ((s_1.length : Int) - 1)).toNat - 1) (List.drop 1 s_1)).length : Int)) <|
          call (disk_escape (List.drop ((IntKind.i64.wrap (i_34 + 1)).toNat) (List.take ((IntKind.i64.wrap ((s_1.length : Int) - 1)).toNat - 1) (List.drop 1 s_1)))) fun r_45 =>
          bif decide (r_45.2 = 0) then
            some ([], 8)
          else
          chk ((o0_35 ++ [r_45.1]).length ≤ 274877906944) <|
          nx_42 (IntKind.i64.wrap ((IntKind.i64.wrap (i_34 + r_45.2)) + 1), o0_35 ++ [r_45.1])
        else
        chk ((o0_35 ++ [c_43]).length ≤ 274877906944) <|
        nx_42 (IntKind.i64.wrap (i_34 + 1), o0_35 ++ [c_43])
      else
      k_41 (i_34, o0_35)) (0, List.replicate 0 0) (fun s => match s with
    | (i_34, o0_35) =>
      k_27 o0_35)
def disk_isBit (s_1 : Str) : Option Bool :=
  some ((decide (s_1 = ([48] : Str))) || (decide (s_1 = ([49] : Str))))
def disk_readLine (s_1 : Str) : Option (disk_line × Bool) :=
  call (strings_Cut s_1 ([32] : Str)) fun r_2 =>
  call (strings_Cut r_2.2.1 ([32] : Str)) fun r_3 =>
  bif ((!r_2.2.2) || (decide (r_3.1 = []))) then
    some ((disk_line.mk [] (api_File.mk [] [] false) (api_Setting.mk [] []) (api_Service.mk [] [] false false)), false)
  else
  jp (S := Bool) (fun t38_4 =>
    bif t38_4 then
      call (disk_Unquote r_3.2.1) fun r_6 =>
      some ((disk_line.mk r_2.1 (api_File.mk [] [] false) (api_Setting.mk r_3.1 r_6.1) (api_Service.mk [] [] false false)), (r_3.2.2 && (decide (r_6.2 = 0))))
    else
    jp (S := Bool) (fun t56_7 =>
      bif t56_7 then
        call (disk_Unquote r_3.2.1) fun r_9 =>
        some ((disk_line.mk r_2.1 (api_File.mk r_3.1 r_9.1 ((decide (r_2.1 = ([114, 117, 110] : Str))) || (decide (r_2.1 = ([112, 117, 116, 114, 117, 110] : Str))))) (api_Setting.mk [] []) (api_Service.mk [] [] false false)), (r_3.2.2 && (decide (r_9.2 = 0))))
      else
      bif decide (r_2.1 = ([115, 101, 114, 118, 105, 99, 101] : Str)) then
        call (strings_Split r_3.2.1 ([32] : Str)) fun r_10 =>
        chk ((!((!r_3.2.2) || (!decide ((r_10.length : Int) = 3)))) = true → (0 ≤ 0 ∧ 0 < (r_10.length : Int))) <|
        chk ((!(((!r_3.2.2) || (!decide ((r_10.length : Int) = 3))) || (decide ((r_10.getD 0 []) = [])))) = true → (0 ≤ 1 ∧ 1 < (r_10.length : Int))) <|
        callG (!(((!r_3.2.2) || (!decide ((r_10.length : Int) = 3))) || (decide ((r_10.getD 0 []) = [])))) (disk_isBit (r_10.getD 1 [])) false fun r_13 =>
        chk ((!((((!r_3.2.2) || (!decide ((r_10.length : Int) = 3))) || (decide ((r_10.getD 0 []) = []))) || (!r_13))) = true → (0 ≤ 2 ∧ 2 < (r_10.length : Int))) <|
        callG (!((((!r_3.2.2) || (!decide ((r_10.length : Int) = 3))) || (decide ((r_10.getD 0 []) = []))) || (!r_13))) (disk_isBit (r_10.getD 2 [])) false fun r_15 =>
        bif (((((!r_3.2.2) || (!decide ((r_10.length : Int) = 3))) || (decide ((r_10.getD 0 []) = []))) || (!r_13)) || (!r_15)) then
          some ((disk_line.mk [] (api_File.mk [] [] false) (api_Setting.mk [] []) (api_Service.mk [] [] false false)), false)
        else
        idx r_10 0 fun s_19 =>
        idx r_10 1 fun s_20 =>
        idx r_10 2 fun s_21 =>
        some ((disk_line.mk r_2.1 (api_File.mk [] [] false) (api_Setting.mk [] []) (api_Service.mk r_3.1 s_19 (decide (s_20 = ([49] : Str))) (decide (s_21 = ([49] : Str))))), true)
      else
      bif decide (r_2.1 = ([114, 101, 109, 111, 118, 101] : Str)) then
        some ((disk_line.mk r_2.1 (api_File.mk r_3.1 [] false) (api_Setting.mk [] []) (api_Service.mk [] [] false false)), !r_3.2.2)
      else
      bif decide (r_2.1 = ([117, 110, 115, 101, 116] : Str)) then
        some ((disk_line.mk r_2.1 (api_File.mk [] [] false) (api_Setting.mk r_3.1 []) (api_Service.mk [] [] false false)), !r_3.2.2)
      else
      bif decide (r_2.1 = ([100, 114, 111, 112] : Str)) then
        some ((disk_line.mk r_2.1 (api_File.mk [] [] false) (api_Setting.mk [] []) (api_Service.mk r_3.1 [] false false)), !r_3.2.2)
      else
      some ((disk_line.mk r_2.1 (api_File.mk [] [] false) (api_Setting.mk [] []) (api_Service.mk [] [] false false)), !r_3.2.2)) fun k_8 =>
    bif decide (r_2.1 = ([102, 105, 108, 101] : Str)) then
      k_8 (decide (r_2.1 = ([102, 105, 108, 101] : Str)))
    else
    bif decide (r_2.1 = ([114, 117, 110] : Str)) then
      k_8 (decide (r_2.1 = ([114, 117, 110] : Str)))
    else
    bif decide (r_2.1 = ([112, 117, 116] : Str)) then
      k_8 (decide (r_2.1 = ([112, 117, 116] : Str)))
    else
    k_8 (decide (r_2.1 = ([112, 117, 116, 114, 117, 110] : Str)))) fun k_5 =>
  bif decide (r_2.1 = ([102, 97, 99, 116] : Str)) then
    k_5 (decide (r_2.1 = ([102, 97, 99, 116] : Str)))
  else
  k_5 (decide (r_2.1 = ([115, 101, 116] : Str)))
def R_cutLines (text_1 : Str) : Option (List Str × Int) :=
  call (strings_Split text_1 ([10] : Str)) fun r_2 =>
  idx r_2 (IntKind.i64.wrap ((r_2.length : Int) - 1)) fun s_3 =>
  bif decide (s_3 = []) then
    chk (0 ≤ IntKind.i64.wrap ((r_2.length : Int) - 1) ∧ IntKind.i64.wrap ((r_2.length : Int) - 1) ≤ (r_2.length : Int)) <|
    some (List.take ((IntKind.i64.wrap ((r_2.length : Int) - 1)).toNat) r_2, (-1))
  else
  some (r_2, IntKind.i64.wrap ((r_2.length : Int) - 1))
def R_Quote (s_1 : Str) : Option Str :=
  jp (S := Str) (fun out_32 =>
    chk ((out_32 ++ ([34] : Str)).length ≤ 274877906944) <|
    some (out_32 ++ ([34] : Str))) fun k_33 =>
  forL s_1 0 (fun i_51 c_53 out_35 nx_50 k_49 =>
    bif ((decide ((c_53.toNat : Int) = 34)) || (decide ((c_53.toNat : Int) = 92))) then
      chk (0 ≤ (i_51 : Int) ∧ (i_51 : Int) ≤ (s_1.length : Int) ∧ 0 ≤ IntKind.i64.wrap ((i_51 : Int) + 1) ∧ IntKind.i64.wrap ((i_51 : Int) + 1) ≤ (s_1.length : Int) ∧ (i_51 : Int) ≤ IntKind.i64.wrap ((i_51 : Int) + 1)) <|
      chk ((([92] : Str) ++ (List.take ((IntKind.i64.wrap ((i_51 : Int) + 1)).toNat - i_51) (List.drop i_51 s_1))).length ≤ 274877906944) <|
      chk ((out_35 ++ (([92] : Str) ++ (List.take ((IntKind.i64.wrap ((i_51 : Int) + 1)).toNat - i_51) (List.drop i_51 s_1)))).length ≤ 274877906944) <|
      nx_50 (out_35 ++ (([92] : Str) ++ (List.take ((IntKind.i64.wrap ((i_51 : Int) + 1)).toNat - i_51) (List.drop i_51 s_1))))
    else
    bif decide ((c_53.toNat : Int) = 10) then
      chk ((out_35 ++ ([92, 110] : Str)).length ≤ 274877906944) <|
      nx_50 (out_35 ++ ([92, 110] : Str))
    else
    bif ((decide ((c_53.toNat : Int) < 32)) || (decide (126 < (c_53.toNat : Int)))) then
      chk (0 ≤ Int.fdiv (c_53.toNat : Int) (2 ^ (shI .u8 4)) ∧ Int.fdiv (c_53.toNat : Int) (2 ^ (shI .u8 4)) ≤ (([48, 49, 50, 51, 52, 53, 54, 55, 56, 57, 97, 98, 99, 100, 101, 102] : Str).length : Int) ∧ 0 ≤ IntKind.u8.wrap ((Int.fdiv (c_53.toNat : Int) (2 ^ (shI .u8 4))) + 1) ∧ IntKind.u8.wrap ((Int.fdiv (c_53.toNat : Int) (2 ^ (shI .u8 4))) + 1) ≤ (([48, 49, 50, 51, 52, 53, 54, 55, 56, 57, 97, 98, 99, 100, 101, 102] : Str).length : Int) ∧ Int.fdiv (c_53.toNat : Int) (2 ^ (shI .u8 4)) ≤ IntKind.u8.wrap ((Int.fdiv (c_53.toNat : Int) (2 ^ (shI .u8 4))) + 1)) <|
      chk ((([92, 120] : Str) ++ (List.take ((IntKind.u8.wrap ((Int.fdiv (c_53.toNat : Int) (2 ^ (shI .u8 4))) + 1)).toNat - (Int.fdiv (c_53.toNat : Int) (2 ^ (shI .u8 4))).toNat) (List.drop ((Int.fdiv (c_53.toNat : Int) (2 ^ (shI .u8 4))).toNat) ([48, 49, 50, 51, 52, 53, 54, 55, 56, 57, 97, 98, 99, 100, 101, 102] : Str)))).length ≤ 274877906944) <|
      chk (0 ≤ bitsI .and .u8 (c_53.toNat : Int) 15 ∧ bitsI .and .u8 (c_53.toNat : Int) 15 ≤ (([48, 49, 50, 51, 52, 53, 54, 55, 56, 57, 97, 98, 99, 100, 101, 102] : Str).length : Int) ∧ 0 ≤ IntKind.u8.wrap ((bitsI .and .u8 (c_53.toNat : Int) 15) + 1) ∧ IntKind.u8.wrap ((bitsI .and .u8 (c_53.toNat : Int) 15) + 1) ≤ (([48, 49, 50, 51, 52, 53, 54, 55, 56, 57, 97, 98, 99, 100, 101, 102] : Str).length : Int) ∧ bitsI .and .u8 (c_53.toNat : Int) 15 ≤ IntKind.u8.wrap ((bitsI .and .u8 (c_53.toNat : Int) 15) + 1)) <|
      chk (((([92, 120] : Str) ++ (List.take ((IntKind.u8.wrap ((Int.fdiv (c_53.toNat : Int) (2 ^ (shI .u8 4))) + 1)).toNat - (Int.fdiv (c_53.toNat : Int) (2 ^ (shI .u8 4))).toNat) (List.drop ((Int.fdiv (c_53.toNat : Int) (2 ^ (shI .u8 4))).toNat) ([48, 49, 50, 51, 52, 53, 54, 55, 56, 57, 97, 98, 99, 100, 101, 102] : Str)))) ++ (List.take ((IntKind.u8.wrap ((bitsI .and .u8 (c_53.toNat : Int) 15) + 1)).toNat - (bitsI .and .u8 (c_53.toNat : Int) 15).toNat) (List.drop ((bitsI .and .u8 (c_53.toNat : Int) 15).toNat) ([48, 49, 50, 51, 52, 53, 54, 55, 56, 57, 97, 98, 99, 100, 101, 102] : Str)))).length ≤ 274877906944) <|
      chk ((out_35 ++ ((([92, 120] : Str) ++ (List.take ((IntKind.u8.wrap ((Int.fdiv (c_53.toNat : Int) (2 ^ (shI .u8 4))) + 1)).toNat - (Int.fdiv (c_53.toNat : Int) (2 ^ (shI .u8 4))).toNat) (List.drop ((Int.fdiv (c_53.toNat : Int) (2 ^ (shI .u8 4))).toNat) ([48, 49, 50, 51, 52, 53, 54, 55, 56, 57, 97, 98, 99, 100, 101, 102] : Str)))) ++ (List.take ((IntKind.u8.wrap ((bitsI .and .u8 (c_53.toNat : Int) 15) + 1)).toNat - (bitsI .and .u8 (c_53.toNat : Int) 15).toNat) (List.drop ((bitsI .and .u8 (c_53.toNat : Int) 15).toNat) ([48, 49, 50, 51, 52, 53, 54, 55, 56, 57, 97, 98, 99, 100, 101, 102] : Str))))).length ≤ 274877906944) <|
      nx_50 (out_35 ++ ((([92, 120] : Str) ++ (List.take ((IntKind.u8.wrap ((Int.fdiv (c_53.toNat : Int) (2 ^ (shI .u8 4))) + 1)).toNat - (Int.fdiv (c_53.toNat : Int) (2 ^ (shI .u8 4))).toNat) (List.drop ((Int.fdiv (c_53.toNat : Int) (2 ^ (shI .u8 4))).toNat) ([48, 49, 50, 51, 52, 53, 54, 55, 56, 57, 97, 98, 99, 100, 101, 102] : Str)))) ++ (List.take ((IntKind.u8.wrap ((bitsI .and .u8 (c_53.toNat : Int) 15) + 1)).toNat - (bitsI .and .u8 (c_53.toNat : Int) 15).toNat) (List.drop ((bitsI .and .u8 (c_53.toNat : Int) 15).toNat) ([48, 49, 50, 51, 52, 53, 54, 55, 56, 57, 97, 98, 99, 100, 101, 102] : Str)))))
    else
    chk (0 ≤ (i_51 : Int) ∧ (i_51 : Int) ≤ (s_1.length : Int) ∧ 0 ≤ IntKind.i64.wrap ((i_51 : Int) + 1) ∧ IntKind.i64.wrap ((i_51 : Int) + 1) ≤ (s_1.length : Int) ∧ (i_51 : Int) ≤ IntKind.i64.wrap ((i_51 : Int) + 1)) <|
    chk ((out_35 ++ (List.take ((IntKind.i64.wrap ((i_51 : Int) + 1)).toNat - i_51) (List.drop i_51 s_1))).length ≤ 274877906944) <|
    nx_50 (out_35 ++ (List.take ((IntKind.i64.wrap ((i_51 : Int) + 1)).toNat - i_51) (List.drop i_51 s_1)))) ([34] : Str) (fun out_35 =>
    k_33 out_35)
def R_Unquote (s_1 : Str) : Option (Str × Int) :=
  chk ((!(decide ((s_1.length : Int) < 2))) = true → (0 ≤ 0 ∧ 0 < (s_1.length : Int))) <|
  chk ((!((decide ((s_1.length : Int) < 2)) || (!decide (((s_1.getD 0 0).toNat : Int) = 34)))) = true → (0 ≤ IntKind.i64.wrap ((s_1.length : Int) - 1) ∧ IntKind.i64.wrap ((s_1.length : Int) - 1) < (s_1.length : Int))) <|
  bif (((decide ((s_1.length : Int) < 2)) || (!decide (((s_1.getD 0 0).toNat : Int) = 34))) || (!decide (((s_1.getD ((IntKind.i64.wrap ((s_1.length : Int) - 1)).toNat) 0).toNat : Int) = 34))) then
    some ([], 8)
  else
  jp (S := List Int) (fun o0_64 =>
    call (R_Quote (strOf o0_64)) fun r_66 =>
    bif !decide (r_66 = s_1) then
      some ([], 8)
    else
    some (strOf o0_64, 0)) fun k_65 =>
  chk (0 ≤ 1 ∧ 1 ≤ (s_1.length : Int) ∧ 0 ≤ IntKind.i64.wrap ((s_1.length : Int) - 1) ∧ IntKind.i64.wrap ((s_1.length : Int) - 1) ≤ (s_1.length : Int) ∧ 1 ≤ IntKind.i64.wrap ((s_1.length : Int) - 1)) <|
  loopN Fuel (fun s nx_108 k_107 =>
    match s with
    | (b_87, o0_88) =>
      bif !decide (b_87 = []) then
        idxS b_87 0 fun c_109 =>
        bif !decide (c_109 = 92) then
          chk ((o0_88 ++ [c_109]).length ≤ 274877906944) <|
          chk (0 ≤ 1 ∧ 1 ≤ (b_87.length : Int)) <|
          nx_108 (List.drop 1 b_87, o0_88 ++ [c_109])
        else
        chk ((decide (2 ≤ (b_87.length : Int))) = true → (0 ≤ 1 ∧ 1 < (b_87.length : Int))) <|
        chk (((decide (2 ≤ (b_87.length : Int))) && (!(decide (((b_87.getD 1 0).toNat : Int) = 34)))) = true → (0 ≤ 1 ∧ 1 < (b_87.length : Int))) <|
        bif ((decide (2 ≤ (b_87.length : Int))) && ((decide (((b_87.getD 1 0).toNat : Int) = 34)) || (decide (((b_87.getD 1 0).toNat : Int) = 92)))) then
          idxS b_87 1 fun c_114 =>
          chk ((o0_88 ++ [c_114]).length ≤ 274877906944) <|
          chk (0 ≤ 2 ∧ 2 ≤ (b_87.length : Int)) <|
          nx_108 (List.drop 2 b_87, o0_88 ++ [c_114])
        else
        chk ((decide (2 ≤ (b_87.length : Int))) = true → (0 ≤ 1 ∧ 1 < (b_87.length : Int))) <|
        bif ((decide (2 ≤ (b_87.length : Int))) && (decide (((b_87.getD 1 0).toNat : Int) = 110))) then
          chk ((o0_88 ++ [10]).length ≤ 274877906944) <|
          chk (0 ≤ 2 ∧ 2 ≤ (b_87.length : Int)) <|
          nx_108 (List.drop 2 b_87, o0_88 ++ [10])
        else
        chk ((decide (4 ≤ (b_87.length : Int))) = true → (0 ≤ 1 ∧ 1 < (b_87.length : Int))) <|
        bif ((decide (4 ≤ (b_87.length : Int))) && (decide (((b_87.getD 1 0).toNat : Int) = 120))) then
          chk (0 ≤ 2 ∧ 2 ≤ (b_87.length : Int) ∧ 0 ≤ 3 ∧ 3 ≤ (b_87.length : Int) ∧ 2 ≤ 3) <|
          call (strings_Index ([48, 49, 50, 51, 52, 53, 54, 55, 56, 57, 97, 98, 99, 100, 101, 102] : Str) (List.take (3 - 2) (List.drop 2 b_87))) fun r_122 =>
          chk (0 ≤ 3 ∧ 3 ≤ (b_87.length : Int) ∧ 0 ≤ 4 ∧ 4 ≤ (b_87.length : Int) ∧ 3 ≤ 4) <|
          call (strings_Index ([48, 49, 50, 51, 52, 53, 54, 55, 56, 57, 97, 98, 99, 100, 101, 102] : Str) (List.take (4 - 3) (List.drop 3 b_87))) fun r_124 =>
          chk ((o0_88 ++ [IntKind.u8.wrap (IntKind.i64.wrap ((IntKind.i64.wrap (r_122 * 16)) + r_124))]).length ≤ 274877906944) <|
          chk (0 ≤ 4 ∧ 4 ≤ (b_87.length : Int)) <|
          nx_108 (List.drop 4 b_87, o0_88 ++ [IntKind.u8.wrap (IntKind.i64.wrap ((IntKind.i64.wrap (r_122 * 16)) + r_124))])
        else
        some ([], 8)
      else
      k_107 (b_87, o0_88)) (List.take ((IntKind.i64.wrap ((s_1.length : Int) - 1)).toNat - 1) (List.drop 1 s_1), []) (fun s => match s with
    | (b_87, o0_88) =>
      k_65 o0_88)
def R_quoted (s_1 : Str) : Option (Str × Str × Bool) :=
  call (strings_Cut s_1 ([32] : Str)) fun r_2 =>
  call (R_Unquote r_2.2.1) fun r_3 =>
  some (r_2.1, r_3.1, ((r_2.2.2 && (!decide (r_2.1 = []))) && (decide (r_3.2 = 0))))
def R_serviceOf (w_1 : List Str) : Option (api_Service × Bool) :=
  chk ((!(!decide ((w_1.length : Int) = 4))) = true → (0 ≤ 0 ∧ 0 < (w_1.length : Int))) <|
  chk ((!((!decide ((w_1.length : Int) = 4)) || (decide ((w_1.getD 0 []) = [])))) = true → (0 ≤ 1 ∧ 1 < (w_1.length : Int))) <|
  chk ((!(((!decide ((w_1.length : Int) = 4)) || (decide ((w_1.getD 0 []) = []))) || (decide ((w_1.getD 1 []) = [])))) = true → (0 ≤ 2 ∧ 2 < (w_1.length : Int))) <|
  chk (((!(((!decide ((w_1.length : Int) = 4)) || (decide ((w_1.getD 0 []) = []))) || (decide ((w_1.getD 1 []) = [])))) && (!decide ((w_1.getD 2 []) = ([48] : Str)))) = true → (0 ≤ 2 ∧ 2 < (w_1.length : Int))) <|
  chk ((!((((!decide ((w_1.length : Int) = 4)) || (decide ((w_1.getD 0 []) = []))) || (decide ((w_1.getD 1 []) = []))) || ((!decide ((w_1.getD 2 []) = ([48] : Str))) && (!decide ((w_1.getD 2 []) = ([49] : Str)))))) = true → (0 ≤ 3 ∧ 3 < (w_1.length : Int))) <|
  chk (((!((((!decide ((w_1.length : Int) = 4)) || (decide ((w_1.getD 0 []) = []))) || (decide ((w_1.getD 1 []) = []))) || ((!decide ((w_1.getD 2 []) = ([48] : Str))) && (!decide ((w_1.getD 2 []) = ([49] : Str)))))) && (!decide ((w_1.getD 3 []) = ([48] : Str)))) = true → (0 ≤ 3 ∧ 3 < (w_1.length : Int))) <|
  bif (((((!decide ((w_1.length : Int) = 4)) || (decide ((w_1.getD 0 []) = []))) || (decide ((w_1.getD 1 []) = []))) || ((!decide ((w_1.getD 2 []) = ([48] : Str))) && (!decide ((w_1.getD 2 []) = ([49] : Str))))) || ((!decide ((w_1.getD 3 []) = ([48] : Str))) && (!decide ((w_1.getD 3 []) = ([49] : Str))))) then
    some ((api_Service.mk [] [] false false), false)
  else
  idx w_1 0 fun s_12 =>
  idx w_1 1 fun s_13 =>
  idx w_1 2 fun s_14 =>
  idx w_1 3 fun s_15 =>
  some ((api_Service.mk s_12 s_13 (decide (s_14 = ([49] : Str))) (decide (s_15 = ([49] : Str)))), true)
def disk_CheckChange (c_1 : api_Change) : Option Int :=
  jp (S := Int × Str × Str × Bool × Str × Str × Str × Str × Bool × Bool) (fun s => match s with
    | (e_8, o1_1_9, o1_2_10, o1_3_11, o1_4_12, o1_5_13, o1_6_14, o1_7_15, o1_8_16, o1_9_17) =>
      bif ((decide (e_8 = 0)) && (!((decide (c_1.Kind = c_1.Kind)) && ((decide (c_1.File.Path = o1_1_9)) && ((decide (c_1.File.Data = o1_2_10)) && ((decide (c_1.File.Runs = o1_3_11)) && ((decide (c_1.Setting.Key = o1_4_12)) && ((decide (c_1.Setting.Value = o1_5_13)) && ((decide (c_1.Service.Name = o1_6_14)) && ((decide (c_1.Service.Path = o1_7_15)) && ((decide (c_1.Service.Auto = o1_8_16)) && (decide (c_1.Service.On = o1_9_17))))))))))))) then
        some 2
      else
      some e_8) fun k_18 =>
  bif decide (c_1.Kind = 1) then
    call (disk_fileFault c_1.File) fun r_19 =>
    k_18 (r_19, c_1.File.Path, c_1.File.Data, c_1.File.Runs, [], [], [], [], false, false)
  else
  bif decide (c_1.Kind = 2) then
    call (disk_fileFault (api_File.mk c_1.File.Path [] false)) fun r_20 =>
    k_18 (r_20, c_1.File.Path, [], false, [], [], [], [], false, false)
  else
  bif decide (c_1.Kind = 3) then
    call (disk_settingFault_i2 c_1.Setting) fun r_21 =>
    k_18 (r_21, [], [], false, c_1.Setting.Key, c_1.Setting.Value, [], [], false, false)
  else
  bif decide (c_1.Kind = 4) then
    call (disk_settingFault_i2 (api_Setting.mk c_1.Setting.Key [])) fun r_22 =>
    k_18 (r_22, [], [], false, c_1.Setting.Key, [], [], [], false, false)
  else
  bif decide (c_1.Kind = 5) then
    call (disk_serviceFault c_1.Service) fun r_23 =>
    k_18 (r_23, [], [], false, [], [], c_1.Service.Name, c_1.Service.Path, c_1.Service.Auto, c_1.Service.On)
  else
  bif decide (c_1.Kind = 6) then
    call (ver_IsName c_1.Service.Name) fun r_24 =>
    bif !r_24 then
      k_18 (5, [], [], false, [], [], c_1.Service.Name, [], false, false)
    else
    k_18 (0, [], [], false, [], [], c_1.Service.Name, [], false, false)
  else
  some 1
def disk_changesFault (l_1 : List api_Change) : Option Int :=
  jp (S := Unit) (fun _ =>
    some 0) fun k_11 =>
  forL l_1 0 (fun i_17 c_19 s nx_16 k_15 =>
    call (disk_CheckChange c_19) fun r_20 =>
    bif !decide (r_20 = 0) then
      some r_20
    else
    nx_16 ()) () (fun _ =>
    k_11 ())
def disk_PrintChanges (l_1 : List api_Change) : Option (Str × Int) :=
  call (disk_changesFault l_1) fun r_2 =>
  bif !decide (r_2 = 0) then
    some ([], r_2)
  else
  jp (S := Str) (fun o1_58 =>
    call (strings_Builder_String_i1 o1_58) fun r_60 =>
    call (disk_sized r_60) fun r_61 =>
    some (r_61.1, r_61.2)) fun k_59 =>
  forL l_1 0 (fun i_99 c_101 o1_80 nx_98 k_97 =>
    bif decide (c_101.Kind = 1) then
      call (disk_fileLine ([112, 117, 116] : Str) ([112, 117, 116, 114, 117, 110] : Str) c_101.File) fun r_102 =>
      call (strings_Builder_WriteString_i1 r_102 o1_80) fun r_103 =>
      nx_98 r_103.2
    else
    bif decide (c_101.Kind = 2) then
      chk ((([114, 101, 109, 111, 118, 101, 32] : Str) ++ c_101.File.Path).length ≤ 274877906944) <|
      chk (((([114, 101, 109, 111, 118, 101, 32] : Str) ++ c_101.File.Path) ++ ([10] : Str)).length ≤ 274877906944) <|
      call (strings_Builder_WriteString_i1 ((([114, 101, 109, 111, 118, 101, 32] : Str) ++ c_101.File.Path) ++ ([10] : Str)) o1_80) fun r_106 =>
      nx_98 r_106.2
    else
    bif decide (c_101.Kind = 3) then
      call (disk_settingLine ([115, 101, 116] : Str) c_101.Setting) fun r_107 =>
      call (strings_Builder_WriteString_i1 r_107 o1_80) fun r_108 =>
      nx_98 r_108.2
    else
    bif decide (c_101.Kind = 4) then
      chk ((([117, 110, 115, 101, 116, 32] : Str) ++ c_101.Setting.Key).length ≤ 274877906944) <|
      chk (((([117, 110, 115, 101, 116, 32] : Str) ++ c_101.Setting.Key) ++ ([10] : Str)).length ≤ 274877906944) <|
      call (strings_Builder_WriteString_i1 ((([117, 110, 115, 101, 116, 32] : Str) ++ c_101.Setting.Key) ++ ([10] : Str)) o1_80) fun r_111 =>
      nx_98 r_111.2
    else
    bif decide (c_101.Kind = 5) then
      call (disk_serviceLine c_101.Service) fun r_112 =>
      call (strings_Builder_WriteString_i1 r_112 o1_80) fun r_113 =>
      nx_98 r_113.2
    else
    chk ((([100, 114, 111, 112, 32] : Str) ++ c_101.Service.Name).length ≤ 274877906944) <|
    chk (((([100, 114, 111, 112, 32] : Str) ++ c_101.Service.Name) ++ ([10] : Str)).length ≤ 274877906944) <|
    call (strings_Builder_WriteString_i1 ((([100, 114, 111, 112, 32] : Str) ++ c_101.Service.Name) ++ ([10] : Str)) o1_80) fun r_116 =>
    nx_98 r_116.2) [] (fun o1_80 =>
    k_59 o1_80)
def R_ChangeError (c_1 : api_Change) : Option Int :=
  jp (S := Int × Str × Str × Bool × Str × Str × Str × Str × Bool × Bool) (fun s => match s with
    | (e_11, o1_1_12, o1_2_13, o1_3_14, o1_4_15, o1_5_16, o1_6_17, o1_7_18, o1_8_19, o1_9_20) =>
      call (R_when (!((decide (0 = 0)) && ((decide (o1_1_12 = [])) && ((decide (o1_2_13 = [])) && ((decide (o1_3_14 = false)) && ((decide (o1_4_15 = [])) && ((decide (o1_5_16 = [])) && ((decide (o1_6_17 = [])) && ((decide (o1_7_18 = [])) && ((decide (o1_8_19 = false)) && (decide (o1_9_20 = false)))))))))))) 2) fun r_22 =>
      call (R_first [e_11, r_22]) fun r_23 =>
      some r_23) fun k_21 =>
  bif decide (c_1.Kind = 1) then
    call (R_fileError c_1.File) fun r_24 =>
    k_21 (r_24, [], [], false, c_1.Setting.Key, c_1.Setting.Value, c_1.Service.Name, c_1.Service.Path, c_1.Service.Auto, c_1.Service.On)
  else
  bif decide (c_1.Kind = 2) then
    call (R_IsPath c_1.File.Path) fun r_25 =>
    call (R_when (!r_25) 5) fun r_26 =>
    k_21 (r_26, [], c_1.File.Data, c_1.File.Runs, c_1.Setting.Key, c_1.Setting.Value, c_1.Service.Name, c_1.Service.Path, c_1.Service.Auto, c_1.Service.On)
  else
  bif decide (c_1.Kind = 3) then
    call (R_settingError c_1.Setting) fun r_27 =>
    k_21 (r_27, c_1.File.Path, c_1.File.Data, c_1.File.Runs, [], [], c_1.Service.Name, c_1.Service.Path, c_1.Service.Auto, c_1.Service.On)
  else
  bif decide (c_1.Kind = 4) then
    call (R_IsPath c_1.Setting.Key) fun r_28 =>
    call (R_when (!r_28) 5) fun r_29 =>
    k_21 (r_29, c_1.File.Path, c_1.File.Data, c_1.File.Runs, [], c_1.Setting.Value, c_1.Service.Name, c_1.Service.Path, c_1.Service.Auto, c_1.Service.On)
  else
  bif decide (c_1.Kind = 5) then
    call (R_serviceError c_1.Service) fun r_30 =>
    k_21 (r_30, c_1.File.Path, c_1.File.Data, c_1.File.Runs, c_1.Setting.Key, c_1.Setting.Value, [], [], false, false)
  else
  bif decide (c_1.Kind = 6) then
    call (R_IsName c_1.Service.Name) fun r_31 =>
    call (R_when (!r_31) 5) fun r_32 =>
    k_21 (r_32, c_1.File.Path, c_1.File.Data, c_1.File.Runs, c_1.Setting.Key, c_1.Setting.Value, [], c_1.Service.Path, c_1.Service.Auto, c_1.Service.On)
  else
  some 1
def R_ChangesError (l_1 : List api_Change) : Option Int :=
  jp (S := Unit) (fun _ =>
    some 0) fun k_11 =>
  forL l_1 0 (fun i_17 c_19 s nx_16 k_15 =>
    call (R_ChangeError c_19) fun r_20 =>
    bif !decide (r_20 = 0) then
      some r_20
    else
    nx_16 ()) () (fun _ =>
    k_11 ())
def R_bit (b_1 : Bool) : Option Str :=
  bif b_1 then
    some ([49] : Str)
  else
  some ([48] : Str)
def R_serviceWords (s_1 : api_Service) : Option Str :=
  chk ((s_1.Name ++ ([32] : Str)).length ≤ 274877906944) <|
  chk (((s_1.Name ++ ([32] : Str)) ++ s_1.Path).length ≤ 274877906944) <|
  chk ((((s_1.Name ++ ([32] : Str)) ++ s_1.Path) ++ ([32] : Str)).length ≤ 274877906944) <|
  call (R_bit s_1.Auto) fun r_5 =>
  chk (((((s_1.Name ++ ([32] : Str)) ++ s_1.Path) ++ ([32] : Str)) ++ r_5).length ≤ 274877906944) <|
  chk ((((((s_1.Name ++ ([32] : Str)) ++ s_1.Path) ++ ([32] : Str)) ++ r_5) ++ ([32] : Str)).length ≤ 274877906944) <|
  call (R_bit s_1.On) fun r_8 =>
  chk (((((((s_1.Name ++ ([32] : Str)) ++ s_1.Path) ++ ([32] : Str)) ++ r_5) ++ ([32] : Str)) ++ r_8).length ≤ 274877906944) <|
  some ((((((s_1.Name ++ ([32] : Str)) ++ s_1.Path) ++ ([32] : Str)) ++ r_5) ++ ([32] : Str)) ++ r_8)
def strings_Builder_WriteByte_i1 (c_1 : Int) (o1_2 : Str) : Option Str :=
  call (strings_Builder_copyCheck_np o1_2) fun r_5 =>
  chk ((o1_2 ++ (strOf [c_1])).length ≤ 274877906944) <|
  some (o1_2 ++ (strOf [c_1]))
def R_PrintChanges (l_1 : List api_Change) : Option Str :=
  jp (S := Str) (fun o1_157 =>
    call (strings_Builder_String_i1 o1_157) fun r_159 =>
    some r_159) fun k_158 =>
  forL l_1 0 (fun i_257 c_259 o1_208 nx_256 k_255 =>
    jp (S := Str) (fun o1_281 =>
      call (strings_Builder_WriteByte_i1 10 o1_281) fun r_283 =>
      nx_256 r_283) fun k_282 =>
    bif decide (c_259.Kind = 1) then
      jp (S := Str) (fun word_284 =>
        chk ((word_284 ++ c_259.File.Path).length ≤ 274877906944) <|
        chk (((word_284 ++ c_259.File.Path) ++ ([32] : Str)).length ≤ 274877906944) <|
        call (R_Quote c_259.File.Data) fun r_288 =>
        chk ((((word_284 ++ c_259.File.Path) ++ ([32] : Str)) ++ r_288).length ≤ 274877906944) <|
        call (strings_Builder_WriteString_i1 (((word_284 ++ c_259.File.Path) ++ ([32] : Str)) ++ r_288) o1_208) fun r_290 =>
        k_282 r_290.2) fun k_285 =>
      bif c_259.File.Runs then
        k_285 ([112, 117, 116, 114, 117, 110, 32] : Str)
      else
      k_285 ([112, 117, 116, 32] : Str)
    else
    bif decide (c_259.Kind = 2) then
      chk ((([114, 101, 109, 111, 118, 101, 32] : Str) ++ c_259.File.Path).length ≤ 274877906944) <|
      call (strings_Builder_WriteString_i1 (([114, 101, 109, 111, 118, 101, 32] : Str) ++ c_259.File.Path) o1_208) fun r_292 =>
      k_282 r_292.2
    else
    bif decide (c_259.Kind = 3) then
      chk ((([115, 101, 116, 32] : Str) ++ c_259.Setting.Key).length ≤ 274877906944) <|
      chk (((([115, 101, 116, 32] : Str) ++ c_259.Setting.Key) ++ ([32] : Str)).length ≤ 274877906944) <|
      call (R_Quote c_259.Setting.Value) fun r_295 =>
      chk ((((([115, 101, 116, 32] : Str) ++ c_259.Setting.Key) ++ ([32] : Str)) ++ r_295).length ≤ 274877906944) <|
      call (strings_Builder_WriteString_i1 (((([115, 101, 116, 32] : Str) ++ c_259.Setting.Key) ++ ([32] : Str)) ++ r_295) o1_208) fun r_297 =>
      k_282 r_297.2
    else
    bif decide (c_259.Kind = 4) then
      chk ((([117, 110, 115, 101, 116, 32] : Str) ++ c_259.Setting.Key).length ≤ 274877906944) <|
      call (strings_Builder_WriteString_i1 (([117, 110, 115, 101, 116, 32] : Str) ++ c_259.Setting.Key) o1_208) fun r_299 =>
      k_282 r_299.2
    else
    bif decide (c_259.Kind = 5) then
      call (R_serviceWords c_259.Service) fun r_300 =>
      chk ((([115, 101, 114, 118, 105, 99, 101, 32] : Str) ++ r_300).length ≤ 274877906944) <|
      call (strings_Builder_WriteString_i1 (([115, 101, 114, 118, 105, 99, 101, 32] : Str) ++ r_300) o1_208) fun r_302 =>
      k_282 r_302.2
    else
    bif decide (c_259.Kind = 6) then
      chk ((([100, 114, 111, 112, 32] : Str) ++ c_259.Service.Name).length ≤ 274877906944) <|
      call (strings_Builder_WriteString_i1 (([100, 114, 111, 112, 32] : Str) ++ c_259.Service.Name) o1_208) fun r_304 =>
      k_282 r_304.2
    else
    k_282 o1_208) [] (fun o1_208 =>
    k_158 o1_208)
def disk_changeKind (word_1 : Str) : Option Int :=
  jp (S := Bool) (fun t4_2 =>
    bif t4_2 then
      some 1
    else
    bif decide (word_1 = ([114, 101, 109, 111, 118, 101] : Str)) then
      some 2
    else
    bif decide (word_1 = ([115, 101, 116] : Str)) then
      some 3
    else
    bif decide (word_1 = ([117, 110, 115, 101, 116] : Str)) then
      some 4
    else
    bif decide (word_1 = ([115, 101, 114, 118, 105, 99, 101] : Str)) then
      some 5
    else
    bif decide (word_1 = ([100, 114, 111, 112] : Str)) then
      some 6
    else
    some 0) fun k_3 =>
  bif decide (word_1 = ([112, 117, 116] : Str)) then
    k_3 (decide (word_1 = ([112, 117, 116] : Str)))
  else
  k_3 (decide (word_1 = ([112, 117, 116, 114, 117, 110] : Str)))
def disk_ParseChanges_1_i1 (x_1 : disk_line) (o1_2 : List api_Change) : Option (Bool × List api_Change) :=
  call (disk_changeKind x_1.word) fun r_5 =>
  chk ((o1_2 ++ [(api_Change.mk r_5 x_1.file x_1.setting x_1.service)]).length ≤ 274877906944) <|
  some (!decide (r_5 = 0), o1_2 ++ [(api_Change.mk r_5 x_1.file x_1.setting x_1.service)])
def disk_eachLine_i2 (text_1 : Str) (o1_2 : List api_Change) : Option (Int × List api_Change) :=
  jp (S := List api_Change) (fun o1_53 =>
    some ((-1), o1_53)) fun k_54 =>
  loopN Fuel (fun s nx_67 k_66 =>
    match s with
    | (text_60, n_61, o1_62) =>
      bif !decide (text_60 = []) then
        call (strings_Cut text_60 ([10] : Str)) fun r_68 =>
        call (disk_readLine r_68.1) fun r_69 =>
        callG (!((!r_68.2.2) || (!r_69.2))) (disk_ParseChanges_1_i1 r_69.1 o1_62) (false, o1_62) fun r_70 =>
        bif (((!r_68.2.2) || (!r_69.2)) || (!r_70.1)) then
          some (n_61, r_70.2)
        else
        nx_67 (r_68.2.1, IntKind.i64.wrap (n_61 + 1), r_70.2)
      else
      k_66 (text_60, n_61, o1_62)) (text_1, 0, o1_2) (fun s => match s with
    | (text_60, n_61, o1_62) =>
      k_54 o1_62)
def disk_ParseChanges (text_1 : Str) : Option (List api_Change × Int × Int) :=
  bif decide (4194304 < (text_1.length : Int)) then
    some ([], 0, 4)
  else
  call (disk_eachLine_i2 text_1 []) fun r_2 =>
  bif decide (0 ≤ r_2.1) then
    some ([], r_2.1, 8)
  else
  call (disk_changesFault r_2.2) fun r_3 =>
  bif !decide (r_3 = 0) then
    some ([], 0, r_3)
  else
  some (r_2.2, 0, 0)
def slices_Equal_api_Change_api_Change (s1_1 : List api_Change) (s2_2 : List api_Change) : Option Bool :=
  bif !decide ((s1_1.length : Int) = (s2_2.length : Int)) then
    some false
  else
  jp (S := Unit) (fun _ =>
    some true) fun k_12 =>
  forL s1_1 0 (fun i_18 c_20 s nx_17 k_16 =>
    idx s2_2 (i_18 : Int) fun c_21 =>
    bif !((decide (c_20.Kind = c_21.Kind)) && ((decide (c_20.File.Path = c_21.File.Path)) && ((decide (c_20.File.Data = c_21.File.Data)) && ((decide (c_20.File.Runs = c_21.File.Runs)) && ((decide (c_20.Setting.Key = c_21.Setting.Key)) && ((decide (c_20.Setting.Value = c_21.Setting.Value)) && ((decide (c_20.Service.Name = c_21.Service.Name)) && ((decide (c_20.Service.Path = c_21.Service.Path)) && ((decide (c_20.Service.Auto = c_21.Service.Auto)) && (decide (c_20.Service.On = c_21.Service.On))))))))))) then
      some false
    else
    nx_17 ()) () (fun _ =>
    k_12 ())
def strings_Contains (s_1 : Str) (substr_2 : Str) : Option Bool :=
  call (strings_Index s_1 substr_2) fun r_3 =>
  some (decide (0 ≤ r_3))
def R_changeOf (l_1 : Str) : Option (api_Change × Bool) :=
  call (strings_Cut l_1 ([32] : Str)) fun r_2 =>
  call (R_quoted r_2.2.1) fun r_3 =>
  callG (!decide (r_2.2.1 = [])) (strings_Contains r_2.2.1 ([32] : Str)) false fun r_4 =>
  jp (S := Bool) (fun t33_5 =>
    bif t33_5 then
      some ((api_Change.mk 1 (api_File.mk r_3.1 r_3.2.1 (decide (r_2.1 = ([112, 117, 116, 114, 117, 110] : Str)))) (api_Setting.mk [] []) (api_Service.mk [] [] false false)), r_3.2.2)
    else
    bif decide (r_2.1 = ([114, 101, 109, 111, 118, 101] : Str)) then
      some ((api_Change.mk 2 (api_File.mk r_2.2.1 [] false) (api_Setting.mk [] []) (api_Service.mk [] [] false false)), ((!decide (r_2.2.1 = [])) && (!r_4)))
    else
    bif decide (r_2.1 = ([115, 101, 116] : Str)) then
      some ((api_Change.mk 3 (api_File.mk [] [] false) (api_Setting.mk r_3.1 r_3.2.1) (api_Service.mk [] [] false false)), r_3.2.2)
    else
    bif decide (r_2.1 = ([117, 110, 115, 101, 116] : Str)) then
      some ((api_Change.mk 4 (api_File.mk [] [] false) (api_Setting.mk r_2.2.1 []) (api_Service.mk [] [] false false)), ((!decide (r_2.2.1 = [])) && (!r_4)))
    else
    bif decide (r_2.1 = ([115, 101, 114, 118, 105, 99, 101] : Str)) then
      call (strings_Split r_2.2.1 ([32] : Str)) fun r_7 =>
      call (R_serviceOf r_7) fun r_8 =>
      some ((api_Change.mk 5 (api_File.mk [] [] false) (api_Setting.mk [] []) r_8.1), r_8.2)
    else
    bif decide (r_2.1 = ([100, 114, 111, 112] : Str)) then
      some ((api_Change.mk 6 (api_File.mk [] [] false) (api_Setting.mk [] []) (api_Service.mk r_2.2.1 [] false false)), ((!decide (r_2.2.1 = [])) && (!r_4)))
    else
    some ((api_Change.mk 0 (api_File.mk [] [] false) (api_Setting.mk [] []) (api_Service.mk [] [] false false)), false)) fun k_6 =>
  bif decide (r_2.1 = ([112, 117, 116] : Str)) then
    k_6 (decide (r_2.1 = ([112, 117, 116] : Str)))
  else
  k_6 (decide (r_2.1 = ([112, 117, 116, 114, 117, 110] : Str)))
def R_ParseChanges (text_1 : Str) : Option (List api_Change × Int × Int) :=
  bif decide (4194304 < (text_1.length : Int)) then
    some ([], 0, 4)
  else
  call (R_cutLines text_1) fun r_2 =>
  jp (S := List api_Change) (fun o0_19 =>
    call (R_ChangesError o0_19) fun r_21 =>
    bif !decide (r_21 = 0) then
      some ([], 0, r_21)
    else
    some (o0_19, 0, 0)) fun k_20 =>
  forL r_2.1 0 (fun i_33 s_35 o0_27 nx_32 k_31 =>
    call (R_changeOf s_35) fun r_36 =>
    bif ((!r_36.2) || (decide ((i_33 : Int) = r_2.2))) then
      some ([], (i_33 : Int), 8)
    else
    chk ((o0_27 ++ [r_36.1]).length ≤ 274877906944) <|
    nx_32 (o0_27 ++ [r_36.1])) [] (fun o0_27 =>
    k_20 o0_27)
def Law_ChangesPrint (l_1 : List api_Change) (text_2 : Str) : Option Bool :=
  call (Law_landed) fun r_3 =>
  bif !r_3 then
    some false
  else
  call (disk_PrintChanges l_1) fun r_4 =>
  call (R_ChangesError l_1) fun r_5 =>
  jp (S := Int) (fun f_7 =>
    bif !decide (r_4.2 = f_7) then
      some false
    else
    jp (S := Unit) (fun _ =>
      call (disk_ParseChanges text_2) fun r_13 =>
      call (R_ParseChanges text_2) fun r_14 =>
      callG ((decide (r_13.2.2 = r_14.2.2)) && (decide (r_13.2.1 = r_14.2.1))) (slices_Equal_api_Change_api_Change r_13.1 r_14.1) false fun r_15 =>
      some (((decide (r_13.2.2 = r_14.2.2)) && (decide (r_13.2.1 = r_14.2.1))) && r_15)) fun k_12 =>
    bif decide (r_4.2 = 0) then
      call (disk_ParseChanges r_4.1) fun r_16 =>
      call (R_PrintChanges l_1) fun r_17 =>
      callG (!(((!decide (r_4.1 = r_17)) || (!decide (r_16.2.2 = 0))) || (!decide (r_16.2.1 = 0)))) (slices_Equal_api_Change_api_Change r_16.1 l_1) false fun r_18 =>
      bif ((((!decide (r_4.1 = r_17)) || (!decide (r_16.2.2 = 0))) || (!decide (r_16.2.1 = 0))) || (!r_18)) then
        some false
      else
      k_12 ()
    else
    k_12 ()) fun k_8 =>
  callG (decide (r_5 = 0)) (R_PrintChanges l_1) [] fun r_19 =>
  bif ((decide (r_5 = 0)) && (decide (4194304 < (r_19.length : Int)))) then
    k_8 4
  else
  k_8 r_5
end Go.Md
