/- Models of the functions that the statement reaches: what each computes, in plain words. -/
import Derived.Test.YtbfemlilfeahkaaDoorVc2
set_option linter.unusedVariables false
namespace Go.Md
open Go.Vc
def encB (b : Bool) : List Dt := [.b b]
def encS (x : Str) : List Dt := [.s x]
def encI_i8 (n : Int) : List Dt := [.i .i8 n]
def encI_i16 (n : Int) : List Dt := [.i .i16 n]
def encI_i32 (n : Int) : List Dt := [.i .i32 n]
def encI_i64 (n : Int) : List Dt := [.i .i64 n]
def encI_u8 (n : Int) : List Dt := [.i .u8 n]
def encI_u16 (n : Int) : List Dt := [.i .u16 n]
def encI_u32 (n : Int) : List Dt := [.i .u32 n]
def encI_u64 (n : Int) : List Dt := [.i .u64 n]
theorem dec1_s : ∀ r, hasR r [.s] → ∃ x, r = encS x := by
  intro r h
  rcases r with _ | ⟨d, _ | _⟩ <;> simp only [hasR, and_false, and_true] at h
  cases d <;> simp only [hasT] at h
  exact ⟨_, rfl⟩
theorem dec1_i64 : ∀ r, hasR r [.i .i64] → ∃ x, r = encI_i64 x := by
  intro r h
  rcases r with _ | ⟨d, _ | _⟩ <;> simp only [hasR, and_false, and_true] at h
  cases d <;> simp only [hasT] at h
  subst h
  exact ⟨_, rfl⟩
theorem dec1_u8 : ∀ r, hasR r [.i .u8] → ∃ x, r = encI_u8 x := by
  intro r h
  rcases r with _ | ⟨d, _ | _⟩ <;> simp only [hasR, and_false, and_true] at h
  cases d <;> simp only [hasT] at h
  subst h
  exact ⟨_, rfl⟩
structure api_Setting where
  Key : Str
  Value : Str
def enc_api_Setting (x : api_Setting) : List Dt := [.s x.Key, .s x.Value]
def sh_api_Setting : List Sh := [.s, .s]
theorem dec_api_Setting : ∀ r, hasR r sh_api_Setting → ∃ x : api_Setting, r = enc_api_Setting x := by
  intro r h
  unfold sh_api_Setting at h
  rcases r with _ | ⟨d0, _ | ⟨d1, _ | _⟩⟩ <;> simp only [hasR, and_false, and_true] at h
  obtain ⟨h0, h1⟩ := h
  cases d0 <;> simp only [hasT] at h0
  cases d1 <;> simp only [hasT] at h1
  exact ⟨⟨_, _⟩, rfl⟩
structure api_File where
  Path : Str
  Data : Str
  Runs : Bool
def enc_api_File (x : api_File) : List Dt := [.s x.Path, .s x.Data, .b x.Runs]
def sh_api_File : List Sh := [.s, .s, .b]
theorem dec_api_File : ∀ r, hasR r sh_api_File → ∃ x : api_File, r = enc_api_File x := by
  intro r h
  unfold sh_api_File at h
  rcases r with _ | ⟨d0, _ | ⟨d1, _ | ⟨d2, _ | _⟩⟩⟩ <;> simp only [hasR, and_false, and_true] at h
  obtain ⟨h0, h1, h2⟩ := h
  cases d0 <;> simp only [hasT] at h0
  cases d1 <;> simp only [hasT] at h1
  cases d2 <;> simp only [hasT] at h2
  exact ⟨⟨_, _, _⟩, rfl⟩
structure api_Service where
  Name : Str
  Path : Str
  Auto : Bool
  On : Bool
def enc_api_Service (x : api_Service) : List Dt := [.s x.Name, .s x.Path, .b x.Auto, .b x.On]
def sh_api_Service : List Sh := [.s, .s, .b, .b]
theorem dec_api_Service : ∀ r, hasR r sh_api_Service → ∃ x : api_Service, r = enc_api_Service x := by
  intro r h
  unfold sh_api_Service at h
  rcases r with _ | ⟨d0, _ | ⟨d1, _ | ⟨d2, _ | ⟨d3, _ | _⟩⟩⟩⟩ <;> simp only [hasR, and_false, and_true] at h
  obtain ⟨h0, h1, h2, h3⟩ := h
  cases d0 <;> simp only [hasT] at h0
  cases d1 <;> simp only [hasT] at h1
  cases d2 <;> simp only [hasT] at h2
  cases d3 <;> simp only [hasT] at h3
  exact ⟨⟨_, _, _, _⟩, rfl⟩
structure api_Machine where
  Facts : List api_Setting
  Files : List api_File
  Settings : List api_Setting
  Services : List api_Service
def enc_api_Machine (x : api_Machine) : List Dt := [.l (List.map enc_api_Setting x.Facts), .l (List.map enc_api_File x.Files), .l (List.map enc_api_Setting x.Settings), .l (List.map enc_api_Service x.Services)]
def sh_api_Machine : List Sh := [.l sh_api_Setting, .l sh_api_File, .l sh_api_Setting, .l sh_api_Service]
theorem dec_api_Machine : ∀ r, hasR r sh_api_Machine → ∃ x : api_Machine, r = enc_api_Machine x := by
  intro r h
  unfold sh_api_Machine at h
  rcases r with _ | ⟨d0, _ | ⟨d1, _ | ⟨d2, _ | ⟨d3, _ | _⟩⟩⟩⟩ <;> simp only [hasR, and_false, and_true] at h
  obtain ⟨h0, h1, h2, h3⟩ := h
  cases d0 <;> simp only [hasT] at h0
  obtain ⟨l0, rfl⟩ := hasRs_map dec_api_Setting h0
  cases d1 <;> simp only [hasT] at h1
  obtain ⟨l1, rfl⟩ := hasRs_map dec_api_File h1
  cases d2 <;> simp only [hasT] at h2
  obtain ⟨l2, rfl⟩ := hasRs_map dec_api_Setting h2
  cases d3 <;> simp only [hasT] at h3
  obtain ⟨l3, rfl⟩ := hasRs_map dec_api_Service h3
  exact ⟨⟨_, _, _, _⟩, rfl⟩
structure disk_line where
  word : Str
  file : api_File
  setting : api_Setting
  service : api_Service
def enc_disk_line (x : disk_line) : List Dt := [.s x.word, .s x.file.Path, .s x.file.Data, .b x.file.Runs, .s x.setting.Key, .s x.setting.Value, .s x.service.Name, .s x.service.Path, .b x.service.Auto, .b x.service.On]
def sh_disk_line : List Sh := [.s, .s, .s, .b, .s, .s, .s, .s, .b, .b]
theorem dec_disk_line : ∀ r, hasR r sh_disk_line → ∃ x : disk_line, r = enc_disk_line x := by
  intro r h
  unfold sh_disk_line at h
  rcases r with _ | ⟨d0, _ | ⟨d1, _ | ⟨d2, _ | ⟨d3, _ | ⟨d4, _ | ⟨d5, _ | ⟨d6, _ | ⟨d7, _ | ⟨d8, _ | ⟨d9, _ | _⟩⟩⟩⟩⟩⟩⟩⟩⟩⟩ <;> simp only [hasR, and_false, and_true] at h
  obtain ⟨h0, h1, h2, h3, h4, h5, h6, h7, h8, h9⟩ := h
  cases d0 <;> simp only [hasT] at h0
  cases d1 <;> simp only [hasT] at h1
  cases d2 <;> simp only [hasT] at h2
  cases d3 <;> simp only [hasT] at h3
  cases d4 <;> simp only [hasT] at h4
  cases d5 <;> simp only [hasT] at h5
  cases d6 <;> simp only [hasT] at h6
  cases d7 <;> simp only [hasT] at h7
  cases d8 <;> simp only [hasT] at h8
  cases d9 <;> simp only [hasT] at h9
  exact ⟨⟨_, ⟨_, _, _⟩, ⟨_, _⟩, ⟨_, _, _, _⟩⟩, rfl⟩
structure api_Change where
  Kind : Int
  File : api_File
  Setting : api_Setting
  Service : api_Service
def enc_api_Change (x : api_Change) : List Dt := [.i .i64 x.Kind, .s x.File.Path, .s x.File.Data, .b x.File.Runs, .s x.Setting.Key, .s x.Setting.Value, .s x.Service.Name, .s x.Service.Path, .b x.Service.Auto, .b x.Service.On]
def sh_api_Change : List Sh := [.i .i64, .s, .s, .b, .s, .s, .s, .s, .b, .b]
theorem dec_api_Change : ∀ r, hasR r sh_api_Change → ∃ x : api_Change, r = enc_api_Change x := by
  intro r h
  unfold sh_api_Change at h
  rcases r with _ | ⟨d0, _ | ⟨d1, _ | ⟨d2, _ | ⟨d3, _ | ⟨d4, _ | ⟨d5, _ | ⟨d6, _ | ⟨d7, _ | ⟨d8, _ | ⟨d9, _ | _⟩⟩⟩⟩⟩⟩⟩⟩⟩⟩ <;> simp only [hasR, and_false, and_true] at h
  obtain ⟨h0, h1, h2, h3, h4, h5, h6, h7, h8, h9⟩ := h
  cases d0 <;> simp only [hasT] at h0
  subst h0
  cases d1 <;> simp only [hasT] at h1
  cases d2 <;> simp only [hasT] at h2
  cases d3 <;> simp only [hasT] at h3
  cases d4 <;> simp only [hasT] at h4
  cases d5 <;> simp only [hasT] at h5
  cases d6 <;> simp only [hasT] at h6
  cases d7 <;> simp only [hasT] at h7
  cases d8 <;> simp only [hasT] at h8
  cases d9 <;> simp only [hasT] at h9
  exact ⟨⟨_, ⟨_, _, _⟩, ⟨_, _⟩, ⟨_, _, _, _⟩⟩, rfl⟩
structure api_Item where
  Kind : Int
  File : api_File
  Setting : api_Setting
  Service : api_Service
def enc_api_Item (x : api_Item) : List Dt := [.i .i64 x.Kind, .s x.File.Path, .s x.File.Data, .b x.File.Runs, .s x.Setting.Key, .s x.Setting.Value, .s x.Service.Name, .s x.Service.Path, .b x.Service.Auto, .b x.Service.On]
def sh_api_Item : List Sh := [.i .i64, .s, .s, .b, .s, .s, .s, .s, .b, .b]
theorem dec_api_Item : ∀ r, hasR r sh_api_Item → ∃ x : api_Item, r = enc_api_Item x := by
  intro r h
  unfold sh_api_Item at h
  rcases r with _ | ⟨d0, _ | ⟨d1, _ | ⟨d2, _ | ⟨d3, _ | ⟨d4, _ | ⟨d5, _ | ⟨d6, _ | ⟨d7, _ | ⟨d8, _ | ⟨d9, _ | _⟩⟩⟩⟩⟩⟩⟩⟩⟩⟩ <;> simp only [hasR, and_false, and_true] at h
  obtain ⟨h0, h1, h2, h3, h4, h5, h6, h7, h8, h9⟩ := h
  cases d0 <;> simp only [hasT] at h0
  subst h0
  cases d1 <;> simp only [hasT] at h1
  cases d2 <;> simp only [hasT] at h2
  cases d3 <;> simp only [hasT] at h3
  cases d4 <;> simp only [hasT] at h4
  cases d5 <;> simp only [hasT] at h5
  cases d6 <;> simp only [hasT] at h6
  cases d7 <;> simp only [hasT] at h7
  cases d8 <;> simp only [hasT] at h8
  cases d9 <;> simp only [hasT] at h9
  exact ⟨⟨_, ⟨_, _, _⟩, ⟨_, _⟩, ⟨_, _, _, _⟩⟩, rfl⟩
structure api_Held where
  Owner : Str
  Kind : Int
  Path : Str
  Sum : Str
  Base : Str
def enc_api_Held (x : api_Held) : List Dt := [.s x.Owner, .i .i64 x.Kind, .s x.Path, .s x.Sum, .s x.Base]
def sh_api_Held : List Sh := [.s, .i .i64, .s, .s, .s]
theorem dec_api_Held : ∀ r, hasR r sh_api_Held → ∃ x : api_Held, r = enc_api_Held x := by
  intro r h
  unfold sh_api_Held at h
  rcases r with _ | ⟨d0, _ | ⟨d1, _ | ⟨d2, _ | ⟨d3, _ | ⟨d4, _ | _⟩⟩⟩⟩⟩ <;> simp only [hasR, and_false, and_true] at h
  obtain ⟨h0, h1, h2, h3, h4⟩ := h
  cases d0 <;> simp only [hasT] at h0
  cases d1 <;> simp only [hasT] at h1
  subst h1
  cases d2 <;> simp only [hasT] at h2
  cases d3 <;> simp only [hasT] at h3
  cases d4 <;> simp only [hasT] at h4
  exact ⟨⟨_, _, _, _, _⟩, rfl⟩
structure api_Keep where
  Held : List api_Held
def enc_api_Keep (x : api_Keep) : List Dt := [.l (List.map enc_api_Held x.Held)]
def sh_api_Keep : List Sh := [.l sh_api_Held]
theorem dec_api_Keep : ∀ r, hasR r sh_api_Keep → ∃ x : api_Keep, r = enc_api_Keep x := by
  intro r h
  unfold sh_api_Keep at h
  rcases r with _ | ⟨d0, _ | _⟩ <;> simp only [hasR, and_false, and_true] at h
  have h0 := h
  cases d0 <;> simp only [hasT] at h0
  obtain ⟨l0, rfl⟩ := hasRs_map dec_api_Held h0
  exact ⟨⟨_⟩, rfl⟩
structure outref1_place where
  t : Int
  p : Str
def enc_outref1_place (x : outref1_place) : List Dt := [.i .i64 x.t, .s x.p]
def sh_outref1_place : List Sh := [.i .i64, .s]
theorem dec_outref1_place : ∀ r, hasR r sh_outref1_place → ∃ x : outref1_place, r = enc_outref1_place x := by
  intro r h
  unfold sh_outref1_place at h
  rcases r with _ | ⟨d0, _ | ⟨d1, _ | _⟩⟩ <;> simp only [hasR, and_false, and_true] at h
  obtain ⟨h0, h1⟩ := h
  cases d0 <;> simp only [hasT] at h0
  subst h0
  cases d1 <;> simp only [hasT] at h1
  exact ⟨⟨_, _⟩, rfl⟩
theorem sz_encB : ∀ l, szOk (1) (List.map encB l) = True := fun l => eq_true (by intro r hr; obtain ⟨x, _, rfl⟩ := List.mem_map.1 hr; rfl)
theorem sz_encS : ∀ l, szOk (1) (List.map encS l) = True := fun l => eq_true (by intro r hr; obtain ⟨x, _, rfl⟩ := List.mem_map.1 hr; rfl)
theorem sz_encI_i64 : ∀ l, szOk (1) (List.map encI_i64 l) = True := fun l => eq_true (by intro r hr; obtain ⟨x, _, rfl⟩ := List.mem_map.1 hr; rfl)
theorem sz_encI_u8 : ∀ l, szOk (1) (List.map encI_u8 l) = True := fun l => eq_true (by intro r hr; obtain ⟨x, _, rfl⟩ := List.mem_map.1 hr; rfl)
theorem sz_encI_u64 : ∀ l, szOk (1) (List.map encI_u64 l) = True := fun l => eq_true (by intro r hr; obtain ⟨x, _, rfl⟩ := List.mem_map.1 hr; rfl)
theorem sz_encI_i32 : ∀ l, szOk (1) (List.map encI_i32 l) = True := fun l => eq_true (by intro r hr; obtain ⟨x, _, rfl⟩ := List.mem_map.1 hr; rfl)
theorem sz_encI_u32 : ∀ l, szOk (1) (List.map encI_u32 l) = True := fun l => eq_true (by intro r hr; obtain ⟨x, _, rfl⟩ := List.mem_map.1 hr; rfl)
theorem sz_enc_api_Setting : ∀ l, szOk (2) (List.map enc_api_Setting l) = True := fun l => eq_true (by intro r hr; obtain ⟨x, _, rfl⟩ := List.mem_map.1 hr; rfl)
theorem sz_enc_api_File : ∀ l, szOk (3) (List.map enc_api_File l) = True := fun l => eq_true (by intro r hr; obtain ⟨x, _, rfl⟩ := List.mem_map.1 hr; rfl)
theorem sz_enc_api_Service : ∀ l, szOk (4) (List.map enc_api_Service l) = True := fun l => eq_true (by intro r hr; obtain ⟨x, _, rfl⟩ := List.mem_map.1 hr; rfl)
theorem sz_enc_api_Machine : ∀ l, szOk (4) (List.map enc_api_Machine l) = True := fun l => eq_true (by intro r hr; obtain ⟨x, _, rfl⟩ := List.mem_map.1 hr; rfl)
theorem sz_enc_disk_line : ∀ l, szOk (10) (List.map enc_disk_line l) = True := fun l => eq_true (by intro r hr; obtain ⟨x, _, rfl⟩ := List.mem_map.1 hr; rfl)
theorem sz_enc_api_Change : ∀ l, szOk (10) (List.map enc_api_Change l) = True := fun l => eq_true (by intro r hr; obtain ⟨x, _, rfl⟩ := List.mem_map.1 hr; rfl)
theorem sz_enc_api_Item : ∀ l, szOk (10) (List.map enc_api_Item l) = True := fun l => eq_true (by intro r hr; obtain ⟨x, _, rfl⟩ := List.mem_map.1 hr; rfl)
theorem sz_enc_api_Held : ∀ l, szOk (5) (List.map enc_api_Held l) = True := fun l => eq_true (by intro r hr; obtain ⟨x, _, rfl⟩ := List.mem_map.1 hr; rfl)
theorem sz_enc_api_Keep : ∀ l, szOk (1) (List.map enc_api_Keep l) = True := fun l => eq_true (by intro r hr; obtain ⟨x, _, rfl⟩ := List.mem_map.1 hr; rfl)
theorem sz_enc_outref1_place : ∀ l, szOk (2) (List.map enc_outref1_place l) = True := fun l => eq_true (by intro r hr; obtain ⟨x, _, rfl⟩ := List.mem_map.1 hr; rfl)
theorem allB_enc : ∀ l : List Int, allB (List.map encI_u8 l) = True
  | [] => by simp only [List.map_nil, allB]
  | _ :: l => by simp only [List.map_cons, encI_u8, allB, allB_enc l, and_self]
theorem unB_enc : ∀ l : List Int, unB (List.map encI_u8 l) = strOf l
  | [] => by simp only [List.map_nil, unB, strOf]
  | _ :: l => by simp only [List.map_cons, encI_u8, unB, unB_enc l, strOf]
theorem bR_enc (l : Str) : bR l = List.map encI_u8 (bytesOf l) := by simp [bR, bytesOf, encI_u8]
attribute [go_sem] allB_enc unB_enc bR_enc
attribute [go_sem] encB encS encI_i64 encI_u8 encI_u64 encI_i32 encI_u32 enc_api_Setting enc_api_File enc_api_Service enc_api_Machine enc_disk_line enc_api_Change enc_api_Item enc_api_Held enc_api_Keep enc_outref1_place sz_encB sz_encS sz_encI_i64 sz_encI_u8 sz_encI_u64 sz_encI_i32 sz_encI_u32 sz_enc_api_Setting sz_enc_api_File sz_enc_api_Service sz_enc_api_Machine sz_enc_disk_line sz_enc_api_Change sz_enc_api_Item sz_enc_api_Held sz_enc_api_Keep sz_enc_outref1_place
def ver_isSmall (c_1 : Int) : Option Bool :=
  some ((decide (97 ≤ c_1)) && (decide (c_1 ≤ 122)))
def ver_isDigit (c_1 : Int) : Option Bool :=
  some ((decide (48 ≤ c_1)) && (decide (c_1 ≤ 57)))
def ver_IsName_1 (c_1 : Int) : Option Bool :=
  call (ver_isSmall c_1) fun r_2 =>
  callG (!r_2) (ver_isDigit c_1) false fun r_3 =>
  some (((r_2 || r_3) || (decide (c_1 = 45))) || (decide (c_1 = 46)))
def ver_each_i1 (s_1 : Str) (most_2 : Int) : Option Bool :=
  jp (S := Unit) (fun _ =>
    some ((!decide (s_1 = [])) && (decide ((s_1.length : Int) ≤ most_2)))) fun k_12 =>
  forL s_1 0 (fun i_18 c_20 s nx_17 k_16 =>
    call (ver_IsName_1 (c_20.toNat : Int)) fun r_21 =>
    bif !r_21 then
      some false
    else
    nx_17 ()) () (fun _ =>
    k_12 ())
def ver_IsName (s_1 : Str) : Option Bool :=
  call (ver_each_i1 s_1 40) fun r_2 =>
  chk (r_2 = true → (0 ≤ 0 ∧ 0 < (s_1.length : Int))) <|
  callG r_2 (ver_isSmall ((s_1.getD 0 0).toNat : Int)) false fun r_4 =>
  some (r_2 && r_4)
def Law_landed  : Option Bool :=
  call (ver_IsName ([97] : Str)) fun r_1 =>
  some r_1
def R_IsName (s_1 : Str) : Option Bool :=
  jp (S := Unit) (fun _ =>
    some ((!decide (s_1 = [])) && (decide ((s_1.length : Int) ≤ 40)))) fun k_9 =>
  forL s_1 0 (fun i_14 c_16 s nx_13 k_12 =>
    bif (((decide ((i_14 : Int) = 0)) && (!((decide (97 ≤ (c_16.toNat : Int))) && (decide ((c_16.toNat : Int) ≤ 122))))) || ((((!((decide (97 ≤ (c_16.toNat : Int))) && (decide ((c_16.toNat : Int) ≤ 122)))) && ((decide ((c_16.toNat : Int) < 48)) || (decide (57 < (c_16.toNat : Int))))) && (!decide ((c_16.toNat : Int) = 45))) && (!decide ((c_16.toNat : Int) = 46)))) then
      some false
    else
    nx_13 ()) () (fun _ =>
    k_9 ())
def R_when (bad_1 : Bool) (e_2 : Int) : Option Int :=
  bif bad_1 then
    some e_2
  else
  some 0
def R_IsValue (s_1 : Str) : Option Bool :=
  jp (S := Unit) (fun _ =>
    some (decide ((s_1.length : Int) ≤ 1000))) fun k_9 =>
  forL s_1 0 (fun i_14 c_16 s nx_13 k_12 =>
    bif ((decide ((c_16.toNat : Int) < 32)) || (decide (126 < (c_16.toNat : Int)))) then
      some false
    else
    nx_13 ()) () (fun _ =>
    k_9 ())
def R_Check_1_i1 (i_1 : Int) (s_2 : Str) (o0_0_3 : Str) : Option (Int × Str) :=
  call (R_when ((decide (0 < i_1)) && (strLt s_2 o0_0_3 || decide (s_2 = o0_0_3))) 7) fun r_5 =>
  some (r_5, s_2)
def R_first (l_1 : List Int) : Option Int :=
  jp (S := Unit) (fun _ =>
    some 0) fun k_9 =>
  forL l_1 0 (fun i_14 e_16 s nx_13 k_12 =>
    bif !decide (e_16 = 0) then
      some e_16
    else
    nx_13 ()) () (fun _ =>
    k_9 ())
def internal_stringslite_IndexByte (s_1 : Str) (c_2 : Int) : Option Int :=
  some (ixByte s_1 c_2)
def internal_stringslite_Index (s_1 : Str) (substr_2 : Str) : Option Int :=
  bif ((decide ((substr_2.length : Int) = 0)) || (decide (substr_2 = s_1))) then
    some 0
  else
  bif decide ((substr_2.length : Int) = 1) then
    idxS substr_2 0 fun c_3 =>
    call (internal_stringslite_IndexByte s_1 c_3) fun r_4 =>
    some r_4
  else
  bif decide ((s_1.length : Int) ≤ (substr_2.length : Int)) then
    some (-1)
  else
  none
def strings_Index (s_1 : Str) (substr_2 : Str) : Option Int :=
  call (internal_stringslite_Index s_1 substr_2) fun r_3 =>
  some r_3
def strings_Count (s_1 : Str) (substr_2 : Str) : Option Int :=
  bif decide ((substr_2.length : Int) = 0) then
    none
  else
  bif decide ((substr_2.length : Int) = 1) then
    idxS substr_2 0 fun c_3 =>
    some (cntByte s_1 c_3)
  else
  loopN Fuel (fun s nx_15 k_14 =>
    match s with
    | (s_10, n_11) =>
      call (strings_Index s_10 substr_2) fun r_16 =>
      bif decide (r_16 = (-1)) then
        some n_11
      else
      chk (0 ≤ IntKind.i64.wrap (r_16 + (substr_2.length : Int)) ∧ IntKind.i64.wrap (r_16 + (substr_2.length : Int)) ≤ (s_10.length : Int)) <|
      nx_15 (List.drop ((IntKind.i64.wrap (r_16 + (substr_2.length : Int))).toNat) s_10, IntKind.i64.wrap (n_11 + 1))) (s_1, 0) (fun s => match s with
    | (s_10, n_11) =>
      some 0)
def strings_genSplit (s_1 : Str) (sep_2 : Str) (sepSave_3 : Int) (n_4 : Int) : Option (List Str) :=
  bif decide (n_4 = 0) then
    some []
  else
  bif decide (sep_2 = []) then
    none
  else
  jp (S := Int) (fun n_6 =>
    chk (0 ≤ min n_6 (IntKind.i64.wrap ((s_1.length : Int) + 1)) ∧ min n_6 (IntKind.i64.wrap ((s_1.length : Int) + 1)) ≤ min n_6 (IntKind.i64.wrap ((s_1.length : Int) + 1)) ∧ min n_6 (IntKind.i64.wrap ((s_1.length : Int) + 1)) ≤ 274877906944) <|
    jp (S := Str × Int × List Str) (fun s => match s with
      | (s_31, i_32, o0_33) =>
        chk (0 ≤ i_32 ∧ i_32 < (o0_33.length : Int)) <|
        chk (0 ≤ IntKind.i64.wrap (i_32 + 1) ∧ IntKind.i64.wrap (i_32 + 1) ≤ ((List.set o0_33 i_32.toNat s_31).length : Int)) <|
        some (List.take ((IntKind.i64.wrap (i_32 + 1)).toNat) (List.set o0_33 i_32.toNat s_31))) fun k_34 =>
    loopN Fuel (fun s nx_54 k_53 =>
      match s with
      | (s_45, i_46, o0_47) =>
        bif decide (i_46 < (IntKind.i64.wrap ((min n_6 (IntKind.i64.wrap ((s_1.length : Int) + 1))) - 1))) then
          call (strings_Index s_45 sep_2) fun r_55 =>
          bif decide (r_55 < 0) then
            k_53 (s_45, i_46, o0_47)
          else
          chk (0 ≤ IntKind.i64.wrap (r_55 + sepSave_3) ∧ IntKind.i64.wrap (r_55 + sepSave_3) ≤ (s_45.length : Int)) <|
          chk (0 ≤ i_46 ∧ i_46 < (o0_47.length : Int)) <|
          chk (0 ≤ IntKind.i64.wrap (r_55 + (sep_2.length : Int)) ∧ IntKind.i64.wrap (r_55 + (sep_2.length : Int)) ≤ (s_45.length : Int)) <|
          nx_54 (List.drop ((IntKind.i64.wrap (r_55 + (sep_2.length : Int))).toNat) s_45, IntKind.i64.wrap (i_46 + 1), List.set o0_47 i_46.toNat (List.take ((IntKind.i64.wrap (r_55 + sepSave_3)).toNat) s_45))
        else
        k_53 (s_45, i_46, o0_47)) (s_1, 0, List.replicate ((min n_6 (IntKind.i64.wrap ((s_1.length : Int) + 1))).toNat) []) (fun s => match s with
      | (s_45, i_46, o0_47) =>
        k_34 (s_45, i_46, o0_47))) fun k_7 =>
  bif decide (n_4 < 0) then
    call (strings_Count s_1 sep_2) fun r_60 =>
    k_7 (IntKind.i64.wrap (r_60 + 1))
  else
  k_7 n_4
def strings_Split (s_1 : Str) (sep_2 : Str) : Option (List Str) :=
  call (strings_genSplit s_1 sep_2 0 (-1)) fun r_3 =>
  some r_3
def R_isPart (s_1 : Str) : Option Bool :=
  jp (S := Unit) (fun _ =>
    some ((((!decide (s_1 = [])) && (decide ((s_1.length : Int) ≤ 40))) && (!decide (s_1 = ([46] : Str)))) && (!decide (s_1 = ([46, 46] : Str))))) fun k_9 =>
  forL s_1 0 (fun i_14 c_16 s nx_13 k_12 =>
    bif (((((((decide ((c_16.toNat : Int) < 97)) || (decide (122 < (c_16.toNat : Int)))) && ((decide ((c_16.toNat : Int) < 65)) || (decide (90 < (c_16.toNat : Int))))) && ((decide ((c_16.toNat : Int) < 48)) || (decide (57 < (c_16.toNat : Int))))) && (!decide ((c_16.toNat : Int) = 45))) && (!decide ((c_16.toNat : Int) = 46))) && (!decide ((c_16.toNat : Int) = 95))) then
      some false
    else
    nx_13 ()) () (fun _ =>
    k_9 ())
def R_IsPath (s_1 : Str) : Option Bool :=
  jp (S := Unit) (fun _ =>
    some (decide ((s_1.length : Int) ≤ 200))) fun k_12 =>
  call (strings_Split s_1 ([47] : Str)) fun r_13 =>
  forL r_13 0 (fun i_19 s_21 s nx_18 k_17 =>
    call (R_isPart s_21) fun r_22 =>
    bif !r_22 then
      some false
    else
    nx_18 ()) () (fun _ =>
    k_12 ())
def R_fileError (f_1 : api_File) : Option Int :=
  call (R_IsPath f_1.Path) fun r_2 =>
  call (R_when (!r_2) 5) fun r_3 =>
  call (R_when (decide (65536 < (f_1.Data.length : Int))) 4) fun r_4 =>
  call (R_first [r_3, r_4]) fun r_5 =>
  some r_5
def R_settingError (s_1 : api_Setting) : Option Int :=
  call (R_IsPath s_1.Key) fun r_2 =>
  call (R_when (!r_2) 5) fun r_3 =>
  call (R_IsValue s_1.Value) fun r_4 =>
  call (R_when (!r_4) 2) fun r_5 =>
  call (R_first [r_3, r_5]) fun r_6 =>
  some r_6
def R_serviceError (s_1 : api_Service) : Option Int :=
  call (R_IsName s_1.Name) fun r_2 =>
  callG (!(!r_2)) (R_IsPath s_1.Path) false fun r_3 =>
  call (R_when ((!r_2) || (!r_3)) 5) fun r_4 =>
  some r_4
def R_Check (m_1 : api_Machine) : Option Int :=
  bif ((((decide (100 < (m_1.Facts.length : Int))) || (decide (2000 < (m_1.Files.length : Int)))) || (decide (2000 < (m_1.Settings.length : Int)))) || (decide (100 < (m_1.Services.length : Int)))) then
    some 4
  else
  jp (S := Str) (fun o1_0_35 =>
    jp (S := Str) (fun o1_0_246 =>
      jp (S := Str) (fun o1_0_269 =>
        jp (S := Unit) (fun _ =>
          some 0) fun k_292 =>
        forL m_1.Services 0 (fun i_306 s_308 o1_0_299 nx_305 k_304 =>
          call (R_serviceError s_308) fun r_309 =>
          call (R_Check_1_i1 (i_306 : Int) s_308.Name o1_0_299) fun r_310 =>
          call (R_first [r_309, r_310.1]) fun r_311 =>
          bif !decide (r_311 = 0) then
            some r_311
          else
          nx_305 r_310.2) o1_0_269 (fun o1_0_299 =>
          k_292 ())) fun k_270 =>
      forL m_1.Settings 0 (fun i_325 s_327 o1_0_318 nx_324 k_323 =>
        call (R_settingError s_327) fun r_328 =>
        call (R_Check_1_i1 (i_325 : Int) s_327.Key o1_0_318) fun r_329 =>
        call (R_first [r_328, r_329.1]) fun r_330 =>
        bif !decide (r_330 = 0) then
          some r_330
        else
        nx_324 r_329.2) o1_0_246 (fun o1_0_318 =>
        k_270 o1_0_318)) fun k_247 =>
    forL m_1.Files 0 (fun i_471 f_473 s nx_470 k_469 =>
      match s with
      | (o1_0_400, m2_401) =>
        jp (S := Str) (fun o1_0_505 =>
          nx_470 (o1_0_505, aset m2_401 f_473.Path true)) fun k_506 =>
        call (R_fileError f_473) fun r_507 =>
        call (R_Check_1_i1 (i_471 : Int) f_473.Path o1_0_400) fun r_508 =>
        call (R_first [r_507, r_508.1]) fun r_509 =>
        jp (S := Int) (fun e_522 =>
          bif !decide (e_522 = 0) then
            some e_522
          else
          chk ((aset m2_401 f_473.Path true).length ≤ 274877906944) <|
          k_506 r_508.2) fun k_523 =>
        bif decide (r_509 = 0) then
          loopN Fuel (fun s nx_533 k_532 =>
            match s with
            | (e_526, t94_527) =>
              bif decide (t94_527 < (f_473.Path.length : Int)) then
                idxS f_473.Path t94_527 fun c_534 =>
                chk ((decide (c_534 = 47)) = true → (0 ≤ t94_527 ∧ t94_527 ≤ (f_473.Path.length : Int))) <|
                letv (alook m2_401 (List.take t94_527.toNat f_473.Path)) fun q_536 =>
                bif ((decide (c_534 = 47)) && (q_536.getD false)) then
                  nx_533 (11, IntKind.i64.wrap (t94_527 + 1))
                else
                nx_533 (e_526, IntKind.i64.wrap (t94_527 + 1))
              else
              k_532 (e_526, t94_527)) (r_509, 0) (fun s => match s with
            | (e_526, t94_527) =>
              k_523 e_526)
        else
        k_523 r_509) (o1_0_35, []) (fun s => match s with
      | (o1_0_400, m2_401) =>
        k_247 o1_0_400)) fun k_36 =>
  forL m_1.Facts 0 (fun i_557 s_559 o1_0_547 nx_556 k_555 =>
    call (R_IsName s_559.Key) fun r_560 =>
    call (R_when (!r_560) 5) fun r_561 =>
    call (R_IsValue s_559.Value) fun r_562 =>
    call (R_when (!r_562) 2) fun r_563 =>
    call (R_Check_1_i1 (i_557 : Int) s_559.Key o1_0_547) fun r_564 =>
    call (R_first [r_561, r_563, r_564.1]) fun r_565 =>
    bif !decide (r_565 = 0) then
      some r_565
    else
    nx_556 r_564.2) [] (fun o1_0_547 =>
    k_36 o1_0_547)
def ver_IsValue_1 (c_1 : Int) : Option Bool :=
  some ((decide (32 ≤ c_1)) && (decide (c_1 ≤ 126)))
def ver_each_i2 (s_1 : Str) (most_2 : Int) : Option Bool :=
  jp (S := Unit) (fun _ =>
    some ((!decide (s_1 = [])) && (decide ((s_1.length : Int) ≤ most_2)))) fun k_12 =>
  forL s_1 0 (fun i_18 c_20 s nx_17 k_16 =>
    call (ver_IsValue_1 (c_20.toNat : Int)) fun r_21 =>
    bif !r_21 then
      some false
    else
    nx_17 ()) () (fun _ =>
    k_12 ())
def ver_IsValue (s_1 : Str) : Option Bool :=
  callG (!(decide (s_1 = []))) (ver_each_i2 s_1 1000) false fun r_2 =>
  some ((decide (s_1 = [])) || r_2)
def disk_settingFault_i1 (s_1 : api_Setting) : Option Int :=
  call (ver_IsName s_1.Key) fun r_2 =>
  bif !r_2 then
    some 5
  else
  call (ver_IsValue s_1.Value) fun r_3 =>
  bif !r_3 then
    some 2
  else
  some 0
def disk_Check_1 (s_1 : api_Setting) : Option Int :=
  call (disk_settingFault_i1 s_1) fun r_2 =>
  some r_2
def disk_keyOf (s_1 : api_Setting) : Option Str :=
  some s_1.Key
def disk_eachFault_api_Setting_i1 (l_1 : List api_Setting) : Option Int :=
  jp (S := Unit) (fun _ =>
    some 0) fun k_19 =>
  forL l_1 0 (fun i_29 s_31 s nx_28 k_27 =>
    call (disk_Check_1 s_31) fun r_32 =>
    bif !decide (r_32 = 0) then
      some r_32
    else
    callG (decide (0 < (i_29 : Int))) (disk_keyOf s_31) [] fun r_33 =>
    chk ((decide (0 < (i_29 : Int))) = true → (0 ≤ IntKind.i64.wrap ((i_29 : Int) - 1) ∧ IntKind.i64.wrap ((i_29 : Int) - 1) < (l_1.length : Int))) <|
    callG (decide (0 < (i_29 : Int))) (disk_keyOf (api_Setting.mk ((l_1.getD ((IntKind.i64.wrap ((i_29 : Int) - 1)).toNat) (api_Setting.mk [] [])).Key) ((l_1.getD ((IntKind.i64.wrap ((i_29 : Int) - 1)).toNat) (api_Setting.mk [] [])).Value))) [] fun r_35 =>
    bif ((decide (0 < (i_29 : Int))) && (strLt r_33 r_35 || decide (r_33 = r_35))) then
      some 7
    else
    nx_28 ()) () (fun _ =>
    k_19 ())
def ver_isPart_1 (c_1 : Int) : Option Bool :=
  call (ver_isSmall c_1) fun r_2 =>
  callG (!(r_2 || ((decide (65 ≤ c_1)) && (decide (c_1 ≤ 90))))) (ver_isDigit c_1) false fun r_3 =>
  some (((((r_2 || ((decide (65 ≤ c_1)) && (decide (c_1 ≤ 90)))) || r_3) || (decide (c_1 = 45))) || (decide (c_1 = 46))) || (decide (c_1 = 95)))
def ver_each_i3 (s_1 : Str) (most_2 : Int) : Option Bool :=
  jp (S := Unit) (fun _ =>
    some ((!decide (s_1 = [])) && (decide ((s_1.length : Int) ≤ most_2)))) fun k_12 =>
  forL s_1 0 (fun i_18 c_20 s nx_17 k_16 =>
    call (ver_isPart_1 (c_20.toNat : Int)) fun r_21 =>
    bif !r_21 then
      some false
    else
    nx_17 ()) () (fun _ =>
    k_12 ())
def ver_isPart (s_1 : Str) : Option Bool :=
  call (ver_each_i3 s_1 40) fun r_2 =>
  some ((r_2 && (!decide (s_1 = ([46] : Str)))) && (!decide (s_1 = ([46, 46] : Str))))
def ver_IsPath (s_1 : Str) : Option Bool :=
  jp (S := Unit) (fun _ =>
    some (decide ((s_1.length : Int) ≤ 200))) fun k_12 =>
  call (strings_Split s_1 ([47] : Str)) fun r_13 =>
  forL r_13 0 (fun i_19 s_21 s nx_18 k_17 =>
    call (ver_isPart s_21) fun r_22 =>
    bif !r_22 then
      some false
    else
    nx_18 ()) () (fun _ =>
    k_12 ())
def disk_fileFault (f_1 : api_File) : Option Int :=
  call (ver_IsPath f_1.Path) fun r_2 =>
  bif !r_2 then
    some 5
  else
  bif decide (65536 < (f_1.Data.length : Int)) then
    some 4
  else
  some 0
def disk_Check_2_i1 (dir_1 : Str) (m1_2 : List (Str × Bool)) : Option Bool :=
  letv (alook m1_2 dir_1) fun q_5 =>
  some (!(q_5.getD false))
def disk_above_i1 (path_1 : Str) (m1_2 : List (Str × Bool)) : Option Bool :=
  jp (S := Unit) (fun _ =>
    some true) fun k_37 =>
  forL path_1 0 (fun i_44 c_46 s nx_43 k_42 =>
    chk ((decide ((c_46.toNat : Int) = 47)) = true → (0 ≤ (i_44 : Int) ∧ (i_44 : Int) ≤ (path_1.length : Int))) <|
    callG (decide ((c_46.toNat : Int) = 47)) (disk_Check_2_i1 (List.take i_44 path_1) m1_2) false fun r_48 =>
    bif ((decide ((c_46.toNat : Int) = 47)) && (!r_48)) then
      some false
    else
    nx_43 ()) () (fun _ =>
    k_37 ())
def disk_settingFault_i2 (s_1 : api_Setting) : Option Int :=
  call (ver_IsPath s_1.Key) fun r_2 =>
  bif !r_2 then
    some 5
  else
  call (ver_IsValue s_1.Value) fun r_3 =>
  bif !r_3 then
    some 2
  else
  some 0
def disk_Check_3 (s_1 : api_Setting) : Option Int :=
  call (disk_settingFault_i2 s_1) fun r_2 =>
  some r_2
def disk_eachFault_api_Setting_i2 (l_1 : List api_Setting) : Option Int :=
  jp (S := Unit) (fun _ =>
    some 0) fun k_19 =>
  forL l_1 0 (fun i_29 s_31 s nx_28 k_27 =>
    call (disk_Check_3 s_31) fun r_32 =>
    bif !decide (r_32 = 0) then
      some r_32
    else
    callG (decide (0 < (i_29 : Int))) (disk_keyOf s_31) [] fun r_33 =>
    chk ((decide (0 < (i_29 : Int))) = true → (0 ≤ IntKind.i64.wrap ((i_29 : Int) - 1) ∧ IntKind.i64.wrap ((i_29 : Int) - 1) < (l_1.length : Int))) <|
    callG (decide (0 < (i_29 : Int))) (disk_keyOf (api_Setting.mk ((l_1.getD ((IntKind.i64.wrap ((i_29 : Int) - 1)).toNat) (api_Setting.mk [] [])).Key) ((l_1.getD ((IntKind.i64.wrap ((i_29 : Int) - 1)).toNat) (api_Setting.mk [] [])).Value))) [] fun r_35 =>
    bif ((decide (0 < (i_29 : Int))) && (strLt r_33 r_35 || decide (r_33 = r_35))) then
      some 7
    else
    nx_28 ()) () (fun _ =>
    k_19 ())
def disk_serviceFault (s_1 : api_Service) : Option Int :=
  call (ver_IsName s_1.Name) fun r_2 =>
  callG (!(!r_2)) (ver_IsPath s_1.Path) false fun r_3 =>
  bif ((!r_2) || (!r_3)) then
    some 5
  else
  some 0
def disk_nameOf (s_1 : api_Service) : Option Str :=
  some s_1.Name
def disk_eachFault_api_Service_i1 (l_1 : List api_Service) : Option Int :=
  jp (S := Unit) (fun _ =>
    some 0) fun k_19 =>
  forL l_1 0 (fun i_29 s_31 s nx_28 k_27 =>
    call (disk_serviceFault s_31) fun r_32 =>
    bif !decide (r_32 = 0) then
      some r_32
    else
    callG (decide (0 < (i_29 : Int))) (disk_nameOf s_31) [] fun r_33 =>
    chk ((decide (0 < (i_29 : Int))) = true → (0 ≤ IntKind.i64.wrap ((i_29 : Int) - 1) ∧ IntKind.i64.wrap ((i_29 : Int) - 1) < (l_1.length : Int))) <|
    callG (decide (0 < (i_29 : Int))) (disk_nameOf (api_Service.mk ((l_1.getD ((IntKind.i64.wrap ((i_29 : Int) - 1)).toNat) (api_Service.mk [] [] false false)).Name) ((l_1.getD ((IntKind.i64.wrap ((i_29 : Int) - 1)).toNat) (api_Service.mk [] [] false false)).Path) ((l_1.getD ((IntKind.i64.wrap ((i_29 : Int) - 1)).toNat) (api_Service.mk [] [] false false)).Auto) ((l_1.getD ((IntKind.i64.wrap ((i_29 : Int) - 1)).toNat) (api_Service.mk [] [] false false)).On))) [] fun r_35 =>
    bif ((decide (0 < (i_29 : Int))) && (strLt r_33 r_35 || decide (r_33 = r_35))) then
      some 7
    else
    nx_28 ()) () (fun _ =>
    k_19 ())
def disk_Check (m_1 : api_Machine) : Option Int :=
  bif ((((decide (100 < (m_1.Facts.length : Int))) || (decide (2000 < (m_1.Files.length : Int)))) || (decide (2000 < (m_1.Settings.length : Int)))) || (decide (100 < (m_1.Services.length : Int)))) then
    some 4
  else
  call (disk_eachFault_api_Setting_i1 m_1.Facts) fun r_2 =>
  bif !decide (r_2 = 0) then
    some r_2
  else
  jp (S := Unit) (fun _ =>
    call (disk_eachFault_api_Setting_i2 m_1.Settings) fun r_28 =>
    bif !decide (r_28 = 0) then
      some r_28
    else
    call (disk_eachFault_api_Service_i1 m_1.Services) fun r_29 =>
    some r_29) fun k_27 =>
  forL m_1.Files 0 (fun i_47 f_49 s nx_46 k_45 =>
    match s with
    | (before_37, m1_39) =>
      call (disk_fileFault f_49) fun r_50 =>
      bif !decide (r_50 = 0) then
        some r_50
      else
      bif ((decide (0 < (i_47 : Int))) && (strLt f_49.Path before_37 || decide (f_49.Path = before_37))) then
        some 7
      else
      call (disk_above_i1 f_49.Path m1_39) fun r_51 =>
      bif !r_51 then
        some 11
      else
      chk ((aset m1_39 f_49.Path true).length ≤ 274877906944) <|
      nx_46 (f_49.Path, aset m1_39 f_49.Path true)) ([], []) (fun s => match s with
    | (before_37, m1_39) =>
      k_27 ())
def slices_Equal_api_Setting_api_Setting (s1_1 : List api_Setting) (s2_2 : List api_Setting) : Option Bool :=
  bif !decide ((s1_1.length : Int) = (s2_2.length : Int)) then
    some false
  else
  jp (S := Unit) (fun _ =>
    some true) fun k_12 =>
  forL s1_1 0 (fun i_18 s_20 s nx_17 k_16 =>
    idx s2_2 (i_18 : Int) fun s_21 =>
    bif !((decide (s_20.Key = s_21.Key)) && (decide (s_20.Value = s_21.Value))) then
      some false
    else
    nx_17 ()) () (fun _ =>
    k_12 ())
def slices_Equal_api_File_api_File (s1_1 : List api_File) (s2_2 : List api_File) : Option Bool :=
  bif !decide ((s1_1.length : Int) = (s2_2.length : Int)) then
    some false
  else
  jp (S := Unit) (fun _ =>
    some true) fun k_12 =>
  forL s1_1 0 (fun i_18 f_20 s nx_17 k_16 =>
    idx s2_2 (i_18 : Int) fun f_21 =>
    bif !((decide (f_20.Path = f_21.Path)) && ((decide (f_20.Data = f_21.Data)) && (decide (f_20.Runs = f_21.Runs)))) then
      some false
    else
    nx_17 ()) () (fun _ =>
    k_12 ())
def slices_Equal_api_Service_api_Service (s1_1 : List api_Service) (s2_2 : List api_Service) : Option Bool :=
  bif !decide ((s1_1.length : Int) = (s2_2.length : Int)) then
    some false
  else
  jp (S := Unit) (fun _ =>
    some true) fun k_12 =>
  forL s1_1 0 (fun i_18 s_20 s nx_17 k_16 =>
    idx s2_2 (i_18 : Int) fun s_21 =>
    bif !((decide (s_20.Name = s_21.Name)) && ((decide (s_20.Path = s_21.Path)) && ((decide (s_20.Auto = s_21.Auto)) && (decide (s_20.On = s_21.On))))) then
      some false
    else
    nx_17 ()) () (fun _ =>
    k_12 ())
def R_Same (a_1 : api_Machine) (b_2 : api_Machine) : Option Bool :=
  call (slices_Equal_api_Setting_api_Setting a_1.Facts b_2.Facts) fun r_3 =>
  callG r_3 (slices_Equal_api_File_api_File a_1.Files b_2.Files) false fun r_4 =>
  callG (r_3 && r_4) (slices_Equal_api_Setting_api_Setting a_1.Settings b_2.Settings) false fun r_5 =>
  callG ((r_3 && r_4) && r_5) (slices_Equal_api_Service_api_Service a_1.Services b_2.Services) false fun r_6 =>
  some (((r_3 && r_4) && r_5) && r_6)
def internal_stringslite_Cut (s_1 : Str) (sep_2 : Str) : Option (Str × Str × Bool) :=
  call (internal_stringslite_Index s_1 sep_2) fun r_3 =>
  bif decide (0 ≤ r_3) then
    chk (0 ≤ r_3 ∧ r_3 ≤ (s_1.length : Int)) <|
    chk (0 ≤ IntKind.i64.wrap (r_3 + (sep_2.length : Int)) ∧ IntKind.i64.wrap (r_3 + (sep_2.length : Int)) ≤ (s_1.length : Int)) <|
    some (List.take r_3.toNat s_1, List.drop ((IntKind.i64.wrap (r_3 + (sep_2.length : Int))).toNat) s_1, true)
  else
  some (s_1, [], false)
def strings_Cut (s_1 : Str) (sep_2 : Str) : Option (Str × Str × Bool) :=
  call (internal_stringslite_Cut s_1 sep_2) fun r_3 =>
  some (r_3.1, r_3.2.1, r_3.2.2)
def strings_IndexByte (s_1 : Str) (c_2 : Int) : Option Int :=
  call (internal_stringslite_IndexByte s_1 c_2) fun r_3 =>
  some r_3
def disk_escape (s_1 : Str) : Option (Int × Int) :=
  bif decide (s_1 = []) then
    some (0, 0)
  else
  idxS s_1 0 fun c_2 =>
  bif ((decide (c_2 = 92)) || (decide (c_2 = 34))) then
    some (c_2, 1)
  else
  bif decide (c_2 = 110) then
    some (10, 1)
  else
  bif ((!decide (c_2 = 120)) || (decide ((s_1.length : Int) < 3))) then
    some (0, 0)
  else
  idxS s_1 1 fun c_3 =>
  call (strings_IndexByte ([48, 49, 50, 51, 52, 53, 54, 55, 56, 57, 97, 98, 99, 100, 101, 102] : Str) c_3) fun r_4 =>
  idxS s_1 2 fun c_5 =>
  call (strings_IndexByte ([48, 49, 50, 51, 52, 53, 54, 55, 56, 57, 97, 98, 99, 100, 101, 102] : Str) c_5) fun r_6 =>
  bif ((decide (r_4 < 0)) || (decide (r_6 < 0))) then
    some (0, 0)
  else
  bif (((decide (32 ≤ (IntKind.u8.wrap (IntKind.i64.wrap ((IntKind.i64.wrap (16 * r_4)) + r_6))))) && (decide ((IntKind.u8.wrap (IntKind.i64.wrap ((IntKind.i64.wrap (16 * r_4)) + r_6))) ≤ 126))) || (decide ((IntKind.u8.wrap (IntKind.i64.wrap ((IntKind.i64.wrap (16 * r_4)) + r_6))) = 10))) then
    some (0, 0)
  else
  some (IntKind.u8.wrap (IntKind.i64.wrap ((IntKind.i64.wrap (16 * r_4)) + r_6)), 3)
def disk_Unquote (s_1 : Str) : Option (Str × Int) :=
  chk ((!(decide ((s_1.length : Int) < 2))) = true → (0 ≤ 0 ∧ 0 < (s_1.length : Int))) <|
  chk ((!((decide ((s_1.length : Int) < 2)) || (!decide (((s_1.getD 0 0).toNat : Int) = 34)))) = true → (0 ≤ IntKind.i64.wrap ((s_1.length : Int) - 1) ∧ IntKind.i64.wrap ((s_1.length : Int) - 1) < (s_1.length : Int))) <|
  bif (((decide ((s_1.length : Int) < 2)) || (!decide (((s_1.getD 0 0).toNat : Int) = 34))) || (!decide (((s_1.getD ((IntKind.i64.wrap ((s_1.length : Int) - 1)).toNat) 0).toNat : Int) = 34))) then
    some ([], 8)
  else
  chk (0 ≤ 1 ∧ 1 ≤ (s_1.length : Int) ∧ 0 ≤ IntKind.i64.wrap ((s_1.length : Int) - 1) ∧ IntKind.i64.wrap ((s_1.length : Int) - 1) ≤ (s_1.length : Int) ∧ 1 ≤ IntKind.i64.wrap ((s_1.length : Int) - 1)) <|
  chk (0 ≤ 0 ∧ 0 ≤ ((List.take ((IntKind.i64.wrap ((s_1.length : Int) - 1)).toNat - 1) (List.drop 1 s_1)).length : Int) ∧ ((List.take ((IntKind.i64.wrap ((s_1.length : Int) - 1)).toNat - 1) (List.drop 1 s_1)).length : Int) ≤ 274877906944) <|
  jp (S := List Int) (fun o0_26 =>
    some (strOf o0_26, 0)) fun k_27 =>
  loopN Fuel (fun s nx_42 k_41 =>
    match s with
    | (i_34, o0_35) =>
      bif decide (i_34 < ((List.take ((IntKind.i64.wrap ((s_1.length : Int) - 1)).toNat - 1) (List.drop 1 s_1)).length : Int)) then
        idxS (List.take ((IntKind.i64.wrap ((s_1.length : Int) - 1)).toNat - 1) (List.drop 1 s_1)) i_34 fun c_43 =>
        bif (((decide (c_43 < 32)) || (decide (126 < c_43))) || (decide (c_43 = 34))) then
          some ([], 8)
        else
        bif decide (c_43 = 92) then
          chk (0 ≤ IntKind.i64.wrap (i_34 + 1) ∧ IntKind.i64.wrap (i_34 + 1) ≤ ((List.take ((IntKind.i64.wrap ((s_1.length : Int) - 1)).toNat - 1) (List.drop 1 s_1)).length : Int)) <|
          call (disk_escape (List.drop ((IntKind.i64.wrap (i_34 + 1)).toNat) (List.take ((IntKind.i64.wrap ((s_1.length : Int) - 1)).toNat - 1) (List.drop 1 s_1)))) fun r_45 =>
          bif decide (r_45.2 = 0) then
            some ([], 8)
          else
          chk ((o0_35 ++ [r_45.1]).length ≤ 274877906944) <|
          nx_42 (IntKind.i64.wrap ((IntKind.i64.wrap (i_34 + r_45.2)) + 1), o0_35 ++ [r_45.1])
        else
        chk ((o0_35 ++ [c_43]).length ≤ 274877906944) <|
        nx_42 (IntKind.i64.wrap (i_34 + 1), o0_35 ++ [c_43])
      else
      k_41 (i_34, o0_35)) (0, List.replicate 0 0) (fun s => match s with
    | (i_34, o0_35) =>
      k_27 o0_35)
def disk_isBit (s_1 : Str) : Option Bool :=
  some ((decide (s_1 = ([48] : Str))) || (decide (s_1 = ([49] : Str))))
def disk_readLine (s_1 : Str) : Option (disk_line × Bool) :=
  call (strings_Cut s_1 ([32] : Str)) fun r_2 =>
  call (strings_Cut r_2.2.1 ([32] : Str)) fun r_3 =>
  bif ((!r_2.2.2) || (decide (r_3.1 = []))) then
    some ((disk_line.mk [] (api_File.mk [] [] false) (api_Setting.mk [] []) (api_Service.mk [] [] false false)), false)
  else
  jp (S := Bool) (fun t38_4 =>
    bif t38_4 then
      call (disk_Unquote r_3.2.1) fun r_6 =>
      some ((disk_line.mk r_2.1 (api_File.mk [] [] false) (api_Setting.mk r_3.1 r_6.1) (api_Service.mk [] [] false false)), (r_3.2.2 && (decide (r_6.2 = 0))))
    else
    jp (S := Bool) (fun t56_7 =>
      bif t56_7 then
        call (disk_Unquote r_3.2.1) fun r_9 =>
        some ((disk_line.mk r_2.1 (api_File.mk r_3.1 r_9.1 ((decide (r_2.1 = ([114, 117, 110] : Str))) || (decide (r_2.1 = ([112, 117, 116, 114, 117, 110] : Str))))) (api_Setting.mk [] []) (api_Service.mk [] [] false false)), (r_3.2.2 && (decide (r_9.2 = 0))))
      else
      bif decide (r_2.1 = ([115, 101, 114, 118, 105, 99, 101] : Str)) then
        call (strings_Split r_3.2.1 ([32] : Str)) fun r_10 =>
        chk ((!((!r_3.2.2) || (!decide ((r_10.length : Int) = 3)))) = true → (0 ≤ 0 ∧ 0 < (r_10.length : Int))) <|
        chk ((!(((!r_3.2.2) || (!decide ((r_10.length : Int) = 3))) || (decide ((r_10.getD 0 []) = [])))) = true → (0 ≤ 1 ∧ 1 < (r_10.length : Int))) <|
        callG (!(((!r_3.2.2) || (!decide ((r_10.length : Int) = 3))) || (decide ((r_10.getD 0 []) = [])))) (disk_isBit (r_10.getD 1 [])) false fun r_13 =>
        chk ((!((((!r_3.2.2) || (!decide ((r_10.length : Int) = 3))) || (decide ((r_10.getD 0 []) = []))) || (!r_13))) = true → (0 ≤ 2 ∧ 2 < (r_10.length : Int))) <|
        callG (!((((!r_3.2.2) || (!decide ((r_10.length : Int) = 3))) || (decide ((r_10.getD 0 []) = []))) || (!r_13))) (disk_isBit (r_10.getD 2 [])) false fun r_15 =>
        bif (((((!r_3.2.2) || (!decide ((r_10.length : Int) = 3))) || (decide ((r_10.getD 0 []) = []))) || (!r_13)) || (!r_15)) then
          some ((disk_line.mk [] (api_File.mk [] [] false) (api_Setting.mk [] []) (api_Service.mk [] [] false false)), false)
        else
        idx r_10 0 fun s_19 =>
        idx r_10 1 fun s_20 =>
        idx r_10 2 fun s_21 =>
        some ((disk_line.mk r_2.1 (api_File.mk [] [] false) (api_Setting.mk [] []) (api_Service.mk r_3.1 s_19 (decide (s_20 = ([49] : Str))) (decide (s_21 = ([49] : Str))))), true)
      else
      bif decide (r_2.1 = ([114, 101, 109, 111, 118, 101] : Str)) then
        some ((disk_line.mk r_2.1 (api_File.mk r_3.1 [] false) (api_Setting.mk [] []) (api_Service.mk [] [] false false)), !r_3.2.2)
      else
      bif decide (r_2.1 = ([117, 110, 115, 101, 116] : Str)) then
        some ((disk_line.mk r_2.1 (api_File.mk [] [] false) (api_Setting.mk r_3.1 []) (api_Service.mk [] [] false false)), !r_3.2.2)
      else
      bif decide (r_2.1 = ([100, 114, 111, 112] : Str)) then
        some ((disk_line.mk r_2.1 (api_File.mk [] [] false) (api_Setting.mk [] []) (api_Service.mk r_3.1 [] false false)), !r_3.2.2)
      else
      some ((disk_line.mk r_2.1 (api_File.mk [] [] false) (api_Setting.mk [] []) (api_Service.mk [] [] false false)), !r_3.2.2)) fun k_8 =>
    bif decide (r_2.1 = ([102, 105, 108, 101] : Str)) then
      k_8 (decide (r_2.1 = ([102, 105, 108, 101] : Str)))
    else
    bif decide (r_2.1 = ([114, 117, 110] : Str)) then
      k_8 (decide (r_2.1 = ([114, 117, 110] : Str)))
    else
    bif decide (r_2.1 = ([112, 117, 116] : Str)) then
      k_8 (decide (r_2.1 = ([112, 117, 116] : Str)))
    else
    k_8 (decide (r_2.1 = ([112, 117, 116, 114, 117, 110] : Str)))) fun k_5 =>
  bif decide (r_2.1 = ([102, 97, 99, 116] : Str)) then
    k_5 (decide (r_2.1 = ([102, 97, 99, 116] : Str)))
  else
  k_5 (decide (r_2.1 = ([115, 101, 116] : Str)))
def disk_rank (word_1 : Str) : Option Int :=
  bif decide (word_1 = ([102, 97, 99, 116] : Str)) then
    some 0
  else
  jp (S := Bool) (fun t6_2 =>
    bif t6_2 then
      some 1
    else
    bif decide (word_1 = ([115, 101, 116] : Str)) then
      some 2
    else
    bif decide (word_1 = ([115, 101, 114, 118, 105, 99, 101] : Str)) then
      some 3
    else
    some (-1)) fun k_3 =>
  bif decide (word_1 = ([102, 105, 108, 101] : Str)) then
    k_3 (decide (word_1 = ([102, 105, 108, 101] : Str)))
  else
  k_3 (decide (word_1 = ([114, 117, 110] : Str)))
def disk_Parse_1_i1 (x_1 : disk_line) (o0_0_2 : Int) (o2_3 : List api_Setting) (o3_4 : List api_File) (o4_5 : List api_Setting) (o5_6 : List api_Service) : Option (Bool × Int × List api_Setting × List api_File × List api_Setting × List api_Service) :=
  call (disk_rank x_1.word) fun r_12 =>
  bif decide (r_12 < o0_0_2) then
    some (false, o0_0_2, o2_3, o3_4, o4_5, o5_6)
  else
  bif decide (r_12 = 0) then
    chk ((o2_3 ++ [x_1.setting]).length ≤ 274877906944) <|
    some (true, r_12, o2_3 ++ [x_1.setting], o3_4, o4_5, o5_6)
  else
  bif decide (r_12 = 1) then
    chk ((o3_4 ++ [x_1.file]).length ≤ 274877906944) <|
    some (true, r_12, o2_3, o3_4 ++ [x_1.file], o4_5, o5_6)
  else
  bif decide (r_12 = 2) then
    chk ((o4_5 ++ [x_1.setting]).length ≤ 274877906944) <|
    some (true, r_12, o2_3, o3_4, o4_5 ++ [x_1.setting], o5_6)
  else
  chk ((o5_6 ++ [x_1.service]).length ≤ 274877906944) <|
  some (true, r_12, o2_3, o3_4, o4_5, o5_6 ++ [x_1.service])
def disk_eachLine_i1 (text_1 : Str) (o0_0_2 : Int) (o2_3 : List api_Setting) (o3_4 : List api_File) (o4_5 : List api_Setting) (o5_6 : List api_Service) : Option (Int × Int × List api_Setting × List api_File × List api_Setting × List api_Service) :=
  jp (S := Int × List api_Setting × List api_File × List api_Setting × List api_Service) (fun s => match s with
    | (o0_0_73, o2_74, o3_75, o4_76, o5_77) =>
      some ((-1), o0_0_73, o2_74, o3_75, o4_76, o5_77)) fun k_78 =>
  loopN Fuel (fun s nx_95 k_94 =>
    match s with
    | (text_84, n_85, o0_0_86, o2_87, o3_88, o4_89, o5_90) =>
      bif !decide (text_84 = []) then
        call (strings_Cut text_84 ([10] : Str)) fun r_96 =>
        call (disk_readLine r_96.1) fun r_97 =>
        callG (!((!r_96.2.2) || (!r_97.2))) (disk_Parse_1_i1 r_97.1 o0_0_86 o2_87 o3_88 o4_89 o5_90) (false, o0_0_86, o2_87, o3_88, o4_89, o5_90) fun r_98 =>
        bif (((!r_96.2.2) || (!r_97.2)) || (!r_98.1)) then
          some (n_85, r_98.2.1, r_98.2.2.1, r_98.2.2.2.1, r_98.2.2.2.2.1, r_98.2.2.2.2.2)
        else
        nx_95 (r_96.2.1, IntKind.i64.wrap (n_85 + 1), r_98.2.1, r_98.2.2.1, r_98.2.2.2.1, r_98.2.2.2.2.1, r_98.2.2.2.2.2)
      else
      k_94 (text_84, n_85, o0_0_86, o2_87, o3_88, o4_89, o5_90)) (text_1, 0, o0_0_2, o2_3, o3_4, o4_5, o5_6) (fun s => match s with
    | (text_84, n_85, o0_0_86, o2_87, o3_88, o4_89, o5_90) =>
      k_78 (o0_0_86, o2_87, o3_88, o4_89, o5_90))
def disk_Parse (text_1 : Str) : Option (api_Machine × Int × Int) :=
  bif decide (4194304 < (text_1.length : Int)) then
    some ((api_Machine.mk [] [] [] []), 0, 4)
  else
  call (disk_eachLine_i1 text_1 0 [] [] [] []) fun r_2 =>
  bif decide (0 ≤ r_2.1) then
    some ((api_Machine.mk [] [] [] []), r_2.1, 8)
  else
  call (disk_Check (api_Machine.mk r_2.2.2.1 r_2.2.2.2.1 r_2.2.2.2.2.1 r_2.2.2.2.2.2)) fun r_3 =>
  bif !decide (r_3 = 0) then
    some ((api_Machine.mk [] [] [] []), 0, r_3)
  else
  some ((api_Machine.mk r_2.2.2.1 r_2.2.2.2.1 r_2.2.2.2.2.1 r_2.2.2.2.2.2), 0, 0)
def R_cutLines (text_1 : Str) : Option (List Str × Int) :=
  call (strings_Split text_1 ([10] : Str)) fun r_2 =>
  idx r_2 (IntKind.i64.wrap ((r_2.length : Int) - 1)) fun s_3 =>
  bif decide (s_3 = []) then
    chk (0 ≤ IntKind.i64.wrap ((r_2.length : Int) - 1) ∧ IntKind.i64.wrap ((r_2.length : Int) - 1) ≤ (r_2.length : Int)) <|
    some (List.take ((IntKind.i64.wrap ((r_2.length : Int) - 1)).toNat) r_2, (-1))
  else
  some (r_2, IntKind.i64.wrap ((r_2.length : Int) - 1))
def slices_Index_string_string (s_1 : List Str) (v_2 : Str) : Option Int :=
  jp (S := Unit) (fun _ =>
    some (-1)) fun k_10 =>
  forL s_1 0 (fun i_15 s_17 s nx_14 k_13 =>
    bif decide (v_2 = s_17) then
      some (i_15 : Int)
    else
    nx_14 ()) () (fun _ =>
    k_10 ())
def R_Quote (s_1 : Str) : Option Str :=
  jp (S := Str) (fun out_32 =>
    chk ((out_32 ++ ([34] : Str)).length ≤ 274877906944) <|
    some (out_32 ++ ([34] : Str))) fun k_33 =>
  forL s_1 0 (fun i_51 c_53 out_35 nx_50 k_49 =>
    bif ((decide ((c_53.toNat : Int) = 34)) || (decide ((c_53.toNat : Int) = 92))) then
      chk (0 ≤ (i_51 : Int) ∧ (i_51 : Int) ≤ (s_1.length : Int) ∧ 0 ≤ IntKind.i64.wrap ((i_51 : Int) + 1) ∧ IntKind.i64.wrap ((i_51 : Int) + 1) ≤ (s_1.length : Int) ∧ (i_51 : Int) ≤ IntKind.i64.wrap ((i_51 : Int) + 1)) <|
      chk ((([92] : Str) ++ (List.take ((IntKind.i64.wrap ((i_51 : Int) + 1)).toNat - i_51) (List.drop i_51 s_1))).length ≤ 274877906944) <|
      chk ((out_35 ++ (([92] : Str) ++ (List.take ((IntKind.i64.wrap ((i_51 : Int) + 1)).toNat - i_51) (List.drop i_51 s_1)))).length ≤ 274877906944) <|
      nx_50 (out_35 ++ (([92] : Str) ++ (List.take ((IntKind.i64.wrap ((i_51 : Int) + 1)).toNat - i_51) (List.drop i_51 s_1))))
    else
    bif decide ((c_53.toNat : Int) = 10) then
      chk ((out_35 ++ ([92, 110] : Str)).length ≤ 274877906944) <|
      nx_50 (out_35 ++ ([92, 110] : Str))
    else
    bif ((decide ((c_53.toNat : Int) < 32)) || (decide (126 < (c_53.toNat : Int)))) then
      chk (0 ≤ Int.fdiv (c_53.toNat : Int) (2 ^ (shI .u8 4)) ∧ Int.fdiv (c_53.toNat : Int) (2 ^ (shI .u8 4)) ≤ (([48, 49, 50, 51, 52, 53, 54, 55, 56, 57, 97, 98, 99, 100, 101, 102] : Str).length : Int) ∧ 0 ≤ IntKind.u8.wrap ((Int.fdiv (c_53.toNat : Int) (2 ^ (shI .u8 4))) + 1) ∧ IntKind.u8.wrap ((Int.fdiv (c_53.toNat : Int) (2 ^ (shI .u8 4))) + 1) ≤ (([48, 49, 50, 51, 52, 53, 54, 55, 56, 57, 97, 98, 99, 100, 101, 102] : Str).length : Int) ∧ Int.fdiv (c_53.toNat : Int) (2 ^ (shI .u8 4)) ≤ IntKind.u8.wrap ((Int.fdiv (c_53.toNat : Int) (2 ^ (shI .u8 4))) + 1)) <|
      chk ((([92, 120] : Str) ++ (List.take ((IntKind.u8.wrap ((Int.fdiv (c_53.toNat : Int) (2 ^ (shI .u8 4))) + 1)).toNat - (Int.fdiv (c_53.toNat : Int) (2 ^ (shI .u8 4))).toNat) (List.drop ((Int.fdiv (c_53.toNat : Int) (2 ^ (shI .u8 4))).toNat) ([48, 49, 50, 51, 52, 53, 54, 55, 56, 57, 97, 98, 99, 100, 101, 102] : Str)))).length ≤ 274877906944) <|
      chk (0 ≤ bitsI .and .u8 (c_53.toNat : Int) 15 ∧ bitsI .and .u8 (c_53.toNat : Int) 15 ≤ (([48, 49, 50, 51, 52, 53, 54, 55, 56, 57, 97, 98, 99, 100, 101, 102] : Str).length : Int) ∧ 0 ≤ IntKind.u8.wrap ((bitsI .and .u8 (c_53.toNat : Int) 15) + 1) ∧ IntKind.u8.wrap ((bitsI .and .u8 (c_53.toNat : Int) 15) + 1) ≤ (([48, 49, 50, 51, 52, 53, 54, 55, 56, 57, 97, 98, 99, 100, 101, 102] : Str).length : Int) ∧ bitsI .and .u8 (c_53.toNat : Int) 15 ≤ IntKind.u8.wrap ((bitsI .and .u8 (c_53.toNat : Int) 15) + 1)) <|
      chk (((([92, 120] : Str) ++ (List.take ((IntKind.u8.wrap ((Int.fdiv (c_53.toNat : Int) (2 ^ (shI .u8 4))) + 1)).toNat - (Int.fdiv (c_53.toNat : Int) (2 ^ (shI .u8 4))).toNat) (List.drop ((Int.fdiv (c_53.toNat : Int) (2 ^ (shI .u8 4))).toNat) ([48, 49, 50, 51, 52, 53, 54, 55, 56, 57, 97, 98, 99, 100, 101, 102] : Str)))) ++ (List.take ((IntKind.u8.wrap ((bitsI .and .u8 (c_53.toNat : Int) 15) + 1)).toNat - (bitsI .and .u8 (c_53.toNat : Int) 15).toNat) (List.drop ((bitsI .and .u8 (c_53.toNat : Int) 15).toNat) ([48, 49, 50, 51, 52, 53, 54, 55, 56, 57, 97, 98, 99, 100, 101, 102] : Str)))).length ≤ 274877906944) <|
      chk ((out_35 ++ ((([92, 120] : Str) ++ (List.take ((IntKind.u8.wrap ((Int.fdiv (c_53.toNat : Int) (2 ^ (shI .u8 4))) + 1)).toNat - (Int.fdiv (c_53.toNat : Int) (2 ^ (shI .u8 4))).toNat) (List.drop ((Int.fdiv (c_53.toNat : Int) (2 ^ (shI .u8 4))).toNat) ([48, 49, 50, 51, 52, 53, 54, 55, 56, 57, 97, 98, 99, 100, 101, 102] : Str)))) ++ (List.take ((IntKind.u8.wrap ((bitsI .and .u8 (c_53.toNat : Int) 15) + 1)).toNat - (bitsI .and .u8 (c_53.toNat : Int) 15).toNat) (List.drop ((bitsI .and .u8 (c_53.toNat : Int) 15).toNat) ([48, 49, 50, 51, 52, 53, 54, 55, 56, 57, 97, 98, 99, 100, 101, 102] : Str))))).length ≤ 274877906944) <|
      nx_50 (out_35 ++ ((([92, 120] : Str) ++ (List.take ((IntKind.u8.wrap ((Int.fdiv (c_53.toNat : Int) (2 ^ (shI .u8 4))) + 1)).toNat - (Int.fdiv (c_53.toNat : Int) (2 ^ (shI .u8 4))).toNat) (List.drop ((Int.fdiv (c_53.toNat : Int) (2 ^ (shI .u8 4))).toNat) ([48, 49, 50, 51, 52, 53, 54, 55, 56, 57, 97, 98, 99, 100, 101, 102] : Str)))) ++ (List.take ((IntKind.u8.wrap ((bitsI .and .u8 (c_53.toNat : Int) 15) + 1)).toNat - (bitsI .and .u8 (c_53.toNat : Int) 15).toNat) (List.drop ((bitsI .and .u8 (c_53.toNat : Int) 15).toNat) ([48, 49, 50, 51, 52, 53, 54, 55, 56, 57, 97, 98, 99, 100, 101, 102] : Str)))))
    else
    chk (0 ≤ (i_51 : Int) ∧ (i_51 : Int) ≤ (s_1.length : Int) ∧ 0 ≤ IntKind.i64.wrap ((i_51 : Int) + 1) ∧ IntKind.i64.wrap ((i_51 : Int) + 1) ≤ (s_1.length : Int) ∧ (i_51 : Int) ≤ IntKind.i64.wrap ((i_51 : Int) + 1)) <|
    chk ((out_35 ++ (List.take ((IntKind.i64.wrap ((i_51 : Int) + 1)).toNat - i_51) (List.drop i_51 s_1))).length ≤ 274877906944) <|
    nx_50 (out_35 ++ (List.take ((IntKind.i64.wrap ((i_51 : Int) + 1)).toNat - i_51) (List.drop i_51 s_1)))) ([34] : Str) (fun out_35 =>
    k_33 out_35)
def R_Unquote (s_1 : Str) : Option (Str × Int) :=
  chk ((!(decide ((s_1.length : Int) < 2))) = true → (0 ≤ 0 ∧ 0 < (s_1.length : Int))) <|
  chk ((!((decide ((s_1.length : Int) < 2)) || (!decide (((s_1.getD 0 0).toNat : Int) = 34)))) = true → (0 ≤ IntKind.i64.wrap ((s_1.length : Int) - 1) ∧ IntKind.i64.wrap ((s_1.length : Int) - 1) < (s_1.length : Int))) <|
  bif (((decide ((s_1.length : Int) < 2)) || (!decide (((s_1.getD 0 0).toNat : Int) = 34))) || (!decide (((s_1.getD ((IntKind.i64.wrap ((s_1.length : Int) - 1)).toNat) 0).toNat : Int) = 34))) then
    some ([], 8)
  else
  jp (S := List Int) (fun o0_64 =>
    call (R_Quote (strOf o0_64)) fun r_66 =>
    bif !decide (r_66 = s_1) then
      some ([], 8)
    else
    some (strOf o0_64, 0)) fun k_65 =>
  chk (0 ≤ 1 ∧ 1 ≤ (s_1.length : Int) ∧ 0 ≤ IntKind.i64.wrap ((s_1.length : Int) - 1) ∧ IntKind.i64.wrap ((s_1.length : Int) - 1) ≤ (s_1.length : Int) ∧ 1 ≤ IntKind.i64.wrap ((s_1.length : Int) - 1)) <|
  loopN Fuel (fun s nx_108 k_107 =>
    match s with
    | (b_87, o0_88) =>
      bif !decide (b_87 = []) then
        idxS b_87 0 fun c_109 =>
        bif !decide (c_109 = 92) then
          chk ((o0_88 ++ [c_109]).length ≤ 274877906944) <|
          chk (0 ≤ 1 ∧ 1 ≤ (b_87.length : Int)) <|
          nx_108 (List.drop 1 b_87, o0_88 ++ [c_109])
        else
        chk ((decide (2 ≤ (b_87.length : Int))) = true → (0 ≤ 1 ∧ 1 < (b_87.length : Int))) <|
        chk (((decide (2 ≤ (b_87.length : Int))) && (!(decide (((b_87.getD 1 0).toNat : Int) = 34)))) = true → (0 ≤ 1 ∧ 1 < (b_87.length : Int))) <|
        bif ((decide (2 ≤ (b_87.length : Int))) && ((decide (((b_87.getD 1 0).toNat : Int) = 34)) || (decide (((b_87.getD 1 0).toNat : Int) = 92)))) then
          idxS b_87 1 fun c_114 =>
          chk ((o0_88 ++ [c_114]).length ≤ 274877906944) <|
          chk (0 ≤ 2 ∧ 2 ≤ (b_87.length : Int)) <|
          nx_108 (List.drop 2 b_87, o0_88 ++ [c_114])
        else
        chk ((decide (2 ≤ (b_87.length : Int))) = true → (0 ≤ 1 ∧ 1 < (b_87.length : Int))) <|
        bif ((decide (2 ≤ (b_87.length : Int))) && (decide (((b_87.getD 1 0).toNat : Int) = 110))) then
          chk ((o0_88 ++ [10]).length ≤ 274877906944) <|
          chk (0 ≤ 2 ∧ 2 ≤ (b_87.length : Int)) <|
          nx_108 (List.drop 2 b_87, o0_88 ++ [10])
        else
        chk ((decide (4 ≤ (b_87.length : Int))) = true → (0 ≤ 1 ∧ 1 < (b_87.length : Int))) <|
        bif ((decide (4 ≤ (b_87.length : Int))) && (decide (((b_87.getD 1 0).toNat : Int) = 120))) then
          chk (0 ≤ 2 ∧ 2 ≤ (b_87.length : Int) ∧ 0 ≤ 3 ∧ 3 ≤ (b_87.length : Int) ∧ 2 ≤ 3) <|
          call (strings_Index ([48, 49, 50, 51, 52, 53, 54, 55, 56, 57, 97, 98, 99, 100, 101, 102] : Str) (List.take (3 - 2) (List.drop 2 b_87))) fun r_122 =>
          chk (0 ≤ 3 ∧ 3 ≤ (b_87.length : Int) ∧ 0 ≤ 4 ∧ 4 ≤ (b_87.length : Int) ∧ 3 ≤ 4) <|
          call (strings_Index ([48, 49, 50, 51, 52, 53, 54, 55, 56, 57, 97, 98, 99, 100, 101, 102] : Str) (List.take (4 - 3) (List.drop 3 b_87))) fun r_124 =>
          chk ((o0_88 ++ [IntKind.u8.wrap (IntKind.i64.wrap ((IntKind.i64.wrap (r_122 * 16)) + r_124))]).length ≤ 274877906944) <|
          chk (0 ≤ 4 ∧ 4 ≤ (b_87.length : Int)) <|
          nx_108 (List.drop 4 b_87, o0_88 ++ [IntKind.u8.wrap (IntKind.i64.wrap ((IntKind.i64.wrap (r_122 * 16)) + r_124))])
        else
        some ([], 8)
      else
      k_107 (b_87, o0_88)) (List.take ((IntKind.i64.wrap ((s_1.length : Int) - 1)).toNat - 1) (List.drop 1 s_1), []) (fun s => match s with
    | (b_87, o0_88) =>
      k_65 o0_88)
def R_quoted (s_1 : Str) : Option (Str × Str × Bool) :=
  call (strings_Cut s_1 ([32] : Str)) fun r_2 =>
  call (R_Unquote r_2.2.1) fun r_3 =>
  some (r_2.1, r_3.1, ((r_2.2.2 && (!decide (r_2.1 = []))) && (decide (r_3.2 = 0))))
def R_serviceOf (w_1 : List Str) : Option (api_Service × Bool) :=
  chk ((!(!decide ((w_1.length : Int) = 4))) = true → (0 ≤ 0 ∧ 0 < (w_1.length : Int))) <|
  chk ((!((!decide ((w_1.length : Int) = 4)) || (decide ((w_1.getD 0 []) = [])))) = true → (0 ≤ 1 ∧ 1 < (w_1.length : Int))) <|
  chk ((!(((!decide ((w_1.length : Int) = 4)) || (decide ((w_1.getD 0 []) = []))) || (decide ((w_1.getD 1 []) = [])))) = true → (0 ≤ 2 ∧ 2 < (w_1.length : Int))) <|
  chk (((!(((!decide ((w_1.length : Int) = 4)) || (decide ((w_1.getD 0 []) = []))) || (decide ((w_1.getD 1 []) = [])))) && (!decide ((w_1.getD 2 []) = ([48] : Str)))) = true → (0 ≤ 2 ∧ 2 < (w_1.length : Int))) <|
  chk ((!((((!decide ((w_1.length : Int) = 4)) || (decide ((w_1.getD 0 []) = []))) || (decide ((w_1.getD 1 []) = []))) || ((!decide ((w_1.getD 2 []) = ([48] : Str))) && (!decide ((w_1.getD 2 []) = ([49] : Str)))))) = true → (0 ≤ 3 ∧ 3 < (w_1.length : Int))) <|
  chk (((!((((!decide ((w_1.length : Int) = 4)) || (decide ((w_1.getD 0 []) = []))) || (decide ((w_1.getD 1 []) = []))) || ((!decide ((w_1.getD 2 []) = ([48] : Str))) && (!decide ((w_1.getD 2 []) = ([49] : Str)))))) && (!decide ((w_1.getD 3 []) = ([48] : Str)))) = true → (0 ≤ 3 ∧ 3 < (w_1.length : Int))) <|
  bif (((((!decide ((w_1.length : Int) = 4)) || (decide ((w_1.getD 0 []) = []))) || (decide ((w_1.getD 1 []) = []))) || ((!decide ((w_1.getD 2 []) = ([48] : Str))) && (!decide ((w_1.getD 2 []) = ([49] : Str))))) || ((!decide ((w_1.getD 3 []) = ([48] : Str))) && (!decide ((w_1.getD 3 []) = ([49] : Str))))) then
    some ((api_Service.mk [] [] false false), false)
  else
  idx w_1 0 fun s_12 =>
  idx w_1 1 fun s_13 =>
  idx w_1 2 fun s_14 =>
  idx w_1 3 fun s_15 =>
  some ((api_Service.mk s_12 s_13 (decide (s_14 = ([49] : Str))) (decide (s_15 = ([49] : Str)))), true)
def R_Parse (text_1 : Str) : Option (api_Machine × Int × Int) :=
  bif decide (4194304 < (text_1.length : Int)) then
    some ((api_Machine.mk [] [] [] []), 0, 4)
  else
  call (R_cutLines text_1) fun r_2 =>
  jp (S := List api_Setting × List api_File × List api_Setting × List api_Service) (fun s => match s with
    | (o2_261, o3_262, o4_263, o5_264) =>
      call (R_Check (api_Machine.mk o2_261 o3_262 o4_263 o5_264)) fun r_266 =>
      bif !decide (r_266 = 0) then
        some ((api_Machine.mk [] [] [] []), 0, r_266)
      else
      some ((api_Machine.mk o2_261 o3_262 o4_263 o5_264), 0, 0)) fun k_265 =>
  forL r_2.1 0 (fun i_499 s_501 s nx_498 k_497 =>
    match s with
    | (stage_467, o2_469, o3_470, o4_471, o5_472) =>
      call (strings_Cut s_501 ([32] : Str)) fun r_502 =>
      call (slices_Index_string_string [([102, 97, 99, 116] : Str), ([102, 105, 108, 101] : Str), ([115, 101, 116] : Str), ([115, 101, 114, 118, 105, 99, 101] : Str), ([114, 117, 110] : Str)] r_502.1) fun r_503 =>
      jp (S := Int) (fun at_504 =>
        call (R_quoted r_502.2.1) fun r_506 =>
        jp (S := Bool × List api_Setting × List api_File × List api_Setting × List api_Service) (fun s => match s with
          | (is_513, o2_514, o3_515, o4_516, o5_517) =>
            bif ((!((decide (stage_467 ≤ at_504)) && (!decide ((i_499 : Int) = r_2.2)))) || (!is_513)) then
              some ((api_Machine.mk [] [] [] []), (i_499 : Int), 8)
            else
            nx_498 (at_504, o2_514, o3_515, o4_516, o5_517)) fun k_518 =>
        bif decide (at_504 = 0) then
          chk ((o2_469 ++ [(api_Setting.mk r_506.1 r_506.2.1)]).length ≤ 274877906944) <|
          k_518 (r_506.2.2, o2_469 ++ [(api_Setting.mk r_506.1 r_506.2.1)], o3_470, o4_471, o5_472)
        else
        bif decide (at_504 = 1) then
          chk ((o3_470 ++ [(api_File.mk r_506.1 r_506.2.1 (decide (r_502.1 = ([114, 117, 110] : Str))))]).length ≤ 274877906944) <|
          k_518 (r_506.2.2, o2_469, o3_470 ++ [(api_File.mk r_506.1 r_506.2.1 (decide (r_502.1 = ([114, 117, 110] : Str))))], o4_471, o5_472)
        else
        bif decide (at_504 = 2) then
          chk ((o4_471 ++ [(api_Setting.mk r_506.1 r_506.2.1)]).length ≤ 274877906944) <|
          k_518 (r_506.2.2, o2_469, o3_470, o4_471 ++ [(api_Setting.mk r_506.1 r_506.2.1)], o5_472)
        else
        bif decide (at_504 = 3) then
          call (strings_Split r_502.2.1 ([32] : Str)) fun r_522 =>
          call (R_serviceOf r_522) fun r_523 =>
          chk ((o5_472 ++ [r_523.1]).length ≤ 274877906944) <|
          k_518 (r_523.2, o2_469, o3_470, o4_471, o5_472 ++ [r_523.1])
        else
        k_518 (r_506.2.2, o2_469, o3_470, o4_471, o5_472)) fun k_505 =>
      bif decide (r_503 = 4) then
        k_505 1
      else
      k_505 r_503) (0, [], [], [], []) (fun s => match s with
    | (stage_467, o2_469, o3_470, o4_471, o5_472) =>
      k_265 (o2_469, o3_470, o4_471, o5_472))
def Law_MachinesParse (text_1 : Str) : Option Bool :=
  call (Law_landed) fun r_2 =>
  bif !r_2 then
    some false
  else
  call (disk_Parse text_1) fun r_3 =>
  call (R_Parse text_1) fun r_4 =>
  callG ((decide (r_3.2.1 = r_4.2.1)) && (decide (r_3.2.2 = r_4.2.2))) (R_Same r_3.1 r_4.1) false fun r_5 =>
  some (((decide (r_3.2.1 = r_4.2.1)) && (decide (r_3.2.2 = r_4.2.2))) && r_5)
end Go.Md
