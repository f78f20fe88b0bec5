/- Models of the functions that the statement reaches: what each computes, in plain words. -/
import Derived.Test.YtbbkahmljdogiaaDoorVc3
set_option linter.unusedVariables false
namespace Go.Md
open Go.Vc
def tabL_5 : List Int := [0, 1, 56, 2, 57, 49, 28, 3, 61, 58, 42, 50, 38, 29, 17, 4, 62, 47, 59, 36, 45, 43, 51, 22, 53, 39, 33, 30, 24, 18, 12, 5, 63, 55, 48, 27, 60, 41, 37, 16, 46, 35, 44, 21, 52, 32, 23, 11, 54, 26, 40, 15, 34, 20, 31, 10, 25, 14, 19, 9, 13, 8, 7, 6]
theorem tabL_5_len : tabL_5.length = 64 := rfl
instance theTabs : Tabs := ⟨fun b => bif Nat.beq b 5 then some (.u8, tabL_5) else none, fun b => false⟩
theorem tab_5 : Tabs.tab 5 = some (.u8, tabL_5) := rfl
attribute [go_sem] tab_5 tabL_5_len
def ecB (b : Bool) : List Dt := [.b b]
def ecS (x : Str) : List Dt := [.s x]
def ecI_i8 (n : Int) : List Dt := [.i .i8 n]
def ecI_i16 (n : Int) : List Dt := [.i .i16 n]
def ecI_i32 (n : Int) : List Dt := [.i .i32 n]
def ecI_i64 (n : Int) : List Dt := [.i .i64 n]
def ecI_u8 (n : Int) : List Dt := [.i .u8 n]
def ecI_u16 (n : Int) : List Dt := [.i .u16 n]
def ecI_u32 (n : Int) : List Dt := [.i .u32 n]
def ecI_u64 (n : Int) : List Dt := [.i .u64 n]
theorem dec1_s : ∀ r, hasR r [.s] → ∃ x, r = ecS x := by
 intro r h
 rcases r with _ | ⟨d, _ | _⟩ <;> simp only [hasR, and_false, and_true] at h
 cases d <;> simp only [hasT] at h
 exact ⟨_, rfl⟩
theorem dec1_i64 : ∀ r, hasR r [.i .i64] → ∃ x, r = ecI_i64 x := by
 intro r h
 rcases r with _ | ⟨d, _ | _⟩ <;> simp only [hasR, and_false, and_true] at h
 cases d <;> simp only [hasT] at h
 subst h
 exact ⟨_, rfl⟩
theorem dec1_u8 : ∀ r, hasR r [.i .u8] → ∃ x, r = ecI_u8 x := by
 intro r h
 rcases r with _ | ⟨d, _ | _⟩ <;> simp only [hasR, and_false, and_true] at h
 cases d <;> simp only [hasT] at h
 subst h
 exact ⟨_, rfl⟩
structure api_File where
 Path : Str
 Data : Str
 Runs : Bool
def enc_api_File (x : api_File) : List Dt := [.s x.Path, .s x.Data, .b x.Runs]
def sh_api_File : List Sh := [.s, .s, .b]
theorem dec_api_File : ∀ r, hasR r sh_api_File → ∃ x : api_File, r = enc_api_File x := by
 intro r h
 unfold sh_api_File at h
 rcases r with _ | ⟨d0, _ | ⟨d1, _ | ⟨d2, _ | _⟩⟩⟩ <;> simp only [hasR, and_false, and_true] at h
 obtain ⟨h0, h1, h2⟩ := h
 cases d0 <;> simp only [hasT] at h0
 cases d1 <;> simp only [hasT] at h1
 cases d2 <;> simp only [hasT] at h2
 exact ⟨⟨_, _, _⟩, rfl⟩
structure api_Setting where
 Key : Str
 Value : Str
def enc_api_Setting (x : api_Setting) : List Dt := [.s x.Key, .s x.Value]
def sh_api_Setting : List Sh := [.s, .s]
theorem dec_api_Setting : ∀ r, hasR r sh_api_Setting → ∃ x : api_Setting, r = enc_api_Setting x := by
 intro r h
 unfold sh_api_Setting at h
 rcases r with _ | ⟨d0, _ | ⟨d1, _ | _⟩⟩ <;> simp only [hasR, and_false, and_true] at h
 obtain ⟨h0, h1⟩ := h
 cases d0 <;> simp only [hasT] at h0
 cases d1 <;> simp only [hasT] at h1
 exact ⟨⟨_, _⟩, rfl⟩
structure api_Service where
 Name : Str
 Path : Str
 Auto : Bool
 On : Bool
def enc_api_Service (x : api_Service) : List Dt := [.s x.Name, .s x.Path, .b x.Auto, .b x.On]
def sh_api_Service : List Sh := [.s, .s, .b, .b]
theorem dec_api_Service : ∀ r, hasR r sh_api_Service → ∃ x : api_Service, r = enc_api_Service x := by
 intro r h
 unfold sh_api_Service at h
 rcases r with _ | ⟨d0, _ | ⟨d1, _ | ⟨d2, _ | ⟨d3, _ | _⟩⟩⟩⟩ <;> simp only [hasR, and_false, and_true] at h
 obtain ⟨h0, h1, h2, h3⟩ := h
 cases d0 <;> simp only [hasT] at h0
 cases d1 <;> simp only [hasT] at h1
 cases d2 <;> simp only [hasT] at h2
 cases d3 <;> simp only [hasT] at h3
 exact ⟨⟨_, _, _, _⟩, rfl⟩
structure api_Item where
 Kind : Int
 File : api_File
 Setting : api_Setting
 Service : api_Service
def enc_api_Item (x : api_Item) : List Dt := [.i .i64 x.Kind, .s x.File.Path, .s x.File.Data, .b x.File.Runs, .s x.Setting.Key, .s x.Setting.Value, .s x.Service.Name, .s x.Service.Path, .b x.Service.Auto, .b x.Service.On]
def sh_api_Item : List Sh := [.i .i64, .s, .s, .b, .s, .s, .s, .s, .b, .b]
set_option maxRecDepth 100000 in
theorem dec_api_Item : ∀ r, hasR r sh_api_Item → ∃ x : api_Item, r = enc_api_Item x := by
 intro r h
 unfold sh_api_Item at h
 rcases r with _ | ⟨d0, _ | ⟨d1, _ | ⟨d2, _ | ⟨d3, _ | ⟨d4, _ | ⟨d5, _ | ⟨d6, _ | ⟨d7, _ | ⟨d8, _ | ⟨d9, _ | _⟩⟩⟩⟩⟩⟩⟩⟩⟩⟩ <;> simp only [hasR, and_false, and_true] at h
 obtain ⟨h0, h1, h2, h3, h4, h5, h6, h7, h8, h9⟩ := h
 cases d0 <;> simp only [hasT] at h0
 subst h0
 cases d1 <;> simp only [hasT] at h1
 cases d2 <;> simp only [hasT] at h2
 cases d3 <;> simp only [hasT] at h3
 cases d4 <;> simp only [hasT] at h4
 cases d5 <;> simp only [hasT] at h5
 cases d6 <;> simp only [hasT] at h6
 cases d7 <;> simp only [hasT] at h7
 cases d8 <;> simp only [hasT] at h8
 cases d9 <;> simp only [hasT] at h9
 exact ⟨⟨_, ⟨_, _, _⟩, ⟨_, _⟩, ⟨_, _, _, _⟩⟩, rfl⟩
structure api_Held where
 Owner : Str
 Kind : Int
 Path : Str
 Sum : Str
 Base : Str
def enc_api_Held (x : api_Held) : List Dt := [.s x.Owner, .i .i64 x.Kind, .s x.Path, .s x.Sum, .s x.Base]
def sh_api_Held : List Sh := [.s, .i .i64, .s, .s, .s]
theorem dec_api_Held : ∀ r, hasR r sh_api_Held → ∃ x : api_Held, r = enc_api_Held x := by
 intro r h
 unfold sh_api_Held at h
 rcases r with _ | ⟨d0, _ | ⟨d1, _ | ⟨d2, _ | ⟨d3, _ | ⟨d4, _ | _⟩⟩⟩⟩⟩ <;> simp only [hasR, and_false, and_true] at h
 obtain ⟨h0, h1, h2, h3, h4⟩ := h
 cases d0 <;> simp only [hasT] at h0
 cases d1 <;> simp only [hasT] at h1
 subst h1
 cases d2 <;> simp only [hasT] at h2
 cases d3 <;> simp only [hasT] at h3
 cases d4 <;> simp only [hasT] at h4
 exact ⟨⟨_, _, _, _, _⟩, rfl⟩
structure api_Keep where
 Held : List api_Held
def enc_api_Keep (x : api_Keep) : List Dt := [.l (List.map enc_api_Held x.Held)]
def sh_api_Keep : List Sh := [.l sh_api_Held]
theorem dec_api_Keep : ∀ r, hasR r sh_api_Keep → ∃ x : api_Keep, r = enc_api_Keep x := by
 intro r h
 unfold sh_api_Keep at h
 rcases r with _ | ⟨d0, _ | _⟩ <;> simp only [hasR, and_false, and_true] at h
 have h0 := h
 cases d0 <;> simp only [hasT] at h0
 obtain ⟨l0, rfl⟩ := hasRs_map dec_api_Held h0
 exact ⟨⟨_⟩, rfl⟩
structure api_Change where
 Kind : Int
 File : api_File
 Setting : api_Setting
 Service : api_Service
def enc_api_Change (x : api_Change) : List Dt := [.i .i64 x.Kind, .s x.File.Path, .s x.File.Data, .b x.File.Runs, .s x.Setting.Key, .s x.Setting.Value, .s x.Service.Name, .s x.Service.Path, .b x.Service.Auto, .b x.Service.On]
def sh_api_Change : List Sh := [.i .i64, .s, .s, .b, .s, .s, .s, .s, .b, .b]
set_option maxRecDepth 100000 in
theorem dec_api_Change : ∀ r, hasR r sh_api_Change → ∃ x : api_Change, r = enc_api_Change x := by
 intro r h
 unfold sh_api_Change at h
 rcases r with _ | ⟨d0, _ | ⟨d1, _ | ⟨d2, _ | ⟨d3, _ | ⟨d4, _ | ⟨d5, _ | ⟨d6, _ | ⟨d7, _ | ⟨d8, _ | ⟨d9, _ | _⟩⟩⟩⟩⟩⟩⟩⟩⟩⟩ <;> simp only [hasR, and_false, and_true] at h
 obtain ⟨h0, h1, h2, h3, h4, h5, h6, h7, h8, h9⟩ := h
 cases d0 <;> simp only [hasT] at h0
 subst h0
 cases d1 <;> simp only [hasT] at h1
 cases d2 <;> simp only [hasT] at h2
 cases d3 <;> simp only [hasT] at h3
 cases d4 <;> simp only [hasT] at h4
 cases d5 <;> simp only [hasT] at h5
 cases d6 <;> simp only [hasT] at h6
 cases d7 <;> simp only [hasT] at h7
 cases d8 <;> simp only [hasT] at h8
 cases d9 <;> simp only [hasT] at h9
 exact ⟨⟨_, ⟨_, _, _⟩, ⟨_, _⟩, ⟨_, _, _, _⟩⟩, rfl⟩
structure outref1_place where
 t : Int
 p : Str
def enc_outref1_place (x : outref1_place) : List Dt := [.i .i64 x.t, .s x.p]
def sh_outref1_place : List Sh := [.i .i64, .s]
theorem dec_outref1_place : ∀ r, hasR r sh_outref1_place → ∃ x : outref1_place, r = enc_outref1_place x := by
 intro r h
 unfold sh_outref1_place at h
 rcases r with _ | ⟨d0, _ | ⟨d1, _ | _⟩⟩ <;> simp only [hasR, and_false, and_true] at h
 obtain ⟨h0, h1⟩ := h
 cases d0 <;> simp only [hasT] at h0
 subst h0
 cases d1 <;> simp only [hasT] at h1
 exact ⟨⟨_, _⟩, rfl⟩
structure keep_place where
 thing : Int
 path : Str
def enc_keep_place (x : keep_place) : List Dt := [.i .i64 x.thing, .s x.path]
def sh_keep_place : List Sh := [.i .i64, .s]
theorem dec_keep_place : ∀ r, hasR r sh_keep_place → ∃ x : keep_place, r = enc_keep_place x := by
 intro r h
 unfold sh_keep_place at h
 rcases r with _ | ⟨d0, _ | ⟨d1, _ | _⟩⟩ <;> simp only [hasR, and_false, and_true] at h
 obtain ⟨h0, h1⟩ := h
 cases d0 <;> simp only [hasT] at h0
 subst h0
 cases d1 <;> simp only [hasT] at h1
 exact ⟨⟨_, _⟩, rfl⟩
instance instDec_outref1_place : DecidableEq outref1_place := fun a b => decidable_of_iff (a.t = b.t ∧ a.p = b.p) (by cases a; cases b; simp)
def kdk_outref1_place (x : outref1_place) : Dt := .a (enc_outref1_place x)
theorem keq_outref1_place (a b : outref1_place) : keq (kdk_outref1_place a) (kdk_outref1_place b) = decide (a = b) := by
 rw [Bool.eq_iff_iff]
 obtain ⟨a0, a1⟩ := a
 obtain ⟨b0, b1⟩ := b
 simp only [keq, kdk_outref1_place, enc_outref1_place, eqRow, Bool.and_true, Bool.and_eq_true, decide_eq_true_eq, outref1_place.mk.injEq]
 exact ⟨fun h => by simp only [h, and_self], fun h => by simp only [h, and_self]⟩
theorem mkeys_outref1_place {V : Type} (e : V → List Dt) (l : List (outref1_place × V)) : mkeys (.ks [.i .i64, .s]) (encM kdk_outref1_place e l) = True := mkeys_a (kd := enc_outref1_place) (fun x => by simp [hasKs, enc_outref1_place]) e l
attribute [go_sem] mkeys_outref1_place
instance instDec_keep_place : DecidableEq keep_place := fun a b => decidable_of_iff (a.thing = b.thing ∧ a.path = b.path) (by cases a; cases b; simp)
def kdk_keep_place (x : keep_place) : Dt := .a (enc_keep_place x)
theorem keq_keep_place (a b : keep_place) : keq (kdk_keep_place a) (kdk_keep_place b) = decide (a = b) := by
 rw [Bool.eq_iff_iff]
 obtain ⟨a0, a1⟩ := a
 obtain ⟨b0, b1⟩ := b
 simp only [keq, kdk_keep_place, enc_keep_place, eqRow, Bool.and_true, Bool.and_eq_true, decide_eq_true_eq, keep_place.mk.injEq]
 exact ⟨fun h => by simp only [h, and_self], fun h => by simp only [h, and_self]⟩
theorem mkeys_keep_place {V : Type} (e : V → List Dt) (l : List (keep_place × V)) : mkeys (.ks [.i .i64, .s]) (encM kdk_keep_place e l) = True := mkeys_a (kd := enc_keep_place) (fun x => by simp [hasKs, enc_keep_place]) e l
attribute [go_sem] mkeys_keep_place
theorem sz_ecB : ∀ l, szOk (1) (List.map ecB l) = True := fun l => eq_true (by intro r hr; obtain ⟨x, _, rfl⟩ := List.mem_map.1 hr; rfl)
theorem sz_ecS : ∀ l, szOk (1) (List.map ecS l) = True := fun l => eq_true (by intro r hr; obtain ⟨x, _, rfl⟩ := List.mem_map.1 hr; rfl)
theorem sz_ecI_i64 : ∀ l, szOk (1) (List.map ecI_i64 l) = True := fun l => eq_true (by intro r hr; obtain ⟨x, _, rfl⟩ := List.mem_map.1 hr; rfl)
theorem sz_ecI_u8 : ∀ l, szOk (1) (List.map ecI_u8 l) = True := fun l => eq_true (by intro r hr; obtain ⟨x, _, rfl⟩ := List.mem_map.1 hr; rfl)
theorem sz_ecI_u64 : ∀ l, szOk (1) (List.map ecI_u64 l) = True := fun l => eq_true (by intro r hr; obtain ⟨x, _, rfl⟩ := List.mem_map.1 hr; rfl)
theorem sz_ecI_i32 : ∀ l, szOk (1) (List.map ecI_i32 l) = True := fun l => eq_true (by intro r hr; obtain ⟨x, _, rfl⟩ := List.mem_map.1 hr; rfl)
theorem sz_ecI_u32 : ∀ l, szOk (1) (List.map ecI_u32 l) = True := fun l => eq_true (by intro r hr; obtain ⟨x, _, rfl⟩ := List.mem_map.1 hr; rfl)
theorem sz_enc_api_File : ∀ l, szOk (3) (List.map enc_api_File l) = True := fun l => eq_true (by intro r hr; obtain ⟨x, _, rfl⟩ := List.mem_map.1 hr; rfl)
theorem sz_enc_api_Setting : ∀ l, szOk (2) (List.map enc_api_Setting l) = True := fun l => eq_true (by intro r hr; obtain ⟨x, _, rfl⟩ := List.mem_map.1 hr; rfl)
theorem sz_enc_api_Service : ∀ l, szOk (4) (List.map enc_api_Service l) = True := fun l => eq_true (by intro r hr; obtain ⟨x, _, rfl⟩ := List.mem_map.1 hr; rfl)
theorem sz_enc_api_Item : ∀ l, szOk (10) (List.map enc_api_Item l) = True := fun l => eq_true (by intro r hr; obtain ⟨x, _, rfl⟩ := List.mem_map.1 hr; rfl)
theorem sz_enc_api_Held : ∀ l, szOk (5) (List.map enc_api_Held l) = True := fun l => eq_true (by intro r hr; obtain ⟨x, _, rfl⟩ := List.mem_map.1 hr; rfl)
theorem sz_enc_api_Keep : ∀ l, szOk (1) (List.map enc_api_Keep l) = True := fun l => eq_true (by intro r hr; obtain ⟨x, _, rfl⟩ := List.mem_map.1 hr; rfl)
theorem sz_enc_api_Change : ∀ l, szOk (10) (List.map enc_api_Change l) = True := fun l => eq_true (by intro r hr; obtain ⟨x, _, rfl⟩ := List.mem_map.1 hr; rfl)
theorem sz_enc_outref1_place : ∀ l, szOk (2) (List.map enc_outref1_place l) = True := fun l => eq_true (by intro r hr; obtain ⟨x, _, rfl⟩ := List.mem_map.1 hr; rfl)
theorem sz_enc_keep_place : ∀ l, szOk (2) (List.map enc_keep_place l) = True := fun l => eq_true (by intro r hr; obtain ⟨x, _, rfl⟩ := List.mem_map.1 hr; rfl)
theorem allB_enc : ∀ l : List Int, allB (List.map ecI_u8 l) = True
 | [] => by simp only [List.map_nil, allB]
 | _ :: l => by simp only [List.map_cons, ecI_u8, allB, allB_enc l, and_self]
theorem unB_enc : ∀ l : List Int, unB (List.map ecI_u8 l) = Go.Vc.strOf l
 | [] => by simp only [List.map_nil, unB, Go.Vc.strOf]
 | _ :: l => by simp only [List.map_cons, ecI_u8, unB, unB_enc l, Go.Vc.strOf]
theorem bR_enc (l : Str) : bR l = List.map ecI_u8 (bytesOf l) := by simp [bR, bytesOf, ecI_u8]
attribute [go_sem] allB_enc unB_enc bR_enc
attribute [go_sem] ecB ecS ecI_i64 ecI_u8 ecI_u64 ecI_i32 ecI_u32 enc_api_File enc_api_Setting enc_api_Service enc_api_Item enc_api_Held enc_api_Keep enc_api_Change enc_outref1_place enc_keep_place sz_ecB sz_ecS sz_ecI_i64 sz_ecI_u8 sz_ecI_u64 sz_ecI_i32 sz_ecI_u32 sz_enc_api_File sz_enc_api_Setting sz_enc_api_Service sz_enc_api_Item sz_enc_api_Held sz_enc_api_Keep sz_enc_api_Change sz_enc_outref1_place sz_enc_keep_place
noncomputable def ver_isSmall (c_1 : Int) : Option Bool :=
 some ((decide (97 ≤ c_1)) && (decide (c_1 ≤ 122)))
noncomputable def ver_isDigit (c_1 : Int) : Option Bool :=
 some ((decide (48 ≤ c_1)) && (decide (c_1 ≤ 57)))
noncomputable def ver_IsName_1 (c_1 : Int) : Option Bool :=
 call (ver_isSmall c_1) fun r_2 =>
 callG (!r_2) (ver_isDigit c_1) false fun r_3 =>
 some (((r_2 || r_3) || (decide (c_1 = 45))) || (decide (c_1 = 46)))
noncomputable def ver_each_i1 (s_1 : Str) (most_2 : Int) : Option Bool :=
 jp (S := Unit) (fun _ =>
  some ((!decide (s_1 = [])) && (decide ((s_1.length : Int) ≤ most_2)))) fun k_12 =>
 forL s_1 0 (fun i_18 c_20 s nx_17 k_16 =>
  call (ver_IsName_1 (c_20.toNat : Int)) fun r_21 =>
  bif !r_21 then
   some false
  else
  nx_17 ()) () (fun _ =>
  k_12 ())
noncomputable def ver_IsName (s_1 : Str) : Option Bool :=
 call (ver_each_i1 s_1 40) fun r_2 =>
 chk (r_2 = true → (0 ≤ 0 ∧ 0 < (s_1.length : Int))) <|
 callG r_2 (ver_isSmall ((s_1.getD 0 0).toNat : Int)) false fun r_4 =>
 some (r_2 && r_4)
noncomputable def Law_landed  : Option Bool :=
 call (ver_IsName ([97] : Str)) fun r_1 =>
 some r_1
noncomputable def pack_ChangeOf (it_1 : api_Item) : Option api_Change :=
 bif decide (it_1.Kind = 5) then
  some (api_Change.mk 3 (api_File.mk [] [] false) it_1.Setting (api_Service.mk [] [] false false))
 else
 bif decide (it_1.Kind = 6) then
  some (api_Change.mk 5 (api_File.mk [] [] false) (api_Setting.mk [] []) it_1.Service)
 else
 some (api_Change.mk 1 it_1.File (api_Setting.mk [] []) (api_Service.mk [] [] false false))
noncomputable def internal_stringslite_IndexByte (s_1 : Str) (c_2 : Int) : Option Int :=
 some (ixByte s_1 c_2)
noncomputable def internal_stringslite_Index (s_1 : Str) (substr_2 : Str) : Option Int :=
 bif ((decide ((substr_2.length : Int) = 0)) || (decide (substr_2 = s_1))) then
  some 0
 else
 bif decide ((substr_2.length : Int) = 1) then
  idxS substr_2 0 fun c_3 =>
  call (internal_stringslite_IndexByte s_1 c_3) fun r_4 =>
  some r_4
 else
 bif decide ((s_1.length : Int) ≤ (substr_2.length : Int)) then
  some (-1)
 else
 none
noncomputable def strings_Index (s_1 : Str) (substr_2 : Str) : Option Int :=
 call (internal_stringslite_Index s_1 substr_2) fun r_3 =>
 some r_3
noncomputable def strings_Count (s_1 : Str) (substr_2 : Str) : Option Int :=
 bif decide ((substr_2.length : Int) = 0) then
  none
 else
 bif decide ((substr_2.length : Int) = 1) then
  idxS substr_2 0 fun c_3 =>
  some (cntByte s_1 c_3)
 else
 loopN Fuel (fun s nx_15 k_14 =>
  match s with
  | (s_10, n_11) =>
   call (strings_Index s_10 substr_2) fun r_16 =>
   bif decide (r_16 = (-1)) then
    some n_11
   else
   chk (0 ≤ IntKind.i64.wrap (r_16 + (substr_2.length : Int)) ∧ IntKind.i64.wrap (r_16 + (substr_2.length : Int)) ≤ (s_10.length : Int)) <|
   nx_15 (List.drop ((IntKind.i64.wrap (r_16 + (substr_2.length : Int))).toNat) s_10, IntKind.i64.wrap (n_11 + 1))) (s_1, 0) (fun s => match s with
  | (s_10, n_11) =>
   some 0)
noncomputable def strings_genSplit (s_1 : Str) (sep_2 : Str) (sepSave_3 : Int) (n_4 : Int) : Option (List Str) :=
 bif decide (n_4 = 0) then
  some []
 else
 bif decide (sep_2 = []) then
  none
 else
 jp (S := Int) (fun n_6 =>
  chk (0 ≤ min n_6 (IntKind.i64.wrap ((s_1.length : Int) + 1)) ∧ min n_6 (IntKind.i64.wrap ((s_1.length : Int) + 1)) ≤ min n_6 (IntKind.i64.wrap ((s_1.length : Int) + 1)) ∧ min n_6 (IntKind.i64.wrap ((s_1.length : Int) + 1)) ≤ 274877906944) <|
  jp (S := Str × Int × List Str) (fun s => match s with
   | (s_28, i_29, o0_30) =>
    chk (0 ≤ i_29 ∧ i_29 < (o0_30.length : Int)) <|
    chk (0 ≤ IntKind.i64.wrap (i_29 + 1) ∧ IntKind.i64.wrap (i_29 + 1) ≤ ((List.set o0_30 i_29.toNat s_28).length : Int)) <|
    some (List.take ((IntKind.i64.wrap (i_29 + 1)).toNat) (List.set o0_30 i_29.toNat s_28))) fun k_31 =>
  loopN Fuel (fun s nx_48 k_47 =>
   match s with
   | (s_40, i_41, o0_42) =>
    bif decide (i_41 < (IntKind.i64.wrap ((min n_6 (IntKind.i64.wrap ((s_1.length : Int) + 1))) - 1))) then
     call (strings_Index s_40 sep_2) fun r_49 =>
     bif decide (r_49 < 0) then
      k_47 (s_40, i_41, o0_42)
     else
     chk (0 ≤ IntKind.i64.wrap (r_49 + sepSave_3) ∧ IntKind.i64.wrap (r_49 + sepSave_3) ≤ (s_40.length : Int)) <|
     chk (0 ≤ i_41 ∧ i_41 < (o0_42.length : Int)) <|
     chk (0 ≤ IntKind.i64.wrap (r_49 + (sep_2.length : Int)) ∧ IntKind.i64.wrap (r_49 + (sep_2.length : Int)) ≤ (s_40.length : Int)) <|
     nx_48 (List.drop ((IntKind.i64.wrap (r_49 + (sep_2.length : Int))).toNat) s_40, IntKind.i64.wrap (i_41 + 1), List.set o0_42 i_41.toNat (List.take ((IntKind.i64.wrap (r_49 + sepSave_3)).toNat) s_40))
    else
    k_47 (s_40, i_41, o0_42)) (s_1, 0, List.replicate ((min n_6 (IntKind.i64.wrap ((s_1.length : Int) + 1))).toNat) []) (fun s => match s with
   | (s_40, i_41, o0_42) =>
    k_31 (s_40, i_41, o0_42))) fun k_7 =>
 bif decide (n_4 < 0) then
  call (strings_Count s_1 sep_2) fun r_53 =>
  k_7 (IntKind.i64.wrap (r_53 + 1))
 else
 k_7 n_4
noncomputable def strings_Split (s_1 : Str) (sep_2 : Str) : Option (List Str) :=
 call (strings_genSplit s_1 sep_2 0 (-1)) fun r_3 =>
 some r_3
noncomputable def ver_isPart_1 (c_1 : Int) : Option Bool :=
 call (ver_isSmall c_1) fun r_2 =>
 callG (!(r_2 || ((decide (65 ≤ c_1)) && (decide (c_1 ≤ 90))))) (ver_isDigit c_1) false fun r_3 =>
 some (((((r_2 || ((decide (65 ≤ c_1)) && (decide (c_1 ≤ 90)))) || r_3) || (decide (c_1 = 45))) || (decide (c_1 = 46))) || (decide (c_1 = 95)))
noncomputable def ver_each_i2 (s_1 : Str) (most_2 : Int) : Option Bool :=
 jp (S := Unit) (fun _ =>
  some ((!decide (s_1 = [])) && (decide ((s_1.length : Int) ≤ most_2)))) fun k_12 =>
 forL s_1 0 (fun i_18 c_20 s nx_17 k_16 =>
  call (ver_isPart_1 (c_20.toNat : Int)) fun r_21 =>
  bif !r_21 then
   some false
  else
  nx_17 ()) () (fun _ =>
  k_12 ())
noncomputable def ver_isPart (s_1 : Str) : Option Bool :=
 call (ver_each_i2 s_1 40) fun r_2 =>
 some ((r_2 && (!decide (s_1 = ([46] : Str)))) && (!decide (s_1 = ([46, 46] : Str))))
noncomputable def ver_IsPath (s_1 : Str) : Option Bool :=
 jp (S := Unit) (fun _ =>
  some (decide ((s_1.length : Int) ≤ 200))) fun k_12 =>
 call (strings_Split s_1 ([47] : Str)) fun r_13 =>
 forL r_13 0 (fun i_19 s_21 s nx_18 k_17 =>
  call (ver_isPart s_21) fun r_22 =>
  bif !r_22 then
   some false
  else
  nx_18 ()) () (fun _ =>
  k_12 ())
noncomputable def disk_fileFault (f_1 : api_File) : Option Int :=
 call (ver_IsPath f_1.Path) fun r_2 =>
 bif !r_2 then
  some 5
 else
 bif decide (65536 < (f_1.Data.length : Int)) then
  some 4
 else
 some 0
noncomputable def ver_IsValue_1 (c_1 : Int) : Option Bool :=
 some ((decide (32 ≤ c_1)) && (decide (c_1 ≤ 126)))
noncomputable def ver_each_i3 (s_1 : Str) (most_2 : Int) : Option Bool :=
 jp (S := Unit) (fun _ =>
  some ((!decide (s_1 = [])) && (decide ((s_1.length : Int) ≤ most_2)))) fun k_12 =>
 forL s_1 0 (fun i_18 c_20 s nx_17 k_16 =>
  call (ver_IsValue_1 (c_20.toNat : Int)) fun r_21 =>
  bif !r_21 then
   some false
  else
  nx_17 ()) () (fun _ =>
  k_12 ())
noncomputable def ver_IsValue (s_1 : Str) : Option Bool :=
 callG (!(decide (s_1 = []))) (ver_each_i3 s_1 1000) false fun r_2 =>
 some ((decide (s_1 = [])) || r_2)
noncomputable def disk_settingFault_i1 (s_1 : api_Setting) : Option Int :=
 call (ver_IsPath s_1.Key) fun r_2 =>
 bif !r_2 then
  some 5
 else
 call (ver_IsValue s_1.Value) fun r_3 =>
 bif !r_3 then
  some 2
 else
 some 0
noncomputable def disk_serviceFault (s_1 : api_Service) : Option Int :=
 call (ver_IsName s_1.Name) fun r_2 =>
 callG (!(!r_2)) (ver_IsPath s_1.Path) false fun r_3 =>
 bif ((!r_2) || (!r_3)) then
  some 5
 else
 some 0
noncomputable def disk_CheckChange (c_1 : api_Change) : Option Int :=
 jp (S := Int × Str × Str × Bool × Str × Str × Str × Str × Bool × Bool) (fun s => match s with
  | (e_8, o1_1_9, o1_2_10, o1_3_11, o1_4_12, o1_5_13, o1_6_14, o1_7_15, o1_8_16, o1_9_17) =>
   bif ((decide (e_8 = 0)) && (!((decide (c_1.Kind = c_1.Kind)) && ((decide (c_1.File.Path = o1_1_9)) && ((decide (c_1.File.Data = o1_2_10)) && ((decide (c_1.File.Runs = o1_3_11)) && ((decide (c_1.Setting.Key = o1_4_12)) && ((decide (c_1.Setting.Value = o1_5_13)) && ((decide (c_1.Service.Name = o1_6_14)) && ((decide (c_1.Service.Path = o1_7_15)) && ((decide (c_1.Service.Auto = o1_8_16)) && (decide (c_1.Service.On = o1_9_17))))))))))))) then
    some 2
   else
   some e_8) fun k_18 =>
 bif decide (c_1.Kind = 1) then
  call (disk_fileFault c_1.File) fun r_19 =>
  k_18 (r_19, c_1.File.Path, c_1.File.Data, c_1.File.Runs, [], [], [], [], false, false)
 else
 bif decide (c_1.Kind = 2) then
  call (disk_fileFault (api_File.mk c_1.File.Path [] false)) fun r_20 =>
  k_18 (r_20, c_1.File.Path, [], false, [], [], [], [], false, false)
 else
 bif decide (c_1.Kind = 3) then
  call (disk_settingFault_i1 c_1.Setting) fun r_21 =>
  k_18 (r_21, [], [], false, c_1.Setting.Key, c_1.Setting.Value, [], [], false, false)
 else
 bif decide (c_1.Kind = 4) then
  call (disk_settingFault_i1 (api_Setting.mk c_1.Setting.Key [])) fun r_22 =>
  k_18 (r_22, [], [], false, c_1.Setting.Key, [], [], [], false, false)
 else
 bif decide (c_1.Kind = 5) then
  call (disk_serviceFault c_1.Service) fun r_23 =>
  k_18 (r_23, [], [], false, [], [], c_1.Service.Name, c_1.Service.Path, c_1.Service.Auto, c_1.Service.On)
 else
 bif decide (c_1.Kind = 6) then
  call (ver_IsName c_1.Service.Name) fun r_24 =>
  bif !r_24 then
   k_18 (5, [], [], false, [], [], c_1.Service.Name, [], false, false)
  else
  k_18 (0, [], [], false, [], [], c_1.Service.Name, [], false, false)
 else
 some 1
noncomputable def pack_ItemFault (it_1 : api_Item) : Option Int :=
 bif ((decide (it_1.Kind < 1)) || (decide (6 < it_1.Kind))) then
  some 1
 else
 call (pack_ChangeOf it_1) fun r_2 =>
 call (disk_CheckChange r_2) fun r_3 =>
 bif !decide (r_3 = 0) then
  some r_3
 else
 bif ((!((decide (it_1.Kind = it_1.Kind)) && ((decide (it_1.File.Path = r_2.File.Path)) && ((decide (it_1.File.Data = r_2.File.Data)) && ((decide (it_1.File.Runs = r_2.File.Runs)) && ((decide (it_1.Setting.Key = r_2.Setting.Key)) && ((decide (it_1.Setting.Value = r_2.Setting.Value)) && ((decide (it_1.Service.Name = r_2.Service.Name)) && ((decide (it_1.Service.Path = r_2.Service.Path)) && ((decide (it_1.Service.Auto = r_2.Service.Auto)) && (decide (it_1.Service.On = r_2.Service.On)))))))))))) || it_1.Service.On) then
  some 2
 else
 some 0
noncomputable def keep_CheckItem (x_1 : api_Item) : Option Int :=
 call (pack_ItemFault x_1) fun r_2 =>
 some r_2
noncomputable def R_thingOf (kind_1 : Int) : Option Int :=
 bif decide (kind_1 = 5) then
  some 1
 else
 bif decide (kind_1 = 6) then
  some 2
 else
 some 0
noncomputable def R_change (x_1 : api_Item) : Option api_Change :=
 call (R_thingOf x_1.Kind) fun r_2 =>
 idx [1, 3, 5] r_2 fun n_3 =>
 some (api_Change.mk n_3 x_1.File x_1.Setting x_1.Service)
noncomputable def R_isPart (s_1 : Str) : Option Bool :=
 jp (S := Unit) (fun _ =>
  some ((((!decide (s_1 = [])) && (decide ((s_1.length : Int) ≤ 40))) && (!decide (s_1 = ([46] : Str)))) && (!decide (s_1 = ([46, 46] : Str))))) fun k_9 =>
 forL s_1 0 (fun i_14 c_16 s nx_13 k_12 =>
  bif (((((((decide ((c_16.toNat : Int) < 97)) || (decide (122 < (c_16.toNat : Int)))) && ((decide ((c_16.toNat : Int) < 65)) || (decide (90 < (c_16.toNat : Int))))) && ((decide ((c_16.toNat : Int) < 48)) || (decide (57 < (c_16.toNat : Int))))) && (!decide ((c_16.toNat : Int) = 45))) && (!decide ((c_16.toNat : Int) = 46))) && (!decide ((c_16.toNat : Int) = 95))) then
   some false
  else
  nx_13 ()) () (fun _ =>
  k_9 ())
noncomputable def R_IsPath (s_1 : Str) : Option Bool :=
 jp (S := Unit) (fun _ =>
  some (decide ((s_1.length : Int) ≤ 200))) fun k_12 =>
 call (strings_Split s_1 ([47] : Str)) fun r_13 =>
 forL r_13 0 (fun i_19 s_21 s nx_18 k_17 =>
  call (R_isPart s_21) fun r_22 =>
  bif !r_22 then
   some false
  else
  nx_18 ()) () (fun _ =>
  k_12 ())
noncomputable def R_when (bad_1 : Bool) (e_2 : Int) : Option Int :=
 bif bad_1 then
  some e_2
 else
 some 0
noncomputable def R_first (l_1 : List Int) : Option Int :=
 jp (S := Unit) (fun _ =>
  some 0) fun k_9 =>
 forL l_1 0 (fun i_14 e_16 s nx_13 k_12 =>
  bif !decide (e_16 = 0) then
   some e_16
  else
  nx_13 ()) () (fun _ =>
  k_9 ())
noncomputable def R_fileError (f_1 : api_File) : Option Int :=
 call (R_IsPath f_1.Path) fun r_2 =>
 call (R_when (!r_2) 5) fun r_3 =>
 call (R_when (decide (65536 < (f_1.Data.length : Int))) 4) fun r_4 =>
 call (R_first [r_3, r_4]) fun r_5 =>
 some r_5
noncomputable def R_IsValue (s_1 : Str) : Option Bool :=
 jp (S := Unit) (fun _ =>
  some (decide ((s_1.length : Int) ≤ 1000))) fun k_9 =>
 forL s_1 0 (fun i_14 c_16 s nx_13 k_12 =>
  bif ((decide ((c_16.toNat : Int) < 32)) || (decide (126 < (c_16.toNat : Int)))) then
   some false
  else
  nx_13 ()) () (fun _ =>
  k_9 ())
noncomputable def R_settingError (s_1 : api_Setting) : Option Int :=
 call (R_IsPath s_1.Key) fun r_2 =>
 call (R_when (!r_2) 5) fun r_3 =>
 call (R_IsValue s_1.Value) fun r_4 =>
 call (R_when (!r_4) 2) fun r_5 =>
 call (R_first [r_3, r_5]) fun r_6 =>
 some r_6
noncomputable def R_IsName (s_1 : Str) : Option Bool :=
 jp (S := Unit) (fun _ =>
  some ((!decide (s_1 = [])) && (decide ((s_1.length : Int) ≤ 40)))) fun k_9 =>
 forL s_1 0 (fun i_14 c_16 s nx_13 k_12 =>
  bif (((decide ((i_14 : Int) = 0)) && (!((decide (97 ≤ (c_16.toNat : Int))) && (decide ((c_16.toNat : Int) ≤ 122))))) || ((((!((decide (97 ≤ (c_16.toNat : Int))) && (decide ((c_16.toNat : Int) ≤ 122)))) && ((decide ((c_16.toNat : Int) < 48)) || (decide (57 < (c_16.toNat : Int))))) && (!decide ((c_16.toNat : Int) = 45))) && (!decide ((c_16.toNat : Int) = 46)))) then
   some false
  else
  nx_13 ()) () (fun _ =>
  k_9 ())
noncomputable def R_serviceError (s_1 : api_Service) : Option Int :=
 call (R_IsName s_1.Name) fun r_2 =>
 callG (!(!r_2)) (R_IsPath s_1.Path) false fun r_3 =>
 call (R_when ((!r_2) || (!r_3)) 5) fun r_4 =>
 some r_4
noncomputable def R_ChangeError (c_1 : api_Change) : Option Int :=
 jp (S := Int × Str × Str × Bool × Str × Str × Str × Str × Bool × Bool) (fun s => match s with
  | (e_11, o1_1_12, o1_2_13, o1_3_14, o1_4_15, o1_5_16, o1_6_17, o1_7_18, o1_8_19, o1_9_20) =>
   call (R_when (!(true && ((decide (o1_1_12 = [])) && ((decide (o1_2_13 = [])) && ((decide (o1_3_14 = false)) && ((decide (o1_4_15 = [])) && ((decide (o1_5_16 = [])) && ((decide (o1_6_17 = [])) && ((decide (o1_7_18 = [])) && ((decide (o1_8_19 = false)) && (decide (o1_9_20 = false)))))))))))) 2) fun r_22 =>
   call (R_first [e_11, r_22]) fun r_23 =>
   some r_23) fun k_21 =>
 bif decide (c_1.Kind = 1) then
  call (R_fileError c_1.File) fun r_24 =>
  k_21 (r_24, [], [], false, c_1.Setting.Key, c_1.Setting.Value, c_1.Service.Name, c_1.Service.Path, c_1.Service.Auto, c_1.Service.On)
 else
 bif decide (c_1.Kind = 2) then
  call (R_IsPath c_1.File.Path) fun r_25 =>
  call (R_when (!r_25) 5) fun r_26 =>
  k_21 (r_26, [], c_1.File.Data, c_1.File.Runs, c_1.Setting.Key, c_1.Setting.Value, c_1.Service.Name, c_1.Service.Path, c_1.Service.Auto, c_1.Service.On)
 else
 bif decide (c_1.Kind = 3) then
  call (R_settingError c_1.Setting) fun r_27 =>
  k_21 (r_27, c_1.File.Path, c_1.File.Data, c_1.File.Runs, [], [], c_1.Service.Name, c_1.Service.Path, c_1.Service.Auto, c_1.Service.On)
 else
 bif decide (c_1.Kind = 4) then
  call (R_IsPath c_1.Setting.Key) fun r_28 =>
  call (R_when (!r_28) 5) fun r_29 =>
  k_21 (r_29, c_1.File.Path, c_1.File.Data, c_1.File.Runs, [], c_1.Setting.Value, c_1.Service.Name, c_1.Service.Path, c_1.Service.Auto, c_1.Service.On)
 else
 bif decide (c_1.Kind = 5) then
  call (R_serviceError c_1.Service) fun r_30 =>
  k_21 (r_30, c_1.File.Path, c_1.File.Data, c_1.File.Runs, c_1.Setting.Key, c_1.Setting.Value, [], [], false, false)
 else
 bif decide (c_1.Kind = 6) then
  call (R_IsName c_1.Service.Name) fun r_31 =>
  call (R_when (!r_31) 5) fun r_32 =>
  k_21 (r_32, c_1.File.Path, c_1.File.Data, c_1.File.Runs, c_1.Setting.Key, c_1.Setting.Value, [], c_1.Service.Path, c_1.Service.Auto, c_1.Service.On)
 else
 some 1
noncomputable def R_ItemError (x_1 : api_Item) : Option Int :=
 bif ((decide (x_1.Kind < 1)) || (decide (6 < x_1.Kind))) then
  some 1
 else
 call (R_change x_1) fun r_2 =>
 call (R_ChangeError r_2) fun r_3 =>
 call (R_when x_1.Service.On 2) fun r_4 =>
 call (R_first [r_3, r_4]) fun r_5 =>
 some r_5
noncomputable def R_IsSum (s_1 : Str) : Option Bool :=
 jp (S := Unit) (fun _ =>
  some (decide ((s_1.length : Int) = 16))) fun k_9 =>
 forL s_1 0 (fun i_14 c_16 s nx_13 k_12 =>
  bif (((decide ((c_16.toNat : Int) < 48)) || (decide (57 < (c_16.toNat : Int)))) && ((decide ((c_16.toNat : Int) < 97)) || (decide (102 < (c_16.toNat : Int))))) then
   some false
  else
  nx_13 ()) () (fun _ =>
  k_9 ())
noncomputable def internal_strconv_isPowerOfTwo (x_1 : Int) : Option Bool :=
 some (decide ((bitsI .and .i64 x_1 (IntKind.i64.wrap (x_1 - 1))) = 0))
noncomputable def math_bits_TrailingZeros64 (x_1 : Int) : Option Int :=
 bif decide (x_1 = 0) then
  some 64
 else
 chk (0 ≤ Int.fdiv (IntKind.u64.wrap ((bitsI .and .u64 x_1 (IntKind.u64.wrap (-x_1))) * 285870213051353865)) (2 ^ (shI .u64 58)) ∧ Int.fdiv (IntKind.u64.wrap ((bitsI .and .u64 x_1 (IntKind.u64.wrap (-x_1))) * 285870213051353865)) (2 ^ (shI .u64 58)) < (64 : Int)) <|
 some (IntKind.i64.wrap (tabL_5.getD ((Int.fdiv (IntKind.u64.wrap ((bitsI .and .u64 x_1 (IntKind.u64.wrap (-x_1))) * 285870213051353865)) (2 ^ (shI .u64 58))).toNat) 0))
noncomputable def math_bits_TrailingZeros (x_1 : Int) : Option Int :=
 call (math_bits_TrailingZeros64 x_1) fun r_2 =>
 some r_2
noncomputable def internal_strconv_formatBits (dst_1 : List Int) (u_2 : Int) (base_3 : Int) (neg_4 : Bool) (append__5 : Bool) : Option (List Int × Str) :=
 jp (S := Unit) (fun _ =>
  jp (S := Int) (fun u_7 =>
   jp (S := Int × List Int) (fun s => match s with
    | (i_87, o0_88) =>
     jp (S := Int × List Int) (fun s => match s with
      | (i_91, o0_92) =>
       bif append__5 then
        chk (o0_92.length = 65 ∧ 0 ≤ i_91 ∧ i_91 ≤ (65 : Int)) <|
        none
       else
       chk (o0_92.length = 65 ∧ 0 ≤ i_91 ∧ i_91 ≤ (65 : Int)) <|
       some ([], Go.Vc.strOf (List.take (65 - i_91.toNat) (List.drop i_91.toNat o0_92)))) fun k_93 =>
     bif neg_4 then
      chk (0 ≤ IntKind.i64.wrap (i_87 - 1) ∧ IntKind.i64.wrap (i_87 - 1) < (65 : Int) ∧ 65 = o0_88.length) <|
      k_93 (IntKind.i64.wrap (i_87 - 1), List.set o0_88 ((IntKind.i64.wrap (i_87 - 1)).toNat) 45)
     else
     k_93 (i_87, o0_88)) fun k_89 =>
   call (internal_strconv_isPowerOfTwo base_3) fun r_97 =>
   bif r_97 then
    call (math_bits_TrailingZeros (IntKind.u64.wrap base_3)) fun r_98 =>
    jp (S := Int × Int × List Int) (fun s => match s with
     | (u_115, i_116, o0_117) =>
      idxS ([48, 49, 50, 51, 52, 53, 54, 55, 56, 57, 97, 98, 99, 100, 101, 102, 103, 104, 105, 106, 107, 108, 109, 110, 111, 112, 113, 114, 115, 116, 117, 118, 119, 120, 121, 122] : Str) u_115 fun c_119 =>
      chk (0 ≤ IntKind.i64.wrap (i_116 - 1) ∧ IntKind.i64.wrap (i_116 - 1) < (65 : Int) ∧ 65 = o0_117.length) <|
      k_89 (IntKind.i64.wrap (i_116 - 1), List.set o0_117 ((IntKind.i64.wrap (i_116 - 1)).toNat) c_119)) fun k_118 =>
    loopN Fuel (fun s nx_133 k_132 =>
     match s with
     | (u_126, i_127, o0_128) =>
      bif decide ((IntKind.u64.wrap base_3) ≤ u_126) then
       idxS ([48, 49, 50, 51, 52, 53, 54, 55, 56, 57, 97, 98, 99, 100, 101, 102, 103, 104, 105, 106, 107, 108, 109, 110, 111, 112, 113, 114, 115, 116, 117, 118, 119, 120, 121, 122] : Str) (bitsI .and .u64 u_126 (IntKind.u64.wrap ((IntKind.u64.wrap base_3) - 1))) fun c_134 =>
       chk (0 ≤ IntKind.i64.wrap (i_127 - 1) ∧ IntKind.i64.wrap (i_127 - 1) < (65 : Int) ∧ 65 = o0_128.length) <|
       chk (0 ≤ (IntKind.u64.wrap r_98)) <|
       nx_133 (Int.fdiv u_126 (2 ^ (shI .u64 (IntKind.u64.wrap r_98))), IntKind.i64.wrap (i_127 - 1), List.set o0_128 ((IntKind.i64.wrap (i_127 - 1)).toNat) c_134)
      else
      k_132 (u_126, i_127, o0_128)) (u_7, 65, List.replicate 65 0) (fun s => match s with
     | (u_126, i_127, o0_128) =>
      k_118 (u_126, i_127, o0_128))
   else
   jp (S := Int × Int × List Int) (fun s => match s with
    | (u_153, i_154, o0_155) =>
     idxS ([48, 49, 50, 51, 52, 53, 54, 55, 56, 57, 97, 98, 99, 100, 101, 102, 103, 104, 105, 106, 107, 108, 109, 110, 111, 112, 113, 114, 115, 116, 117, 118, 119, 120, 121, 122] : Str) u_153 fun c_157 =>
     chk (0 ≤ IntKind.i64.wrap (i_154 - 1) ∧ IntKind.i64.wrap (i_154 - 1) < (65 : Int) ∧ 65 = o0_155.length) <|
     k_89 (IntKind.i64.wrap (i_154 - 1), List.set o0_155 ((IntKind.i64.wrap (i_154 - 1)).toNat) c_157)) fun k_156 =>
   loopN Fuel (fun s nx_171 k_170 =>
    match s with
    | (u_164, i_165, o0_166) =>
     bif decide ((IntKind.u64.wrap base_3) ≤ u_164) then
      chk (¬ (IntKind.u64.wrap base_3) = 0) <|
      idxS ([48, 49, 50, 51, 52, 53, 54, 55, 56, 57, 97, 98, 99, 100, 101, 102, 103, 104, 105, 106, 107, 108, 109, 110, 111, 112, 113, 114, 115, 116, 117, 118, 119, 120, 121, 122] : Str) (IntKind.u64.wrap (u_164 - (IntKind.u64.wrap ((IntKind.u64.wrap (Int.tdiv u_164 (IntKind.u64.wrap base_3))) * (IntKind.u64.wrap base_3))))) fun c_173 =>
      chk (0 ≤ IntKind.i64.wrap (i_165 - 1) ∧ IntKind.i64.wrap (i_165 - 1) < (65 : Int) ∧ 65 = o0_166.length) <|
      nx_171 (IntKind.u64.wrap (Int.tdiv u_164 (IntKind.u64.wrap base_3)), IntKind.i64.wrap (i_165 - 1), List.set o0_166 ((IntKind.i64.wrap (i_165 - 1)).toNat) c_173)
     else
     k_170 (u_164, i_165, o0_166)) (u_7, 65, List.replicate 65 0) (fun s => match s with
    | (u_164, i_165, o0_166) =>
     k_156 (u_164, i_165, o0_166))) fun k_8 =>
  bif neg_4 then
   k_8 (IntKind.u64.wrap (-u_2))
  else
  k_8 u_2) fun k_6 =>
 bif (((decide (base_3 < 2)) || (decide (base_3 = 10))) || (decide (36 < base_3))) then
  none
 else
 k_6 ()
noncomputable def internal_strconv_FormatUint (i_1 : Int) (base_2 : Int) : Option Str :=
 bif decide (base_2 = 10) then
  bif decide (i_1 < 100) then
   none
  else
  none
 else
 call (internal_strconv_formatBits [] i_1 base_2 false false) fun r_3 =>
 some r_3.2
noncomputable def strconv_FormatUint (i_1 : Int) (base_2 : Int) : Option Str :=
 call (internal_strconv_FormatUint i_1 base_2) fun r_3 =>
 some r_3
noncomputable def math_bits_Mul64 (x_1 : Int) (y_2 : Int) : Option (Int × Int) :=
 some (IntKind.u64.wrap ((IntKind.u64.wrap ((IntKind.u64.wrap ((Int.fdiv x_1 (2 ^ (shI .u64 32))) * (Int.fdiv y_2 (2 ^ (shI .u64 32))))) + (Int.fdiv (IntKind.u64.wrap ((IntKind.u64.wrap ((Int.fdiv x_1 (2 ^ (shI .u64 32))) * (bitsI .and .u64 y_2 4294967295))) + (Int.fdiv (IntKind.u64.wrap ((bitsI .and .u64 x_1 4294967295) * (bitsI .and .u64 y_2 4294967295))) (2 ^ (shI .u64 32))))) (2 ^ (shI .u64 32))))) + (Int.fdiv (IntKind.u64.wrap ((bitsI .and .u64 (IntKind.u64.wrap ((IntKind.u64.wrap ((Int.fdiv x_1 (2 ^ (shI .u64 32))) * (bitsI .and .u64 y_2 4294967295))) + (Int.fdiv (IntKind.u64.wrap ((bitsI .and .u64 x_1 4294967295) * (bitsI .and .u64 y_2 4294967295))) (2 ^ (shI .u64 32))))) 4294967295) + (IntKind.u64.wrap ((bitsI .and .u64 x_1 4294967295) * (Int.fdiv y_2 (2 ^ (shI .u64 32))))))) (2 ^ (shI .u64 32)))), IntKind.u64.wrap (x_1 * y_2))
noncomputable def math_bits_Mul (x_1 : Int) (y_2 : Int) : Option (Int × Int) :=
 call (math_bits_Mul64 x_1 y_2) fun r_3 =>
 some (r_3.1, r_3.2)
noncomputable def internal_stringslite_HasPrefix (s_1 : Str) (prefix_2 : Str) : Option Bool :=
 chk ((decide ((prefix_2.length : Int) ≤ (s_1.length : Int))) = true → (0 ≤ (prefix_2.length : Int) ∧ (prefix_2.length : Int) ≤ (s_1.length : Int))) <|
 some ((decide ((prefix_2.length : Int) ≤ (s_1.length : Int))) && (decide ((List.take prefix_2.length s_1) = prefix_2)))
noncomputable def strings_HasPrefix (s_1 : Str) (prefix_2 : Str) : Option Bool :=
 call (internal_stringslite_HasPrefix s_1 prefix_2) fun r_3 =>
 some r_3
noncomputable def strings_Builder_Grow (n : Int) (o0 : Str) : Option Unit := chk (0 ≤ n ∧ n ≤ 274877906944) <| some ()
noncomputable def strings_Builder_copyCheck_i1 (o1_1 : Str) : Option Unit :=
 some ()
noncomputable def strings_Builder_copyCheck_i2 (o1_1 : Str) : Option Unit :=
 some ()
noncomputable def strings_Builder_copyCheck_np (o0 : Str) : Option Unit := some ()
noncomputable def strings_Builder_WriteString_i1 (s_1 : Str) (o1_2 : Str) : Option (Int × Str) :=
 call (strings_Builder_copyCheck_np o1_2) fun r_5 =>
 chk ((o1_2 ++ s_1).length ≤ 274877906944) <|
 some ((s_1.length : Int), o1_2 ++ s_1)
noncomputable def strings_Builder_Len_i1 (o1_1 : Str) : Option Int :=
 some (o1_1.length : Int)
noncomputable def strings_Builder_String_i1 (o1_1 : Str) : Option Str :=
 some o1_1
noncomputable def strings_Repeat (s_1 : Str) (count_2 : Int) : Option Str :=
 bif decide (count_2 = 0) then
  some []
 else
 bif decide (count_2 = 1) then
  some s_1
 else
 jp (S := Unit) (fun _ =>
  call (math_bits_Mul (IntKind.u64.wrap (s_1.length : Int)) (IntKind.u64.wrap count_2)) fun r_4 =>
  jp (S := Unit) (fun _ =>
   bif decide ((s_1.length : Int) = 0) then
    some []
   else
   jp (S := Unit) (fun _ =>
    jp (S := Int) (fun chunkMax_21 =>
     call (strings_Builder_Grow (IntKind.i64.wrap r_4.2) []) fun r_23 =>
     call (strings_Builder_WriteString_i1 s_1 []) fun r_24 =>
     jp (S := Str) (fun o1_46 =>
      call (strings_Builder_String_i1 o1_46) fun r_48 =>
      some r_48) fun k_47 =>
     loopN Fuel (fun o1_55 nx_63 k_62 =>
      call (strings_Builder_Len_i1 o1_55) fun r_64 =>
      bif decide (r_64 < (IntKind.i64.wrap r_4.2)) then
       call (strings_Builder_Len_i1 o1_55) fun r_65 =>
       call (strings_Builder_Len_i1 o1_55) fun r_66 =>
       call (strings_Builder_String_i1 o1_55) fun r_67 =>
       chk (0 ≤ min (min (IntKind.i64.wrap ((IntKind.i64.wrap r_4.2) - r_65)) r_66) chunkMax_21 ∧ min (min (IntKind.i64.wrap ((IntKind.i64.wrap r_4.2) - r_65)) r_66) chunkMax_21 ≤ (r_67.length : Int)) <|
       call (strings_Builder_WriteString_i1 (List.take ((min (min (IntKind.i64.wrap ((IntKind.i64.wrap r_4.2) - r_65)) r_66) chunkMax_21).toNat) r_67) o1_55) fun r_69 =>
       nx_63 r_69.2
      else
      k_62 o1_55) r_24.2 (fun o1_55 =>
      k_47 o1_55)) fun k_22 =>
    bif decide (8192 < (IntKind.i64.wrap r_4.2)) then
     chk (¬ (s_1.length : Int) = 0) <|
     bif decide ((IntKind.i64.wrap ((IntKind.i64.wrap (Int.tdiv 8192 (s_1.length : Int))) * (s_1.length : Int))) = 0) then
      k_22 (s_1.length : Int)
     else
     k_22 (IntKind.i64.wrap ((IntKind.i64.wrap (Int.tdiv 8192 (s_1.length : Int))) * (s_1.length : Int)))
    else
    k_22 (IntKind.i64.wrap r_4.2)) fun k_19 =>
   idxS s_1 0 fun c_71 =>
   jp (S := Bool) (fun t43_72 =>
    bif t43_72 then
     callG (decide ((IntKind.i64.wrap r_4.2) ≤ 128)) (strings_HasPrefix ((List.append [32, 32, 32, 32, 32, 32, 32, 32, 32, 32, 32, 32, 32, 32, 32, 32, 32, 32, 32, 32, 32, 32, 32, 32, 32, 32, 32, 32, 32, 32, 32, 32, 32, 32, 32, 32, 32, 32, 32, 32, 32, 32, 32, 32, 32, 32, 32, 32, 32, 32, 32, 32, 32, 32, 32, 32, 32, 32, 32, 32, 32, 32, 32, 32] [32, 32, 32, 32, 32, 32, 32, 32, 32, 32, 32, 32, 32, 32, 32, 32, 32, 32, 32, 32, 32, 32, 32, 32, 32, 32, 32, 32, 32, 32, 32, 32, 32, 32, 32, 32, 32, 32, 32, 32, 32, 32, 32, 32, 32, 32, 32, 32, 32, 32, 32, 32, 32, 32, 32, 32, 32, 32, 32, 32, 32, 32, 32, 32]) : Str) s_1) false fun r_74 =>
     bif ((decide ((IntKind.i64.wrap r_4.2) ≤ 128)) && r_74) then
      chk (0 ≤ IntKind.i64.wrap r_4.2 ∧ IntKind.i64.wrap r_4.2 ≤ (((List.append [32, 32, 32, 32, 32, 32, 32, 32, 32, 32, 32, 32, 32, 32, 32, 32, 32, 32, 32, 32, 32, 32, 32, 32, 32, 32, 32, 32, 32, 32, 32, 32, 32, 32, 32, 32, 32, 32, 32, 32, 32, 32, 32, 32, 32, 32, 32, 32, 32, 32, 32, 32, 32, 32, 32, 32, 32, 32, 32, 32, 32, 32, 32, 32] [32, 32, 32, 32, 32, 32, 32, 32, 32, 32, 32, 32, 32, 32, 32, 32, 32, 32, 32, 32, 32, 32, 32, 32, 32, 32, 32, 32, 32, 32, 32, 32, 32, 32, 32, 32, 32, 32, 32, 32, 32, 32, 32, 32, 32, 32, 32, 32, 32, 32, 32, 32, 32, 32, 32, 32, 32, 32, 32, 32, 32, 32, 32, 32]) : Str).length : Int)) <|
      some (List.take ((IntKind.i64.wrap r_4.2).toNat) ((List.append [32, 32, 32, 32, 32, 32, 32, 32, 32, 32, 32, 32, 32, 32, 32, 32, 32, 32, 32, 32, 32, 32, 32, 32, 32, 32, 32, 32, 32, 32, 32, 32, 32, 32, 32, 32, 32, 32, 32, 32, 32, 32, 32, 32, 32, 32, 32, 32, 32, 32, 32, 32, 32, 32, 32, 32, 32, 32, 32, 32, 32, 32, 32, 32] [32, 32, 32, 32, 32, 32, 32, 32, 32, 32, 32, 32, 32, 32, 32, 32, 32, 32, 32, 32, 32, 32, 32, 32, 32, 32, 32, 32, 32, 32, 32, 32, 32, 32, 32, 32, 32, 32, 32, 32, 32, 32, 32, 32, 32, 32, 32, 32, 32, 32, 32, 32, 32, 32, 32, 32, 32, 32, 32, 32, 32, 32, 32, 32]) : Str))
     else
     callG (decide ((IntKind.i64.wrap r_4.2) ≤ 128)) (strings_HasPrefix ((List.append [45, 45, 45, 45, 45, 45, 45, 45, 45, 45, 45, 45, 45, 45, 45, 45, 45, 45, 45, 45, 45, 45, 45, 45, 45, 45, 45, 45, 45, 45, 45, 45, 45, 45, 45, 45, 45, 45, 45, 45, 45, 45, 45, 45, 45, 45, 45, 45, 45, 45, 45, 45, 45, 45, 45, 45, 45, 45, 45, 45, 45, 45, 45, 45] [45, 45, 45, 45, 45, 45, 45, 45, 45, 45, 45, 45, 45, 45, 45, 45, 45, 45, 45, 45, 45, 45, 45, 45, 45, 45, 45, 45, 45, 45, 45, 45, 45, 45, 45, 45, 45, 45, 45, 45, 45, 45, 45, 45, 45, 45, 45, 45, 45, 45, 45, 45, 45, 45, 45, 45, 45, 45, 45, 45, 45, 45, 45, 45]) : Str) s_1) false fun r_76 =>
     bif ((decide ((IntKind.i64.wrap r_4.2) ≤ 128)) && r_76) then
      chk (0 ≤ IntKind.i64.wrap r_4.2 ∧ IntKind.i64.wrap r_4.2 ≤ (((List.append [45, 45, 45, 45, 45, 45, 45, 45, 45, 45, 45, 45, 45, 45, 45, 45, 45, 45, 45, 45, 45, 45, 45, 45, 45, 45, 45, 45, 45, 45, 45, 45, 45, 45, 45, 45, 45, 45, 45, 45, 45, 45, 45, 45, 45, 45, 45, 45, 45, 45, 45, 45, 45, 45, 45, 45, 45, 45, 45, 45, 45, 45, 45, 45] [45, 45, 45, 45, 45, 45, 45, 45, 45, 45, 45, 45, 45, 45, 45, 45, 45, 45, 45, 45, 45, 45, 45, 45, 45, 45, 45, 45, 45, 45, 45, 45, 45, 45, 45, 45, 45, 45, 45, 45, 45, 45, 45, 45, 45, 45, 45, 45, 45, 45, 45, 45, 45, 45, 45, 45, 45, 45, 45, 45, 45, 45, 45, 45]) : Str).length : Int)) <|
      some (List.take ((IntKind.i64.wrap r_4.2).toNat) ((List.append [45, 45, 45, 45, 45, 45, 45, 45, 45, 45, 45, 45, 45, 45, 45, 45, 45, 45, 45, 45, 45, 45, 45, 45, 45, 45, 45, 45, 45, 45, 45, 45, 45, 45, 45, 45, 45, 45, 45, 45, 45, 45, 45, 45, 45, 45, 45, 45, 45, 45, 45, 45, 45, 45, 45, 45, 45, 45, 45, 45, 45, 45, 45, 45] [45, 45, 45, 45, 45, 45, 45, 45, 45, 45, 45, 45, 45, 45, 45, 45, 45, 45, 45, 45, 45, 45, 45, 45, 45, 45, 45, 45, 45, 45, 45, 45, 45, 45, 45, 45, 45, 45, 45, 45, 45, 45, 45, 45, 45, 45, 45, 45, 45, 45, 45, 45, 45, 45, 45, 45, 45, 45, 45, 45, 45, 45, 45, 45]) : Str))
     else
     callG (decide ((IntKind.i64.wrap r_4.2) ≤ 64)) (strings_HasPrefix ([48, 48, 48, 48, 48, 48, 48, 48, 48, 48, 48, 48, 48, 48, 48, 48, 48, 48, 48, 48, 48, 48, 48, 48, 48, 48, 48, 48, 48, 48, 48, 48, 48, 48, 48, 48, 48, 48, 48, 48, 48, 48, 48, 48, 48, 48, 48, 48, 48, 48, 48, 48, 48, 48, 48, 48, 48, 48, 48, 48, 48, 48, 48, 48] : Str) s_1) false fun r_78 =>
     bif ((decide ((IntKind.i64.wrap r_4.2) ≤ 64)) && r_78) then
      chk (0 ≤ IntKind.i64.wrap r_4.2 ∧ IntKind.i64.wrap r_4.2 ≤ (([48, 48, 48, 48, 48, 48, 48, 48, 48, 48, 48, 48, 48, 48, 48, 48, 48, 48, 48, 48, 48, 48, 48, 48, 48, 48, 48, 48, 48, 48, 48, 48, 48, 48, 48, 48, 48, 48, 48, 48, 48, 48, 48, 48, 48, 48, 48, 48, 48, 48, 48, 48, 48, 48, 48, 48, 48, 48, 48, 48, 48, 48, 48, 48] : Str).length : Int)) <|
      some (List.take ((IntKind.i64.wrap r_4.2).toNat) ([48, 48, 48, 48, 48, 48, 48, 48, 48, 48, 48, 48, 48, 48, 48, 48, 48, 48, 48, 48, 48, 48, 48, 48, 48, 48, 48, 48, 48, 48, 48, 48, 48, 48, 48, 48, 48, 48, 48, 48, 48, 48, 48, 48, 48, 48, 48, 48, 48, 48, 48, 48, 48, 48, 48, 48, 48, 48, 48, 48, 48, 48, 48, 48] : Str))
     else
     callG (decide ((IntKind.i64.wrap r_4.2) ≤ 128)) (strings_HasPrefix ((List.append [61, 61, 61, 61, 61, 61, 61, 61, 61, 61, 61, 61, 61, 61, 61, 61, 61, 61, 61, 61, 61, 61, 61, 61, 61, 61, 61, 61, 61, 61, 61, 61, 61, 61, 61, 61, 61, 61, 61, 61, 61, 61, 61, 61, 61, 61, 61, 61, 61, 61, 61, 61, 61, 61, 61, 61, 61, 61, 61, 61, 61, 61, 61, 61] [61, 61, 61, 61, 61, 61, 61, 61, 61, 61, 61, 61, 61, 61, 61, 61, 61, 61, 61, 61, 61, 61, 61, 61, 61, 61, 61, 61, 61, 61, 61, 61, 61, 61, 61, 61, 61, 61, 61, 61, 61, 61, 61, 61, 61, 61, 61, 61, 61, 61, 61, 61, 61, 61, 61, 61, 61, 61, 61, 61, 61, 61, 61, 61]) : Str) s_1) false fun r_80 =>
     bif ((decide ((IntKind.i64.wrap r_4.2) ≤ 128)) && r_80) then
      chk (0 ≤ IntKind.i64.wrap r_4.2 ∧ IntKind.i64.wrap r_4.2 ≤ (((List.append [61, 61, 61, 61, 61, 61, 61, 61, 61, 61, 61, 61, 61, 61, 61, 61, 61, 61, 61, 61, 61, 61, 61, 61, 61, 61, 61, 61, 61, 61, 61, 61, 61, 61, 61, 61, 61, 61, 61, 61, 61, 61, 61, 61, 61, 61, 61, 61, 61, 61, 61, 61, 61, 61, 61, 61, 61, 61, 61, 61, 61, 61, 61, 61] [61, 61, 61, 61, 61, 61, 61, 61, 61, 61, 61, 61, 61, 61, 61, 61, 61, 61, 61, 61, 61, 61, 61, 61, 61, 61, 61, 61, 61, 61, 61, 61, 61, 61, 61, 61, 61, 61, 61, 61, 61, 61, 61, 61, 61, 61, 61, 61, 61, 61, 61, 61, 61, 61, 61, 61, 61, 61, 61, 61, 61, 61, 61, 61]) : Str).length : Int)) <|
      some (List.take ((IntKind.i64.wrap r_4.2).toNat) ((List.append [61, 61, 61, 61, 61, 61, 61, 61, 61, 61, 61, 61, 61, 61, 61, 61, 61, 61, 61, 61, 61, 61, 61, 61, 61, 61, 61, 61, 61, 61, 61, 61, 61, 61, 61, 61, 61, 61, 61, 61, 61, 61, 61, 61, 61, 61, 61, 61, 61, 61, 61, 61, 61, 61, 61, 61, 61, 61, 61, 61, 61, 61, 61, 61] [61, 61, 61, 61, 61, 61, 61, 61, 61, 61, 61, 61, 61, 61, 61, 61, 61, 61, 61, 61, 61, 61, 61, 61, 61, 61, 61, 61, 61, 61, 61, 61, 61, 61, 61, 61, 61, 61, 61, 61, 61, 61, 61, 61, 61, 61, 61, 61, 61, 61, 61, 61, 61, 61, 61, 61, 61, 61, 61, 61, 61, 61, 61, 61]) : Str))
     else
     callG (decide ((IntKind.i64.wrap r_4.2) ≤ 64)) (strings_HasPrefix ([9, 9, 9, 9, 9, 9, 9, 9, 9, 9, 9, 9, 9, 9, 9, 9, 9, 9, 9, 9, 9, 9, 9, 9, 9, 9, 9, 9, 9, 9, 9, 9, 9, 9, 9, 9, 9, 9, 9, 9, 9, 9, 9, 9, 9, 9, 9, 9, 9, 9, 9, 9, 9, 9, 9, 9, 9, 9, 9, 9, 9, 9, 9, 9] : Str) s_1) false fun r_82 =>
     bif ((decide ((IntKind.i64.wrap r_4.2) ≤ 64)) && r_82) then
      chk (0 ≤ IntKind.i64.wrap r_4.2 ∧ IntKind.i64.wrap r_4.2 ≤ (([9, 9, 9, 9, 9, 9, 9, 9, 9, 9, 9, 9, 9, 9, 9, 9, 9, 9, 9, 9, 9, 9, 9, 9, 9, 9, 9, 9, 9, 9, 9, 9, 9, 9, 9, 9, 9, 9, 9, 9, 9, 9, 9, 9, 9, 9, 9, 9, 9, 9, 9, 9, 9, 9, 9, 9, 9, 9, 9, 9, 9, 9, 9, 9] : Str).length : Int)) <|
      some (List.take ((IntKind.i64.wrap r_4.2).toNat) ([9, 9, 9, 9, 9, 9, 9, 9, 9, 9, 9, 9, 9, 9, 9, 9, 9, 9, 9, 9, 9, 9, 9, 9, 9, 9, 9, 9, 9, 9, 9, 9, 9, 9, 9, 9, 9, 9, 9, 9, 9, 9, 9, 9, 9, 9, 9, 9, 9, 9, 9, 9, 9, 9, 9, 9, 9, 9, 9, 9, 9, 9, 9, 9] : Str))
     else
     k_19 ()
    else
    k_19 ()) fun k_73 =>
   bif decide (c_71 = 32) then
    k_73 (decide (c_71 = 32))
   else
   bif decide (c_71 = 45) then
    k_73 (decide (c_71 = 45))
   else
   bif decide (c_71 = 48) then
    k_73 (decide (c_71 = 48))
   else
   bif decide (c_71 = 61) then
    k_73 (decide (c_71 = 61))
   else
   k_73 (decide (c_71 = 9))) fun k_5 =>
  bif ((decide (0 < r_4.1)) || (decide (9223372036854775807 < r_4.2))) then
   none
  else
  k_5 ()) fun k_3 =>
 bif decide (count_2 < 0) then
  none
 else
 k_3 ()
noncomputable def R_SumOf (s_1 : Str) : Option Str :=
 jp (S := Int) (fun h_10 =>
  call (strconv_FormatUint h_10 16) fun r_12 =>
  call (strings_Repeat ([48] : Str) (IntKind.i64.wrap (16 - (r_12.length : Int)))) fun r_13 =>
  chk ((r_13 ++ r_12).length ≤ 274877906944) <|
  some (r_13 ++ r_12)) fun k_11 =>
 forL s_1 0 (fun i_20 c_22 h_15 nx_19 k_18 =>
  nx_19 (IntKind.u64.wrap ((bitsI .xor .u64 h_15 (IntKind.u64.wrap (c_22.toNat : Int))) * 1099511628211))) 14695981039346656037 (fun h_15 =>
  k_11 h_15)
noncomputable def internal_bytealg_CompareString (a_1 : Str) (b_2 : Str) : Option Int :=
 some (cmpB a_1 b_2)
noncomputable def strings_Compare (a_1 : Str) (b_2 : Str) : Option Int :=
 call (internal_bytealg_CompareString a_1 b_2) fun r_3 =>
 some r_3
noncomputable def cmp_Or_int (vals_1 : List Int) : Option Int :=
 jp (S := Unit) (fun _ =>
  some 0) fun k_9 =>
 forL vals_1 0 (fun i_14 n_16 s nx_13 k_12 =>
  bif !decide (n_16 = 0) then
   some n_16
  else
  nx_13 ()) () (fun _ =>
  k_9 ())
noncomputable def R_heldOrder (a_1 : api_Held) (b_2 : api_Held) : Option Int :=
 call (strings_Compare a_1.Owner b_2.Owner) fun r_3 =>
 call (R_thingOf a_1.Kind) fun r_4 =>
 call (R_thingOf b_2.Kind) fun r_5 =>
 call (strings_Compare a_1.Path b_2.Path) fun r_6 =>
 call (cmp_Or_int [r_3, IntKind.i64.wrap (r_4 - r_5), r_6]) fun r_7 =>
 some r_7
noncomputable def R_KeepError (k_1 : api_Keep) : Option Int :=
 bif decide (5000 < (k_1.Held.length : Int)) then
  some 4
 else
 jp (S := Unit) (fun _ =>
  jp (S := Unit) (fun _ =>
   some 0) fun k_75 =>
  forL k_1.Held 0 (fun i_93 h_95 m1_84 nx_92 k_91 =>
   call (R_thingOf h_95.Kind) fun r_96 =>
   letv (alook m1_84 (outref1_place.mk r_96 h_95.Path)) fun q_97 =>
   bif (q_97.isSome && (((!decide (((q_97.getD (api_Held.mk [] 0 [] [] [])).Kind) = 2)) || (!decide (h_95.Kind = 2))) || (!decide (((q_97.getD (api_Held.mk [] 0 [] [] [])).Sum) = h_95.Sum)))) then
    some 11
   else
   chk ((aset m1_84 (outref1_place.mk r_96 h_95.Path) h_95).length ≤ 274877906944) <|
   nx_92 (aset m1_84 (outref1_place.mk r_96 h_95.Path) h_95)) [] (fun m1_84 =>
   k_75 ())) fun k_49 =>
 forL k_1.Held 0 (fun i_125 h_127 s nx_124 k_123 =>
  call (R_IsSum h_127.Sum) fun r_128 =>
  chk (((!((!r_128) || ((!decide (h_127.Base = [])) && (!decide (h_127.Kind = 3))))) && (decide (h_127.Kind = 3))) = true → (([114] : Str) ++ h_127.Base).length ≤ 274877906944) <|
  callG ((!((!r_128) || ((!decide (h_127.Base = [])) && (!decide (h_127.Kind = 3))))) && (decide (h_127.Kind = 3))) (R_SumOf (([114] : Str) ++ h_127.Base)) [] fun r_130 =>
  chk (((!((!r_128) || ((!decide (h_127.Base = [])) && (!decide (h_127.Kind = 3))))) && ((decide (h_127.Kind = 3)) && (!decide (h_127.Sum = r_130)))) = true → (([45] : Str) ++ h_127.Base).length ≤ 274877906944) <|
  callG ((!((!r_128) || ((!decide (h_127.Base = [])) && (!decide (h_127.Kind = 3))))) && ((decide (h_127.Kind = 3)) && (!decide (h_127.Sum = r_130)))) (R_SumOf (([45] : Str) ++ h_127.Base)) [] fun r_132 =>
  call (R_IsPath h_127.Path) fun r_133 =>
  jp (S := Bool) (fun named_135 =>
   call (R_IsName h_127.Owner) fun r_137 =>
   call (R_when (!r_137) 5) fun r_138 =>
   call (R_when ((decide (h_127.Kind < 1)) || (decide (6 < h_127.Kind))) 1) fun r_139 =>
   call (R_when (!named_135) 5) fun r_140 =>
   call (R_when (((!r_128) || ((!decide (h_127.Base = [])) && (!decide (h_127.Kind = 3)))) || (((decide (h_127.Kind = 3)) && (!decide (h_127.Sum = r_130))) && (!decide (h_127.Sum = r_132)))) 2) fun r_141 =>
   chk ((decide (0 < (i_125 : Int))) = true → (0 ≤ IntKind.i64.wrap ((i_125 : Int) - 1) ∧ IntKind.i64.wrap ((i_125 : Int) - 1) < (k_1.Held.length : Int))) <|
   callG (decide (0 < (i_125 : Int))) (R_heldOrder (api_Held.mk ((k_1.Held.getD ((IntKind.i64.wrap ((i_125 : Int) - 1)).toNat) (api_Held.mk [] 0 [] [] [])).Owner) ((k_1.Held.getD ((IntKind.i64.wrap ((i_125 : Int) - 1)).toNat) (api_Held.mk [] 0 [] [] [])).Kind) ((k_1.Held.getD ((IntKind.i64.wrap ((i_125 : Int) - 1)).toNat) (api_Held.mk [] 0 [] [] [])).Path) ((k_1.Held.getD ((IntKind.i64.wrap ((i_125 : Int) - 1)).toNat) (api_Held.mk [] 0 [] [] [])).Sum) ((k_1.Held.getD ((IntKind.i64.wrap ((i_125 : Int) - 1)).toNat) (api_Held.mk [] 0 [] [] [])).Base)) h_127) 0 fun r_143 =>
   call (R_when ((decide (0 < (i_125 : Int))) && (decide (0 ≤ r_143))) 7) fun r_144 =>
   call (R_first [r_138, r_139, r_140, r_141, r_144]) fun r_145 =>
   bif !decide (r_145 = 0) then
    some r_145
   else
   nx_124 ()) fun k_136 =>
  bif decide (h_127.Kind = 6) then
   call (R_IsName h_127.Path) fun r_147 =>
   k_136 r_147
  else
  k_136 r_133) () (fun _ =>
  k_49 ())
noncomputable def keep_isKind (kind_1 : Int) : Option Bool :=
 some ((decide (1 ≤ kind_1)) && (decide (kind_1 ≤ 6)))
noncomputable def keep_isSum (s_1 : Str) : Option Bool :=
 jp (S := Unit) (fun _ =>
  some (decide ((s_1.length : Int) = 16))) fun k_9 =>
 forL s_1 0 (fun i_14 c_16 s nx_13 k_12 =>
  bif !(((decide (48 ≤ (c_16.toNat : Int))) && (decide ((c_16.toNat : Int) ≤ 57))) || ((decide (97 ≤ (c_16.toNat : Int))) && (decide ((c_16.toNat : Int) ≤ 102)))) then
   some false
  else
  nx_13 ()) () (fun _ =>
  k_9 ())
noncomputable def disk_SumOf (text_1 : Str) : Option Str :=
 jp (S := Int) (fun n_10 =>
  jp (S := List Int) (fun o0_26 =>
   some (Go.Vc.strOf o0_26)) fun k_27 =>
  loopN Fuel (fun s nx_38 k_37 =>
   match s with
   | (t23_32, o0_33) =>
    bif decide (t23_32 < ((List.replicate 16 0).length : Int)) then
     chk (0 ≤ (IntKind.i64.wrap (60 - (IntKind.i64.wrap (4 * t23_32))))) <|
     idxS ([48, 49, 50, 51, 52, 53, 54, 55, 56, 57, 97, 98, 99, 100, 101, 102] : Str) (bitsI .and .u64 (Int.fdiv n_10 (2 ^ (shI .u64 (IntKind.i64.wrap (60 - (IntKind.i64.wrap (4 * t23_32))))))) 15) fun c_40 =>
     chk (0 ≤ t23_32 ∧ t23_32 < (o0_33.length : Int)) <|
     nx_38 (IntKind.i64.wrap (t23_32 + 1), List.set o0_33 t23_32.toNat c_40)
    else
    k_37 (t23_32, o0_33)) (0, List.replicate 16 0) (fun s => match s with
   | (t23_32, o0_33) =>
    k_27 o0_33)) fun k_11 =>
 forL text_1 0 (fun i_47 c_49 n_42 nx_46 k_45 =>
  nx_46 (IntKind.u64.wrap ((bitsI .xor .u64 n_42 (IntKind.u64.wrap (c_49.toNat : Int))) * 1099511628211))) 14695981039346656037 (fun n_42 =>
  k_11 n_42)
noncomputable def keep_heldFault (h_1 : api_Held) : Option Int :=
 call (ver_IsName h_1.Owner) fun r_2 =>
 bif !r_2 then
  some 5
 else
 call (keep_isKind h_1.Kind) fun r_3 =>
 bif !r_3 then
  some 1
 else
 callG (decide (h_1.Kind = 6)) (ver_IsName h_1.Path) false fun r_4 =>
 callG ((!((decide (h_1.Kind = 6)) && (!r_4))) && (!decide (h_1.Kind = 6))) (ver_IsPath h_1.Path) false fun r_5 =>
 bif (((decide (h_1.Kind = 6)) && (!r_4)) || ((!decide (h_1.Kind = 6)) && (!r_5))) then
  some 5
 else
 call (keep_isSum h_1.Sum) fun r_6 =>
 bif ((!r_6) || ((!decide (h_1.Base = [])) && (!decide (h_1.Kind = 3)))) then
  some 2
 else
 chk ((decide (h_1.Kind = 3)) = true → (([114] : Str) ++ h_1.Base).length ≤ 274877906944) <|
 callG (decide (h_1.Kind = 3)) (disk_SumOf (([114] : Str) ++ h_1.Base)) [] fun r_8 =>
 chk (((decide (h_1.Kind = 3)) && (!decide (h_1.Sum = r_8))) = true → (([45] : Str) ++ h_1.Base).length ≤ 274877906944) <|
 callG ((decide (h_1.Kind = 3)) && (!decide (h_1.Sum = r_8))) (disk_SumOf (([45] : Str) ++ h_1.Base)) [] fun r_10 =>
 bif (((decide (h_1.Kind = 3)) && (!decide (h_1.Sum = r_8))) && (!decide (h_1.Sum = r_10))) then
  some 2
 else
 some 0
noncomputable def keep_thingOf (kind_1 : Int) : Option Int :=
 bif decide (kind_1 = 5) then
  some 2
 else
 bif decide (kind_1 = 6) then
  some 3
 else
 some 1
noncomputable def keep_heldPlace (h_1 : api_Held) : Option keep_place :=
 call (keep_thingOf h_1.Kind) fun r_2 =>
 some (keep_place.mk r_2 h_1.Path)
noncomputable def keep_compareHeld (a_1 : api_Held) (b_2 : api_Held) : Option Int :=
 call (strings_Compare a_1.Owner b_2.Owner) fun r_3 =>
 bif !decide (r_3 = 0) then
  some r_3
 else
 call (keep_heldPlace a_1) fun r_4 =>
 call (keep_heldPlace b_2) fun r_5 =>
 bif !decide (r_4.thing = r_5.thing) then
  some (IntKind.i64.wrap (r_4.thing - r_5.thing))
 else
 call (strings_Compare r_4.path r_5.path) fun r_6 =>
 some r_6
noncomputable def keep_share (a_1 : api_Held) (b_2 : api_Held) : Option Bool :=
 some (((decide (a_1.Kind = 2)) && (decide (b_2.Kind = 2))) && (decide (a_1.Sum = b_2.Sum)))
noncomputable def keep_Check (k_1 : api_Keep) : Option Int :=
 bif decide (5000 < (k_1.Held.length : Int)) then
  some 4
 else
 jp (S := Unit) (fun _ =>
  jp (S := Unit) (fun _ =>
   some 0) fun k_49 =>
  forL k_1.Held 0 (fun i_71 h_73 m1_60 nx_70 k_69 =>
   call (keep_heldPlace h_73) fun r_74 =>
   letv (alook m1_60 r_74) fun q_75 =>
   callG q_75.isSome (keep_share (q_75.getD (api_Held.mk [] 0 [] [] [])) h_73) false fun r_77 =>
   bif (q_75.isSome && (!r_77)) then
    some 11
   else
   call (keep_heldPlace h_73) fun r_78 =>
   chk ((aset m1_60 r_78 h_73).length ≤ 274877906944) <|
   nx_70 (aset m1_60 r_78 h_73)) [] (fun m1_60 =>
   k_49 ())) fun k_17 =>
 forL k_1.Held 0 (fun i_89 h_91 s nx_88 k_87 =>
  call (keep_heldFault h_91) fun r_92 =>
  bif !decide (r_92 = 0) then
   some r_92
  else
  chk ((decide (0 < (i_89 : Int))) = true → (0 ≤ IntKind.i64.wrap ((i_89 : Int) - 1) ∧ IntKind.i64.wrap ((i_89 : Int) - 1) < (k_1.Held.length : Int))) <|
  callG (decide (0 < (i_89 : Int))) (keep_compareHeld (api_Held.mk ((k_1.Held.getD ((IntKind.i64.wrap ((i_89 : Int) - 1)).toNat) (api_Held.mk [] 0 [] [] [])).Owner) ((k_1.Held.getD ((IntKind.i64.wrap ((i_89 : Int) - 1)).toNat) (api_Held.mk [] 0 [] [] [])).Kind) ((k_1.Held.getD ((IntKind.i64.wrap ((i_89 : Int) - 1)).toNat) (api_Held.mk [] 0 [] [] [])).Path) ((k_1.Held.getD ((IntKind.i64.wrap ((i_89 : Int) - 1)).toNat) (api_Held.mk [] 0 [] [] [])).Sum) ((k_1.Held.getD ((IntKind.i64.wrap ((i_89 : Int) - 1)).toNat) (api_Held.mk [] 0 [] [] [])).Base)) h_91) 0 fun r_94 =>
  bif ((decide (0 < (i_89 : Int))) && (decide (0 ≤ r_94))) then
   some 7
  else
  nx_88 ()) () (fun _ =>
  k_17 ())
noncomputable def keep_Owners (k_1 : api_Keep) (kind_2 : Int) (path_3 : Str) : Option (List Str × Int) :=
 call (keep_Check k_1) fun r_4 =>
 bif !decide (r_4 = 0) then
  some ([], r_4)
 else
 call (keep_isKind kind_2) fun r_5 =>
 bif !r_5 then
  some ([], 1)
 else
 callG (decide (kind_2 = 6)) (ver_IsName path_3) false fun r_6 =>
 callG ((!((decide (kind_2 = 6)) && (!r_6))) && (!decide (kind_2 = 6))) (ver_IsPath path_3) false fun r_7 =>
 bif (((decide (kind_2 = 6)) && (!r_6)) || ((!decide (kind_2 = 6)) && (!r_7))) then
  some ([], 5)
 else
 jp (S := List Str) (fun o1_27 =>
  some (o1_27, 0)) fun k_28 =>
 forL k_1.Held 0 (fun i_42 h_44 o1_35 nx_41 k_40 =>
  call (keep_heldPlace h_44) fun r_45 =>
  call (keep_thingOf kind_2) fun r_46 =>
  bif ((decide (r_45.thing = r_46)) && (decide (r_45.path = path_3))) then
   chk ((o1_35 ++ [h_44.Owner]).length ≤ 274877906944) <|
   nx_41 (o1_35 ++ [h_44.Owner])
  else
  nx_41 o1_35) [] (fun o1_35 =>
  k_28 o1_35)
noncomputable def keep_things (k_1 : api_Keep) (owner_2 : Str) : Option (List api_Held) :=
 jp (S := List api_Held) (fun o1_16 =>
  some o1_16) fun k_17 =>
 forL k_1.Held 0 (fun i_27 h_29 o1_22 nx_26 k_25 =>
  bif decide (h_29.Owner = owner_2) then
   chk ((o1_22 ++ [h_29]).length ≤ 274877906944) <|
   nx_26 (o1_22 ++ [h_29])
  else
  nx_26 o1_22) [] (fun o1_22 =>
  k_17 o1_22)
noncomputable def keep_Things (k_1 : api_Keep) (owner_2 : Str) : Option (List api_Held × Int) :=
 call (keep_Check k_1) fun r_3 =>
 bif !decide (r_3 = 0) then
  some ([], r_3)
 else
 call (ver_IsName owner_2) fun r_4 =>
 bif !r_4 then
  some ([], 5)
 else
 call (keep_things k_1 owner_2) fun r_5 =>
 some (r_5, 0)
noncomputable def slices_Equal_string_string (s1_1 : List Str) (s2_2 : List Str) : Option Bool :=
 bif !decide ((s1_1.length : Int) = (s2_2.length : Int)) then
  some false
 else
 jp (S := Unit) (fun _ =>
  some true) fun k_12 =>
 forL s1_1 0 (fun i_18 s_20 s nx_17 k_16 =>
  idx s2_2 (i_18 : Int) fun s_21 =>
  bif !decide (s_20 = s_21) then
   some false
  else
  nx_17 ()) () (fun _ =>
  k_12 ())
noncomputable def slices_Equal_api_Held_api_Held (s1_1 : List api_Held) (s2_2 : List api_Held) : Option Bool :=
 bif !decide ((s1_1.length : Int) = (s2_2.length : Int)) then
  some false
 else
 jp (S := Unit) (fun _ =>
  some true) fun k_12 =>
 forL s1_1 0 (fun i_18 h_20 s nx_17 k_16 =>
  idx s2_2 (i_18 : Int) fun h_21 =>
  bif !((decide (h_20.Owner = h_21.Owner)) && ((decide (h_20.Kind = h_21.Kind)) && ((decide (h_20.Path = h_21.Path)) && ((decide (h_20.Sum = h_21.Sum)) && (decide (h_20.Base = h_21.Base)))))) then
   some false
  else
  nx_17 ()) () (fun _ =>
  k_12 ())
noncomputable def Law_KeepsCheck (x_1 : api_Item) (k_2 : api_Keep) (kind_3 : Int) (path_4 : Str) (owner_5 : Str) : Option Bool :=
 call (Law_landed) fun r_6 =>
 bif !r_6 then
  some false
 else
 call (keep_CheckItem x_1) fun r_7 =>
 call (R_ItemError x_1) fun r_8 =>
 bif !decide (r_7 = r_8) then
  some false
 else
 call (R_KeepError k_2) fun r_9 =>
 call (keep_Owners k_2 kind_3 path_4) fun r_10 =>
 call (keep_Things k_2 owner_5) fun r_11 =>
 call (keep_Check k_2) fun r_12 =>
 bif !decide (r_12 = r_9) then
  some false
 else
 bif !decide (r_9 = 0) then
  letv ((((decide (r_10.2 = r_9)) && (decide (r_11.2 = r_9))) && (decide ((IntKind.i64.wrap ((r_10.1.length : Int) + (r_11.1.length : Int))) = 0)))) fun v_13 =>
  some v_13
 else
 jp (S := Unit) (fun _ =>
  call (R_IsName owner_5) fun r_59 =>
  bif !r_59 then
   some ((decide (r_11.2 = 5)) && (decide ((r_11.1.length : Int) = 0)))
  else
  jp (S := List api_Held) (fun o2_73 =>
   callG (decide (r_11.2 = 0)) (slices_Equal_api_Held_api_Held r_11.1 o2_73) false fun r_75 =>
   some ((decide (r_11.2 = 0)) && r_75)) fun k_74 =>
  forL k_2.Held 0 (fun i_85 h_87 o2_80 nx_84 k_83 =>
   bif decide (h_87.Owner = owner_5) then
    chk ((o2_80 ++ [h_87]).length ≤ 274877906944) <|
    nx_84 (o2_80 ++ [h_87])
   else
   nx_84 o2_80) [] (fun o2_80 =>
   k_74 o2_80)) fun k_58 =>
 bif ((decide (kind_3 < 1)) || (decide (6 < kind_3))) then
  bif !decide (r_10.2 = 1) then
   some false
  else
  k_58 ()
 else
 callG (decide (kind_3 = 6)) (R_IsName path_4) false fun r_89 =>
 callG ((!((decide (kind_3 = 6)) && (!r_89))) && (!(decide (kind_3 = 6)))) (R_IsPath path_4) false fun r_90 =>
 bif (((decide (kind_3 = 6)) && (!r_89)) || ((!(decide (kind_3 = 6))) && (!r_90))) then
  bif !decide (r_10.2 = 5) then
   some false
  else
  k_58 ()
 else
 jp (S := List Str) (fun o2_110 =>
  callG (!(!decide (r_10.2 = 0))) (slices_Equal_string_string r_10.1 o2_110) false fun r_112 =>
  bif ((!decide (r_10.2 = 0)) || (!r_112)) then
   some false
  else
  k_58 ()) fun k_111 =>
 forL k_2.Held 0 (fun i_126 h_128 o2_119 nx_125 k_124 =>
  letv (((decide (h_128.Path = path_4)) && (decide ((decide (h_128.Kind = 6)) = (decide (kind_3 = 6)))))) fun v_129 =>
  bif (v_129 && (decide ((decide (h_128.Kind = 5)) = (decide (kind_3 = 5))))) then
   chk ((o2_119 ++ [h_128.Owner]).length ≤ 274877906944) <|
   nx_125 (o2_119 ++ [h_128.Owner])
  else
  nx_125 o2_119) [] (fun o2_119 =>
  k_111 o2_119)
end Go.Md
