/- Models of the functions that the statement reaches: what each computes, in plain words. -/
import Derived.Test.YtoieghljolfkaaaVc3
set_option linter.unusedVariables false
namespace Go.Md
open Go.Vc
instance theTabs : Tabs := ⟨fun b => none, fun b => false⟩
def ecB (b : Bool) : List Dt := [.b b]
def ecS (x : Str) : List Dt := [.s x]
def ecI_i8 (n : Int) : List Dt := [.i .i8 n]
def ecI_i16 (n : Int) : List Dt := [.i .i16 n]
def ecI_i32 (n : Int) : List Dt := [.i .i32 n]
def ecI_i64 (n : Int) : List Dt := [.i .i64 n]
def ecI_u8 (n : Int) : List Dt := [.i .u8 n]
def ecI_u16 (n : Int) : List Dt := [.i .u16 n]
def ecI_u32 (n : Int) : List Dt := [.i .u32 n]
def ecI_u64 (n : Int) : List Dt := [.i .u64 n]
theorem dec1_s : ∀ r, hasR r [.s] → ∃ x, r = ecS x := by
 intro r h
 rcases r with _ | ⟨d, _ | _⟩ <;> simp only [hasR, and_false, and_true] at h
 cases d <;> simp only [hasT] at h
 exact ⟨_, rfl⟩
theorem dec1_i64 : ∀ r, hasR r [.i .i64] → ∃ x, r = ecI_i64 x := by
 intro r h
 rcases r with _ | ⟨d, _ | _⟩ <;> simp only [hasR, and_false, and_true] at h
 cases d <;> simp only [hasT] at h
 subst h
 exact ⟨_, rfl⟩
theorem dec1_u8 : ∀ r, hasR r [.i .u8] → ∃ x, r = ecI_u8 x := by
 intro r h
 rcases r with _ | ⟨d, _ | _⟩ <;> simp only [hasR, and_false, and_true] at h
 cases d <;> simp only [hasT] at h
 subst h
 exact ⟨_, rfl⟩
structure api_Piece where
 At : Int
 Long : Int
 Data : Str
def enc_api_Piece (x : api_Piece) : List Dt := [.i .i64 x.At, .i .i64 x.Long, .s x.Data]
def sh_api_Piece : List Sh := [.i .i64, .i .i64, .s]
theorem dec_api_Piece : ∀ r, hasR r sh_api_Piece → ∃ x : api_Piece, r = enc_api_Piece x := by
 intro r h
 unfold sh_api_Piece at h
 rcases r with _ | ⟨d0, _ | ⟨d1, _ | ⟨d2, _ | _⟩⟩⟩ <;> simp only [hasR, and_false, and_true] at h
 obtain ⟨h0, h1, h2⟩ := h
 cases d0 <;> simp only [hasT] at h0
 subst h0
 cases d1 <;> simp only [hasT] at h1
 subst h1
 cases d2 <;> simp only [hasT] at h2
 exact ⟨⟨_, _, _⟩, rfl⟩
structure api_Delta where
 Old : Int
 New : Int
 OldSum : Str
 NewSum : Str
 Pieces : List api_Piece
def enc_api_Delta (x : api_Delta) : List Dt := [.i .i64 x.Old, .i .i64 x.New, .s x.OldSum, .s x.NewSum, .l (List.map enc_api_Piece x.Pieces)]
def sh_api_Delta : List Sh := [.i .i64, .i .i64, .s, .s, .l sh_api_Piece]
theorem dec_api_Delta : ∀ r, hasR r sh_api_Delta → ∃ x : api_Delta, r = enc_api_Delta x := by
 intro r h
 unfold sh_api_Delta at h
 rcases r with _ | ⟨d0, _ | ⟨d1, _ | ⟨d2, _ | ⟨d3, _ | ⟨d4, _ | _⟩⟩⟩⟩⟩ <;> simp only [hasR, and_false, and_true] at h
 obtain ⟨h0, h1, h2, h3, h4⟩ := h
 cases d0 <;> simp only [hasT] at h0
 subst h0
 cases d1 <;> simp only [hasT] at h1
 subst h1
 cases d2 <;> simp only [hasT] at h2
 cases d3 <;> simp only [hasT] at h3
 cases d4 <;> simp only [hasT] at h4
 obtain ⟨l4, rfl⟩ := hasRs_map dec_api_Piece h4
 exact ⟨⟨_, _, _, _, _⟩, rfl⟩
structure delta_edge where
 c : Int
 to : Int
def enc_delta_edge (x : delta_edge) : List Dt := [.i .u8 x.c, .i .i64 x.to]
def sh_delta_edge : List Sh := [.i .u8, .i .i64]
theorem dec_delta_edge : ∀ r, hasR r sh_delta_edge → ∃ x : delta_edge, r = enc_delta_edge x := by
 intro r h
 unfold sh_delta_edge at h
 rcases r with _ | ⟨d0, _ | ⟨d1, _ | _⟩⟩ <;> simp only [hasR, and_false, and_true] at h
 obtain ⟨h0, h1⟩ := h
 cases d0 <;> simp only [hasT] at h0
 subst h0
 cases d1 <;> simp only [hasT] at h1
 subst h1
 exact ⟨⟨_, _⟩, rfl⟩
structure delta_state where
 long : Int
 end_ : Int
 link : Int
 edges : List delta_edge
def enc_delta_state (x : delta_state) : List Dt := [.i .i64 x.long, .i .i64 x.end_, .i .i64 x.link, .l (List.map enc_delta_edge x.edges)]
def sh_delta_state : List Sh := [.i .i64, .i .i64, .i .i64, .l sh_delta_edge]
theorem dec_delta_state : ∀ r, hasR r sh_delta_state → ∃ x : delta_state, r = enc_delta_state x := by
 intro r h
 unfold sh_delta_state at h
 rcases r with _ | ⟨d0, _ | ⟨d1, _ | ⟨d2, _ | ⟨d3, _ | _⟩⟩⟩⟩ <;> simp only [hasR, and_false, and_true] at h
 obtain ⟨h0, h1, h2, h3⟩ := h
 cases d0 <;> simp only [hasT] at h0
 subst h0
 cases d1 <;> simp only [hasT] at h1
 subst h1
 cases d2 <;> simp only [hasT] at h2
 subst h2
 cases d3 <;> simp only [hasT] at h3
 obtain ⟨l3, rfl⟩ := hasRs_map dec_delta_edge h3
 exact ⟨⟨_, _, _, _⟩, rfl⟩
structure outref1_origin where
 at_ : Int
 data : Str
def enc_outref1_origin (x : outref1_origin) : List Dt := [.i .i64 x.at_, .s x.data]
def sh_outref1_origin : List Sh := [.i .i64, .s]
theorem dec_outref1_origin : ∀ r, hasR r sh_outref1_origin → ∃ x : outref1_origin, r = enc_outref1_origin x := by
 intro r h
 unfold sh_outref1_origin at h
 rcases r with _ | ⟨d0, _ | ⟨d1, _ | _⟩⟩ <;> simp only [hasR, and_false, and_true] at h
 obtain ⟨h0, h1⟩ := h
 cases d0 <;> simp only [hasT] at h0
 subst h0
 cases d1 <;> simp only [hasT] at h1
 exact ⟨⟨_, _⟩, rfl⟩
structure api_Way where
 From : Int
 To : Int
 Cost : Int
def enc_api_Way (x : api_Way) : List Dt := [.i .i64 x.From, .i .i64 x.To, .i .i64 x.Cost]
def sh_api_Way : List Sh := [.i .i64, .i .i64, .i .i64]
theorem dec_api_Way : ∀ r, hasR r sh_api_Way → ∃ x : api_Way, r = enc_api_Way x := by
 intro r h
 unfold sh_api_Way at h
 rcases r with _ | ⟨d0, _ | ⟨d1, _ | ⟨d2, _ | _⟩⟩⟩ <;> simp only [hasR, and_false, and_true] at h
 obtain ⟨h0, h1, h2⟩ := h
 cases d0 <;> simp only [hasT] at h0
 subst h0
 cases d1 <;> simp only [hasT] at h1
 subst h1
 cases d2 <;> simp only [hasT] at h2
 subst h2
 exact ⟨⟨_, _, _⟩, rfl⟩
structure delta_route where
 cost : Int
 list : List Int
 done : Bool
 any : Bool
def enc_delta_route (x : delta_route) : List Dt := [.i .i64 x.cost, .l (List.map ecI_i64 x.list), .b x.done, .b x.any]
def sh_delta_route : List Sh := [.i .i64, .l [.i .i64], .b, .b]
theorem dec_delta_route : ∀ r, hasR r sh_delta_route → ∃ x : delta_route, r = enc_delta_route x := by
 intro r h
 unfold sh_delta_route at h
 rcases r with _ | ⟨d0, _ | ⟨d1, _ | ⟨d2, _ | ⟨d3, _ | _⟩⟩⟩⟩ <;> simp only [hasR, and_false, and_true] at h
 obtain ⟨h0, h1, h2, h3⟩ := h
 cases d0 <;> simp only [hasT] at h0
 subst h0
 cases d1 <;> simp only [hasT] at h1
 obtain ⟨l1, rfl⟩ := hasRs_map dec1_i64 h1
 cases d2 <;> simp only [hasT] at h2
 cases d3 <;> simp only [hasT] at h3
 exact ⟨⟨_, _, _, _⟩, rfl⟩
structure outref1_route where
 cost : Int
 steps : List Int
def enc_outref1_route (x : outref1_route) : List Dt := [.i .i64 x.cost, .l (List.map ecI_i64 x.steps)]
def sh_outref1_route : List Sh := [.i .i64, .l [.i .i64]]
theorem dec_outref1_route : ∀ r, hasR r sh_outref1_route → ∃ x : outref1_route, r = enc_outref1_route x := by
 intro r h
 unfold sh_outref1_route at h
 rcases r with _ | ⟨d0, _ | ⟨d1, _ | _⟩⟩ <;> simp only [hasR, and_false, and_true] at h
 obtain ⟨h0, h1⟩ := h
 cases d0 <;> simp only [hasT] at h0
 subst h0
 cases d1 <;> simp only [hasT] at h1
 obtain ⟨l1, rfl⟩ := hasRs_map dec1_i64 h1
 exact ⟨⟨_, _⟩, rfl⟩
theorem sz_ecB : ∀ l, szOk (1) (List.map ecB l) = True := fun l => eq_true (by intro r hr; obtain ⟨x, _, rfl⟩ := List.mem_map.1 hr; rfl)
theorem sz_ecS : ∀ l, szOk (1) (List.map ecS l) = True := fun l => eq_true (by intro r hr; obtain ⟨x, _, rfl⟩ := List.mem_map.1 hr; rfl)
theorem sz_ecI_i64 : ∀ l, szOk (1) (List.map ecI_i64 l) = True := fun l => eq_true (by intro r hr; obtain ⟨x, _, rfl⟩ := List.mem_map.1 hr; rfl)
theorem sz_ecI_u8 : ∀ l, szOk (1) (List.map ecI_u8 l) = True := fun l => eq_true (by intro r hr; obtain ⟨x, _, rfl⟩ := List.mem_map.1 hr; rfl)
theorem sz_ecI_u64 : ∀ l, szOk (1) (List.map ecI_u64 l) = True := fun l => eq_true (by intro r hr; obtain ⟨x, _, rfl⟩ := List.mem_map.1 hr; rfl)
theorem sz_ecI_i32 : ∀ l, szOk (1) (List.map ecI_i32 l) = True := fun l => eq_true (by intro r hr; obtain ⟨x, _, rfl⟩ := List.mem_map.1 hr; rfl)
theorem sz_ecI_u32 : ∀ l, szOk (1) (List.map ecI_u32 l) = True := fun l => eq_true (by intro r hr; obtain ⟨x, _, rfl⟩ := List.mem_map.1 hr; rfl)
theorem sz_enc_api_Piece : ∀ l, szOk (3) (List.map enc_api_Piece l) = True := fun l => eq_true (by intro r hr; obtain ⟨x, _, rfl⟩ := List.mem_map.1 hr; rfl)
theorem sz_enc_api_Delta : ∀ l, szOk (5) (List.map enc_api_Delta l) = True := fun l => eq_true (by intro r hr; obtain ⟨x, _, rfl⟩ := List.mem_map.1 hr; rfl)
theorem sz_enc_delta_edge : ∀ l, szOk (2) (List.map enc_delta_edge l) = True := fun l => eq_true (by intro r hr; obtain ⟨x, _, rfl⟩ := List.mem_map.1 hr; rfl)
theorem sz_enc_delta_state : ∀ l, szOk (4) (List.map enc_delta_state l) = True := fun l => eq_true (by intro r hr; obtain ⟨x, _, rfl⟩ := List.mem_map.1 hr; rfl)
theorem sz_enc_outref1_origin : ∀ l, szOk (2) (List.map enc_outref1_origin l) = True := fun l => eq_true (by intro r hr; obtain ⟨x, _, rfl⟩ := List.mem_map.1 hr; rfl)
theorem sz_enc_api_Way : ∀ l, szOk (3) (List.map enc_api_Way l) = True := fun l => eq_true (by intro r hr; obtain ⟨x, _, rfl⟩ := List.mem_map.1 hr; rfl)
theorem sz_enc_delta_route : ∀ l, szOk (4) (List.map enc_delta_route l) = True := fun l => eq_true (by intro r hr; obtain ⟨x, _, rfl⟩ := List.mem_map.1 hr; rfl)
theorem sz_enc_outref1_route : ∀ l, szOk (2) (List.map enc_outref1_route l) = True := fun l => eq_true (by intro r hr; obtain ⟨x, _, rfl⟩ := List.mem_map.1 hr; rfl)
theorem allB_enc : ∀ l : List Int, allB (List.map ecI_u8 l) = True
 | [] => by simp only [List.map_nil, allB]
 | _ :: l => by simp only [List.map_cons, ecI_u8, allB, allB_enc l, and_self]
theorem unB_enc : ∀ l : List Int, unB (List.map ecI_u8 l) = Go.Vc.strOf l
 | [] => by simp only [List.map_nil, unB, Go.Vc.strOf]
 | _ :: l => by simp only [List.map_cons, ecI_u8, unB, unB_enc l, Go.Vc.strOf]
theorem bR_enc (l : Str) : bR l = List.map ecI_u8 (bytesOf l) := by simp [bR, bytesOf, ecI_u8]
attribute [go_sem] allB_enc unB_enc bR_enc
attribute [go_sem] ecB ecS ecI_i64 ecI_u8 ecI_u64 ecI_i32 ecI_u32 enc_api_Piece enc_api_Delta enc_delta_edge enc_delta_state enc_outref1_origin enc_api_Way enc_delta_route enc_outref1_route sz_ecB sz_ecS sz_ecI_i64 sz_ecI_u8 sz_ecI_u64 sz_ecI_i32 sz_ecI_u32 sz_enc_api_Piece sz_enc_api_Delta sz_enc_delta_edge sz_enc_delta_state sz_enc_outref1_origin sz_enc_api_Way sz_enc_delta_route sz_enc_outref1_route
noncomputable def ver_isSmall (c_1 : Int) : Option Bool :=
 some ((decide (97 ≤ c_1)) && (decide (c_1 ≤ 122)))
noncomputable def ver_isDigit (c_1 : Int) : Option Bool :=
 some ((decide (48 ≤ c_1)) && (decide (c_1 ≤ 57)))
noncomputable def ver_IsName_1 (c_1 : Int) : Option Bool :=
 call (ver_isSmall c_1) fun r_2 =>
 callG (!r_2) (ver_isDigit c_1) false fun r_3 =>
 some (((r_2 || r_3) || (decide (c_1 = 45))) || (decide (c_1 = 46)))
noncomputable def ver_each_i1 (s_1 : Str) (most_2 : Int) : Option Bool :=
 jp (S := Unit) (fun _ =>
  some ((!decide (s_1 = [])) && (decide ((s_1.length : Int) ≤ most_2)))) fun k_12 =>
 forL s_1 0 (fun i_18 c_20 s nx_17 k_16 =>
  call (ver_IsName_1 (c_20.toNat : Int)) fun r_21 =>
  bif !r_21 then
   some false
  else
  nx_17 ()) () (fun _ =>
  k_12 ())
noncomputable def ver_IsName (s_1 : Str) : Option Bool :=
 call (ver_each_i1 s_1 40) fun r_2 =>
 chk (r_2 = true → (0 ≤ 0 ∧ 0 < (s_1.length : Int))) <|
 callG r_2 (ver_isSmall ((s_1.getD 0 0).toNat : Int)) false fun r_4 =>
 some (r_2 && r_4)
noncomputable def Law_landed  : Option Bool :=
 call (ver_IsName ([97] : Str)) fun r_1 =>
 some r_1
noncomputable def delta_outside (n_1 : Int) (low_2 : Int) (high_3 : Int) : Option Bool :=
 some ((decide (n_1 < low_2)) || (decide (high_3 < n_1)))
noncomputable def R_when (bad_1 : Bool) (e_2 : Int) : Option Int :=
 bif bad_1 then
  some e_2
 else
 some 0
noncomputable def R_first (l_1 : List Int) : Option Int :=
 jp (S := Unit) (fun _ =>
  some 0) fun k_9 =>
 forL l_1 0 (fun i_14 e_16 s nx_13 k_12 =>
  bif !decide (e_16 = 0) then
   some e_16
  else
  nx_13 ()) () (fun _ =>
  k_9 ())
noncomputable def R_WaysError (l_1 : List api_Way) (sizes_2 : List Int) : Option Int :=
 bif ((decide (1000 < (l_1.length : Int))) || (decide (200 < (sizes_2.length : Int)))) then
  some 4
 else
 jp (S := Unit) (fun _ =>
  jp (S := Unit) (fun _ =>
   some 0) fun k_26 =>
  forL l_1 0 (fun i_35 w_37 s nx_34 k_33 =>
   call (R_when ((((decide (w_37.From < 0)) || (decide ((sizes_2.length : Int) ≤ w_37.From))) || (decide (w_37.To < 0))) || (decide ((sizes_2.length : Int) ≤ w_37.To))) 10) fun r_38 =>
   call (R_when (decide (w_37.From = w_37.To)) 2) fun r_39 =>
   call (R_when ((decide (w_37.Cost < 0)) || (decide (1000000000 < w_37.Cost))) 3) fun r_40 =>
   call (R_first [r_38, r_39, r_40]) fun r_41 =>
   bif !decide (r_41 = 0) then
    some r_41
   else
   nx_34 ()) () (fun _ =>
   k_26 ())) fun k_10 =>
 forL sizes_2 0 (fun i_46 n_48 s nx_45 k_44 =>
  bif ((decide (n_48 < 0)) || (decide (1000000000 < n_48))) then
   some 3
  else
  nx_45 ()) () (fun _ =>
  k_10 ())
noncomputable def delta_CheckWays (l_1 : List api_Way) (sizes_2 : List Int) : Option Int :=
 bif ((decide (1000 < (l_1.length : Int))) || (decide (200 < (sizes_2.length : Int)))) then
  some 4
 else
 jp (S := Unit) (fun _ =>
  jp (S := Unit) (fun _ =>
   some 0) fun k_26 =>
  forL l_1 0 (fun i_34 w_36 s nx_33 k_32 =>
   call (delta_outside w_36.From 0 (IntKind.i64.wrap ((sizes_2.length : Int) - 1))) fun r_37 =>
   callG (!r_37) (delta_outside w_36.To 0 (IntKind.i64.wrap ((sizes_2.length : Int) - 1))) false fun r_38 =>
   bif (r_37 || r_38) then
    some 10
   else
   bif decide (w_36.From = w_36.To) then
    some 2
   else
   call (delta_outside w_36.Cost 0 1000000000) fun r_39 =>
   bif r_39 then
    some 3
   else
   nx_33 ()) () (fun _ =>
   k_26 ())) fun k_12 =>
 forL sizes_2 0 (fun i_45 n_47 s nx_44 k_43 =>
  call (delta_outside n_47 0 1000000000) fun r_48 =>
  bif r_48 then
   some 3
  else
  nx_44 ()) () (fun _ =>
  k_12 ())
noncomputable def cmp_isNaN_int (x_1 : Int) : Option Bool :=
 some (!decide (x_1 = x_1))
noncomputable def cmp_Compare_int (x_1 : Int) (y_2 : Int) : Option Int :=
 call (cmp_isNaN_int x_1) fun r_3 =>
 call (cmp_isNaN_int y_2) fun r_4 =>
 bif r_3 then
  bif r_4 then
   some 0
  else
  some (-1)
 else
 bif r_4 then
  some 1
 else
 bif decide (x_1 < y_2) then
  some (-1)
 else
 bif decide (y_2 < x_1) then
  some 1
 else
 some 0
noncomputable def slices_Compare_int_int (s1_1 : List Int) (s2_2 : List Int) : Option Int :=
 jp (S := Unit) (fun _ =>
  bif decide ((s1_1.length : Int) < (s2_2.length : Int)) then
   some (-1)
  else
  some 0) fun k_14 =>
 forL s1_1 0 (fun i_21 n_23 s nx_20 k_19 =>
  bif decide ((s2_2.length : Int) ≤ (i_21 : Int)) then
   some 1
  else
  idx s2_2 (i_21 : Int) fun n_24 =>
  call (cmp_Compare_int n_23 n_24) fun r_25 =>
  bif !decide (r_25 = 0) then
   some r_25
  else
  nx_20 ()) () (fun _ =>
  k_14 ())
noncomputable def cmp_Or_int (vals_1 : List Int) : Option Int :=
 jp (S := Unit) (fun _ =>
  some 0) fun k_9 =>
 forL vals_1 0 (fun i_14 n_16 s nx_13 k_12 =>
  bif !decide (n_16 = 0) then
   some n_16
  else
  nx_13 ()) () (fun _ =>
  k_9 ())
noncomputable def delta_compareRoutes (a_1 : delta_route) (b_2 : delta_route) : Option Int :=
 call (cmp_Compare_int a_1.cost b_2.cost) fun r_3 =>
 call (cmp_Compare_int (a_1.list.length : Int) (b_2.list.length : Int)) fun r_4 =>
 call (slices_Compare_int_int a_1.list b_2.list) fun r_5 =>
 call (cmp_Or_int [r_3, r_4, r_5]) fun r_6 =>
 some r_6
noncomputable def delta_Best_1_i1 (v_1 : Int) (r_2 : delta_route) (o1_3 : List delta_route) : Option (List delta_route) :=
 chk (0 ≤ v_1 ∧ v_1 < (o1_3.length : Int)) <|
 chk ((!(!((o1_3.getD v_1.toNat (delta_route.mk 0 [] false false)).any))) = true → (0 ≤ v_1 ∧ v_1 < (o1_3.length : Int))) <|
 callG (!(!((o1_3.getD v_1.toNat (delta_route.mk 0 [] false false)).any))) (delta_compareRoutes r_2 (delta_route.mk ((o1_3.getD v_1.toNat (delta_route.mk 0 [] false false)).cost) ((o1_3.getD v_1.toNat (delta_route.mk 0 [] false false)).list) ((o1_3.getD v_1.toNat (delta_route.mk 0 [] false false)).done) ((o1_3.getD v_1.toNat (delta_route.mk 0 [] false false)).any))) 0 fun r_16 =>
 bif ((!((o1_3.getD v_1.toNat (delta_route.mk 0 [] false false)).any)) || (decide (r_16 < 0))) then
  chk (0 ≤ v_1 ∧ v_1 < (o1_3.length : Int)) <|
  some (List.set o1_3 v_1.toNat r_2)
 else
 some o1_3
noncomputable def delta_Best_2_1_i1 (v_1 : Int) (cost_2 : Int) (o0_0_3 : Int) (o2_4 : List delta_route) (o4_0_5 : Int) (o4_1_6 : List Int) (o4_2_7 : Bool) (o4_3_8 : Bool) : Option (List delta_route) :=
 chk ((!decide (v_1 = o0_0_3)) = true → (0 ≤ v_1 ∧ v_1 < (o2_4.length : Int))) <|
 bif ((!decide (v_1 = o0_0_3)) && (!((o2_4.getD v_1.toNat (delta_route.mk 0 [] false false)).done))) then
  chk (0 ≤ (o4_1_6.length : Int) ∧ (o4_1_6.length : Int) ≤ (o4_1_6.length : Int)) <|
  chk (((List.take o4_1_6.length o4_1_6) ++ [v_1]).length ≤ 274877906944 ∧ 0 < [v_1].length) <|
  call (delta_Best_1_i1 v_1 (delta_route.mk (IntKind.i64.wrap (o4_0_5 + cost_2)) ((List.take o4_1_6.length o4_1_6) ++ [v_1]) false true) o2_4) fun r_33 =>
  some r_33
 else
 some o2_4
noncomputable def delta_Best_2_i1 (at_1 : Int) (r_2 : delta_route) (o1_3 : List delta_route) (o3_0_4 : List Int) (o4_0_5 : List api_Way) : Option (List delta_route) :=
 jp (S := List delta_route) (fun o1_60 =>
  forL o4_0_5 0 (fun i_71 w_73 o1_66 nx_70 k_69 =>
   bif decide (w_73.From = at_1) then
    call (delta_Best_2_1_i1 w_73.To w_73.Cost at_1 o1_66 r_2.cost r_2.list r_2.done r_2.any) fun r_74 =>
    nx_70 r_74
   else
   nx_70 o1_66) o1_60 (fun o1_66 =>
   some o1_66)) fun k_61 =>
 forL o3_0_4 0 (fun i_84 n_86 o1_79 nx_83 k_82 =>
  call (delta_Best_2_1_i1 (i_84 : Int) n_86 at_1 o1_79 r_2.cost r_2.list r_2.done r_2.any) fun r_87 =>
  nx_83 r_87) o1_3 (fun o1_79 =>
  k_61 o1_79)
noncomputable def delta_Best (l_1 : List api_Way) (sizes_2 : List Int) (from_3 : Int) (to_4 : Int) : Option (List Int × Int × Int) :=
 call (delta_CheckWays l_1 sizes_2) fun r_5 =>
 bif !decide (r_5 = 0) then
  some ([], 0, r_5)
 else
 letv (IntKind.i64.wrap ((sizes_2.length : Int) - 1)) fun v_6 =>
 call (delta_outside to_4 0 v_6) fun r_8 =>
 callG (!r_8) (delta_outside from_3 (-1) v_6) false fun r_9 =>
 bif (r_8 || r_9) then
  some ([], 0, 10)
 else
 chk (0 ≤ (sizes_2.length : Int) ∧ (sizes_2.length : Int) ≤ (sizes_2.length : Int) ∧ (sizes_2.length : Int) ≤ 274877906944) <|
 letv (List.replicate sizes_2.length (delta_route.mk 0 [] false false)) fun v_11 =>
 jp (S := List delta_route) (fun o2_18 =>
  loopN Fuel (fun o2_160 nx_302 k_301 =>
   jp (S := Int) (fun best_363 =>
    bif ((decide (best_363 < 0)) || (decide (best_363 = to_4))) then
     chk (0 ≤ to_4 ∧ to_4 < (o2_160.length : Int)) <|
     letv ((o2_160.getD to_4.toNat (delta_route.mk 0 [] false false)).list) fun v_366 =>
     chk (0 ≤ to_4 ∧ to_4 < (o2_160.length : Int)) <|
     letv ((o2_160.getD to_4.toNat (delta_route.mk 0 [] false false)).cost) fun v_369 =>
     some (v_366, v_369, 0)
    else
    chk (0 ≤ best_363 ∧ best_363 < (o2_160.length : Int)) <|
    letv (List.set o2_160 best_363.toNat (delta_route.mk ((o2_160.getD best_363.toNat (delta_route.mk 0 [] false false)).cost) ((o2_160.getD best_363.toNat (delta_route.mk 0 [] false false)).list) true ((o2_160.getD best_363.toNat (delta_route.mk 0 [] false false)).any))) fun v_373 =>
    chk (0 ≤ best_363 ∧ best_363 < (v_373.length : Int)) <|
    letv ((v_373.getD best_363.toNat (delta_route.mk 0 [] false false)).cost) fun v_377 =>
    letv ((v_373.getD best_363.toNat (delta_route.mk 0 [] false false)).list) fun v_379 =>
    call (delta_Best_2_i1 best_363 (delta_route.mk v_377 v_379 ((v_373.getD best_363.toNat (delta_route.mk 0 [] false false)).done) ((v_373.getD best_363.toNat (delta_route.mk 0 [] false false)).any)) v_373 sizes_2 l_1) fun r_381 =>
    nx_302 r_381) fun k_364 =>
   forC o2_160.length 0 (fun i_414 best_383 nx_413 k_412 =>
    letv ((o2_160.getD i_414 (delta_route.mk 0 [] false false)).cost) fun v_417 =>
    letv ((o2_160.getD i_414 (delta_route.mk 0 [] false false)).list) fun v_419 =>
    chk (((((o2_160.getD i_414 (delta_route.mk 0 [] false false)).any) && (!((o2_160.getD i_414 (delta_route.mk 0 [] false false)).done))) && (!(decide (best_383 < 0)))) = true → (0 ≤ best_383 ∧ best_383 < (o2_160.length : Int))) <|
    letv ((o2_160.getD best_383.toNat (delta_route.mk 0 [] false false)).cost) fun v_423 =>
    letv ((o2_160.getD best_383.toNat (delta_route.mk 0 [] false false)).list) fun v_425 =>
    callG ((((o2_160.getD i_414 (delta_route.mk 0 [] false false)).any) && (!((o2_160.getD i_414 (delta_route.mk 0 [] false false)).done))) && (!(decide (best_383 < 0)))) (delta_compareRoutes (delta_route.mk v_417 v_419 ((o2_160.getD i_414 (delta_route.mk 0 [] false false)).done) ((o2_160.getD i_414 (delta_route.mk 0 [] false false)).any)) (delta_route.mk v_423 v_425 ((o2_160.getD best_383.toNat (delta_route.mk 0 [] false false)).done) ((o2_160.getD best_383.toNat (delta_route.mk 0 [] false false)).any))) 0 fun r_427 =>
    bif ((((o2_160.getD i_414 (delta_route.mk 0 [] false false)).any) && (!((o2_160.getD i_414 (delta_route.mk 0 [] false false)).done))) && ((decide (best_383 < 0)) || (decide (r_427 < 0)))) then
     nx_413 (i_414 : Int)
    else
    nx_413 best_383) (-1) (fun best_383 =>
    k_364 best_383)) o2_18 (fun o2_160 =>
   none)) fun k_19 =>
 bif decide (from_3 < 0) then
  call (delta_Best_2_i1 (-1) (delta_route.mk 0 [] false false) v_11 sizes_2 l_1) fun r_443 =>
  k_19 r_443
 else
 chk (0 ≤ from_3 ∧ from_3 < (v_11.length : Int)) <|
 letv (List.set v_11 from_3.toNat (delta_route.mk ((v_11.getD from_3.toNat (delta_route.mk 0 [] false false)).cost) ((v_11.getD from_3.toNat (delta_route.mk 0 [] false false)).list) ((v_11.getD from_3.toNat (delta_route.mk 0 [] false false)).done) true)) fun v_445 =>
 k_19 v_445
noncomputable def math_bits_Len64 (x_1 : Int) : Option Int :=
 jp (S := Int × Int) (fun s => match s with
  | (x_2, n_3) =>
   jp (S := Int × Int) (fun s => match s with
    | (x_5, n_6) =>
     bif decide (256 ≤ x_5) then
      idxS ((List.append (List.append [0, 1, 2, 2, 3, 3, 3, 3, 4, 4, 4, 4, 4, 4, 4, 4, 5, 5, 5, 5, 5, 5, 5, 5, 5, 5, 5, 5, 5, 5, 5, 5, 6, 6, 6, 6, 6, 6, 6, 6, 6, 6, 6, 6, 6, 6, 6, 6, 6, 6, 6, 6, 6, 6, 6, 6, 6, 6, 6, 6, 6, 6, 6, 6] [7, 7, 7, 7, 7, 7, 7, 7, 7, 7, 7, 7, 7, 7, 7, 7, 7, 7, 7, 7, 7, 7, 7, 7, 7, 7, 7, 7, 7, 7, 7, 7, 7, 7, 7, 7, 7, 7, 7, 7, 7, 7, 7, 7, 7, 7, 7, 7, 7, 7, 7, 7, 7, 7, 7, 7, 7, 7, 7, 7, 7, 7, 7, 7]) (List.append [8, 8, 8, 8, 8, 8, 8, 8, 8, 8, 8, 8, 8, 8, 8, 8, 8, 8, 8, 8, 8, 8, 8, 8, 8, 8, 8, 8, 8, 8, 8, 8, 8, 8, 8, 8, 8, 8, 8, 8, 8, 8, 8, 8, 8, 8, 8, 8, 8, 8, 8, 8, 8, 8, 8, 8, 8, 8, 8, 8, 8, 8, 8, 8] [8, 8, 8, 8, 8, 8, 8, 8, 8, 8, 8, 8, 8, 8, 8, 8, 8, 8, 8, 8, 8, 8, 8, 8, 8, 8, 8, 8, 8, 8, 8, 8, 8, 8, 8, 8, 8, 8, 8, 8, 8, 8, 8, 8, 8, 8, 8, 8, 8, 8, 8, 8, 8, 8, 8, 8, 8, 8, 8, 8, 8, 8, 8, 8])) : Str) (IntKind.u8.wrap (Int.fdiv x_5 (2 ^ (shI .u64 8)))) fun c_8 =>
      some (IntKind.i64.wrap ((IntKind.i64.wrap (n_6 + 8)) + (IntKind.i64.wrap c_8)))
     else
     idxS ((List.append (List.append [0, 1, 2, 2, 3, 3, 3, 3, 4, 4, 4, 4, 4, 4, 4, 4, 5, 5, 5, 5, 5, 5, 5, 5, 5, 5, 5, 5, 5, 5, 5, 5, 6, 6, 6, 6, 6, 6, 6, 6, 6, 6, 6, 6, 6, 6, 6, 6, 6, 6, 6, 6, 6, 6, 6, 6, 6, 6, 6, 6, 6, 6, 6, 6] [7, 7, 7, 7, 7, 7, 7, 7, 7, 7, 7, 7, 7, 7, 7, 7, 7, 7, 7, 7, 7, 7, 7, 7, 7, 7, 7, 7, 7, 7, 7, 7, 7, 7, 7, 7, 7, 7, 7, 7, 7, 7, 7, 7, 7, 7, 7, 7, 7, 7, 7, 7, 7, 7, 7, 7, 7, 7, 7, 7, 7, 7, 7, 7]) (List.append [8, 8, 8, 8, 8, 8, 8, 8, 8, 8, 8, 8, 8, 8, 8, 8, 8, 8, 8, 8, 8, 8, 8, 8, 8, 8, 8, 8, 8, 8, 8, 8, 8, 8, 8, 8, 8, 8, 8, 8, 8, 8, 8, 8, 8, 8, 8, 8, 8, 8, 8, 8, 8, 8, 8, 8, 8, 8, 8, 8, 8, 8, 8, 8] [8, 8, 8, 8, 8, 8, 8, 8, 8, 8, 8, 8, 8, 8, 8, 8, 8, 8, 8, 8, 8, 8, 8, 8, 8, 8, 8, 8, 8, 8, 8, 8, 8, 8, 8, 8, 8, 8, 8, 8, 8, 8, 8, 8, 8, 8, 8, 8, 8, 8, 8, 8, 8, 8, 8, 8, 8, 8, 8, 8, 8, 8, 8, 8])) : Str) (IntKind.u8.wrap x_5) fun c_9 =>
     some (IntKind.i64.wrap (n_6 + (IntKind.i64.wrap c_9)))) fun k_7 =>
   bif decide (65536 ≤ x_2) then
    k_7 (Int.fdiv x_2 (2 ^ (shI .u64 16)), IntKind.i64.wrap (n_3 + 16))
   else
   k_7 (x_2, n_3)) fun k_4 =>
 bif decide (4294967296 ≤ x_1) then
  k_4 (Int.fdiv x_1 (2 ^ (shI .u64 32)), 32)
 else
 k_4 (x_1, 0)
noncomputable def math_bits_Len (x_1 : Int) : Option Int :=
 call (math_bits_Len64 x_1) fun r_2 =>
 some r_2
noncomputable def cmp_Less_int (x_1 : Int) (y_2 : Int) : Option Bool :=
 call (cmp_isNaN_int x_1) fun r_3 =>
 callG r_3 (cmp_isNaN_int y_2) false fun r_4 =>
 some ((r_3 && (!r_4)) || (decide (x_1 < y_2)))
noncomputable def slices_insertionSortOrdered_int_i1 (a_1 : Int) (b_2 : Int) (o0_3 : List Int) : Option (List Int) :=
 loopN Fuel (fun s nx_673 k_672 =>
  match s with
  | (i_538, o0_539) =>
   bif decide (i_538 < b_2) then
    jp (S := List Int) (fun o0_739 =>
     nx_673 (IntKind.i64.wrap (i_538 + 1), o0_739)) fun k_740 =>
    loopN Fuel (fun s nx_785 k_784 =>
     match s with
     | (j_762, o0_763) =>
      chk ((decide (a_1 < j_762)) = true → (0 ≤ j_762 ∧ j_762 < (o0_763.length : Int))) <|
      chk ((decide (a_1 < j_762)) = true → (0 ≤ IntKind.i64.wrap (j_762 - 1) ∧ IntKind.i64.wrap (j_762 - 1) < (o0_763.length : Int))) <|
      callG (decide (a_1 < j_762)) (cmp_Less_int (o0_763.getD j_762.toNat 0) (o0_763.getD ((IntKind.i64.wrap (j_762 - 1)).toNat) 0)) false fun r_788 =>
      bif ((decide (a_1 < j_762)) && r_788) then
       chk (0 ≤ IntKind.i64.wrap (j_762 - 1) ∧ IntKind.i64.wrap (j_762 - 1) < (o0_763.length : Int)) <|
       chk (0 ≤ j_762 ∧ j_762 < (o0_763.length : Int)) <|
       chk (0 ≤ j_762 ∧ j_762 < (o0_763.length : Int)) <|
       chk (0 ≤ IntKind.i64.wrap (j_762 - 1) ∧ IntKind.i64.wrap (j_762 - 1) < ((List.set o0_763 j_762.toNat (o0_763.getD ((IntKind.i64.wrap (j_762 - 1)).toNat) 0)).length : Int)) <|
       nx_785 (IntKind.i64.wrap (j_762 - 1), List.set (List.set o0_763 j_762.toNat (o0_763.getD ((IntKind.i64.wrap (j_762 - 1)).toNat) 0)) ((IntKind.i64.wrap (j_762 - 1)).toNat) (o0_763.getD j_762.toNat 0))
      else
      k_784 (j_762, o0_763)) (i_538, o0_539) (fun s => match s with
     | (j_762, o0_763) =>
      k_740 o0_763)
   else
   k_672 (i_538, o0_539)) (IntKind.i64.wrap (a_1 + 1), o0_3) (fun s => match s with
  | (i_538, o0_539) =>
   some o0_539)
noncomputable def slices_pdqsortOrdered_int_i1 (a_1 : Int) (b_2 : Int) (limit_3 : Int) (o0_4 : List Int) : Option (List Int) :=
 loopN Fuel (fun s nx_28 k_27 =>
  bif decide ((IntKind.i64.wrap (b_2 - a_1)) ≤ 12) then
   call (slices_insertionSortOrdered_int_i1 a_1 b_2 o0_4) fun r_29 =>
   some r_29
  else
  bif decide (limit_3 = 0) then
   none
  else
  jp (S := Unit) (fun _ =>
   none) fun k_30 =>
  bif !true then
   none
  else
  k_30 ()) () (fun _ =>
  none)
noncomputable def slices_Sort_int_int_i1 (o0_1 : List Int) : Option (List Int) :=
 call (math_bits_Len (IntKind.u64.wrap (o0_1.length : Int))) fun r_4 =>
 call (slices_pdqsortOrdered_int_i1 0 (o0_1.length : Int) r_4 o0_1) fun r_5 =>
 some r_5
noncomputable def R_keysOf_i1 (m0_1 : List (Int × outref1_route)) : Option (List Int) :=
 jp (S := List Int) (fun o2_74 =>
  call (slices_Sort_int_int_i1 o2_74) fun r_76 =>
  some r_76) fun k_75 =>
 forM (fun e_97 o2_85 nx_91 k_90 =>
  chk ((o2_85 ++ [e_97.1]).length ≤ 274877906944) <|
  nx_91 (o2_85 ++ [e_97.1])) m0_1.length m0_1 [] (fun o2_85 =>
  k_75 o2_85)
noncomputable def slices_Clone_int_int_new (s_1 : List Int) : Option (List Int) :=
 anyOf (fun b_5 : Bool => b_5 = true → s_1 = []) fun b_5 =>
 bif b_5 then
  some []
 else
 chk (([] ++ s_1).length ≤ 274877906944) <|
 some ([] ++ s_1)
noncomputable def R_route_less (a_1 : outref1_route) (b_2 : outref1_route) : Option Bool :=
 bif !decide (a_1.cost = b_2.cost) then
  some (decide (a_1.cost < b_2.cost))
 else
 bif !decide ((a_1.steps.length : Int) = (b_2.steps.length : Int)) then
  some (decide ((a_1.steps.length : Int) < (b_2.steps.length : Int)))
 else
 call (slices_Compare_int_int a_1.steps b_2.steps) fun r_3 =>
 some (decide (r_3 < 0))
noncomputable def R_Best_1_i1 (v_1 : Int) (cost_2 : Int) (m1_3 : List (Int × outref1_route)) (o2_0_4 : Int) (o3_0_5 : Bool) : Option ((List (Int × outref1_route)) × Bool) :=
 letv (alook m1_3 o2_0_4) fun q_18 =>
 call (slices_Clone_int_int_new ((q_18.getD (outref1_route.mk 0 [])).steps)) fun r_20 =>
 chk ((r_20 ++ [v_1]).length ≤ 274877906944) <|
 letv (alook m1_3 v_1) fun q_22 =>
 callG (!(!q_22.isSome)) (R_route_less (outref1_route.mk (IntKind.i64.wrap (((q_18.getD (outref1_route.mk 0 [])).cost) + cost_2)) (r_20 ++ [v_1])) (q_22.getD (outref1_route.mk 0 []))) false fun r_24 =>
 bif ((!q_22.isSome) || r_24) then
  chk ((aset m1_3 v_1 (outref1_route.mk (IntKind.i64.wrap (((q_18.getD (outref1_route.mk 0 [])).cost) + cost_2)) (r_20 ++ [v_1]))).length ≤ 274877906944) <|
  some (aset m1_3 v_1 (outref1_route.mk (IntKind.i64.wrap (((q_18.getD (outref1_route.mk 0 [])).cost) + cost_2)) (r_20 ++ [v_1])), true)
 else
 some (m1_3, o3_0_5)
noncomputable def R_Best (l_1 : List api_Way) (sizes_2 : List Int) (from_3 : Int) (to_4 : Int) : Option (List Int × Int × Int) :=
 bif ((((decide (to_4 < 0)) || (decide ((sizes_2.length : Int) ≤ to_4))) || (decide (from_3 < (-1)))) || (decide ((sizes_2.length : Int) ≤ from_3))) then
  some ([], 0, 10)
 else
 chk ((aset [] from_3 (outref1_route.mk 0 [])).length ≤ 274877906944) <|
 jp (S := (List (Int × outref1_route))) (fun m0_1778 =>
  letv (alook m0_1778 to_4) fun q_1780 =>
  some ((q_1780.getD (outref1_route.mk 0 [])).steps, (q_1780.getD (outref1_route.mk 0 [])).cost, 0)) fun k_1779 =>
 loopN Fuel (fun s nx_2963 k_2962 =>
  match s with
  | (m0_2371, o2_0_2372) =>
   bif o2_0_2372 then
    jp (S := (List (Int × outref1_route)) × Bool) (fun s => match s with
     | (m0_3257, o2_0_3258) =>
      nx_2963 (m0_3257, o2_0_3258)) fun k_3259 =>
    call (R_keysOf_i1 m0_2371) fun r_3260 =>
    forL r_3260 0 (fun i_3457 n_3459 s nx_3456 k_3455 =>
     match s with
     | (m0_3358, o2_0_3359) =>
      jp (S := (List (Int × outref1_route)) × Bool) (fun s => match s with
       | (m0_3505, o2_0_3506) =>
        nx_3456 (m0_3505, o2_0_3506)) fun k_3507 =>
      jp (S := (List (Int × outref1_route)) × Bool) (fun s => match s with
       | (m0_3522, o2_0_3523) =>
        forL l_1 0 (fun i_3535 w_3537 s nx_3534 k_3533 =>
         match s with
         | (m0_3529, o2_0_3530) =>
          bif decide (w_3537.From = n_3459) then
           call (R_Best_1_i1 w_3537.To w_3537.Cost m0_3529 n_3459 o2_0_3530) fun r_3538 =>
           nx_3534 (r_3538.1, r_3538.2)
          else
          nx_3534 (m0_3529, o2_0_3530)) (m0_3522, o2_0_3523) (fun s => match s with
         | (m0_3529, o2_0_3530) =>
          k_3507 (m0_3529, o2_0_3530))) fun k_3524 =>
      forL sizes_2 0 (fun i_3549 n_3551 s nx_3548 k_3547 =>
       match s with
       | (m0_3543, o2_0_3544) =>
        bif !decide ((i_3549 : Int) = n_3459) then
         call (R_Best_1_i1 (i_3549 : Int) n_3551 m0_3543 n_3459 o2_0_3544) fun r_3552 =>
         nx_3548 (r_3552.1, r_3552.2)
        else
        nx_3548 (m0_3543, o2_0_3544)) (m0_3358, o2_0_3359) (fun s => match s with
       | (m0_3543, o2_0_3544) =>
        k_3524 (m0_3543, o2_0_3544))) (m0_2371, false) (fun s => match s with
     | (m0_3358, o2_0_3359) =>
      k_3259 (m0_3358, o2_0_3359))
   else
   k_2962 (m0_2371, o2_0_2372)) (aset [] from_3 (outref1_route.mk 0 []), true) (fun s => match s with
  | (m0_2371, o2_0_2372) =>
   k_1779 m0_2371)
noncomputable def slices_Equal_int_int (s1_1 : List Int) (s2_2 : List Int) : Option Bool :=
 bif !decide ((s1_1.length : Int) = (s2_2.length : Int)) then
  some false
 else
 jp (S := Unit) (fun _ =>
  some true) fun k_12 =>
 forL s1_1 0 (fun i_18 n_20 s nx_17 k_16 =>
  idx s2_2 (i_18 : Int) fun n_21 =>
  bif !decide (n_20 = n_21) then
   some false
  else
  nx_17 ()) () (fun _ =>
  k_12 ())
noncomputable def Law_WaysMatch (l_1 : List api_Way) (sizes_2 : List Int) (from_3 : Int) (to_4 : Int) : Option Bool :=
 call (Law_landed) fun r_5 =>
 bif !r_5 then
  some false
 else
 chk (0 ≤ min (l_1.length : Int) 40 ∧ min (l_1.length : Int) 40 ≤ (l_1.length : Int)) <|
 letv (List.take ((min (l_1.length : Int) 40).toNat) l_1) fun v_7 =>
 chk (0 ≤ min (sizes_2.length : Int) 9 ∧ min (sizes_2.length : Int) 9 ≤ (sizes_2.length : Int)) <|
 letv (List.take ((min (sizes_2.length : Int) 9).toNat) sizes_2) fun v_10 =>
 call (R_WaysError v_7 v_10) fun r_12 =>
 call (delta_Best v_7 v_10 from_3 to_4) fun r_13 =>
 call (delta_CheckWays v_7 v_10) fun r_14 =>
 bif !decide (r_14 = r_12) then
  some false
 else
 bif !decide (r_12 = 0) then
  some (((decide (r_13.2.2 = r_12)) && (decide ((r_13.1.length : Int) = 0))) && (decide (r_13.2.1 = 0)))
 else
 call (R_Best v_7 v_10 from_3 to_4) fun r_15 =>
 call (slices_Equal_int_int r_13.1 r_15.1) fun r_16 =>
 some ((r_16 && (decide (r_13.2.1 = r_15.2.1))) && (decide (r_13.2.2 = r_15.2.2)))
end Go.Md
