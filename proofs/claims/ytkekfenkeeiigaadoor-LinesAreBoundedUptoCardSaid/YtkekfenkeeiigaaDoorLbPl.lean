/- Plain lemmas on the models: the law's model answers true. -/
import Derived.Test.YtkekfenkeeiigaaDoorLbMd
set_option linter.unusedSimpArgs false
set_option linter.unusedVariables false
set_option linter.unusedSectionVars false
namespace Go.Md
open Go.Vc
section
variable {Z A S α : Type}
theorem call_some (x : A) (k : A → Option Z) : call (some x) k = k x := rfl
theorem callG_some (g : Bool) (x d : A) (k : A → Option Z) : callG g (some x) d k = k (bif g then x else d) := by cases g <;> rfl
theorem chk_true {p : Prop} [Decidable p] (h : p) (m : Option Z) : chk p m = m := if_pos h
theorem jp_eq (F : S → Option Z) (m : (S → Option Z) → Option Z) : jp F m = m F := rfl
theorem idxS_eq {s : Str} {i : Nat} (h : i < s.length) (k : Int → Option Z) : idxS s i k = k (s[i].toNat : Int) := by
 unfold idxS
 simp [h]
theorem idx_eq {l : List α} {i : Nat} (h : i < l.length) (k : α → Option Z) : idx l i k = k l[i] := by
 unfold idx
 simp [h]
theorem forL_run {f : Nat → α → S → (S → Option Z) → (S → Option Z) → Option Z} {k : S → Option Z} (inv : Nat → List α → S → Prop) (R : Nat → List α → S → Option Z)
  (h0 : ∀ i s, inv i [] s → k s = R i [] s) (h1 : ∀ i x l s nx, inv i (x :: l) s → (∀ s', inv (i + 1) l s' → nx s' = R (i + 1) l s') → f i x s nx k = R i (x :: l) s) :
  ∀ (l : List α) (i : Nat) (s : S), inv i l s → forL l i f s k = R i l s
 | [], i, s, h => h0 i s h
 | x :: l, i, s, h => h1 i x l s _ h fun s' hs => forL_run inv R h0 h1 l (i + 1) s' hs
theorem loopN_run {f : S → (S → Option Z) → (S → Option Z) → Option Z} {k : S → Option Z} (inv : S → Prop) (mu : S → Nat) (R : S → Option Z)
  (h : ∀ s nx, inv s → (∀ s', inv s' → mu s' < mu s → nx s' = R s') → f s nx k = R s) : ∀ (N : Nat) (s : S), inv s → mu s < N → loopN N f s k = R s
 | 0, s, _, hm => by omega
 | N + 1, s, hi, hm => by
  unfold loopN
  exact h s _ hi fun s' hs' hlt => loopN_run inv mu R h N s' hs' (by omega)
theorem bif_t {c : Bool} (h : c = true) (x y : Z) : (bif c then x else y) = x := by rw [h]; rfl
theorem bif_f {c : Bool} (h : c = false) (x y : Z) : (bif c then x else y) = y := by rw [h]; rfl
end
theorem wrapS {n : Int} (h1 : -9223372036854775808 ≤ n) (h2 : n ≤ 9223372036854775807) : IntKind.i64.wrap n = n := wrap64 h1 h2
theorem wrapN (n : Nat) (h : n ≤ 9223372036854775807) : IntKind.i64.wrap (n : Int) = n := wrap64 (by omega) (by omega)
theorem wrap1 (i : Nat) (h : i < 9223372036854775807) : IntKind.i64.wrap ((i : Int) + 1) = ((i + 1 : Nat) : Int) := by rw [wrapS (by omega) (by omega)]; rfl
theorem wrapm1 (i : Nat) (h0 : 0 < i) (h : i < 9223372036854775807) : IntKind.i64.wrap ((i : Int) - 1) = ((i - 1 : Nat) : Int) := by rw [wrapS (by omega) (by omega)]; omega
theorem fuel_ge : 1099511627776 ≤ Fuel := Nat.le_refl _
def cutAt (c : UInt8) : Str → Str × Str × Bool
 | [] => ([], [], false)
 | b :: s => if b = c then ([], s, true) else (b :: (cutAt c s).1, (cutAt c s).2.1, (cutAt c s).2.2)
def splitAt (c : UInt8) : Str → List Str
 | [] => [[]]
 | b :: s => if b = c then [] :: splitAt c s else match splitAt c s with
  | [] => [[b]]
  | h :: t => (b :: h) :: t
theorem cutAt_none {c : UInt8} : ∀ {s : Str}, c ∉ s → cutAt c s = (s, [], false)
 | [], _ => rfl
 | b :: s, h => by
  have hb : b ≠ c := fun e => h (by simp [e])
  have ht := cutAt_none (s := s) (c := c) (fun h' => h (List.mem_cons_of_mem _ h'))
  simp only [cutAt, if_neg hb, ht]
theorem cutAt_some {c : UInt8} : ∀ {s : Str}, c ∈ s → (cutAt c s).2.2 = true ∧ s = (cutAt c s).1 ++ c :: (cutAt c s).2.1 ∧ c ∉ (cutAt c s).1
 | [], h => by cases h
 | b :: s, h => by
  by_cases hb : b = c
  ·subst hb; simp [cutAt]
  ·have hm : c ∈ s := by
    rcases List.mem_cons.1 h with rfl | h
    ·exact absurd rfl hb
    ·exact h
   obtain ⟨h1, h2, h3⟩ := cutAt_some hm
   simp only [cutAt, if_neg hb]
   refine ⟨h1, by rw [List.cons_append, ← h2], ?_⟩
   intro h'
   rcases List.mem_cons.1 h' with rfl | h'
   ·exact hb rfl
   ·exact h3 h'
theorem splitAt_ne (c : UInt8) (s : Str) : splitAt c s ≠ [] := by
 cases s with
 | nil => simp [splitAt]
 | cons b s =>
  simp only [splitAt]
  split
  ·simp
  ·split <;> simp
theorem splitAt_none {c : UInt8} : ∀ {s : Str}, c ∉ s → splitAt c s = [s]
 | [], _ => rfl
 | b :: s, h => by
  have hb : b ≠ c := fun e => h (by simp [e])
  have ht := splitAt_none (s := s) (c := c) (fun h' => h (List.mem_cons_of_mem _ h'))
  simp only [splitAt, if_neg hb, ht]
theorem splitAt_app {c : UInt8} : ∀ {a b : Str}, c ∉ a → splitAt c (a ++ c :: b) = a :: splitAt c b
 | [], b, _ => by simp [splitAt]
 | x :: a, b, h => by
  have hx : x ≠ c := fun e => h (by simp [e])
  have := splitAt_app (a := a) (b := b) (c := c) (fun h' => h (List.mem_cons_of_mem _ h'))
  simp only [List.cons_append, splitAt, if_neg hx, this]
theorem splitAt_cut (c : UInt8) (s : Str) : splitAt c s = if (cutAt c s).2.2 = true then (cutAt c s).1 :: splitAt c (cutAt c s).2.1 else [s] := by
 by_cases h : c ∈ s
 ·obtain ⟨h1, h2, h3⟩ := cutAt_some h
  rw [if_pos h1]
  conv => lhs; rw [h2]
  exact splitAt_app h3
 ·rw [cutAt_none h]
  simpa using splitAt_none h
theorem cutAt_len (c : UInt8) (s : Str) : (cutAt c s).1.length ≤ s.length ∧ (cutAt c s).2.1.length ≤ s.length ∧ ((cutAt c s).2.2 = true → (cutAt c s).1.length + (cutAt c s).2.1.length + 1 = s.length) := by
 by_cases h : c ∈ s
 ·obtain ⟨h1, h2, h3⟩ := cutAt_some h
  have := congrArg List.length h2
  simp only [List.length_append, List.length_cons] at this
  exact ⟨by omega, by omega, fun _ => by omega⟩
 ·rw [cutAt_none h]; simp
theorem splitAt_length (c : UInt8) (s : Str) : (splitAt c s).length = s.count c + 1 := by
 induction s with
 | nil => rfl
 | cons b s ih =>
  simp only [splitAt]
  split
  ·rename_i e; subst e; simp [ih]
  ·rename_i e
   rw [List.count_cons_of_ne (by simpa using e)]
   split
   ·rename_i e'; exact absurd e' (splitAt_ne c s)
   ·rename_i e'; rw [e'] at ih; simpa using ih
def ixb (s : Str) (c : UInt8) : Int := Lib.indexByte s c
theorem ixb_cut (c : UInt8) : ∀ s : Str, ixb s c = if c ∈ s then ((cutAt c s).1.length : Int) else -1
 | [] => rfl
 | b :: s => by
  have ih := ixb_cut c s
  unfold ixb at *
  unfold Lib.indexByte
  by_cases hb : b = c
  ·subst hb; simp [cutAt]
  ·rw [if_neg (by simpa using hb), ih]
   simp only [cutAt, if_neg hb, List.mem_cons, Ne.symm hb, false_or]
   by_cases h : c ∈ s
   ·rw [if_pos h, if_pos h]
    simp
   ·rw [if_neg h, if_neg h]; rfl
theorem ixb_some {c : UInt8} {s : Str} (h : c ∈ s) : ixb s c = ((cutAt c s).1.length : Int) := by rw [ixb_cut, if_pos h]
theorem cutAt_take {c : UInt8} {s : Str} (h : c ∈ s) : s.take (cutAt c s).1.length = (cutAt c s).1 ∧ s.drop ((cutAt c s).1.length + 1) = (cutAt c s).2.1 := by
 obtain ⟨h1, h2, h3⟩ := cutAt_some h
 generalize cutAt c s = q at h2 ⊢
 subst h2
 constructor
 ·exact List.take_left' rfl
 ·rw [← List.drop_drop, List.drop_left' rfl]; rfl
theorem len1 (c : UInt8) : ((([c] : Str).length : Nat) : Int) = 1 := rfl
theorem indexByte_u8 (s : Str) (c : UInt8) : ixByte s (c.toNat : Int) = ixb s c := by
 unfold ixByte ixb
 congr 1
 simp
theorem slite_eq (s : Str) (c : UInt8) : internal_stringslite_Index s [c] = some (ixb s c) := by
 unfold internal_stringslite_Index internal_stringslite_IndexByte
 by_cases h : s = [c]
 ·subst h
  simp [ixb, Lib.indexByte]
 ·have : (decide (([c] : Str) = s)) = false := by simpa using fun e => h e.symm
  simp only [this, len1, show decide ((1 : Int) = 0) = false from rfl, show decide ((1 : Int) = 1) = true from rfl, decide_true, Bool.or_false, cond_false, cond_true]
  show idxS [c] ((0 : Nat) : Int) _ = _
  rw [idxS_eq (by simp)]
  simp only [call_some, List.getElem_cons_zero, indexByte_u8]
theorem index_eq (s : Str) (c : UInt8) : strings_Index s [c] = some (ixb s c) := by
 unfold strings_Index
 rw [slite_eq]; rfl
theorem count_eq (s : Str) (c : UInt8) : strings_Count s [c] = some ((s.count c : Nat) : Int) := by
 unfold strings_Count
 simp only [len1, show decide ((1 : Int) = 0) = false from rfl, show decide ((1 : Int) = 1) = true from rfl, decide_true, cond_false, cond_true]
 show idxS [c] ((0 : Nat) : Int) _ = _
 rw [idxS_eq (by simp)]
 unfold cntByte
 simp
theorem drop_cut_count {c : UInt8} {s : Str} (h : c ∈ s) : (cutAt c s).2.1.count c + 1 = s.count c := by
 obtain ⟨h1, h2, h3⟩ := cutAt_some h
 conv => rhs; rw [h2]
 rw [List.count_append, List.count_eq_zero_of_not_mem h3, List.count_cons_self]
 omega
theorem set_take {α : Type} (l : List α) (i : Nat) (x : α) (h : i < l.length) : (l.set i x).take (i + 1) = l.take i ++ [x] := by
 rw [List.take_succ_eq_append_getElem (by simpa using h)]
 simp [List.take_set_of_le]
theorem copy_np (o : Str) : strings_Builder_copyCheck_np o = some () := rfl
theorem write_eq (s o : Str) (h : (o ++ s).length ≤ 274877906944) : strings_Builder_WriteString_i1 s o = some ((s.length : Int), o ++ s) := by
 unfold strings_Builder_WriteString_i1
 rw [copy_np, call_some, chk_true h]
theorem join_eq (sep a : Str) (l : List Str) (hsep : sep.length ≤ 1) (hl : l.length ≤ 8000000) (hs : a.length + (l.map List.length).sum ≤ 270000000000) : strings_Join (a :: l) sep = some (a ++ (l.map (sep ++ ·)).flatten) := by
 unfold strings_Join
 simp only [jp_eq]
 rw [bif_f (decide_eq_false (by simp; omega))]
 rcases l with _ | ⟨b, l⟩
 ·rw [bif_t (decide_eq_true (show (([a] : List Str).length : Int) = 1 from rfl))]
  show idx [a] ((0 : Nat) : Int) _ = _
  rw [idx_eq (by simp)]
  simp
 rw [bif_f (decide_eq_false (by simp; omega))]
 simp only [List.length_cons] at hl
 have sumloop : ∀ (q : List Str) (i : Nat) (n : Nat) (k : Int → Option Str), n + (q.map List.length).sum ≤ 274877906000 →
   forL q i (fun i_62 s_64 n_57 nx_61 k_60 => bif decide ((IntKind.i64.wrap (9223372036854775807 - n_57)) < (s_64.length : Int)) then none else nx_61 (IntKind.i64.wrap (n_57 + (s_64.length : Int)))) (n : Int) k = k ((n + (q.map List.length).sum : Nat) : Int) := by
  intro q
  induction q with
  | nil => intro i n k h; simp [forL]
  | cons x q ih =>
   intro i n k h
   simp only [List.map_cons, List.sum_cons] at h
   unfold forL
   dsimp only
   rw [wrapS (n := 9223372036854775807 - (n : Int)) (by omega) (by omega), bif_f (decide_eq_false (by omega)), show (n : Int) + (x.length : Int) = ((n + x.length : Nat) : Int) by omega, wrapN _ (by omega)]
   rw [ih (i + 1) (n + x.length) k (by omega)]
   simp only [List.map_cons, List.sum_cons, Nat.add_assoc]
 have wl : ∀ (q : List Str) (i : Nat) (o : Str), q.length ≤ 8000000 → o.length + (q.map List.length).sum + q.length ≤ 274877906944 →
   forL q i (fun i_52 s_54 o1_46 nx_51 k_50 =>
    call (strings_Builder_WriteString_i1 sep o1_46) fun r_55 =>
    call (strings_Builder_WriteString_i1 s_54 r_55.2) fun r_56 =>
    nx_51 r_56.2) o (fun o1_46 => call (strings_Builder_String_i1 o1_46) fun r_39 => some r_39) = some (o ++ (q.map (sep ++ ·)).flatten) := by
  intro q
  induction q with
  | nil => intro i o _ h; simp [forL, strings_Builder_String_i1, call_some]
  | cons x q ih =>
   intro i o h1 h
   simp only [List.map_cons, List.sum_cons, List.length_cons] at h h1
   unfold forL
   dsimp only
   rw [write_eq _ _ (by simp; omega), call_some]
   dsimp only
   rw [write_eq _ _ (by simp; omega), call_some]
   dsimp only
   rw [ih _ _ (by omega) (by simp; omega)]
   simp
 simp only [List.map_cons, List.sum_cons] at hs
 have fin : ∀ n0 : Nat, n0 ≤ 8000001 → forL (a :: b :: l) 0 (fun i_62 s_64 n_57 nx_61 k_60 => bif decide ((IntKind.i64.wrap (9223372036854775807 - n_57)) < (s_64.length : Int)) then none else nx_61 (IntKind.i64.wrap (n_57 + (s_64.length : Int)))) (n0 : Int) (fun n_57 => call (strings_Builder_Grow n_57 []) fun r_17 =>
   idx (a :: b :: l) 0 fun s_18 =>
   call (strings_Builder_WriteString_i1 s_18 []) fun r_19 =>
   chk (0 ≤ 1 ∧ 1 ≤ ((a :: b :: l).length : Int)) <|
   forL (List.drop 1 (a :: b :: l)) 0 (fun i_52 s_54 o1_46 nx_51 k_50 =>
    call (strings_Builder_WriteString_i1 sep o1_46) fun r_55 =>
    call (strings_Builder_WriteString_i1 s_54 r_55.2) fun r_56 =>
    nx_51 r_56.2) r_19.2 (fun o1_46 => call (strings_Builder_String_i1 o1_46) fun r_39 => some r_39)) = some (a ++ ((b :: l).map (sep ++ ·)).flatten) := fun n0 h0 => by
  rw [sumloop (a :: b :: l) 0 n0 _ (by simp; omega)]
  unfold strings_Builder_Grow
  rw [chk_true (by simp; omega), call_some]
  show idx (a :: b :: l) ((0 : Nat) : Int) _ = _
  rw [idx_eq (by simp), List.getElem_cons_zero, write_eq _ _ (by simp; omega), call_some, chk_true (by simp; omega)]
  dsimp only
  rw [List.drop_succ_cons, List.drop_zero, wl (b :: l) 0 _ (by simp; omega) (by simp; omega)]
  simp
 rcases sep with _ | ⟨c, _ | ⟨d, sep⟩⟩
 ·rw [bif_f (by decide)]
  exact fin 0 (by omega)
 ·rw [bif_t (decide_eq_true (by simp))]
  have e1 : IntKind.i64.wrap (((a :: b :: l).length : Int) - 1) = ((l.length + 1 : Nat) : Int) := by rw [List.length_cons, List.length_cons, wrapS (by omega) (by omega)]; omega
  rw [e1, chk_true (by omega)]
  have e2 : 1 < IntKind.i64.wrap (Int.tdiv 9223372036854775807 ((l.length + 1 : Nat) : Int)) := by
   have h1 : Int.tdiv 9223372036854775807 ((l.length + 1 : Nat) : Int) = ((9223372036854775807 / (l.length + 1) : Nat) : Int) := by
    rw [Int.tdiv_eq_ediv_of_nonneg (by decide)]; rfl
   have h2 : 9223372036854775807 / 8000001 ≤ 9223372036854775807 / (l.length + 1) := Nat.div_le_div_left (by omega) (by omega)
   have h3 : 9223372036854775807 / (l.length + 1) ≤ 9223372036854775807 := Nat.div_le_self _ _
   rw [h1, wrapN _ h3]
   have : 2 ≤ 9223372036854775807 / 8000001 := by decide
   omega
  rw [bif_f (decide_eq_false (by simp only [List.length_singleton]; omega))]
  have e3 : IntKind.i64.wrap (0 + (IntKind.i64.wrap ((([c] : Str).length : Int) * ((l.length + 1 : Nat) : Int)))) = ((l.length + 1 : Nat) : Int) := by
   rw [show (([c] : Str).length : Int) = 1 from rfl, Int.one_mul, wrapN _ (by omega), Int.zero_add, wrapN _ (by omega)]
  rw [e3]
  exact fin (l.length + 1) (by omega)
 ·simp at hsep
def aft (c : UInt8) : List Str → List Str
 | [] => []
 | [x] => [x]
 | x :: y :: r => (x ++ [c]) :: aft c (y :: r)
theorem aft_cons (c : UInt8) (x : Str) {l : List Str} (h : l ≠ []) : aft c (x :: l) = (x ++ [c]) :: aft c l := by
 cases l with
 | nil => exact absurd rfl h
 | cons y r => rfl
theorem splitAfter_eq (s : Str) (c : UInt8) (hs : s.length ≤ 17179869184) : strings_SplitAfter s [c] = some (aft c (splitAt c s)) := by
 have hcl := List.count_le_length (a := c) (l := s)
 have key : strings_genSplit s [c] 1 (-1) = some (aft c (splitAt c s)) := by
  unfold strings_genSplit
  obtain ⟨N, hN⟩ : ∃ N, Fuel = N := ⟨_, rfl⟩
  have hN2 : 1099511627776 ≤ N := hN ▸ fuel_ge
  rw [hN]
  clear hN
  have hmin : min ((s.count c + 1 : Nat) : Int) ((s.length + 1 : Nat) : Int) = ((s.count c + 1 : Nat) : Int) := by omega
  simp only [jp_eq, count_eq, call_some, show decide ((-1 : Int) = 0) = false from rfl, show decide ((-1 : Int) < 0) = true from rfl, show decide (([c] : Str) = []) = false from rfl, cond_true, cond_false]
  simp only [wrap1 (s.count c) (by omega), wrap1 s.length (by omega), hmin]
  rw [chk_true (by omega)]
  have hw : IntKind.i64.wrap (((s.count c + 1 : Nat) : Int) - 1) = ((s.count c : Nat) : Int) := by rw [wrapS (by omega) (by omega)]; omega
  simp only [hw, Int.toNat_natCast]
  refine (loopN_run (S := Str × Int × List Str) (fun st => ∃ i : Nat, st.2.1 = i ∧ st.2.2.length = s.count c + 1 ∧ st.1.length ≤ s.length ∧ i + st.1.count c = s.count c) (fun st => s.count c - st.2.1.toNat)
   (fun st => some (st.2.2.take st.2.1.toNat ++ aft c (splitAt c st.1))) ?_ N _ ⟨0, rfl, by simp, Nat.le_refl _, by simp⟩ (by simp only; omega)).trans ?_
  ·rintro ⟨t, i', o⟩ nx ⟨i, rfl, ho, ht, hc⟩ hnx
   simp only at ho ht hc hnx ⊢
   simp only [index_eq, call_some]
   by_cases hi : i < s.count c
   ·have hmem : c ∈ t := by rw [← List.count_pos_iff]; omega
    obtain ⟨h1, h2, h3⟩ := cutAt_some hmem
    have hl := (cutAt_len c t).2.2 h1
    obtain ⟨t1, t2⟩ := cutAt_take hmem
    rw [decide_eq_true (by omega), cond_true, ixb_some hmem, decide_eq_false (by omega), cond_false]
    have hw3 : IntKind.i64.wrap (((cutAt c t).1.length : Int) + 1) = (((cutAt c t).1.length + 1 : Nat) : Int) := wrap1 _ (by omega)
    have hw4 : IntKind.i64.wrap (((cutAt c t).1.length : Int) + (([c] : Str).length : Int)) = (((cutAt c t).1.length + 1 : Nat) : Int) := wrap1 _ (by omega)
    simp only [hw3, hw4, wrap1 i (by omega), Int.toNat_natCast]
    rw [chk_true (by omega), chk_true (by omega), chk_true (by omega)]
    have hdc := drop_cut_count hmem
    have t3 : t.take ((cutAt c t).1.length + 1) = (cutAt c t).1 ++ [c] := by
     have : ∀ a b : Str, (a ++ c :: b).take (a.length + 1) = a ++ [c] := by intro a b; simp [List.take_append]; exact List.take_of_length_le (by omega)
     exact (congrArg (List.take _) h2).trans (this _ _)
    simp only [t3, t2]
    rw [hnx _ ⟨i + 1, rfl, by simpa using ho, by simp only; omega, by simp only; omega⟩ (by simp only [Int.toNat_natCast]; omega)]
    simp only [Int.toNat_natCast]
    rw [set_take o i _ (by omega)]
    congr 1
    rw [show splitAt c t = (cutAt c t).1 :: splitAt c (cutAt c t).2.1 by rw [splitAt_cut, if_pos h1], aft_cons c _ (splitAt_ne c _)]
    simp
   ·obtain rfl : i = s.count c := by omega
    rw [decide_eq_false (by omega), cond_false]
    have hmem : c ∉ t := by rw [← List.count_pos_iff]; omega
    rw [chk_true (by omega), wrap1 _ (by omega)]
    simp only [Int.toNat_natCast, List.length_set]
    rw [chk_true (by omega), set_take o _ _ (by omega), splitAt_none hmem]
    rfl
  ·simp
 unfold strings_SplitAfter
 rw [show ((([c] : Str).length : Nat) : Int) = 1 from rfl, key]; rfl
section
variable {K V : Type} [DecidableEq K]
theorem alook_ne {m : List (K × V)} {p : K × V} {k : K} (h : ¬ p.1 = k) : alook (p :: m) k = alook m k := by rw [alook, decide_eq_false h]; rfl
theorem alook_eq {m : List (K × V)} {p : K × V} {k : K} (h : p.1 = k) : alook (p :: m) k = some p.2 := by rw [alook, decide_eq_true h]; rfl
theorem aset_ne {m : List (K × V)} {p : K × V} {k : K} {v : V} (h : ¬ p.1 = k) : aset (p :: m) k v = p :: aset m k v := by rw [aset, decide_eq_false h]; rfl
theorem alook_aset : ∀ (m : List (K × V)) (k : K) (v : V) (k' : K), alook (aset m k v) k' = if k = k' then some v else alook m k'
 | [], k, v, k' => by
  simp only [aset, alook]
  by_cases h : k = k' <;> simp [h]
 | p :: m, k, v, k' => by
  unfold aset
  by_cases h : p.1 = k
  ·rw [decide_eq_true h, cond_true]
   simp only [alook]
   by_cases h' : k = k'
   ·simp [h']
   ·have : ¬ p.1 = k' := fun e => h' (h ▸ e)
    simp [h', this]
  ·rw [decide_eq_false h, cond_false]
   simp only [alook]
   rw [alook_aset m k v k']
   by_cases h' : k = k'
   ·have : ¬ p.1 = k' := fun e => h (e.trans h'.symm)
    simp [h', this]
   ·simp only [if_neg h']
end
section
theorem idxOf_ne {α : Type} [DecidableEq α] {a b : α} (y : List α) (h : b ≠ a) : (b :: y).idxOf a = y.idxOf a + 1 := by
 simp [List.idxOf_cons, h, beq_false_of_ne h, cond]
variable {α β : Type} [DecidableEq α] [DecidableEq β]
def lc : List α → List α → Nat
 | [], _ => 0
 | _ :: _, [] => 0
 | a :: x, b :: y => if a = b then max (max (lc x (b :: y)) (lc (a :: x) y)) (1 + lc x y) else max (lc x (b :: y)) (lc (a :: x) y)
termination_by x y => x.length + y.length
theorem lc_nil (y : List α) : lc [] y = 0 := by unfold lc; rfl
theorem lc_nilr (x : List α) : lc x [] = 0 := by cases x <;> unfold lc <;> rfl
theorem lc_cons (a : α) (x : List α) (b : α) (y : List α) : lc (a :: x) (b :: y) = if a = b then max (max (lc x (b :: y)) (lc (a :: x) y)) (1 + lc x y) else max (lc x (b :: y)) (lc (a :: x) y) := by rw [lc]
theorem lc_r (x : List α) (b : α) (y : List α) : lc x y ≤ lc x (b :: y) := by
 cases x with
 | nil => rw [lc_nil]; omega
 | cons a x => rw [lc_cons]; split <;> omega
theorem lc_l1 (a : α) (x : List α) : ∀ y : List α, lc (a :: x) y ≤ 1 + lc x y
 | [] => by rw [lc_nilr]; omega
 | b :: y => by
  have := lc_l1 a x y
  have := lc_r x b y
  rw [lc_cons]
  split <;> omega
theorem lc_first (a : α) (x : List α) : ∀ y : List α, lc (a :: x) y = if y.idxOf a < y.length then max (lc x y) (1 + lc x (y.drop (y.idxOf a + 1))) else lc x y
 | [] => by simp [lc_nilr]
 | b :: y => by
  have ih := lc_first a x y
  have h1 := lc_l1 a x y
  have h2 := lc_r x b y
  by_cases e : a = b
  ·subst e
   rw [lc_cons, if_pos rfl, List.idxOf_cons_self, if_pos (by simp)]
   simp only [Nat.zero_add, List.drop_succ_cons, List.drop_zero]
   omega
  ·have hi : (b :: y).idxOf a = y.idxOf a + 1 := idxOf_ne y (Ne.symm e)
   rw [lc_cons, if_neg e, hi, ih]
   simp only [List.length_cons, List.drop_succ_cons]
   by_cases h : y.idxOf a < y.length
   ·rw [if_pos h, if_pos (by omega)]; omega
   ·rw [if_neg h, if_neg (by omega)]; omega
theorem lc_le_l (x : List α) : ∀ y : List α, lc x y ≤ x.length := by
 induction x with
 | nil => intro y; rw [lc_nil]; exact Nat.zero_le _
 | cons a x ih => intro y; have := lc_l1 a x y; have := ih y; simp only [List.length_cons]; omega
def gr : List α → List α → Nat → Nat → List (Nat × Nat)
 | [], _, _, _ => []
 | a :: x, y, i, j => if y.idxOf a < y.length ∧ 1 + lc x (y.drop (y.idxOf a + 1)) = lc (a :: x) y then (i, j + y.idxOf a) :: gr x (y.drop (y.idxOf a + 1)) (i + 1) (j + y.idxOf a + 1) else gr x y (i + 1) j
theorem gr_cons (a : α) (x y : List α) (i j : Nat) : gr (a :: x) y i j = if y.idxOf a < y.length ∧ 1 + lc x (y.drop (y.idxOf a + 1)) = lc (a :: x) y then (i, j + y.idxOf a) :: gr x (y.drop (y.idxOf a + 1)) (i + 1) (j + y.idxOf a + 1) else gr x y (i + 1) j := rfl
theorem idxOf_map (f : α → β) (a : α) : ∀ y : List α, (∀ b ∈ y, f a = f b → a = b) → (y.map f).idxOf (f a) = y.idxOf a
 | [], _ => by simp
 | b :: y, h => by
  by_cases e : a = b
  ·subst e; simp
  ·have hf : f b ≠ f a := fun e2 => e (h b (by simp) e2.symm)
   rw [List.map_cons, idxOf_ne _ hf, idxOf_ne _ (Ne.symm e), idxOf_map f a y fun c hc => h c (by simp [hc])]
theorem lc_map (f : α → β) : ∀ x y : List α, (∀ a ∈ x, ∀ b ∈ y, f a = f b → a = b) → lc (x.map f) (y.map f) = lc x y
 | [], _, _ => by simp [lc_nil]
 | a :: x, y, h => by
  have hi := idxOf_map f a y fun b hb => h a (by simp) b hb
  rw [List.map_cons, lc_first, lc_first, hi, List.length_map, ← List.map_drop, lc_map f x y fun c hc b hb => h c (by simp [hc]) b hb, lc_map f x (y.drop (y.idxOf a + 1)) fun c hc b hb => h c (by simp [hc]) b (List.mem_of_mem_drop hb)]
theorem gr_map (f : α → β) : ∀ (x y : List α) (i j : Nat), (∀ a ∈ x, ∀ b ∈ y, f a = f b → a = b) → gr (x.map f) (y.map f) i j = gr x y i j
 | [], _, _, _, _ => rfl
 | a :: x, y, i, j, h => by
  have hi := idxOf_map f a y fun b hb => h a (by simp) b hb
  have hx : ∀ c ∈ x, ∀ b ∈ y, f c = f b → c = b := fun c hc b hb => h c (by simp [hc]) b hb
  have hd : ∀ c ∈ x, ∀ b ∈ y.drop (y.idxOf a + 1), f c = f b → c = b := fun c hc b hb => hx c hc b (List.mem_of_mem_drop hb)
  have hl := lc_map f (a :: x) y h
  rw [List.map_cons] at hl ⊢
  unfold gr
  rw [hi, List.length_map, ← List.map_drop, lc_map f x _ hd, hl, gr_map f x _ _ _ hd, gr_map f x y _ _ hx]
inductive Up (x y : List α) : Nat → Nat → List (Nat × Nat) → Prop
 | nil (i j : Nat) : Up x y i j []
 | cons {i j p q : Nat} {l : List (Nat × Nat)} (h1 : i ≤ p) (h2 : j ≤ q) (hp : p < x.length) (hq : q < y.length) (he : x[p] = y[q]) (hl : Up x y (p + 1) (q + 1) l) : Up x y i j ((p, q) :: l)
theorem Up.mono {x y : List α} {i j i' j' : Nat} {l : List (Nat × Nat)} (h : Up x y i j l) (h1 : i' ≤ i) (h2 : j' ≤ j) : Up x y i' j' l := by
 cases h with
 | nil => exact .nil _ _
 | cons a b c d e f => exact .cons (by omega) (by omega) c d e f
theorem gr_up (X Y : List α) : ∀ (x y : List α) (i j : Nat), x = X.drop i → y = Y.drop j → Up X Y i j (gr x y i j)
 | [], _, i, j, _, _ => .nil i j
 | a :: x, y, i, j, hx, hy => by
  have hil : i < X.length := by
   apply Nat.lt_of_not_le
   intro h
   rw [List.drop_eq_nil_of_le h] at hx; cases hx
  have hxi : X[i] = a ∧ x = X.drop (i + 1) := by
   rw [List.drop_eq_getElem_cons hil] at hx
   cases hx; exact ⟨rfl, rfl⟩
  unfold gr
  split
  ·rename_i h
   have hq : j + y.idxOf a < Y.length := by
    have := h.1
    rw [hy, List.length_drop] at this
    rw [hy]; omega
   refine .cons (Nat.le_refl _) (by omega) hil hq ?_ ?_
   ·have h3 := List.getElem_idxOf h.1
    refine hxi.1.trans (h3.symm.trans ?_)
    simp only [hy, List.getElem_drop]
   ·exact gr_up X Y x _ _ _ hxi.2 (by rw [hy, List.drop_drop, ← hy]; congr 1)
  ·exact (gr_up X Y x y (i + 1) j hxi.2 hy).mono (by omega) (Nat.le_refl _)
end
def linesP (s : Str) : List Str := bif decide ((aft 10 (splitAt 10 s)).getLast? = some []) then (aft 10 (splitAt 10 s)).dropLast else aft 10 (splitAt 10 s)
theorem aft_len (c : UInt8) : ∀ l : List Str, (aft c l).length = l.length
 | [] => rfl
 | [x] => rfl
 | x :: y :: r => by simp only [aft, List.length_cons, aft_len c (y :: r)]
theorem lines_body (s : Str) (hs : s.length ≤ 17179869184) : (call (strings_SplitAfter s ([10] : Str)) fun r_2 =>
 idx r_2 (IntKind.i64.wrap ((r_2.length : Int) - 1)) fun s_3 =>
 bif decide (s_3 = []) then
  chk (0 ≤ IntKind.i64.wrap ((r_2.length : Int) - 1) ∧ IntKind.i64.wrap ((r_2.length : Int) - 1) ≤ (r_2.length : Int)) <|
  some (List.take ((IntKind.i64.wrap ((r_2.length : Int) - 1)).toNat) r_2)
 else
 some r_2) = some (linesP s) := by
 rw [splitAfter_eq s 10 hs, call_some]
 unfold linesP
 have hl : (aft 10 (splitAt 10 s)).length = s.count 10 + 1 := by rw [aft_len, splitAt_length]
 have hcl := List.count_le_length (a := (10 : UInt8)) (l := s)
 have hne : aft 10 (splitAt 10 s) ≠ [] := fun e => by rw [e] at hl; simp at hl
 generalize aft 10 (splitAt 10 s) = l at *
 rw [wrapm1 l.length (by omega) (by omega), idx_eq (by omega), List.getLast?_eq_getElem?, List.getElem?_eq_getElem (by omega)]
 simp only [Option.some.injEq]
 cases decide (l[l.length - 1] = [])
 ·rfl
 ·simp only [cond_true]
  rw [chk_true (by omega), Int.toNat_natCast, List.dropLast_eq_take]
theorem linesOf_eq (s : Str) (hs : s.length ≤ 17179869184) : delta_linesOf s = some (linesP s) := lines_body s hs
theorem R_linesOf_eq (s : Str) (hs : s.length ≤ 17179869184) : R_linesOf s = some (linesP s) := lines_body s hs
theorem linesP_len (s : Str) : (linesP s).length ≤ s.length + 1 := by
 have hl : (aft 10 (splitAt 10 s)).length = s.count 10 + 1 := by rw [aft_len, splitAt_length]
 have hcl := List.count_le_length (a := (10 : UInt8)) (l := s)
 unfold linesP
 cases decide ((aft 10 (splitAt 10 s)).getLast? = some [])
 ·simp only [cond_false]; omega
 ·simp only [cond_true, List.length_dropLast]; omega
theorem aft_flat (c : UInt8) : ∀ l : List Str, (aft c l).flatten = List.intercalate [c] l
 | [] => rfl
 | [x] => by simp [aft, List.intercalate]
 | x :: y :: r => by
  have := aft_flat c (y :: r)
  simp only [aft, List.flatten_cons, this, List.intercalate, List.intersperse]
  simp
theorem splitAt_join (c : UInt8) : ∀ (n : Nat) (s : Str), s.length ≤ n → List.intercalate [c] (splitAt c s) = s
 | 0, s, h => by
  obtain rfl : s = [] := List.length_eq_zero_iff.1 (by omega)
  rw [splitAt_none (by simp)]; simp [List.intercalate]
 | n + 1, s, h => by
  by_cases hm : c ∈ s
  ·obtain ⟨h1, h2, h3⟩ := cutAt_some hm
   have hl := (cutAt_len c s).2.2 h1
   rw [splitAt_cut, if_pos h1]
   have ih := splitAt_join c n (cutAt c s).2.1 (by omega)
   have hne := splitAt_ne c (cutAt c s).2.1
   generalize splitAt c (cutAt c s).2.1 = q at ih hne
   cases q with
   | nil => exact absurd rfl hne
   | cons y r =>
    simp only [List.intercalate, List.intersperse] at ih ⊢
    rw [List.flatten_cons, List.flatten_cons, ih]
    conv => rhs; rw [h2]
    simp
  ·rw [splitAt_none hm]; simp [List.intercalate]
theorem linesP_flat (s : Str) : (linesP s).flatten = s := by
 have h : (aft 10 (splitAt 10 s)).flatten = s := by rw [aft_flat, splitAt_join 10 s.length s (Nat.le_refl _)]
 unfold linesP
 generalize aft 10 (splitAt 10 s) = l at *
 by_cases e : l.getLast? = some []
 ·rw [decide_eq_true e, cond_true]
  rw [List.getLast?_eq_some_iff] at e
  obtain ⟨q, rfl⟩ := e
  simpa using h
 ·rw [decide_eq_false e, cond_false]; exact h
def Gt (f : Nat → Nat → Int) (n m : Nat) : List (List Int) := (List.range n).map fun i => (List.range m).map (f i)
theorem Gt_len (f : Nat → Nat → Int) (n m : Nat) : (Gt f n m).length = n := by simp [Gt]
theorem Gt_row (f : Nat → Nat → Int) {n m i : Nat} (h : i < n) : (Gt f n m).getD i [] = (List.range m).map (f i) := by simp [Gt, List.getD_eq_getElem?_getD, h]
theorem Gt_rlen (f : Nat → Nat → Int) {n m i : Nat} (h : i < n) : ((Gt f n m).getD i []).length = m := by rw [Gt_row f h]; simp
theorem Gt_get (f : Nat → Nat → Int) {n m i j : Nat} (h : i < n) (h2 : j < m) : ((Gt f n m).getD i []).getD j 0 = f i j := by rw [Gt_row f h]; simp [List.getD_eq_getElem?_getD, h2]
theorem Gt_congr {f g : Nat → Nat → Int} {n m : Nat} (h : ∀ i j, i < n → j < m → f i j = g i j) : Gt f n m = Gt g n m := by
 unfold Gt
 refine List.map_congr_left fun i hi => List.map_congr_left fun j hj => ?_
 exact h i j (List.mem_range.1 hi) (List.mem_range.1 hj)
theorem Gt_set (f : Nat → Nat → Int) {n m i j : Nat} (h : i < n) (h2 : j < m) (v : Int) : List.set (Gt f n m) i (List.set ((Gt f n m).getD i []) j v) = Gt (fun a b => if a = i ∧ b = j then v else f a b) n m := by
 rw [Gt_row f h]
 apply List.ext_getElem
 ·simp [Gt]
 ·intro a h1 h3
  simp only [List.length_set, Gt_len] at h1
  rw [List.getElem_set]
  simp only [Gt, List.getElem_map, List.getElem_range]
  split
  ·rename_i e
   subst e
   apply List.ext_getElem
   ·simp
   ·intro b h4 h5
    rw [List.getElem_set]
    simp only [List.getElem_map, List.getElem_range, true_and]
    by_cases e2 : j = b
    ·subst e2; simp
    ·rw [if_neg e2, if_neg (Ne.symm e2)]
  ·rename_i e
   refine List.map_congr_left fun b _ => ?_
   rw [if_neg fun h => e h.1.symm]
section
variable {α : Type} [DecidableEq α]
def Ft (x y : List α) (i k : Nat) : Nat → Nat → Int := fun a b => if i < a ∨ (a = i ∧ k ≤ b) then ((lc (x.drop a) (y.drop b) : Nat) : Int) else 0
theorem Ft_hi (x y : List α) {i k a b : Nat} (h : i < a ∨ (a = i ∧ k ≤ b)) : Ft x y i k a b = ((lc (x.drop a) (y.drop b) : Nat) : Int) := if_pos h
theorem Ft_ne {x y : List α} {i k : Nat} (hi : i < x.length) (hk : k < y.length) (he : x[i] ≠ y[k]) : Gt (fun a b => if a = i ∧ b = k then max (Ft x y i (k + 1) (i + 1) k) (Ft x y i (k + 1) i (k + 1)) else Ft x y i (k + 1) a b) (x.length + 1) (y.length + 1) = Gt (Ft x y i k) (x.length + 1) (y.length + 1) := by
 refine Gt_congr fun a b ha hb => ?_
 by_cases h : a = i ∧ b = k
 ·obtain ⟨rfl, rfl⟩ := h
  rw [if_pos ⟨rfl, rfl⟩, Ft_hi x y (.inl (by omega)), Ft_hi x y (.inr ⟨rfl, by omega⟩), Ft_hi x y (.inr ⟨rfl, by omega⟩), List.drop_eq_getElem_cons hi, List.drop_eq_getElem_cons hk, lc_cons, if_neg he]
  omega
 ·rw [if_neg h]
  unfold Ft
  by_cases h2 : i < a ∨ (a = i ∧ k + 1 ≤ b)
  ·rw [if_pos h2, if_pos (by omega)]
  ·rw [if_neg h2, if_neg (by omega)]
theorem Ft_eq {x y : List α} {i k : Nat} (hi : i < x.length) (hk : k < y.length) (he : x[i] = y[k]) {g : Nat → Nat → Int} (hg : ∀ a b, g a b = if a = i ∧ b = k then max (Ft x y i (k + 1) (i + 1) k) (Ft x y i (k + 1) i (k + 1)) else Ft x y i (k + 1) a b) :
  Gt (fun a b => if a = i ∧ b = k then max (g i k) (1 + g (i + 1) (k + 1)) else g a b) (x.length + 1) (y.length + 1) = Gt (Ft x y i k) (x.length + 1) (y.length + 1) := by
 refine Gt_congr fun a b ha hb => ?_
 by_cases h : a = i ∧ b = k
 ·obtain ⟨rfl, rfl⟩ := h
  rw [if_pos ⟨rfl, rfl⟩, hg, hg, if_pos ⟨rfl, rfl⟩, if_neg (by omega), Ft_hi x y (.inl (by omega)), Ft_hi x y (.inr ⟨rfl, by omega⟩), Ft_hi x y (.inl (by omega)), Ft_hi x y (.inr ⟨rfl, by omega⟩), List.drop_eq_getElem_cons hi, List.drop_eq_getElem_cons hk, lc_cons, if_pos he]
  omega
 ·rw [if_neg h, hg, if_neg h]
  unfold Ft
  by_cases h2 : i < a ∨ (a = i ∧ k + 1 ≤ b)
  ·rw [if_pos h2, if_pos (by omega)]
  ·rw [if_neg h2, if_neg (by omega)]
theorem Ft_next {x y : List α} {i : Nat} (hi : i ≤ x.length) : Gt (Ft x y (i + 1) 0) (x.length + 1) (y.length + 1) = Gt (Ft x y i y.length) (x.length + 1) (y.length + 1) := by
 refine Gt_congr fun a b ha hb => ?_
 unfold Ft
 by_cases h : i < a
 ·rw [if_pos (by omega), if_pos (by omega)]
 ·rw [if_neg (by omega)]
  by_cases h2 : a = i ∧ y.length ≤ b
  ·rw [if_pos (.inr h2), List.drop_eq_nil_of_le h2.2, lc_nilr]; rfl
  ·rw [if_neg (by omega)]
theorem Ft_start {x y : List α} : Gt (fun _ _ => 0) (x.length + 1) (y.length + 1) = Gt (Ft x y x.length 0) (x.length + 1) (y.length + 1) := by
 refine Gt_congr fun a b ha hb => ?_
 unfold Ft
 by_cases h : x.length < a ∨ (a = x.length ∧ 0 ≤ b)
 ·rw [if_pos h, List.drop_eq_nil_of_le (by omega), lc_nil]; rfl
 ·rw [if_neg h]
theorem Ft_end {x y : List α} {a b : Nat} : Ft x y 0 0 a b = ((lc (x.drop a) (y.drop b) : Nat) : Int) := Ft_hi x y (by omega)
end
def num (m : List (Str × Int)) (s : Str) : Int := (alook m s).getD 0
structure GoodM (m : List (Str × Int)) : Prop where
 bd : ∀ s v, alook m s = some v → 0 ≤ v ∧ v < m.length
 inj : ∀ s t v, alook m s = some v → alook m t = some v → s = t
theorem GoodM.nil : GoodM [] := ⟨fun s v h => by simp [alook] at h, fun s t v h => by simp [alook] at h⟩
theorem aset_new : ∀ (m : List (Str × Int)) (k : Str) (v : Int), alook m k = none → (aset m k v).length = m.length + 1
 | [], k, v, _ => rfl
 | p :: m, k, v, h => by
  by_cases e : p.1 = k
  ·rw [alook_eq e] at h; cases h
  ·rw [alook_ne e] at h
   rw [aset_ne e, List.length_cons, aset_new m k v h, List.length_cons]
theorem GoodM.put {m : List (Str × Int)} (h : GoodM m) {s : Str} (hs : alook m s = none) : GoodM (aset m s m.length) := by
 refine ⟨fun t v ht => ?_, fun t u v ht hu => ?_⟩
 ·rw [alook_aset] at ht
  rw [aset_new m s _ hs]
  split at ht
  ·cases ht; omega
  ·have := h.bd t v ht; omega
 ·rw [alook_aset] at ht hu
  split at ht
  ·rename_i e
   cases ht
   split at hu
   ·rename_i e2; exact e.symm.trans e2
   ·have := h.bd u _ hu; omega
  ·split at hu
   ·cases hu; have := h.bd t _ ht; omega
   ·exact h.inj t u v ht hu
theorem numbered_eq (l : List Str) (m : List (Str × Int)) (hg : GoodM m) (hl : m.length + l.length ≤ 1000000) : ∃ m', delta_numbered_i1 l m = some (l.map (num m'), m') ∧ GoodM m' ∧ (∀ s v, alook m s = some v → alook m' s = some v) ∧ (∀ s ∈ l, (alook m' s).isSome = true) ∧ m'.length ≤ m.length + l.length := by
 have key : ∀ (l : List Str) (i : Nat) (m : List (Str × Int)) (o : List Int), GoodM m → m.length + l.length ≤ 1000000 → o.length + l.length ≤ 1000000 → ∃ m', (forL l i (fun i_116 s_118 s nx_115 k_114 =>
  match s with
  | (m0_105, o1_106) =>
   letv (alook m0_105 s_118) fun q_119 =>
   bif !q_119.isSome then
    chk ((aset m0_105 s_118 (m0_105.length : Int)).length ≤ 274877906944) <|
    chk ((o1_106 ++ [(m0_105.length : Int)]).length ≤ 274877906944) <|
    nx_115 (aset m0_105 s_118 (m0_105.length : Int), o1_106 ++ [(m0_105.length : Int)])
   else
   chk ((o1_106 ++ [(q_119.getD 0)]).length ≤ 274877906944) <|
   nx_115 (m0_105, o1_106 ++ [(q_119.getD 0)])) (m, o) (fun s => match s with
  | (m0_105, o1_106) => some (o1_106, m0_105))) = some (o ++ l.map (num m'), m') ∧ GoodM m' ∧ (∀ s v, alook m s = some v → alook m' s = some v) ∧ (∀ s ∈ l, (alook m' s).isSome = true) ∧ m'.length ≤ m.length + l.length := by
  intro l
  induction l with
  | nil => intro i m o hg _ _; exact ⟨m, by simp [forL], hg, fun _ _ h => h, by simp, by simp⟩
  | cons s l ih =>
   intro i m o hg h1 h2
   simp only [List.length_cons] at h1 h2
   unfold forL
   dsimp only [letv]
   cases hq : alook m s with
   | none =>
    have hln := aset_new m s m.length hq
    obtain ⟨m', e1, e2, e3, e4, e5⟩ := ih (i + 1) (aset m s m.length) (o ++ [(m.length : Int)]) (hg.put hq) (by omega) (by simp; omega)
    refine ⟨m', ?_, e2, fun t v ht => e3 t v ?_, fun t ht => ?_, by simp only [List.length_cons]; omega⟩
    ·simp only [Option.isSome_none, Bool.not_false, cond_true]
     rw [chk_true (by omega), chk_true (by simp; omega)]
     refine e1.trans ?_
     have : num m' s = m.length := by unfold num; rw [e3 s m.length (by rw [alook_aset, if_pos rfl])]; rfl
     simp [this]
    ·rw [alook_aset, if_neg]
     ·exact ht
     ·rintro rfl; rw [hq] at ht; cases ht
    ·rcases List.mem_cons.1 ht with rfl | ht
     ·rw [e3 t m.length (by rw [alook_aset, if_pos rfl])]; rfl
     ·exact e4 t ht
   | some v =>
    obtain ⟨m', e1, e2, e3, e4, e5⟩ := ih (i + 1) m (o ++ [v]) hg (by omega) (by simp; omega)
    refine ⟨m', ?_, e2, e3, fun t ht => ?_, by simp only [List.length_cons]; omega⟩
    ·simp only [Option.isSome_some, Bool.not_true, cond_false, Option.getD_some]
     rw [chk_true (by simp; omega)]
     refine e1.trans ?_
     have : num m' s = v := by unfold num; rw [e3 s v hq]; rfl
     simp [this]
    ·rcases List.mem_cons.1 ht with rfl | ht
     ·rw [e3 t v hq]; rfl
     ·exact e4 t ht
 obtain ⟨m', e1, e2⟩ := key l 0 m [] hg hl (by simp; omega)
 exact ⟨m', by unfold delta_numbered_i1; simp only [jp_eq]; simpa using e1, e2⟩
theorem index_eqI (s : List Int) (v : Int) : slices_Index_int_int s v = some (if s.idxOf v < s.length then (s.idxOf v : Int) else -1) := by
 have key : ∀ (l : List Int) (i : Nat), (forL l i (fun i_15 n_17 s nx_14 k_13 =>
  bif decide (v = n_17) then
   some (i_15 : Int)
  else
  nx_14 ()) () (fun _ => some (-1))) = some (if l.idxOf v < l.length then ((i + l.idxOf v : Nat) : Int) else -1) := by
  intro l
  induction l with
  | nil => intro i; simp [forL]
  | cons x l ih =>
   intro i
   unfold forL
   dsimp only
   by_cases e : v = x
   ·subst e; simp
   ·rw [decide_eq_false e, cond_false, ih, idxOf_ne l (Ne.symm e)]
    simp only [List.length_cons, Nat.add_lt_add_iff_right]
    congr 2
    omega
 have := key s 0
 unfold slices_Index_int_int
 simp only [jp_eq]
 simpa using this
def toA (l : List (Nat × Nat)) : List Arr2_Int := l.map fun p => ⟨p.1, p.2⟩
theorem tab_init {α Z : Type} [DecidableEq α] (a b : List α) (hxl : a.length ≤ 100000) (hyl : b.length ≤ 100000) (N : Nat) (hN2 : 1099511627776 ≤ N) (K : List (List Int) → Option Z) :
  loopN N (fun s nx_1527 k_1526 =>
  match s with
  | (t29_1518, o1_1519) =>
   bif decide (t29_1518 < ((List.replicate ((IntKind.i64.wrap ((a.length : Int) + 1)).toNat) ([] : List Int)).length : Int)) then
    chk (0 ≤ IntKind.i64.wrap ((b.length : Int) + 1) ∧ IntKind.i64.wrap ((b.length : Int) + 1) ≤ IntKind.i64.wrap ((b.length : Int) + 1) ∧ IntKind.i64.wrap ((b.length : Int) + 1) ≤ 274877906944) <|
    chk (0 ≤ t29_1518 ∧ t29_1518 < (o1_1519.length : Int)) <|
    letv (List.set o1_1519 t29_1518.toNat (List.replicate ((IntKind.i64.wrap ((b.length : Int) + 1)).toNat) (0 : Int))) fun v_1531 =>
    nx_1527 (IntKind.i64.wrap (t29_1518 + 1), v_1531)
   else
   k_1526 (t29_1518, o1_1519)) ((0 : Int), List.replicate ((IntKind.i64.wrap ((a.length : Int) + 1)).toNat) ([] : List Int)) (fun s => match s with
  | (t29_1518, o1_1519) =>
   K o1_1519) = K (Gt (Ft a b a.length 0) (a.length + 1) (b.length + 1)) := by
 rw [wrap1 a.length (by omega), wrap1 b.length (by omega)]
 simp only [Int.toNat_natCast]
 refine loopN_run (S := Int × List (List Int)) (fun s => ∃ t : Nat, s.1 = t ∧ t ≤ a.length + 1 ∧ s.2 = (List.range (a.length + 1)).map fun p => if p < t then List.replicate (b.length + 1) 0 else []) (fun s => a.length + 1 - s.1.toNat) (fun _ => K (Gt (Ft a b a.length 0) (a.length + 1) (b.length + 1))) ?_ N _ ⟨0, rfl, by omega, by simp [List.map_const']⟩ (by simp only; omega)
 rintro ⟨t', o⟩ nx ⟨t, rfl, ht, rfl⟩ hnx
 dsimp only [letv]
 by_cases h : t < a.length + 1
 ·rw [decide_eq_true (by simp; omega), cond_true, chk_true (by omega), chk_true (by simp; omega), wrap1 t (by omega)]
  refine hnx (_, _) ⟨t + 1, rfl, by omega, ?_⟩ (by simp only [Int.toNat_natCast]; omega)
  apply List.ext_getElem
  ·simp
  ·intro p h1 h2
   rw [List.getElem_set]
   simp only [List.getElem_map, List.getElem_range, Int.toNat_natCast]
   by_cases e : t = p
   ·subst e; simp
   ·rw [if_neg e]
    by_cases h3 : p < t
    ·rw [if_pos h3, if_pos (by omega)]
    ·rw [if_neg h3, if_neg (by omega)]
 rw [decide_eq_false (by simp; omega), cond_false]
 obtain rfl : t = a.length + 1 := by omega
 have h0 : ((List.range (a.length + 1)).map fun p => if p < a.length + 1 then List.replicate (b.length + 1) (0 : Int) else []) = Gt (Ft a b a.length 0) (a.length + 1) (b.length + 1) := by
  rw [← Ft_start]
  unfold Gt
  refine List.map_congr_left fun p hp => ?_
  rw [if_pos (List.mem_range.1 hp)]
  simp [List.map_const']
 rw [h0]
theorem tab_row {α Z : Type} [DecidableEq α] (a b : List α) (hxl : a.length ≤ 100000) (hyl : b.length ≤ 100000) (N : Nat) (hN2 : 1099511627776 ≤ N) (i : Nat) (hil : i < a.length) (K : List (List Int) → Option Z) :
  loopN N (fun s nx_1478 k_1477 =>
      match s with
      | (k_1443, o1_1444) =>
       bif decide (0 ≤ k_1443) then
        chk (0 ≤ (i : Int) ∧ (i : Int) < (o1_1444.length : Int)) <|
        chk (0 ≤ IntKind.i64.wrap ((i : Int) + 1) ∧ IntKind.i64.wrap ((i : Int) + 1) < (o1_1444.length : Int)) <|
        chk (0 ≤ k_1443 ∧ k_1443 < ((o1_1444.getD ((IntKind.i64.wrap ((i : Int) + 1)).toNat) []).length : Int)) <|
        chk (0 ≤ (i : Int) ∧ (i : Int) < (o1_1444.length : Int)) <|
        chk (0 ≤ IntKind.i64.wrap (k_1443 + 1) ∧ IntKind.i64.wrap (k_1443 + 1) < ((o1_1444.getD (i : Int).toNat []).length : Int)) <|
        chk (0 ≤ k_1443 ∧ k_1443 < ((o1_1444.getD (i : Int).toNat []).length : Int)) <|
        letv (List.set o1_1444 (i : Int).toNat (List.set (o1_1444.getD (i : Int).toNat []) k_1443.toNat (max ((o1_1444.getD ((IntKind.i64.wrap ((i : Int) + 1)).toNat) []).getD k_1443.toNat 0) ((o1_1444.getD (i : Int).toNat []).getD ((IntKind.i64.wrap (k_1443 + 1)).toNat) 0)))) fun v_1486 =>
        idx a (i : Int) fun n_1494 =>
        idx b k_1443 fun n_1495 =>
        bif decide (n_1494 = n_1495) then
         chk (0 ≤ (i : Int) ∧ (i : Int) < (v_1486.length : Int)) <|
         chk (0 ≤ (i : Int) ∧ (i : Int) < (v_1486.length : Int)) <|
         chk (0 ≤ k_1443 ∧ k_1443 < ((v_1486.getD (i : Int).toNat []).length : Int)) <|
         chk (0 ≤ IntKind.i64.wrap ((i : Int) + 1) ∧ IntKind.i64.wrap ((i : Int) + 1) < (v_1486.length : Int)) <|
         chk (0 ≤ IntKind.i64.wrap (k_1443 + 1) ∧ IntKind.i64.wrap (k_1443 + 1) < ((v_1486.getD ((IntKind.i64.wrap ((i : Int) + 1)).toNat) []).length : Int)) <|
         chk (0 ≤ k_1443 ∧ k_1443 < ((v_1486.getD (i : Int).toNat []).length : Int)) <|
         letv (List.set v_1486 (i : Int).toNat (List.set (v_1486.getD (i : Int).toNat []) k_1443.toNat (max ((v_1486.getD (i : Int).toNat []).getD k_1443.toNat 0) (IntKind.i64.wrap (1 + ((v_1486.getD ((IntKind.i64.wrap ((i : Int) + 1)).toNat) []).getD ((IntKind.i64.wrap (k_1443 + 1)).toNat) 0)))))) fun v_1503 =>
         nx_1478 (IntKind.i64.wrap (k_1443 - 1), v_1503)
        else
        nx_1478 (IntKind.i64.wrap (k_1443 - 1), v_1486)
       else
       k_1477 (k_1443, o1_1444)) (IntKind.i64.wrap ((b.length : Int) - 1), Gt (Ft a b i b.length) (a.length + 1) (b.length + 1)) (fun s => match s with
      | (k_1443, o1_1444) => K o1_1444) = K (Gt (Ft a b i 0) (a.length + 1) (b.length + 1)) := by
 have hwb : IntKind.i64.wrap ((b.length : Int) - 1) = (b.length : Int) - 1 := wrapS (by omega) (by omega)
 rw [hwb]
 refine loopN_run (S := Int × List (List Int)) (fun s => ∃ k : Nat, s.1 = (k : Int) - 1 ∧ k ≤ b.length ∧ s.2 = Gt (Ft a b i k) (a.length + 1) (b.length + 1)) (fun s => (s.1 + 1).toNat) (fun _ => K (Gt (Ft a b i 0) (a.length + 1) (b.length + 1))) ?_ N _ ⟨b.length, rfl, Nat.le_refl _, rfl⟩ (by simp only; omega)
 rintro ⟨k', o⟩ nx2 ⟨k, rfl, hk, rfl⟩ hnx2
 dsimp only [letv]
 cases k with
 | succ k =>
  have e2 : ((k + 1 : Nat) : Int) - 1 = (k : Nat) := by omega
  rw [e2] at hnx2 ⊢
  have hkl : k < b.length := by omega
  have e3 : IntKind.i64.wrap ((i : Int) + 1) = ((i + 1 : Nat) : Int) := wrap1 i (by omega)
  have e4 : IntKind.i64.wrap ((k : Int) + 1) = ((k + 1 : Nat) : Int) := wrap1 k (by omega)
  have e5 : IntKind.i64.wrap ((k : Int) - 1) = (k : Int) - 1 := wrapS (by omega) (by omega)
  rw [decide_eq_true (by omega), cond_true]
  simp only [e3, e4, e5, Int.toNat_natCast, Gt_len]
  rw [chk_true (by omega), chk_true (by omega), chk_true (by rw [Gt_rlen _ (by omega)]; omega), chk_true (by omega), chk_true (by rw [Gt_rlen _ (by omega)]; omega), chk_true (by rw [Gt_rlen _ (by omega)]; omega)]
  rw [Gt_get _ (by omega) (by omega), Gt_get _ (by omega) (by omega), Gt_set _ (by omega) (by omega), idx_eq hil, idx_eq hkl]
  by_cases he : a[i] = b[k]
  ·rw [decide_eq_true he, cond_true]
   simp only [Gt_len]
   rw [chk_true (by omega), chk_true (by omega), chk_true (by rw [Gt_rlen _ (by omega)]; omega), chk_true (by omega), chk_true (by rw [Gt_rlen _ (by omega)]; omega), chk_true (by rw [Gt_rlen _ (by omega)]; omega)]
   rw [Gt_get _ (by omega) (by omega), Gt_get _ (by omega) (by omega)]
   have hb2 : (if i + 1 = i ∧ k + 1 = k then max (Ft a b i (k + 1) (i + 1) k) (Ft a b i (k + 1) i (k + 1)) else Ft a b i (k + 1) (i + 1) (k + 1)) = ((lc (a.drop (i + 1)) (b.drop (k + 1)) : Nat) : Int) := by
    rw [if_neg (by omega)]; exact Ft_hi a b (.inl (by omega))
   have hle := lc_le_l (a.drop (i + 1)) (b.drop (k + 1))
   simp only [List.length_drop] at hle
   rw [hb2, wrapS (by omega) (by omega), ← hb2, Gt_set _ (by omega) (by omega)]
   have := Ft_eq (g := fun c d => if c = i ∧ d = k then max (Ft a b i (k + 1) (i + 1) k) (Ft a b i (k + 1) i (k + 1)) else Ft a b i (k + 1) c d) hil hkl he fun _ _ => rfl
   exact hnx2 (_, _) ⟨k, rfl, by omega, this⟩ (by simp only; omega)
  ·rw [decide_eq_false he, cond_false]
   exact hnx2 (_, _) ⟨k, rfl, by omega, Ft_ne hil hkl he⟩ (by simp only; omega)
 | zero => rw [decide_eq_false (by omega), cond_false]
theorem tab_all {α Z : Type} [DecidableEq α] (a b : List α) (hxl : a.length ≤ 100000) (hyl : b.length ≤ 100000) (N : Nat) (hN2 : 1099511627776 ≤ N) (K : List (List Int) → Option Z) :
  loopN N (fun s nx_1306 k_1305 =>
   match s with
   | (i_1099, o1_1100) =>
    bif decide (0 ≤ i_1099) then
     jp (S := List (List Int)) (fun o1_1408 =>
      nx_1306 (IntKind.i64.wrap (i_1099 - 1), o1_1408)) fun k_1409 =>
     loopN N (fun s nx_1478 k_1477 =>
      match s with
      | (k_1443, o1_1444) =>
       bif decide (0 ≤ k_1443) then
        chk (0 ≤ i_1099 ∧ i_1099 < (o1_1444.length : Int)) <|
        chk (0 ≤ IntKind.i64.wrap (i_1099 + 1) ∧ IntKind.i64.wrap (i_1099 + 1) < (o1_1444.length : Int)) <|
        chk (0 ≤ k_1443 ∧ k_1443 < ((o1_1444.getD ((IntKind.i64.wrap (i_1099 + 1)).toNat) []).length : Int)) <|
        chk (0 ≤ i_1099 ∧ i_1099 < (o1_1444.length : Int)) <|
        chk (0 ≤ IntKind.i64.wrap (k_1443 + 1) ∧ IntKind.i64.wrap (k_1443 + 1) < ((o1_1444.getD i_1099.toNat []).length : Int)) <|
        chk (0 ≤ k_1443 ∧ k_1443 < ((o1_1444.getD i_1099.toNat []).length : Int)) <|
        letv (List.set o1_1444 i_1099.toNat (List.set (o1_1444.getD i_1099.toNat []) k_1443.toNat (max ((o1_1444.getD ((IntKind.i64.wrap (i_1099 + 1)).toNat) []).getD k_1443.toNat 0) ((o1_1444.getD i_1099.toNat []).getD ((IntKind.i64.wrap (k_1443 + 1)).toNat) 0)))) fun v_1486 =>
        idx a i_1099 fun n_1494 =>
        idx b k_1443 fun n_1495 =>
        bif decide (n_1494 = n_1495) then
         chk (0 ≤ i_1099 ∧ i_1099 < (v_1486.length : Int)) <|
         chk (0 ≤ i_1099 ∧ i_1099 < (v_1486.length : Int)) <|
         chk (0 ≤ k_1443 ∧ k_1443 < ((v_1486.getD i_1099.toNat []).length : Int)) <|
         chk (0 ≤ IntKind.i64.wrap (i_1099 + 1) ∧ IntKind.i64.wrap (i_1099 + 1) < (v_1486.length : Int)) <|
         chk (0 ≤ IntKind.i64.wrap (k_1443 + 1) ∧ IntKind.i64.wrap (k_1443 + 1) < ((v_1486.getD ((IntKind.i64.wrap (i_1099 + 1)).toNat) []).length : Int)) <|
         chk (0 ≤ k_1443 ∧ k_1443 < ((v_1486.getD i_1099.toNat []).length : Int)) <|
         letv (List.set v_1486 i_1099.toNat (List.set (v_1486.getD i_1099.toNat []) k_1443.toNat (max ((v_1486.getD i_1099.toNat []).getD k_1443.toNat 0) (IntKind.i64.wrap (1 + ((v_1486.getD ((IntKind.i64.wrap (i_1099 + 1)).toNat) []).getD ((IntKind.i64.wrap (k_1443 + 1)).toNat) 0)))))) fun v_1503 =>
         nx_1478 (IntKind.i64.wrap (k_1443 - 1), v_1503)
        else
        nx_1478 (IntKind.i64.wrap (k_1443 - 1), v_1486)
       else
       k_1477 (k_1443, o1_1444)) (IntKind.i64.wrap ((b.length : Int) - 1), o1_1100) (fun s => match s with
      | (k_1443, o1_1444) => k_1409 o1_1444)
    else
    k_1305 (i_1099, o1_1100)) (IntKind.i64.wrap ((a.length : Int) - 1), Gt (Ft a b a.length 0) (a.length + 1) (b.length + 1)) (fun s => match s with
   | (i_1099, o1_1100) => K o1_1100) = K (Gt (Ft a b 0 0) (a.length + 1) (b.length + 1)) := by
 have hw : IntKind.i64.wrap ((a.length : Int) - 1) = (a.length : Int) - 1 := wrapS (by omega) (by omega)
 rw [hw]
 refine loopN_run (S := Int × List (List Int)) (fun s => ∃ i : Nat, s.1 = (i : Int) - 1 ∧ i ≤ a.length ∧ s.2 = Gt (Ft a b i 0) (a.length + 1) (b.length + 1)) (fun s => (s.1 + 1).toNat) (fun _ => K (Gt (Ft a b 0 0) (a.length + 1) (b.length + 1))) ?_ N _ ⟨a.length, rfl, Nat.le_refl _, rfl⟩ (by simp only; omega)
 rintro ⟨i', o⟩ nx ⟨i, rfl, hi, rfl⟩ hnx
 dsimp only
 cases i with
 | succ i =>
  have e1 : ((i + 1 : Nat) : Int) - 1 = (i : Nat) := by omega
  rw [e1] at hnx ⊢
  rw [decide_eq_true (by omega), cond_true, Ft_next (by omega), jp_eq]
  refine (tab_row a b hxl hyl N hN2 i (by omega) fun o => nx (IntKind.i64.wrap ((i : Int) - 1), o)).trans ?_
  refine hnx (_, _) ⟨i, wrapS (by omega) (by omega), by omega, rfl⟩ ?_
  simp only
  rw [wrapS (by omega) (by omega)]; omega
 | zero => rw [decide_eq_false (by omega), cond_false]
theorem common_main (a b : List Int) (hxl : a.length ≤ 100000) (hyl : b.length ≤ 100000) : ∀ (l : List Int) (i : Nat) (s : Int × List Arr2_Int), (l = a.drop i ∧ i ≤ a.length ∧ ∃ k : Nat, s.1 = k ∧ k ≤ b.length ∧ s.2.length ≤ i) → forL l i (fun i_855 n_857 s nx_854 k_853 =>
  match s with
  | (k_813, o3_815) =>
   chk (0 ≤ k_813 ∧ k_813 ≤ (b.length : Int)) <|
   call (slices_Index_int_int (List.drop k_813.toNat b) n_857) fun r_859 =>
   chk ((!(decide (r_859 < 0))) = true → (0 ≤ IntKind.i64.wrap ((i_855 : Int) + 1) ∧ IntKind.i64.wrap ((i_855 : Int) + 1) < ((Gt (Ft a b 0 0) (a.length + 1) (b.length + 1)).length : Int))) <|
   chk ((!(decide (r_859 < 0))) = true → (0 ≤ IntKind.i64.wrap ((IntKind.i64.wrap (k_813 + r_859)) + 1) ∧ IntKind.i64.wrap ((IntKind.i64.wrap (k_813 + r_859)) + 1) < (((Gt (Ft a b 0 0) (a.length + 1) (b.length + 1)).getD ((IntKind.i64.wrap ((i_855 : Int) + 1)).toNat) []).length : Int))) <|
   chk ((!(decide (r_859 < 0))) = true → (0 ≤ (i_855 : Int) ∧ (i_855 : Int) < ((Gt (Ft a b 0 0) (a.length + 1) (b.length + 1)).length : Int))) <|
   chk ((!(decide (r_859 < 0))) = true → (0 ≤ k_813 ∧ k_813 < (((Gt (Ft a b 0 0) (a.length + 1) (b.length + 1)).getD i_855 []).length : Int))) <|
   bif ((decide (r_859 < 0)) || (!decide ((IntKind.i64.wrap (1 + (((Gt (Ft a b 0 0) (a.length + 1) (b.length + 1)).getD ((IntKind.i64.wrap ((i_855 : Int) + 1)).toNat) []).getD ((IntKind.i64.wrap ((IntKind.i64.wrap (k_813 + r_859)) + 1)).toNat) 0))) = (((Gt (Ft a b 0 0) (a.length + 1) (b.length + 1)).getD i_855 []).getD k_813.toNat 0)))) then
    nx_854 (k_813, o3_815)
   else
   chk ((o3_815 ++ [(Arr2_Int.mk (i_855 : Int) (IntKind.i64.wrap (k_813 + r_859)))]).length ≤ 274877906944) <|
   nx_854 (IntKind.i64.wrap (k_813 + (IntKind.i64.wrap (r_859 + 1))), o3_815 ++ [(Arr2_Int.mk (i_855 : Int) (IntKind.i64.wrap (k_813 + r_859)))])) s (fun s => match s with
  | (k_813, o3_815) => some o3_815) = some (s.2 ++ toA (gr l (b.drop s.1.toNat) i s.1.toNat)) := by
 refine forL_run (S := Int × List Arr2_Int) (fun i l s => l = a.drop i ∧ i ≤ a.length ∧ ∃ k : Nat, s.1 = k ∧ k ≤ b.length ∧ s.2.length ≤ i) (fun i l s => some (s.2 ++ toA (gr l (b.drop s.1.toNat) i s.1.toNat))) ?_ ?_
 ·rintro i ⟨k', o⟩ _; simp [gr, toA]
 ·rintro i c l ⟨k', o⟩ nx ⟨hl, hia, k, rfl, hk, ho⟩ hnx
  have hil : i < a.length := by
   apply Nat.lt_of_not_le
   intro h
   rw [List.drop_eq_nil_of_le h] at hl; cases hl
  have hl2 : l = a.drop (i + 1) ∧ c :: l = a.drop i := by
   rw [List.drop_eq_getElem_cons hil] at hl; cases hl
   exact ⟨rfl, (List.drop_eq_getElem_cons hil).symm⟩
  dsimp only at ho ⊢
  rw [chk_true (by omega), Int.toNat_natCast, index_eqI, call_some, wrap1 i (by omega)]
  simp only [Int.toNat_natCast, Gt_len]
  have hj := List.idxOf_le_length (a := c) (l := b.drop k)
  by_cases h : (b.drop k).idxOf c < (b.drop k).length
  ·have hlen : (b.drop k).length = b.length - k := List.length_drop ..
   rw [if_pos h]
   generalize hjj : (b.drop k).idxOf c = j at h hj
   rw [show (k : Int) + (j : Int) = ((k + j : Nat) : Int) by omega, wrapN (k + j) (by omega), wrap1 (k + j) (by omega), wrap1 j (by omega), show (k : Int) + ((j + 1 : Nat) : Int) = ((k + j + 1 : Nat) : Int) by omega, wrapN (k + j + 1) (by omega)]
   simp only [Int.toNat_natCast]
   rw [chk_true (fun _ => by omega), chk_true (fun _ => by rw [Gt_rlen _ (by omega)]; omega), chk_true (fun _ => by omega), chk_true (fun _ => by rw [Gt_rlen _ (by omega)]; omega)]
   have q1 := Gt_get (Ft a b 0 0) (n := a.length + 1) (m := b.length + 1) (i := i + 1) (j := k + j + 1) (by omega) (by omega)
   have q2 := Gt_get (Ft a b 0 0) (n := a.length + 1) (m := b.length + 1) (i := i) (j := k) (by omega) (by omega)
   rw [Ft_end] at q1 q2
   simp only [q1, q2]
   rw [decide_eq_false (by omega), Bool.false_or]
   have hle := lc_le_l (a.drop (i + 1)) (b.drop (k + j + 1))
   simp only [List.length_drop] at hle
   rw [wrapS (by omega) (by omega)]
   rw [gr_cons, hjj, hl2.2, hl2.1, List.drop_drop, show k + (j + 1) = k + j + 1 by omega]
   by_cases h5 : 1 + lc (a.drop (i + 1)) (b.drop (k + j + 1)) = lc (a.drop i) (b.drop k)
   ·rw [decide_eq_true (by omega), Bool.not_true, cond_false, chk_true (by simp; omega), if_pos ⟨h, h5⟩, hnx (_, _) ⟨hl2.1, by omega, k + j + 1, rfl, by omega, by simp; omega⟩]
    simp only [Int.toNat_natCast]
    simp [toA, hl2.1]
   ·rw [decide_eq_false (by omega), Bool.not_false, cond_true, if_neg (fun h => h5 h.2), hnx (_, _) ⟨hl2.1, by omega, k, rfl, by omega, by simp only; omega⟩]
    simp [hl2.1]
  ·rw [if_neg h]
   simp only [show decide ((-1 : Int) < 0) = true from rfl, Bool.not_true, Bool.true_or, cond_true, Bool.false_eq_true, false_implies]
   rw [chk_true trivial, chk_true trivial, chk_true trivial, chk_true trivial, hnx (_, _) ⟨hl2.1, by omega, k, rfl, by omega, by simp only; omega⟩]
   rw [gr_cons, if_neg (fun h2 => h h2.1)]
   simp
theorem letv_eq {A Z : Type} (a : A) (k : A → Option Z) : letv a k = k a := rfl
theorem common_rest (a b : List Int) (hxl : a.length ≤ 100000) (hyl : b.length ≤ 100000) : (
 chk (0 ≤ IntKind.i64.wrap ((a.length : Int) + 1) ∧ IntKind.i64.wrap ((a.length : Int) + 1) ≤ IntKind.i64.wrap ((a.length : Int) + 1) ∧ IntKind.i64.wrap ((a.length : Int) + 1) ≤ 274877906944) <|
 letv (List.replicate ((IntKind.i64.wrap ((a.length : Int) + 1)).toNat) []) fun v_6 =>
 jp (S := List (List Int)) (fun o1_31 =>
  jp (S := List (List Int)) (fun o1_650 =>
   jp (S := List Arr2_Int) (fun o3_772 =>
    some o3_772) fun k_773 =>
   forL a 0 (fun i_855 n_857 s nx_854 k_853 =>
    match s with
    | (k_813, o3_815) =>
     chk (0 ≤ k_813 ∧ k_813 ≤ (b.length : Int)) <|
     call (slices_Index_int_int (List.drop k_813.toNat b) n_857) fun r_859 =>
     chk ((!(decide (r_859 < 0))) = true → (0 ≤ IntKind.i64.wrap ((i_855 : Int) + 1) ∧ IntKind.i64.wrap ((i_855 : Int) + 1) < (o1_650.length : Int))) <|
     chk ((!(decide (r_859 < 0))) = true → (0 ≤ IntKind.i64.wrap ((IntKind.i64.wrap (k_813 + r_859)) + 1) ∧ IntKind.i64.wrap ((IntKind.i64.wrap (k_813 + r_859)) + 1) < ((o1_650.getD ((IntKind.i64.wrap ((i_855 : Int) + 1)).toNat) []).length : Int))) <|
     chk ((!(decide (r_859 < 0))) = true → (0 ≤ (i_855 : Int) ∧ (i_855 : Int) < (o1_650.length : Int))) <|
     chk ((!(decide (r_859 < 0))) = true → (0 ≤ k_813 ∧ k_813 < ((o1_650.getD i_855 []).length : Int))) <|
     bif ((decide (r_859 < 0)) || (!decide ((IntKind.i64.wrap (1 + ((o1_650.getD ((IntKind.i64.wrap ((i_855 : Int) + 1)).toNat) []).getD ((IntKind.i64.wrap ((IntKind.i64.wrap (k_813 + r_859)) + 1)).toNat) 0))) = ((o1_650.getD i_855 []).getD k_813.toNat 0)))) then
      nx_854 (k_813, o3_815)
     else
     chk ((o3_815 ++ [(Arr2_Int.mk (i_855 : Int) (IntKind.i64.wrap (k_813 + r_859)))]).length ≤ 274877906944) <|
     nx_854 (IntKind.i64.wrap (k_813 + (IntKind.i64.wrap (r_859 + 1))), o3_815 ++ [(Arr2_Int.mk (i_855 : Int) (IntKind.i64.wrap (k_813 + r_859)))])) (0, []) (fun s => match s with
    | (k_813, o3_815) =>
     k_773 o3_815)) fun k_651 =>
  loopN Fuel (fun s nx_1306 k_1305 =>
   match s with
   | (i_1099, o1_1100) =>
    bif decide (0 ≤ i_1099) then
     jp (S := List (List Int)) (fun o1_1408 =>
      nx_1306 (IntKind.i64.wrap (i_1099 - 1), o1_1408)) fun k_1409 =>
     loopN Fuel (fun s nx_1478 k_1477 =>
      match s with
      | (k_1443, o1_1444) =>
       bif decide (0 ≤ k_1443) then
        chk (0 ≤ i_1099 ∧ i_1099 < (o1_1444.length : Int)) <|
        chk (0 ≤ IntKind.i64.wrap (i_1099 + 1) ∧ IntKind.i64.wrap (i_1099 + 1) < (o1_1444.length : Int)) <|
        chk (0 ≤ k_1443 ∧ k_1443 < ((o1_1444.getD ((IntKind.i64.wrap (i_1099 + 1)).toNat) []).length : Int)) <|
        chk (0 ≤ i_1099 ∧ i_1099 < (o1_1444.length : Int)) <|
        chk (0 ≤ IntKind.i64.wrap (k_1443 + 1) ∧ IntKind.i64.wrap (k_1443 + 1) < ((o1_1444.getD i_1099.toNat []).length : Int)) <|
        chk (0 ≤ k_1443 ∧ k_1443 < ((o1_1444.getD i_1099.toNat []).length : Int)) <|
        letv (List.set o1_1444 i_1099.toNat (List.set (o1_1444.getD i_1099.toNat []) k_1443.toNat (max ((o1_1444.getD ((IntKind.i64.wrap (i_1099 + 1)).toNat) []).getD k_1443.toNat 0) ((o1_1444.getD i_1099.toNat []).getD ((IntKind.i64.wrap (k_1443 + 1)).toNat) 0)))) fun v_1486 =>
        idx a i_1099 fun n_1494 =>
        idx b k_1443 fun n_1495 =>
        bif decide (n_1494 = n_1495) then
         chk (0 ≤ i_1099 ∧ i_1099 < (v_1486.length : Int)) <|
         chk (0 ≤ i_1099 ∧ i_1099 < (v_1486.length : Int)) <|
         chk (0 ≤ k_1443 ∧ k_1443 < ((v_1486.getD i_1099.toNat []).length : Int)) <|
         chk (0 ≤ IntKind.i64.wrap (i_1099 + 1) ∧ IntKind.i64.wrap (i_1099 + 1) < (v_1486.length : Int)) <|
         chk (0 ≤ IntKind.i64.wrap (k_1443 + 1) ∧ IntKind.i64.wrap (k_1443 + 1) < ((v_1486.getD ((IntKind.i64.wrap (i_1099 + 1)).toNat) []).length : Int)) <|
         chk (0 ≤ k_1443 ∧ k_1443 < ((v_1486.getD i_1099.toNat []).length : Int)) <|
         letv (List.set v_1486 i_1099.toNat (List.set (v_1486.getD i_1099.toNat []) k_1443.toNat (max ((v_1486.getD i_1099.toNat []).getD k_1443.toNat 0) (IntKind.i64.wrap (1 + ((v_1486.getD ((IntKind.i64.wrap (i_1099 + 1)).toNat) []).getD ((IntKind.i64.wrap (k_1443 + 1)).toNat) 0)))))) fun v_1503 =>
         nx_1478 (IntKind.i64.wrap (k_1443 - 1), v_1503)
        else
        nx_1478 (IntKind.i64.wrap (k_1443 - 1), v_1486)
       else
       k_1477 (k_1443, o1_1444)) (IntKind.i64.wrap ((b.length : Int) - 1), o1_1100) (fun s => match s with
      | (k_1443, o1_1444) =>
       k_1409 o1_1444)
    else
    k_1305 (i_1099, o1_1100)) (IntKind.i64.wrap ((a.length : Int) - 1), o1_31) (fun s => match s with
   | (i_1099, o1_1100) =>
    k_651 o1_1100)) fun k_32 =>
 loopN Fuel (fun s nx_1527 k_1526 =>
  match s with
  | (t29_1518, o1_1519) =>
   bif decide (t29_1518 < (v_6.length : Int)) then
    chk (0 ≤ IntKind.i64.wrap ((b.length : Int) + 1) ∧ IntKind.i64.wrap ((b.length : Int) + 1) ≤ IntKind.i64.wrap ((b.length : Int) + 1) ∧ IntKind.i64.wrap ((b.length : Int) + 1) ≤ 274877906944) <|
    chk (0 ≤ t29_1518 ∧ t29_1518 < (o1_1519.length : Int)) <|
    letv (List.set o1_1519 t29_1518.toNat (List.replicate ((IntKind.i64.wrap ((b.length : Int) + 1)).toNat) 0)) fun v_1531 =>
    nx_1527 (IntKind.i64.wrap (t29_1518 + 1), v_1531)
   else
   k_1526 (t29_1518, o1_1519)) (0, v_6) (fun s => match s with
  | (t29_1518, o1_1519) =>
   k_32 o1_1519)) = some (toA (gr a b 0 0)) := by
 obtain ⟨N, hN⟩ : ∃ N, Fuel = N := ⟨_, rfl⟩
 have hN2 : 1099511627776 ≤ N := hN ▸ fuel_ge
 rw [hN]
 clear hN
 rw [chk_true (by rw [wrap1 a.length (by omega)]; omega)]
 rw [letv_eq, jp_eq]
 generalize hK : (fun (o1_31 : List (List Int)) => (jp _ _ : Option (List Arr2_Int))) = K
 rw [tab_init a b hxl hyl N hN2 K]
 subst hK
 show jp _ _ = _
 rw [jp_eq]
 generalize hK : (fun (o1_31 : List (List Int)) => (jp _ _ : Option (List Arr2_Int))) = K
 rw [tab_all a b hxl hyl N hN2 K]
 subst hK
 show jp _ _ = _
 rw [jp_eq]
 have := common_main a b hxl hyl a 0 (0, []) ⟨rfl, by omega, 0, rfl, by omega, by simp⟩
 simpa using this
theorem common_eq (x y : List Str) (hx : x.length ≤ 100000) (hy : y.length ≤ 100000) : delta_common x y = some (toA (gr x y 0 0)) := by
 obtain ⟨m1, e1, g1, _, c1, l1⟩ := numbered_eq x [] .nil (by simp; omega)
 obtain ⟨m2, e2, g2, d2, c2, l2⟩ := numbered_eq y m1 g1 (by simp at l1; omega)
 have hinj : ∀ a ∈ x, ∀ b ∈ y, num m2 a = num m2 b → a = b := by
  intro a ha b hb h
  obtain ⟨v, hv⟩ := Option.isSome_iff_exists.1 (c1 a ha)
  obtain ⟨u, hu⟩ := Option.isSome_iff_exists.1 (c2 b hb)
  have hv' := d2 a v hv
  unfold num at h
  rw [hv', hu] at h
  simp only [Option.getD_some] at h
  subst h
  exact g2.inj a b v hv' hu
 have hax : x.map (num m1) = x.map (num m2) := List.map_congr_left fun a ha => by
  obtain ⟨v, hv⟩ := Option.isSome_iff_exists.1 (c1 a ha)
  unfold num
  rw [hv, d2 a v hv]
 rw [← gr_map (num m2) x y 0 0 hinj]
 have hr := common_rest (x.map (num m2)) (y.map (num m2)) (by simpa using hx) (by simpa using hy)
 unfold delta_common
 rw [e1, call_some, e2, call_some, hax]
 exact hr
section
variable {α : Type} [DecidableEq α]
abbrev Pr := Nat × Nat
structure Rise (x y : List α) (P : List Pr) : Prop where
 mem : ∀ p ∈ P, ∃ (h : p.1 < x.length) (h' : p.2 < y.length), x[p.1] = y[p.2]
 up : P.Pairwise fun a b => a.1 < b.1 ∧ a.2 < b.2
theorem Up.rise {x y : List α} : ∀ {l : List Pr} {i j : Nat}, Up x y i j l → Rise x y l ∧ ∀ p ∈ l, i ≤ p.1 ∧ j ≤ p.2
 | [], _, _, _ => ⟨⟨by simp, .nil⟩, by simp⟩
 | (p, q) :: l, i, j, h => by
  cases h with
  | cons h1 h2 hp hq he hl =>
   obtain ⟨⟨a, b⟩, c⟩ := hl.rise
   refine ⟨⟨fun r hr => ?_, .cons (fun r hr => ?_) b⟩, fun r hr => ?_⟩
   ·rcases List.mem_cons.1 hr with rfl | hr
    ·exact ⟨hp, hq, he⟩
    ·exact a r hr
   ·have := c r hr
    simp only; omega
   ·rcases List.mem_cons.1 hr with rfl | hr
    ·exact ⟨h1, h2⟩
    ·have := c r hr; omega
theorem gr_rise (x y : List α) : Rise x y (gr x y 0 0) := (gr_up x y x y 0 0 rfl rfl).rise.1
def lkp (P : List Pr) (t : Nat) : Option Nat := (P.find? fun p => decide (p.1 = t)).map (·.2)
theorem lkp_cons (p : Pr) (P : List Pr) (t : Nat) : lkp (p :: P) t = if p.1 = t then some p.2 else lkp P t := by
 unfold lkp
 by_cases h : p.1 = t
 ·rw [List.find?_cons_of_pos (by simpa using h), if_pos h]; rfl
 ·rw [List.find?_cons_of_neg (by simpa using h), if_neg h]
theorem lkp_mem : ∀ {P : List Pr} {t k : Nat}, lkp P t = some k → (t, k) ∈ P
 | [], t, k, h => by simp [lkp] at h
 | p :: P, t, k, h => by
  rw [lkp_cons] at h
  split at h
  ·rename_i e
   cases h; subst e; simp
  ·exact List.mem_cons_of_mem _ (lkp_mem h)
theorem lkp_none : ∀ {P : List Pr} {t : Nat}, (∀ p ∈ P, p.1 ≠ t) → lkp P t = none
 | [], t, _ => rfl
 | p :: P, t, h => by rw [lkp_cons, if_neg (h p (by simp)), lkp_none fun q hq => h q (by simp [hq])]
theorem Rise.lt {x y : List α} {P : List Pr} (h : Rise x y P) {p q : Pr} (hp : p ∈ P) (hq : q ∈ P) (hlt : p.1 < q.1) : p.2 < q.2 := by
 have := h.up
 clear h
 induction P with
 | nil => cases hp
 | cons r P ih =>
  cases this with
  | cons h1 h2 =>
   rcases List.mem_cons.1 hp with e | hp2
   ·rcases List.mem_cons.1 hq with e2 | hq2
    ·subst e; subst e2; omega
    ·subst e; exact (h1 q hq2).2
   ·rcases List.mem_cons.1 hq with e2 | hq2
    ·subst e2; have := h1 p hp2; omega
    ·exact ih hp2 hq2 h2
def runs {S : Type} (P2 : List Pr) (step : Nat → Nat → Nat → S → S) : List Pr → S → S
 | [], s => s
 | p :: l, s => match lkp P2 p.1 with
  | none => runs P2 step l s
  | some k => runs P2 step l (step p.1 p.2 k s)
def runt {S : Type} (P1 P2 : List Pr) (step : Nat → Nat → Nat → S → S) : Nat → Nat → S → S
 | 0, _, s => s
 | n + 1, t, s => match lkp P1 t, lkp P2 t with
  | some j, some k => runt P1 P2 step n (t + 1) (step t j k s)
  | _, _ => runt P1 P2 step n (t + 1) s
theorem runt_zero {S : Type} (P1 P2 : List Pr) (step : Nat → Nat → Nat → S → S) (t : Nat) (s : S) : runt P1 P2 step 0 t s = s := rfl
theorem runt_succ {S : Type} (P1 P2 : List Pr) (step : Nat → Nat → Nat → S → S) (n t : Nat) (s : S) : runt P1 P2 step (n + 1) t s = match lkp P1 t, lkp P2 t with
  | some j, some k => runt P1 P2 step n (t + 1) (step t j k s)
  | _, _ => runt P1 P2 step n (t + 1) s := rfl
theorem runt_runs {S : Type} {x y : List α} {P1 P2 : List Pr} (step : Nat → Nat → Nat → S → S) (h : Rise x y P1) : ∀ (n t : Nat) (pre l : List Pr) (s : S), P1 = pre ++ l → (∀ p ∈ pre, p.1 < t) → (∀ p ∈ l, t ≤ p.1) → n + t = x.length → runt P1 P2 step n t s = runs P2 step l s
 | 0, t, pre, l, s, e, h1, h2, hn => by
  cases l with
  | nil => rfl
  | cons p l =>
   have := h2 p (by simp)
   obtain ⟨h3, _⟩ := h.mem p (by rw [e]; simp)
   omega
 | n + 1, t, pre, l, s, e, h1, h2, hn => by
  have hup := h.up
  unfold runt
  cases l with
  | nil =>
   rw [lkp_none (P := P1) (t := t) (fun p hp => by rw [e, List.append_nil] at hp; have := h1 p hp; omega)]
   exact runt_runs step h n (t + 1) pre [] s e (fun p hp => by have := h1 p hp; omega) (by simp) (by omega)
  | cons p l =>
   rw [e, List.pairwise_append] at hup
   have hl : ∀ q ∈ l, p.1 < q.1 := by
    intro q hq
    have := hup.2.1
    cases this with
    | cons a b => exact (a q hq).1
   by_cases hp : p.1 = t
   ·have hlk : lkp P1 t = some p.2 := by
     rw [e]
     clear hup e
     induction pre with
     | nil => rw [List.nil_append, lkp_cons, if_pos hp]
     | cons r pre ih => rw [List.cons_append, lkp_cons, if_neg (by have := h1 r (by simp); omega), ih fun q hq => h1 q (by simp [hq])]
    rw [hlk]
    have hnext : ∀ s', runt P1 P2 step n (t + 1) s' = runs P2 step l s' := fun s' => runt_runs step h n (t + 1) (pre ++ [p]) l s' (by rw [e]; simp) (fun q hq => by
     rcases List.mem_append.1 hq with hq | hq
     ·have := h1 q hq; omega
     ·simp at hq; subst hq; omega) (fun q hq => by have := hl q hq; omega) (by omega)
    simp only [runs, hp]
    cases lkp P2 t with
    | none => exact hnext s
    | some k => exact hnext _
   ·have hlk : lkp P1 t = none := lkp_none fun q hq => by
     rw [e] at hq
     rcases List.mem_append.1 hq with hq | hq
     ·have := h1 q hq; omega
     ·rcases List.mem_cons.1 hq with rfl | hq
      ·exact hp
      ·have := hl q hq; have := h2 p (by simp); omega
    rw [hlk]
    exact runt_runs step h n (t + 1) pre (p :: l) s e (fun q hq => by have := h1 q hq; omega) (fun q hq => by
     have := h2 q hq
     rcases List.mem_cons.1 hq with rfl | hq
     ·omega
     ·have := hl q hq; have := h2 p (by simp); omega) (by omega)
theorem runs_inv {S : Type} {P2 : List Pr} {step : Nat → Nat → Nat → S → S} (I : Nat → S → Prop) : ∀ (l : List Pr) (t : Nat) (s : S), I t s → l.Pairwise (fun a b => a.1 < b.1 ∧ a.2 < b.2) → (∀ p ∈ l, t ≤ p.1) →
  (∀ p ∈ l, ∀ k t s, lkp P2 p.1 = some k → t ≤ p.1 → I t s → I (p.1 + 1) (step p.1 p.2 k s)) → ∃ t', I t' (runs P2 step l s)
 | [], t, s, h, _, _, _ => ⟨t, h⟩
 | p :: l, t, s, h, hp, hl, hs => by
  unfold runs
  cases hp with
  | cons h1 h2 =>
   cases hk : lkp P2 p.1 with
   | none => exact runs_inv I l t s h h2 (fun q hq => hl q (by simp [hq])) fun q hq => hs q (by simp [hq])
   | some k => exact runs_inv I l (p.1 + 1) _ (hs p (by simp) k t s hk (hl p (by simp)) h) h2 (fun q hq => by have := (h1 q hq).1; omega) fun q hq => hs q (by simp [hq])
end
def hsuf (s : Str) : Bool := (decide (((([10] : Str).length : Nat) : Int) ≤ (s.length : Int))) && (decide ((List.drop ((IntKind.i64.wrap ((s.length : Int) - ((([10] : Str).length : Nat) : Int))).toNat) s) = ([10] : Str)))
theorem hs_eq (s : Str) (hs : s.length ≤ 1000000) : strings_HasSuffix s ([10] : Str) = some (hsuf s) := by
 unfold strings_HasSuffix internal_stringslite_HasSuffix
 rw [chk_true, call_some]
 ·rfl
 ·intro h
  have h1 := of_decide_eq_true h
  have h2 : ((([10] : Str).length : Nat) : Int) = 1 := rfl
  rw [h2] at h1 ⊢
  rw [wrapS (by omega) (by omega)]
  omega
def enS (s : Str) : Str := bif ((!decide (s = [])) && (!(bif (!decide (s = [])) then hsuf s else false))) then s ++ ([10] : Str) else s
theorem enS_len (s : Str) : (enS s).length ≤ s.length + 1 := by
 unfold enS
 cases ((!decide (s = [])) && (!(bif (!decide (s = [])) then hsuf s else false)))
 ·simp only [cond_false]; omega
 ·simp
theorem ended_body (s : Str) (hs : s.length ≤ 1000000) : (callG (!decide (s = [])) (strings_HasSuffix s ([10] : Str)) false fun r_2 =>
 bif ((!decide (s = [])) && (!r_2)) then
  chk ((s ++ ([10] : Str)).length ≤ 274877906944) <|
  some (s ++ ([10] : Str))
 else
 some s) = some (enS s) := by
 rw [hs_eq s hs, callG_some]
 unfold enS
 cases ((!decide (s = [])) && (!(bif (!decide (s = [])) then hsuf s else false)))
 ·rfl
 ·simp only [cond_true]; rw [chk_true (by simp; omega)]
theorem ended_eq (s : Str) (hs : s.length ≤ 1000000) : delta_ended s = some (enS s) := ended_body s hs
def cf (a d : Str) : Str := ((((([60, 60, 60, 60, 60, 60, 60, 10] : Str) ++ enS a) ++ ([61, 61, 61, 61, 61, 61, 61, 10] : Str)) ++ enS d) ++ ([62, 62, 62, 62, 62, 62, 62, 10] : Str))
theorem cf_len (a d : Str) : (cf a d).length ≤ a.length + d.length + 26 := by
 have := enS_len a
 have := enS_len d
 simp only [cf, List.length_append, List.length_cons, List.length_nil]
 omega
def blk (b a d : Str) : Str × Bool := bif decide (a = b) then (d, false) else bif (decide (d = b) || decide (a = d)) then (a, false) else (cf a d, true)
theorem blk_len (b a d : Str) : (blk b a d).1.length ≤ a.length + d.length + 26 := by
 have := cf_len a d
 unfold blk
 cases decide (a = b)
 ·cases (decide (d = b) || decide (a = d))
  ·simpa using this
  ·simp only [cond_false, cond_true]; omega
 ·simp only [cond_true]; omega
theorem settle_eq (b a d : Str) (ha : a.length ≤ 100000) (hd : d.length ≤ 100000) : delta_settle b a d = some (blk b a d) := by
 have h1 := enS_len a
 have h2 := enS_len d
 unfold delta_settle blk
 cases decide (a = b)
 ·simp only [cond_false]
  cases (decide (d = b) || decide (a = d))
  ·simp only [cond_false]
   rw [ended_eq a (by omega), call_some, chk_true (by simp; omega), chk_true (by simp; omega), ended_eq d (by omega), call_some, chk_true (by simp; omega), chk_true (by simp; omega)]
   rfl
  ·rfl
 ·rfl
def sl (l : List Str) (i j : Nat) : Str := ((l.drop i).take (j - i)).flatten
theorem flat_len : ∀ l : List Str, l.flatten.length = (l.map List.length).sum
 | [] => rfl
 | a :: l => by simp [flat_len l]
theorem sl_len (l : List Str) (i j : Nat) : (sl l i j).length ≤ l.flatten.length := by
 unfold sl
 have h : (l.drop i).flatten.length ≤ l.flatten.length := by
  conv => rhs; rw [← List.take_append_drop i l, List.flatten_append, List.length_append]
  omega
 have h2 : ((l.drop i).take (j - i)).flatten.length ≤ (l.drop i).flatten.length := by
  conv => rhs; rw [← List.take_append_drop (j - i) (l.drop i), List.flatten_append, List.length_append]
  omega
 omega
theorem join0 (l : List Str) (h1 : l.length ≤ 1000000) (h2 : l.flatten.length ≤ 1000000) : strings_Join l [] = some l.flatten := by
 cases l with
 | nil => rfl
 | cons a l =>
  rw [flat_len] at h2
  simp only [List.map_cons, List.sum_cons, List.length_cons] at h1 h2
  rw [join_eq [] a l (by simp) (by omega) (by omega)]
  simp
theorem join_sl (l : List Str) (i j : Nat) (h1 : l.length ≤ 1000000) (h2 : l.flatten.length ≤ 1000000) : strings_Join (List.take ((j : Int).toNat - (i : Int).toNat) (List.drop (i : Int).toNat l)) [] = some (sl l i j) := by
 have := sl_len l i j
 simp only [Int.toNat_natCast]
 exact join0 _ (by simp only [List.length_take, List.length_drop]; omega) (by unfold sl at this; omega)
theorem merge1_eq (x y z : List Str) (i j k fi fj fk c : Nat) (o : Str) (hx : x.length ≤ 100000 ∧ x.flatten.length ≤ 100000) (hy : y.length ≤ 100000 ∧ y.flatten.length ≤ 100000) (hz : z.length ≤ 100000 ∧ z.flatten.length ≤ 100000)
  (h1 : fi ≤ i ∧ i ≤ x.length) (h2 : fj ≤ j ∧ j ≤ y.length) (h3 : fk ≤ k ∧ k ≤ z.length) (ho : o.length ≤ 100000000000) (hc : c ≤ 1000000) :
  delta_Merge_1_i1 i j k x fi y fj z fk o c = some (o ++ (blk (sl x fi i) (sl y fj j) (sl z fk k)).1, ((c + if (blk (sl x fi i) (sl y fj j) (sl z fk k)).2 then 1 else 0 : Nat) : Int)) := by
 have ly := sl_len y fj j
 have lz := sl_len z fk k
 have lb := blk_len (sl x fi i) (sl y fj j) (sl z fk k)
 unfold delta_Merge_1_i1
 rw [chk_true (by omega), join_sl x fi i (by omega) (by omega), call_some, chk_true (by omega), join_sl y fj j (by omega) (by omega), call_some, chk_true (by omega), join_sl z fk k (by omega) (by omega), call_some,
  settle_eq _ _ _ (by omega) (by omega), call_some, write_eq _ _ (by simp; omega), call_some]
 cases (blk (sl x fi i) (sl y fj j) (sl z fk k)).2
 ·rfl
 ·simp only [cond_true]
  rw [wrap1 c (by omega)]
  rfl
def Vt (f : Nat → Int) (n : Nat) : List Int := (List.range n).map f
theorem Vt_len (f : Nat → Int) (n : Nat) : (Vt f n).length = n := by simp [Vt]
theorem Vt_get (f : Nat → Int) {n i : Nat} (h : i < n) : (Vt f n)[i]'(by rw [Vt_len]; exact h) = f i := by simp [Vt]
theorem Vt_set (f : Nat → Int) (n i : Nat) (v : Int) : List.set (Vt f n) i v = Vt (fun a => if a = i then v else f a) n := by
 apply List.ext_getElem
 ·simp [Vt]
 ·intro a h1 h2
  rw [List.getElem_set]
  simp only [Vt, List.getElem_map, List.getElem_range]
  by_cases e : i = a
  ·subst e; simp
  ·rw [if_neg e, if_neg (Ne.symm e)]
def lkI (P : List Pr) (t : Nat) : Int := match lkp P t with
 | some j => (j : Int)
 | none => -1
theorem lkp_app (P : List Pr) (p : Pr) (t : Nat) : lkp (P ++ [p]) t = match lkp P t with
  | some j => some j
  | none => if p.1 = t then some p.2 else none := by
 induction P with
 | nil => rw [List.nil_append, lkp_cons]; rfl
 | cons q P ih =>
  rw [List.cons_append, lkp_cons, lkp_cons, ih]
  split <;> rfl
theorem places_eq {α : Type} [DecidableEq α] (x y : List α) (P : List Pr) (h : Rise x y P) (hx : x.length ≤ 100000) : delta_places (toA P) (x.length : Int) = some (Vt (lkI P) x.length) := by
 unfold delta_places
 rw [chk_true (by omega)]
 obtain ⟨N, hN⟩ : ∃ N, Fuel = N := ⟨_, rfl⟩
 have hN2 : 1099511627776 ≤ N := hN ▸ fuel_ge
 rw [hN]
 clear hN
 rw [jp_eq]
 refine loopN_run (S := Int × List Int) (fun s => ∃ t : Nat, s.1 = t ∧ t ≤ x.length ∧ s.2 = Vt (fun a => if a < t then -1 else 0) x.length) (fun s => x.length - s.1.toNat) (fun _ => some (Vt (lkI P) x.length)) ?_ N (0, List.replicate (x.length : Int).toNat 0) ⟨0, rfl, by omega, by simp [Vt, List.map_const']⟩ (by simp only; omega)
 rintro ⟨t', o⟩ nx ⟨t, rfl, ht, rfl⟩ hnx
 dsimp only
 by_cases hlt : t < x.length
 ·rw [decide_eq_true (by simp; omega), cond_true, chk_true (by rw [Vt_len]; omega), wrap1 t (by omega), Int.toNat_natCast, Vt_set]
  refine hnx (_, _) ⟨t + 1, rfl, by omega, ?_⟩ (by simp only [Int.toNat_natCast]; omega)
  unfold Vt
  refine List.map_congr_left fun a _ => ?_
  try simp only
  by_cases e : a = t
  ·rw [if_pos e, if_pos (by omega)]
  ·rw [if_neg e]
   by_cases e2 : a < t
   ·rw [if_pos e2, if_pos (by omega)]
   ·rw [if_neg e2, if_neg (by omega)]
 ·rw [decide_eq_false (by simp; omega), cond_false]
  obtain rfl : t = x.length := by omega
  have h0 : Vt (fun a => if a < x.length then (-1 : Int) else 0) x.length = Vt (lkI []) x.length := by
   unfold Vt
   refine List.map_congr_left fun a ha => ?_
   rw [if_pos (List.mem_range.1 ha)]
   rfl
  rw [h0, jp_eq]
  clear hnx hlt ht nx h0
  have key : ∀ (l pre : List Pr) (q : Nat), P = pre ++ l → forL (toA l) q (fun i_38 x_40 o0_33 nx_37 k_36 =>
   chk (0 ≤ x_40.a0 ∧ x_40.a0 < (o0_33.length : Int)) <|
   nx_37 (List.set o0_33 x_40.a0.toNat x_40.a1)) (Vt (lkI pre) x.length) (fun o0_33 => some o0_33) = some (Vt (lkI P) x.length) := by
   intro l
   induction l with
   | nil => intro pre q e; rw [e, List.append_nil]; rfl
   | cons p l ih =>
    intro pre q e
    obtain ⟨hp, _⟩ := h.mem p (by rw [e]; simp)
    show chk (0 ≤ (p.1 : Int) ∧ (p.1 : Int) < ((Vt (lkI pre) x.length).length : Int)) (forL (toA l) (q + 1) _ (List.set (Vt (lkI pre) x.length) (p.1 : Int).toNat (p.2 : Int)) _) = _
    rw [chk_true (by rw [Vt_len]; omega), Int.toNat_natCast, Vt_set]
    have hv : Vt (fun a => if a = p.1 then (p.2 : Int) else lkI pre a) x.length = Vt (lkI (pre ++ [p])) x.length := by
     unfold Vt
     refine List.map_congr_left fun a _ => ?_
     have hnone : lkp pre p.1 = none := lkp_none fun r hr => by
      have := h.up
      rw [e, List.pairwise_append] at this
      have := (this.2.2 r hr p (by simp)).1
      omega
     simp only [lkI, lkp_app]
     by_cases e2 : a = p.1
     ·subst e2; rw [if_pos rfl, hnone, if_pos rfl]
     ·rw [if_neg e2, if_neg (Ne.symm e2)]
      cases lkp pre a <;> rfl
    refine Eq.trans (congrArg (fun v => forL (toA l) (q + 1) _ v _) hv) ?_
    exact ih (pre ++ [p]) (q + 1) (by rw [e]; simp)
  exact key P [] 0 rfl
structure MS where
 o : Str
 c : Nat
 fi : Nat
 fj : Nat
 fk : Nat
def tup (s : MS) : Str × Int × Int × Int × Int := (s.o, s.c, s.fi, s.fj, s.fk)
def stepM (x y z : List Str) (i j k : Nat) (s : MS) : MS := ⟨s.o ++ (blk (sl x s.fi i) (sl y s.fj j) (sl z s.fk k)).1 ++ x.getD i [], s.c + (if (blk (sl x s.fi i) (sl y s.fj j) (sl z s.fk k)).2 then 1 else 0), i + 1, j + 1, k + 1⟩
structure Bd (l : List Str) : Prop where
 n : l.length ≤ 1000
 s : l.flatten.length ≤ 100000
theorem Bd.w {l : List Str} (h : Bd l) : l.length ≤ 100000 ∧ l.flatten.length ≤ 100000 := ⟨by have := h.n; omega, h.s⟩
theorem getD_len (l : List Str) (i : Nat) : (l.getD i []).length ≤ l.flatten.length := by
 induction l generalizing i with
 | nil => simp
 | cons a l ih =>
  cases i with
  | zero => simp
  | succ i => have := ih i; simp only [List.getD_cons_succ, List.flatten_cons, List.length_append]; omega
structure Iv (x y z : List Str) (P1 P2 : List Pr) (t : Nat) (s : MS) : Prop where
 fi : s.fi ≤ t
 tx : t ≤ x.length
 fj : s.fj ≤ y.length
 fk : s.fk ≤ z.length
 p1 : ∀ p ∈ P1, t ≤ p.1 → s.fj ≤ p.2
 p2 : ∀ p ∈ P2, t ≤ p.1 → s.fk ≤ p.2
 ob : s.o.length ≤ 1000000 * t
 cb : s.c ≤ t
section
variable {x y z : List Str} {P1 P2 : List Pr}
theorem Iv.mono {t t' : Nat} {s : MS} (h : Iv x y z P1 P2 t s) (h1 : t ≤ t') (h2 : t' ≤ x.length) : Iv x y z P1 P2 t' s :=
 ⟨by have := h.fi; omega, h2, h.fj, h.fk, fun p hp hq => h.p1 p hp (by omega), fun p hp hq => h.p2 p hp (by omega), by have := h.ob; omega, by have := h.cb; omega⟩
theorem Iv.zero : Iv x y z P1 P2 0 ⟨[], 0, 0, 0, 0⟩ := ⟨Nat.le_refl _, by omega, by simp, by simp, by simp, by simp, by simp, by simp⟩
theorem Iv.step (hx : Bd x) (hy : Bd y) (hz : Bd z) (r1 : Rise x y P1) (r2 : Rise x z P2) {t i j k : Nat} {s : MS} (h : Iv x y z P1 P2 t s) (hj : (i, j) ∈ P1) (hk : (i, k) ∈ P2) (ht : t ≤ i) : Iv x y z P1 P2 (i + 1) (stepM x y z i j k s) := by
 obtain ⟨h1, h2, _⟩ := r1.mem _ hj
 obtain ⟨h3, h4, _⟩ := r2.mem _ hk
 simp only at h1 h2 h3 h4
 refine ⟨Nat.le_refl _, h1, h2, h4, fun p hp hq => r1.lt hj hp (by simp only; omega), fun p hp hq => r2.lt hk hp (by simp only; omega), ?_, ?_⟩
 ·have := blk_len (sl x s.fi i) (sl y s.fj j) (sl z s.fk k)
  have := sl_len y s.fj j
  have := sl_len z s.fk k
  have := getD_len x i
  have := hx.s
  have := hy.s
  have := hz.s
  have := h.ob
  simp only [stepM, List.length_append]
  omega
 ·have := h.cb
  simp only [stepM]
  split <;> omega
theorem mloop (hx : Bd x) (hy : Bd y) (hz : Bd z) (r1 : Rise x y P1) (r2 : Rise x z P2) (N : Nat) (hN2 : 1099511627776 ≤ N) {Z : Type} (K : Str × Int × Int × Int × Int → Option Z) :
 loopN N (fun s nx_78 k_77 =>
  match s with
  | (t59_64, o4_65, o5_0_66, o6_0_67, o7_0_68, o8_0_69) =>
   bif decide (t59_64 < (x.length : Int)) then
    idx (Vt (lkI P1) x.length) t59_64 fun n_79 =>
    chk ((!(decide (n_79 < 0))) = true → (0 ≤ t59_64 ∧ t59_64 < ((Vt (lkI P2) x.length).length : Int))) <|
    bif ((decide (n_79 < 0)) || (decide (((Vt (lkI P2) x.length).getD t59_64.toNat 0) < 0))) then
     nx_78 (IntKind.i64.wrap (t59_64 + 1), o4_65, o5_0_66, o6_0_67, o7_0_68, o8_0_69)
    else
    idx (Vt (lkI P2) x.length) t59_64 fun n_82 =>
    call (delta_Merge_1_i1 t59_64 n_79 n_82 x o6_0_67 y o7_0_68 z o8_0_69 o4_65 o5_0_66) fun r_83 =>
    idx x t59_64 fun s_84 =>
    call (strings_Builder_WriteString_i1 s_84 r_83.1) fun r_85 =>
    nx_78 (IntKind.i64.wrap (t59_64 + 1), r_85.2, r_83.2, IntKind.i64.wrap (t59_64 + 1), IntKind.i64.wrap (n_79 + 1), IntKind.i64.wrap (n_82 + 1))
   else
   k_77 (t59_64, o4_65, o5_0_66, o6_0_67, o7_0_68, o8_0_69)) (0, [], 0, 0, 0, 0) (fun s => match s with
  | (t59_64, o4_65, o5_0_66, o6_0_67, o7_0_68, o8_0_69) =>
   K (o4_65, o5_0_66, o6_0_67, o7_0_68, o8_0_69)) = K (tup (runt P1 P2 (stepM x y z) x.length 0 ⟨[], 0, 0, 0, 0⟩)) := by
 have hxn := hx.n
 refine loopN_run (S := Int × Str × Int × Int × Int × Int) (fun s => ∃ (t : Nat) (ms : MS), s = ((t : Int), tup ms) ∧ Iv x y z P1 P2 t ms ∧ runt P1 P2 (stepM x y z) (x.length - t) t ms = runt P1 P2 (stepM x y z) x.length 0 ⟨[], 0, 0, 0, 0⟩) (fun s => x.length - s.1.toNat) (fun _ => K (tup (runt P1 P2 (stepM x y z) x.length 0 ⟨[], 0, 0, 0, 0⟩))) ?_ N (0, [], 0, 0, 0, 0) ⟨0, ⟨[], 0, 0, 0, 0⟩, rfl, .zero, rfl⟩ (by simp only; omega)
 rintro _ nx ⟨t, ms, rfl, hi, hr⟩ hnx
 simp only [tup] at hnx ⊢
 by_cases h : t < x.length
 ·have hs : x.length - t = (x.length - (t + 1)) + 1 := by omega
  rw [decide_eq_true (by omega), cond_true, idx_eq (by rw [Vt_len]; exact h), Vt_get _ h, chk_true (fun _ => by rw [Vt_len]; omega)]
  have hg : (Vt (lkI P2) x.length).getD (t : Int).toNat 0 = lkI P2 t := by
   rw [Int.toNat_natCast, List.getD_eq_getElem?_getD, List.getElem?_eq_getElem (by rw [Vt_len]; exact h), Vt_get _ h]; rfl
  rw [hs, runt_succ] at hr
  simp only [hg]
  have skip : runt P1 P2 (stepM x y z) (x.length - (t + 1)) (t + 1) ms = runt P1 P2 (stepM x y z) x.length 0 ⟨[], 0, 0, 0, 0⟩ → nx (IntKind.i64.wrap ((t : Int) + 1), ms.o, (ms.c : Int), (ms.fi : Int), (ms.fj : Int), (ms.fk : Int)) = K (tup (runt P1 P2 (stepM x y z) x.length 0 ⟨[], 0, 0, 0, 0⟩)) := fun hr => by
   rw [wrap1 t (by omega)]
   exact hnx _ ⟨t + 1, ms, rfl, hi.mono (by omega) (by omega), hr⟩ (by simp only [Int.toNat_natCast]; omega)
  cases h1 : lkp P1 t with
  | none =>
   rw [h1] at hr
   have e1 : lkI P1 t = -1 := by unfold lkI; rw [h1]
   rw [e1, show decide ((-1 : Int) < 0) = true from rfl, Bool.true_or, cond_true]
   exact skip hr
  | some j =>
   have e1 : lkI P1 t = j := by unfold lkI; rw [h1]
   rw [e1, decide_eq_false (by omega), Bool.false_or]
   cases h2 : lkp P2 t with
   | none =>
    rw [h1, h2] at hr
    have e2 : lkI P2 t = -1 := by unfold lkI; rw [h2]
    rw [e2, show decide ((-1 : Int) < 0) = true from rfl, cond_true]
    exact skip hr
   | some k =>
    rw [h1, h2] at hr
    have e2 : lkI P2 t = k := by unfold lkI; rw [h2]
    have m1 := lkp_mem h1
    have m2 := lkp_mem h2
    obtain ⟨_, l1, _⟩ := r1.mem _ m1
    obtain ⟨_, l2, _⟩ := r2.mem _ m2
    simp only at l1 l2
    have hyn := hy.n
    have hzn := hz.n
    have hob := hi.ob
    have hcb := hi.cb
    have hb := blk_len (sl x ms.fi t) (sl y ms.fj j) (sl z ms.fk k)
    have := sl_len y ms.fj j
    have := sl_len z ms.fk k
    have hgl := getD_len x t
    have hxs := hx.s
    have hys := hy.s
    have hzs := hz.s
    have hgx : x.getD t [] = x[t] := by simp [List.getD_eq_getElem?_getD, h]
    rw [hgx] at hgl
    rw [e2, decide_eq_false (by omega), cond_false, idx_eq (by rw [Vt_len]; exact h), Vt_get _ h, e2,
     merge1_eq x y z t j k ms.fi ms.fj ms.fk ms.c ms.o hx.w hy.w hz.w ⟨hi.fi, by omega⟩ ⟨hi.p1 _ m1 (Nat.le_refl _), by omega⟩ ⟨hi.p2 _ m2 (Nat.le_refl _), by omega⟩ (by omega) (by omega), call_some, idx_eq h, write_eq _ _ (by simp only [List.length_append]; omega), call_some, wrap1 t (by omega), wrap1 j (by omega), wrap1 k (by omega)]
    refine hnx _ ⟨t + 1, stepM x y z t j k ms, ?_, hi.step hx hy hz r1 r2 m1 m2 (Nat.le_refl _), hr⟩ (by simp only [Int.toNat_natCast]; omega)
    simp only [stepM, hgx]
 ·have ht : t = x.length := by have := hi.tx; omega
  rw [decide_eq_false (by omega), cond_false]
  subst ht
  rw [Nat.sub_self, runt_zero] at hr
  rw [← hr]
def mgS (x y z : List Str) (P1 P2 : List Pr) : MS := runs P2 (stepM x y z) P1 ⟨[], 0, 0, 0, 0⟩
def mgB (x y z : List Str) (P1 P2 : List Pr) : Str × Bool := blk (sl x (mgS x y z P1 P2).fi x.length) (sl y (mgS x y z P1 P2).fj y.length) (sl z (mgS x y z P1 P2).fk z.length)
def mgO (x y z : List Str) (P1 P2 : List Pr) : Str := (mgS x y z P1 P2).o ++ (mgB x y z P1 P2).1
def mgC (x y z : List Str) (P1 P2 : List Pr) : Nat := (mgS x y z P1 P2).c + if (mgB x y z P1 P2).2 then 1 else 0
theorem mg_iv (hx : Bd x) (hy : Bd y) (hz : Bd z) (r1 : Rise x y P1) (r2 : Rise x z P2) : ∃ t, Iv x y z P1 P2 t (mgS x y z P1 P2) :=
 runs_inv (P2 := P2) (step := stepM x y z) (Iv x y z P1 P2) P1 0 ⟨[], 0, 0, 0, 0⟩ .zero r1.up (fun _ _ => Nat.zero_le _) fun p hp k t s hk ht h => h.step hx hy hz r1 r2 hp (lkp_mem hk) ht
def mgR (x y z : List Str) (P1 P2 : List Pr) : Str × Int × Int := bif decide (65536 < ((mgO x y z P1 P2).length : Int)) then ([], 0, 4) else (mgO x y z P1 P2, mgC x y z P1 P2, 0)
theorem mg_fin (hx : Bd x) (hy : Bd y) (hz : Bd z) (r1 : Rise x y P1) (r2 : Rise x z P2) : delta_Merge_1_i1 (x.length : Int) (y.length : Int) (z.length : Int) x (mgS x y z P1 P2).fi y (mgS x y z P1 P2).fj z (mgS x y z P1 P2).fk (mgS x y z P1 P2).o (mgS x y z P1 P2).c = some (mgO x y z P1 P2, (mgC x y z P1 P2 : Int)) := by
 obtain ⟨t, h⟩ := mg_iv hx hy hz r1 r2
 have := hx.n
 have := h.fi
 have := h.tx
 have := h.ob
 have := h.cb
 exact merge1_eq x y z _ _ _ _ _ _ _ _ hx.w hy.w hz.w ⟨by omega, by omega⟩ ⟨h.fj, by omega⟩ ⟨h.fk, by omega⟩ (by omega) (by omega)
end
structure Sh (s : Str) : Prop where
 b : s.length ≤ 65536
 n : (linesP s).length ≤ 1000
theorem Sh.of {s : Str} (h : s.length ≤ 600) : Sh s := ⟨by omega, by have := linesP_len s; omega⟩
theorem linesP_bd {s : Str} (h : Sh s) : Bd (linesP s) := ⟨h.n, by rw [linesP_flat]; have := h.b; omega⟩
theorem fault_eq (s : Str) (l : List Str) (h : s.length ≤ 65536) (hl : l.length ≤ 1000) : delta_linesFault s l = some 0 := by
 unfold delta_linesFault
 rw [decide_eq_false (by omega), decide_eq_false (by omega)]; rfl
theorem Lines_eq (a b : Str) (ha : Sh a) (hb : Sh b) : delta_Lines a b = some (toA (gr (linesP a) (linesP b) 0 0), 0) := by
 have h1 := ha.n
 have h2 := hb.n
 have la := ha.b
 have lb := hb.b
 unfold delta_Lines
 rw [linesOf_eq a (by omega), call_some, linesOf_eq b (by omega), call_some, fault_eq a _ (by omega) h1, call_some]
 simp only [decide_true, Bool.not_true, cond_false]
 rw [fault_eq b _ (by omega) h2, call_some]
 simp only [decide_true, Bool.not_true, cond_false]
 rw [common_eq _ _ (by omega) (by omega), call_some]
def mgT (base a b : Str) : Str × Int × Int := mgR (linesP base) (linesP a) (linesP b) (gr (linesP base) (linesP a) 0 0) (gr (linesP base) (linesP b) 0 0)
theorem Merge_eq (base a b : Str) (h0 : Sh base) (ha : Sh a) (hb : Sh b) : delta_Merge base a b = some (mgT base a b) := by
 have b0 := linesP_bd h0
 have b1 := linesP_bd ha
 have b2 := linesP_bd hb
 have hn := b0.n
 have l0 := h0.b
 have l1 := ha.b
 have l2 := hb.b
 have r1 := gr_rise (linesP base) (linesP a)
 have r2 := gr_rise (linesP base) (linesP b)
 unfold delta_Merge
 rw [Lines_eq base a h0 ha, call_some]
 rw [show decide ((0 : Int) = 0) = true from rfl, Bool.not_true, cond_false]
 rw [Lines_eq base b h0 hb, call_some]
 rw [show decide ((0 : Int) = 0) = true from rfl, Bool.not_true, cond_false]
 rw [linesOf_eq base (by omega), call_some, linesOf_eq a (by omega), call_some, linesOf_eq b (by omega), call_some]
 rw [places_eq (linesP base) (linesP a) _ r1 (by omega), call_some, places_eq (linesP base) (linesP b) _ r2 (by omega), call_some, jp_eq]
 obtain ⟨N, hN⟩ : ∃ N, Fuel = N := ⟨_, rfl⟩
 have hN2 : 1099511627776 ≤ N := hN ▸ fuel_ge
 rw [hN]
 clear hN
 generalize hK : (fun (s : Str × Int × Int × Int × Int) => (_ : Option (Str × Int × Int))) = K
 rw [mloop b0 b1 b2 r1 r2 N hN2 K]
 subst hK
 have hrr := runt_runs (P2 := gr (linesP base) (linesP b) 0 0) (stepM (linesP base) (linesP a) (linesP b)) r1 (linesP base).length 0 [] _ ⟨[], 0, 0, 0, 0⟩ rfl (by simp) (fun _ _ => Nat.zero_le _) rfl
 rw [hrr]
 have hf := mg_fin b0 b1 b2 r1 r2
 show call (delta_Merge_1_i1 ((linesP base).length : Int) ((linesP a).length : Int) ((linesP b).length : Int) (linesP base) (mgS (linesP base) (linesP a) (linesP b) _ _).fi (linesP a) (mgS (linesP base) (linesP a) (linesP b) _ _).fj (linesP b) (mgS (linesP base) (linesP a) (linesP b) _ _).fk (mgS (linesP base) (linesP a) (linesP b) _ _).o (mgS (linesP base) (linesP a) (linesP b) _ _).c) _ = _
 rw [hf, call_some]
 unfold mgT mgR
 show call (some _) _ = _
 rw [call_some]
 cases decide (65536 < ((mgO (linesP base) (linesP a) (linesP b) (gr (linesP base) (linesP a) 0 0) (gr (linesP base) (linesP b) 0 0)).length : Int)) <;> rfl
theorem mul1 : ∀ c : Fin 1101, math_bits_Mul (IntKind.u64.wrap (([10] : Str).length : Int)) (IntKind.u64.wrap (c.val : Int)) = some (0, (c.val : Int)) := by decide +kernel
theorem repeat10 (m : Nat) (hm : m ≤ 1100) : strings_Repeat [10] (m : Int) = some (List.replicate m 10) := by
 unfold strings_Repeat
 obtain ⟨N, hN⟩ : ∃ N, Fuel = N := ⟨_, rfl⟩
 have hN2 : 1099511627776 ≤ N := hN ▸ fuel_ge
 rw [hN]
 clear hN
 by_cases h0 : m = 0
 ·subst h0; rfl
 by_cases h1 : m = 1
 ·subst h1; rfl
 rw [bif_f (decide_eq_false (by omega)), bif_f (decide_eq_false (by omega))]
 rw [jp_eq]
 rw [bif_f (decide_eq_false (by omega)), mul1 ⟨m, by omega⟩, call_some]
 rw [jp_eq]
 dsimp only
 rw [show decide ((0 : Int) < 0) = false from rfl, Bool.false_or, bif_f (decide_eq_false (by omega))]
 rw [bif_f (by simp), jp_eq]
 show idxS [10] ((0 : Nat) : Int) _ = _
 rw [idxS_eq (by simp), jp_eq]
 simp only [List.getElem_cons_zero]
 rw [show decide (((10 : UInt8).toNat : Int) = 32) = false from rfl, show decide (((10 : UInt8).toNat : Int) = 45) = false from rfl, show decide (((10 : UInt8).toNat : Int) = 48) = false from rfl, show decide (((10 : UInt8).toNat : Int) = 61) = false from rfl, show decide (((10 : UInt8).toNat : Int) = 9) = false from rfl, cond_false, cond_false, cond_false, cond_false, cond_false]
 have ew : IntKind.i64.wrap (m : Int) = m := wrapN m (by omega)
 rw [ew, jp_eq, bif_f (decide_eq_false (by omega))]
 have eg : strings_Builder_Grow (m : Int) [] = some () := by
  unfold strings_Builder_Grow
  rw [chk_true (by omega)]
 show call (strings_Builder_Grow (m : Int) []) _ = _
 rw [eg, call_some, write_eq _ _ (by simp), call_some, jp_eq]
 refine loopN_run (S := Str) (fun s => ∃ q : Nat, s = List.replicate q 10 ∧ 1 ≤ q ∧ q ≤ m) (fun s => m - s.length) (fun _ => some (List.replicate m 10)) ?_ N _ ⟨1, rfl, by omega, by omega⟩ (by simp only; omega)
 rintro s nx ⟨q, rfl, h2, h3⟩ hnx
 have el : strings_Builder_Len_i1 (List.replicate q 10) = some ((q : Nat) : Int) := by unfold strings_Builder_Len_i1; simp
 have es : strings_Builder_String_i1 (List.replicate q 10) = some (List.replicate q 10) := rfl
 rw [el, call_some]
 by_cases h : q < m
 ·rw [decide_eq_true (by omega), cond_true, call_some, call_some, es, call_some, wrapS (by omega) (by omega)]
  obtain ⟨w, hw, hw1, hw2, hw3⟩ : ∃ w : Nat, min (min ((m : Int) - (q : Int)) (q : Int)) (m : Int) = w ∧ 1 ≤ w ∧ w ≤ q ∧ q + w ≤ m := by
   rcases Nat.lt_or_ge (m - q) q with h' | h'
   ·exact ⟨m - q, by omega, by omega, by omega, by omega⟩
   ·exact ⟨q, by omega, by omega, by omega, by omega⟩
  rw [hw, chk_true (by simp; omega), Int.toNat_natCast, List.take_replicate, Nat.min_eq_left hw2, write_eq _ _ (by simp; omega), call_some]
  exact hnx _ ⟨q + w, by rw [List.replicate_append_replicate], by omega, by omega⟩ (by simp; omega)
 ·rw [decide_eq_false (by omega), cond_false]
  obtain rfl : q = m := by omega
  show call (strings_Builder_String_i1 (List.replicate q 10)) _ = _
  rw [es, call_some]
def ftB (s : Str) : Bool := decide (65536 < (s.length : Int)) || decide (1000 < ((linesP s).length : Int))
theorem fault_gen (s : Str) : delta_linesFault s (linesP s) = some (bif ftB s then 4 else 0) := by
 unfold delta_linesFault
 show (bif ftB s then some 4 else some 0) = _
 cases ftB s <;> rfl
theorem sh_of {s : Str} (h : ftB s = false) : Sh s := by
 unfold ftB at h
 rw [Bool.or_eq_false_iff, decide_eq_false_iff_not, decide_eq_false_iff_not] at h
 exact ⟨by omega, by omega⟩
theorem Lines_bad (a b : Str) (ha : a.length ≤ 17179869184) (hb : b.length ≤ 17179869184) (h : (ftB a || ftB b) = true) : delta_Lines a b = some ([], 4) := by
 unfold delta_Lines
 rw [linesOf_eq a ha, call_some, linesOf_eq b hb, call_some, fault_gen, call_some]
 cases e : ftB a
 ·rw [e, Bool.false_or] at h
  simp only [cond_false, decide_true, Bool.not_true]
  rw [fault_gen, call_some, h]; rfl
 ·rfl
theorem LinesError_gen (a b : Str) (ha : a.length ≤ 17179869184) (hb : b.length ≤ 17179869184) : R_LinesError a b = some (bif (ftB a || ftB b) then 4 else 0) := by
 have step : ∀ (s : Str) (k : Option Int), s.length ≤ 17179869184 → (callG (!(decide (65536 < (s.length : Int)))) (R_linesOf s) [] fun r_21 =>
  bif ((decide (65536 < (s.length : Int))) || (decide (1000 < (r_21.length : Int)))) then some 4 else k) = bif ftB s then some 4 else k := by
  intro s k hs
  rw [R_linesOf_eq s hs, callG_some]
  unfold ftB
  cases decide (65536 < (s.length : Int)) <;> rfl
 unfold R_LinesError
 rw [jp_eq]
 unfold forL
 dsimp only
 rw [step a _ ha]
 unfold forL
 dsimp only
 rw [step b _ hb]
 cases ftB a <;> cases ftB b <;> rfl
theorem law_lb (a : Str) (many : Int) (ha : a.length ≤ 17179869184) : Law_LinesAreBounded a many = some true := by
 unfold Law_LinesAreBounded
 obtain ⟨m, hm, hm2⟩ : ∃ m : Nat, min (max many 0) 1100 = m ∧ m ≤ 1100 := ⟨(min (max many 0) 1100).toNat, by omega, by omega⟩
 rw [show Law_landed = some true from rfl, call_some, Bool.not_true, cond_false, hm, repeat10 m hm2, call_some]
 have ht : (List.replicate m (10 : UInt8)).length ≤ 17179869184 := by simp; omega
 generalize List.replicate m (10 : UInt8) = t at *
 rw [LinesError_gen a t ha ht]
 cases h : (ftB a || ftB t)
 ·rw [Bool.or_eq_false_iff] at h
  have s1 := sh_of h.1
  have s2 := sh_of h.2
  rw [Lines_eq a t s1 s2, call_some, Merge_eq t a [] s2 s1 (Sh.of (by simp)), call_some]
  rfl
 ·have h' : (ftB t || ftB a) = true := by rw [Bool.or_comm]; exact h
  have hM : delta_Merge t a [] = some ([], 0, 4) := by
   unfold delta_Merge
   rw [Lines_bad t a ht ha h', call_some]; rfl
  rw [Lines_bad a t ha ht h, call_some, hM, call_some]
  rfl
end Go.Md
