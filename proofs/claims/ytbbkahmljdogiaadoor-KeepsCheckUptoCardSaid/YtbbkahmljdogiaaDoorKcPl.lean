/- Plain lemmas on the models: the law's model answers true. -/
import Derived.Test.YtbbkahmljdogiaaDoorKcMd
set_option linter.unusedSimpArgs false
set_option linter.unusedVariables false
namespace Go.Md
open Go.Vc
section
variable {Z A S α : Type}
theorem call_some (x : A) (k : A → Option Z) : call (some x) k = k x := rfl
theorem callG_some (g : Bool) (x d : A) (k : A → Option Z) : callG g (some x) d k = k (bif g then x else d) := by cases g <;> rfl
theorem callG_true (a : Option A) (d : A) (k : A → Option Z) : callG true a d k = call a k := rfl
theorem chk_true {p : Prop} [Decidable p] (h : p) (m : Option Z) : chk p m = m := if_pos h
theorem jp_eq (F : S → Option Z) (m : (S → Option Z) → Option Z) : jp F m = m F := rfl
theorem idxS_eq {s : Str} {i : Nat} (h : i < s.length) (k : Int → Option Z) : idxS s i k = k (s[i].toNat : Int) := by
 unfold idxS
 simp [h]
theorem idx_eq {l : List α} {i : Nat} (h : i < l.length) (k : α → Option Z) : idx l i k = k l[i] := by
 unfold idx
 simp [h]
theorem forL_all {f : Nat → α → Unit → (Unit → Option Z) → (Unit → Option Z) → Option Z} {z : Z} (q : α → Bool) (hf : ∀ i x nx k, f i x () nx k = bif q x then nx () else some z) (k : Unit → Option Z) :
  ∀ (l : List α) (i : Nat), forL l i f () k = bif l.all q then k () else some z
 | [], i => rfl
 | x :: l, i => by
  unfold forL
  rw [hf, forL_all q hf k l (i + 1), List.all_cons]
  cases q x <;> rfl
theorem loopN_run {f : S → (S → Option Z) → (S → Option Z) → Option Z} {k : S → Option Z} (inv : S → Prop) (mu : S → Nat) (R : S → Option Z)
  (h : ∀ s nx, inv s → (∀ s', inv s' → mu s' < mu s → nx s' = R s') → f s nx k = R s) : ∀ (N : Nat) (s : S), inv s → mu s < N → loopN N f s k = R s
 | 0, s, _, hm => by omega
 | N + 1, s, hi, hm => by
  unfold loopN
  exact h s _ hi fun s' hs' hlt => loopN_run inv mu R h N s' hs' (by omega)
theorem condS (b : Bool) (x y : Z) : (bif b then some x else some y) = some (bif b then x else y) := by cases b <;> rfl
theorem condN (c : Bool) (x y : Z) : (bif c then x else y) = bif !c then y else x := by cases c <;> rfl
theorem bif_t {c : Bool} (h : c = true) (x y : Z) : (bif c then x else y) = x := by rw [h]; rfl
theorem bif_f {c : Bool} (h : c = false) (x y : Z) : (bif c then x else y) = y := by rw [h]; rfl
end
theorem wrapS {n : Int} (h1 : -9223372036854775808 ≤ n) (h2 : n ≤ 9223372036854775807) : IntKind.i64.wrap n = n := wrap64 h1 h2
theorem wrapN (n : Nat) (h : n ≤ 9223372036854775807) : IntKind.i64.wrap (n : Int) = n := wrap64 (by omega) (by omega)
theorem wrap1 (i : Nat) (h : i < 9223372036854775807) : IntKind.i64.wrap ((i : Int) + 1) = ((i + 1 : Nat) : Int) := by rw [wrapS (by omega) (by omega)]; rfl
theorem wrapm1 (i : Nat) (h0 : 0 < i) (h : i < 9223372036854775807) : IntKind.i64.wrap ((i : Int) - 1) = ((i - 1 : Nat) : Int) := by rw [wrapS (by omega) (by omega)]; omega
theorem fuel_ge : 1099511627776 ≤ Fuel := Nat.le_refl _
def cutAt (c : UInt8) : Str → Str × Str × Bool
 | [] => ([], [], false)
 | b :: s => if b = c then ([], s, true) else (b :: (cutAt c s).1, (cutAt c s).2.1, (cutAt c s).2.2)
def splitAt (c : UInt8) : Str → List Str
 | [] => [[]]
 | b :: s => if b = c then [] :: splitAt c s else match splitAt c s with
  | [] => [[b]]
  | h :: t => (b :: h) :: t
theorem cutAt_none {c : UInt8} : ∀ {s : Str}, c ∉ s → cutAt c s = (s, [], false)
 | [], _ => rfl
 | b :: s, h => by
  have hb : b ≠ c := fun e => h (by simp [e])
  have ht := cutAt_none (s := s) (c := c) (fun h' => h (List.mem_cons_of_mem _ h'))
  simp only [cutAt, if_neg hb, ht]
theorem cutAt_some {c : UInt8} : ∀ {s : Str}, c ∈ s → (cutAt c s).2.2 = true ∧ s = (cutAt c s).1 ++ c :: (cutAt c s).2.1 ∧ c ∉ (cutAt c s).1
 | [], h => by cases h
 | b :: s, h => by
  by_cases hb : b = c
  ·subst hb; simp [cutAt]
  ·have hm : c ∈ s := by
    rcases List.mem_cons.1 h with rfl | h
    ·exact absurd rfl hb
    ·exact h
   obtain ⟨h1, h2, h3⟩ := cutAt_some hm
   simp only [cutAt, if_neg hb]
   refine ⟨h1, by rw [List.cons_append, ← h2], ?_⟩
   intro h'
   rcases List.mem_cons.1 h' with rfl | h'
   ·exact hb rfl
   ·exact h3 h'
theorem splitAt_none {c : UInt8} : ∀ {s : Str}, c ∉ s → splitAt c s = [s]
 | [], _ => rfl
 | b :: s, h => by
  have hb : b ≠ c := fun e => h (by simp [e])
  have ht := splitAt_none (s := s) (c := c) (fun h' => h (List.mem_cons_of_mem _ h'))
  simp only [splitAt, if_neg hb, ht]
theorem splitAt_app {c : UInt8} : ∀ {a b : Str}, c ∉ a → splitAt c (a ++ c :: b) = a :: splitAt c b
 | [], b, _ => by simp [splitAt]
 | x :: a, b, h => by
  have hx : x ≠ c := fun e => h (by simp [e])
  have := splitAt_app (a := a) (b := b) (c := c) (fun h' => h (List.mem_cons_of_mem _ h'))
  simp only [List.cons_append, splitAt, if_neg hx, this]
theorem splitAt_cut (c : UInt8) (s : Str) : splitAt c s = if (cutAt c s).2.2 = true then (cutAt c s).1 :: splitAt c (cutAt c s).2.1 else [s] := by
 by_cases h : c ∈ s
 ·obtain ⟨h1, h2, h3⟩ := cutAt_some h
  rw [if_pos h1]
  conv => lhs; rw [h2]
  exact splitAt_app h3
 ·rw [cutAt_none h]
  simpa using splitAt_none h
theorem cutAt_len (c : UInt8) (s : Str) : (cutAt c s).1.length ≤ s.length ∧ (cutAt c s).2.1.length ≤ s.length ∧ ((cutAt c s).2.2 = true → (cutAt c s).1.length + (cutAt c s).2.1.length + 1 = s.length) := by
 by_cases h : c ∈ s
 ·obtain ⟨h1, h2, h3⟩ := cutAt_some h
  have := congrArg List.length h2
  simp only [List.length_append, List.length_cons] at this
  exact ⟨by omega, by omega, fun _ => by omega⟩
 ·rw [cutAt_none h]; simp
def ixb (s : Str) (c : UInt8) : Int := Lib.indexByte s c
theorem ixb_cut (c : UInt8) : ∀ s : Str, ixb s c = if c ∈ s then ((cutAt c s).1.length : Int) else -1
 | [] => rfl
 | b :: s => by
  have ih := ixb_cut c s
  unfold ixb at *
  unfold Lib.indexByte
  by_cases hb : b = c
  ·subst hb; simp [cutAt]
  ·rw [if_neg (by simpa using hb), ih]
   simp only [cutAt, if_neg hb, List.mem_cons, Ne.symm hb, false_or]
   by_cases h : c ∈ s
   ·rw [if_pos h, if_pos h]
    simp
   ·rw [if_neg h, if_neg h]; rfl
theorem ixb_some {c : UInt8} {s : Str} (h : c ∈ s) : ixb s c = ((cutAt c s).1.length : Int) := by rw [ixb_cut, if_pos h]
theorem cutAt_take {c : UInt8} {s : Str} (h : c ∈ s) : s.take (cutAt c s).1.length = (cutAt c s).1 ∧ s.drop ((cutAt c s).1.length + 1) = (cutAt c s).2.1 := by
 obtain ⟨h1, h2, h3⟩ := cutAt_some h
 generalize cutAt c s = q at h2 ⊢
 subst h2
 constructor
 ·exact List.take_left' rfl
 ·rw [← List.drop_drop, List.drop_left' rfl]; rfl
theorem len1 (c : UInt8) : ((([c] : Str).length : Nat) : Int) = 1 := rfl
theorem indexByte_u8 (s : Str) (c : UInt8) : ixByte s (c.toNat : Int) = ixb s c := by
 unfold ixByte ixb
 congr 1
 simp
theorem slite_eq (s : Str) (c : UInt8) : internal_stringslite_Index s [c] = some (ixb s c) := by
 unfold internal_stringslite_Index internal_stringslite_IndexByte
 by_cases h : s = [c]
 ·subst h
  simp [ixb, Lib.indexByte]
 ·have : (decide (([c] : Str) = s)) = false := by simpa using fun e => h e.symm
  simp only [this, len1, show decide ((1 : Int) = 0) = false from rfl, show decide ((1 : Int) = 1) = true from rfl, decide_true, Bool.or_false, cond_false, cond_true]
  show idxS [c] ((0 : Nat) : Int) _ = _
  rw [idxS_eq (by simp)]
  simp only [call_some, List.getElem_cons_zero, indexByte_u8]
theorem index_eq (s : Str) (c : UInt8) : strings_Index s [c] = some (ixb s c) := by
 unfold strings_Index
 rw [slite_eq]; rfl
theorem count_eq (s : Str) (c : UInt8) : strings_Count s [c] = some ((s.count c : Nat) : Int) := by
 unfold strings_Count
 simp only [len1, show decide ((1 : Int) = 0) = false from rfl, show decide ((1 : Int) = 1) = true from rfl, decide_true, cond_false, cond_true]
 show idxS [c] ((0 : Nat) : Int) _ = _
 rw [idxS_eq (by simp)]
 unfold cntByte
 simp
theorem drop_cut_count {c : UInt8} {s : Str} (h : c ∈ s) : (cutAt c s).2.1.count c + 1 = s.count c := by
 obtain ⟨h1, h2, h3⟩ := cutAt_some h
 conv => rhs; rw [h2]
 rw [List.count_append, List.count_eq_zero_of_not_mem h3, List.count_cons_self]
 omega
theorem set_take {α : Type} (l : List α) (i : Nat) (x : α) (h : i < l.length) : (l.set i x).take (i + 1) = l.take i ++ [x] := by
 rw [List.take_succ_eq_append_getElem (by simpa using h)]
 simp [List.take_set_of_le]
theorem split_eq (s : Str) (c : UInt8) (hs : s.length ≤ 17179869184) : strings_Split s [c] = some (splitAt c s) := by
 have hcl := List.count_le_length (a := c) (l := s)
 have key : strings_genSplit s [c] 0 (-1) = some (splitAt c s) := by
  unfold strings_genSplit
  obtain ⟨N, hN⟩ : ∃ N, Fuel = N := ⟨_, rfl⟩
  have hN2 : 1099511627776 ≤ N := hN ▸ fuel_ge
  rw [hN]
  clear hN
  have hmin : min ((s.count c + 1 : Nat) : Int) ((s.length + 1 : Nat) : Int) = ((s.count c + 1 : Nat) : Int) := by omega
  simp only [jp_eq, count_eq, call_some, show decide ((-1 : Int) = 0) = false from rfl, show decide ((-1 : Int) < 0) = true from rfl, show decide (([c] : Str) = []) = false from rfl, cond_true, cond_false]
  simp only [wrap1 (s.count c) (by omega), wrap1 s.length (by omega), hmin]
  rw [chk_true (by omega)]
  have hw : IntKind.i64.wrap (((s.count c + 1 : Nat) : Int) - 1) = ((s.count c : Nat) : Int) := by rw [wrapS (by omega) (by omega)]; omega
  simp only [hw, Int.toNat_natCast]
  refine (loopN_run (S := Str × Int × List Str) (fun st => ∃ i : Nat, st.2.1 = i ∧ st.2.2.length = s.count c + 1 ∧ st.1.length ≤ s.length ∧ i + st.1.count c = s.count c) (fun st => s.count c - st.2.1.toNat)
   (fun st => some (st.2.2.take st.2.1.toNat ++ splitAt c st.1)) ?_ N _ ⟨0, rfl, by simp, Nat.le_refl _, by simp⟩ (by simp only; omega)).trans ?_
  ·rintro ⟨t, i', o⟩ nx ⟨i, rfl, ho, ht, hc⟩ hnx
   simp only at ho ht hc hnx ⊢
   simp only [index_eq, call_some]
   by_cases hi : i < s.count c
   ·have hmem : c ∈ t := by rw [← List.count_pos_iff]; omega
    obtain ⟨h1, h2, h3⟩ := cutAt_some hmem
    have hl := (cutAt_len c t).2.2 h1
    obtain ⟨t1, t2⟩ := cutAt_take hmem
    rw [decide_eq_true (by omega), cond_true, ixb_some hmem, decide_eq_false (by omega), cond_false]
    have hw3 : IntKind.i64.wrap (((cutAt c t).1.length : Int) + 0) = ((cutAt c t).1.length : Int) := by rw [wrapS (by omega) (by omega)]; omega
    have hw4 : IntKind.i64.wrap (((cutAt c t).1.length : Int) + (([c] : Str).length : Int)) = (((cutAt c t).1.length + 1 : Nat) : Int) := wrap1 _ (by omega)
    simp only [hw3, hw4, wrap1 i (by omega), Int.toNat_natCast]
    rw [chk_true (by omega), chk_true (by omega), chk_true (by omega)]
    have hdc := drop_cut_count hmem
    simp only [t1, t2]
    rw [hnx _ ⟨i + 1, rfl, by simpa using ho, by simp only; omega, by simp only; omega⟩ (by simp only [Int.toNat_natCast]; omega)]
    simp only [Int.toNat_natCast]
    rw [set_take o i _ (by omega)]
    congr 1
    rw [show splitAt c t = (cutAt c t).1 :: splitAt c (cutAt c t).2.1 by rw [splitAt_cut, if_pos h1]]
    simp
   ·obtain rfl : i = s.count c := by omega
    rw [decide_eq_false (by omega), cond_false]
    have hmem : c ∉ t := by rw [← List.count_pos_iff]; omega
    rw [chk_true (by omega), wrap1 _ (by omega)]
    simp only [Int.toNat_natCast, List.length_set]
    rw [chk_true (by omega), set_take o _ _ (by omega), splitAt_none hmem]
  ·simp
 unfold strings_Split
 rw [key]; rfl
def allI {α : Type} (q : Nat → α → Bool) : Nat → List α → Bool
 | _, [] => true
 | i, x :: l => q i x && allI q (i + 1) l
section
variable {Z α : Type}
theorem forL_allI {f : Nat → α → Unit → (Unit → Option Z) → (Unit → Option Z) → Option Z} {z : Z} (q : Nat → α → Bool) (hf : ∀ i x nx k, f i x () nx k = bif q i x then nx () else some z) (k : Unit → Option Z) :
  ∀ (l : List α) (i : Nat), forL l i f () k = bif allI q i l then k () else some z
 | [], i => rfl
 | x :: l, i => by
  unfold forL allI
  rw [hf, forL_allI q hf k l (i + 1)]
  cases q i x <;> rfl
end
def smallB (c : UInt8) : Bool := decide (97 ≤ (c.toNat : Int)) && decide ((c.toNat : Int) ≤ 122)
def digitB (c : UInt8) : Bool := decide (48 ≤ (c.toNat : Int)) && decide ((c.toNat : Int) ≤ 57)
def nameB (c : UInt8) : Bool := ((smallB c || digitB c) || decide ((c.toNat : Int) = 45)) || decide ((c.toNat : Int) = 46)
def nameOk (s : Str) : Bool := ((s.all nameB && (!decide (s = []) && decide ((s.length : Int) ≤ 40))) && smallB (s.getD 0 0))
theorem orG (a b : Bool) : (a || bif !a then b else false) = (a || b) := by cases a <;> rfl
theorem ver_IsName_1_eq (c : UInt8) : ver_IsName_1 (c.toNat : Int) = some (nameB c) := by
 unfold ver_IsName_1 ver_isSmall ver_isDigit
 simp only [call_some, callG_some, orG]
 rfl
theorem ver_IsName_eq (s : Str) : ver_IsName s = some (nameOk s) := by
 unfold ver_IsName ver_each_i1
 simp only [jp_eq]
 rw [forL_all nameB (fun i x nx k => by simp only [ver_IsName_1_eq, call_some]; cases nameB x <;> rfl)]
 simp only [condS, call_some]
 rw [chk_true]
 ·unfold ver_isSmall
  simp only [callG_some]
  unfold nameOk smallB
  generalize hA : s.all nameB = A
  cases A <;> simp only [cond_true, cond_false, Bool.false_and, Bool.true_and]
  generalize hB : (!decide (s = []) && decide ((s.length : Int) ≤ 40)) = B
  cases B <;> rfl
 ·intro h
  cases s with
  | nil => cases hA : List.all [] nameB <;> rw [hA] at h <;> simp at h
  | cons => simp only [List.length_cons]; omega
theorem allI_all {α : Type} {q : Nat → α → Bool} {p : α → Bool} : ∀ (l : List α) (i : Nat), (∀ j x, i ≤ j → q j x = p x) → allI q i l = l.all p
 | [], i, _ => rfl
 | x :: l, i, h => by
  unfold allI
  rw [h i x (Nat.le_refl _), allI_all l (i + 1) (fun j x hj => h j x (by omega)), List.all_cons]
theorem R_IsName_eq (s : Str) : R_IsName s = some (nameOk s) := by
 unfold R_IsName
 simp only [jp_eq]
 refine (forL_allI (z := false) (fun i c => !((decide ((i : Int) = 0) && !smallB c) || !nameB c)) (fun i c nx k => ?_) _ _ _).trans ?_
 ·rw [condN]
  congr 1
  unfold nameB smallB digitB
  rw [Bool.eq_iff_iff]
  simp only [Bool.or_eq_true, Bool.and_eq_true, Bool.not_eq_true', decide_eq_true_eq, Bool.or_eq_false_iff, Bool.and_eq_false_iff, decide_eq_false_iff_not, Bool.not_eq_false']
  omega
 simp only [condS]
 congr 1
 unfold nameOk
 cases s with
 | nil => rfl
 | cons x l =>
  unfold allI
  rw [allI_all (p := nameB) l 1 (fun j x hj => by rw [decide_eq_false (by omega)]; cases nameB x <;> rfl), List.all_cons]
  simp only [List.getD_cons_zero]
  cases nameB x <;> cases smallB x <;> cases l.all nameB <;> simp
def valB (c : UInt8) : Bool := decide (32 ≤ (c.toNat : Int)) && decide ((c.toNat : Int) ≤ 126)
def valueOk (s : Str) : Bool := s.all valB && decide ((s.length : Int) ≤ 1000)
theorem R_IsValue_eq (s : Str) : R_IsValue s = some (valueOk s) := by
 unfold R_IsValue
 simp only [jp_eq]
 refine (forL_all (z := false) valB (fun i c nx k => ?_) _ _ _).trans ?_
 ·rw [condN]
  congr 1
  unfold valB
  rw [Bool.eq_iff_iff]
  simp only [Bool.or_eq_true, Bool.and_eq_true, Bool.not_eq_true', decide_eq_true_eq, Bool.or_eq_false_iff, Bool.and_eq_false_iff, decide_eq_false_iff_not, Bool.not_eq_false']
  omega
 ·simp only [condS]
  unfold valueOk
  cases s.all valB <;> rfl
theorem ver_IsValue_eq (s : Str) : ver_IsValue s = some (valueOk s) := by
 unfold ver_IsValue ver_each_i3
 simp only [jp_eq]
 rw [forL_all valB (fun i x nx k => by unfold ver_IsValue_1 valB; simp only [call_some]; rw [condN, Bool.not_not])]
 simp only [condS, callG_some]
 unfold valueOk
 cases s with
 | nil => rfl
 | cons x l => simp only [show decide (x :: l = []) = false from rfl, Bool.not_false, Bool.true_and, cond_true, Bool.false_or]; cases List.all (x :: l) valB <;> rfl
def partB (c : UInt8) : Bool := ((((smallB c || (decide (65 ≤ (c.toNat : Int)) && decide ((c.toNat : Int) ≤ 90))) || digitB c) || decide ((c.toNat : Int) = 45)) || decide ((c.toNat : Int) = 46)) || decide ((c.toNat : Int) = 95)
def partOk (s : Str) : Bool := ((s.all partB && (!decide (s = []) && decide ((s.length : Int) ≤ 40))) && !decide (s = [46])) && !decide (s = [46, 46])
theorem R_isPart_eq (s : Str) : R_isPart s = some (partOk s) := by
 unfold R_isPart
 simp only [jp_eq]
 refine (forL_all (z := false) partB (fun i c nx k => ?_) _ _ _).trans ?_
 ·rw [condN]
  congr 1
  unfold partB smallB digitB
  rw [Bool.eq_iff_iff]
  simp only [Bool.or_eq_true, Bool.and_eq_true, Bool.not_eq_true', decide_eq_true_eq, Bool.or_eq_false_iff, Bool.and_eq_false_iff, decide_eq_false_iff_not, Bool.not_eq_false']
  omega
 ·simp only [condS]
  unfold partOk
  cases s.all partB <;> rfl
theorem orG3 (a b d : Bool) : ((a || b) || bif !(a || b) then d else false) = ((a || b) || d) := by cases a <;> cases b <;> rfl
theorem ver_isPart_eq (s : Str) : ver_isPart s = some (partOk s) := by
 unfold ver_isPart ver_each_i2
 simp only [jp_eq]
 rw [forL_all partB (fun i x nx k => by
  unfold ver_isPart_1 partB ver_isSmall ver_isDigit smallB digitB
  simp only [call_some, callG_some, orG3]
  rw [condN, Bool.not_not])]
 simp only [condS, call_some]
 unfold partOk
 cases s.all partB <;> rfl
def pathOk (s : Str) : Bool := (splitAt 47 s).all partOk && decide ((s.length : Int) ≤ 200)
theorem R_IsPath_eq (s : Str) (hs : s.length ≤ 17179869184) : R_IsPath s = some (pathOk s) := by
 unfold R_IsPath pathOk
 simp only [jp_eq, split_eq s 47 hs, call_some]
 rw [forL_all partOk (fun i x nx k => by rw [R_isPart_eq, call_some, condN, Bool.not_not])]
 cases (splitAt 47 s).all partOk <;> rfl
theorem ver_IsPath_eq (s : Str) (hs : s.length ≤ 17179869184) : ver_IsPath s = some (pathOk s) := by
 unfold ver_IsPath pathOk
 simp only [jp_eq, split_eq s 47 hs, call_some]
 rw [forL_all partOk (fun i x nx k => by rw [ver_isPart_eq, call_some, condN, Bool.not_not])]
 cases (splitAt 47 s).all partOk <;> rfl
theorem when_eq (b : Bool) (e : Int) : R_when b e = some (bif b then e else 0) := by cases b <;> rfl
def or2 (a b : Int) : Int := bif !decide (a = 0) then a else b
theorem first1 (a : Int) : R_first [a] = some a := by
 unfold R_first
 simp only [jp_eq, forL]
 by_cases h : a = 0
 ·subst h; rfl
 ·rw [decide_eq_false h]; rfl
theorem first_cons (a : Int) (l : List Int) (r : Int) (h : R_first l = some r) : R_first (a :: l) = some (or2 a r) := by
 unfold R_first at *
 simp only [jp_eq, forL] at *
 unfold or2
 by_cases ha : a = 0
 ·subst ha
  simp only [decide_true, Bool.not_true, cond_false]
  rw [← h]
  have : ∀ (l : List Int) (i j : Nat), forL l i (fun i_14 e_16 s nx_13 k_12 => bif !decide (e_16 = 0) then some e_16 else nx_13 ()) () (fun _ => some (0 : Int)) = forL l j (fun i_14 e_16 s nx_13 k_12 => bif !decide (e_16 = 0) then some e_16 else nx_13 ()) () (fun _ => some (0 : Int)) := by
   intro l
   induction l with
   | nil => intro i j; rfl
   | cons x l ih => intro i j; unfold forL; simp only [ih (i + 1) (j + 1)]
  exact this l _ _
 ·rw [decide_eq_false ha]; rfl
theorem first2 (a b : Int) : R_first [a, b] = some (or2 a b) := first_cons a _ _ (first1 b)
theorem first3 (a b c : Int) : R_first [a, b, c] = some (or2 a (or2 b c)) := first_cons a _ _ (first2 b c)
def eSet (s : api_Setting) : Int := bif !pathOk s.Key then 5 else bif !valueOk s.Value then 2 else 0
def eFile (f : api_File) : Int := bif !pathOk f.Path then 5 else bif decide (65536 < (f.Data.length : Int)) then 4 else 0
def eSvc (s : api_Service) : Int := bif !nameOk s.Name || !pathOk s.Path then 5 else 0
section
variable {Z α : Type} {e : α → Int} {nm : α → Str}
end
def Sm (s : Str) : Prop := s.length ≤ 17179869184
theorem R_fileError_eq (f : api_File) (h : Sm f.Path) : R_fileError f = some (eFile f) := by
 unfold R_fileError
 rw [R_IsPath_eq _ h]
 simp only [call_some, when_eq, first2]
 unfold eFile or2
 cases pathOk f.Path <;> rfl
theorem R_settingError_eq (f : api_Setting) (h : Sm f.Key) : R_settingError f = some (eSet f) := by
 unfold R_settingError
 rw [R_IsPath_eq _ h, R_IsValue_eq]
 simp only [call_some, when_eq, first2]
 unfold eSet or2
 cases pathOk f.Key <;> rfl
theorem R_serviceError_eq (f : api_Service) (h : Sm f.Path) : R_serviceError f = some (eSvc f) := by
 unfold R_serviceError
 rw [R_IsPath_eq _ h, R_IsName_eq]
 simp only [call_some, callG_some, when_eq]
 unfold eSvc
 cases nameOk f.Name <;> cases pathOk f.Path <;> rfl
theorem D_fileFault_eq (f : api_File) (h : Sm f.Path) : disk_fileFault f = some (eFile f) := by
 unfold disk_fileFault
 rw [ver_IsPath_eq _ h]
 simp only [call_some]
 unfold eFile
 cases pathOk f.Path
 ·rfl
 ·simp only [Bool.not_true, cond_false, condS]
theorem D_svc_eq (f : api_Service) (h : Sm f.Path) : disk_serviceFault f = some (eSvc f) := by
 unfold disk_serviceFault
 rw [ver_IsPath_eq _ h, ver_IsName_eq]
 simp only [call_some, callG_some]
 unfold eSvc
 cases nameOk f.Name <;> cases pathOk f.Path <;> rfl
def noFile : api_File := ⟨[], [], false⟩
def noSet : api_Setting := ⟨[], []⟩
def noSvc : api_Service := ⟨[], [], false, false⟩
def eNeed (c : api_Change) : Int :=
 bif decide (c.Kind = 1) then eFile c.File else
 bif decide (c.Kind = 2) then (bif !pathOk c.File.Path then 5 else 0) else
 bif decide (c.Kind = 3) then eSet c.Setting else
 bif decide (c.Kind = 4) then (bif !pathOk c.Setting.Key then 5 else 0) else
 bif decide (c.Kind = 5) then eSvc c.Service else
 bif !nameOk c.Service.Name then 5 else 0
def keptC (c : api_Change) : api_Change :=
 bif decide (c.Kind = 1) then ⟨c.Kind, c.File, noSet, noSvc⟩ else
 bif decide (c.Kind = 2) then ⟨c.Kind, ⟨c.File.Path, [], false⟩, noSet, noSvc⟩ else
 bif decide (c.Kind = 3) then ⟨c.Kind, noFile, c.Setting, noSvc⟩ else
 bif decide (c.Kind = 4) then ⟨c.Kind, noFile, ⟨c.Setting.Key, []⟩, noSvc⟩ else
 bif decide (c.Kind = 5) then ⟨c.Kind, noFile, noSet, c.Service⟩ else
 ⟨c.Kind, noFile, noSet, ⟨c.Service.Name, [], false, false⟩⟩
def isKind (c : api_Change) : Bool := decide (1 ≤ c.Kind) && decide (c.Kind ≤ 6)
def eqFile (a b : api_File) : Bool := decide (a.Path = b.Path) && (decide (a.Data = b.Data) && decide (a.Runs = b.Runs))
def eqSet (a b : api_Setting) : Bool := decide (a.Key = b.Key) && decide (a.Value = b.Value)
def eqSvc (a b : api_Service) : Bool := decide (a.Name = b.Name) && (decide (a.Path = b.Path) && (decide (a.Auto = b.Auto) && decide (a.On = b.On)))
def eqC (a b : api_Change) : Bool := (eqFile a.File b.File && (eqSet a.Setting b.Setting && eqSvc a.Service b.Service))
def eCh (c : api_Change) : Int := bif !isKind c then 1 else bif decide (eNeed c = 0) && !eqC c (keptC c) then 2 else eNeed c
structure SmC (c : api_Change) : Prop where
 fp : Sm c.File.Path
 sp : Sm c.Setting.Key
 vp : Sm c.Service.Path
theorem D_set2 (f : api_Setting) (h : Sm f.Key) : disk_settingFault_i1 f = some (eSet f) := by
 unfold disk_settingFault_i1
 rw [ver_IsPath_eq _ h, ver_IsValue_eq]
 simp only [call_some]
 unfold eSet
 cases pathOk f.Key <;> cases valueOk f.Value <;> rfl
theorem value_nil : valueOk [] = true := rfl
theorem eFile_nil (p : Str) : eFile ⟨p, [], false⟩ = bif !pathOk p then 5 else 0 := by
 unfold eFile
 cases pathOk p <;> rfl
theorem eSet_nil (p : Str) : eSet ⟨p, []⟩ = bif !pathOk p then 5 else 0 := by
 unfold eSet
 simp only [value_nil]
 cases pathOk p <;> rfl
theorem kinds6 {n : Int} (h : (decide (1 ≤ n) && decide (n ≤ 6)) = true) : n = 1 ∨ n = 2 ∨ n = 3 ∨ n = 4 ∨ n = 5 ∨ n = 6 := by
 simp only [Bool.and_eq_true, decide_eq_true_eq] at h
 omega
theorem kinds0 {n : Int} (h : (decide (1 ≤ n) && decide (n ≤ 6)) = false) : decide (n = 1) = false ∧ decide (n = 2) = false ∧ decide (n = 3) = false ∧ decide (n = 4) = false ∧ decide (n = 5) = false ∧ decide (n = 6) = false := by
 simp only [Bool.and_eq_false_iff, decide_eq_false_iff_not] at h
 refine ⟨?_, ?_, ?_, ?_, ?_, ?_⟩ <;> (simp only [decide_eq_false_iff_not]; omega)
theorem D_change_eq (c : api_Change) (h : SmC c) : disk_CheckChange c = some (eCh c) := by
 unfold disk_CheckChange eCh isKind
 simp only [jp_eq]
 cases hk : decide (1 ≤ c.Kind) && decide (c.Kind ≤ 6)
 ·obtain ⟨h1, h2, h3, h4, h5, h6⟩ := kinds0 hk
  rw [h1, h2, h3, h4, h5, h6]
  rfl
 ·simp only [Bool.not_true, cond_false]
  rw [D_fileFault_eq _ h.fp, D_fileFault_eq _ (show Sm (api_File.mk c.File.Path [] false).Path from h.fp), D_set2 _ h.sp, D_set2 _ (show Sm (api_Setting.mk c.Setting.Key []).Key from h.sp), D_svc_eq _ h.vp, ver_IsName_eq]
  simp only [call_some, eFile_nil, eSet_nil, decide_true, Bool.true_and]
  unfold eNeed keptC
  rcases kinds6 hk with e | e | e | e | e | e
  all_goals
   rw [e]
   simp only [show decide ((1 : Int) = 1) = true from rfl, show decide ((2 : Int) = 1) = false from rfl, show decide ((2 : Int) = 2) = true from rfl, show decide ((3 : Int) = 1) = false from rfl, show decide ((3 : Int) = 2) = false from rfl, show decide ((3 : Int) = 3) = true from rfl, show decide ((4 : Int) = 1) = false from rfl, show decide ((4 : Int) = 2) = false from rfl, show decide ((4 : Int) = 3) = false from rfl, show decide ((4 : Int) = 4) = true from rfl,
    show decide ((5 : Int) = 1) = false from rfl, show decide ((5 : Int) = 2) = false from rfl, show decide ((5 : Int) = 3) = false from rfl, show decide ((5 : Int) = 4) = false from rfl, show decide ((5 : Int) = 5) = true from rfl, show decide ((6 : Int) = 1) = false from rfl, show decide ((6 : Int) = 2) = false from rfl, show decide ((6 : Int) = 3) = false from rfl, show decide ((6 : Int) = 4) = false from rfl, show decide ((6 : Int) = 5) = false from rfl, show decide ((6 : Int) = 6) = true from rfl, decide_true, cond_true, cond_false]
   simp only [condS, eqC, eqFile, eqSet, eqSvc, noFile, noSet, noSvc, decide_true, Bool.true_and, Bool.and_true, Bool.and_assoc]
  ·rfl
  ·rfl
  ·rfl
  ·rfl
  ·rfl
  ·cases nameOk c.Service.Name <;> rfl
theorem or2_when (a : Int) (q : Bool) : or2 a (bif !q then 2 else 0) = bif decide (a = 0) && !q then 2 else a := by
 unfold or2
 by_cases h : a = 0
 ·subst h; cases q <;> rfl
 ·rw [decide_eq_false h]; rfl
theorem R_change_eq (c : api_Change) (h : SmC c) : R_ChangeError c = some (eCh c) := by
 unfold R_ChangeError eCh isKind
 simp only [jp_eq]
 cases hk : decide (1 ≤ c.Kind) && decide (c.Kind ≤ 6)
 ·obtain ⟨h1, h2, h3, h4, h5, h6⟩ := kinds0 hk
  rw [h1, h2, h3, h4, h5, h6]
  rfl
 ·simp only [Bool.not_true, cond_false]
  rw [R_fileError_eq _ h.fp, R_settingError_eq _ h.sp, R_serviceError_eq _ h.vp, R_IsName_eq, R_IsPath_eq _ h.fp, R_IsPath_eq _ h.sp]
  simp only [call_some, when_eq, first2, decide_true, Bool.true_and, or2_when]
  unfold eNeed keptC
  rcases kinds6 hk with e | e | e | e | e | e
  all_goals
   rw [e]
   simp only [show decide ((1 : Int) = 1) = true from rfl, show decide ((2 : Int) = 1) = false from rfl, show decide ((2 : Int) = 2) = true from rfl, show decide ((3 : Int) = 1) = false from rfl, show decide ((3 : Int) = 2) = false from rfl, show decide ((3 : Int) = 3) = true from rfl, show decide ((4 : Int) = 1) = false from rfl, show decide ((4 : Int) = 2) = false from rfl, show decide ((4 : Int) = 3) = false from rfl, show decide ((4 : Int) = 4) = true from rfl,
    show decide ((5 : Int) = 1) = false from rfl, show decide ((5 : Int) = 2) = false from rfl, show decide ((5 : Int) = 3) = false from rfl, show decide ((5 : Int) = 4) = false from rfl, show decide ((5 : Int) = 5) = true from rfl, show decide ((6 : Int) = 1) = false from rfl, show decide ((6 : Int) = 2) = false from rfl, show decide ((6 : Int) = 3) = false from rfl, show decide ((6 : Int) = 4) = false from rfl, show decide ((6 : Int) = 5) = false from rfl, show decide ((6 : Int) = 6) = true from rfl, decide_true, cond_true, cond_false]
   simp only [condS, eqC, eqFile, eqSet, eqSvc, noFile, noSet, noSvc, decide_true, Bool.true_and, Bool.and_true, Bool.and_assoc]
  ·rfl
  ·rfl
  ·rfl
  ·rfl
  ·rfl
  ·rfl
theorem wrapU (n : Nat) (h : n < 18446744073709551616) : IntKind.u64.wrap (n : Int) = n := by
 unfold IntKind.wrap
 simp only [IntKind.bits, IntKind.signed, Bool.false_and, Bool.false_eq_true, if_false]
 omega
theorem wrapU_range (n : Int) : ∃ m : Nat, IntKind.u64.wrap n = m ∧ m < 18446744073709551616 := by
 refine ⟨(n % 18446744073709551616).toNat, ?_, by omega⟩
 unfold IntKind.wrap
 simp only [IntKind.bits, IntKind.signed, Bool.false_and, Bool.false_eq_true, if_false]
 omega
theorem shr_eq (n c : Nat) (k : IntKind) (hc : c ≤ k.bits) : Int.fdiv (n : Int) (2 ^ (shI k (c : Int))) = ((n / 2 ^ c : Nat) : Int) := by
 have : shI k (c : Int) = c := by unfold shI; simp; omega
 rw [this, Int.fdiv_eq_ediv_of_nonneg _ (Int.le_of_lt (Int.pow_pos (by decide)))]
 rw [Int.natCast_ediv, Int.natCast_pow]; rfl
theorem and_mask (n c m : Nat) (h : n < 18446744073709551616) (hm : m = 2 ^ c - 1) (hc : c < 64) : bitsI .and .u64 (n : Int) (m : Int) = ((n % 2 ^ c : Nat) : Int) := by
 subst hm
 have h1 : 2 ^ c ≤ 2 ^ 63 := Nat.pow_le_pow_right (by decide) (by omega)
 show IntKind.u64.wrap (((BitVec.ofInt 64 (n : Int) &&& BitVec.ofInt 64 ((2 ^ c - 1 : Nat) : Int)).toNat : Nat) : Int) = _
 rw [BitVec.toNat_and, BitVec.toNat_ofInt, BitVec.toNat_ofInt]
 have e1 : ((n : Int) % ((2 ^ 64 : Nat) : Int)).toNat = n := by omega
 have e2 : (((2 ^ c - 1 : Nat) : Int) % ((2 ^ 64 : Nat) : Int)).toNat = 2 ^ c - 1 := by omega
 rw [e1, e2, Nat.and_two_pow_sub_one_eq_mod]
 exact wrapU _ (Nat.lt_of_le_of_lt (Nat.mod_le _ _) h)
theorem forL_fold {Z S α : Type} (g : S → α → S) (k : S → Option Z) : ∀ (l : List α) (i : Nat) (s : S), forL l i (fun _ c s nx _ => nx (g s c)) s k = k (l.foldl g s)
 | [], _, _ => rfl
 | x :: l, i, s => by
  unfold forL
  exact forL_fold g k l (i + 1) (g s x)
theorem set_map_range {α : Type} (n i : Nat) (f : Nat → α) (v : α) : ((List.range n).map f).set i v = (List.range n).map (fun j => if j = i then v else f j) := by
 apply List.ext_getElem
 ·simp
 ·intro j h1 h2
  simp only [List.getElem_set, List.getElem_map, List.getElem_range]
  by_cases h : i = j
  ·subst h; simp
  ·rw [if_neg h, if_neg (Ne.symm h)]
theorem strOf_map {α : Type} (l : List α) (f : α → UInt8) : Go.Vc.strOf (l.map fun x => ((f x).toNat : Int)) = l.map f := by
 unfold Go.Vc.strOf
 simp
def HXs : Str := [48, 49, 50, 51, 52, 53, 54, 55, 56, 57, 97, 98, 99, 100, 101, 102]
def D36 : Str := [48, 49, 50, 51, 52, 53, 54, 55, 56, 57, 97, 98, 99, 100, 101, 102, 103, 104, 105, 106, 107, 108, 109, 110, 111, 112, 113, 114, 115, 116, 117, 118, 119, 120, 121, 122]
def dg (n : Nat) : UInt8 := HXs.getD n 0
def hx : Nat → Nat → Str
 | 0, _ => []
 | k + 1, n => hx k (n / 16) ++ [dg (n % 16)]
def hashI (h : Int) (c : UInt8) : Int := IntKind.u64.wrap ((bitsI .xor .u64 h (IntKind.u64.wrap (c.toNat : Int))) * 1099511628211)
def hashZ (s : Str) : Int := s.foldl hashI 14695981039346656037
def sumS (s : Str) : Str := hx 16 (hashZ s).toNat
theorem hashZ_nat (s : Str) : ∃ n : Nat, hashZ s = n ∧ n < 18446744073709551616 := by
 have : ∀ (s : Str) (h : Int), (∃ n : Nat, h = n ∧ n < 18446744073709551616) → ∃ n : Nat, s.foldl hashI h = n ∧ n < 18446744073709551616 := by
  intro s
  induction s with
  | nil => exact fun h hh => hh
  | cons c s ih => exact fun h _ => ih _ (wrapU_range _)
 exact this s _ ⟨14695981039346656037, rfl, by decide⟩
theorem dg_d36 : ∀ m : Fin 16, D36.getD m.val 0 = dg m.val := by decide
theorem idx_hx {Z : Type} (m : Nat) (h : m < 16) (k : Int → Option Z) : idxS HXs (m : Int) k = k ((dg m).toNat : Int) := by
 rw [idxS_eq (by simpa [HXs] using h)]
 simp only [dg, List.getD_eq_getElem?_getD, List.getElem?_eq_getElem (show m < HXs.length by simpa [HXs] using h), Option.getD_some]
theorem idx_d36 {Z : Type} (m : Nat) (h : m < 16) (k : Int → Option Z) : idxS D36 (m : Int) k = k ((dg m).toNat : Int) := by
 have hl : m < D36.length := by simp [D36]; omega
 rw [idxS_eq hl, ← dg_d36 ⟨m, h⟩]
 simp only [List.getD_eq_getElem?_getD, List.getElem?_eq_getElem hl, Option.getD_some]
theorem hx16 (n : Nat) : (List.range 16).map (fun j => dg (n / 2 ^ (60 - 4 * j) % 16)) = hx 16 n := by
 simp only [hx, List.range, List.range.loop, List.map_cons, List.map_nil, Nat.div_div_eq_div_mul, List.nil_append, List.cons_append]
 simp
theorem disk_SumOf_eq (s : Str) : disk_SumOf s = some (sumS s) := by
 obtain ⟨n, hn, hlt⟩ := hashZ_nat s
 unfold disk_SumOf
 obtain ⟨N, hN⟩ : ∃ N, Fuel = N := ⟨_, rfl⟩
 have hF : 1099511627776 ≤ N := hN ▸ fuel_ge
 rw [hN]
 show forL s 0 (fun _ c h nx _ => nx (hashI h c)) 14695981039346656037 _ = _
 rw [forL_fold]
 show jp _ (fun k_27 => loopN N _ _ _) = _
 rw [show s.foldl hashI 14695981039346656037 = (n : Int) from hn]
 unfold jp
 let arr := fun i : Nat => (List.range 16).map fun j => if j < i then ((dg (n / 2 ^ (60 - 4 * j) % 16)).toNat : Int) else 0
 refine (loopN_run (fun s => ∃ i : Nat, s.1 = (i : Int) ∧ i ≤ 16 ∧ s.2 = arr i) (fun s => 16 - s.1.toNat) (fun _ => some (sumS s)) ?_ N _ ⟨0, rfl, by omega, ?_⟩ (by show 16 - Int.toNat 0 < N; simp; omega)).trans rfl
 ·rintro ⟨t, o⟩ nx ⟨i, h1, hi, h2⟩ hnx
  obtain rfl : t = i := h1
  obtain rfl : o = arr i := h2
  simp only [List.length_replicate]
  by_cases h : i < 16
  ·rw [bif_t (decide_eq_true (by omega))]
   have e1 : IntKind.i64.wrap (60 - IntKind.i64.wrap (4 * (i : Int))) = ((60 - 4 * i : Nat) : Int) := by
    rw [wrapS (n := 4 * (i : Int)) (by omega) (by omega), wrapS (by omega) (by omega)]; omega
   rw [e1, chk_true (by omega), shr_eq _ _ _ (by simp only [IntKind.bits]; omega)]
   rw [show (15 : Int) = ((15 : Nat) : Int) from rfl, and_mask _ 4 15 (Nat.lt_of_le_of_lt (Nat.div_le_self _ _) hlt) (by decide) (by decide)]
   show idxS HXs _ _ = _
   rw [idx_hx _ (Nat.mod_lt _ (by decide)), chk_true (by simp [arr]; omega), wrap1 i (by omega)]
   refine hnx _ ⟨i + 1, rfl, by omega, ?_⟩ ?_
   ·show List.set (arr i) (Int.toNat (i : Int)) _ = _
    rw [Int.toNat_natCast]
    show ((List.range 16).map _).set i _ = (List.range 16).map _
    rw [set_map_range]
    apply List.map_congr_left
    intro j _
    by_cases hj : j = i
    ·subst hj; rw [if_pos rfl, if_pos (by omega)]
    ·rw [if_neg hj]
     by_cases hj' : j < i
     ·rw [if_pos hj', if_pos (by omega)]
     ·rw [if_neg hj', if_neg (by omega)]
   ·show 16 - Int.toNat ((i + 1 : Nat) : Int) < 16 - Int.toNat (i : Int)
    rw [Int.toNat_natCast, Int.toNat_natCast]; omega
  ·rw [bif_f (decide_eq_false (by omega))]
   obtain rfl : i = 16 := by omega
   show some (Go.Vc.strOf (arr 16)) = _
   have : arr 16 = (List.range 16).map fun j => ((dg (n / 2 ^ (60 - 4 * j) % 16)).toNat : Int) := by
    apply List.map_congr_left
    intro j hj
    rw [if_pos (List.mem_range.1 hj)]
   rw [this, strOf_map, hx16]
   unfold sumS
   rw [hn]; rfl
 ·show List.replicate 16 (0 : Int) = _
  apply List.ext_getElem
  ·simp [arr]
  ·intro j h1 h2
   rw [List.getElem_replicate]
   simp only [arr, List.getElem_map, List.getElem_range]
   rfl
def fm : Nat → Nat → Str
 | 0, n => [dg n]
 | k + 1, n => if n < 16 then [dg n] else fm k (n / 16) ++ [dg (n % 16)]
theorem hx_zero : ∀ k : Nat, hx k 0 = List.replicate k 48
 | 0 => rfl
 | k + 1 => by
  show hx k (0 / 16) ++ [dg (0 % 16)] = _
  rw [Nat.zero_div, hx_zero k, List.replicate_succ']; rfl
theorem fm_len : ∀ k n : Nat, 1 ≤ (fm k n).length ∧ (fm k n).length ≤ k + 1
 | 0, n => by simp [fm]
 | k + 1, n => by
  have := fm_len k (n / 16)
  simp only [fm]
  split <;> simp <;> omega
theorem fm_pad : ∀ k n : Nat, n < 16 ^ (k + 1) → List.replicate (k + 1 - (fm k n).length) 48 ++ fm k n = hx (k + 1) n
 | 0, n, h => by
  have : n % 16 = n := Nat.mod_eq_of_lt (by simpa using h)
  simp [fm, hx, this]
 | k + 1, n, h => by
  have hl := fm_len k (n / 16)
  simp only [fm]
  split
  ·rename_i h16
   have e1 : n / 16 = 0 := Nat.div_eq_of_lt h16
   have e2 : n % 16 = n := Nat.mod_eq_of_lt h16
   show _ = hx (k + 1) (n / 16) ++ [dg (n % 16)]
   rw [e1, e2, hx_zero]; rfl
  ·have ih := fm_pad k (n / 16) (by rw [Nat.pow_succ] at h; omega)
   show _ = hx (k + 1) (n / 16) ++ [dg (n % 16)]
   rw [← ih, List.length_append, List.append_assoc]
   congr 2
   simp
theorem tz16 : math_bits_TrailingZeros (IntKind.u64.wrap 16) = some 4 := by decide +kernel
theorem pow16 : internal_strconv_isPowerOfTwo 16 = some true := by decide +kernel
theorem set_drop (l : List Int) (i : Nat) (v : Int) (h : i < l.length) : (l.set i v).drop i = v :: l.drop (i + 1) := by
 rw [List.drop_set]
 simp only [Nat.lt_irrefl, if_false, Nat.sub_self]
 rw [List.drop_eq_getElem_cons h]
 rfl
theorem strOf_cons' (v : UInt8) (l : List Int) : Go.Vc.strOf ((v.toNat : Int) :: l) = v :: Go.Vc.strOf l := by simp [Go.Vc.strOf]
theorem formatBits16 (n : Nat) (h : n < 18446744073709551616) : internal_strconv_formatBits [] (n : Int) 16 false false = some ([], fm 15 n) := by
 unfold internal_strconv_formatBits
 obtain ⟨N, hN⟩ : ∃ N, Fuel = N := ⟨_, rfl⟩
 have hF : 1099511627776 ≤ N := hN ▸ fuel_ge
 rw [hN]
 simp only [pow16, tz16, call_some, jp, cond_true, cond_false, show decide ((16 : Int) < 2) = false from rfl, show decide ((16 : Int) = 10) = false from rfl, show decide ((36 : Int) < 16) = false from rfl, Bool.or_self]
 have hw : IntKind.u64.wrap 16 = 16 := by decide
 have hw4 : IntKind.u64.wrap 4 = ((4 : Nat) : Int) := by decide
 have hw15 : IntKind.u64.wrap (16 - 1) = ((15 : Nat) : Int) := by decide
 rw [hw, hw4, hw15]
 refine (loopN_run (fun s => ∃ m j : Nat, s.1 = (m : Int) ∧ s.2.1 = (j : Int) ∧ j ≤ 65 ∧ 50 ≤ j ∧ m < 16 ^ (j - 49) ∧ s.2.2.length = 65 ∧ fm 15 n = fm (j - 50) m ++ Go.Vc.strOf (s.2.2.drop j)) (fun s => s.2.1.toNat) (fun _ => some ([], fm 15 n)) ?_ N _ ⟨n, 65, rfl, rfl, by omega, by omega, by omega, by simp, by simp [Go.Vc.strOf]⟩ (by show Int.toNat 65 < N; simp; omega))
 rintro ⟨u, i, o⟩ nx ⟨m, j, h1, h2, hj, hj', hm, hl, hf⟩ hnx
 obtain rfl : u = m := h1
 obtain rfl : i = j := h2
 simp only
 simp only at hl hf
 have hmlt : m < 18446744073709551616 := Nat.lt_of_lt_of_le hm (Nat.le_trans (Nat.pow_le_pow_right (by decide) (show j - 49 ≤ 16 by omega)) (by decide))
 have e1 : IntKind.i64.wrap ((j : Int) - 1) = ((j - 1 : Nat) : Int) := wrapm1 j (by omega) (by omega)
 rw [e1]
 by_cases hc : 16 ≤ m
 ·rw [bif_t (decide_eq_true (by omega)), and_mask m 4 15 hmlt (by decide) (by decide)]
  show idxS D36 _ _ = _
  rw [idx_d36 _ (Nat.mod_lt _ (by decide)), chk_true (by omega), chk_true (by omega), shr_eq m 4 .u64 (by decide)]
  have h50 : 50 < j := by
   rcases Nat.lt_or_ge 50 j with h' | h'
   ·exact h'
   ·exfalso
    obtain rfl : j = 50 := by omega
    simp at hm; omega
  refine hnx _ ⟨m / 16, j - 1, rfl, rfl, by omega, by omega, ?_, by simpa using hl, ?_⟩ (by show Int.toNat _ < Int.toNat _; rw [Int.toNat_natCast, Int.toNat_natCast]; omega)
  ·have : 16 ^ (j - 49) = 16 ^ (j - 1 - 49) * 16 := by rw [← Nat.pow_succ]; congr 1; omega
   rw [this] at hm
   omega
  ·rw [hf, Int.toNat_natCast]
   rw [show j - 50 = (j - 1 - 50) + 1 by omega]
   simp only [fm]
   rw [if_neg (by omega), set_drop _ _ _ (by omega), strOf_cons', show j - 1 + 1 = j by omega, List.append_assoc]
   rfl
 ·rw [bif_f (decide_eq_false (by omega))]
  show idxS D36 _ _ = _
  rw [idx_d36 m (by omega), chk_true (by omega)]
  rw [chk_true (by simp only [List.length_set]; omega)]
  rw [Int.toNat_natCast, set_drop _ _ _ (by omega), show j - 1 + 1 = j by omega, List.take_of_length_le (by simp; omega), strOf_cons', hf]
  have : fm (j - 50) m = [dg m] := by
   cases e : j - 50 with
   | zero => rfl
   | succ k => simp only [fm]; rw [if_pos (by omega)]
  rw [this]; rfl
theorem FormatUint16 (n : Nat) (h : n < 18446744073709551616) : strconv_FormatUint (n : Int) 16 = some (fm 15 n) := by
 unfold strconv_FormatUint internal_strconv_FormatUint
 rw [formatBits16 n h]; rfl
theorem repeat0 : ∀ c : Fin 17, strings_Repeat [48] (c.val : Int) = some (List.replicate c.val 48) := by
 intro c
 obtain ⟨c, hc⟩ := c
 simp only
 unfold strings_Repeat
 obtain ⟨N, hN⟩ : ∃ N, Fuel = N := ⟨_, rfl⟩
 rw [hN]
 clear hN
 by_cases h0 : c = 0
 ·subst h0; rfl
 by_cases h1 : c = 1
 ·subst h1; rfl
 rw [bif_f (decide_eq_false (by omega)), bif_f (decide_eq_false (by omega))]
 have hm : ∀ c : Fin 17, math_bits_Mul (IntKind.u64.wrap (([48] : Str).length : Int)) (IntKind.u64.wrap (c.val : Int)) = some (0, (c.val : Int)) := by decide +kernel
 simp only [jp_eq]
 rw [bif_f (decide_eq_false (by omega)), hm ⟨c, hc⟩]
 simp only [call_some]
 rw [show decide ((0 : Int) < 0) = false from rfl, bif_f (by simp; omega)]
 rw [bif_f (by simp)]
 show idxS [48] ((0 : Nat) : Int) _ = _
 rw [idxS_eq (by simp)]
 simp only [List.getElem_cons_zero]
 rw [show decide (((48 : UInt8).toNat : Int) = 32) = false from rfl, show decide (((48 : UInt8).toNat : Int) = 45) = false from rfl, show decide (((48 : UInt8).toNat : Int) = 48) = true from rfl, cond_false, cond_false, cond_true, cond_true]
 have hp : ∀ (g : Bool) (a b : Str) (k : Bool → Option Str), strings_HasPrefix a b = some false → callG g (strings_HasPrefix a b) false k = k false := by
  intro g a b k h
  rw [h, callG_some]
  cases g <;> rfl
 have ew : IntKind.i64.wrap (c : Int) = c := wrapN c (by omega)
 rw [hp _ _ _ _ (by decide +kernel), Bool.and_false, cond_false, hp _ _ _ _ (by decide +kernel), Bool.and_false, cond_false, ew]
 rw [show strings_HasPrefix _ [48] = some true from by decide +kernel, callG_some, decide_eq_true (by omega : (c : Int) ≤ 64)]
 simp only [Bool.and_true, cond_true]
 have hk : ∀ c : Fin 17, List.take (Int.toNat (c.val : Int)) ([48, 48, 48, 48, 48, 48, 48, 48, 48, 48, 48, 48, 48, 48, 48, 48, 48, 48, 48, 48, 48, 48, 48, 48, 48, 48, 48, 48, 48, 48, 48, 48, 48, 48, 48, 48, 48, 48, 48, 48, 48, 48, 48, 48, 48, 48, 48, 48, 48, 48, 48, 48, 48, 48, 48, 48, 48, 48, 48, 48, 48, 48, 48, 48] : Str) = List.replicate c.val 48 := by decide
 rw [chk_true (by simp; omega), hk ⟨c, hc⟩]
theorem R_SumOf_eq (s : Str) : R_SumOf s = some (sumS s) := by
 obtain ⟨n, hn, hlt⟩ := hashZ_nat s
 unfold R_SumOf
 show jp _ (fun k => forL s 0 (fun _ c h nx _ => nx (hashI h c)) 14695981039346656037 _) = _
 simp only [jp_eq]
 rw [forL_fold]
 rw [show s.foldl hashI 14695981039346656037 = (n : Int) from hn, FormatUint16 n hlt]
 have hl := fm_len 15 n
 simp only [call_some]
 rw [show IntKind.i64.wrap (16 - ((fm 15 n).length : Int)) = ((16 - (fm 15 n).length : Nat) : Int) by rw [wrapS (by omega) (by omega)]; omega]
 have := repeat0 ⟨16 - (fm 15 n).length, by omega⟩
 simp only at this
 rw [this, call_some, chk_true (by simp; omega), fm_pad 15 n (by omega)]
 unfold sumS
 rw [hn]; rfl
section
variable {Z A S α : Type}
end
section
variable {Z α : Type}
end
section
variable {K V : Type} [DecidableEq K]
theorem alook_ne {m : List (K × V)} {p : K × V} {k : K} (h : ¬ p.1 = k) : alook (p :: m) k = alook m k := by rw [alook, decide_eq_false h]; rfl
theorem alook_eq {m : List (K × V)} {p : K × V} {k : K} (h : p.1 = k) : alook (p :: m) k = some p.2 := by rw [alook, decide_eq_true h]; rfl
theorem aset_ne {m : List (K × V)} {p : K × V} {k : K} {v : V} (h : ¬ p.1 = k) : aset (p :: m) k v = p :: aset m k v := by rw [aset, decide_eq_false h]; rfl
theorem aset_eq {m : List (K × V)} {p : K × V} {k : K} {v : V} (h : p.1 = k) : aset (p :: m) k v = (k, v) :: m := by rw [aset, decide_eq_true h]; rfl
theorem alook_aset : ∀ (m : List (K × V)) (k : K) (v : V) (k' : K), alook (aset m k v) k' = if k = k' then some v else alook m k'
 | [], k, v, k' => by
  simp only [aset, alook]
  by_cases h : k = k' <;> simp [h]
 | p :: m, k, v, k' => by
  unfold aset
  by_cases h : p.1 = k
  ·rw [decide_eq_true h, cond_true]
   simp only [alook]
   by_cases h' : k = k'
   ·simp [h']
   ·have : ¬ p.1 = k' := fun e => h' (h ▸ e)
    simp [h', this]
  ·rw [decide_eq_false h, cond_false]
   simp only [alook]
   rw [alook_aset m k v k']
   by_cases h' : k = k'
   ·have : ¬ p.1 = k' := fun e => h (e.trans h'.symm)
    simp [h', this]
   ·simp only [if_neg h']
theorem keys_aset : ∀ (m : List (K × V)) (k : K) (v : V), (aset m k v).map (·.1) = m.map (·.1) ++ if (alook m k).isSome then [] else [k]
 | [], k, v => by simp [aset, alook]
 | p :: m, k, v => by
  by_cases h : p.1 = k
  ·rw [aset_eq h, alook_eq h]; simp [h]
  ·rw [aset_ne h, alook_ne h, List.map_cons, keys_aset m k v]; rfl
theorem len_aset (m : List (K × V)) (k : K) (v : V) : (aset m k v).length = m.length + if (alook m k).isSome then 0 else 1 := by
 have := congrArg List.length (keys_aset m k v)
 simp only [List.length_map, List.length_append] at this
 rw [this]
 split <;> simp
end
section
variable {V A : Type}
variable {key : A → Str}
end
theorem same_loop {α : Type} (l : List α) (q : α → α → Bool) (hq : ∀ x, q x x = true) : ∀ (r : List α) (i : Nat), l.drop i = r → forL r i (fun i x (_ : Unit) nx (_ : Unit → Option Bool) => idx l (i : Int) fun y => bif !q x y then some false else nx ()) () (fun _ => some true) = some true
 | [], i, _ => rfl
 | x :: r, i, hd => by
  have hi : i < l.length := by
   rcases Nat.lt_or_ge i l.length with h | h
   ·exact h
   ·rw [List.drop_eq_nil_of_le h] at hd; cases hd
  have hx : l[i] = x := by
   have := List.drop_eq_getElem_cons hi
   rw [hd] at this
   exact (List.cons.inj this).1.symm
  have hd' : l.drop (i + 1) = r := by
   have := congrArg List.tail hd
   simpa using this
  unfold forL
  simp only [idx_eq hi, hx, hq, Bool.not_true, cond_false]
  exact same_loop l q hq r (i + 1) hd'
def chg (x : api_Item) : api_Change := bif decide (x.Kind = 5) then ⟨3, noFile, x.Setting, noSvc⟩ else bif decide (x.Kind = 6) then ⟨5, noFile, noSet, x.Service⟩ else ⟨1, x.File, noSet, noSvc⟩
def wid (x : api_Item) : api_Change := ⟨bif decide (x.Kind = 5) then 3 else bif decide (x.Kind = 6) then 5 else 1, x.File, x.Setting, x.Service⟩
def thg (k : Int) : Int := bif decide (k = 5) then 1 else bif decide (k = 6) then 2 else 0
structure SmI (x : api_Item) : Prop where
 fp : Sm x.File.Path
 sp : Sm x.Setting.Key
 vp : Sm x.Service.Path
theorem ChangeOf_eq (x : api_Item) : pack_ChangeOf x = some (chg x) := by
 unfold pack_ChangeOf chg
 cases decide (x.Kind = 5) <;> cases decide (x.Kind = 6) <;> rfl
theorem thing_eq (k : Int) : R_thingOf k = some (thg k) := by
 unfold R_thingOf thg
 cases decide (k = 5) <;> cases decide (k = 6) <;> rfl
theorem R_wid_eq (x : api_Item) : R_change x = some (wid x) := by
 unfold R_change wid
 rw [thing_eq, call_some]
 unfold thg
 cases decide (x.Kind = 5) <;> cases decide (x.Kind = 6) <;> rfl
theorem need_wid (x : api_Item) : eNeed (wid x) = eNeed (chg x) := by
 unfold eNeed wid chg
 cases decide (x.Kind = 5) <;> cases decide (x.Kind = 6) <;> rfl
theorem kept_wid (x : api_Item) : keptC (wid x) = chg x := by
 unfold keptC wid chg
 cases decide (x.Kind = 5) <;> cases decide (x.Kind = 6) <;> rfl
theorem eqFile_refl (a : api_File) : eqFile a a = true := by simp [eqFile]
theorem eqSet_refl (a : api_Setting) : eqSet a a = true := by simp [eqSet]
theorem eqSvc_refl (a : api_Service) : eqSvc a a = true := by simp [eqSvc]
theorem kept_chg (x : api_Item) : keptC (chg x) = chg x := by
 unfold keptC chg
 cases decide (x.Kind = 5) <;> cases decide (x.Kind = 6) <;> rfl
theorem kind_wid (x : api_Item) : isKind (wid x) = true := by
 unfold isKind wid
 cases decide (x.Kind = 5) <;> cases decide (x.Kind = 6) <;> rfl
theorem kind_chg (x : api_Item) : isKind (chg x) = true := by
 unfold isKind chg
 cases decide (x.Kind = 5) <;> cases decide (x.Kind = 6) <;> rfl
theorem eCh_chg (x : api_Item) : eCh (chg x) = eNeed (chg x) := by
 unfold eCh
 rw [kind_chg, kept_chg, show eqC (chg x) (chg x) = true by unfold eqC; rw [eqFile_refl, eqSet_refl, eqSvc_refl]; rfl]
 cases decide (eNeed (chg x) = 0) <;> rfl
theorem eCh_wid (x : api_Item) : eCh (wid x) = bif decide (eNeed (chg x) = 0) && !eqC (wid x) (chg x) then 2 else eNeed (chg x) := by
 unfold eCh
 rw [kind_wid, kept_wid, need_wid]
 rfl
theorem sm_chg {x : api_Item} (h : SmI x) : SmC (chg x) := by
 unfold chg
 have z : Sm ([] : Str) := Nat.zero_le _
 cases decide (x.Kind = 5) <;> cases decide (x.Kind = 6) <;> exact ⟨by first | exact h.fp | exact z, by first | exact h.sp | exact z, by first | exact h.vp | exact z⟩
theorem sm_wid {x : api_Item} (h : SmI x) : SmC (wid x) := ⟨h.fp, h.sp, h.vp⟩
def eItem (x : api_Item) : Int :=
 bif decide (x.Kind < 1) || decide (6 < x.Kind) then 1 else
 bif !decide (eNeed (chg x) = 0) then eNeed (chg x) else
 bif !eqC (wid x) (chg x) || x.Service.On then 2 else 0
theorem D_item_eq (x : api_Item) (h : SmI x) : keep_CheckItem x = some (eItem x) := by
 unfold keep_CheckItem pack_ItemFault eItem
 rw [ChangeOf_eq]
 simp only [call_some]
 rw [D_change_eq _ (sm_chg h)]
 simp only [call_some]
 rw [eCh_chg]
 have e : (decide True && (decide (x.File.Path = (chg x).File.Path) && (decide (x.File.Data = (chg x).File.Data) && (decide (x.File.Runs = (chg x).File.Runs) && (decide (x.Setting.Key = (chg x).Setting.Key) && (decide (x.Setting.Value = (chg x).Setting.Value) && (decide (x.Service.Name = (chg x).Service.Name) && (decide (x.Service.Path = (chg x).Service.Path) && (decide (x.Service.Auto = (chg x).Service.Auto) && decide (x.Service.On = (chg x).Service.On)))))))))) = eqC (wid x) (chg x) := by
  simp only [eqC, eqFile, eqSet, eqSvc, wid, decide_true, Bool.true_and, Bool.and_assoc]
  rfl
 rw [e]
 cases (decide (x.Kind < 1) || decide (6 < x.Kind)) <;> cases decide (eNeed (chg x) = 0) <;> cases (!eqC (wid x) (chg x) || x.Service.On) <;> rfl
theorem R_item_eq (x : api_Item) (h : SmI x) : R_ItemError x = some (eItem x) := by
 unfold R_ItemError eItem
 rw [R_wid_eq]
 simp only [call_some]
 rw [R_change_eq _ (sm_wid h)]
 simp only [call_some, when_eq, first2]
 rw [eCh_wid]
 unfold or2
 cases (decide (x.Kind < 1) || decide (6 < x.Kind))
 ·simp only [cond_false]
  by_cases h1 : eNeed (chg x) = 0
  ·simp only [h1, decide_true, Bool.true_and, Bool.not_true, cond_false]
   cases eqC (wid x) (chg x) <;> cases x.Service.On <;> rfl
  ·simp only [decide_eq_false h1, Bool.false_and, Bool.not_false, cond_true, cond_false]
 ·rfl
def sumB (c : UInt8) : Bool := (decide (48 ≤ (c.toNat : Int)) && decide ((c.toNat : Int) ≤ 57)) || (decide (97 ≤ (c.toNat : Int)) && decide ((c.toNat : Int) ≤ 102))
def sumOk (s : Str) : Bool := s.all sumB && decide ((s.length : Int) = 16)
theorem D_isSum_eq (s : Str) : keep_isSum s = some (sumOk s) := by
 unfold keep_isSum
 simp only [jp_eq]
 rw [forL_all sumB (z := false) (fun i x nx k => by simp only [sumB]; rw [condN, Bool.not_not])]
 simp only [condS]
 unfold sumOk
 cases s.all sumB <;> rfl
theorem R_isSum_eq (s : Str) : R_IsSum s = some (sumOk s) := by
 unfold R_IsSum
 simp only [jp_eq]
 rw [forL_all sumB (z := false) (fun i c nx k => by
  rw [condN]
  congr 1
  unfold sumB
  rw [Bool.eq_iff_iff]
  simp only [Bool.or_eq_true, Bool.and_eq_true, Bool.not_eq_true', decide_eq_true_eq, Bool.or_eq_false_iff, Bool.and_eq_false_iff, decide_eq_false_iff_not, Bool.not_eq_false']
  omega)]
 simp only [condS]
 unfold sumOk
 cases s.all sumB <;> rfl
def kindB (k : Int) : Bool := decide (1 ≤ k) && decide (k ≤ 6)
def named (k : Int) (p : Str) : Bool := bif decide (k = 6) then nameOk p else pathOk p
def sumR (b : Str) : Str := sumS (([114] : Str) ++ b)
def sumM (b : Str) : Str := sumS (([45] : Str) ++ b)
def badH (h : api_Held) : Bool := ((!sumOk h.Sum) || ((!decide (h.Base = [])) && (!decide (h.Kind = 3)))) || ((decide (h.Kind = 3) && !decide (h.Sum = sumR h.Base)) && !decide (h.Sum = sumM h.Base))
def eHeld (h : api_Held) : Int :=
 bif !nameOk h.Owner then 5 else bif !kindB h.Kind then 1 else bif !named h.Kind h.Path then 5 else bif badH h then 2 else 0
structure SmH (h : api_Held) : Prop where
 p : Sm h.Path
 b : Sm h.Base
theorem pre_len (c : UInt8) {b : Str} (h : Sm b) : (([c] : Str) ++ b).length ≤ 274877906944 := by
 unfold Sm at h
 simp only [List.length_append, List.length_cons, List.length_nil]
 omega
theorem D_held_eq (h : api_Held) (hs : SmH h) : keep_heldFault h = some (eHeld h) := by
 unfold keep_heldFault
 rw [ver_IsName_eq, ver_IsName_eq, ver_IsPath_eq _ hs.p, D_isSum_eq, disk_SumOf_eq, disk_SumOf_eq]
 unfold keep_isKind
 simp only [call_some, callG_some]
 rw [chk_true (fun _ => pre_len 114 hs.b), chk_true (fun _ => pre_len 45 hs.b)]
 unfold eHeld named kindB
 show (bif !nameOk h.Owner then _ else bif !(decide (1 ≤ h.Kind) && decide (h.Kind ≤ 6)) then _ else _) = _
 cases nameOk h.Owner
 ·rfl
 cases (decide (1 ≤ h.Kind) && decide (h.Kind ≤ 6))
 ·rfl
 simp only [Bool.not_true, cond_false]
 have e1 : ((decide (h.Kind = 6) && !(bif decide (h.Kind = 6) then nameOk h.Path else false)) || ((!decide (h.Kind = 6)) && !(bif ((!((decide (h.Kind = 6)) && (!(bif decide (h.Kind = 6) then nameOk h.Path else false)))) && (!decide (h.Kind = 6))) then pathOk h.Path else false))) = !(bif decide (h.Kind = 6) then nameOk h.Path else pathOk h.Path) := by
  cases decide (h.Kind = 6) <;> cases nameOk h.Path <;> cases pathOk h.Path <;> rfl
 rw [e1]
 cases (bif decide (h.Kind = 6) then nameOk h.Path else pathOk h.Path)
 ·rfl
 simp only [Bool.not_true, cond_false]
 unfold badH
 change _ = some (bif (((!sumOk h.Sum) || ((!decide (h.Base = [])) && (!decide (h.Kind = 3)))) || ((decide (h.Kind = 3) && !decide (h.Sum = sumR h.Base)) && !decide (h.Sum = sumM h.Base))) then (2 : Int) else 0)
 have e2 : ((decide (h.Kind = 3) && (!decide (h.Sum = (bif decide (h.Kind = 3) then sumS (([114] : Str) ++ h.Base) else [])))) && (!decide (h.Sum = (bif (decide (h.Kind = 3) && (!decide (h.Sum = (bif decide (h.Kind = 3) then sumS (([114] : Str) ++ h.Base) else [])))) then sumS (([45] : Str) ++ h.Base) else [])))) = ((decide (h.Kind = 3) && !decide (h.Sum = sumR h.Base)) && !decide (h.Sum = sumM h.Base)) := by
  unfold sumR sumM
  cases decide (h.Kind = 3)
  ·rfl
  ·simp only [cond_true, Bool.true_and]
   cases hq : decide (h.Sum = sumS (([114] : Str) ++ h.Base)) <;> rfl
 rw [e2]
 cases ((!sumOk h.Sum) || ((!decide (h.Base = [])) && (!decide (h.Kind = 3)))) <;> cases ((decide (h.Kind = 3) && !decide (h.Sum = sumR h.Base)) && !decide (h.Sum = sumM h.Base)) <;> rfl
def ordH (a b : api_Held) : Int := bif !decide (cmpB a.Owner b.Owner = 0) then cmpB a.Owner b.Owner else bif !decide (thg a.Kind - thg b.Kind = 0) then thg a.Kind - thg b.Kind else cmpB a.Path b.Path
theorem Compare_eq (a b : Str) : strings_Compare a b = some (cmpB a b) := rfl
theorem thg_le (k : Int) : 0 ≤ thg k ∧ thg k ≤ 2 := by
 unfold thg
 cases decide (k = 5) <;> cases decide (k = 6) <;> decide
theorem thingD (k : Int) : keep_thingOf k = some (thg k + 1) := by
 unfold keep_thingOf thg
 cases decide (k = 5) <;> cases decide (k = 6) <;> rfl
theorem placeD (h : api_Held) : keep_heldPlace h = some ⟨thg h.Kind + 1, h.Path⟩ := by
 unfold keep_heldPlace
 rw [thingD]; rfl
theorem D_ord (a b : api_Held) : keep_compareHeld a b = some (ordH a b) := by
 unfold keep_compareHeld ordH
 simp only [Compare_eq, call_some, placeD]
 have h1 := thg_le a.Kind
 have h2 := thg_le b.Kind
 cases decide (cmpB a.Owner b.Owner = 0)
 ·rfl
 simp only [Bool.not_true, cond_false]
 rw [show IntKind.i64.wrap (thg a.Kind + 1 - (thg b.Kind + 1)) = thg a.Kind - thg b.Kind by rw [wrapS (by omega) (by omega)]; omega, show decide (thg a.Kind + 1 = thg b.Kind + 1) = decide (thg a.Kind - thg b.Kind = 0) by rw [decide_eq_decide]; omega]
 cases decide (thg a.Kind - thg b.Kind = 0) <;> rfl
theorem or3 (a b c : Int) : cmp_Or_int [a, b, c] = some (bif !decide (a = 0) then a else bif !decide (b = 0) then b else c) := by
 unfold cmp_Or_int
 simp only [jp_eq, forL]
 cases decide (a = 0)
 ·rfl
 cases decide (b = 0)
 ·rfl
 by_cases h : c = 0
 ·subst h; rfl
 ·rw [decide_eq_false h]; rfl
theorem R_ord (a b : api_Held) : R_heldOrder a b = some (ordH a b) := by
 unfold R_heldOrder ordH
 have h1 := thg_le a.Kind
 have h2 := thg_le b.Kind
 simp only [Compare_eq, call_some, thing_eq]
 rw [show IntKind.i64.wrap (thg a.Kind - thg b.Kind) = thg a.Kind - thg b.Kind from wrapS (by omega) (by omega)]
 simp only [or3, call_some]
/- keep.Check, Owners and Things answer as the reference; the law. -/
def errs {α : Type} (e : Nat → α → Int) : Nat → List α → Int
 | _, [] => 0
 | i, x :: l => bif !decide (e i x = 0) then e i x else errs e (i + 1) l
section
variable {α : Type}
theorem forL_errs {f : Nat → α → Unit → (Unit → Option Int) → (Unit → Option Int) → Option Int} {K : Unit → Option Int} (e : Nat → α → Int) (L : List α)
  (hf : ∀ i x nx k, i < L.length → x ∈ L → f i x () nx k = bif !decide (e i x = 0) then some (e i x) else nx ()) :
  ∀ (l : List α) (i : Nat), L.drop i = l → forL l i f () K = bif !decide (errs e i l = 0) then some (errs e i l) else K ()
 | [], i, _ => rfl
 | x :: l, i, hd => by
  have hi : i < L.length := by
   rcases Nat.lt_or_ge i L.length with h | h
   ·exact h
   ·rw [List.drop_eq_nil_of_le h] at hd; cases hd
  have hx : x ∈ L := by
   have : x ∈ L.drop i := by rw [hd]; exact List.mem_cons_self ..
   exact List.mem_of_mem_drop this
  have hd' : L.drop (i + 1) = l := by
   have := congrArg List.tail hd
   simpa using this
  unfold forL errs
  rw [hf _ _ _ _ hi hx, forL_errs e L hf l (i + 1) hd']
  by_cases h1 : e i x = 0
  ·simp only [h1, decide_true, Bool.not_true, cond_false]
  ·simp only [decide_eq_false h1, Bool.not_false, cond_true]
theorem forL_filt {β : Type} {Z : Type} {f : Nat → α → List β → (List β → Option Z) → (List β → Option Z) → Option Z} {K : List β → Option Z} (q : α → Bool) (g : α → β) (N : Nat)
  (hf : ∀ i x o nx k, o.length < N → f i x o nx k = bif q x then nx (o ++ [g x]) else nx o) :
  ∀ (l : List α) (i : Nat) (o : List β), o.length + l.length ≤ N → forL l i f o K = K (o ++ (l.filter q).map g)
 | [], i, o, _ => by simp [forL]
 | x :: l, i, o, hn => by
  simp only [List.length_cons] at hn
  unfold forL
  rw [hf _ _ _ _ _ (by omega)]
  cases hq : q x
  ·rw [cond_false, forL_filt q g N hf l (i + 1) o (by omega), List.filter_cons_of_neg (by simp [hq])]
  ·rw [cond_true, forL_filt q g N hf l (i + 1) _ (by simp only [List.length_append, List.length_cons, List.length_nil]; omega), List.filter_cons_of_pos hq, List.map_cons, List.append_assoc]
   rfl
end
def hz : api_Held := api_Held.mk [] 0 [] [] []
def eRow (L : List api_Held) (i : Nat) (h : api_Held) : Int := bif !decide (eHeld h = 0) then eHeld h else bif decide (0 < (i : Int)) && decide (0 ≤ ordH (L.getD (i - 1) hz) h) then 7 else 0
def atP (t : Int) (p : Str) (o : api_Held) : Bool := decide (thg o.Kind = t) && decide (o.Path = p)
def shareB (a b : api_Held) : Bool := (decide (a.Kind = 2) && decide (b.Kind = 2)) && decide (a.Sum = b.Sum)
def cf (o : Option api_Held) (h : api_Held) : Bool := o.isSome && !shareB (o.getD hz) h
def confs : List api_Held → List api_Held → Int
 | _, [] => 0
 | r, h :: l => bif cf (r.find? (atP (thg h.Kind) h.Path)) h then 11 else confs (h :: r) l
def eKeep (k : api_Keep) : Int := bif decide (5000 < (k.Held.length : Int)) then 4 else bif !decide (errs (eRow k.Held) 0 k.Held = 0) then errs (eRow k.Held) 0 k.Held else confs [] k.Held
theorem forL_conf {A : Type} [DecidableEq A] (key : Int → Str → A) (hkey : ∀ t p t' p', key t p = key t' p' ↔ t = t' ∧ p = p')
  {f : Nat → api_Held → List (A × api_Held) → (List (A × api_Held) → Option Int) → (List (A × api_Held) → Option Int) → Option Int}
  (hf : ∀ i h m nx k, m.length ≤ 5000 → f i h m nx k = bif cf (alook m (key (thg h.Kind) h.Path)) h then some 11 else nx (aset m (key (thg h.Kind) h.Path) h)) :
  ∀ (l : List api_Held) (i : Nat) (m : List (A × api_Held)) (r : List api_Held), (∀ t p, alook m (key t p) = r.find? (atP t p)) → m.length + l.length ≤ 5000 → forL l i f m (fun _ => some 0) = some (confs r l)
 | [], i, m, r, _, _ => rfl
 | h :: l, i, m, r, hr, hn => by
  simp only [List.length_cons] at hn
  unfold forL confs
  rw [hf _ _ _ _ _ (by omega), hr]
  cases cf (r.find? (atP (thg h.Kind) h.Path)) h
  ·rw [cond_false, cond_false]
   refine forL_conf key hkey hf l (i + 1) _ (h :: r) (fun t p => ?_) ?_
   ·rw [alook_aset]
    by_cases e : key (thg h.Kind) h.Path = key t p
    ·obtain ⟨e1, e2⟩ := (hkey _ _ _ _).1 e
     rw [if_pos e, List.find?_cons_of_pos (by simp [atP, e1, e2])]
    ·rw [if_neg e, List.find?_cons_of_neg (by
      intro h1
      simp only [atP, Bool.and_eq_true, decide_eq_true_eq] at h1
      exact e ((hkey _ _ _ _).2 h1)), hr]
   ·rw [len_aset]
    split <;> omega
  ·rfl
theorem pred_ok {L : List api_Held} {i : Nat} (hi : i < L.length) (hL : L.length ≤ 5000) : decide (0 < (i : Int)) = true → 0 ≤ IntKind.i64.wrap ((i : Int) - 1) ∧ IntKind.i64.wrap ((i : Int) - 1) < (L.length : Int) := by
 intro h
 have h := of_decide_eq_true h
 rw [wrapm1 i (by omega) (by omega)]
 omega
theorem pred_at {L : List api_Held} {i : Nat} (hi : i < L.length) (hL : L.length ≤ 5000) (h : decide (0 < (i : Int)) = true) : (IntKind.i64.wrap ((i : Int) - 1)).toNat = i - 1 := by
 have h := of_decide_eq_true h
 rw [wrapm1 i (by omega) (by omega)]
 rfl
theorem D_keep_eq (k : api_Keep) (hs : ∀ h ∈ k.Held, SmH h) : keep_Check k = some (eKeep k) := by
 unfold keep_Check eKeep
 by_cases hn : 5000 < (k.Held.length : Int)
 ·rw [decide_eq_true hn]; rfl
 rw [decide_eq_false hn]
 simp only [cond_false, jp_eq]
 have hn' : k.Held.length ≤ 5000 := by omega
 refine (forL_errs (eRow k.Held) k.Held (fun i h nx kk hi hh => ?_) k.Held 0 rfl).trans ?_
 ·rw [D_held_eq h (hs h hh), call_some, chk_true (pred_ok hi hn')]
  unfold eRow
  by_cases h1 : eHeld h = 0
  ·simp only [h1, decide_true, Bool.not_true, cond_false]
   cases h0 : decide (0 < (i : Int))
   ·rfl
   ·rw [callG_true, pred_at hi hn' h0]
    change call (keep_compareHeld (k.Held.getD (i - 1) hz) h) _ = _
    rw [D_ord, call_some, Bool.true_and]
    cases decide (0 ≤ ordH (k.Held.getD (i - 1) hz) h) <;> rfl
  ·simp only [decide_eq_false h1, Bool.not_false, cond_true]
 ·cases decide (errs (eRow k.Held) 0 k.Held = 0)
  ·rfl
  simp only [Bool.not_true, cond_false]
  refine forL_conf (fun t p => keep_place.mk (t + 1) p) (fun t p t' p' => ?_) (fun i h m nx kk hm => ?_) k.Held 0 [] [] (fun _ _ => rfl) (by simpa using hn')
  ·rw [keep_place.mk.injEq]
   constructor
   ·rintro ⟨a, b⟩; exact ⟨by omega, b⟩
   ·rintro ⟨a, b⟩; exact ⟨by omega, b⟩
  ·simp only [placeD, call_some, keep_share, callG_some]
   rw [chk_true (by have := len_aset m (keep_place.mk (thg h.Kind + 1) h.Path) h; split at this <;> omega)]
   unfold letv cf shareB hz
   generalize alook m (keep_place.mk (thg h.Kind + 1) h.Path) = q
   cases q <;> rfl
theorem first5 (a b c d e : Int) : R_first [a, b, c, d, e] = some (or2 a (or2 b (or2 c (or2 d e)))) := first_cons a _ _ (first_cons b _ _ (first3 c d e))
theorem bad_eq (A K : Bool) (s r m : Str) : (A || ((K && !decide (s = (bif (!A && K) then r else []))) && !decide (s = (bif (!A && (K && !decide (s = (bif (!A && K) then r else [])))) then m else [])))) = (A || ((K && !decide (s = r)) && !decide (s = m))) := by
 cases A
 ·cases K
  ·rfl
  ·simp only [Bool.not_false, Bool.true_and, cond_true, Bool.false_or]
   cases decide (s = r) <;> rfl
 ·rfl
theorem row_eq (A B C D E : Bool) (nx : Option Int) : (bif !decide ((or2 (bif !A then 5 else 0) (or2 (bif !B then 1 else 0) (or2 (bif !C then 5 else 0) (or2 (bif D then 2 else 0) (bif E then 7 else 0))))) = 0) then some (or2 (bif !A then 5 else 0) (or2 (bif !B then 1 else 0) (or2 (bif !C then 5 else 0) (or2 (bif D then 2 else 0) (bif E then 7 else 0))))) else nx) =
  bif !decide ((bif !decide ((bif !A then 5 else bif !B then 1 else bif !C then 5 else bif D then 2 else 0 : Int) = 0) then (bif !A then 5 else bif !B then 1 else bif !C then 5 else bif D then 2 else 0 : Int) else bif E then 7 else 0) = 0) then some (bif !decide ((bif !A then 5 else bif !B then 1 else bif !C then 5 else bif D then 2 else 0 : Int) = 0) then (bif !A then 5 else bif !B then 1 else bif !C then 5 else bif D then 2 else 0 : Int) else bif E then 7 else 0) else nx := by
 cases A <;> cases B <;> cases C <;> cases D <;> cases E <;> rfl
theorem R_keep_eq (k : api_Keep) (hs : ∀ h ∈ k.Held, SmH h) : R_KeepError k = some (eKeep k) := by
 unfold R_KeepError eKeep
 by_cases hn : 5000 < (k.Held.length : Int)
 ·rw [decide_eq_true hn]; rfl
 rw [decide_eq_false hn]
 simp only [cond_false, jp_eq]
 have hn' : k.Held.length ≤ 5000 := by omega
 refine (forL_errs (eRow k.Held) k.Held (fun i h nx kk hi hh => ?_) k.Held 0 rfl).trans ?_
 ·have hh' := hs h hh
  rw [R_isSum_eq, call_some, chk_true (fun _ => pre_len 114 hh'.b), R_SumOf_eq, R_SumOf_eq, callG_some, chk_true (fun _ => pre_len 45 hh'.b), callG_some, R_IsPath_eq _ hh'.p, R_IsName_eq, R_IsName_eq]
  simp only [call_some, when_eq]
  rw [chk_true (pred_ok hi hn'), chk_true (pred_ok hi hn')]
  have e1 : ∀ (g : Bool) (F : Bool → Option Int), (bif g then F (nameOk h.Path) else F (pathOk h.Path)) = F (bif g then nameOk h.Path else pathOk h.Path) := fun g F => by cases g <;> rfl
  rw [bad_eq]
  have e2 : (((!sumOk h.Sum) || ((!decide (h.Base = [])) && (!decide (h.Kind = 3)))) || ((decide (h.Kind = 3) && !decide (h.Sum = sumS (([114] : Str) ++ h.Base))) && !decide (h.Sum = sumS (([45] : Str) ++ h.Base)))) = badH h := by
   unfold badH sumR sumM
   exact Eq.refl _
  rw [e2]
  have e4 : ∀ F : Int → Option Int, callG (decide (0 < (i : Int))) (R_heldOrder (k.Held.getD ((IntKind.i64.wrap ((i : Int) - 1)).toNat) hz) h) 0 F = F (bif decide (0 < (i : Int)) then ordH (k.Held.getD (i - 1) hz) h else 0) := by
   intro F
   cases h0 : decide (0 < (i : Int))
   ·rfl
   ·rw [callG_true, pred_at hi hn' h0, R_ord]; rfl
  change (bif decide (h.Kind = 6) then callG (decide (0 < (i : Int))) (R_heldOrder (k.Held.getD ((IntKind.i64.wrap ((i : Int) - 1)).toNat) hz) h) 0 _ else callG (decide (0 < (i : Int))) (R_heldOrder (k.Held.getD ((IntKind.i64.wrap ((i : Int) - 1)).toNat) hz) h) 0 _) = _
  rw [e4, e4]
  simp only [first5, call_some]
  rw [e1 (decide (h.Kind = 6)) (fun nm => bif !decide ((or2 (bif !nameOk h.Owner then 5 else 0) (or2 (bif (decide (h.Kind < 1) || decide (6 < h.Kind)) then 1 else 0) (or2 (bif !nm then 5 else 0) (or2 (bif badH h then 2 else 0) (bif (decide (0 < (i : Int)) && decide (0 ≤ (bif decide (0 < (i : Int)) then ordH (k.Held.getD (i - 1) hz) h else 0))) then 7 else 0))))) = 0) then some (or2 (bif !nameOk h.Owner then 5 else 0) (or2 (bif (decide (h.Kind < 1) || decide (6 < h.Kind)) then 1 else 0) (or2 (bif !nm then 5 else 0) (or2 (bif badH h then 2 else 0) (bif (decide (0 < (i : Int)) && decide (0 ≤ (bif decide (0 < (i : Int)) then ordH (k.Held.getD (i - 1) hz) h else 0))) then 7 else 0))))) else nx ())]
  have e5 : (decide (0 < (i : Int)) && decide (0 ≤ (bif decide (0 < (i : Int)) then ordH (k.Held.getD (i - 1) hz) h else 0))) = (decide (0 < (i : Int)) && decide (0 ≤ ordH (k.Held.getD (i - 1) hz) h)) := by
   cases decide (0 < (i : Int)) <;> rfl
  rw [e5]
  have e6 : (decide (h.Kind < 1) || decide (6 < h.Kind)) = !kindB h.Kind := by
   unfold kindB
   rw [Bool.eq_iff_iff]
   simp only [Bool.or_eq_true, Bool.not_eq_true', decide_eq_true_eq, Bool.and_eq_false_iff, decide_eq_false_iff_not]
   omega
  rw [e6]
  rw [row_eq]
  unfold eRow eHeld named
  exact Eq.refl _
 ·cases decide (errs (eRow k.Held) 0 k.Held = 0)
  ·rfl
  simp only [Bool.not_true, cond_false]
  refine forL_conf (fun t p => outref1_place.mk t p) (fun t p t' p' => ?_) (fun i h m nx kk hm => ?_) k.Held 0 [] [] (fun _ _ => rfl) (by simpa using hn')
  ·rw [outref1_place.mk.injEq]
  ·simp only [thing_eq, call_some]
   rw [chk_true (by have := len_aset m (outref1_place.mk (thg h.Kind) h.Path) h; split at this <;> omega)]
   unfold letv cf shareB hz
   generalize alook m (outref1_place.mk (thg h.Kind) h.Path) = q
   cases q with
   | none => rfl
   | some o =>
    simp only [Option.isSome_some, Option.getD_some, Bool.true_and]
    cases decide (o.Kind = 2) <;> cases decide (h.Kind = 2) <;> cases decide (o.Sum = h.Sum) <;> rfl
def ownL (k : api_Keep) (kind : Int) (path : Str) : List Str := (k.Held.filter (atP (thg kind) path)).map (·.Owner)
def thL (k : api_Keep) (owner : Str) : List api_Held := k.Held.filter fun h => decide (h.Owner = owner)
theorem apd_ok {α : Type} {o : List α} {x : α} {n : Nat} (hn : n ≤ 17179869184) (h : o.length < n) : (o ++ [x]).length ≤ 274877906944 := by
 simp only [List.length_append, List.length_cons, List.length_nil]; omega
theorem D_owners (k : api_Keep) (kind : Int) (path : Str) (hs : ∀ h ∈ k.Held, SmH h) (hp : Sm path) (hn : k.Held.length ≤ 17179869184) : keep_Owners k kind path = some (bif !decide (eKeep k = 0) then ([], eKeep k) else bif !kindB kind then ([], 1) else bif !named kind path then ([], 5) else (ownL k kind path, 0)) := by
 unfold keep_Owners
 rw [D_keep_eq k hs, call_some]
 cases decide (eKeep k = 0)
 ·rfl
 simp only [Bool.not_true, cond_false]
 unfold keep_isKind
 rw [call_some]
 change (bif !kindB kind then _ else _) = _
 cases kindB kind
 ·rfl
 simp only [Bool.not_true, cond_false]
 rw [ver_IsName_eq, ver_IsPath_eq _ hp]
 simp only [callG_some, jp_eq]
 have e1 : ((decide (kind = 6) && !(bif decide (kind = 6) then nameOk path else false)) || ((!decide (kind = 6)) && !(bif ((!((decide (kind = 6)) && (!(bif decide (kind = 6) then nameOk path else false)))) && (!decide (kind = 6))) then pathOk path else false))) = !named kind path := by
  unfold named
  cases decide (kind = 6) <;> cases nameOk path <;> cases pathOk path <;> rfl
 rw [e1]
 cases named kind path
 ·rfl
 simp only [Bool.not_true, cond_false]
 refine (forL_filt (atP (thg kind) path) (·.Owner) k.Held.length (fun i h o nx kk ho => ?_) k.Held 0 [] (by simp)).trans ?_
 ·simp only [placeD, thingD, call_some]
  rw [chk_true (apd_ok hn ho), show decide (thg h.Kind + 1 = thg kind + 1) = decide (thg h.Kind = thg kind) by rw [decide_eq_decide]; omega]
  rfl
 ·rw [List.nil_append]; rfl
theorem D_things (k : api_Keep) (owner : Str) (hs : ∀ h ∈ k.Held, SmH h) (hn : k.Held.length ≤ 17179869184) : keep_Things k owner = some (bif !decide (eKeep k = 0) then ([], eKeep k) else bif !nameOk owner then ([], 5) else (thL k owner, 0)) := by
 unfold keep_Things
 rw [D_keep_eq k hs, call_some]
 cases decide (eKeep k = 0)
 ·rfl
 simp only [Bool.not_true, cond_false]
 rw [ver_IsName_eq, call_some]
 cases nameOk owner
 ·rfl
 simp only [Bool.not_true, cond_false]
 unfold keep_things
 simp only [jp_eq]
 rw [forL_filt (fun h => decide (h.Owner = owner)) (fun h => h) k.Held.length (fun i h o nx kk ho => by rw [chk_true (apd_ok hn ho)]) k.Held 0 [] (by simp)]
 rw [List.nil_append, List.map_id', call_some]
 rfl
theorem eqS_eq (l : List Str) : slices_Equal_string_string l l = some true := by
 unfold slices_Equal_string_string
 simp only [decide_true, Bool.not_true, cond_false, jp_eq]
 exact same_loop l (fun a b => decide (a = b)) (fun x => by simp) l 0 rfl
theorem eqH_eq (l : List api_Held) : slices_Equal_api_Held_api_Held l l = some true := by
 unfold slices_Equal_api_Held_api_Held
 simp only [decide_true, Bool.not_true, cond_false, jp_eq]
 exact same_loop l (fun a b => (decide (a.Owner = b.Owner)) && ((decide (a.Kind = b.Kind)) && ((decide (a.Path = b.Path)) && ((decide (a.Sum = b.Sum)) && (decide (a.Base = b.Base)))))) (fun x => by simp) l 0 rfl
theorem landed_ok : Law_landed = some true := rfl
theorem want_eq (kind : Int) (path : Str) (h : api_Held) : ((decide (h.Path = path) && decide ((decide (h.Kind = 6)) = (decide (kind = 6)))) && decide ((decide (h.Kind = 5)) = (decide (kind = 5)))) = atP (thg kind) path h := by
 unfold atP thg
 by_cases h5 : h.Kind = 5
 ·by_cases k5 : kind = 5
  ·subst k5; rw [h5]; cases decide (h.Path = path) <;> rfl
  ·rw [h5, decide_eq_false k5]
   cases decide (h.Path = path) <;> cases decide (kind = 6) <;> rfl
 ·rw [decide_eq_false h5]
  by_cases h6 : h.Kind = 6
  ·rw [h6]
   by_cases k5 : kind = 5
   ·subst k5; cases decide (h.Path = path) <;> rfl
   ·rw [decide_eq_false k5]
    cases decide (h.Path = path) <;> cases decide (kind = 6) <;> rfl
  ·rw [decide_eq_false h6]
   cases decide (h.Path = path) <;> cases decide (kind = 5) <;> cases decide (kind = 6) <;> rfl
theorem law_kc (x : api_Item) (k : api_Keep) (kind : Int) (path owner : Str) (hx : SmI x) (hs : ∀ h ∈ k.Held, SmH h) (hp : Sm path) (hn : k.Held.length ≤ 17179869184) : Law_KeepsCheck x k kind path owner = some true := by
 unfold Law_KeepsCheck
 rw [landed_ok, call_some, D_item_eq x hx, R_item_eq x hx, R_keep_eq k hs, D_owners k kind path hs hp hn, D_things k owner hs hn, D_keep_eq k hs]
 simp only [call_some, Bool.not_true, cond_false, decide_true]
 by_cases he : eKeep k = 0
 rotate_left
 ·simp only [decide_eq_false he, Bool.not_false, cond_true, decide_true, Bool.true_and, List.length_nil]
  rfl
 simp only [he, decide_true, Bool.not_true, cond_false]
 rw [R_IsName_eq, R_IsName_eq, R_IsPath_eq _ hp]
 simp only [call_some, callG_some, jp_eq]
 have tail : (bif !nameOk owner then some (decide ((bif !nameOk owner then (([] : List api_Held), (5 : Int)) else (thL k owner, 0)).2 = 5) && decide (((bif !nameOk owner then (([] : List api_Held), (5 : Int)) else (thL k owner, 0)).1.length : Int) = 0)) else
   forL k.Held 0 (fun i_85 h_87 o2_80 nx_84 k_83 =>
    bif decide (h_87.Owner = owner) then
     chk ((o2_80 ++ [h_87]).length ≤ 274877906944) <|
     nx_84 (o2_80 ++ [h_87])
    else
    nx_84 o2_80) [] (fun o2_73 =>
    callG (decide ((bif !nameOk owner then (([] : List api_Held), (5 : Int)) else (thL k owner, 0)).2 = 0)) (slices_Equal_api_Held_api_Held (bif !nameOk owner then (([] : List api_Held), (5 : Int)) else (thL k owner, 0)).1 o2_73) false fun r_75 =>
    some (decide ((bif !nameOk owner then (([] : List api_Held), (5 : Int)) else (thL k owner, 0)).2 = 0) && r_75))) = some true := by
  cases nameOk owner
  ·rfl
  simp only [Bool.not_true, cond_false, decide_true]
  rw [forL_filt (fun h => decide (h.Owner = owner)) (fun h => h) k.Held.length (fun i h o nx kk ho => by rw [chk_true (apd_ok hn ho)]) k.Held 0 [] (by simp)]
  rw [List.nil_append, List.map_id', callG_true]
  change call (slices_Equal_api_Held_api_Held (thL k owner) (thL k owner)) _ = _
  rw [eqH_eq]; rfl
 have e6 : (decide (kind < 1) || decide (6 < kind)) = !kindB kind := by
  unfold kindB
  rw [Bool.eq_iff_iff]
  simp only [Bool.or_eq_true, Bool.not_eq_true', decide_eq_true_eq, Bool.and_eq_false_iff, decide_eq_false_iff_not]
  omega
 rw [e6]
 cases kindB kind
 ·simp only [Bool.not_false, cond_true, decide_true, Bool.not_true, cond_false]
  exact tail
 simp only [Bool.not_true, cond_false]
 have e1 : ((decide (kind = 6) && !(bif decide (kind = 6) then nameOk path else false)) || ((!decide (kind = 6)) && !(bif ((!((decide (kind = 6)) && (!(bif decide (kind = 6) then nameOk path else false)))) && (!decide (kind = 6))) then pathOk path else false))) = !named kind path := by
  unfold named
  cases decide (kind = 6) <;> cases nameOk path <;> cases pathOk path <;> rfl
 rw [e1]
 cases named kind path
 ·simp only [Bool.not_false, cond_true, decide_true, Bool.not_true, cond_false]
  exact tail
 simp only [Bool.not_true, cond_false, decide_true]
 rw [forL_filt (atP (thg kind) path) (·.Owner) k.Held.length (fun i h o nx kk ho => by rw [show ∀ (A : Bool) (g : Bool → Option Bool), letv A g = g A from fun _ _ => rfl, want_eq, chk_true (apd_ok hn ho)]) k.Held 0 [] (by simp)]
 rw [List.nil_append]
 change callG true (slices_Equal_string_string (ownL k kind path) (ownL k kind path)) false _ = _
 rw [eqS_eq]
 exact tail
end Go.Md
