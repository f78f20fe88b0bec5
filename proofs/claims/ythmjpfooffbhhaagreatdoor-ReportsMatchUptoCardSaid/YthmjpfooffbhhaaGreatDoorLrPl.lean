/- Plain lemmas on the models: the law's model answers true. -/
import Derived.Test.YthmjpfooffbhhaaGreatDoorLrMd
set_option linter.unusedSimpArgs false
set_option linter.unusedVariables false
namespace Go.Md
open Go.Vc
section
variable {Z A S α : Type}
theorem call_some (x : A) (k : A → Option Z) : call (some x) k = k x := rfl
theorem callG_some (g : Bool) (x d : A) (k : A → Option Z) : callG g (some x) d k = k (bif g then x else d) := by cases g <;> rfl
theorem callG_true (a : Option A) (d : A) (k : A → Option Z) : callG true a d k = call a k := rfl
theorem chk_true {p : Prop} [Decidable p] (h : p) (m : Option Z) : chk p m = m := if_pos h
theorem jp_eq (F : S → Option Z) (m : (S → Option Z) → Option Z) : jp F m = m F := rfl
theorem idxS_eq {s : Str} {i : Nat} (h : i < s.length) (k : Int → Option Z) : idxS s i k = k (s[i].toNat : Int) := by
 unfold idxS
 simp [h]
theorem idx_eq {l : List α} {i : Nat} (h : i < l.length) (k : α → Option Z) : idx l i k = k l[i] := by
 unfold idx
 simp [h]
theorem forL_all {f : Nat → α → Unit → (Unit → Option Z) → (Unit → Option Z) → Option Z} {z : Z} (q : α → Bool) (hf : ∀ i x nx k, f i x () nx k = bif q x then nx () else some z) (k : Unit → Option Z) :
  ∀ (l : List α) (i : Nat), forL l i f () k = bif l.all q then k () else some z
 | [], i => rfl
 | x :: l, i => by
  unfold forL
  rw [hf, forL_all q hf k l (i + 1), List.all_cons]
  cases q x <;> rfl
theorem loopN_run {f : S → (S → Option Z) → (S → Option Z) → Option Z} {k : S → Option Z} (inv : S → Prop) (mu : S → Nat) (R : S → Option Z)
  (h : ∀ s nx, inv s → (∀ s', inv s' → mu s' < mu s → nx s' = R s') → f s nx k = R s) : ∀ (N : Nat) (s : S), inv s → mu s < N → loopN N f s k = R s
 | 0, s, _, hm => by omega
 | N + 1, s, hi, hm => by
  unfold loopN
  exact h s _ hi fun s' hs' hlt => loopN_run inv mu R h N s' hs' (by omega)
theorem condS (b : Bool) (x y : Z) : (bif b then some x else some y) = some (bif b then x else y) := by cases b <;> rfl
theorem condN (c : Bool) (x y : Z) : (bif c then x else y) = bif !c then y else x := by cases c <;> rfl
end
theorem wrapS {n : Int} (h1 : -9223372036854775808 ≤ n) (h2 : n ≤ 9223372036854775807) : IntKind.i64.wrap n = n := wrap64 h1 h2
theorem wrap1 (i : Nat) (h : i < 9223372036854775807) : IntKind.i64.wrap ((i : Int) + 1) = ((i + 1 : Nat) : Int) := by rw [wrapS (by omega) (by omega)]; rfl
theorem fuel_ge : 1099511627776 ≤ Fuel := Nat.le_refl _
def cutAt (c : UInt8) : Str → Str × Str × Bool
 | [] => ([], [], false)
 | b :: s => if b = c then ([], s, true) else (b :: (cutAt c s).1, (cutAt c s).2.1, (cutAt c s).2.2)
def splitAt (c : UInt8) : Str → List Str
 | [] => [[]]
 | b :: s => if b = c then [] :: splitAt c s else match splitAt c s with
  | [] => [[b]]
  | h :: t => (b :: h) :: t
theorem cutAt_none {c : UInt8} : ∀ {s : Str}, c ∉ s → cutAt c s = (s, [], false)
 | [], _ => rfl
 | b :: s, h => by
  have hb : b ≠ c := fun e => h (by simp [e])
  have ht := cutAt_none (s := s) (c := c) (fun h' => h (List.mem_cons_of_mem _ h'))
  simp only [cutAt, if_neg hb, ht]
theorem cutAt_some {c : UInt8} : ∀ {s : Str}, c ∈ s → (cutAt c s).2.2 = true ∧ s = (cutAt c s).1 ++ c :: (cutAt c s).2.1 ∧ c ∉ (cutAt c s).1
 | [], h => by cases h
 | b :: s, h => by
  by_cases hb : b = c
  ·subst hb; simp [cutAt]
  ·have hm : c ∈ s := by
    rcases List.mem_cons.1 h with rfl | h
    ·exact absurd rfl hb
    ·exact h
   obtain ⟨h1, h2, h3⟩ := cutAt_some hm
   simp only [cutAt, if_neg hb]
   refine ⟨h1, by rw [List.cons_append, ← h2], ?_⟩
   intro h'
   rcases List.mem_cons.1 h' with rfl | h'
   ·exact hb rfl
   ·exact h3 h'
theorem splitAt_ne (c : UInt8) (s : Str) : splitAt c s ≠ [] := by
 cases s with
 | nil => simp [splitAt]
 | cons b s =>
  simp only [splitAt]
  split
  ·simp
  ·split <;> simp
theorem splitAt_none {c : UInt8} : ∀ {s : Str}, c ∉ s → splitAt c s = [s]
 | [], _ => rfl
 | b :: s, h => by
  have hb : b ≠ c := fun e => h (by simp [e])
  have ht := splitAt_none (s := s) (c := c) (fun h' => h (List.mem_cons_of_mem _ h'))
  simp only [splitAt, if_neg hb, ht]
theorem splitAt_app {c : UInt8} : ∀ {a b : Str}, c ∉ a → splitAt c (a ++ c :: b) = a :: splitAt c b
 | [], b, _ => by simp [splitAt]
 | x :: a, b, h => by
  have hx : x ≠ c := fun e => h (by simp [e])
  have := splitAt_app (a := a) (b := b) (c := c) (fun h' => h (List.mem_cons_of_mem _ h'))
  simp only [List.cons_append, splitAt, if_neg hx, this]
theorem splitAt_cut (c : UInt8) (s : Str) : splitAt c s = if (cutAt c s).2.2 = true then (cutAt c s).1 :: splitAt c (cutAt c s).2.1 else [s] := by
 by_cases h : c ∈ s
 ·obtain ⟨h1, h2, h3⟩ := cutAt_some h
  rw [if_pos h1]
  conv => lhs; rw [h2]
  exact splitAt_app h3
 ·rw [cutAt_none h]
  simpa using splitAt_none h
theorem cutAt_len (c : UInt8) (s : Str) : (cutAt c s).1.length ≤ s.length ∧ (cutAt c s).2.1.length ≤ s.length ∧ ((cutAt c s).2.2 = true → (cutAt c s).1.length + (cutAt c s).2.1.length + 1 = s.length) := by
 by_cases h : c ∈ s
 ·obtain ⟨h1, h2, h3⟩ := cutAt_some h
  have := congrArg List.length h2
  simp only [List.length_append, List.length_cons] at this
  exact ⟨by omega, by omega, fun _ => by omega⟩
 ·rw [cutAt_none h]; simp
theorem splitAt_length (c : UInt8) (s : Str) : (splitAt c s).length = s.count c + 1 := by
 induction s with
 | nil => rfl
 | cons b s ih =>
  simp only [splitAt]
  split
  ·rename_i e; subst e; simp [ih]
  ·rename_i e
   rw [List.count_cons_of_ne (by simpa using e)]
   split
   ·rename_i e'; exact absurd e' (splitAt_ne c s)
   ·rename_i e'; rw [e'] at ih; simpa using ih
def ixb (s : Str) (c : UInt8) : Int := Lib.indexByte s c
theorem ixb_cut (c : UInt8) : ∀ s : Str, ixb s c = if c ∈ s then ((cutAt c s).1.length : Int) else -1
 | [] => rfl
 | b :: s => by
  have ih := ixb_cut c s
  unfold ixb at *
  unfold Lib.indexByte
  by_cases hb : b = c
  ·subst hb; simp [cutAt]
  ·rw [if_neg (by simpa using hb), ih]
   simp only [cutAt, if_neg hb, List.mem_cons, Ne.symm hb, false_or]
   by_cases h : c ∈ s
   ·rw [if_pos h, if_pos h]
    simp
   ·rw [if_neg h, if_neg h]; rfl
theorem ixb_none {c : UInt8} {s : Str} (h : c ∉ s) : ixb s c = -1 := by rw [ixb_cut, if_neg h]
theorem ixb_some {c : UInt8} {s : Str} (h : c ∈ s) : ixb s c = ((cutAt c s).1.length : Int) := by rw [ixb_cut, if_pos h]
theorem cutAt_take {c : UInt8} {s : Str} (h : c ∈ s) : s.take (cutAt c s).1.length = (cutAt c s).1 ∧ s.drop ((cutAt c s).1.length + 1) = (cutAt c s).2.1 := by
 obtain ⟨h1, h2, h3⟩ := cutAt_some h
 generalize cutAt c s = q at h2 ⊢
 subst h2
 constructor
 ·exact List.take_left' rfl
 ·rw [← List.drop_drop, List.drop_left' rfl]; rfl
theorem len1 (c : UInt8) : ((([c] : Str).length : Nat) : Int) = 1 := rfl
theorem indexByte_u8 (s : Str) (c : UInt8) : ixByte s (c.toNat : Int) = ixb s c := by
 unfold ixByte ixb
 congr 1
 simp
theorem slite_eq (s : Str) (c : UInt8) : internal_stringslite_Index s [c] = some (ixb s c) := by
 unfold internal_stringslite_Index internal_stringslite_IndexByte
 by_cases h : s = [c]
 ·subst h
  simp [ixb, Lib.indexByte]
 ·have : (decide (([c] : Str) = s)) = false := by simpa using fun e => h e.symm
  simp only [this, len1, show decide ((1 : Int) = 0) = false from rfl, show decide ((1 : Int) = 1) = true from rfl, decide_true, Bool.or_false, cond_false, cond_true]
  show idxS [c] ((0 : Nat) : Int) _ = _
  rw [idxS_eq (by simp)]
  simp only [call_some, List.getElem_cons_zero, indexByte_u8]
theorem index_eq (s : Str) (c : UInt8) : strings_Index s [c] = some (ixb s c) := by
 unfold strings_Index
 rw [slite_eq]; rfl
theorem count_eq (s : Str) (c : UInt8) : strings_Count s [c] = some ((s.count c : Nat) : Int) := by
 unfold strings_Count
 simp only [len1, show decide ((1 : Int) = 0) = false from rfl, show decide ((1 : Int) = 1) = true from rfl, decide_true, cond_false, cond_true]
 show idxS [c] ((0 : Nat) : Int) _ = _
 rw [idxS_eq (by simp)]
 unfold cntByte
 simp
theorem drop_cut_count {c : UInt8} {s : Str} (h : c ∈ s) : (cutAt c s).2.1.count c + 1 = s.count c := by
 obtain ⟨h1, h2, h3⟩ := cutAt_some h
 conv => rhs; rw [h2]
 rw [List.count_append, List.count_eq_zero_of_not_mem h3, List.count_cons_self]
 omega
theorem set_take {α : Type} (l : List α) (i : Nat) (x : α) (h : i < l.length) : (l.set i x).take (i + 1) = l.take i ++ [x] := by
 rw [List.take_succ_eq_append_getElem (by simpa using h)]
 simp [List.take_set_of_le]
theorem split_eq (s : Str) (c : UInt8) (hs : s.length ≤ 17179869184) : strings_Split s [c] = some (splitAt c s) := by
 have hcl := List.count_le_length (a := c) (l := s)
 have key : strings_genSplit s [c] 0 (-1) = some (splitAt c s) := by
  unfold strings_genSplit
  obtain ⟨N, hN⟩ : ∃ N, Fuel = N := ⟨_, rfl⟩
  have hN2 : 1099511627776 ≤ N := hN ▸ fuel_ge
  rw [hN]
  clear hN
  have hmin : min ((s.count c + 1 : Nat) : Int) ((s.length + 1 : Nat) : Int) = ((s.count c + 1 : Nat) : Int) := by omega
  simp only [jp_eq, count_eq, call_some, show decide ((-1 : Int) = 0) = false from rfl, show decide ((-1 : Int) < 0) = true from rfl, show decide (([c] : Str) = []) = false from rfl, cond_true, cond_false]
  simp only [wrap1 (s.count c) (by omega), wrap1 s.length (by omega), hmin]
  rw [chk_true (by omega)]
  have hw : IntKind.i64.wrap (((s.count c + 1 : Nat) : Int) - 1) = ((s.count c : Nat) : Int) := by rw [wrapS (by omega) (by omega)]; omega
  simp only [hw, Int.toNat_natCast]
  refine (loopN_run (S := Str × Int × List Str) (fun st => ∃ i : Nat, st.2.1 = i ∧ st.2.2.length = s.count c + 1 ∧ st.1.length ≤ s.length ∧ i + st.1.count c = s.count c) (fun st => s.count c - st.2.1.toNat)
   (fun st => some (st.2.2.take st.2.1.toNat ++ splitAt c st.1)) ?_ N _ ⟨0, rfl, by simp, Nat.le_refl _, by simp⟩ (by simp only; omega)).trans ?_
  ·rintro ⟨t, i', o⟩ nx ⟨i, rfl, ho, ht, hc⟩ hnx
   simp only at ho ht hc hnx ⊢
   simp only [index_eq, call_some]
   by_cases hi : i < s.count c
   ·have hmem : c ∈ t := by rw [← List.count_pos_iff]; omega
    obtain ⟨h1, h2, h3⟩ := cutAt_some hmem
    have hl := (cutAt_len c t).2.2 h1
    obtain ⟨t1, t2⟩ := cutAt_take hmem
    rw [decide_eq_true (by omega), cond_true, ixb_some hmem, decide_eq_false (by omega), cond_false]
    have hw3 : IntKind.i64.wrap (((cutAt c t).1.length : Int) + 0) = ((cutAt c t).1.length : Int) := by rw [wrapS (by omega) (by omega)]; omega
    have hw4 : IntKind.i64.wrap (((cutAt c t).1.length : Int) + (([c] : Str).length : Int)) = (((cutAt c t).1.length + 1 : Nat) : Int) := wrap1 _ (by omega)
    simp only [hw3, hw4, wrap1 i (by omega), Int.toNat_natCast]
    rw [chk_true (by omega), chk_true (by omega), chk_true (by omega)]
    have hdc := drop_cut_count hmem
    simp only [t1, t2]
    rw [hnx _ ⟨i + 1, rfl, by simpa using ho, by simp only; omega, by simp only; omega⟩ (by simp only [Int.toNat_natCast]; omega)]
    simp only [Int.toNat_natCast]
    rw [set_take o i _ (by omega)]
    congr 1
    rw [show splitAt c t = (cutAt c t).1 :: splitAt c (cutAt c t).2.1 by rw [splitAt_cut, if_pos h1]]
    simp
   ·obtain rfl : i = s.count c := by omega
    rw [decide_eq_false (by omega), cond_false]
    have hmem : c ∉ t := by rw [← List.count_pos_iff]; omega
    rw [chk_true (by omega), wrap1 _ (by omega)]
    simp only [Int.toNat_natCast, List.length_set]
    rw [chk_true (by omega), set_take o _ _ (by omega), splitAt_none hmem]
  ·simp
 unfold strings_Split
 rw [key]; rfl
theorem ibyte_eq (s : Str) (c : UInt8) : strings_IndexByte s (c.toNat : Int) = some (ixb s c) := by
 unfold strings_IndexByte internal_stringslite_IndexByte
 rw [indexByte_u8]; rfl
def allI {α : Type} (q : Nat → α → Bool) : Nat → List α → Bool
 | _, [] => true
 | i, x :: l => q i x && allI q (i + 1) l
section
variable {Z α : Type}
theorem forL_allI {f : Nat → α → Unit → (Unit → Option Z) → (Unit → Option Z) → Option Z} {z : Z} (q : Nat → α → Bool) (hf : ∀ i x nx k, f i x () nx k = bif q i x then nx () else some z) (k : Unit → Option Z) :
  ∀ (l : List α) (i : Nat), forL l i f () k = bif allI q i l then k () else some z
 | [], i => rfl
 | x :: l, i => by
  unfold forL allI
  rw [hf, forL_allI q hf k l (i + 1)]
  cases q i x <;> rfl
end
def smallB (c : UInt8) : Bool := decide (97 ≤ (c.toNat : Int)) && decide ((c.toNat : Int) ≤ 122)
def digitB (c : UInt8) : Bool := decide (48 ≤ (c.toNat : Int)) && decide ((c.toNat : Int) ≤ 57)
def nameB (c : UInt8) : Bool := ((smallB c || digitB c) || decide ((c.toNat : Int) = 45)) || decide ((c.toNat : Int) = 46)
def nameOk (s : Str) : Bool := ((s.all nameB && (!decide (s = []) && decide ((s.length : Int) ≤ 40))) && smallB (s.getD 0 0))
theorem orG (a b : Bool) : (a || bif !a then b else false) = (a || b) := by cases a <;> rfl
theorem ver_IsName_1_eq (c : UInt8) : ver_IsName_1 (c.toNat : Int) = some (nameB c) := by
 unfold ver_IsName_1 ver_isSmall ver_isDigit
 simp only [call_some, callG_some, orG]
 rfl
theorem ver_IsName_eq (s : Str) : ver_IsName s = some (nameOk s) := by
 unfold ver_IsName ver_each_i1
 simp only [jp_eq]
 rw [forL_all nameB (fun i x nx k => by simp only [ver_IsName_1_eq, call_some]; cases nameB x <;> rfl)]
 simp only [condS, call_some]
 rw [chk_true]
 ·unfold ver_isSmall
  simp only [callG_some]
  unfold nameOk smallB
  generalize hA : s.all nameB = A
  cases A <;> simp only [cond_true, cond_false, Bool.false_and, Bool.true_and]
  generalize hB : (!decide (s = []) && decide ((s.length : Int) ≤ 40)) = B
  cases B <;> rfl
 ·intro h
  cases s with
  | nil => cases hA : List.all [] nameB <;> rw [hA] at h <;> simp at h
  | cons => simp only [List.length_cons]; omega
theorem allI_all {α : Type} {q : Nat → α → Bool} {p : α → Bool} : ∀ (l : List α) (i : Nat), (∀ j x, i ≤ j → q j x = p x) → allI q i l = l.all p
 | [], i, _ => rfl
 | x :: l, i, h => by
  unfold allI
  rw [h i x (Nat.le_refl _), allI_all l (i + 1) (fun j x hj => h j x (by omega)), List.all_cons]
theorem R_IsName_eq (s : Str) : R_IsName s = some (nameOk s) := by
 unfold R_IsName
 simp only [jp_eq]
 refine (forL_allI (z := false) (fun i c => !((decide ((i : Int) = 0) && !smallB c) || !nameB c)) (fun i c nx k => ?_) _ _ _).trans ?_
 ·rw [condN]
  congr 1
  unfold nameB smallB digitB
  rw [Bool.eq_iff_iff]
  simp only [Bool.or_eq_true, Bool.and_eq_true, Bool.not_eq_true', decide_eq_true_eq, Bool.or_eq_false_iff, Bool.and_eq_false_iff, decide_eq_false_iff_not, Bool.not_eq_false']
  omega
 simp only [condS]
 congr 1
 unfold nameOk
 cases s with
 | nil => rfl
 | cons x l =>
  unfold allI
  rw [allI_all (p := nameB) l 1 (fun j x hj => by rw [decide_eq_false (by omega)]; cases nameB x <;> rfl), List.all_cons]
  simp only [List.getD_cons_zero]
  cases nameB x <;> cases smallB x <;> cases l.all nameB <;> simp
def valB (c : UInt8) : Bool := decide (32 ≤ (c.toNat : Int)) && decide ((c.toNat : Int) ≤ 126)
def valueOk (s : Str) : Bool := s.all valB && decide ((s.length : Int) ≤ 1000)
theorem R_IsValue_eq (s : Str) : R_IsValue s = some (valueOk s) := by
 unfold R_IsValue
 simp only [jp_eq]
 refine (forL_all (z := false) valB (fun i c nx k => ?_) _ _ _).trans ?_
 ·rw [condN]
  congr 1
  unfold valB
  rw [Bool.eq_iff_iff]
  simp only [Bool.or_eq_true, Bool.and_eq_true, Bool.not_eq_true', decide_eq_true_eq, Bool.or_eq_false_iff, Bool.and_eq_false_iff, decide_eq_false_iff_not, Bool.not_eq_false']
  omega
 ·simp only [condS]
  unfold valueOk
  cases s.all valB <;> rfl
theorem ver_IsValue_eq (s : Str) : ver_IsValue s = some (valueOk s) := by
 unfold ver_IsValue ver_each_i4
 simp only [jp_eq]
 rw [forL_all valB (fun i x nx k => by unfold ver_IsValue_1 valB; simp only [call_some]; rw [condN, Bool.not_not])]
 simp only [condS, callG_some]
 unfold valueOk
 cases s with
 | nil => rfl
 | cons x l => simp only [show decide (x :: l = []) = false from rfl, Bool.not_false, Bool.true_and, cond_true, Bool.false_or]; cases List.all (x :: l) valB <;> rfl
theorem when_eq (b : Bool) (e : Int) : R_when b e = some (bif b then e else 0) := by cases b <;> rfl
def or2 (a b : Int) : Int := bif !decide (a = 0) then a else b
theorem or2_step (a b : Int) (o : Option Int) (h : o = some b) : (bif !decide (a = 0) then some a else o) = some (or2 a b) := by
 subst h; unfold or2; cases decide (a = 0) <;> rfl
theorem cmpB_spec : ∀ a b : Str, (cmpB a b < 0 ↔ a < b) ∧ (cmpB a b = 0 ↔ a = b)
 | [], [] => by simp [cmpB, Lib.compareBytes]
 | _ :: _, [] => by simp [cmpB, Lib.compareBytes]
 | [], _ :: _ => by simp [cmpB, Lib.compareBytes]
 | a :: x, b :: y => by
  have ih := cmpB_spec x y
  unfold cmpB at *
  rw [Lib.compareBytes, List.cons_lt_cons_iff]
  by_cases h : a < b
  ·have : a ≠ b := fun e => by subst e; exact UInt8.lt_irrefl _ h
   simp [h, this]
  ·by_cases h2 : b < a
   ·have : a ≠ b := fun e => by subst e; exact UInt8.lt_irrefl _ h2
    simp [h, h2, this]
   ·have : a = b := UInt8.le_antisymm (UInt8.not_lt.1 h2) (UInt8.not_lt.1 h)
    subst this
    simpa [h] using ih
section
variable {K V : Type} [DecidableEq K]
theorem alook_ne {m : List (K × V)} {p : K × V} {k : K} (h : ¬ p.1 = k) : alook (p :: m) k = alook m k := by rw [alook, decide_eq_false h]; rfl
theorem alook_eq {m : List (K × V)} {p : K × V} {k : K} (h : p.1 = k) : alook (p :: m) k = some p.2 := by rw [alook, decide_eq_true h]; rfl
theorem aset_ne {m : List (K × V)} {p : K × V} {k : K} {v : V} (h : ¬ p.1 = k) : aset (p :: m) k v = p :: aset m k v := by rw [aset, decide_eq_false h]; rfl
theorem aset_eq {m : List (K × V)} {p : K × V} {k : K} {v : V} (h : p.1 = k) : aset (p :: m) k v = (k, v) :: m := by rw [aset, decide_eq_true h]; rfl
theorem adel_ne {m : List (K × V)} {p : K × V} {k : K} (h : ¬ p.1 = k) : adel (p :: m) k = p :: adel m k := by rw [adel, decide_eq_false h]; rfl
theorem adel_eq {m : List (K × V)} {p : K × V} {k : K} (h : p.1 = k) : adel (p :: m) k = m := by rw [adel, decide_eq_true h]; rfl
theorem alook_aset : ∀ (m : List (K × V)) (k : K) (v : V) (k' : K), alook (aset m k v) k' = if k = k' then some v else alook m k'
 | [], k, v, k' => by
  simp only [aset, alook]
  by_cases h : k = k' <;> simp [h]
 | p :: m, k, v, k' => by
  unfold aset
  by_cases h : p.1 = k
  ·rw [decide_eq_true h, cond_true]
   simp only [alook]
   by_cases h' : k = k'
   ·simp [h']
   ·have : ¬ p.1 = k' := fun e => h' (h ▸ e)
    simp [h', this]
  ·rw [decide_eq_false h, cond_false]
   simp only [alook]
   rw [alook_aset m k v k']
   by_cases h' : k = k'
   ·have : ¬ p.1 = k' := fun e => h (e.trans h'.symm)
    simp [h', this]
   ·simp only [if_neg h']
theorem keys_aset : ∀ (m : List (K × V)) (k : K) (v : V), (aset m k v).map (·.1) = m.map (·.1) ++ if (alook m k).isSome then [] else [k]
 | [], k, v => by simp [aset, alook]
 | p :: m, k, v => by
  by_cases h : p.1 = k
  ·rw [aset_eq h, alook_eq h]; simp [h]
  ·rw [aset_ne h, alook_ne h, List.map_cons, keys_aset m k v]; rfl
theorem len_aset (m : List (K × V)) (k : K) (v : V) : (aset m k v).length = m.length + if (alook m k).isSome then 0 else 1 := by
 have := congrArg List.length (keys_aset m k v)
 simp only [List.length_map, List.length_append] at this
 rw [this]
 split <;> simp
end
section
variable {V A : Type}
variable {key : A → Str}
end
theorem nameOk_len {p : Str} (h : nameOk p = true) : p.length ≤ 40 := by
 unfold nameOk at h
 simp only [Bool.and_eq_true, decide_eq_true_eq] at h
 omega
theorem wrapU (n : Nat) (h : n < 18446744073709551616) : IntKind.u64.wrap (n : Int) = n := by
 unfold IntKind.wrap
 simp only [IntKind.bits, IntKind.signed, Bool.false_and, Bool.false_eq_true, if_false]
 omega
theorem shr_eq (n c : Nat) (k : IntKind) (hc : c ≤ k.bits) : Int.fdiv (n : Int) (2 ^ (shI k (c : Int))) = ((n / 2 ^ c : Nat) : Int) := by
 have : shI k (c : Int) = c := by unfold shI; simp; omega
 rw [this, Int.fdiv_eq_ediv_of_nonneg _ (Int.le_of_lt (Int.pow_pos (by decide)))]
 rw [Int.natCast_ediv, Int.natCast_pow]; rfl
def HXs : Str := [48, 49, 50, 51, 52, 53, 54, 55, 56, 57, 97, 98, 99, 100, 101, 102]
def dg (n : Nat) : UInt8 := HXs.getD n 0
def hx : Nat → Nat → Str
 | 0, _ => []
 | k + 1, n => hx k (n / 16) ++ [dg (n % 16)]
def Ok {Z : Type} (o : Option Z) (Q : Z → Prop) : Prop := ∃ z, o = some z ∧ Q z
section
variable {Z A S : Type} {Q : Z → Prop}
theorem Ok.some {z : Z} (h : Q z) : Ok (some z) Q := ⟨z, rfl, h⟩
theorem Ok.mono {Q' : Z → Prop} {o : Option Z} (h : Ok o Q) (hq : ∀ z, Q z → Q' z) : Ok o Q' := by
 obtain ⟨z, e, hz⟩ := h
 exact ⟨z, e, hq z hz⟩
theorem Ok.chk {p : Prop} [Decidable p] {m : Option Z} (hp : p) (h : Ok m Q) : Ok (chk p m) Q := by rw [chk_true hp]; exact h
theorem Ok.call {P : A → Prop} {a : Option A} {k : A → Option Z} (ha : Ok a P) (h : ∀ x, P x → Ok (k x) Q) : Ok (call a k) Q := by
 obtain ⟨x, rfl, hx⟩ := ha
 exact h x hx
theorem Ok.callG {P : A → Prop} {g : Bool} {a : Option A} {d : A} {k : A → Option Z} (ha : g = true → Ok a P) (h : ∀ x, (g = true → P x) → Ok (k x) Q) : Ok (callG g a d k) Q := by
 cases g
 ·exact h d fun e => Bool.noConfusion e
 ·obtain ⟨x, rfl, hx⟩ := ha rfl
  exact h x fun _ => hx
theorem Ok.bif {c : Bool} {x y : Option Z} (h1 : c = true → Ok x Q) (h2 : c = false → Ok y Q) : Ok (bif c then x else y) Q := by
 cases c
 ·exact h2 rfl
 ·exact h1 rfl
theorem Ok.jp {P : S → Prop} {F : S → Option Z} {m : (S → Option Z) → Option Z} (hF : ∀ s, P s → Ok (F s) Q) (h : ∀ k, (∀ s, P s → Ok (k s) Q) → Ok (m k) Q) : Ok (jp F m) Q := h F hF
theorem Ok.letv {v : A} {k : A → Option Z} (h : Ok (k v) Q) : Ok (letv v k) Q := h
theorem Ok.loop {f : S → (S → Option Z) → (S → Option Z) → Option Z} {k : S → Option Z} (inv : S → Prop) (mu : S → Nat)
  (h : ∀ s nx, inv s → (∀ s', inv s' → mu s' < mu s → Ok (nx s') Q) → Ok (f s nx k) Q) : ∀ (N : Nat) (s : S), inv s → mu s < N → Ok (loopN N f s k) Q
 | 0, s, _, hm => by omega
 | N + 1, s, hi, hm => by
  unfold loopN
  exact h s _ hi fun s' hs' hlt => Ok.loop inv mu h N s' hs' (by omega)
theorem Ok.forC {f : Nat → S → (S → Option Z) → (S → Option Z) → Option Z} {k : S → Option Z} (n : Nat) (inv : Nat → S → Prop)
  (h : ∀ i s nx, i < n → inv i s → (∀ s', inv (i + 1) s' → Ok (nx s') Q) → Ok (f i s nx k) Q) (hk : ∀ s, inv n s → Ok (k s) Q) : ∀ (m i : Nat) (s : S), i + m = n → inv i s → Ok (forC m i f s k) Q
 | 0, i, s, hm, hi => by
  unfold Vc.forC
  exact hk s ((show i = n by omega) ▸ hi)
 | m + 1, i, s, hm, hi => by
  unfold Vc.forC
  exact h i s _ (by omega) hi fun s' hs' => Ok.forC n inv h hk m (i + 1) s' (by omega) hs'
end
theorem mid_eq {a b : Int} (h0 : 0 ≤ a + b) (h : a + b ≤ 100000000) : IntKind.i64.wrap (Int.fdiv (IntKind.u64.wrap (IntKind.i64.wrap (a + b))) (2 ^ (shI .u64 1))) = (a + b) / 2 := by
 rw [show IntKind.i64.wrap (a + b) = a + b from wrapS (by omega) (by omega)]
 obtain ⟨n, hn⟩ := Int.eq_ofNat_of_zero_le h0
 rw [hn, wrapU n (by omega), show (1 : Int) = ((1 : Nat) : Int) from rfl, shr_eq n 1 .u64 (by decide), wrapS (by omega) (by omega)]
 simp
theorem set_len {α : Type} (l : List α) (i : Nat) (x : α) : (List.set l i x).length = l.length := List.length_set
theorem swp_perm {l o : List api_Record} {i j : Int} {d d' : api_Record} (h : o.Perm l) (hi : 0 ≤ i ∧ i < o.length) (hj : 0 ≤ j ∧ j < o.length) : (List.set (List.set o i.toNat (o.getD j.toNat d)) j.toNat (o.getD i.toNat d')).Perm l := by
 have h1 : i.toNat < o.length := by omega
 have h2 : j.toNat < o.length := by omega
 have e1 : o.getD i.toNat d' = o[i.toNat] := by rw [List.getD_eq_getElem?_getD, List.getElem?_eq_getElem h1]; rfl
 have e2 : o.getD j.toNat d = o[j.toNat] := by rw [List.getD_eq_getElem?_getD, List.getElem?_eq_getElem h2]; rfl
 rw [e1, e2]
 exact (List.set_set_perm h1 h2).trans h
theorem ins_ok (a b : Int) (l : List api_Record) (h0 : 0 ≤ a) (ha : a ≤ l.length) (hb : b ≤ l.length) (hn : l.length ≤ 1000000) : Ok (slices_insertionSortCmpFunc_api_Record_i1 a b l) fun z => z.Perm l := by
 unfold slices_insertionSortCmpFunc_api_Record_i1
 have hF := fuel_ge
 generalize Fuel = N at hF ⊢
 refine Ok.loop (fun s => a + 1 ≤ s.1 ∧ s.1 ≤ max (a + 1) b ∧ s.2.Perm l) (fun s => (b - s.1).toNat) ?_ N _ ?_ ?_
 ·rintro ⟨i, o⟩ nx ⟨h1, h2, h3⟩ hnx
  dsimp only at *
  have hq := h3.length_eq
  refine Ok.bif (fun hc => ?_) (fun hc => ?_)
  ·have hc := of_decide_eq_true hc
   refine Ok.jp (P := fun o' => o'.Perm l) (fun o' ho' => ?_) (fun k hk => ?_)
   ·rw [wrapS (by omega) (by omega)]
    exact hnx (i + 1, o') ⟨by dsimp only; omega, by dsimp only; omega, ho'⟩ (by dsimp only; omega)
   ·refine Ok.loop (fun s => a ≤ s.1 ∧ s.1 ≤ i ∧ s.2.Perm l) (fun s => (s.1 - a).toNat) ?_ N _ ?_ ?_
    ·rintro ⟨j, o'⟩ nx2 ⟨g1, g2, g3⟩ hnx2
     dsimp only at *
     have hq := g3.length_eq
     have e : IntKind.i64.wrap (j - 1) = j - 1 := wrapS (by omega) (by omega)
     simp only [e, set_len]
     refine Ok.chk (fun _ => by omega) (Ok.chk (fun hg => by have := of_decide_eq_true hg; omega) ?_)
     refine Ok.callG (P := fun _ => True) (fun _ => Ok.some trivial) (fun x _ => ?_)
     refine Ok.bif (fun hg => ?_) (fun _ => hk o' g3)
     simp only [Bool.and_eq_true, decide_eq_true_eq] at hg
     refine Ok.chk (by omega) (Ok.chk (by omega) (Ok.chk (by omega) (Ok.chk (by omega) ?_)))
     exact hnx2 (j - 1, _) ⟨by dsimp only; omega, by dsimp only; omega, swp_perm g3 (by omega) (by omega)⟩ (by dsimp only; omega)
    ·exact ⟨by dsimp only; omega, by dsimp only; omega, h3⟩
    ·dsimp only; omega
  ·exact Ok.some h3
 ·have e : IntKind.i64.wrap (a + 1) = a + 1 := wrapS (by omega) (by omega)
  exact ⟨by dsimp only; omega, by dsimp only; omega, List.Perm.refl _⟩
 ·have e : IntKind.i64.wrap (a + 1) = a + 1 := wrapS (by omega) (by omega)
  dsimp only; omega
theorem swp_ok (a b n : Int) (l : List api_Record) (h0 : 0 ≤ a) (h1 : 0 ≤ b) (ha : a + n ≤ l.length) (hb : b + n ≤ l.length) (hn : l.length ≤ 1000000) : Ok (slices_swapRangeCmpFunc_api_Record_i1 a b n l) fun z => z.Perm l := by
 unfold slices_swapRangeCmpFunc_api_Record_i1
 have hF := fuel_ge
 generalize Fuel = N at hF ⊢
 refine Ok.loop (fun s => 0 ≤ s.1 ∧ s.2.Perm l) (fun s => (n - s.1).toNat) ?_ N _ ?_ ?_
 ·rintro ⟨i, o⟩ nx ⟨g1, g2⟩ hnx
  dsimp only at *
  have hq := g2.length_eq
  refine Ok.bif (fun hc => ?_) (fun _ => Ok.some g2)
  have hc := of_decide_eq_true hc
  have e1 : IntKind.i64.wrap (b + i) = b + i := wrapS (by omega) (by omega)
  have e2 : IntKind.i64.wrap (a + i) = a + i := wrapS (by omega) (by omega)
  have e3 : IntKind.i64.wrap (i + 1) = i + 1 := wrapS (by omega) (by omega)
  simp only [e1, e2, e3, set_len]
  refine Ok.chk (by omega) (Ok.chk (by omega) (Ok.chk (by omega) (Ok.chk (by omega) ?_)))
  exact hnx (i + 1, _) ⟨by dsimp only; omega, swp_perm g2 (by omega) (by omega)⟩ (by dsimp only; omega)
 ·exact ⟨by dsimp only; omega, List.Perm.refl _⟩
 ·dsimp only; omega
theorem rot_ok (a m b : Int) (l : List api_Record) (h0 : 0 ≤ a) (h1 : a < m) (h2 : m < b) (hb : b ≤ l.length) (hn : l.length ≤ 1000000) : Ok (slices_rotateCmpFunc_api_Record_i1 a m b l) fun z => z.Perm l := by
 unfold slices_rotateCmpFunc_api_Record_i1
 have hF := fuel_ge
 generalize Fuel = N at hF ⊢
 refine Ok.jp (P := fun s => 0 < s.1 ∧ s.1 ≤ m - a ∧ s.1 ≤ b - m ∧ s.2.Perm l) ?_ (fun k hk => ?_)
 ·rintro ⟨i, o⟩ ⟨g1, g2, g3, g4⟩
  dsimp only at *
  have hq := g4.length_eq
  rw [wrapS (by omega) (by omega)]
  exact Ok.call (swp_ok (m - i) m i o (by omega) (by omega) (by omega) (by omega) (by omega)) fun x hx => Ok.some (hx.trans g4)
 ·refine Ok.loop (fun s => 0 < s.1 ∧ 0 < s.2.1 ∧ s.1 ≤ m - a ∧ s.2.1 ≤ b - m ∧ s.2.2.Perm l) (fun s => (s.1 + s.2.1).toNat) ?_ N _ ?_ ?_
  ·rintro ⟨i, j, o⟩ nx ⟨g1, g2, g3, g4, g5⟩ hnx
   dsimp only at *
   have hq := g5.length_eq
   refine Ok.bif (fun hc => ?_) (fun hc => ?_)
   ·simp only [Bool.not_eq_true', decide_eq_false_iff_not] at hc
    have e1 : IntKind.i64.wrap (m - i) = m - i := wrapS (by omega) (by omega)
    have e2 : IntKind.i64.wrap (i - j) = i - j := wrapS (by omega) (by omega)
    have e3 : IntKind.i64.wrap (j - i) = j - i := wrapS (by omega) (by omega)
    have e4 : IntKind.i64.wrap (m + j) = m + j := wrapS (by omega) (by omega)
    have e5 : IntKind.i64.wrap (m + j - i) = m + j - i := wrapS (by omega) (by omega)
    simp only [e1, e2, e3, e4, e5]
    refine Ok.bif (fun hd => ?_) (fun hd => ?_)
    ·have hd := of_decide_eq_true hd
     exact Ok.call (swp_ok (m - i) m j o (by omega) (by omega) (by omega) (by omega) (by omega)) fun x hx => hnx (i - j, j, x) ⟨by dsimp only; omega, by dsimp only; omega, by dsimp only; omega, by dsimp only; omega, hx.trans g5⟩ (by dsimp only; omega)
    ·have hd := of_decide_eq_false hd
     exact Ok.call (swp_ok (m - i) (m + j - i) i o (by omega) (by omega) (by omega) (by omega) (by omega)) fun x hx => hnx (i, j - i, x) ⟨by dsimp only; omega, by dsimp only; omega, by dsimp only; omega, by dsimp only; omega, hx.trans g5⟩ (by dsimp only; omega)
   ·simp only [Bool.not_eq_false', decide_eq_true_eq] at hc
    exact hk (i, o) ⟨g1, g3, by dsimp only; omega, g5⟩
  ·have e1 : IntKind.i64.wrap (m - a) = m - a := wrapS (by omega) (by omega)
   have e2 : IntKind.i64.wrap (b - m) = b - m := wrapS (by omega) (by omega)
   exact ⟨by dsimp only; omega, by dsimp only; omega, by dsimp only; omega, by dsimp only; omega, List.Perm.refl _⟩
  ·have e1 : IntKind.i64.wrap (m - a) = m - a := wrapS (by omega) (by omega)
   have e2 : IntKind.i64.wrap (b - m) = b - m := wrapS (by omega) (by omega)
   dsimp only; omega
theorem letv_eq {Z A : Type} (v : A) (k : A → Option Z) : letv v k = k v := rfl
set_option maxHeartbeats 4000000 in
theorem sym_ok : ∀ (nrec : Nat) (a m b : Int) (l : List api_Record), 0 ≤ a → a < m → m < b → b ≤ l.length → l.length ≤ 1000000 → (b - a).toNat < nrec → Ok (slices_symMergeCmpFunc_api_Record_i1 nrec a m b l) fun z => z.Perm l
 | 0, a, m, b, l, _, _, _, _, _, hn => by omega
 | nrec + 1, a, m, b, l, h0, h1, h2, hb, hl, hn => by
  unfold slices_symMergeCmpFunc_api_Record_i1
  have hF := fuel_ge
  generalize Fuel = N at hF ⊢
  have ema : IntKind.i64.wrap (m - a) = m - a := wrapS (by omega) (by omega)
  have ebm : IntKind.i64.wrap (b - m) = b - m := wrapS (by omega) (by omega)
  have emid := mid_eq (a := a) (b := b) (by omega) (by omega)
  have enn : IntKind.i64.wrap ((a + b) / 2 + m) = (a + b) / 2 + m := wrapS (by omega) (by omega)
  have enb : IntKind.i64.wrap ((a + b) / 2 + m - b) = (a + b) / 2 + m - b := wrapS (by omega) (by omega)
  have en1 : IntKind.i64.wrap ((a + b) / 2 + m - 1) = (a + b) / 2 + m - 1 := wrapS (by omega) (by omega)
  simp only [letv_eq, ema, ebm, emid, enn, enb, en1, set_len]
  refine Ok.jp (P := fun _ => m - a ≠ 1) (fun _ hma => ?_) (fun k3 hk3 => ?_)
  ·refine Ok.jp (P := fun _ => b - m ≠ 1) (fun _ hbm => ?_) (fun k4 hk4 => ?_)
   ·refine Ok.jp (P := fun s => a ≤ s.1 ∧ (a + b) / 2 + m - s.1 ≤ b ∧ s.1 ≤ s.2 ∧ s.2 ≤ (a + b) / 2 ∧ s.2 ≤ m) ?_ (fun k5 hk5 => ?_)
    ·rintro ⟨st, r⟩ ⟨g1, g2, g3, g4, g5⟩
     dsimp only at *
     refine Ok.jp (P := fun st => a ≤ st ∧ (a + b) / 2 + m - st ≤ b ∧ st ≤ (a + b) / 2 ∧ st ≤ m) ?_ (fun k6 hk6 => ?_)
     ·rintro st ⟨g1, g2, g3, g4⟩
      have een : IntKind.i64.wrap ((a + b) / 2 + m - st) = (a + b) / 2 + m - st := wrapS (by omega) (by omega)
      simp only [een]
      refine Ok.jp (P := fun o' => o'.Perm l) (fun o1 ho1 => ?_) (fun k7 hk7 => ?_)
      ·have hq1 := ho1.length_eq
       refine Ok.jp (P := fun o' => o'.Perm l) (fun o2 ho2 => ?_) (fun k8 hk8 => ?_)
       ·have hq2 := ho2.length_eq
        refine Ok.bif (fun hc => ?_) (fun _ => Ok.some ho2)
        simp only [Bool.and_eq_true, decide_eq_true_eq] at hc
        exact Ok.call (sym_ok nrec ((a + b) / 2) ((a + b) / 2 + m - st) b o2 (by omega) (by omega) (by omega) (by omega) (by omega) (by omega)) fun x hx => Ok.some (hx.trans ho2)
       ·refine Ok.bif (fun hc => ?_) (fun _ => hk8 _ ho1)
        simp only [Bool.and_eq_true, decide_eq_true_eq] at hc
        exact Ok.call (sym_ok nrec a st ((a + b) / 2) o1 (by omega) (by omega) (by omega) (by omega) (by omega) (by omega)) fun x hx => hk8 _ (hx.trans ho1)
      ·refine Ok.bif (fun hc => ?_) (fun _ => hk7 _ (List.Perm.refl _))
       simp only [Bool.and_eq_true, decide_eq_true_eq] at hc
       exact Ok.call (rot_ok st m ((a + b) / 2 + m - st) l (by omega) (by omega) (by omega) (by omega) (by omega)) fun x hx => hk7 _ hx
     ·refine Ok.loop (fun s => a ≤ s.1 ∧ (a + b) / 2 + m - s.1 ≤ b ∧ s.1 ≤ s.2 ∧ s.2 ≤ (a + b) / 2 ∧ s.2 ≤ m) (fun s => (s.2 - s.1).toNat) ?_ N _ ⟨g1, g2, g3, g4, g5⟩ (by dsimp only; omega)
      rintro ⟨x, y⟩ nx ⟨q1, q2, q3, q4, q5⟩ hnx
      dsimp only at *
      refine Ok.bif (fun hc => ?_) (fun hc => hk6 x ⟨q1, q2, by omega, by omega⟩)
      have hc := of_decide_eq_true hc
      have exy := mid_eq (a := x) (b := y) (by omega) (by omega)
      have ec : IntKind.i64.wrap ((a + b) / 2 + m - 1 - (x + y) / 2) = (a + b) / 2 + m - 1 - (x + y) / 2 := wrapS (by omega) (by omega)
      have ec1 : IntKind.i64.wrap ((x + y) / 2 + 1) = (x + y) / 2 + 1 := wrapS (by omega) (by omega)
      simp only [exy, ec, ec1]
      refine Ok.chk (by omega) (Ok.chk (by omega) ?_)
      refine Ok.call (P := fun _ => True) (by unfold Law_could_1; exact Ok.some trivial) fun v _ => ?_
      refine Ok.bif (fun _ => ?_) (fun _ => ?_)
      ·exact hnx ((x + y) / 2 + 1, y) ⟨by dsimp only; omega, by dsimp only; omega, by dsimp only; omega, by dsimp only; omega, by dsimp only; omega⟩ (by dsimp only; omega)
      ·exact hnx (x, (x + y) / 2) ⟨by dsimp only; omega, by dsimp only; omega, by dsimp only; omega, by dsimp only; omega, by dsimp only; omega⟩ (by dsimp only; omega)
    ·refine Ok.bif (fun hc => ?_) (fun hc => ?_)
     ·have hc := of_decide_eq_true hc
      exact hk5 _ ⟨by dsimp only; omega, by dsimp only; omega, by dsimp only; omega, by dsimp only; omega, by dsimp only; omega⟩
     ·have hc := of_decide_eq_false hc
      exact hk5 _ ⟨by dsimp only; omega, by dsimp only; omega, by dsimp only; omega, by dsimp only; omega, by dsimp only; omega⟩
   ·refine Ok.bif (fun hc => ?_) (fun hc => hk4 () (of_decide_eq_false hc))
    refine Ok.jp (P := fun i => a ≤ i ∧ i ≤ m) ?_ (fun k5 hk5 => ?_)
    ·rintro i ⟨g1, g2⟩
     refine Ok.jp (P := fun o' => o'.Perm l) (fun o1 ho1 => Ok.some ho1) (fun k7 hk7 => ?_)
     refine Ok.loop (fun s => i ≤ s.1 ∧ s.1 ≤ m ∧ s.2.Perm l) (fun s => (s.1 - i).toNat) ?_ N _ ⟨g2, Int.le_refl _, List.Perm.refl _⟩ (by dsimp only; omega)
     rintro ⟨x, o⟩ nx ⟨q1, q2, q3⟩ hnx
     dsimp only at *
     have hq := q3.length_eq
     refine Ok.bif (fun hc => ?_) (fun hc => hk7 o q3)
     have hc := of_decide_eq_true hc
     have e1 : IntKind.i64.wrap (x - 1) = x - 1 := wrapS (by omega) (by omega)
     simp only [e1, set_len]
     refine Ok.chk (by omega) (Ok.chk (by omega) (Ok.chk (by omega) (Ok.chk (by omega) ?_)))
     exact hnx (x - 1, _) ⟨by dsimp only; omega, by dsimp only; omega, swp_perm q3 (by omega) (by omega)⟩ (by dsimp only; omega)
    ·refine Ok.loop (fun s => a ≤ s.1 ∧ s.1 ≤ s.2 ∧ s.2 ≤ m) (fun s => (s.2 - s.1).toNat) ?_ N _ ⟨Int.le_refl _, by dsimp only; omega, Int.le_refl _⟩ (by dsimp only; omega)
     rintro ⟨x, y⟩ nx ⟨q1, q2, q3⟩ hnx
     dsimp only at *
     refine Ok.bif (fun hc => ?_) (fun hc => hk5 x ⟨q1, by omega⟩)
     have hc := of_decide_eq_true hc
     have exy := mid_eq (a := x) (b := y) (by omega) (by omega)
     have ec1 : IntKind.i64.wrap ((x + y) / 2 + 1) = (x + y) / 2 + 1 := wrapS (by omega) (by omega)
     simp only [exy, ec1]
     refine Ok.chk (by omega) (Ok.chk (by omega) ?_)
     refine Ok.call (P := fun _ => True) (by unfold Law_could_1; exact Ok.some trivial) fun v _ => ?_
     refine Ok.bif (fun _ => ?_) (fun _ => ?_)
     ·exact hnx ((x + y) / 2 + 1, y) ⟨by dsimp only; omega, by dsimp only; omega, by dsimp only; omega⟩ (by dsimp only; omega)
     ·exact hnx (x, (x + y) / 2) ⟨by dsimp only; omega, by dsimp only; omega, by dsimp only; omega⟩ (by dsimp only; omega)
  ·refine Ok.bif (fun hc => ?_) (fun hc => hk3 () (of_decide_eq_false hc))
   refine Ok.jp (P := fun i => m ≤ i ∧ i ≤ b) ?_ (fun k5 hk5 => ?_)
   ·rintro i ⟨g1, g2⟩
    have ei : IntKind.i64.wrap (i - 1) = i - 1 := wrapS (by omega) (by omega)
    simp only [ei]
    refine Ok.jp (P := fun o' => o'.Perm l) (fun o1 ho1 => Ok.some ho1) (fun k7 hk7 => ?_)
    refine Ok.loop (fun s => a ≤ s.1 ∧ s.2.Perm l) (fun s => (i - s.1).toNat) ?_ N _ ⟨Int.le_refl _, List.Perm.refl _⟩ (by dsimp only; omega)
    rintro ⟨x, o⟩ nx ⟨q1, q3⟩ hnx
    dsimp only at *
    have hq := q3.length_eq
    refine Ok.bif (fun hc => ?_) (fun hc => hk7 o q3)
    have hc := of_decide_eq_true hc
    have e1 : IntKind.i64.wrap (x + 1) = x + 1 := wrapS (by omega) (by omega)
    simp only [e1, set_len]
    refine Ok.chk (by omega) (Ok.chk (by omega) (Ok.chk (by omega) (Ok.chk (by omega) ?_)))
    exact hnx (x + 1, _) ⟨by dsimp only; omega, swp_perm q3 (by omega) (by omega)⟩ (by dsimp only; omega)
   ·refine Ok.loop (fun s => m ≤ s.1 ∧ s.1 ≤ s.2 ∧ s.2 ≤ b) (fun s => (s.2 - s.1).toNat) ?_ N _ ⟨Int.le_refl _, by dsimp only; omega, Int.le_refl _⟩ (by dsimp only; omega)
    rintro ⟨x, y⟩ nx ⟨q1, q2, q3⟩ hnx
    dsimp only at *
    refine Ok.bif (fun hc => ?_) (fun hc => hk5 x ⟨q1, by omega⟩)
    have hc := of_decide_eq_true hc
    have exy := mid_eq (a := x) (b := y) (by omega) (by omega)
    have ec1 : IntKind.i64.wrap ((x + y) / 2 + 1) = (x + y) / 2 + 1 := wrapS (by omega) (by omega)
    simp only [exy, ec1]
    refine Ok.chk (by omega) (Ok.chk (by omega) ?_)
    refine Ok.call (P := fun _ => True) (by unfold Law_could_1; exact Ok.some trivial) fun v _ => ?_
    refine Ok.bif (fun _ => ?_) (fun _ => ?_)
    ·exact hnx ((x + y) / 2 + 1, y) ⟨by dsimp only; omega, by dsimp only; omega, by dsimp only; omega⟩ (by dsimp only; omega)
    ·exact hnx (x, (x + y) / 2) ⟨by dsimp only; omega, by dsimp only; omega, by dsimp only; omega⟩ (by dsimp only; omega)
theorem stable_ok (l : List api_Record) (hl : l.length ≤ 100000) : Ok (slices_SortStableFunc_api_Record_api_Record_i1 l) fun z => z.Perm l := by
 unfold slices_SortStableFunc_api_Record_api_Record_i1
 refine Ok.call (P := fun z => z.Perm l) ?_ fun x hx => Ok.some hx
 unfold slices_stableCmpFunc_api_Record_i1
 have hF := fuel_ge
 have hsym : ∀ (a m b : Int) (o : List api_Record), 0 ≤ a → a < m → m < b → b ≤ o.length → o.length = l.length → Ok (slices_symMergeCmpFunc_api_Record_i1 Fuel a m b o) fun z => z.Perm o := fun a m b o q1 q2 q3 q4 q5 => sym_ok Fuel a m b o q1 q2 q3 q4 (by omega) (by omega)
 generalize Fuel = N at hF hsym ⊢
 refine Ok.jp (P := fun s => 0 ≤ s.1 ∧ s.1 ≤ (l.length : Int) ∧ s.2.Perm l) ?_ (fun k1 hk1 => ?_)
 ·rintro ⟨a, o⟩ ⟨g1, g2, g3⟩
  dsimp only at *
  have hq := g3.length_eq
  refine Ok.call (ins_ok a l.length o g1 (by omega) (by omega) (by omega)) fun o1 ho1 => ?_
  refine Ok.loop (fun s => 20 ≤ s.1 ∧ s.2.Perm l) (fun s => ((l.length : Int) - s.1).toNat) ?_ N _ ⟨Int.le_refl _, ho1.trans g3⟩ (by dsimp only; omega)
  rintro ⟨bs, o⟩ nx ⟨q1, q2⟩ hnx
  dsimp only at *
  have hq2 := q2.length_eq
  refine Ok.bif (fun hc => ?_) (fun _ => Ok.some q2)
  have hc := of_decide_eq_true hc
  have e1 : IntKind.i64.wrap (bs * 2) = bs * 2 := wrapS (by omega) (by omega)
  have e2 : IntKind.i64.wrap (2 * bs) = 2 * bs := wrapS (by omega) (by omega)
  simp only [e1, e2]
  refine Ok.jp (P := fun s => 0 ≤ s.1 ∧ s.1 ≤ (l.length : Int) ∧ s.2.Perm l) ?_ (fun k2 hk2 => ?_)
  ·rintro ⟨a, o⟩ ⟨g1, g2, g3⟩
   dsimp only at *
   have hq := g3.length_eq
   have e3 : IntKind.i64.wrap (a + bs) = a + bs := wrapS (by omega) (by omega)
   simp only [e3]
   refine Ok.bif (fun hd => ?_) (fun _ => hnx (bs * 2, o) ⟨by dsimp only; omega, g3⟩ (by dsimp only; omega))
   have hd := of_decide_eq_true hd
   exact Ok.call (hsym a (a + bs) l.length o g1 (by omega) (by omega) (by omega) hq) fun x hx => hnx (bs * 2, x) ⟨by dsimp only; omega, hx.trans g3⟩ (by dsimp only; omega)
  ·refine Ok.loop (fun s => 0 ≤ s.1 ∧ s.1 ≤ (l.length : Int) ∧ s.2.1 = s.1 + 2 * bs ∧ s.2.2.Perm l) (fun s => ((l.length : Int) - s.1).toNat) ?_ N _ ⟨Int.le_refl _, by dsimp only; omega, by dsimp only; omega, q2⟩ (by dsimp only; omega)
   rintro ⟨a, b, o⟩ nx2 ⟨p1, p2, p3, p4⟩ hnx2
   dsimp only at *
   have hqp := p4.length_eq
   refine Ok.bif (fun hd => ?_) (fun _ => hk2 (a, o) ⟨p1, p2, p4⟩)
   have hd := of_decide_eq_true hd
   have e3 : IntKind.i64.wrap (a + bs) = a + bs := wrapS (by omega) (by omega)
   have e4 : IntKind.i64.wrap (b + 2 * bs) = b + 2 * bs := wrapS (by omega) (by omega)
   simp only [e3, e4]
   exact Ok.call (hsym a (a + bs) b o p1 (by omega) (by omega) (by omega) hqp) fun x hx => hnx2 (b, b + 2 * bs, x) ⟨by dsimp only; omega, by dsimp only; omega, by dsimp only, hx.trans p4⟩ (by dsimp only; omega)
 ·refine Ok.loop (fun s => 0 ≤ s.1 ∧ s.1 ≤ (l.length : Int) ∧ s.2.1 = s.1 + 20 ∧ s.2.2.Perm l) (fun s => ((l.length : Int) - s.1).toNat) ?_ N _ ⟨Int.le_refl _, by dsimp only; omega, by dsimp only; omega, List.Perm.refl _⟩ (by dsimp only; omega)
  rintro ⟨a, b, o⟩ nx2 ⟨p1, p2, p3, p4⟩ hnx2
  dsimp only at *
  have hqp := p4.length_eq
  refine Ok.bif (fun hd => ?_) (fun _ => hk1 (a, o) ⟨p1, p2, p4⟩)
  have hd := of_decide_eq_true hd
  have e4 : IntKind.i64.wrap (b + 20) = b + 20 := wrapS (by omega) (by omega)
  simp only [e4]
  exact Ok.call (ins_ok a b o p1 (by omega) (by omega) (by omega)) fun x hx => hnx2 (b, b + 20, x) ⟨by dsimp only; omega, by dsimp only; omega, by dsimp only, hx.trans p4⟩ (by dsimp only; omega)
def wordB (c : UInt8) : Bool := smallB c || digitB c
def LT : Str := [97, 98, 99, 100, 101, 102, 103, 104, 105, 106, 107, 108, 109, 110, 111, 112, 113, 114, 115, 116, 117, 118, 119, 120, 121, 122, 48, 49, 50, 51, 52, 53, 54, 55, 56, 57]
def DG : Str := [48, 49, 50, 51, 52, 53, 54, 55, 56, 57]
theorem all_u8 {p : UInt8 → Prop} (h : ∀ n : Fin 256, p (UInt8.ofNat n.val)) (c : UInt8) : p c := by
 have := h ⟨c.toNat, c.toNat_lt⟩
 simpa using this
theorem LT_mem (c : UInt8) : LT.contains c = wordB c := all_u8 (p := fun c => LT.contains c = wordB c) (by decide +kernel) c
theorem DG_mem (c : UInt8) : DG.contains c = digitB c := all_u8 (p := fun c => DG.contains c = digitB c) (by decide +kernel) c
theorem dropWhile_all {α : Type} {p : α → Bool} : ∀ {l : List α}, (∀ x ∈ l, p x = true) → l.dropWhile p = []
 | [], _ => rfl
 | x :: l, h => by
  rw [List.dropWhile_cons, if_pos (h x (by simp))]
  exact dropWhile_all fun y hy => h y (by simp [hy])
theorem trim_all {w bs : Str} (h : w.all bs.contains = true) : Go.Lib.trimS w bs = [] := by
 rw [List.all_eq_true] at h
 unfold Go.Lib.trimS Go.Lib.trimRightS Go.Lib.trimLeftS
 rw [dropWhile_all (l := w.reverse) (fun x hx => h x (by simpa using hx))]
 rfl
theorem inner_eq (w bs : Str) : R_inner w bs = some (w.all bs.contains) := by
 unfold R_inner
 simp only [jp_eq]
 rw [forL_all bs.contains (fun i x nx k => ?_)]
 ·rw [condS]; cases w.all bs.contains <;> rfl
 ·rw [ibyte_eq, call_some, condN]
  congr 1
  by_cases h : x ∈ bs
  ·rw [ixb_some h, decide_eq_false (by omega)]; simpa using h
  ·rw [ixb_none h, decide_eq_true (by omega)]; simpa using h
theorem of_eq (w bs : Str) (hb : bs.length ≤ 4294967280 ∧ (bs.all fun c => decide (c.toNat < 128)) = true) : R_Of w bs = some (w.all bs.contains) := by
 unfold R_Of strings_Trim
 rw [chk_true hb, call_some, inner_eq, callG_some]
 congr 1
 cases h : w.all bs.contains
 ·cases decide (Go.Lib.trimS w bs = []) <;> rfl
 ·rw [trim_all h]; rfl
theorem ofL_eq (w : Str) : R_Of w LT = some (w.all wordB) := by
 rw [of_eq w LT (by decide)]
 congr 2
 funext c
 exact LT_mem c
theorem ofD_eq (w : Str) : R_Of w DG = some (w.all digitB) := by
 rw [of_eq w DG (by decide)]
 congr 2
 funext c
 exact DG_mem c
def eachOk (p : UInt8 → Bool) (w : Str) (n : Int) : Bool := w.all p && (!decide (w = []) && decide ((w.length : Int) ≤ n))
def numOk (w : Str) : Bool := eachOk digitB w 10
theorem isDigit_eq (c : UInt8) : ver_isDigit (c.toNat : Int) = some (digitB c) := rfl
theorem isSmall_eq (c : UInt8) : ver_isSmall (c.toNat : Int) = some (smallB c) := rfl
theorem isEarly1_eq (c : UInt8) : ver_isEarly_1 (c.toNat : Int) = some (wordB c) := by
 unfold ver_isEarly_1
 rw [isSmall_eq, isDigit_eq, call_some, callG_some]
 unfold wordB
 rw [orG]
theorem each2_eq (w : Str) (n : Int) : ver_each_i2 w n = some (eachOk wordB w n) := by
 unfold ver_each_i2
 simp only [jp_eq]
 rw [forL_all wordB (fun i x nx k => by rw [isEarly1_eq, call_some, condN, Bool.not_not])]
 rw [condS]
 unfold eachOk
 cases w.all wordB <;> rfl
theorem each3_eq (w : Str) (n : Int) : ver_each_i3 w n = some (eachOk digitB w n) := by
 unfold ver_each_i3
 simp only [jp_eq]
 rw [forL_all digitB (fun i x nx k => by rw [isDigit_eq, call_some, condN, Bool.not_not])]
 rw [condS]
 unfold eachOk
 cases w.all digitB <;> rfl
theorem isNumeral_eq (w : Str) : ver_isNumeral w = some (numOk w) := by
 unfold ver_isNumeral
 rw [each3_eq, call_some]
 rfl
def wordOk (w : Str) : Bool := eachOk wordB w 10 && !((w.all digitB && decide (1 < (w.length : Int))) && decide (((w.getD 0 0).toNat : Int) = 48))
def earlyOk (e : Str) : Bool := (splitAt 46 e).all wordOk && decide ((e.length : Int) ≤ 40)
theorem isEarly_eq (e : Str) (h : e.length ≤ 17179869184) : ver_isEarly e = some (earlyOk e) := by
 unfold ver_isEarly
 simp only [jp_eq]
 rw [split_eq e 46 h, call_some]
 rw [forL_all wordOk (fun i w nx k => ?_)]
 ·rw [condS]
  unfold earlyOk
  cases (splitAt 46 e).all wordOk <;> rfl
 ·rw [each2_eq, call_some, isNumeral_eq, callG_some]
  cases w with
  | nil => rfl
  | cons c l =>
   rw [chk_true (fun _ => by simp only [List.length_cons]; omega)]
   rw [condN]
   congr 1
   unfold wordOk numOk
   have e1 : eachOk wordB (c :: l) 10 = (List.all (c :: l) wordB && decide (((c :: l).length : Int) ≤ 10)) := by unfold eachOk; simp
   have e2 : eachOk digitB (c :: l) 10 = (List.all (c :: l) digitB && decide (((c :: l).length : Int) ≤ 10)) := by unfold eachOk; simp
   have e3 : decide (c :: l = ([48] : Str)) = (decide (((c :: l).getD 0 0).toNat = 48) && decide (l = [])) := by
    rw [Bool.eq_iff_iff]
    simp only [Bool.and_eq_true, decide_eq_true_eq, List.getD_cons_zero, List.cons.injEq]
    constructor
    ·rintro ⟨rfl, rfl⟩; exact ⟨rfl, rfl⟩
    ·rintro ⟨h1, rfl⟩; exact ⟨by rw [← UInt8.toNat_inj]; exact h1, rfl⟩
   have e4 : decide (1 < ((c :: l).length : Int)) = !decide (l = []) := by
    rw [Bool.eq_iff_iff]
    simp only [decide_eq_true_eq, Bool.not_eq_true', decide_eq_false_iff_not, List.length_cons]
    cases l <;> simp
    omega
   have e5 : decide ((((c :: l).getD 0 0).toNat : Int) = 48) = decide (((c :: l).getD 0 0).toNat = 48) := decide_eq_decide.2 (by omega)
   rw [e1, e2, e3, e4, e5]
   generalize List.all (c :: l) wordB = b1
   generalize List.all (c :: l) digitB = b2
   generalize decide (((c :: l).length : Int) ≤ 10) = b3
   generalize decide (((c :: l).getD 0 0).toNat = 48) = b4
   generalize decide (l = []) = b5
   cases b1 <;> cases b2 <;> cases b3 <;> cases b4 <;> cases b5 <;> rfl
def rngOk (n : Int) : Bool := decide (0 ≤ n) && decide (n ≤ 999999)
def vE (v : api_Version) : Int := bif rngOk v.Major && (rngOk v.Minor && rngOk v.Patch) then (bif decide (v.Early = []) || earlyOk v.Early then 0 else 2) else 3
theorem outside_eq (n : Int) : ver_outside n 0 999999 = some (!rngOk n) := by
 unfold ver_outside rngOk
 congr 1
 rw [Bool.eq_iff_iff]
 simp only [Bool.or_eq_true, Bool.and_eq_true, Bool.not_eq_true', decide_eq_true_eq, Bool.and_eq_false_iff, decide_eq_false_iff_not]
 omega
theorem ver_Check_eq (v : api_Version) (h : v.Early.length ≤ 17179869184) : ver_Check v = some (vE v) := by
 unfold ver_Check
 simp only [jp_eq, outside_eq, call_some, isEarly_eq v.Early h, callG_some, condS]
 unfold vE
 congr 1
 cases rngOk v.Major <;> cases rngOk v.Minor <;> cases rngOk v.Patch <;> cases decide (v.Early = []) <;> cases earlyOk v.Early <;> rfl
theorem forL_one {Z S α : Type} (x : α) (i : Nat) (f : Nat → α → S → (S → Option Z) → (S → Option Z) → Option Z) (s : S) (k : S → Option Z) : forL [x] i f s k = f i x s k k := rfl
theorem R_VE_eq (v : api_Version) (h : v.Early.length ≤ 17179869184) : R_VersionError [v] = some (vE v) := by
 unfold R_VersionError
 simp only [jp_eq]
 rw [forL_one]
 rw [forL_all (z := 3) rngOk (fun i n nx k => by unfold R_In; rw [call_some, condN, Bool.not_not]; rfl)]
 unfold vE
 simp only [List.all_cons, List.all_nil, Bool.and_true]
 cases rngOk v.Major && (rngOk v.Minor && rngOk v.Patch)
 ·rfl
 ·simp only [cond_true]
  cases he : decide (v.Early = [])
  ·simp only [cond_false, Bool.false_or]
   unfold earlyOk
   cases hl : decide (40 < (v.Early.length : Int))
   ·have hl2 : decide ((v.Early.length : Int) ≤ 40) = true := by have := of_decide_eq_false hl; exact decide_eq_true (by omega)
    simp only [cond_false]
    rw [split_eq v.Early 46 h, call_some, hl2, Bool.and_true]
    rw [forL_all (z := 2) wordOk (fun i w nx k => ?_)]
    ·rw [condS]
    ·show callG _ (R_Of w LT) false _ = _
     rw [ofL_eq, callG_some]
     show callG _ (R_Of w DG) false _ = _
     rw [ofD_eq, callG_some]
     cases w with
     | nil => rfl
     | cons c l =>
      rw [chk_true (fun _ => by simp only [List.length_cons]; omega)]
      rw [condN]
      congr 1
      unfold wordOk eachOk
      have e1 : decide (10 < ((c :: l).length : Int)) = !decide (((c :: l).length : Int) ≤ 10) := by
       rw [Bool.eq_iff_iff]; simp only [decide_eq_true_eq, Bool.not_eq_true', decide_eq_false_iff_not]; omega
      rw [e1, show decide (c :: l = ([] : Str)) = false from rfl]
      generalize List.all (c :: l) wordB = b1
      generalize List.all (c :: l) digitB = b2
      generalize decide (((c :: l).length : Int) ≤ 10) = b3
      generalize decide ((((c :: l).getD 0 0).toNat : Int) = 48) = b4
      generalize decide (1 < ((c :: l).length : Int)) = b5
      cases b1 <;> cases b2 <;> cases b3 <;> cases b4 <;> cases b5 <;> rfl
   ·have hl2 : decide ((v.Early.length : Int) ≤ 40) = false := by have := of_decide_eq_true hl; exact decide_eq_false (by omega)
    rw [hl2, Bool.and_false]
    rfl
  ·rfl
def cmpI (x y : Int) : Int := bif decide (x < y) then -1 else bif decide (y < x) then 1 else 0
theorem cmpI_eq (x y : Int) : cmp_Compare_int x y = some (cmpI x y) := by
 unfold cmp_Compare_int cmp_isNaN_int cmpI
 simp only [call_some, decide_true, Bool.not_true, cond_false, condS]
theorem cmpI_self (x : Int) : cmpI x x = 0 := by unfold cmpI; simp
def orL (l : List Int) : Int := l.foldr or2 0
theorem or_loop : ∀ (l : List Int) (i : Nat), forL l i (fun _ e (_ : Unit) nx (_ : Unit → Option Int) => bif !decide (e = 0) then some e else nx ()) () (fun _ => some 0) = some (orL l)
 | [], _ => rfl
 | x :: l, i => by
  unfold forL
  dsimp only
  rw [or_loop l (i + 1)]
  unfold orL
  rw [List.foldr_cons]
  unfold or2
  rw [condS]
theorem cmpOr_eq (l : List Int) : cmp_Or_int l = some (orL l) := by
 unfold cmp_Or_int
 simp only [jp_eq]
 exact or_loop l 0
theorem first_eq (l : List Int) : R_first l = some (orL l) := by
 unfold R_first
 simp only [jp_eq]
 exact or_loop l 0
theorem compare_eq (a b : Str) : strings_Compare a b = some (cmpB a b) := rfl
def wcV (a b : Str) : Int := bif numOk a && numOk b then (bif !decide ((a.length : Int) = (b.length : Int)) then cmpI a.length b.length else cmpB a b) else bif numOk a then -1 else bif numOk b then 1 else cmpB a b
theorem compareWords_eq (a b : Str) : ver_compareWords a b = some (wcV a b) := by
 unfold ver_compareWords wcV
 simp only [jp_eq, isNumeral_eq, call_some, cmpI_eq, compare_eq, condS]
def wcR (a b : Str) : Int := bif a.all digitB && b.all digitB then cmpI (atoiN a) (atoiN b) else bif a.all digitB then -1 else bif b.all digitB then 1 else cmpB a b
def val (acc : Nat) (l : Str) : Nat := l.foldl (fun n c => n * 10 + (c.toNat - 48)) acc
theorem dg_range {c : UInt8} (h : digitB c = true) : 48 ≤ c.toNat ∧ c.toNat ≤ 57 := by
 unfold digitB at h
 simp only [Bool.and_eq_true, decide_eq_true_eq] at h
 omega
theorem decFrom_val : ∀ (l : Str) (acc : Nat), l.all digitB = true → Go.Lib.decFrom acc l = some (val acc l)
 | [], _, _ => rfl
 | c :: l, acc, h => by
  simp only [List.all_cons, Bool.and_eq_true] at h
  have := dg_range h.1
  unfold Go.Lib.decFrom Go.Lib.digitVal
  rw [if_pos this]
  exact decFrom_val l _ h.2
theorem atoiN_val {w : Str} (h : w.all digitB = true) (hne : w ≠ []) : atoiN w = (val 0 w : Nat) := by
 cases w with
 | nil => exact absurd rfl hne
 | cons c l =>
  have hc : digitB c = true := by simp only [List.all_cons, Bool.and_eq_true] at h; exact h.1
  have hr := dg_range hc
  have h1 : (c == 45) = false := by
   rw [beq_eq_false_iff_ne]; rintro rfl; revert hr; decide
  have h2 : (c == 43) = false := by
   rw [beq_eq_false_iff_ne]; rintro rfl; revert hr; decide
  unfold atoiN Go.Lib.atoi Go.Lib.decNat
  simp only [h1, h2, Bool.false_eq_true, if_false, List.isEmpty_cons, decFrom_val _ 0 h, Option.map_some, Option.getD_some]
theorem val_acc : ∀ (l : Str) (acc : Nat), val acc l = acc * 10 ^ l.length + val 0 l
 | [], acc => by simp [val]
 | c :: l, acc => by
  have e1 : val acc (c :: l) = val (acc * 10 + (c.toNat - 48)) l := rfl
  have e2 : val 0 (c :: l) = val (0 * 10 + (c.toNat - 48)) l := rfl
  rw [e1, e2, val_acc l (acc * 10 + (c.toNat - 48)), val_acc l (0 * 10 + (c.toNat - 48)), List.length_cons, Nat.pow_succ, Nat.add_mul, Nat.add_mul, Nat.mul_assoc, Nat.mul_comm 10]
  simp only [Nat.zero_mul, Nat.zero_add]
  omega
theorem val_cons (c : UInt8) (l : Str) : val 0 (c :: l) = (c.toNat - 48) * 10 ^ l.length + val 0 l := by
 have e2 : val 0 (c :: l) = val (0 * 10 + (c.toNat - 48)) l := rfl
 rw [e2, val_acc]; simp
theorem val_lt : ∀ (l : Str), l.all digitB = true → val 0 l < 10 ^ l.length
 | [], _ => by simp [val]
 | c :: l, h => by
  simp only [List.all_cons, Bool.and_eq_true] at h
  have hr := dg_range h.1
  have ih := val_lt l h.2
  rw [val_cons, List.length_cons, Nat.pow_succ]
  have : (c.toNat - 48) * 10 ^ l.length ≤ 9 * 10 ^ l.length := Nat.mul_le_mul_right _ (by omega)
  omega
theorem val_ge {c : UInt8} {l : Str} (h : digitB c = true) (h0 : c.toNat ≠ 48) : 10 ^ l.length ≤ val 0 (c :: l) := by
 have hr := dg_range h
 rw [val_cons]
 have : 1 * 10 ^ l.length ≤ (c.toNat - 48) * 10 ^ l.length := Nat.mul_le_mul_right _ (by omega)
 omega
theorem cmpI_congr {a b c d : Int} (h1 : a < b ↔ c < d) (h2 : b < a ↔ d < c) : cmpI a b = cmpI c d := by
 unfold cmpI
 rw [decide_eq_decide.2 h1, decide_eq_decide.2 h2]
theorem cmp_same : ∀ (a b : Str), a.length = b.length → a.all digitB = true → b.all digitB = true → cmpI (val 0 a : Nat) (val 0 b : Nat) = cmpB a b
 | [], [], _, _, _ => rfl
 | [], _ :: _, h, _, _ => by simp at h
 | _ :: _, [], h, _, _ => by simp at h
 | x :: a, y :: b, h, ha, hb => by
  simp only [List.all_cons, Bool.and_eq_true] at ha hb
  have hl : a.length = b.length := by simpa using h
  have ih := cmp_same a b hl ha.2 hb.2
  have hx := dg_range ha.1
  have hy := dg_range hb.1
  have va := val_lt a ha.2
  have vb := val_lt b hb.2
  rw [val_cons, val_cons, hl]
  rw [hl] at va
  show _ = Go.Lib.compareBytes (x :: a) (y :: b)
  unfold Go.Lib.compareBytes
  have lt_of : ∀ {p q u v : Nat}, p < q → u < 10 ^ b.length → p * 10 ^ b.length + u < q * 10 ^ b.length + v := by
   intro p q u v hpq hu
   have h3 : (p + 1) * 10 ^ b.length ≤ q * 10 ^ b.length := Nat.mul_le_mul_right _ hpq
   have h4 : p * 10 ^ b.length + u < (p + 1) * 10 ^ b.length := by rw [Nat.succ_mul]; exact Nat.add_lt_add_left hu _
   exact Nat.lt_of_lt_of_le h4 (Nat.le_trans h3 (Nat.le_add_right _ _))
  by_cases h1 : x < y
  ·rw [if_pos h1]
   have h1' : x.toNat < y.toNat := UInt8.lt_iff_toNat_lt.1 h1
   have := lt_of (p := x.toNat - 48) (q := y.toNat - 48) (v := val 0 b) (by omega) va
   unfold cmpI
   rw [decide_eq_true (Int.ofNat_lt.2 this)]; rfl
  ·rw [if_neg h1]
   by_cases h2 : y < x
   ·rw [if_pos h2]
    have h2' : y.toNat < x.toNat := UInt8.lt_iff_toNat_lt.1 h2
    have := lt_of (p := y.toNat - 48) (q := x.toNat - 48) (v := val 0 a) (by omega) vb
    unfold cmpI
    rw [decide_eq_false (fun h => Nat.lt_asymm this (Int.ofNat_lt.1 h)), decide_eq_true (Int.ofNat_lt.2 this)]; rfl
   ·rw [if_neg h2]
    have he : x.toNat = y.toNat := by
     have k1 : ¬ x.toNat < y.toNat := fun h => h1 (UInt8.lt_iff_toNat_lt.2 h)
     have k2 : ¬ y.toNat < x.toNat := fun h => h2 (UInt8.lt_iff_toNat_lt.2 h)
     omega
    rw [he]
    exact (cmpI_congr (by rw [Int.ofNat_lt, Int.ofNat_lt]; exact Nat.add_lt_add_iff_left) (by rw [Int.ofNat_lt, Int.ofNat_lt]; exact Nat.add_lt_add_iff_left)).trans ih
theorem wordOk_num {w : Str} (h : wordOk w = true) : w ≠ [] ∧ w.length ≤ 10 ∧ numOk w = w.all digitB ∧ (w.all digitB = true → 1 < w.length → ∃ c l, w = c :: l ∧ c.toNat ≠ 48) := by
 unfold wordOk eachOk at h
 simp only [Bool.and_eq_true, Bool.not_eq_true', decide_eq_true_eq, decide_eq_false_iff_not] at h
 obtain ⟨⟨h1, h2, h3⟩, h4⟩ := h
 refine ⟨h2, by omega, ?_, fun hd hl => ?_⟩
 ·unfold numOk eachOk
  rw [decide_eq_false h2, decide_eq_true h3]; simp
 ·cases w with
  | nil => exact absurd rfl h2
  | cons c l =>
   refine ⟨c, l, rfl, fun e => ?_⟩
   rw [hd, decide_eq_true (by omega), List.getD_cons_zero, e] at h4
   cases h4
theorem wc_same {a b : Str} (ha : wordOk a = true) (hb : wordOk b = true) : wcR a b = wcV a b := by
 obtain ⟨a1, a2, a3, a4⟩ := wordOk_num ha
 obtain ⟨b1, b2, b3, b4⟩ := wordOk_num hb
 unfold wcR wcV
 rw [a3, b3]
 cases hda : a.all digitB <;> cases hdb : b.all digitB <;> try rfl
 simp only [Bool.and_self, cond_true]
 rw [atoiN_val hda a1, atoiN_val hdb b1]
 by_cases hl : a.length = b.length
 ·rw [decide_eq_true (by omega), Bool.not_true, cond_false]
  exact cmp_same a b hl hda hdb
 ·rw [decide_eq_false (by omega), Bool.not_false, cond_true]
  have ka := List.length_pos_iff.2 a1
  have kb := List.length_pos_iff.2 b1
  have far : ∀ {u v : Str}, u.all digitB = true → v.all digitB = true → (v.all digitB = true → 1 < v.length → ∃ c l, v = c :: l ∧ c.toNat ≠ 48) → 0 < u.length → u.length < v.length → val 0 u < val 0 v := by
   intro u v hu hv h4 hu0 hlt
   obtain ⟨c, l, rfl, hc⟩ := h4 hv (by omega)
   simp only [List.all_cons, Bool.and_eq_true] at hv
   have g1 := val_lt u hu
   have g2 := val_ge (l := l) hv.1 hc
   have g3 : 10 ^ u.length ≤ 10 ^ l.length := Nat.pow_le_pow_right (by decide) (by simp only [List.length_cons] at hlt; omega)
   omega
  rcases Nat.lt_or_ge a.length b.length with h | h
  ·have := far hda hdb b4 ka h
   exact cmpI_congr (by omega) (by omega)
  ·have := far hdb hda a4 kb (by omega)
   exact cmpI_congr (by omega) (by omega)
theorem cmpB_self (a : Str) : cmpB a a = 0 := (cmpB_spec a a).2.2 rfl
theorem wcV_self (a : Str) : wcV a a = 0 := by
 unfold wcV
 cases numOk a <;> simp [cmpB_self]
def cmpL (wc : Str → Str → Int) (n m : Int) : List Str → List Str → Int
 | x :: xs, y :: ys => or2 (wc x y) (cmpL wc n m xs ys)
 | _, _ => cmpI n m
theorem cmpL_congr {wc wc' : Str → Str → Int} {n m : Int} : ∀ {X Y : List Str}, (∀ x ∈ X, ∀ y ∈ Y, wc x y = wc' x y) → cmpL wc n m X Y = cmpL wc' n m X Y
 | [], _, _ => by simp only [cmpL]
 | _ :: _, [], _ => by simp only [cmpL]
 | x :: X, y :: Y, h => by
  simp only [cmpL]
  rw [h x (by simp) y (by simp), cmpL_congr fun x' hx y' hy => h x' (by simp [hx]) y' (by simp [hy])]
theorem cmpL_self {n : Int} : ∀ X : List Str, cmpL wcV n n X X = 0
 | [] => cmpI_self n
 | x :: X => by simp only [cmpL, wcV_self, cmpL_self X]; rfl
theorem cmpL_end {wc : Str → Str → Int} {n m : Int} {X Y : List Str} (h : X = [] ∨ Y = []) : cmpL wc n m X Y = cmpI n m := by
 rcases h with rfl | rfl
 ·simp only [cmpL]
 ·cases X <;> simp only [cmpL]
theorem words_loop (wc : Str → Str → Int) (X Y : List Str) (hx : X.length ≤ 1000000) {f : Int → (Int → Option Int) → (Int → Option Int) → Option Int} {K : Int → Option Int} (hK : ∀ t, K t = some (cmpI X.length Y.length)) (n : Nat) (hn : 10000000 ≤ n)
  (hf : ∀ (t : Nat) (h1 : t < X.length) (h2 : t < Y.length) nx, f t nx K = bif !decide (wc X[t] Y[t] = 0) then some (wc X[t] Y[t]) else nx ((t + 1 : Nat) : Int))
  (hs : ∀ (t : Int) nx, ¬ t < min (X.length : Int) (Y.length : Int) → f t nx K = K t) : loopN n f 0 K = some (cmpL wc X.length Y.length X Y) := by
 have := loopN_run (f := f) (k := K) (fun t => 0 ≤ t ∧ t ≤ min (X.length : Int) (Y.length : Int)) (fun t => (min (X.length : Int) (Y.length : Int) - t).toNat) (fun t => some (cmpL wc X.length Y.length (X.drop t.toNat) (Y.drop t.toNat))) ?_ n 0 ⟨Int.le_refl _, by omega⟩ (by omega)
 ·simpa using this
 ·rintro t nx ⟨h1, h2⟩ hnx
  obtain ⟨k, rfl⟩ := Int.eq_ofNat_of_zero_le h1
  by_cases hlt : (k : Int) < min (X.length : Int) (Y.length : Int)
  ·have hkx : k < X.length := by omega
   have hky : k < Y.length := by omega
   rw [hf k hkx hky, hnx ((k + 1 : Nat) : Int) ⟨by omega, by omega⟩ (by omega), condS]
   simp only [Int.toNat_natCast]
   rw [List.drop_eq_getElem_cons hkx, List.drop_eq_getElem_cons hky]
   simp only [cmpL]
   rfl
  ·rw [hs _ _ hlt, hK]
   simp only [Int.toNat_natCast]
   rw [cmpL_end]
   rcases Int.le_total (X.length : Int) (Y.length : Int) with h | h
   ·exact .inl (List.drop_eq_nil_of_le (by omega))
   ·exact .inr (List.drop_eq_nil_of_le (by omega))
def erl (a b : Str) : Int := bif decide (a = b) then 0 else bif decide (a = []) then 1 else bif decide (b = []) then -1 else cmpL wcV (splitAt 46 a).length (splitAt 46 b).length (splitAt 46 a) (splitAt 46 b)
theorem split_len {e : Str} (h : e.length ≤ 900000) : (splitAt 46 e).length ≤ 1000000 := by
 rw [splitAt_length]
 have := List.count_le_length (a := (46 : UInt8)) (l := e)
 omega
theorem compareEarly_eq (a b : Str) (ha : a.length ≤ 900000) (hb : b.length ≤ 900000) : ver_compareEarly a b = some (erl a b) := by
 unfold ver_compareEarly erl
 have hF := fuel_ge
 generalize Fuel = N at hF ⊢
 rw [split_eq a 46 (by omega), split_eq b 46 (by omega), call_some, call_some, jp_eq]
 dsimp only
 simp only [cmpI_eq, call_some]
 rw [words_loop wcV (splitAt 46 a) (splitAt 46 b) (split_len ha) (fun t => rfl) N (by omega) (fun t h1 h2 nx => ?_) (fun t nx h => ?_)]
 ·simp only [condS]
 ·have hd : decide ((t : Int) < min ((splitAt 46 a).length : Int) ((splitAt 46 b).length : Int)) = true := decide_eq_true (by omega)
  have hb : t < 9223372036854775807 := Nat.lt_of_lt_of_le h1 (Nat.le_trans (split_len ha) (by decide))
  rw [hd, cond_true, idx_eq h1, idx_eq h2, compareWords_eq, call_some, wrap1 t hb]
 ·rw [decide_eq_false h]; rfl
def ordV (a b : api_Version) : Int := orL [cmpI a.Major b.Major, cmpI a.Minor b.Minor, cmpI a.Patch b.Patch, erl a.Early b.Early]
theorem order_eq (a b : api_Version) (ha : a.Early.length ≤ 900000) (hb : b.Early.length ≤ 900000) : ver_Order a b = some (ordV a b) := by
 unfold ver_Order ordV
 simp only [cmpI_eq, call_some, compareEarly_eq _ _ ha hb, cmpOr_eq]
theorem vE_early {v : api_Version} (h : vE v = 0) : v.Early = [] ∨ earlyOk v.Early = true := by
 unfold vE at h
 cases h1 : rngOk v.Major && (rngOk v.Minor && rngOk v.Patch) <;> rw [h1] at h
 ·cases h
 ·simp only [cond_true] at h
  cases h2 : decide (v.Early = []) || earlyOk v.Early <;> rw [h2] at h
  ·cases h
  ·simpa using h2
theorem earlyOk_words {e : Str} (h : earlyOk e = true) : (∀ w ∈ splitAt 46 e, wordOk w = true) ∧ e.length ≤ 40 := by
 unfold earlyOk at h
 simp only [Bool.and_eq_true, List.all_eq_true, decide_eq_true_eq] at h
 exact ⟨h.1, by omega⟩
theorem min1 (e : Str) : min 1 (e.length : Int) = if e = [] then 0 else 1 := by
 cases e with
 | nil => rfl
 | cons c l => simp only [List.length_cons, reduceCtorEq, if_false]; omega
theorem R_CompareOf_eq (a b : api_Version) (ha : vE a = 0) (hb : vE b = 0) : R_CompareOf a b = some (ordV a b) := by
 unfold R_CompareOf ordV
 have hF := fuel_ge
 generalize Fuel = N at hF ⊢
 rw [cmpI_eq, call_some, cmpI_eq, call_some, cmpI_eq, call_some, cmpOr_eq, call_some]
 generalize cmpI a.Major b.Major = x
 generalize cmpI a.Minor b.Minor = y
 generalize cmpI a.Patch b.Patch = z
 have hor : ∀ e : Int, orL [x, y, z, e] = bif !decide (orL [x, y, z] = 0) then orL [x, y, z] else e := by
  intro e
  have h0 : ∀ q : Int, or2 q 0 = q := fun q => by
   unfold or2
   by_cases h : q = 0
   ·rw [h]; rfl
   ·rw [decide_eq_false h]; rfl
  simp only [orL, List.foldr_cons, List.foldr_nil, h0]
  unfold or2
  by_cases hx : x = 0 <;> by_cases hy : y = 0 <;> by_cases hz : z = 0 <;> simp [hx, hy, hz]
 rw [hor]
 cases !decide (orL [x, y, z] = 0)
 ·simp only [cond_false]
  rcases vE_early ha with ha | ha
  ·rw [ha, decide_eq_true rfl, Bool.true_or, cond_true, cmpI_eq, call_some]
   simp only [min1, if_true]
   unfold erl
   by_cases hbe : b.Early = []
   ·rw [hbe]; rfl
   ·rw [if_neg hbe, decide_eq_false (fun e => hbe e.symm)]; rfl
  ·rcases vE_early hb with hb | hb
   ·rw [hb, decide_eq_true (p := ([] : Str) = []) rfl, Bool.or_true, cond_true, cmpI_eq, call_some]
    simp only [min1, if_true]
    unfold erl
    by_cases hae : a.Early = []
    ·rw [hae]; rfl
    ·rw [if_neg hae, decide_eq_false hae, decide_eq_true rfl]; rfl
   ·obtain ⟨wa, la⟩ := earlyOk_words ha
    obtain ⟨wb, lb⟩ := earlyOk_words hb
    unfold erl
    by_cases hae : a.Early = []
    ·rw [hae] at wa
     have := wa [] (by simp [splitAt])
     cases this
    by_cases hbe : b.Early = []
    ·rw [hbe] at wb
     have := wb [] (by simp [splitAt])
     cases this
    rw [decide_eq_false hae, decide_eq_false hbe, split_eq _ 46 (by omega), split_eq _ 46 (by omega), Bool.or_self, cond_false, call_some, call_some, jp_eq]
    dsimp only
    refine (words_loop wcR (splitAt 46 a.Early) (splitAt 46 b.Early) (split_len (by omega)) (fun t => by rw [cmpI_eq, call_some]) N (by omega) (fun t h1 h2 nx => ?_) (fun t nx h => ?_)).trans ?_
    ·have k1 := wa _ (List.getElem_mem h1)
     have k2 := wb _ (List.getElem_mem h2)
     have l1 := (wordOk_num k1).2.1
     have l2 := (wordOk_num k2).2.1
     have hd : decide ((t : Int) < min ((splitAt 46 a.Early).length : Int) ((splitAt 46 b.Early).length : Int)) = true := decide_eq_true (by omega)
     have hb : t < 9223372036854775807 := Nat.lt_of_lt_of_le h1 (Nat.le_trans (split_len (e := a.Early) (by omega)) (by decide))
     rw [hd, cond_true, idx_eq h1]
     show call (R_Of _ DG) _ = _
     rw [ofD_eq, call_some, idx_eq h2]
     show call (R_Of _ DG) _ = _
     rw [ofD_eq, call_some]
     unfold strconv_Atoi
     rw [chk_true (by omega), call_some, chk_true (by omega), call_some, compare_eq, call_some, wrap1 t hb, jp_eq]
     dsimp only
     rw [cmpI_eq, call_some]
     unfold wcR
     generalize (splitAt 46 a.Early)[t] = u
     generalize (splitAt 46 b.Early)[t] = v
     cases u.all digitB <;> cases v.all digitB <;> rfl
    ·rw [decide_eq_false h]; rfl
    ·rw [cmpL_congr fun x hx y hy => wc_same (wa x hx) (wb y hy)]
     by_cases he : a.Early = b.Early
     ·rw [he, cmpL_self, decide_eq_true rfl]; rfl
     ·rw [decide_eq_false he]; rfl
 ·rfl
theorem or2_z (a : Int) : or2 a 0 = a := by
 unfold or2
 by_cases h : a = 0
 ·rw [h]; rfl
 ·rw [decide_eq_false h]; rfl
theorem or2_assoc (a b c : Int) : or2 (or2 a b) c = or2 a (or2 b c) := by
 unfold or2
 by_cases h : a = 0
 ·simp [h]
 ·rw [decide_eq_false h]; simp [h]
theorem or2_0 (a : Int) : or2 0 a = a := rfl
theorem or2_ne {a : Int} (h : a ≠ 0) (b : Int) : or2 a b = a := by unfold or2; rw [decide_eq_false h]; rfl
theorem orL_cons (x : Int) (l : List Int) : orL (x :: l) = or2 x (orL l) := rfl
def flagV (v : api_Version) : Bool := !((decide (v.Major = 0)) && ((decide (v.Minor = 0)) && ((decide (v.Patch = 0)) && (decide (v.Early = [])))))
def badF (r : api_Record) : Bool := ((!decide (flagV r.From = (((decide (r.Kind = 2)) || (decide (r.Kind = 3))) || (decide (r.Kind = 4))))) || ((!decide (flagV r.To = (!decide (r.Kind = 4)))) && (!decide (r.Kind = 6))))
def badC (r : api_Record) : Bool := (((decide (r.Kind = 2)) && (decide (0 ≤ ordV r.From r.To))) || ((decide (r.Kind = 3)) && (decide (ordV r.From r.To ≤ 0))))
def wh (b : Bool) (e : Int) : Int := bif b then e else 0
def eHead (r : api_Record) : List Int := [wh ((decide (r.Time < 0)) || (decide (1099511627776 < r.Time))) 3, wh ((decide (r.Kind < 1)) || (decide (6 < r.Kind))) 1, wh (!nameOk r.Pack) 5]
def eTail (r : api_Record) : List Int := [wh (badC r) 11, wh ((decide (r.Result < 0)) || (decide (18 < r.Result))) 3, wh (!valueOk r.Note) 2]
def eRec (r : api_Record) : Int := or2 (orL (eHead r)) (or2 (orL [vE r.From, vE r.To]) (or2 (wh (badF r) 2) (orL (eTail r))))
def Pr (r : api_Record) : Prop := r.From.Early.length ≤ 17179869184 ∧ r.To.Early.length ≤ 17179869184
theorem when_wh (b : Bool) (e : Int) : R_when b e = some (wh b e) := when_eq b e
theorem orL2 {a b : Int} (h : orL [a, b] = 0) : a = 0 ∧ b = 0 := by
 simp only [orL_cons] at h
 have : orL [] = 0 := rfl
 rw [this, or2_z] at h
 unfold or2 at h
 by_cases ha : a = 0
 ·rw [ha] at h; exact ⟨ha, h⟩
 ·rw [decide_eq_false ha] at h; exact absurd h ha
theorem vE_len {v : api_Version} (h : vE v = 0) : v.Early.length ≤ 40 := by
 rcases vE_early h with h | h
 ·rw [h]; decide
 ·exact (earlyOk_words h).2
theorem R_RecordError_eq (r : api_Record) (h : Pr r) : R_RecordError r = some (eRec r) := by
 unfold R_RecordError
 rw [when_wh, call_some, when_wh, call_some, R_IsName_eq, call_some, when_wh, call_some, first_eq, call_some]
 show jp _ (fun k_11 => bif decide (orL (eHead r) = 0) then _ else k_11 (orL (eHead r))) = _
 rw [jp_eq]
 dsimp only
 rw [R_VE_eq _ h.1, R_VE_eq _ h.2, call_some, call_some, first_eq, call_some]
 unfold eRec
 by_cases h1 : orL (eHead r) = 0
 ·rw [decide_eq_true h1, h1, or2_0]
  simp only [cond_true]
  by_cases h2 : orL [vE r.From, vE r.To] = 0
  ·rw [h2, or2_0]
   obtain ⟨v1, v2⟩ := orL2 h2
   rw [R_CompareOf_eq _ _ v1 v2, call_some, when_wh, call_some, when_wh, call_some, R_IsValue_eq, call_some, when_wh, call_some, first_eq, call_some]
   show (bif badF r then some 2 else some (orL (eTail r))) = _
   cases badF r <;> rfl
  ·rw [decide_eq_false h2, or2_ne h2]; rfl
 ·rw [decide_eq_false h1, or2_ne h1]
  simp only [cond_false, Bool.not_false, cond_true]
theorem wh_step (b : Bool) (c x : Int) (o : Option Int) (hc : c ≠ 0) (h : o = some x) : (bif b then some c else o) = some (or2 (wh b c) x) := by
 rw [h]
 cases b
 ·rfl
 ·rw [show wh true c = c from rfl, or2_ne hc]; rfl
theorem log_outside_eq (a b c : Int) : log_outside a b c = some ((decide (a < b)) || (decide (c < a))) := rfl
theorem uses_eq (k : Int) : log_uses k = some (((decide (k = 2)) || (decide (k = 3))) || (decide (k = 4)), !decide (k = 4)) := by
 unfold log_uses
 simp only [jp_eq]
 by_cases h2 : k = 2
 ·subst h2; rfl
 by_cases h3 : k = 3
 ·subst h3; rfl
 by_cases h4 : k = 4
 ·subst h4; rfl
 rw [decide_eq_false h2, decide_eq_false h3, decide_eq_false h4]; rfl
theorem eq_comm_b (a b : Bool) : decide (a = b) = decide (b = a) := by cases a <;> cases b <;> rfl
theorem log_CheckRecord_eq (r : api_Record) (h : Pr r) : log_CheckRecord r = some (eRec r) := by
 unfold log_CheckRecord
 rw [log_outside_eq, call_some, log_outside_eq, call_some, ver_IsName_eq, call_some]
 unfold eRec eHead
 rw [orL_cons, orL_cons, orL_cons, or2_assoc, or2_assoc, or2_assoc]
 refine wh_step _ _ _ _ (by decide) (wh_step _ _ _ _ (by decide) (wh_step _ _ _ _ (by decide) ?_))
 rw [show orL [] = 0 from rfl, or2_0, jp_eq]
 dsimp only
 rw [ver_Check_eq _ h.1, call_some, orL_cons, or2_assoc]
 by_cases h1 : vE r.From = 0
 ·refine or2_step _ _ _ ?_
  rw [ver_Check_eq _ h.2, call_some, orL_cons, or2_assoc, show orL [] = 0 from rfl, or2_0]
  by_cases h2 : vE r.To = 0
  ·refine or2_step _ _ _ ?_
   rw [uses_eq, call_some]
   have hb : ((!decide ((((decide (r.Kind = 2)) || (decide (r.Kind = 3))) || (decide (r.Kind = 4)), !decide (r.Kind = 4)).1 = flagV r.From)) || ((!decide ((((decide (r.Kind = 2)) || (decide (r.Kind = 3))) || (decide (r.Kind = 4)), !decide (r.Kind = 4)).2 = flagV r.To)) && (!decide (r.Kind = 6)))) = badF r := by
    unfold badF
    dsimp only
    rw [eq_comm_b _ (flagV r.From), eq_comm_b _ (flagV r.To)]
   refine (congrArg (fun b => bif b then _ else _) hb).trans ?_
   refine wh_step _ _ _ _ (by decide) ?_
   have l1 := vE_len h1
   have l2 := vE_len h2
   rw [order_eq _ _ (by omega) (by omega), call_some]
   unfold eTail
   rw [orL_cons, orL_cons, orL_cons]
   refine wh_step _ _ _ _ (by decide) ?_
   rw [log_outside_eq, call_some]
   refine wh_step _ _ _ _ (by decide) ?_
   rw [ver_IsValue_eq, call_some]
   exact wh_step _ _ _ _ (by decide) rfl
  ·rw [decide_eq_false h2, or2_ne h2]; rfl
 ·rw [decide_eq_false h1, or2_ne h1]; rfl
abbrev Mh := List (Str × log_had)
def toHad (k : Str) (h : log_had) : api_Had := api_Had.mk k h.v h.since
def toH (m : Mh) : List (Str × api_Had) := m.map fun p => (p.1, toHad p.1 p.2)
theorem look_toH : ∀ (m : Mh) (k : Str), alook (toH m) k = (alook m k).map (toHad k)
 | [], _ => rfl
 | p :: m, k => by
  by_cases h : p.1 = k
  ·rw [alook_eq h]
   show alook ((p.1, toHad p.1 p.2) :: toH m) k = _
   rw [alook_eq (p := (p.1, toHad p.1 p.2)) h, ← h]; rfl
  ·rw [alook_ne h]
   show alook ((p.1, toHad p.1 p.2) :: toH m) k = _
   rw [alook_ne (p := (p.1, toHad p.1 p.2)) h, look_toH m k]
theorem aset_toH : ∀ (m : Mh) (k : Str) (h : log_had), aset (toH m) k (toHad k h) = toH (aset m k h)
 | [], _, _ => rfl
 | p :: m, k, h => by
  by_cases e : p.1 = k
  ·rw [aset_eq e]
   show aset ((p.1, toHad p.1 p.2) :: toH m) k _ = _
   rw [aset_eq (p := (p.1, toHad p.1 p.2)) e]; rfl
  ·rw [aset_ne e]
   show aset ((p.1, toHad p.1 p.2) :: toH m) k _ = _
   rw [aset_ne (p := (p.1, toHad p.1 p.2)) e, aset_toH m k h]; rfl
theorem adel_toH : ∀ (m : Mh) (k : Str), adel (toH m) k = toH (adel m k)
 | [], _ => rfl
 | p :: m, k => by
  by_cases e : p.1 = k
  ·rw [adel_eq e]
   show adel ((p.1, toHad p.1 p.2) :: toH m) k = _
   rw [adel_eq (p := (p.1, toHad p.1 p.2)) e]
  ·rw [adel_ne e]
   show adel ((p.1, toHad p.1 p.2) :: toH m) k = _
   rw [adel_ne (p := (p.1, toHad p.1 p.2)) e, adel_toH m k]; rfl
theorem toH_len (m : Mh) : (toH m).length = m.length := List.length_map _
theorem aset_le {V : Type} (m : List (Str × V)) (k : Str) (v : V) : (aset m k v).length ≤ m.length + 1 := by
 rw [len_aset]; split <;> omega
theorem adel_le : ∀ {V : Type} (m : List (Str × V)) (k : Str), (adel m k).length ≤ m.length
 | _, [], _ => Nat.le_refl _
 | _, p :: m, k => by
  by_cases e : p.1 = k
  ·rw [adel_eq e]; simp
  ·rw [adel_ne e]
   have := adel_le m k
   simp only [List.length_cons]; omega
def eqV (a b : api_Version) : Bool := (decide (a.Major = b.Major)) && ((decide (a.Minor = b.Minor)) && ((decide (a.Patch = b.Patch)) && (decide (a.Early = b.Early))))
def dH : log_had := log_had.mk (api_Version.mk 0 0 0 []) 0
def badK (r : api_Record) (q : Option log_had) : Bool :=
 bif decide (r.Kind = 1) then q.isSome
 else bif (((decide (r.Kind = 2)) || (decide (r.Kind = 3))) || (decide (r.Kind = 4))) then !q.isSome || !eqV (q.getD dH).v r.From
 else bif decide (r.Kind = 5) then !q.isSome || !eqV (q.getD dH).v r.To
 else false
def upd (r : api_Record) (m : Mh) : Mh :=
 bif !decide (r.Result = 0) then m
 else bif (((decide (r.Kind = 1)) || (decide (r.Kind = 2))) || (decide (r.Kind = 3))) then aset m r.Pack (log_had.mk r.To r.Time)
 else bif decide (r.Kind = 4) then adel m r.Pack
 else m
theorem upd_le (r : api_Record) (m : Mh) : (upd r m).length ≤ m.length + 1 := by
 unfold upd
 cases !decide (r.Result = 0)
 ·cases (((decide (r.Kind = 1)) || (decide (r.Kind = 2))) || (decide (r.Kind = 3)))
  ·cases decide (r.Kind = 4)
   ·exact Nat.le_succ _
   ·have := adel_le m r.Pack; simp only [cond_true, cond_false]; omega
  ·exact aset_le m _ _
 ·exact Nat.le_succ _
theorem fault_eq (r : api_Record) (last : Int) (m : Mh) : log_table_fault_i1 r last m = some (bif decide (r.Time < last) then 7 else wh (badK r (alook m r.Pack)) 12) := by
 unfold log_table_fault_i1
 cases decide (r.Time < last)
 ·simp only [cond_false, letv_eq, jp_eq]
  unfold badK eqV
  rw [show (log_had.mk (api_Version.mk 0 0 0 []) 0) = dH from rfl]
  generalize alook m r.Pack = q
  by_cases h1 : r.Kind = 1
  ·rw [decide_eq_true h1]; cases q.isSome <;> rfl
  rw [decide_eq_false h1]
  by_cases h2 : r.Kind = 2
  ·rw [decide_eq_true h2]; simp only [cond_true, cond_false, Bool.true_or]; rw [condS]; rfl
  rw [decide_eq_false h2]
  by_cases h3 : r.Kind = 3
  ·rw [decide_eq_true h3]; simp only [cond_true, cond_false, Bool.true_or, Bool.or_true]; rw [condS]; rfl
  rw [decide_eq_false h3]
  by_cases h4 : r.Kind = 4
  ·rw [decide_eq_true h4]; simp only [cond_true, cond_false, Bool.true_or, Bool.or_true]; rw [condS]; rfl
  rw [decide_eq_false h4]
  by_cases h5 : r.Kind = 5
  ·rw [decide_eq_true h5]; simp only [cond_true, cond_false, Bool.or_self]; rw [condS]; rfl
  rw [decide_eq_false h5]
  rfl
 ·rfl
theorem add_eq (r : api_Record) (last : Int) (m : Mh) (hm : m.length ≤ 1000000) : log_table_add_i1 r last m = some (r.Time, upd r m) := by
 unfold log_table_add_i1 upd
 have hl := aset_le m r.Pack (log_had.mk r.To r.Time)
 cases !decide (r.Result = 0)
 ·simp only [cond_false, jp_eq]
  rw [chk_true (by omega)]
  by_cases h1 : r.Kind = 1
  ·rw [decide_eq_true h1]; rfl
  rw [decide_eq_false h1]
  by_cases h2 : r.Kind = 2
  ·rw [decide_eq_true h2]; rfl
  rw [decide_eq_false h2]
  by_cases h3 : r.Kind = 3
  ·rw [decide_eq_true h3]; rfl
  rw [decide_eq_false h3]
  cases decide (r.Kind = 4) <;> rfl
 ·rfl
theorem had_d (k : Str) (q : Option log_had) (v : api_Version) : (!(q.map (toHad k)).isSome || !eqV ((q.map (toHad k)).getD (api_Had.mk [] (api_Version.mk 0 0 0 []) 0)).Version v) = (!q.isSome || !eqV (q.getD dH).v v) := by
 cases q <;> rfl
theorem R_could_eq (r : api_Record) (m : Mh) (hm : m.length ≤ 1000000) : R_could_i1 r (toH m) = some (bif badK r (alook m r.Pack) then (false, toH m) else (true, toH (upd r m))) := by
 unfold R_could_i1
 have hl : (aset (toH m) r.Pack (api_Had.mk r.Pack r.To r.Time)).length ≤ 274877906944 := by
  have := aset_le (toH m) r.Pack (api_Had.mk r.Pack r.To r.Time)
  rw [toH_len] at this; omega
 have hset : aset (toH m) r.Pack (api_Had.mk r.Pack r.To r.Time) = toH (aset m r.Pack (log_had.mk r.To r.Time)) := aset_toH m r.Pack (log_had.mk r.To r.Time)
 simp only [letv_eq, jp_eq]
 rw [chk_true hl, look_toH]
 have hf := had_d r.Pack (alook m r.Pack) r.From
 have ht := had_d r.Pack (alook m r.Pack) r.To
 unfold eqV at hf ht
 have hs : ((alook m r.Pack).map (toHad r.Pack)).isSome = (alook m r.Pack).isSome := by cases alook m r.Pack <;> rfl
 rw [hf, ht, hs, hset, adel_toH]
 unfold badK upd eqV
 generalize (alook m r.Pack).isSome = q
 generalize ((alook m r.Pack).getD dH).v = v
 by_cases h1 : r.Kind = 1
 ·simp only [h1, decide_true, decide_false, cond_true, cond_false, Bool.true_or, Bool.or_true, Bool.or_self, show ((1 : Int) = 5) = False from by simp]
  cases q <;> cases decide (r.Result = 0) <;> rfl
 by_cases h2 : r.Kind = 2
 ·rw [h2]
  cases (!q || !((decide (v.Major = r.From.Major)) && ((decide (v.Minor = r.From.Minor)) && ((decide (v.Patch = r.From.Patch)) && (decide (v.Early = r.From.Early)))))) <;> cases decide (r.Result = 0) <;> rfl
 by_cases h3 : r.Kind = 3
 ·rw [h3]
  cases (!q || !((decide (v.Major = r.From.Major)) && ((decide (v.Minor = r.From.Minor)) && ((decide (v.Patch = r.From.Patch)) && (decide (v.Early = r.From.Early)))))) <;> cases decide (r.Result = 0) <;> rfl
 by_cases h4 : r.Kind = 4
 ·rw [h4]
  cases (!q || !((decide (v.Major = r.From.Major)) && ((decide (v.Minor = r.From.Minor)) && ((decide (v.Patch = r.From.Patch)) && (decide (v.Early = r.From.Early)))))) <;> cases decide (r.Result = 0) <;> rfl
 by_cases h5 : r.Kind = 5
 ·rw [h5]
  cases (!q || !((decide (v.Major = r.To.Major)) && ((decide (v.Minor = r.To.Minor)) && ((decide (v.Patch = r.To.Patch)) && (decide (v.Early = r.To.Early)))))) <;> cases decide (r.Result = 0) <;> rfl
 rw [decide_eq_false h1, decide_eq_false h2, decide_eq_false h3, decide_eq_false h4, decide_eq_false h5]
 cases decide (r.Result = 0) <;> rfl
def eStep (last : Int) (m : Mh) (r : api_Record) : Int := or2 (eRec r) (bif decide (r.Time < last) then 7 else wh (badK r (alook m r.Pack)) 12)
def recsE : Int → Mh → List api_Record → Int
 | _, _, [] => 0
 | last, m, r :: l => or2 (eStep last m r) (recsE r.Time (upd r m) l)
def rowE (l : List api_Record) : Int := bif decide (5000 < (l.length : Int)) then 4 else recsE 0 [] l
theorem check_loop {f : Nat → api_Record → Mh × Int → (Mh × Int → Option Int) → (Mh × Int → Option Int) → Option Int} {K : Mh × Int → Option Int} (hK : ∀ s, K s = some 0)
  (hf : ∀ i r m last nx, Pr r → m.length ≤ 1000000 → f i r (m, last) nx K = bif !decide (eStep last m r = 0) then some (eStep last m r) else nx (upd r m, r.Time)) :
  ∀ (l : List api_Record) (i : Nat) (m : Mh) (last : Int), (∀ r ∈ l, Pr r) → m.length + l.length ≤ 1000000 → forL l i f (m, last) K = some (recsE last m l)
 | [], _, _, _, _, _ => by unfold forL; rw [hK]; rfl
 | r :: l, i, m, last, hp, hm => by
  have hm' : m.length + (l.length + 1) ≤ 1000000 := hm
  unfold forL
  rw [hf i r m last _ (hp r (by simp)) (by omega)]
  rw [check_loop hK hf l (i + 1) (upd r m) r.Time (fun x hx => hp x (by simp [hx])) (by have := upd_le r m; omega), condS]
  rfl
theorem log_check_eq (l : List api_Record) (hp : ∀ r ∈ l, Pr r) : log_check l = some (rowE l) := by
 unfold log_check rowE
 cases h5 : decide (5000 < (l.length : Int))
 ·have := of_decide_eq_false h5
  simp only [cond_false]
  rw [show log_newTable = some ([], 0) from rfl, call_some, jp_eq]
  refine check_loop (fun _ => rfl) (fun i r m last nx hr hm => ?_) l 0 [] 0 hp (by simp only [List.length_nil]; omega)
  dsimp only
  rw [log_CheckRecord_eq r hr, call_some, fault_eq, call_some, add_eq r last m hm, call_some]
  unfold eStep
  by_cases h : eRec r = 0
  ·rw [h, or2_0]; rfl
  ·rw [or2_ne h, decide_eq_false h]; rfl
 ·rfl
def lastT (pre : List api_Record) : Int := match pre.getLast? with
 | none => 0
 | some r => r.Time
theorem rec_loop (L : List api_Record) {f : Nat → api_Record → List (Str × api_Had) → (List (Str × api_Had) → Option Int) → (List (Str × api_Had) → Option Int) → Option Int} {K : List (Str × api_Had) → Option Int} (hK : ∀ s, K s = some 0)
  (hf : ∀ pre r l m nx, L = pre ++ r :: l → Pr r → m.length ≤ 1000000 → f pre.length r (toH m) nx K = bif !decide (eStep (lastT pre) m r = 0) then some (eStep (lastT pre) m r) else nx (toH (upd r m))) :
  ∀ (l pre : List api_Record) (m : Mh), L = pre ++ l → (∀ r ∈ l, Pr r) → m.length + l.length ≤ 1000000 → forL l pre.length f (toH m) K = some (recsE (lastT pre) m l)
 | [], _, _, _, _, _ => by unfold forL; rw [hK]; rfl
 | r :: l, pre, m, he, hp, hm => by
  have hm' : m.length + (l.length + 1) ≤ 1000000 := hm
  unfold forL
  rw [hf pre r l m _ he (hp r (by simp)) (by omega)]
  have ih := rec_loop L hK hf l (pre ++ [r]) (upd r m) (by rw [he]; simp) (fun x hx => hp x (by simp [hx])) (by have := upd_le r m; omega)
  rw [show (pre ++ [r]).length = pre.length + 1 by simp] at ih
  rw [ih, condS]
  have : lastT (pre ++ [r]) = r.Time := by unfold lastT; simp
  rw [this]
  rfl
theorem eRec_time {r : api_Record} (h : eRec r = 0) : 0 ≤ r.Time ∧ r.Time ≤ 1099511627776 := by
 unfold eRec eHead at h
 rw [orL_cons, or2_assoc] at h
 unfold wh at h
 cases hb : (decide (r.Time < 0)) || (decide (1099511627776 < r.Time))
 ·simp only [Bool.or_eq_false_iff, decide_eq_false_iff_not] at hb
  omega
 ·rw [hb] at h
  rw [show (bif true then (3 : Int) else 0) = 3 from rfl, or2_ne (by decide)] at h
  cases h
theorem R_RecordsError_eq (l : List api_Record) (hp : ∀ r ∈ l, Pr r) : R_RecordsError l = some (rowE l) := by
 unfold R_RecordsError rowE
 cases h5 : decide (5000 < (l.length : Int))
 ·have hl := of_decide_eq_false h5
  simp only [cond_false]
  rw [jp_eq]
  refine rec_loop l (fun _ => rfl) (fun pre r rest m nx he hr hm => ?_) l [] [] rfl hp (by simp only [List.length_nil]; omega)
  have hpl : pre.length < l.length := by rw [he]; simp
  rw [R_RecordError_eq r hr, call_some, R_could_eq r m hm]
  simp only [jp_eq, callG_some]
  rw [chk_true (fun hg => by
   simp only [Bool.and_eq_true, decide_eq_true_eq] at hg
   rw [wrapS (by omega) (by omega)]
   omega)]
  unfold eStep
  by_cases h : eRec r = 0
  ·rw [h, or2_0, decide_eq_true rfl, Bool.true_and]
   have ht := eRec_time h
   rcases List.eq_nil_or_concat pre with rfl | ⟨q, x, rfl⟩
   ·have h0 : decide ((0 : Int) < (([] : List api_Record).length : Int)) = false := rfl
    have hd0 : decide (r.Time < 0) = false := decide_eq_false (by omega)
    rw [h0, show lastT [] = 0 from rfl, hd0]
    simp only [Bool.false_and, cond_false, decide_true, cond_true]
    cases badK r (alook m r.Pack) <;> rfl
   ·have hlt : lastT (q.concat x) = x.Time := by unfold lastT; simp
    have h0 : decide ((0 : Int) < ((q.concat x).length : Int)) = true := decide_eq_true (by simp)
    have hw : IntKind.i64.wrap (((q.concat x).length : Int) - 1) = (q.length : Int) := by
     rw [List.length_concat]; rw [wrapS (by omega) (by rw [List.length_concat] at hpl; omega)]; omega
    have hg : l.getD q.length (api_Record.mk 0 0 [] (api_Version.mk 0 0 0 []) (api_Version.mk 0 0 0 []) 0 []) = x := by
     rw [he, List.concat_eq_append, List.append_assoc, List.getD_eq_getElem?_getD, List.getElem?_append_right (Nat.le_refl _)]; simp
    rw [h0, hw, Int.toNat_natCast, hg, hlt]
    simp only [Bool.true_and]
    cases decide (r.Time < x.Time)
    ·simp only [cond_false, decide_true, cond_true]
     cases badK r (alook m r.Pack) <;> rfl
    ·rfl
  ·rw [or2_ne h, decide_eq_false h]
   simp only [Bool.false_and, cond_false, h, decide_false, Bool.not_false, cond_true]
 ·rfl
theorem anyOf_one {α β : Type} {p : α → Prop} {k : α → Option β} {z : β} (x0 : α) (h0 : p x0) (h : ∀ x, p x → k x = some z) : anyOf p k = some z := by
 unfold anyOf
 have he : ∃ z, ∀ x, p x → k x = some z := ⟨z, h⟩
 rw [dif_pos he]
 have := he.choose_spec x0 h0
 rw [h x0 h0] at this
 exact this.symm
theorem clone_eq (l : List api_Record) (h : l.length ≤ 274877906944) : slices_Clone_api_Record_api_Record_new l = some l := by
 unfold slices_Clone_api_Record_api_Record_new
 refine anyOf_one false (fun e => by cases e) fun b hb => ?_
 cases b
 ·simp only [cond_false, List.nil_append]
  exact chk_true h _
 ·rw [hb rfl]; rfl
theorem rowE_len {l : List api_Record} (h : rowE l = 0) : l.length ≤ 5000 := by
 unfold rowE at h
 cases hb : decide (5000 < (l.length : Int))
 ·have := of_decide_eq_false hb; omega
 ·rw [hb] at h; cases h
theorem getD_at {a : List api_Record} {k : Nat} (h : k < a.length) (d : api_Record) : a.getD k d = a[k] := by rw [List.getD_eq_getElem?_getD, List.getElem?_eq_getElem h]; rfl
theorem could_ok (l : List api_Record) (raw : Bool) (hp : ∀ r ∈ l, Pr r) : Ok (Law_could l raw) fun z => ∀ r ∈ z, Pr r := by
 unfold Law_could
 refine Ok.bif (fun _ => Ok.some hp) (fun _ => ?_)
 refine Ok.chk (by omega) ?_
 have hlen : (List.take (min (l.length : Int) 60).toNat l).length ≤ 60 := by simp only [List.length_take]; omega
 refine Ok.call (P := fun z => z = List.take (min (l.length : Int) 60).toNat l) ⟨_, clone_eq _ (by omega), rfl⟩ ?_
 rintro _ rfl
 refine Ok.call (stable_ok _ (by omega)) fun c hc => ?_
 have hcl := hc.length_eq
 have hcp : ∀ r ∈ c, Pr r := fun r hr => hp r (List.mem_of_mem_take (hc.mem_iff.1 hr))
 refine Ok.jp (P := fun o => ∀ r ∈ o, Pr r) (fun o ho => Ok.some ho) (fun k hk => ?_)
 refine Ok.forC c.length (fun i o => o.length ≤ i ∧ ∀ r ∈ o, Pr r) (fun i o nx hi ⟨ho, hop⟩ hnx => ?_) (fun o ho => hk o ho.2) c.length 0 [] (by omega) ⟨by simp, fun r hr => by cases hr⟩
 have hx : c.getD i (api_Record.mk 0 0 [] (api_Version.mk 0 0 0 []) (api_Version.mk 0 0 0 []) 0 []) = c[i] := getD_at hi _
 rw [hx]
 have hxp := hcp _ (List.getElem_mem hi)
 have happ : ∀ r ∈ o ++ [c[i]], Pr r := fun r hr => by
  rcases List.mem_append.1 hr with h | h
  ·exact hop r h
  ·rw [List.mem_singleton.1 h]; exact hxp
 refine Ok.call (P := fun _ => True) ⟨_, R_RecordError_eq _ hxp, trivial⟩ fun e _ => ?_
 refine Ok.callG (P := fun z => z = o) (fun _ => ⟨_, clone_eq _ (by omega), rfl⟩) fun z hz => ?_
 refine Ok.chk (fun hg => by rw [hz hg]; simp only [List.length_append, List.length_cons, List.length_nil]; omega) ?_
 refine Ok.callG (P := fun _ => True) (fun hg => ⟨_, R_RecordsError_eq _ (by rw [hz hg]; exact happ), trivial⟩) fun e2 _ => ?_
 refine Ok.bif (fun _ => ?_) (fun _ => hnx o ⟨by omega, hop⟩)
 refine Ok.chk (by simp only [List.length_append, List.length_cons, List.length_nil]; omega) ?_
 exact hnx _ ⟨by simp only [List.length_append, List.length_cons, List.length_nil]; omega, happ⟩
theorem landed_eq : Law_landed = some true := by
 unfold Law_landed
 rw [ver_IsName_eq]
 decide +kernel
theorem recsE_take : ∀ (l : List api_Record) (last : Int) (m : Mh) (k : Nat), recsE last m l = 0 → recsE last m (l.take k) = 0
 | [], _, _, _, _ => by simp [recsE]
 | _ :: _, _, _, 0, _ => rfl
 | r :: l, last, m, k + 1, h => by
  simp only [List.take_succ_cons, recsE] at *
  have h1 : eStep last m r = 0 := by
   by_cases h1 : eStep last m r = 0
   ·exact h1
   ·rw [or2_ne h1] at h; exact h
  rw [h1, or2_0] at h
  rw [h1, or2_0]
  exact recsE_take l _ _ k h
theorem rowE_take {l : List api_Record} (h : rowE l = 0) (k : Nat) : rowE (l.take k) = 0 := by
 have hl := rowE_len h
 unfold rowE at *
 rw [decide_eq_false (by omega)] at h
 rw [decide_eq_false (by simp only [List.length_take]; omega)]
 exact recsE_take l 0 [] k h
section
variable {K V : Type} [DecidableEq K]
theorem alook_none : ∀ {m : List (K × V)} {k : K}, alook m k = none ↔ k ∉ m.map (·.1)
 | [], k => by simp [alook]
 | p :: m, k => by
  simp only [alook, List.map_cons, List.mem_cons]
  by_cases h : p.1 = k
  ·simp [h]
  ·rw [decide_eq_false h, cond_false, alook_none]
   simp [Ne.symm h]
theorem mem_keys {m : List (K × V)} {k : K} : k ∈ m.map (·.1) ↔ (alook m k).isSome = true := by
 have := @alook_none K V _ m k
 cases h : alook m k with
 | none => simpa using this.1 h
 | some v =>
  simp only [Option.isSome_some, iff_true]
  refine Classical.byContradiction fun hc => ?_
  rw [this.2 hc] at h; cases h
theorem nodup_aset {m : List (K × V)} (h : (m.map (·.1)).Nodup) (k : K) (v : V) : ((aset m k v).map (·.1)).Nodup := by
 rw [keys_aset]
 split
 ·simpa using h
 ·rename_i hs
  have : k ∉ m.map (·.1) := fun hk => hs (mem_keys.1 hk)
  rw [List.nodup_append]
  exact ⟨h, by simp, fun a ha b hb e => by simp at hb; subst hb; subst e; exact this ha⟩
theorem adel_keys : ∀ (m : List (K × V)) (k : K), ((adel m k).map (·.1)).Sublist (m.map (·.1))
 | [], k => by simp [adel]
 | p :: m, k => by
  simp only [adel]
  by_cases h : p.1 = k
  ·simp [h]
  ·rw [decide_eq_false h, cond_false]
   exact (adel_keys m k).cons_cons _
theorem nodup_adel {m : List (K × V)} (h : (m.map (·.1)).Nodup) (k : K) : ((adel m k).map (·.1)).Nodup := h.sublist (adel_keys m k)
theorem alook_adel : ∀ {m : List (K × V)}, (m.map (·.1)).Nodup → ∀ (k k' : K), alook (adel m k) k' = if k = k' then none else alook m k'
 | [], _, k, k' => by simp [adel, alook]
 | p :: m, hn, k, k' => by
  have hn' := List.nodup_cons.1 hn
  simp only [adel]
  by_cases h : p.1 = k
  ·rw [decide_eq_true h, cond_true]
   by_cases h' : k = k'
   ·rw [if_pos h', alook_none.2]
    rw [← h', ← h]; exact hn'.1
   ·rw [if_neg h']
    have : ¬ p.1 = k' := fun e => h' (h ▸ e)
    simp only [alook]
    rw [decide_eq_false this, cond_false]
  ·rw [decide_eq_false h, cond_false]
   simp only [alook]
   rw [alook_adel hn'.2]
   by_cases h' : k = k'
   ·have : ¬ p.1 = k' := fun e => h (e.trans h'.symm)
    simp [h', this]
   ·simp only [if_neg h']
end
section
variable {α S β : Type}
theorem forM_run {f : α → S → (S → Option β) → (S → Option β) → Option β} {k : S → Option β} {z : β} (inv : List α → S → Prop)
  (h0 : ∀ s, inv [] s → k s = some z) (h1 : ∀ r s nx x j, inv r s → r[j]? = some x → (∀ s', inv (r.eraseIdx j) s' → nx s' = some z) → f x s nx k = some z) :
  ∀ (n : Nat) (r : List α) (s : S), r.length = n → inv r s → forM f n r s k = some z
 | 0, [], s, _, h => h0 s h
 | n + 1, r, s, hn, h => by
  unfold Go.Vc.forM
  refine anyOf_intro ⟨0, by omega⟩ fun j hj => ?_
  rw [List.getElem?_eq_getElem hj]
  exact h1 r s _ r[j] j h (List.getElem?_eq_getElem hj) fun s' hs => forM_run inv h0 h1 n (r.eraseIdx j) s' (by rw [List.length_eraseIdx, if_pos hj]; omega) hs
theorem perm_eraseIdx : ∀ {r : List α} {j : Nat} {x : α}, r[j]? = some x → r.Perm (x :: r.eraseIdx j)
 | [], _, _, h => by cases h
 | y :: r, 0, x, h => by
  simp at h; subst h; simp
 | y :: r, j + 1, x, h => by
  simp only [List.getElem?_cons_succ] at h
  rw [List.eraseIdx_cons_succ]
  exact ((perm_eraseIdx h).cons y).trans (.swap x y _)
end
theorem sle_trans (a b c : Str) (h1 : decide (a ≤ b) = true) (h2 : decide (b ≤ c) = true) : decide (a ≤ c) = true := by
 simp only [decide_eq_true_eq] at *; exact List.le_trans h1 h2
theorem sle_total (a b : Str) : (decide (a ≤ b) || decide (b ≤ a)) = true := by
 simp only [Bool.or_eq_true, decide_eq_true_eq]; exact List.le_total a b
theorem sortS_perm (l : List Str) : (sortS l).Perm l := List.mergeSort_perm l _
theorem sortS_of_perm {l l' : List Str} (h : l.Perm l') : sortS l = sortS l' := by
 unfold sortS
 refine List.Perm.eq_of_pairwise (le := fun a b => decide (a ≤ b) = true) (fun a b _ _ h1 h2 => ?_) (List.pairwise_mergeSort sle_trans sle_total l) (List.pairwise_mergeSort sle_trans sle_total l') (((List.mergeSort_perm l _).trans h).trans (List.mergeSort_perm l' _).symm)
 simp only [decide_eq_true_eq] at h1 h2
 exact List.le_antisymm h1 h2
section
variable {V A : Type}
def keysM (m : List (Str × V)) : List Str := sortS (m.map (·.1))
theorem mem_keysM {m : List (Str × V)} {k : Str} : k ∈ keysM m ↔ (alook m k).isSome = true := by
 unfold keysM
 rw [(sortS_perm _).mem_iff, mem_keys]
theorem len_keysM (m : List (Str × V)) : (keysM m).length = m.length := by
 unfold keysM
 rw [(sortS_perm _).length_eq, List.length_map]
theorem keysBody (m : List (Str × V)) (h : m.length ≤ 274877906944) :
  forM (fun (e : Str × V) (o : List Str) nx _ => chk ((o ++ [e.1]).length ≤ 274877906944) (nx (o ++ [e.1]))) m.length m [] (fun o => some (sortS o)) = some (keysM m) := by
 refine forM_run (fun r o => (o ++ r.map (·.1)).Perm (m.map (·.1))) (fun o ho => ?_) (fun r o nx x j ho hx hnx => ?_) _ _ _ rfl (by simp)
 ·simp only [List.map_nil, List.append_nil] at ho
  unfold keysM
  rw [sortS_of_perm ho]
 ·have hp := (perm_eraseIdx hx).map (·.1)
  have hq : ((o ++ [x.1]) ++ (r.eraseIdx j).map (·.1)).Perm (m.map (·.1)) := by
   refine List.Perm.trans ?_ ho
   rw [List.append_assoc]
   exact (List.Perm.append_left o hp).symm
  have hl := hq.length_eq
  simp only [List.length_append, List.length_map] at hl
  rw [chk_true (by simp only [List.length_append]; omega)]
  exact hnx _ hq
end
theorem or2_zero (a b : Int) : or2 a b = 0 ↔ a = 0 ∧ b = 0 := by
 unfold or2
 by_cases h : a = 0
 ·simp [h]
 ·rw [decide_eq_false h, Bool.not_false, cond_true]
  simp [h]
def mapOf : Mh → List api_Record → Mh
 | m, [] => m
 | m, r :: l => mapOf (upd r m) l
theorem mapOf_le : ∀ (l : List api_Record) (m : Mh), (mapOf m l).length ≤ m.length + l.length
 | [], _ => Nat.le_refl _
 | r :: l, m => by
  have h1 := mapOf_le l (upd r m)
  have h2 := upd_le r m
  simp only [mapOf, List.length_cons]; omega
theorem behind_eq (l : List api_Record) (hl : l.length ≤ 5000) : Ok (log_behind l) fun z => z.1 = mapOf [] l := by
 unfold log_behind
 rw [show log_newTable = some ([], 0) from rfl, call_some, jp_eq]
 have key : ∀ (l : List api_Record) (i : Nat) (m : Mh) (last : Int), m.length + l.length ≤ 5000 →
   Ok (forL l i (fun i_62 r_64 s nx_61 (k_60 : Mh × Int → Option (Mh × Int)) => match s with | (m0_56, o1_1_57) => call (log_table_add_i1 r_64 o1_1_57 m0_56) fun r_65 => nx_61 (r_65.2, r_65.1)) (m, last) (fun s => match s with | (m0_56, o1_1_57) => some (m0_56, o1_1_57))) fun z => z.1 = mapOf m l := by
  intro l
  induction l with
  | nil => intro i m last _; exact Ok.some rfl
  | cons r l ih =>
   intro i m last hm
   simp only [List.length_cons] at hm
   unfold forL
   dsimp only
   rw [add_eq r last m (by omega), call_some]
   exact ih (i + 1) (upd r m) r.Time (by have := upd_le r m; omega)
 exact key l 0 [] 0 (by simpa using hl)
def hadAt (m : Mh) (k : Str) : api_Had := toHad k ((alook m k).getD dH)
def hadsOf (m : Mh) : List api_Had := (keysM m).map (hadAt m)
theorem app_loop {α β Z : Type} (g : α → β) (K : List β → Option Z) : ∀ (l : List α) (i : Nat) (o : List β), o.length + l.length ≤ 274877906944 →
  forL l i (fun _ x o nx (_ : List β → Option Z) => chk ((o ++ [g x]).length ≤ 274877906944) (nx (o ++ [g x]))) o K = K (o ++ l.map g)
 | [], _, o, _ => by unfold forL; simp
 | x :: l, i, o, h => by
  simp only [List.length_cons] at h
  unfold forL
  dsimp only
  rw [chk_true (by simp only [List.length_append, List.length_cons, List.length_nil]; omega), app_loop g K l (i + 1) (o ++ [g x]) (by simp only [List.length_append, List.length_cons, List.length_nil]; omega)]
  simp
theorem keys_toH (m : Mh) : (toH m).map (·.1) = m.map (·.1) := by unfold toH; rw [List.map_map]; rfl
theorem R_keys_eq (m : Mh) (hm : m.length ≤ 1000000) : R_keys_api_Had_i1 (toH m) = some (keysM m) := by
 unfold R_keys_api_Had_i1
 rw [jp_eq]
 refine (keysBody (toH m) (by rw [toH_len]; omega)).trans ?_
 unfold keysM
 rw [keys_toH]
theorem fold_could : ∀ (l : List api_Record) (last : Int) (m : Mh) (i : Nat) {Z : Type} (K : List (Str × api_Had) → Option Z), recsE last m l = 0 → m.length + l.length ≤ 1000000 →
  forL l i (fun _ r m0 nx (_ : List (Str × api_Had) → Option Z) => call (R_could_i1 r m0) fun r_71 => nx r_71.2) (toH m) K = K (toH (mapOf m l))
 | [], _, _, _, _, _, _, _ => by unfold forL; rfl
 | r :: l, last, m, i, Z, K, h, hl => by
  simp only [List.length_cons] at hl
  simp only [recsE] at h
  obtain ⟨h1, h2⟩ := (or2_zero _ _).1 h
  unfold eStep at h1
  obtain ⟨_, h3⟩ := (or2_zero _ _).1 h1
  have hb : badK r (alook m r.Pack) = false := by
   cases hb : badK r (alook m r.Pack)
   ·rfl
   ·rw [hb] at h3
    cases hd : decide (r.Time < last) <;> rw [hd] at h3 <;> cases h3
  unfold forL
  dsimp only
  rw [R_could_eq r m (by omega), call_some, hb]
  exact fold_could l r.Time (upd r m) (i + 1) K h2 (by have := upd_le r m; omega)
theorem rowE_recs {l : List api_Record} (h : rowE l = 0) : recsE 0 [] l = 0 := by
 have hl := rowE_len h
 unfold rowE at h
 rw [decide_eq_false (by omega)] at h
 exact h
theorem R_Installed_eq (l : List api_Record) (h : rowE l = 0) : R_Installed l = some (hadsOf (mapOf [] l)) := by
 have hl := rowE_len h
 have hm := mapOf_le l []
 simp only [List.length_nil] at hm
 unfold R_Installed
 rw [jp_eq]
 refine (fold_could l 0 [] 0 _ (rowE_recs h) (by simp only [List.length_nil]; omega)).trans ?_
 dsimp only
 rw [jp_eq, R_keys_eq _ (by omega), call_some]
 have hk : ∀ k ∈ keysM (mapOf [] l), (alook (toH (mapOf [] l)) k).getD (api_Had.mk [] (api_Version.mk 0 0 0 []) 0) = hadAt (mapOf [] l) k := by
  intro k hk
  rw [look_toH]
  unfold hadAt
  have := mem_keysM.1 hk
  cases hq : alook (mapOf [] l) k with
  | none => rw [hq] at this; cases this
  | some h => rfl
 refine (app_loop (fun k => (alook (toH (mapOf [] l)) k).getD (api_Had.mk [] (api_Version.mk 0 0 0 []) 0)) _ (keysM (mapOf [] l)) 0 [] (by rw [len_keysM]; simp only [List.length_nil]; omega)).trans ?_
 rw [List.nil_append, List.map_congr_left hk]
 rfl
structure Gh (k : Str) (h : log_had) : Prop where
 n : nameOk k = true
 v : vE h.v = 0
 f : flagV h.v = true
 t : 0 ≤ h.since ∧ h.since ≤ 1099511627776
def Inv (m : Mh) : Prop := (m.map (·.1)).Nodup ∧ ∀ k h, alook m k = some h → Gh k h
theorem wh_zero {b : Bool} {e : Int} (he : e ≠ 0) (h : wh b e = 0) : b = false := by
 cases b
 ·rfl
 ·exact absurd h he
theorem eRec_parts {r : api_Record} (h : eRec r = 0) : nameOk r.Pack = true ∧ vE r.To = 0 ∧ badF r = false ∧ 0 ≤ r.Time ∧ r.Time ≤ 1099511627776 := by
 have ht := eRec_time h
 unfold eRec at h
 obtain ⟨h1, h⟩ := (or2_zero _ _).1 h
 obtain ⟨h2, h⟩ := (or2_zero _ _).1 h
 obtain ⟨h3, _⟩ := (or2_zero _ _).1 h
 unfold eHead at h1
 simp only [orL_cons] at h1
 obtain ⟨_, h1⟩ := (or2_zero _ _).1 h1
 obtain ⟨_, h1⟩ := (or2_zero _ _).1 h1
 obtain ⟨h1, _⟩ := (or2_zero _ _).1 h1
 have hn := wh_zero (by decide) h1
 rw [Bool.not_eq_false'] at hn
 exact ⟨hn, (orL2 h2).2, wh_zero (by decide) h3, ht⟩
theorem badF_to {r : api_Record} (h : badF r = false) (h1 : r.Kind ≠ 4) (h2 : r.Kind ≠ 6) : flagV r.To = true := by
 unfold badF at h
 rw [Bool.or_eq_false_iff] at h
 have := h.2
 rw [decide_eq_false h1, decide_eq_false h2] at this
 cases hf : flagV r.To
 ·rw [hf] at this; cases this
 ·rfl
theorem inv_upd {r : api_Record} {m : Mh} (h : Inv m) (he : eRec r = 0) : Inv (upd r m) := by
 obtain ⟨e1, e2, e3, e4⟩ := eRec_parts he
 unfold upd
 cases !decide (r.Result = 0)
 ·simp only [cond_false]
  cases hk : (((decide (r.Kind = 1)) || (decide (r.Kind = 2))) || (decide (r.Kind = 3)))
  ·simp only [cond_false]
   cases decide (r.Kind = 4)
   ·exact h
   ·refine ⟨nodup_adel h.1 _, fun k g hg => ?_⟩
    simp only [cond_true] at hg
    rw [alook_adel h.1] at hg
    split at hg
    ·cases hg
    ·exact h.2 k g hg
  ·simp only [cond_true]
   refine ⟨nodup_aset h.1 _ _, fun k g hg => ?_⟩
   rw [alook_aset] at hg
   split at hg
   ·rename_i ek
    subst ek
    cases hg
    simp only [Bool.or_eq_true, decide_eq_true_eq] at hk
    exact ⟨e1, e2, badF_to e3 (by omega) (by omega), e4⟩
   ·exact h.2 k g hg
 ·exact h
theorem inv_mapOf : ∀ {l : List api_Record} {last : Int} {m : Mh}, Inv m → recsE last m l = 0 → Inv (mapOf m l)
 | [], _, _, h, _ => h
 | r :: l, last, m, h, he => by
  simp only [recsE] at he
  obtain ⟨h1, h2⟩ := (or2_zero _ _).1 he
  unfold eStep at h1
  exact inv_mapOf (m := upd r m) (inv_upd h ((or2_zero _ _).1 h1).1) h2
theorem inv_nil : Inv [] := ⟨by simp, fun k h e => by cases e⟩
theorem recs_sorted : ∀ {l : List api_Record} {last : Int} {m : Mh}, recsE last m l = 0 → (∀ r ∈ l, last ≤ r.Time ∧ eRec r = 0) ∧ l.Pairwise (fun a b => a.Time ≤ b.Time)
 | [], _, _, _ => ⟨fun r hr => (by cases hr), List.Pairwise.nil⟩
 | r :: l, last, m, h => by
  simp only [recsE] at h
  obtain ⟨h1, h2⟩ := (or2_zero _ _).1 h
  obtain ⟨i1, i2⟩ := recs_sorted h2
  unfold eStep at h1
  obtain ⟨h3, h4⟩ := (or2_zero _ _).1 h1
  have ht : last ≤ r.Time := by
   cases hd : decide (r.Time < last)
   ·have := of_decide_eq_false hd; omega
   ·rw [hd] at h4; cases h4
  refine ⟨fun x hx => ?_, List.pairwise_cons.2 ⟨fun x hx => (i1 x hx).1, i2⟩⟩
  rcases List.mem_cons.1 hx with rfl | hx
  ·exact ⟨ht, h3⟩
  ·exact ⟨by have := (i1 x hx).1; omega, (i1 x hx).2⟩
def upT (t : Int) : List api_Record → Nat
 | [] => 0
 | r :: l => bif decide (r.Time ≤ t) then upT t l + 1 else 0
theorem upT_le (t : Int) : ∀ l, upT t l ≤ l.length
 | [] => Nat.le_refl _
 | r :: l => by
  have := upT_le t l
  simp only [upT]
  cases decide (r.Time ≤ t) <;> simp only [cond_true, cond_false, List.length_cons] <;> omega
theorem upT_lt {t : Int} : ∀ {l : List api_Record} {k : Nat} (h : k < l.length), k < upT t l → l[k].Time ≤ t
 | [], k, h, _ => by simp at h
 | r :: l, k, h, hk => by
  cases hd : decide (r.Time ≤ t)
  ·have hu : upT t (r :: l) = 0 := by simp only [upT, hd, cond_false]
   rw [hu] at hk; omega
  ·have hu : upT t (r :: l) = upT t l + 1 := by simp only [upT, hd, cond_true]
   rw [hu] at hk
   cases k with
   | zero => exact of_decide_eq_true hd
   | succ k =>
    have h2 : k < l.length := by simpa using h
    exact upT_lt h2 (by omega)
theorem upT_at {t : Int} : ∀ {l : List api_Record} (h : upT t l < l.length), t < l[upT t l].Time
 | [], h => by simp at h
 | r :: l, h => by
  cases hd : decide (r.Time ≤ t)
  ·have hu : upT t (r :: l) = 0 := by simp only [upT, hd, cond_false]
   have : (r :: l)[upT t (r :: l)] = r := by simp only [hu, List.getElem_cons_zero]
   rw [this]
   have := of_decide_eq_false hd
   omega
  ·have hu : upT t (r :: l) = upT t l + 1 := by simp only [upT, hd, cond_true]
   have hl : upT t l < l.length := by rw [hu] at h; simpa using h
   have : (r :: l)[upT t (r :: l)] = l[upT t l] := by simp only [hu, List.getElem_cons_succ]
   rw [this]
   exact upT_at hl
theorem upT_ge {t : Int} {l : List api_Record} (hs : l.Pairwise (fun a b => a.Time ≤ b.Time)) {k : Nat} (h : k < l.length) (hk : upT t l ≤ k) : t < l[k].Time := by
 have h0 : upT t l < l.length := by omega
 have h1 := upT_at h0
 rcases Nat.lt_or_eq_of_le hk with hlt | rfl
 ·have := List.pairwise_iff_getElem.1 hs _ _ h0 h hlt
  omega
 ·exact h1
theorem upT_uniq {t : Int} {l : List api_Record} {i : Nat} (hi : i ≤ l.length) (h1 : ∀ k (h : k < l.length), k < i → l[k].Time ≤ t) (h2 : ∀ k (h : k < l.length), i ≤ k → t < l[k].Time) : i = upT t l := by
 rcases Nat.lt_trichotomy i (upT t l) with h | h | h
 ·have hl : i < l.length := Nat.lt_of_lt_of_le h (upT_le t l)
  have := h2 i hl (Nat.le_refl _)
  have := upT_lt hl h
  omega
 ·exact h
 ·have hl : upT t l < l.length := by omega
  have := h1 _ hl h
  have := upT_at hl
  omega
theorem upT_mono {s t : Int} (h : s ≤ t) : ∀ l : List api_Record, upT s l ≤ upT t l
 | [] => Nat.le_refl _
 | r :: l => by
  have := upT_mono h l
  simp only [upT]
  cases hs : decide (r.Time ≤ s)
  ·exact Nat.zero_le _
  ·rw [decide_eq_true (by have := of_decide_eq_true hs; omega : r.Time ≤ t)]
   simp only [cond_true]; omega
theorem until_eq (l : List api_Record) (t : Int) (hl : l.length ≤ 5000) (hs : l.Pairwise (fun a b => a.Time ≤ b.Time)) : log_until l t = some ((upT t l : Nat) : Int) := by
 have key : Ok (slices_BinarySearchFunc_api_Record_api_Record_int_i1 l t) fun z => z.1 = ((upT t l : Nat) : Int) := by
  unfold slices_BinarySearchFunc_api_Record_api_Record_int_i1
  have hF := fuel_ge
  generalize Fuel = N at hF ⊢
  refine Ok.jp (P := fun i : Int => i = ((upT t l : Nat) : Int)) (fun i hi => ?_) (fun k hk => ?_)
  ·refine Ok.chk (fun hg => by have := of_decide_eq_true hg; omega) ?_
   refine Ok.callG (P := fun _ => True) (fun _ => by unfold log_until_1; exact Ok.bif (fun _ => Ok.some trivial) (fun _ => Ok.some trivial)) fun x _ => Ok.some hi
  ·refine Ok.loop (fun s => 0 ≤ s.1 ∧ s.1 ≤ s.2 ∧ s.2 ≤ (l.length : Int) ∧ (∀ k (h : k < l.length), (k : Int) < s.1 → l[k].Time ≤ t) ∧ (∀ k (h : k < l.length), s.2 ≤ (k : Int) → t < l[k].Time)) (fun s => (s.2 - s.1).toNat) ?_ N _ ⟨Int.le_refl _, by dsimp only; omega, Int.le_refl _, fun k h hk => by dsimp only at hk; omega, fun k h hk => by dsimp only at hk; omega⟩ (by dsimp only; omega)
   rintro ⟨x, y⟩ nx ⟨q1, q2, q3, q4, q5⟩ hnx
   dsimp only at *
   refine Ok.bif (fun hc => ?_) (fun hc => ?_)
   ·have hc := of_decide_eq_true hc
    have exy := mid_eq (a := x) (b := y) (by omega) (by omega)
    have ec1 : IntKind.i64.wrap ((x + y) / 2 + 1) = (x + y) / 2 + 1 := wrapS (by omega) (by omega)
    simp only [exy, ec1]
    obtain ⟨c, hcc⟩ := Int.eq_ofNat_of_zero_le (by omega : 0 ≤ (x + y) / 2)
    rw [hcc]
    have hlt : c < l.length := by omega
    rw [idx_eq hlt]
    unfold log_until_1
    by_cases ht : l[c].Time ≤ t
    ·rw [decide_eq_true ht, cond_true, call_some]
     refine hnx ((c : Int) + 1, y) ⟨by dsimp only; omega, by dsimp only; omega, by dsimp only; omega, fun k h hk => ?_, q5⟩ (by dsimp only; omega)
     dsimp only at hk
     rcases Nat.lt_or_eq_of_le (by omega : k ≤ c) with hkc | rfl
     ·have := List.pairwise_iff_getElem.1 hs k c h hlt hkc
      omega
     ·exact ht
    ·rw [decide_eq_false ht, cond_false, call_some]
     refine hnx (x, (c : Int)) ⟨by dsimp only; omega, by dsimp only; omega, by dsimp only; omega, q4, fun k h hk => ?_⟩ (by dsimp only; omega)
     dsimp only at hk
     rcases Nat.lt_or_eq_of_le (by omega : c ≤ k) with hkc | rfl
     ·have := List.pairwise_iff_getElem.1 hs c k hlt h hkc
      omega
     ·omega
   ·have hc := of_decide_eq_false hc
    obtain ⟨i, rfl⟩ := Int.eq_ofNat_of_zero_le q1
    refine hk _ ?_
    congr 1
    exact upT_uniq (by omega) (fun k h hki => q4 k h (by omega)) (fun k h hki => q5 k h (by omega))
 unfold log_until
 obtain ⟨z, e, hz⟩ := key
 rw [e, call_some, hz]
theorem indexF (t : Int) (K : Unit → Option Int) : ∀ (l : List api_Record) (i : Nat), forL l i (fun i_37 r_39 (_ : Unit) nx_36 (_ : Unit → Option Int) => call (R_Until_1_i1 r_39 t) fun r_40 => bif r_40 then some (i_37 : Int) else nx_36 ()) () K = if upT t l < l.length then some ((i + upT t l : Nat) : Int) else K ()
 | [], i => rfl
 | r :: l, i => by
  unfold forL
  dsimp only
  unfold R_Until_1_i1
  rw [call_some]
  by_cases h : r.Time ≤ t
  ·have hu : upT t (r :: l) = upT t l + 1 := by simp only [upT, decide_eq_true h, cond_true]
   rw [decide_eq_false (by omega), cond_false, hu]
   refine (indexF t K l (i + 1)).trans ?_
   simp only [List.length_cons, Nat.add_lt_add_iff_right]
   rw [show i + 1 + upT t l = i + (upT t l + 1) by omega]
  ·have hu : upT t (r :: l) = 0 := by simp only [upT, decide_eq_false h, cond_false]
   rw [decide_eq_true (by omega), cond_true, hu, if_pos (by simp)]
   rfl
theorem R_Until_eq (l : List api_Record) (t : Int) (hl : l.length ≤ 1000000) : R_Until l t = some (l.take (upT t l)) := by
 unfold R_Until slices_IndexFunc_api_Record_api_Record_i1
 rw [jp_eq, indexF]
 have hle := upT_le t l
 by_cases h : upT t l < l.length
 ·rw [if_pos h, call_some, decide_eq_false (by omega), cond_false, chk_true (by omega)]
  simp
 ·rw [if_neg h, call_some, decide_eq_true (by decide), cond_true, List.take_of_length_le (by omega)]
def inSpan (a b : Int) (r : api_Record) : Bool := !((decide (r.Time < a)) || (decide (b ≤ r.Time)))
theorem span_filter {l : List api_Record} (hs : l.Pairwise (fun a b => a.Time ≤ b.Time)) {a b : Int} (hab : a ≤ b) :
  l.filter (inSpan a b) = (l.drop (upT (a - 1) l)).take (upT (b - 1) l - upT (a - 1) l) := by
 have hm := upT_mono (show a - 1 ≤ b - 1 by omega) l
 have hle := upT_le (b - 1) l
 have e1 : l = l.take (upT (a - 1) l) ++ ((l.drop (upT (a - 1) l)).take (upT (b - 1) l - upT (a - 1) l) ++ l.drop (upT (b - 1) l)) := by
  have : l.drop (upT (b - 1) l) = (l.drop (upT (a - 1) l)).drop (upT (b - 1) l - upT (a - 1) l) := by rw [List.drop_drop]; congr 1; omega
  rw [this, List.take_append_drop, List.take_append_drop]
 have mem : ∀ {x : api_Record} {p q : Nat}, x ∈ (l.drop p).take q → ∃ k, ∃ h : k < l.length, p ≤ k ∧ k < p + q ∧ l[k] = x := by
  intro x p q hx
  obtain ⟨i, hi, he⟩ := List.mem_iff_getElem.1 hx
  simp only [List.length_take, List.length_drop] at hi
  refine ⟨p + i, by omega, by omega, by omega, ?_⟩
  rw [← he]; simp
 have f1 : (l.take (upT (a - 1) l)).filter (inSpan a b) = [] := by
  rw [List.filter_eq_nil_iff]
  intro x hx
  obtain ⟨k, h, _, hk, rfl⟩ := mem (p := 0) (by simpa using hx)
  have := upT_lt h (t := a - 1) (by omega)
  unfold inSpan
  rw [decide_eq_true (by omega)]; simp
 have f2 : ((l.drop (upT (a - 1) l)).take (upT (b - 1) l - upT (a - 1) l)).filter (inSpan a b) = (l.drop (upT (a - 1) l)).take (upT (b - 1) l - upT (a - 1) l) := by
  rw [List.filter_eq_self]
  intro x hx
  obtain ⟨k, h, h1, h2, rfl⟩ := mem hx
  have q1 := upT_ge hs (t := a - 1) h h1
  have q2 := upT_lt h (t := b - 1) (by omega)
  unfold inSpan
  rw [decide_eq_false (by omega), decide_eq_false (by omega)]; rfl
 have f3 : (l.drop (upT (b - 1) l)).filter (inSpan a b) = [] := by
  rw [List.filter_eq_nil_iff]
  intro x hx
  obtain ⟨k, h, h1, _, rfl⟩ := mem (p := upT (b - 1) l) (q := l.length) (by rw [List.take_of_length_le (by simp)]; exact hx)
  have q1 := upT_ge hs (t := b - 1) h h1
  unfold inSpan
  rw [decide_eq_true (p := b ≤ l[k].Time) (by omega)]; simp
 have e2 := congrArg (List.filter (inSpan a b)) e1
 rw [List.filter_append, List.filter_append, f1, f2, f3, List.nil_append, List.append_nil] at e2
 exact e2
abbrev Md_ := List (Str × log_done)
def d0 : log_done := log_done.mk 0 0
def dAt (m : Md_) (k : Str) : log_done := (alook m k).getD d0
def cnt (m : Md_) (r : api_Record) : Md_ :=
 bif decide (r.Kind = 6) then aset m r.Pack (dAt m r.Pack)
 else bif decide (r.Result = 0) then aset m r.Pack (log_done.mk ((dAt m r.Pack).well + 1) (dAt m r.Pack).failed)
 else aset m r.Pack (log_done.mk (dAt m r.Pack).well ((dAt m r.Pack).failed + 1))
def cntAll : Md_ → List api_Record → Md_
 | m, [] => m
 | m, r :: l => cntAll (cnt m r) l
def Bd (n : Nat) (m : Md_) : Prop := m.length ≤ n ∧ ∀ k, 0 ≤ (dAt m k).well ∧ (dAt m k).well ≤ n ∧ 0 ≤ (dAt m k).failed ∧ (dAt m k).failed ≤ n
theorem dAt_aset (m : Md_) (k : Str) (v : log_done) (k' : Str) : dAt (aset m k v) k' = if k = k' then v else dAt m k' := by
 unfold dAt
 rw [alook_aset]
 split <;> rfl
theorem Bd.cnt {n : Nat} {m : Md_} (h : Bd n m) (r : api_Record) : Bd (n + 1) (Md.cnt m r) := by
 have hq := h.2 r.Pack
 have gen : ∀ v : log_done, 0 ≤ v.well → v.well ≤ ((n + 1 : Nat) : Int) → 0 ≤ v.failed → v.failed ≤ ((n + 1 : Nat) : Int) → Bd (n + 1) (aset m r.Pack v) := by
  intro v v1 v2 v3 v4
  refine ⟨?_, fun k => ?_⟩
  ·have := aset_le m r.Pack v
   have := h.1
   omega
  ·rw [dAt_aset]
   split
   ·exact ⟨v1, v2, v3, v4⟩
   ·have := h.2 k
    omega
 unfold Md.cnt
 cases decide (r.Kind = 6)
 ·cases decide (r.Result = 0)
  ·exact gen _ (by dsimp only; omega) (by dsimp only; omega) (by dsimp only; omega) (by dsimp only; omega)
  ·exact gen _ (by dsimp only; omega) (by dsimp only; omega) (by dsimp only; omega) (by dsimp only; omega)
 ·exact gen _ (by omega) (by omega) (by omega) (by omega)
theorem bd_all : ∀ (l : List api_Record) {n : Nat} {m : Md_}, Bd n m → Bd (n + l.length) (cntAll m l)
 | [], _, _, h => h
 | r :: l, n, m, h => by
  have := bd_all l (h.cnt r)
  rw [show n + (r :: l).length = n + 1 + l.length by simp only [List.length_cons]; omega]
  exact this
theorem bd_nil : Bd 0 [] := ⟨Nat.le_refl _, fun k => ⟨Int.le_refl _, Int.le_refl _, Int.le_refl _, Int.le_refl _⟩⟩
theorem keys_cnt (m : Md_) (r : api_Record) : ∀ k ∈ (cnt m r).map (·.1), k ∈ m.map (·.1) ∨ k = r.Pack := by
 have gen : ∀ v : log_done, ∀ k ∈ (aset m r.Pack v).map (·.1), k ∈ m.map (·.1) ∨ k = r.Pack := by
  intro v k hk
  rw [keys_aset] at hk
  rcases List.mem_append.1 hk with h | h
  ·exact .inl h
  ·split at h
   ·cases h
   ·exact .inr (by simpa using h)
 unfold cnt
 cases decide (r.Kind = 6)
 ·cases decide (r.Result = 0)
  ·exact gen _
  ·exact gen _
 ·exact gen _
theorem keys_all : ∀ (l : List api_Record) (m : Md_), ∀ k ∈ (cntAll m l).map (·.1), k ∈ m.map (·.1) ∨ ∃ r ∈ l, k = r.Pack
 | [], _, k, hk => .inl hk
 | r :: l, m, k, hk => by
  rcases keys_all l (cnt m r) k hk with h | ⟨x, hx, rfl⟩
  ·rcases keys_cnt m r k h with h | rfl
   ·exact .inl h
   ·exact .inr ⟨r, by simp, rfl⟩
  ·exact .inr ⟨x, by simp [hx], rfl⟩
theorem log_cnt (K : Md_ → Option (Str × Int)) : ∀ (l : List api_Record) (i n : Nat) (m : Md_), Bd n m → n + l.length ≤ 1000000 →
  forL l i (fun i_268 r_270 m0_256 nx_267 (k_266 : Md_ → Option (Str × Int)) =>
   letv (alook m0_256 r_270.Pack) fun q_271 =>
   bif decide (r_270.Kind = 6) then
    chk ((aset m0_256 r_270.Pack (q_271.getD (log_done.mk 0 0))).length ≤ 274877906944) <|
    nx_267 (aset m0_256 r_270.Pack (q_271.getD (log_done.mk 0 0)))
   else
   bif decide (r_270.Result = 0) then
    chk ((aset m0_256 r_270.Pack (log_done.mk (IntKind.i64.wrap (((q_271.getD (log_done.mk 0 0)).well) + 1)) ((q_271.getD (log_done.mk 0 0)).failed))).length ≤ 274877906944) <|
    nx_267 (aset m0_256 r_270.Pack (log_done.mk (IntKind.i64.wrap (((q_271.getD (log_done.mk 0 0)).well) + 1)) ((q_271.getD (log_done.mk 0 0)).failed)))
   else
   chk ((aset m0_256 r_270.Pack (log_done.mk ((q_271.getD (log_done.mk 0 0)).well) (IntKind.i64.wrap (((q_271.getD (log_done.mk 0 0)).failed) + 1)))).length ≤ 274877906944) <|
   nx_267 (aset m0_256 r_270.Pack (log_done.mk ((q_271.getD (log_done.mk 0 0)).well) (IntKind.i64.wrap (((q_271.getD (log_done.mk 0 0)).failed) + 1))))) m K = K (cntAll m l)
 | [], _, _, _, _, _ => rfl
 | r :: l, i, n, m, hb, hn => by
  simp only [List.length_cons] at hn
  have hq := hb.2 r.Pack
  have hlen : ∀ v : log_done, (aset m r.Pack v).length ≤ 274877906944 := fun v => by
   have := aset_le m r.Pack v
   have := hb.1
   omega
  have w1 : IntKind.i64.wrap ((dAt m r.Pack).well + 1) = (dAt m r.Pack).well + 1 := wrapS (by omega) (by omega)
  have w2 : IntKind.i64.wrap ((dAt m r.Pack).failed + 1) = (dAt m r.Pack).failed + 1 := wrapS (by omega) (by omega)
  unfold forL
  dsimp only
  rw [letv_eq, chk_true (hlen _), chk_true (hlen _), chk_true (hlen _)]
  have ih := log_cnt K l (i + 1) (n + 1) (cnt m r) (hb.cnt r) (by omega)
  unfold cnt at ih
  unfold dAt d0 at w1 w2
  rw [w1, w2]
  simp only [cntAll]
  unfold cnt
  cases hk : decide (r.Kind = 6)
  ·rw [hk] at ih
   cases hr : decide (r.Result = 0)
   ·rw [hr] at ih; exact ih
   ·rw [hr] at ih; exact ih
  ·rw [hk] at ih; exact ih
def toW (m : Md_) : List (Str × Int) := m.map fun p => (p.1, p.2.well)
theorem look_toW : ∀ (m : Md_) (k : Str), alook (toW m) k = (alook m k).map (·.well)
 | [], _ => rfl
 | p :: m, k => by
  by_cases h : p.1 = k
  ·rw [alook_eq h]
   show alook ((p.1, p.2.well) :: toW m) k = _
   rw [alook_eq (p := (p.1, p.2.well)) h]; rfl
  ·rw [alook_ne h]
   show alook ((p.1, p.2.well) :: toW m) k = _
   rw [alook_ne (p := (p.1, p.2.well)) h, look_toW m k]
theorem aset_toW : ∀ (m : Md_) (k : Str) (h : log_done), aset (toW m) k h.well = toW (aset m k h)
 | [], _, _ => rfl
 | p :: m, k, h => by
  by_cases e : p.1 = k
  ·rw [aset_eq e]
   show aset ((p.1, p.2.well) :: toW m) k _ = _
   rw [aset_eq (p := (p.1, p.2.well)) e]; rfl
  ·rw [aset_ne e]
   show aset ((p.1, p.2.well) :: toW m) k _ = _
   rw [aset_ne (p := (p.1, p.2.well)) e, aset_toW m k h]; rfl
theorem aset_aset {V : Type} : ∀ (m : List (Str × V)) (k : Str) (v w : V), aset (aset m k v) k w = aset m k w
 | [], k, v, w => by
  show aset ((k, v) :: []) k w = _
  rw [aset_eq (p := (k, v)) rfl]; rfl
 | p :: m, k, v, w => by
  by_cases e : p.1 = k
  ·rw [aset_eq e, aset_eq e, aset_eq (p := (k, v)) rfl]
  ·rw [aset_ne e, aset_ne e, aset_ne e, aset_aset m k v w]
theorem toW_len (m : Md_) : (toW m).length = m.length := List.length_map _
theorem toW_at (m : Md_) (k : Str) : (alook (toW m) k).getD 0 = (dAt m k).well := by
 rw [look_toW]
 unfold dAt
 cases alook m k <;> rfl
def Fl (m : Md_) (m1 : List (Str × Int)) (n : Nat) : Prop := m1.length ≤ n ∧ ∀ k, (alook m1 k).getD 0 = (dAt m k).failed
theorem R_cnt {Z : Type} (a b : Int) (K : List (Str × Int) × List (Str × Int) → Option Z) {f : Nat → api_Record → List (Str × Int) × List (Str × Int) → (List (Str × Int) × List (Str × Int) → Option Z) → (List (Str × Int) × List (Str × Int) → Option Z) → Option Z}
  (hf : ∀ i r m m1 n nx, Bd n m → Fl m m1 n → n ≤ 900000 → ∃ m1', f i r (toW m, m1) nx K = (bif inSpan a b r then nx (toW (cnt m r), m1') else nx (toW m, m1)) ∧ (inSpan a b r = true → Fl (cnt m r) m1' (n + 1))) :
  ∀ (l : List api_Record) (i n : Nat) (m : Md_) (m1 : List (Str × Int)), Bd n m → Fl m m1 n → n + l.length ≤ 900000 → ∃ m1', forL l i f (toW m, m1) K = K (toW (cntAll m (l.filter (inSpan a b))), m1') ∧ Fl (cntAll m (l.filter (inSpan a b))) m1' (n + l.length)
 | [], i, n, m, m1, hb, hfl, _ => ⟨m1, rfl, hfl⟩
 | r :: l, i, n, m, m1, hb, hfl, hn => by
  simp only [List.length_cons] at hn
  obtain ⟨m1', e, hfl'⟩ := hf i r m m1 n (fun s' => forL l (i + 1) f s' K) hb hfl (by omega)
  unfold forL
  rw [e]
  cases hp : inSpan a b r
  ·rw [List.filter_cons_of_neg (by rw [hp]; decide)]
   obtain ⟨x, e2, h2⟩ := R_cnt a b K hf l (i + 1) n m m1 hb hfl (by omega)
   refine ⟨x, by rw [cond_false]; exact e2, ⟨by have := h2.1; simp only [List.length_cons]; omega, h2.2⟩⟩
  ·rw [List.filter_cons_of_pos hp]
   obtain ⟨x, e2, h2⟩ := R_cnt a b K hf l (i + 1) (n + 1) (cnt m r) m1' (hb.cnt r) (hfl' hp) (by omega)
   refine ⟨x, by rw [cond_true]; exact e2, ⟨by have := h2.1; simp only [List.length_cons]; omega, h2.2⟩⟩
def vtext (v : api_Version) : Str :=
 bif !decide (v.Early = []) then ((((Go.Lib.itoa v.Major ++ [46]) ++ Go.Lib.itoa v.Minor) ++ [46]) ++ Go.Lib.itoa v.Patch) ++ ([45] ++ v.Early)
 else (((Go.Lib.itoa v.Major ++ [46]) ++ Go.Lib.itoa v.Minor) ++ [46]) ++ Go.Lib.itoa v.Patch
theorem Itoa_eq {n : Int} (h0 : 0 ≤ n) (h1 : n ≤ 1000000000) : strconv_Itoa n = some (Go.Lib.itoa n) := by
 unfold strconv_Itoa
 exact chk_true (by omega) _
theorem itoa_len {n : Int} (h0 : 0 ≤ n) (h1 : n ≤ 1000000000) : (Go.Lib.itoa n).length ≤ 21 := Go.Lib.itoa_length_le n (by omega) (by omega)
theorem vE_rng {v : api_Version} (h : vE v = 0) : (0 ≤ v.Major ∧ v.Major ≤ 999999) ∧ (0 ≤ v.Minor ∧ v.Minor ≤ 999999) ∧ (0 ≤ v.Patch ∧ v.Patch ≤ 999999) := by
 unfold vE at h
 cases hb : rngOk v.Major && (rngOk v.Minor && rngOk v.Patch)
 ·rw [hb] at h; cases h
 ·unfold rngOk at hb
  simp only [Bool.and_eq_true, decide_eq_true_eq] at hb
  exact hb
theorem vtext_len {v : api_Version} (h : vE v = 0) : (vtext v).length ≤ 110 := by
 obtain ⟨⟨a1, a2⟩, ⟨b1, b2⟩, ⟨c1, c2⟩⟩ := vE_rng h
 have l1 := itoa_len a1 (by omega)
 have l2 := itoa_len b1 (by omega)
 have l3 := itoa_len c1 (by omega)
 have l4 := vE_len h
 unfold vtext
 cases !decide (v.Early = []) <;> simp only [cond_true, cond_false, List.length_append, List.length_cons, List.length_nil] <;> omega
theorem text_eq {v : api_Version} (h : vE v = 0) : ver_text v = some (vtext v) := by
 obtain ⟨⟨a1, a2⟩, ⟨b1, b2⟩, ⟨c1, c2⟩⟩ := vE_rng h
 have l1 := itoa_len a1 (by omega)
 have l2 := itoa_len b1 (by omega)
 have l3 := itoa_len c1 (by omega)
 have l4 := vE_len h
 unfold ver_text
 rw [Itoa_eq a1 (by omega), Itoa_eq b1 (by omega), Itoa_eq c1 (by omega)]
 simp only [call_some]
 iterate 6 rw [chk_true (by simp only [List.length_append, List.length_cons, List.length_nil]; omega)]
 rw [condS]; rfl
theorem VText_eq {v : api_Version} (h : vE v = 0) : R_VersionText v = some (vtext v) := by
 rw [show R_VersionText v = ver_text v from rfl, text_eq h]
theorem Print_eq {v : api_Version} (h : vE v = 0) : ver_Print v = some (vtext v, 0) := by
 unfold ver_Print
 rw [ver_Check_eq v (by have := vE_len h; omega), call_some, h, decide_eq_true rfl, Bool.not_true, cond_false, text_eq h, call_some]
def verOf (now : Mh) (k : Str) : Str := bif (alook now k).isSome then vtext ((alook now k).getD dH).v else [45]
def rowOf (m : Md_) (now : Mh) (k : Str) : Str := ((((((k ++ [58, 32]) ++ Go.Lib.itoa (dAt m k).well) ++ [32, 100, 111, 110, 101, 44, 32]) ++ Go.Lib.itoa (dAt m k).failed) ++ [32, 102, 97, 105, 108, 101, 100, 44, 32, 110, 111, 119, 32]) ++ verOf now k) ++ [10]
theorem verOf_len {now : Mh} (hi : Inv now) (k : Str) : (verOf now k).length ≤ 110 := by
 unfold verOf
 cases h : alook now k with
 | none => simp
 | some x => exact vtext_len (hi.2 k x h).v
theorem cat_loop {Z : Type} (row : Str → Str) (K : Str → Option Z) {f : Nat → Str → Str → (Str → Option Z) → (Str → Option Z) → Option Z} (ks : List Str)
  (hrow : ∀ k ∈ ks, (row k).length ≤ 400) (hf : ∀ i k o nx, k ∈ ks → o.length ≤ 1000000000 → f i k o nx K = nx (o ++ row k)) :
  ∀ (l : List Str) (i : Nat) (o : Str), (∀ k ∈ l, k ∈ ks) → o.length + 400 * l.length ≤ 1000000000 → forL l i f o K = K (o ++ (l.map row).flatten)
 | [], i, o, _, _ => by unfold forL; simp
 | k :: l, i, o, hk, hl => by
  simp only [List.length_cons] at hl
  have h1 := hk k (by simp)
  have h2 := hrow k h1
  unfold forL
  rw [hf i k o _ h1 (by omega)]
  refine (cat_loop row K ks hrow hf l (i + 1) (o ++ row k) (fun x hx => hk x (by simp [hx])) (by simp only [List.length_append]; omega)).trans ?_
  simp
theorem find_ver {Z : Type} {now : Mh} (hi : Inv now) (k : Str) (K : Str → Option Z) : ∀ (ks : List Str) (i : Nat) (v : Str), (∀ x ∈ ks, (alook now x).isSome = true) →
  forL (ks.map (hadAt now)) i (fun i_370 h_372 v_364 nx_369 (k_368 : Str → Option Z) => bif decide (h_372.Pack = k) then call (R_VersionText h_372.Version) fun r_373 => nx_369 r_373 else nx_369 v_364) v K = K (if k ∈ ks then vtext ((alook now k).getD dH).v else v)
 | [], i, v, _ => by unfold List.map forL; simp
 | x :: ks, i, v, hx => by
  rw [List.map_cons]
  unfold forL
  dsimp only
  have hsome := hx x (by simp)
  have ih := find_ver hi k K ks (i + 1)
  have hp : (hadAt now x).Pack = x := rfl
  rw [hp]
  by_cases e : x = k
  ·subst e
   cases hq : alook now x with
   | none => rw [hq] at hsome; cases hsome
   | some h =>
    have hv : vE (hadAt now x).Version = 0 := by
     have := (hi.2 x h hq).v
     unfold hadAt; rw [hq]; exact this
    rw [decide_eq_true rfl, cond_true, VText_eq hv, call_some, ih _ (fun y hy => hx y (by simp [hy]))]
    have : vtext (hadAt now x).Version = vtext ((some h).getD dH).v := by unfold hadAt; rw [hq]; rfl
    rw [this, hq]
    simp
  ·rw [decide_eq_false e, cond_false, ih v (fun y hy => hx y (by simp [hy]))]
   simp [Ne.symm e]
theorem span_eq {l : List api_Record} (hp : ∀ r ∈ l, Pr r) (a b : Int) : log_span l a b = some (
  bif !decide (rowE l = 0) then ([], rowE l)
  else bif (((decide (a < 0)) || (decide (1099511627776 < a))) || (decide (b < 0))) || (decide (1099511627776 < b)) then ([], 3)
  else bif decide (b < a) then ([], 7)
  else ((l.drop (upT (a - 1) l)).take (upT (b - 1) l - upT (a - 1) l), 0)) := by
 unfold log_span log_timed
 rw [log_check_eq l hp, call_some]
 by_cases h : rowE l = 0
 ·rw [h, decide_eq_true rfl, Bool.not_true, cond_false, cond_false, jp_eq]
  have hl := rowE_len h
  have hs := (recs_sorted (rowE_recs h)).2
  unfold forL forL
  dsimp only
  rw [log_outside_eq, log_outside_eq, call_some, call_some]
  unfold forL
  by_cases ha : a < 0 ∨ 1099511627776 < a
  ·have : ((decide (a < 0)) || (decide (1099511627776 < a))) = true := by simpa using ha
   rw [this]; rfl
  ·have h1 : ((decide (a < 0)) || (decide (1099511627776 < a))) = false := by
    rw [Bool.or_eq_false_iff, decide_eq_false_iff_not, decide_eq_false_iff_not]; omega
   rw [h1]
   by_cases hb : b < 0 ∨ 1099511627776 < b
   ·have : ((false || (decide (b < 0))) || (decide (1099511627776 < b))) = true := by simpa using hb
    have h2 : ((decide (b < 0)) || (decide (1099511627776 < b))) = true := by simpa using hb
    rw [this, h2]; rfl
   ·have h2 : ((false || (decide (b < 0))) || (decide (1099511627776 < b))) = false := by
     rw [Bool.false_or, Bool.or_eq_false_iff, decide_eq_false_iff_not, decide_eq_false_iff_not]; omega
    have h3 : ((decide (b < 0)) || (decide (1099511627776 < b))) = false := by rw [Bool.false_or] at h2; exact h2
    rw [h2, h3]
    simp only [cond_false, call_some, decide_true, Bool.not_true]
    by_cases hba : b < a
    ·rw [decide_eq_true hba]; rfl
    ·rw [decide_eq_false hba, cond_false, cond_false, wrapS (by omega) (by omega), wrapS (by omega) (by omega), until_eq l _ hl hs, until_eq l _ hl hs, call_some, call_some]
     have := upT_le (a - 1) l
     have := upT_le (b - 1) l
     have := upT_mono (show a - 1 ≤ b - 1 by omega) l
     rw [chk_true (by omega)]
     simp
 ·rw [decide_eq_false h]
  simp only [Bool.not_false, cond_true, call_some, h, decide_false]
def repT (l : List api_Record) (a b : Int) : Str := ((keysM (cntAll [] (l.filter (inSpan a b)))).map (rowOf (cntAll [] (l.filter (inSpan a b))) (mapOf [] (l.take (upT (b - 1) l))))).flatten
theorem ver_jp {Z : Type} {now : Mh} (hi : Inv now) (k : Str) (F : Str → Option Z) :
  jp (S := Str) F (fun k_231 => letv (alook now k) fun q_242 => bif q_242.isSome then call (ver_Print ((q_242.getD (log_had.mk (api_Version.mk 0 0 0 []) 0)).v)) fun r_244 => k_231 r_244.1 else k_231 ([45] : Str)) = F (verOf now k) := by
 rw [jp_eq, letv_eq]
 unfold verOf
 cases h : alook now k with
 | none => rfl
 | some x =>
  have hv : vE ((some x).getD (log_had.mk (api_Version.mk 0 0 0 []) 0)).v = 0 := (hi.2 k x h).v
  rw [Print_eq hv, call_some]
  rfl
theorem ws_eq (s o : Str) (h : (o ++ s).length ≤ 274877906944) : strings_Builder_WriteString_i1 s o = some ((s.length : Int), o ++ s) := by
 unfold strings_Builder_WriteString_i1
 rw [show strings_Builder_copyCheck_np o = some () from rfl, call_some, chk_true h]
structure Ky (m : Md_) (k : Str) : Prop where
 l : k.length ≤ 40
 w : 0 ≤ (dAt m k).well ∧ (dAt m k).well ≤ 1000000000
 f : 0 ≤ (dAt m k).failed ∧ (dAt m k).failed ≤ 1000000000
theorem Ky.row {m : Md_} {k : Str} (h : Ky m k) {now : Mh} (hi : Inv now) : (rowOf m now k).length ≤ 400 := by
 have l1 := itoa_len h.w.1 h.w.2
 have l2 := itoa_len h.f.1 h.f.2
 have l3 := verOf_len hi k
 have l4 := h.l
 unfold rowOf
 simp only [List.length_append, List.length_cons, List.length_nil]
 omega
theorem ky_of {l : List api_Record} (h : rowE l = 0) (a b : Int) : ∀ k ∈ keysM (cntAll [] (l.filter (inSpan a b))), Ky (cntAll [] (l.filter (inSpan a b))) k := by
 intro k hk
 have hl := rowE_len h
 have hf := List.length_filter_le (inSpan a b) l
 have hb := (bd_all (l.filter (inSpan a b)) bd_nil).2 k
 unfold keysM at hk
 rw [(sortS_perm _).mem_iff] at hk
 rcases keys_all _ _ k hk with h' | ⟨r, hr, rfl⟩
 ·cases h'
 ·have he := ((recs_sorted (rowE_recs h)).1 r (List.mem_filter.1 hr).1).2
  have hn := nameOk_len (eRec_parts he).1
  exact ⟨hn, by omega, by omega⟩
theorem inv_take {l : List api_Record} (h : rowE l = 0) (n : Nat) : Inv (mapOf [] (l.take n)) := inv_mapOf inv_nil (rowE_recs (rowE_take h n))
theorem log_Report_eq {l : List api_Record} (hp : ∀ r ∈ l, Pr r) (a b : Int) : log_Report l a b = some (
  bif !decide (rowE l = 0) then ([], rowE l)
  else bif (((decide (a < 0)) || (decide (1099511627776 < a))) || (decide (b < 0))) || (decide (1099511627776 < b)) then ([], 3)
  else bif decide (b < a) then ([], 7)
  else (repT l a b, 0)) := by
 unfold log_Report
 rw [span_eq hp, call_some]
 by_cases h : rowE l = 0
 ·rw [h, decide_eq_true rfl, Bool.not_true]
  simp only [cond_false]
  cases ho : (((decide (a < 0)) || (decide (1099511627776 < a))) || (decide (b < 0))) || (decide (1099511627776 < b))
  ·simp only [Bool.or_eq_false_iff, decide_eq_false_iff_not] at ho
   by_cases hba : b < a
   ·rw [decide_eq_true hba]; rfl
   ·rw [decide_eq_false hba]
    simp only [cond_false, decide_true, Bool.not_true]
    have hl := rowE_len h
    have hs := (recs_sorted (rowE_recs h)).2
    rw [← span_filter hs (by omega : a ≤ b), jp_eq]
    have hfl := List.length_filter_le (inSpan a b) l
    refine (log_cnt _ (l.filter (inSpan a b)) 0 0 [] bd_nil (by omega)).trans ?_
    dsimp only
    have hu := upT_le (b - 1) l
    rw [wrapS (by omega) (by omega), until_eq l _ hl hs, call_some, chk_true (by omega)]
    obtain ⟨⟨now, t⟩, e, hnow⟩ := behind_eq (l.take (upT (b - 1) l)) (by simp only [List.length_take]; omega)
    dsimp only at hnow
    subst hnow
    have hi := inv_take h (upT (b - 1) l)
    rw [Int.toNat_natCast, e, call_some, jp_eq]
    dsimp only
    have hky := ky_of h a b
    have hbd := bd_all (l.filter (inSpan a b)) bd_nil
    unfold repT
    generalize cntAll [] (l.filter (inSpan a b)) = m at hky hbd ⊢
    rw [show maps_Keys_map_string_log_done_string_log_done_i1 m = some () from rfl, call_some, show slices_Sorted_keys_65 m = some (keysM m) from rfl, call_some]
    refine (cat_loop (rowOf m (mapOf [] (l.take (upT (b - 1) l)))) _ (keysM m) (fun k hk => (hky k hk).row hi) (fun i k o nx hk ho => ?_) (keysM m) 0 [] (fun k hk => hk) (by rw [len_keysM]; have := hbd.1; simp only [List.length_nil]; omega)).trans ?_
    ·have hk' := hky k hk
     have l1 := itoa_len hk'.w.1 hk'.w.2
     have l2 := itoa_len hk'.f.1 hk'.f.2
     have l3 := verOf_len hi k
     have l4 := hk'.l
     rw [letv_eq]
     refine (ver_jp hi k _).trans ?_
     have e1 : strconv_Itoa ((alook m k).getD (log_done.mk 0 0)).well = some (Go.Lib.itoa (dAt m k).well) := Itoa_eq hk'.w.1 hk'.w.2
     have e2 : strconv_Itoa ((alook m k).getD (log_done.mk 0 0)).failed = some (Go.Lib.itoa (dAt m k).failed) := Itoa_eq hk'.f.1 hk'.f.2
     rw [e1, e2]
     simp only [call_some]
     iterate 7 rw [chk_true (by simp only [List.length_append, List.length_cons, List.length_nil]; omega)]
     rw [ws_eq _ _ (by simp only [List.length_append, List.length_cons, List.length_nil]; omega), call_some]
     rfl
    ·rw [show ∀ o, strings_Builder_String_i1 o = some o from fun _ => rfl, call_some, List.nil_append]
  ·rfl
 ·rw [decide_eq_false h]
  simp only [Bool.not_false, cond_true, h, decide_false]
theorem R_keysI_eq (m : Md_) (hm : m.length ≤ 1000000) : R_keys_int_i1 (toW m) = some (keysM m) := by
 unfold R_keys_int_i1
 rw [jp_eq]
 refine (keysBody (toW m) (by rw [toW_len]; omega)).trans ?_
 unfold keysM toW
 rw [List.map_map]; rfl
def rF {Z : Type} (a b : Int) : Nat → api_Record → List (Str × Int) × List (Str × Int) → (List (Str × Int) × List (Str × Int) → Option Z) → (List (Str × Int) × List (Str × Int) → Option Z) → Option Z := fun i_406 r_408 s nx_405 k_404 =>
  match s with
  | (m0_389, m1_390) =>
   bif ((decide (r_408.Time < a)) || (decide (b ≤ r_408.Time))) then
    nx_405 (m0_389, m1_390)
   else
   letv (alook m0_389 r_408.Pack) fun q_409 =>
   chk ((aset m0_389 r_408.Pack (IntKind.i64.wrap ((q_409.getD 0) + 0))).length ≤ 274877906944) <|
   bif decide (r_408.Kind = 6) then
    nx_405 (aset m0_389 r_408.Pack (IntKind.i64.wrap ((q_409.getD 0) + 0)), m1_390)
   else
   bif decide (r_408.Result = 0) then
    letv (alook (aset m0_389 r_408.Pack (IntKind.i64.wrap ((q_409.getD 0) + 0))) r_408.Pack) fun q_413 =>
    chk ((aset (aset m0_389 r_408.Pack (IntKind.i64.wrap ((q_409.getD 0) + 0))) r_408.Pack (IntKind.i64.wrap ((q_413.getD 0) + 1))).length ≤ 274877906944) <|
    nx_405 (aset (aset m0_389 r_408.Pack (IntKind.i64.wrap ((q_409.getD 0) + 0))) r_408.Pack (IntKind.i64.wrap ((q_413.getD 0) + 1)), m1_390)
   else
   letv (alook m1_390 r_408.Pack) fun q_417 =>
   chk ((aset m1_390 r_408.Pack (IntKind.i64.wrap ((q_417.getD 0) + 1))).length ≤ 274877906944) <|
   nx_405 (aset m0_389 r_408.Pack (IntKind.i64.wrap ((q_409.getD 0) + 0)), aset m1_390 r_408.Pack (IntKind.i64.wrap ((q_417.getD 0) + 1)))
theorem R_step {Z : Type} (a b : Int) (K : List (Str × Int) × List (Str × Int) → Option Z) (i : Nat) (r : api_Record) (m : Md_) (m1 : List (Str × Int)) (n : Nat) (nx : List (Str × Int) × List (Str × Int) → Option Z) (hbd : Bd n m) (hfl : Fl m m1 n) (hn : n ≤ 900000) :
  ∃ m1', rF a b i r (toW m, m1) nx K = (bif inSpan a b r then nx (toW (cnt m r), m1') else nx (toW m, m1)) ∧ (inSpan a b r = true → Fl (cnt m r) m1' (n + 1)) := by
 unfold rF
 dsimp only
 have hq := hbd.2 r.Pack
 have hw0 : IntKind.i64.wrap ((alook (toW m) r.Pack).getD 0 + 0) = (dAt m r.Pack).well := by rw [toW_at, Int.add_zero, wrapS (by omega) (by omega)]
 have hs1 : aset (toW m) r.Pack (dAt m r.Pack).well = toW (aset m r.Pack (dAt m r.Pack)) := aset_toW m r.Pack (dAt m r.Pack)
 have hlen := aset_le m r.Pack (dAt m r.Pack)
 have hml := hbd.1
 simp only [letv_eq]
 rw [hw0, hs1, toW_at, dAt_aset, if_pos rfl, chk_true (by rw [toW_len]; omega)]
 have hw1 : IntKind.i64.wrap ((dAt m r.Pack).well + 1) = (dAt m r.Pack).well + 1 := wrapS (by omega) (by omega)
 have hw2 : IntKind.i64.wrap ((alook m1 r.Pack).getD 0 + 1) = (dAt m r.Pack).failed + 1 := by rw [hfl.2, wrapS (by omega) (by omega)]
 rw [hw1, hw2]
 have hs2 : aset (toW (aset m r.Pack (dAt m r.Pack))) r.Pack ((dAt m r.Pack).well + 1) = toW (aset m r.Pack (log_done.mk ((dAt m r.Pack).well + 1) (dAt m r.Pack).failed)) := by
  rw [show (dAt m r.Pack).well + 1 = (log_done.mk ((dAt m r.Pack).well + 1) (dAt m r.Pack).failed).well from rfl, aset_toW, aset_aset]
 have hs3 : toW (aset m r.Pack (dAt m r.Pack)) = toW (aset m r.Pack (log_done.mk (dAt m r.Pack).well ((dAt m r.Pack).failed + 1))) := by
  rw [← aset_toW m r.Pack (dAt m r.Pack), ← aset_toW m r.Pack (log_done.mk (dAt m r.Pack).well ((dAt m r.Pack).failed + 1))]
 have hl2 := aset_le m r.Pack (log_done.mk ((dAt m r.Pack).well + 1) (dAt m r.Pack).failed)
 have hl3 := aset_le m1 r.Pack ((dAt m r.Pack).failed + 1)
 have hl4 := hfl.1
 rw [hs2, chk_true (by rw [toW_len]; omega), chk_true (by omega)]
 have same : ∀ v : log_done, v.failed = (dAt m r.Pack).failed → Fl (aset m r.Pack v) m1 (n + 1) := fun v hv => ⟨by omega, fun k => by
  rw [dAt_aset, hfl.2]
  split
  ·rename_i ek
   subst ek
   exact hv.symm
  ·rfl⟩
 unfold inSpan cnt
 cases (decide (r.Time < a)) || (decide (b ≤ r.Time))
 ·simp only [Bool.not_false, cond_true, cond_false]
  cases decide (r.Kind = 6)
  ·cases decide (r.Result = 0)
   ·refine ⟨aset m1 r.Pack ((dAt m r.Pack).failed + 1), by simp only [cond_false]; rw [hs3], fun _ => ⟨by omega, fun k => ?_⟩⟩
    simp only [cond_false]
    rw [dAt_aset, alook_aset]
    split
    ·rfl
    ·exact hfl.2 k
   ·exact ⟨m1, rfl, fun _ => same _ rfl⟩
  ·exact ⟨m1, rfl, fun _ => same _ rfl⟩
 ·exact ⟨m1, rfl, fun e => by cases e⟩
theorem R_ReportOf_eq {l : List api_Record} (h : rowE l = 0) (a b : Int) (ha : 0 ≤ a) (hb : 0 ≤ b ∧ b ≤ 1099511627776) : R_ReportOf l a b = some (repT l a b) := by
 have hl := rowE_len h
 have hs := (recs_sorted (rowE_recs h)).2
 unfold R_ReportOf
 rw [jp_eq]
 obtain ⟨m1', e, hfl⟩ := R_cnt (Z := Str) a b _ (R_step a b _) l 0 0 [] [] bd_nil ⟨Nat.le_refl _, fun k => rfl⟩ (by omega)
 refine e.trans ?_
 dsimp only
 have hu := upT_le (b - 1) l
 rw [wrapS (by omega) (by omega), R_Until_eq l _ (by omega), call_some, R_Installed_eq _ (rowE_take h _), call_some, jp_eq]
 dsimp only
 have hi := inv_take h (upT (b - 1) l)
 have hky := ky_of h a b
 have hfle := List.length_filter_le (inSpan a b) l
 have hbd := bd_all (l.filter (inSpan a b)) bd_nil
 unfold repT
 generalize cntAll [] (l.filter (inSpan a b)) = m at hky hbd hfl ⊢
 generalize mapOf [] (l.take (upT (b - 1) l)) = now at hi ⊢
 rw [R_keysI_eq m (by have := hbd.1; omega), call_some]
 refine (cat_loop (rowOf m now) _ (keysM m) (fun k hk => (hky k hk).row hi) (fun i k o nx hk ho => ?_) (keysM m) 0 [] (fun k hk => hk) (by rw [len_keysM]; have := hbd.1; simp only [List.length_nil]; omega)).trans ?_
 ·have hk' := hky k hk
  have l1 := itoa_len hk'.w.1 hk'.w.2
  have l2 := itoa_len hk'.f.1 hk'.f.2
  have l3 := verOf_len hi k
  have l4 := hk'.l
  rw [jp_eq]
  dsimp only
  rw [jp_eq]
  refine (find_ver hi k _ (keysM now) 0 [45] (fun x hx => mem_keysM.1 hx)).trans ?_
  have hver : (if k ∈ keysM now then vtext ((alook now k).getD dH).v else [45]) = verOf now k := by
   unfold verOf
   by_cases hm : k ∈ keysM now
   ·rw [if_pos hm, mem_keysM.1 hm]; rfl
   ·rw [if_neg hm]
    have : (alook now k).isSome = false := by
     cases hq : (alook now k).isSome
     ·rfl
     ·exact absurd (mem_keysM.2 hq) hm
    rw [this]; rfl
  rw [hver]
  dsimp only
  have e1 : strconv_Itoa ((alook (toW m) k).getD 0) = some (Go.Lib.itoa (dAt m k).well) := by rw [toW_at]; exact Itoa_eq hk'.w.1 hk'.w.2
  have e2 : strconv_Itoa ((alook m1' k).getD 0) = some (Go.Lib.itoa (dAt m k).failed) := by rw [hfl.2 k]; exact Itoa_eq hk'.f.1 hk'.f.2
  simp only [letv_eq]
  rw [e1, e2]
  simp only [call_some]
  iterate 8 rw [chk_true (by simp only [List.length_append, List.length_cons, List.length_nil]; omega)]
  rfl
 ·rfl
theorem law_lr (l : List api_Record) (raw : Bool) (a b : Int) (hp : ∀ r ∈ l, Pr r) : Law_ReportsMatch l raw a b = some true := by
 obtain ⟨A, eA, hA⟩ := could_ok l raw hp
 unfold Law_ReportsMatch
 rw [landed_eq, call_some, eA, call_some, Bool.not_true, cond_false, log_Report_eq hA a b, call_some, R_RecordsError_eq A hA, call_some, jp_eq]
 dsimp only
 rw [letv_eq]
 by_cases h : rowE A = 0
 ·rw [h, decide_eq_true rfl, Bool.not_true, cond_false, cond_false]
  cases ho : (((decide (a < 0)) || (decide (1099511627776 < a))) || (decide (b < 0))) || (decide (1099511627776 < b))
  ·simp only [Bool.or_eq_false_iff, decide_eq_false_iff_not] at ho
   rw [cond_false, cond_false]
   by_cases hba : b < a
   ·rw [decide_eq_true hba]; rfl
   ·rw [decide_eq_false hba, cond_false, cond_false]
    simp only [cond_false, decide_true, callG_true]
    rw [R_ReportOf_eq h a b (by omega) (by omega), call_some, decide_eq_true rfl]
    rfl
  ·rfl
 ·rw [decide_eq_false h, Bool.not_false, cond_true, cond_true]
  simp only [cond_true, decide_true, Bool.and_self]
end Go.Md
