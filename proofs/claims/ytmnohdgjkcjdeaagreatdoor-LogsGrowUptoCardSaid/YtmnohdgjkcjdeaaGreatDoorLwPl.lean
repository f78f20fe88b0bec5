/- Plain lemmas on the models: the law's model answers true. -/
import Derived.Test.YtmnohdgjkcjdeaaGreatDoorLwMd
set_option linter.unusedSimpArgs false
set_option linter.unusedVariables false
namespace Go.Md
open Go.Vc
section
variable {Z A S α : Type}
theorem call_some (x : A) (k : A → Option Z) : call (some x) k = k x := rfl
theorem callG_some (g : Bool) (x d : A) (k : A → Option Z) : callG g (some x) d k = k (bif g then x else d) := by cases g <;> rfl
theorem callG_true (a : Option A) (d : A) (k : A → Option Z) : callG true a d k = call a k := rfl
theorem callG_false (a : Option A) (d : A) (k : A → Option Z) : callG false a d k = k d := rfl
theorem chk_true {p : Prop} [Decidable p] (h : p) (m : Option Z) : chk p m = m := if_pos h
theorem jp_eq (F : S → Option Z) (m : (S → Option Z) → Option Z) : jp F m = m F := rfl
theorem idxS_eq {s : Str} {i : Nat} (h : i < s.length) (k : Int → Option Z) : idxS s i k = k (s[i].toNat : Int) := by
 unfold idxS
 simp [h]
theorem idx_eq {l : List α} {i : Nat} (h : i < l.length) (k : α → Option Z) : idx l i k = k l[i] := by
 unfold idx
 simp [h]
theorem forL_all {f : Nat → α → Unit → (Unit → Option Z) → (Unit → Option Z) → Option Z} {z : Z} (q : α → Bool) (hf : ∀ i x nx k, f i x () nx k = bif q x then nx () else some z) (k : Unit → Option Z) :
  ∀ (l : List α) (i : Nat), forL l i f () k = bif l.all q then k () else some z
 | [], i => rfl
 | x :: l, i => by
  unfold forL
  rw [hf, forL_all q hf k l (i + 1), List.all_cons]
  cases q x <;> rfl
theorem forL_run {f : Nat → α → S → (S → Option Z) → (S → Option Z) → Option Z} {k : S → Option Z} (inv : Nat → List α → S → Prop) (R : Nat → List α → S → Option Z)
  (h0 : ∀ i s, inv i [] s → k s = R i [] s) (h1 : ∀ i x l s nx, inv i (x :: l) s → (∀ s', inv (i + 1) l s' → nx s' = R (i + 1) l s') → f i x s nx k = R i (x :: l) s) :
  ∀ (l : List α) (i : Nat) (s : S), inv i l s → forL l i f s k = R i l s
 | [], i, s, h => h0 i s h
 | x :: l, i, s, h => h1 i x l s _ h fun s' hs => forL_run inv R h0 h1 l (i + 1) s' hs
theorem loopN_run {f : S → (S → Option Z) → (S → Option Z) → Option Z} {k : S → Option Z} (inv : S → Prop) (mu : S → Nat) (R : S → Option Z)
  (h : ∀ s nx, inv s → (∀ s', inv s' → mu s' < mu s → nx s' = R s') → f s nx k = R s) : ∀ (N : Nat) (s : S), inv s → mu s < N → loopN N f s k = R s
 | 0, s, _, hm => by omega
 | N + 1, s, hi, hm => by
  unfold loopN
  exact h s _ hi fun s' hs' hlt => loopN_run inv mu R h N s' hs' (by omega)
theorem condS (b : Bool) (x y : Z) : (bif b then some x else some y) = some (bif b then x else y) := by cases b <;> rfl
theorem condN (c : Bool) (x y : Z) : (bif c then x else y) = bif !c then y else x := by cases c <;> rfl
theorem bif_t {c : Bool} (h : c = true) (x y : Z) : (bif c then x else y) = x := by rw [h]; rfl
theorem bif_f {c : Bool} (h : c = false) (x y : Z) : (bif c then x else y) = y := by rw [h]; rfl
end
theorem wrapS {n : Int} (h1 : -9223372036854775808 ≤ n) (h2 : n ≤ 9223372036854775807) : IntKind.i64.wrap n = n := wrap64 h1 h2
theorem wrapN (n : Nat) (h : n ≤ 9223372036854775807) : IntKind.i64.wrap (n : Int) = n := wrap64 (by omega) (by omega)
theorem wrap1 (i : Nat) (h : i < 9223372036854775807) : IntKind.i64.wrap ((i : Int) + 1) = ((i + 1 : Nat) : Int) := by rw [wrapS (by omega) (by omega)]; rfl
theorem wrapm1 (i : Nat) (h0 : 0 < i) (h : i < 9223372036854775807) : IntKind.i64.wrap ((i : Int) - 1) = ((i - 1 : Nat) : Int) := by rw [wrapS (by omega) (by omega)]; omega
theorem fuel_ge : 1099511627776 ≤ Fuel := Nat.le_refl _
def cutAt (c : UInt8) : Str → Str × Str × Bool
 | [] => ([], [], false)
 | b :: s => if b = c then ([], s, true) else (b :: (cutAt c s).1, (cutAt c s).2.1, (cutAt c s).2.2)
def splitAt (c : UInt8) : Str → List Str
 | [] => [[]]
 | b :: s => if b = c then [] :: splitAt c s else match splitAt c s with
  | [] => [[b]]
  | h :: t => (b :: h) :: t
theorem cutAt_none {c : UInt8} : ∀ {s : Str}, c ∉ s → cutAt c s = (s, [], false)
 | [], _ => rfl
 | b :: s, h => by
  have hb : b ≠ c := fun e => h (by simp [e])
  have ht := cutAt_none (s := s) (c := c) (fun h' => h (List.mem_cons_of_mem _ h'))
  simp only [cutAt, if_neg hb, ht]
theorem cutAt_some {c : UInt8} : ∀ {s : Str}, c ∈ s → (cutAt c s).2.2 = true ∧ s = (cutAt c s).1 ++ c :: (cutAt c s).2.1 ∧ c ∉ (cutAt c s).1
 | [], h => by cases h
 | b :: s, h => by
  by_cases hb : b = c
  ·subst hb; simp [cutAt]
  ·have hm : c ∈ s := by
    rcases List.mem_cons.1 h with rfl | h
    ·exact absurd rfl hb
    ·exact h
   obtain ⟨h1, h2, h3⟩ := cutAt_some hm
   simp only [cutAt, if_neg hb]
   refine ⟨h1, by rw [List.cons_append, ← h2], ?_⟩
   intro h'
   rcases List.mem_cons.1 h' with rfl | h'
   ·exact hb rfl
   ·exact h3 h'
theorem cutAt_app {c : UInt8} : ∀ {a b : Str}, c ∉ a → cutAt c (a ++ c :: b) = (a, b, true)
 | [], b, _ => by simp [cutAt]
 | x :: a, b, h => by
  have hx : x ≠ c := fun e => h (by simp [e])
  have := cutAt_app (a := a) (b := b) (c := c) (fun h' => h (List.mem_cons_of_mem _ h'))
  simp only [List.cons_append, cutAt, if_neg hx, this]
theorem splitAt_ne (c : UInt8) (s : Str) : splitAt c s ≠ [] := by
 cases s with
 | nil => simp [splitAt]
 | cons b s =>
  simp only [splitAt]
  split
  ·simp
  ·split <;> simp
theorem splitAt_none {c : UInt8} : ∀ {s : Str}, c ∉ s → splitAt c s = [s]
 | [], _ => rfl
 | b :: s, h => by
  have hb : b ≠ c := fun e => h (by simp [e])
  have ht := splitAt_none (s := s) (c := c) (fun h' => h (List.mem_cons_of_mem _ h'))
  simp only [splitAt, if_neg hb, ht]
theorem splitAt_app {c : UInt8} : ∀ {a b : Str}, c ∉ a → splitAt c (a ++ c :: b) = a :: splitAt c b
 | [], b, _ => by simp [splitAt]
 | x :: a, b, h => by
  have hx : x ≠ c := fun e => h (by simp [e])
  have := splitAt_app (a := a) (b := b) (c := c) (fun h' => h (List.mem_cons_of_mem _ h'))
  simp only [List.cons_append, splitAt, if_neg hx, this]
theorem splitAt_cut (c : UInt8) (s : Str) : splitAt c s = if (cutAt c s).2.2 = true then (cutAt c s).1 :: splitAt c (cutAt c s).2.1 else [s] := by
 by_cases h : c ∈ s
 ·obtain ⟨h1, h2, h3⟩ := cutAt_some h
  rw [if_pos h1]
  conv => lhs; rw [h2]
  exact splitAt_app h3
 ·rw [cutAt_none h]
  simpa using splitAt_none h
theorem cutAt_len (c : UInt8) (s : Str) : (cutAt c s).1.length ≤ s.length ∧ (cutAt c s).2.1.length ≤ s.length ∧ ((cutAt c s).2.2 = true → (cutAt c s).1.length + (cutAt c s).2.1.length + 1 = s.length) := by
 by_cases h : c ∈ s
 ·obtain ⟨h1, h2, h3⟩ := cutAt_some h
  have := congrArg List.length h2
  simp only [List.length_append, List.length_cons] at this
  exact ⟨by omega, by omega, fun _ => by omega⟩
 ·rw [cutAt_none h]; simp
theorem splitAt_length (c : UInt8) (s : Str) : (splitAt c s).length = s.count c + 1 := by
 induction s with
 | nil => rfl
 | cons b s ih =>
  simp only [splitAt]
  split
  ·rename_i e; subst e; simp [ih]
  ·rename_i e
   rw [List.count_cons_of_ne (by simpa using e)]
   split
   ·rename_i e'; exact absurd e' (splitAt_ne c s)
   ·rename_i e'; rw [e'] at ih; simpa using ih
def ixb (s : Str) (c : UInt8) : Int := Lib.indexByte s c
theorem ixb_cut (c : UInt8) : ∀ s : Str, ixb s c = if c ∈ s then ((cutAt c s).1.length : Int) else -1
 | [] => rfl
 | b :: s => by
  have ih := ixb_cut c s
  unfold ixb at *
  unfold Lib.indexByte
  by_cases hb : b = c
  ·subst hb; simp [cutAt]
  ·rw [if_neg (by simpa using hb), ih]
   simp only [cutAt, if_neg hb, List.mem_cons, Ne.symm hb, false_or]
   by_cases h : c ∈ s
   ·rw [if_pos h, if_pos h]
    simp
   ·rw [if_neg h, if_neg h]; rfl
theorem ixb_none {c : UInt8} {s : Str} (h : c ∉ s) : ixb s c = -1 := by rw [ixb_cut, if_neg h]
theorem ixb_some {c : UInt8} {s : Str} (h : c ∈ s) : ixb s c = ((cutAt c s).1.length : Int) := by rw [ixb_cut, if_pos h]
theorem cutAt_take {c : UInt8} {s : Str} (h : c ∈ s) : s.take (cutAt c s).1.length = (cutAt c s).1 ∧ s.drop ((cutAt c s).1.length + 1) = (cutAt c s).2.1 := by
 obtain ⟨h1, h2, h3⟩ := cutAt_some h
 generalize cutAt c s = q at h2 ⊢
 subst h2
 constructor
 ·exact List.take_left' rfl
 ·rw [← List.drop_drop, List.drop_left' rfl]; rfl
theorem len1 (c : UInt8) : ((([c] : Str).length : Nat) : Int) = 1 := rfl
theorem wrapc1 (i : Nat) (c : UInt8) (h : i < 9223372036854775807) : IntKind.i64.wrap ((i : Int) + ((([c] : Str).length : Nat) : Int)) = ((i + 1 : Nat) : Int) := wrap1 i h
theorem indexByte_u8 (s : Str) (c : UInt8) : ixByte s (c.toNat : Int) = ixb s c := by
 unfold ixByte ixb
 congr 1
 simp
theorem slite_eq (s : Str) (c : UInt8) : internal_stringslite_Index s [c] = some (ixb s c) := by
 unfold internal_stringslite_Index internal_stringslite_IndexByte
 by_cases h : s = [c]
 ·subst h
  simp [ixb, Lib.indexByte]
 ·have : (decide (([c] : Str) = s)) = false := by simpa using fun e => h e.symm
  simp only [this, len1, show decide ((1 : Int) = 0) = false from rfl, show decide ((1 : Int) = 1) = true from rfl, decide_true, Bool.or_false, cond_false, cond_true]
  show idxS [c] ((0 : Nat) : Int) _ = _
  rw [idxS_eq (by simp)]
  simp only [call_some, List.getElem_cons_zero, indexByte_u8]
theorem index_eq (s : Str) (c : UInt8) : strings_Index s [c] = some (ixb s c) := by
 unfold strings_Index
 rw [slite_eq]; rfl
theorem count_eq (s : Str) (c : UInt8) : strings_Count s [c] = some ((s.count c : Nat) : Int) := by
 unfold strings_Count
 simp only [len1, show decide ((1 : Int) = 0) = false from rfl, show decide ((1 : Int) = 1) = true from rfl, decide_true, cond_false, cond_true]
 show idxS [c] ((0 : Nat) : Int) _ = _
 rw [idxS_eq (by simp)]
 unfold cntByte
 simp
theorem cut_eq (s : Str) (c : UInt8) (hs : s.length ≤ 1099511627776) : strings_Cut s [c] = some (cutAt c s) := by
 unfold strings_Cut internal_stringslite_Cut
 rw [slite_eq]
 simp only [call_some]
 by_cases h : c ∈ s
 ·obtain ⟨h1, h2, h3⟩ := cutAt_some h
  have hl := (cutAt_len c s).2.2 h1
  obtain ⟨t1, t2⟩ := cutAt_take h
  rw [ixb_some h, decide_eq_true (by omega), cond_true]
  rw [chk_true (by omega)]
  simp only [wrapc1 _ c (show (cutAt c s).1.length < 9223372036854775807 by omega)]
  rw [chk_true (by omega)]
  simp only [Int.toNat_natCast, t1, t2, call_some]
  rw [show true = (cutAt c s).2.2 from h1.symm]
 ·rw [ixb_none h]
  simp only [show decide ((0 : Int) ≤ -1) = false from rfl, cond_false, call_some]
  rw [cutAt_none h]
theorem drop_cut_count {c : UInt8} {s : Str} (h : c ∈ s) : (cutAt c s).2.1.count c + 1 = s.count c := by
 obtain ⟨h1, h2, h3⟩ := cutAt_some h
 conv => rhs; rw [h2]
 rw [List.count_append, List.count_eq_zero_of_not_mem h3, List.count_cons_self]
 omega
theorem set_take {α : Type} (l : List α) (i : Nat) (x : α) (h : i < l.length) : (l.set i x).take (i + 1) = l.take i ++ [x] := by
 rw [List.take_succ_eq_append_getElem (by simpa using h)]
 simp [List.take_set_of_le]
theorem split_eq (s : Str) (c : UInt8) (hs : s.length ≤ 17179869184) : strings_Split s [c] = some (splitAt c s) := by
 have hcl := List.count_le_length (a := c) (l := s)
 have key : strings_genSplit s [c] 0 (-1) = some (splitAt c s) := by
  unfold strings_genSplit
  obtain ⟨N, hN⟩ : ∃ N, Fuel = N := ⟨_, rfl⟩
  have hN2 : 1099511627776 ≤ N := hN ▸ fuel_ge
  rw [hN]
  clear hN
  have hmin : min ((s.count c + 1 : Nat) : Int) ((s.length + 1 : Nat) : Int) = ((s.count c + 1 : Nat) : Int) := by omega
  simp only [jp_eq, count_eq, call_some, show decide ((-1 : Int) = 0) = false from rfl, show decide ((-1 : Int) < 0) = true from rfl, show decide (([c] : Str) = []) = false from rfl, cond_true, cond_false]
  simp only [wrap1 (s.count c) (by omega), wrap1 s.length (by omega), hmin]
  rw [chk_true (by omega)]
  have hw : IntKind.i64.wrap (((s.count c + 1 : Nat) : Int) - 1) = ((s.count c : Nat) : Int) := by rw [wrapS (by omega) (by omega)]; omega
  simp only [hw, Int.toNat_natCast]
  refine (loopN_run (S := Str × Int × List Str) (fun st => ∃ i : Nat, st.2.1 = i ∧ st.2.2.length = s.count c + 1 ∧ st.1.length ≤ s.length ∧ i + st.1.count c = s.count c) (fun st => s.count c - st.2.1.toNat)
   (fun st => some (st.2.2.take st.2.1.toNat ++ splitAt c st.1)) ?_ N _ ⟨0, rfl, by simp, Nat.le_refl _, by simp⟩ (by simp only; omega)).trans ?_
  ·rintro ⟨t, i', o⟩ nx ⟨i, rfl, ho, ht, hc⟩ hnx
   simp only at ho ht hc hnx ⊢
   simp only [index_eq, call_some]
   by_cases hi : i < s.count c
   ·have hmem : c ∈ t := by rw [← List.count_pos_iff]; omega
    obtain ⟨h1, h2, h3⟩ := cutAt_some hmem
    have hl := (cutAt_len c t).2.2 h1
    obtain ⟨t1, t2⟩ := cutAt_take hmem
    rw [decide_eq_true (by omega), cond_true, ixb_some hmem, decide_eq_false (by omega), cond_false]
    have hw3 : IntKind.i64.wrap (((cutAt c t).1.length : Int) + 0) = ((cutAt c t).1.length : Int) := by rw [wrapS (by omega) (by omega)]; omega
    have hw4 : IntKind.i64.wrap (((cutAt c t).1.length : Int) + (([c] : Str).length : Int)) = (((cutAt c t).1.length + 1 : Nat) : Int) := wrap1 _ (by omega)
    simp only [hw3, hw4, wrap1 i (by omega), Int.toNat_natCast]
    rw [chk_true (by omega), chk_true (by omega), chk_true (by omega)]
    have hdc := drop_cut_count hmem
    simp only [t1, t2]
    rw [hnx _ ⟨i + 1, rfl, by simpa using ho, by simp only; omega, by simp only; omega⟩ (by simp only [Int.toNat_natCast]; omega)]
    simp only [Int.toNat_natCast]
    rw [set_take o i _ (by omega)]
    congr 1
    rw [show splitAt c t = (cutAt c t).1 :: splitAt c (cutAt c t).2.1 by rw [splitAt_cut, if_pos h1]]
    simp
   ·obtain rfl : i = s.count c := by omega
    rw [decide_eq_false (by omega), cond_false]
    have hmem : c ∉ t := by rw [← List.count_pos_iff]; omega
    rw [chk_true (by omega), wrap1 _ (by omega)]
    simp only [Int.toNat_natCast, List.length_set]
    rw [chk_true (by omega), set_take o _ _ (by omega), splitAt_none hmem]
  ·simp
 unfold strings_Split
 rw [key]; rfl
def HX : Str := [48, 49, 50, 51, 52, 53, 54, 55, 56, 57, 97, 98, 99, 100, 101, 102]
def hexb (n : Nat) : UInt8 := HX.getD n 0
def isEsc (c : UInt8) : Bool := decide ((c.toNat : Int) = 92) || decide ((c.toNat : Int) = 34)
def isFar (c : UInt8) : Bool := decide ((c.toNat : Int) < 32) || decide (126 < (c.toNat : Int))
def esc (c : UInt8) : Str := bif isEsc c then [92, c] else bif decide ((c.toNat : Int) = 10) then [92, 110] else bif isFar c then [92, 120, hexb (c.toNat / 16), hexb (c.toNat % 16)] else [c]
def body (t : Str) : Str := t.flatMap esc
def quoteS (t : Str) : Str := 34 :: (body t ++ [34])
theorem u8all {p : UInt8 → Prop} (h : ∀ n : Fin 256, p (UInt8.ofNat n.val)) (c : UInt8) : p c := by
 have := h ⟨c.toNat, c.toNat_lt⟩
 simpa using this
theorem hi4 (c : UInt8) : Int.fdiv (c.toNat : Int) (2 ^ (shI .u8 4)) = ((c.toNat / 16 : Nat) : Int) := by
 revert c
 exact u8all (by decide +kernel)
theorem lo4 (c : UInt8) : bitsI .and .u8 (c.toNat : Int) 15 = ((c.toNat % 16 : Nat) : Int) := by
 revert c
 exact u8all (by decide +kernel)
theorem hi4_lt (c : UInt8) : c.toNat / 16 < 16 := by have := c.toNat_lt; omega
theorem lo4_lt (c : UInt8) : c.toNat % 16 < 16 := by omega
theorem hx_get (n : Nat) (h : n < 16) : (HX[n]'(by simpa [HX] using h)) = hexb n := by
 simp [hexb, HX, List.getD_eq_getElem?_getD, h]
theorem hx_idx {Z : Type} (n : Nat) (h : n < 16) (k : Int → Option Z) : idxS HX (n : Int) k = k ((hexb n).toNat : Int) := by
 rw [idxS_eq (by simpa [HX] using h), hx_get n h]
theorem u8i (c : UInt8) : UInt8.ofNat ((c.toNat : Int)).toNat = c := by simp
theorem esc_len (c : UInt8) : (esc c).length ≤ 4 ∧ 1 ≤ (esc c).length := by
 unfold esc
 cases isEsc c <;> cases decide ((c.toNat : Int) = 10) <;> cases isFar c <;> simp
theorem body_len (t : Str) : (body t).length ≤ 4 * t.length := by
 induction t with
 | nil => simp [body]
 | cons c t ih =>
  have := (esc_len c).1
  simp only [body, List.flatMap_cons, List.length_append, List.length_cons] at *
  omega
theorem body_cons (c : UInt8) (t : Str) : body (c :: t) = esc c ++ body t := by simp [body]
theorem quoteS_len (t : Str) : (quoteS t).length ≤ 4 * t.length + 2 := by
 have := body_len t
 simp only [quoteS, List.length_cons, List.length_append, List.length_nil]; omega
theorem takeHex (n : Nat) (h : n < 16) : List.take ((IntKind.u8.wrap ((n : Int) + 1)).toNat - ((n : Int)).toNat) (List.drop ((n : Int)).toNat HX) = [hexb n] := by
 have : ∀ m : Fin 16, List.take ((IntKind.u8.wrap (((m.val : Nat) : Int) + 1)).toNat - (((m.val : Nat) : Int)).toNat) (List.drop (((m.val : Nat) : Int)).toNat HX) = [hexb m.val] := by decide +kernel
 exact this ⟨n, h⟩
theorem wrapHex (n : Nat) (h : n < 16) : IntKind.u8.wrap ((n : Int) + 1) = ((n + 1 : Nat) : Int) := by
 have : ∀ m : Fin 16, IntKind.u8.wrap (((m.val : Nat) : Int) + 1) = ((m.val + 1 : Nat) : Int) := by decide +kernel
 exact this ⟨n, h⟩
theorem hxl : HX.length = 16 := rfl
theorem R_Quote_eq (s : Str) (hs : s.length ≤ 17179869184) : R_Quote s = some (quoteS s) := by
 unfold R_Quote
 simp only [jp_eq, show ([48, 49, 50, 51, 52, 53, 54, 55, 56, 57, 97, 98, 99, 100, 101, 102] : Str) = HX from rfl]
 refine (forL_run (fun i l (o : Str) => o.length + 4 * l.length ≤ 4 * s.length + 1 ∧ s.drop i = l) (fun i l o => some (o ++ (body l ++ [34]))) (fun i o h => ?_) (fun i c l o nx h hnx => ?_) s 0 _ ?_).trans ?_
 ·simp only [List.length_nil] at h
  rw [chk_true (by simp; omega)]
  rfl
 ·obtain ⟨h, hd⟩ := h
  simp only [List.length_cons] at h
  have hi : i < s.length := by
   rcases Nat.lt_or_ge i s.length with h | h
   ·exact h
   ·rw [List.drop_eq_nil_of_le h] at hd; cases hd
  have hd' : s.drop (i + 1) = l := by
   have := congrArg List.tail hd
   simpa using this
  have ht : List.take ((((i + 1 : Nat) : Int)).toNat - i) (List.drop i s) = [c] := by
   rw [hd, Int.toNat_natCast, Nat.add_sub_cancel_left]; rfl
  simp only [wrap1 i (by omega), ht]
  rw [body_cons]
  unfold esc isEsc
  rw [show (decide ((c.toNat : Int) = 34) || decide ((c.toNat : Int) = 92)) = (decide ((c.toNat : Int) = 92) || decide ((c.toNat : Int) = 34)) from Bool.or_comm _ _]
  cases h1 : decide ((c.toNat : Int) = 92) || decide ((c.toNat : Int) = 34) with
  | true =>
   simp only [cond_true]
   rw [chk_true (by omega), chk_true (by simp), chk_true (by simp; omega), hnx _ ⟨by simp; omega, hd'⟩]
   simp
  | false =>
   simp only [cond_false]
   cases h2 : decide ((c.toNat : Int) = 10) with
   | true =>
    simp only [cond_true]
    rw [chk_true (by simp; omega), hnx _ ⟨by simp; omega, hd'⟩]
    simp
   | false =>
    simp only [cond_false]
    unfold isFar
    cases h3 : decide ((c.toNat : Int) < 32) || decide (126 < (c.toNat : Int)) with
    | true =>
     have a1 := hi4_lt c
     have a2 := lo4_lt c
     simp only [cond_true, hi4, lo4]
     simp only [takeHex _ a1, takeHex _ a2]
     simp only [wrapHex _ a1, wrapHex _ a2, hxl]
     rw [chk_true (by omega), chk_true (by simp), chk_true (by omega), chk_true (by simp), chk_true (by simp; omega), hnx _ ⟨by simp; omega, hd'⟩]
     simp
    | false =>
     simp only [cond_false]
     rw [chk_true (by omega), chk_true (by simp; omega), hnx _ ⟨by simp; omega, hd'⟩]
     simp
 ·exact ⟨by simp; omega, rfl⟩
 ·rfl
theorem disk_Quote_eq (s : Str) (hs : s.length ≤ 17179869184) : disk_Quote s = some (quoteS s) := by
 unfold disk_Quote
 have hw : IntKind.i64.wrap ((s.length : Int) + 2) = ((s.length + 2 : Nat) : Int) := by rw [wrapS (by omega) (by omega)]; rfl
 simp only [hw, jp_eq]
 rw [chk_true (by omega), chk_true (by simp)]
 refine (forL_run (fun i l (o : List Int) => o.length + 4 * l.length ≤ 4 * s.length + 1) (fun i l o => some (Go.Vc.strOf o ++ (body l ++ [34]))) (fun i o h => ?_) (fun i c l o nx h hnx => ?_) s 0 _ ?_).trans ?_
 ·simp only [List.length_nil] at h
  rw [chk_true (by simp; omega), strOf_append]
  rfl
 ·simp only [List.length_cons] at h
  rw [body_cons]
  unfold esc isEsc
  cases h1 : decide ((c.toNat : Int) = 92) || decide ((c.toNat : Int) = 34) with
  | true =>
   simp only [cond_true]
   rw [chk_true (by simp; omega), hnx _ (by simp; omega), strOf_append]
   simp only [strOf_cons, strOf_nil, u8i]
   simp
  | false =>
   simp only [cond_false]
   cases h2 : decide ((c.toNat : Int) = 10) with
   | true =>
    simp only [cond_true]
    rw [chk_true (by simp; omega), hnx _ (by simp; omega), strOf_append]
    simp [strOf_cons, strOf_nil]
   | false =>
    simp only [cond_false]
    unfold isFar
    cases h3 : decide ((c.toNat : Int) < 32) || decide (126 < (c.toNat : Int)) with
    | true =>
     simp only [cond_true, hi4, lo4]
     rw [show ([48, 49, 50, 51, 52, 53, 54, 55, 56, 57, 97, 98, 99, 100, 101, 102] : Str) = HX from rfl, hx_idx _ (hi4_lt c), hx_idx _ (lo4_lt c), chk_true (by simp; omega), hnx _ (by simp; omega), strOf_append]
     simp only [strOf_cons, strOf_nil, u8i]
     simp
    | false =>
     simp only [cond_false]
     rw [chk_true (by simp; omega), hnx _ (by simp; omega), strOf_append]
     simp only [strOf_cons, strOf_nil, u8i]
     simp
 ·simp; omega
 ·simp only [List.replicate, List.nil_append, strOf_cons, strOf_nil]
  rfl
def hexv (c : UInt8) : Int := ixb HX c
theorem hexv_cases (c : UInt8) : hexv c = -1 ∨ ∃ a : Fin 16, hexv c = (a.val : Int) ∧ c = hexb a.val := by
 revert c
 exact u8all (by decide +kernel)
theorem hexv_hexb (n : Nat) (h : n < 16) : hexv (hexb n) = n := by
 have : ∀ m : Fin 16, hexv (hexb m.val) = (m.val : Int) := by decide +kernel
 exact this ⟨n, h⟩
def escR : Str → Int × Int
 | [] => (0, 0)
 | c :: r => bif isEsc c then ((c.toNat : Int), 1) else bif decide ((c.toNat : Int) = 110) then (10, 1) else bif !decide ((c.toNat : Int) = 120) then (0, 0) else match r with
  | h :: l :: _ => bif decide (hexv h < 0) || decide (hexv l < 0) then (0, 0) else bif (decide (32 ≤ 16 * hexv h + hexv l) && decide (16 * hexv h + hexv l ≤ 126)) || decide (16 * hexv h + hexv l = 10) then (0, 0) else (16 * hexv h + hexv l, 3)
  | _ => (0, 0)
theorem escR_bd (r : Str) : 0 ≤ (escR r).2 ∧ (escR r).2 ≤ r.length ∧ (escR r).2 ≤ 3 ∧ 0 ≤ (escR r).1 ∧ (escR r).1 ≤ 255 := by
 cases r with
 | nil => simp [escR]
 | cons c r =>
  have hc := c.toNat_lt
  simp only [escR]
  cases isEsc c
  ·cases decide ((c.toNat : Int) = 110)
   ·cases decide ((c.toNat : Int) = 120)
    ·simp; omega
    ·rcases r with _ | ⟨h, _ | ⟨l, r⟩⟩
     ·simp
     ·simp; try omega
     ·simp only [cond_false, Bool.not_true]
      rcases hexv_cases h with h1 | ⟨a, h1, _⟩
      ·simp [h1]; omega
      rcases hexv_cases l with h2 | ⟨b, h2, _⟩
      ·simp [h2]; omega
      have := a.isLt
      have := b.isLt
      simp only [h1, h2]
      cases decide (((a.val : Nat) : Int) < 0) || decide (((b.val : Nat) : Int) < 0)
      ·simp only [cond_false]
       generalize (decide (32 ≤ 16 * ((a.val : Nat) : Int) + ((b.val : Nat) : Int)) && decide (16 * ((a.val : Nat) : Int) + ((b.val : Nat) : Int) ≤ 126) || decide (16 * ((a.val : Nat) : Int) + ((b.val : Nat) : Int) = 10)) = q
       cases q
       ·simp only [cond_false, List.length_cons]; omega
       ·simp; omega
      ·simp; omega
   ·simp; omega
  ·simp only [cond_true, List.length_cons]; omega
theorem escR_esc {x : UInt8} (h : isEsc x = true) (r : Str) : escR (x :: r) = ((x.toNat : Int), 1) := by simp only [escR, h, cond_true]
theorem escR_bad {x : UInt8} (h : isEsc x = false) (h2 : decide ((x.toNat : Int) = 110) = false) (h3 : decide ((x.toNat : Int) = 120) = false) (r : Str) : escR (x :: r) = (0, 0) := by simp only [escR, h, h2, h3, cond_false, Bool.not_false, cond_true]
theorem escR_hex (h l : UInt8) (r : Str) : escR (120 :: h :: l :: r) = bif decide (hexv h < 0) || decide (hexv l < 0) then (0, 0) else bif (decide (32 ≤ 16 * hexv h + hexv l) && decide (16 * hexv h + hexv l ≤ 126)) || decide (16 * hexv h + hexv l = 10) then (0, 0) else (16 * hexv h + hexv l, 3) := rfl
theorem escR_hexq (m n : Nat) (hm : m < 16) (hn : n < 16) (r : Str) : escR (120 :: hexb m :: hexb n :: r) = bif (decide (32 ≤ 16 * (m : Int) + (n : Int)) && decide (16 * (m : Int) + (n : Int) ≤ 126)) || decide (16 * (m : Int) + (n : Int) = 10) then (0, 0) else (16 * (m : Int) + (n : Int), 3) := by
 rw [escR_hex, hexv_hexb m hm, hexv_hexb n hn, decide_eq_false (by omega), decide_eq_false (by omega)]
 rfl
theorem ibyte_eq (s : Str) (c : UInt8) : strings_IndexByte s (c.toNat : Int) = some (ixb s c) := by
 unfold strings_IndexByte internal_stringslite_IndexByte
 rw [indexByte_u8]; rfl
theorem wrapB (n : Int) (h : 0 ≤ n) (h2 : n ≤ 255) : IntKind.u8.wrap n = n := by
 rw [wrap8 h h2]
theorem disk_escape_eq (s : Str) : disk_escape s = some (escR s) := by
 unfold disk_escape
 cases s with
 | nil => rfl
 | cons c r =>
  simp only [show decide (c :: r = ([] : Str)) = false from rfl, cond_false]
  rw [show idxS (c :: r) 0 = idxS (c :: r) ((0 : Nat) : Int) from rfl, idxS_eq (by simp)]
  simp only [List.getElem_cons_zero]
  simp only [escR]
  rw [show (decide ((c.toNat : Int) = 92) || decide ((c.toNat : Int) = 34)) = isEsc c from rfl]
  cases isEsc c
  ·simp only [cond_false]
   cases decide ((c.toNat : Int) = 110)
   ·simp only [cond_false]
    cases decide ((c.toNat : Int) = 120)
    ·rfl
    ·simp only [Bool.not_true, Bool.false_or, cond_false]
     rcases r with _ | ⟨h, _ | ⟨l, r⟩⟩
     ·rfl
     ·rfl
     ·rw [decide_eq_false (by simp only [List.length_cons]; omega), cond_false, show idxS (c :: h :: l :: r) 1 = idxS (c :: h :: l :: r) ((1 : Nat) : Int) from rfl, idxS_eq (by simp)]
      simp only [List.getElem_cons_succ, List.getElem_cons_zero, show ([48, 49, 50, 51, 52, 53, 54, 55, 56, 57, 97, 98, 99, 100, 101, 102] : Str) = HX from rfl, ibyte_eq, call_some]
      rw [show idxS (c :: h :: l :: r) 2 = idxS (c :: h :: l :: r) ((2 : Nat) : Int) from rfl, idxS_eq (by simp)]
      simp only [List.getElem_cons_succ, List.getElem_cons_zero, ibyte_eq, call_some]
      rw [show ixb HX h = hexv h from rfl, show ixb HX l = hexv l from rfl]
      rcases hexv_cases h with h1 | ⟨a, h1, _⟩
      ·rw [h1]; rfl
      rcases hexv_cases l with h2 | ⟨b, h2, _⟩
      ·rw [h2]; simp
      have ha := a.isLt
      have hb := b.isLt
      rw [h1, h2, decide_eq_false (by omega), decide_eq_false (by omega)]
      simp only [Bool.or_false, cond_false]
      rw [wrapS (n := 16 * ((a.val : Nat) : Int)) (by omega) (by omega), wrapS (n := 16 * ((a.val : Nat) : Int) + ((b.val : Nat) : Int)) (by omega) (by omega), wrapB _ (by omega) (by omega)]
      generalize (decide (32 ≤ 16 * ((a.val : Nat) : Int) + ((b.val : Nat) : Int)) && decide (16 * ((a.val : Nat) : Int) + ((b.val : Nat) : Int) ≤ 126) || decide (16 * ((a.val : Nat) : Int) + ((b.val : Nat) : Int) = 10)) = q
      cases q <;> rfl
   ·rfl
  ·rfl
def sym : Str → Option (UInt8 × Str)
 | [] => none
 | c :: r => bif isFar c || decide ((c.toNat : Int) = 34) then none else bif decide ((c.toNat : Int) = 92) then (bif decide ((escR r).2 = 0) then none else some (UInt8.ofNat (escR r).1.toNat, r.drop (escR r).2.toNat)) else some (c, r)
theorem far_hex (x : UInt8) (h1 : isEsc x = false) (h2 : decide ((x.toNat : Int) = 10) = false) (h3 : isFar x = true) (r : Str) : escR (120 :: hexb (x.toNat / 16) :: hexb (x.toNat % 16) :: r) = ((x.toNat : Int), 3) := by
 have a1 := hi4_lt x
 have a2 := lo4_lt x
 simp only [escR]
 rw [show isEsc 120 = false from rfl, show decide ((((120 : UInt8).toNat : Nat) : Int) = 110) = false from rfl, show decide ((((120 : UInt8).toNat : Nat) : Int) = 120) = true from rfl]
 simp only [cond_false, Bool.not_true, hexv_hexb _ a1, hexv_hexb _ a2]
 have e : 16 * ((x.toNat / 16 : Nat) : Int) + ((x.toNat % 16 : Nat) : Int) = (x.toNat : Int) := by omega
 rw [e, decide_eq_false (by omega), decide_eq_false (by omega)]
 simp only [Bool.or_self, cond_false, h2, Bool.or_false]
 have : (decide (32 ≤ (x.toNat : Int)) && decide ((x.toNat : Int) ≤ 126)) = false := by
  unfold isFar at h3
  simp only [Bool.or_eq_true, decide_eq_true_eq] at h3
  simp only [Bool.and_eq_false_iff, decide_eq_false_iff_not]
  omega
 rw [this]; rfl
theorem sym_esc (x : UInt8) (r : Str) : sym (esc x ++ r) = some (x, r) := by
 unfold esc
 cases h1 : isEsc x
 ·cases h2 : decide ((x.toNat : Int) = 10)
  ·cases h3 : isFar x
   ·simp only [cond_false, List.cons_append, List.nil_append]
    simp only [sym]
    unfold isEsc at h1
    simp only [Bool.or_eq_false_iff] at h1
    rw [h3, h1.1, h1.2]; rfl
   ·simp only [cond_false, cond_true, List.cons_append, List.nil_append]
    simp only [sym]
    rw [far_hex x h1 h2 h3]
    simp
    rfl
  ·simp only [cond_false, cond_true, List.cons_append, List.nil_append]
   have : x = 10 := by
    have h := of_decide_eq_true h2
    have : x.toNat = 10 := by omega
    exact UInt8.toNat_inj.1 this
   subst this
   rfl
 ·simp only [cond_true, List.cons_append, List.nil_append]
  simp only [sym, escR_esc h1]
  simp
  rfl
theorem sym_spec {r r2 : Str} {x : UInt8} (h : sym r = some (x, r2)) : r = esc x ++ r2 := by
 cases r with
 | nil => cases h
 | cons c r =>
  simp only [sym] at h
  cases hf : isFar c || decide ((c.toNat : Int) = 34)
  ·rw [hf, cond_false] at h
   simp only [Bool.or_eq_false_iff] at hf
   cases hb : decide ((c.toNat : Int) = 92)
   ·rw [hb, cond_false] at h
    cases h
    unfold esc isEsc
    rw [hb, hf.2]
    have : decide ((x.toNat : Int) = 10) = false := by
     have := hf.1
     unfold isFar at this
     simp only [Bool.or_eq_false_iff, decide_eq_false_iff_not] at this
     simp only [decide_eq_false_iff_not]
     omega
    rw [this, hf.1]; rfl
   ·rw [hb, cond_true] at h
    have hc : c = 92 := by
     have h := of_decide_eq_true hb
     have : c.toNat = 92 := by omega
     exact UInt8.toNat_inj.1 this
    subst hc
    cases r with
    | nil => simp [escR] at h
    | cons d r =>
     cases he : isEsc d
     ·cases hn : decide ((d.toNat : Int) = 110)
      ·cases hx : decide ((d.toNat : Int) = 120)
       ·rw [escR_bad he hn hx] at h; simp at h
       ·have hd : d = 120 := by
         have h := of_decide_eq_true hx
         have : d.toNat = 120 := by omega
         exact UInt8.toNat_inj.1 this
        subst hd
        rcases r with _ | ⟨a, _ | ⟨b, r⟩⟩
        ·rw [show escR [120] = (0, 0) from rfl] at h; simp at h
        ·rw [show escR [120, a] = (0, 0) from rfl] at h; simp at h
        ·rcases hexv_cases a with h1 | ⟨m, h1, rfl⟩
         ·rw [escR_hex, h1] at h; simp at h
         rcases hexv_cases b with h2 | ⟨n, h2, rfl⟩
         ·rw [escR_hex, h2] at h; simp at h
         have hm := m.isLt
         have hn' := n.isLt
         have hE := escR_hexq m.val n.val hm hn' r
         cases hq : (decide (32 ≤ 16 * ((m.val : Nat) : Int) + ((n.val : Nat) : Int)) && decide (16 * ((m.val : Nat) : Int) + ((n.val : Nat) : Int) ≤ 126)) || decide (16 * ((m.val : Nat) : Int) + ((n.val : Nat) : Int) = 10)
         ·rw [hq, cond_false] at hE
          rw [hE] at h
          rw [show decide ((3 : Int) = 0) = false from rfl, cond_false] at h
          have h' := Option.some.inj h
          have hx' : UInt8.ofNat (16 * ((m.val : Nat) : Int) + ((n.val : Nat) : Int)).toNat = x := congrArg Prod.fst h'
          have hr' : List.drop (3 : Int).toNat (120 :: hexb m.val :: hexb n.val :: r) = r2 := congrArg Prod.snd h'
          have hr2 : r = r2 := hr'
          have hxn : x.toNat = 16 * m.val + n.val := by
           rw [← hx', UInt8.toNat_ofNat']
           omega
          simp only [Bool.or_eq_false_iff, Bool.and_eq_false_iff, decide_eq_false_iff_not] at hq
          unfold esc
          have e1 : isEsc x = false := by
           unfold isEsc
           simp only [Bool.or_eq_false_iff, decide_eq_false_iff_not]
           omega
          have e2 : decide ((x.toNat : Int) = 10) = false := by simp only [decide_eq_false_iff_not]; omega
          have e3 : isFar x = true := by
           unfold isFar
           simp only [Bool.or_eq_true, decide_eq_true_eq]
           omega
          rw [e1, e2, e3, hxn, show (16 * m.val + n.val) / 16 = m.val by omega, show (16 * m.val + n.val) % 16 = n.val by omega, ← hr2]
          rfl
         ·rw [hq, cond_true] at hE
          rw [hE] at h; simp at h
      ·have hd : d = 110 := by
        have h := of_decide_eq_true hn
        have : d.toNat = 110 := by omega
        exact UInt8.toNat_inj.1 this
       subst hd
       have h' : some ((10 : UInt8), r) = some (x, r2) := h
       cases h'
       rfl
     ·rw [escR_esc he] at h
      simp only [] at h
      rw [show decide ((1 : Int) = 0) = false from rfl, cond_false, u8i] at h
      cases h
      unfold esc
      rw [he]; rfl
  ·rw [hf, cond_true] at h; cases h
def undo : Nat → Str → Option Str
 | n, [] => some []
 | 0, _ :: _ => none
 | n + 1, c :: r => (sym (c :: r)).bind fun p => (undo n p.2).map (p.1 :: ·)
theorem undo_nil (n : Nat) : undo n [] = some [] := by cases n <;> rfl
theorem undo_zero (c : UInt8) (r : Str) : undo 0 (c :: r) = none := rfl
theorem undo_cons (n : Nat) (c : UInt8) (r : Str) : undo (n + 1) (c :: r) = (sym (c :: r)).bind fun p => (undo n p.2).map (p.1 :: ·) := rfl
theorem esc_ne (x : UInt8) : esc x ≠ [] := by
 have := (esc_len x).2
 intro h; rw [h] at this; simp at this
theorem undo_body : ∀ (t : Str) (n : Nat), t.length ≤ n → undo n (body t) = some t
 | [], n, _ => undo_nil n
 | x :: t, 0, h => by simp at h
 | x :: t, n + 1, h => by
  rw [body_cons]
  have hs := sym_esc x (body t)
  have hne : esc x ++ body t ≠ [] := fun h => esc_ne x (List.append_eq_nil_iff.1 h).1
  obtain ⟨c, r, hb⟩ := List.exists_cons_of_ne_nil hne
  rw [hb] at hs ⊢
  rw [undo_cons, hs, Option.bind_some, undo_body t n (by simpa using h)]; rfl
theorem undo_sound : ∀ (n : Nat) (r t : Str), undo n r = some t → body t = r
 | n, [], t, h => by
  rw [undo_nil] at h
  obtain rfl := Option.some.inj h
  rfl
 | 0, c :: r, t, h => by rw [undo_zero] at h; cases h
 | n + 1, c :: r, t, h => by
  rw [undo_cons] at h
  obtain ⟨p, hs, h⟩ := Option.bind_eq_some_iff.1 h
  obtain ⟨t2, hu, h⟩ := Option.map_eq_some_iff.1 h
  rw [← h, body_cons, undo_sound n p.2 t2 hu]
  exact (sym_spec (x := p.1) (r2 := p.2) hs).symm
theorem sym_len {r r2 : Str} {x : UInt8} (h : sym r = some (x, r2)) : r2.length < r.length := by
 have := sym_spec h
 have hl := (esc_len x).2
 rw [this, List.length_append]; omega
theorem bind_ext {α β : Type} {o : Option α} {f g : α → Option β} (h : ∀ p, o = some p → f p = g p) : o.bind f = o.bind g := by
 cases o with
 | none => rfl
 | some p => exact h p rfl
theorem undo_stable : ∀ (n : Nat) (r : Str), r.length ≤ n → undo n r = undo r.length r
 | n, [], _ => by rw [undo_nil, undo_nil]
 | 0, c :: r, h => by simp at h
 | n + 1, c :: r, h => by
  rw [List.length_cons, undo_cons, undo_cons]
  refine bind_ext fun p hs => ?_
  have hl := sym_len (x := p.1) (r2 := p.2) hs
  rw [List.length_cons] at hl h
  rw [undo_stable n p.2 (by omega), undo_stable r.length p.2 (by omega)]
def undoF (r : Str) : Option Str := undo r.length r
theorem undoF_step {c : UInt8} {r : Str} : undoF (c :: r) = (sym (c :: r)).bind fun p => (undoF p.2).map (p.1 :: ·) := by
 unfold undoF
 rw [List.length_cons, undo_cons]
 refine bind_ext fun p hs => ?_
 have hl := sym_len (x := p.1) (r2 := p.2) hs
 rw [List.length_cons] at hl
 rw [undo_stable r.length p.2 (by omega)]
theorem body_ge (t : Str) : t.length ≤ (body t).length := by
 induction t with
 | nil => simp
 | cons c t ih =>
  have := (esc_len c).2
  rw [body_cons, List.length_append, List.length_cons]
  omega
theorem undoF_body (t : Str) : undoF (body t) = some t := undo_body t _ (body_ge t)
theorem undoF_sound {r t : Str} (h : undoF r = some t) : body t = r := undo_sound _ _ _ h
def fin (o : Option Str) : Str × Int := match o with
 | some t => (t, 0)
 | none => ([], 8)
def mid (s : Str) : Str := (s.drop 1).take (s.length - 2)
def quoted (s : Str) : Bool := !((decide ((s.length : Int) < 2) || !decide (((s.getD 0 0).toNat : Int) = 34)) || !decide (((s.getD (s.length - 1) 0).toNat : Int) = 34))
def unqS (s : Str) : Str × Int := bif quoted s then fin (undoF (mid s)) else ([], 8)
theorem idx_last (s : Str) (h : 2 ≤ s.length) (h2 : s.length ≤ 17179869184) : IntKind.i64.wrap ((s.length : Int) - 1) = ((s.length - 1 : Nat) : Int) := wrapm1 _ (by omega) (by omega)
theorem disk_Unquote_eq (s : Str) (hs : s.length ≤ 17179869184) : disk_Unquote s = some (unqS s) := by
 unfold disk_Unquote unqS quoted
 obtain ⟨N, hN⟩ : ∃ N, Fuel = N := ⟨_, rfl⟩
 have hN2 : 1099511627776 ≤ N := hN ▸ fuel_ge
 rw [hN]
 clear hN
 by_cases h2 : 2 ≤ s.length
 rotate_left
 ·rw [show decide ((s.length : Int) < 2) = true by simp; omega]
  simp only [Bool.not_true, Bool.true_or]
  rw [chk_true (by intro h; cases h), chk_true (by intro h; cases h)]
  rfl
 rw [show decide ((s.length : Int) < 2) = false by simp; omega]
 rw [idx_last s h2 hs]
 simp only [Bool.false_or, Int.toNat_natCast]
 rw [chk_true (by intro _; omega), chk_true (by intro _; omega)]
 generalize (!decide (((s.getD 0 0).toNat : Int) = 34) || !decide (((s.getD (s.length - 1) 0).toNat : Int) = 34)) = q
 cases q
 rotate_left
 ·rfl
 have hm : List.take (s.length - 1 - 1) (List.drop 1 s) = mid s := by unfold mid; congr 1
 simp only [cond_false, Bool.not_false, cond_true, hm, jp_eq]
 have hml : (mid s).length = s.length - 2 := by simp [mid]; omega
 rw [chk_true (by omega), chk_true (by omega)]
 refine (loopN_run (S := Int × List Int) (fun st => ∃ i : Nat, st.1 = i ∧ i ≤ (mid s).length ∧ st.2.length ≤ i) (fun st => (mid s).length - st.1.toNat) (fun st => some (fin ((undoF ((mid s).drop st.1.toNat)).map (Go.Vc.strOf st.2 ++ ·)))) ?_ N _ ⟨0, rfl, by omega, by simp⟩ (by simp only; omega)).trans ?_
 ·rintro ⟨i', o⟩ nx ⟨i, rfl, hi, ho⟩ hnx
  simp only at ho hnx ⊢
  by_cases hlt : i < (mid s).length
  ·rw [decide_eq_true (by omega), cond_true, idxS_eq hlt]
   simp only [Int.toNat_natCast]
   rw [List.drop_eq_getElem_cons hlt, undoF_step]
   generalize hcc : (mid s)[i] = c
   rw [show ((decide ((c.toNat : Int) < 32) || decide (126 < (c.toNat : Int))) || decide ((c.toNat : Int) = 34)) = (isFar c || decide ((c.toNat : Int) = 34)) from rfl]
   simp only [sym]
   cases hf : isFar c || decide ((c.toNat : Int) = 34)
   ·simp only [cond_false]
    cases hb : decide ((c.toNat : Int) = 92)
    ·simp only [cond_false]
     rw [wrap1 i (by omega), chk_true (by simp; omega), hnx _ ⟨i + 1, rfl, by omega, by simp; omega⟩ (by simp only [Int.toNat_natCast]; omega)]
     simp only [Int.toNat_natCast]
     rw [Option.bind_some]
     cases undoF ((mid s).drop (i + 1)) with
     | none => rfl
     | some t => simp only [Option.map_some, strOf_append, strOf_cons, strOf_nil, u8i]; simp [fin]
    ·simp only [cond_true]
     rw [wrap1 i (by omega), chk_true (by omega)]
     simp only [Int.toNat_natCast, disk_escape_eq, call_some]
     have hbd := escR_bd ((mid s).drop (i + 1))
     rw [List.length_drop] at hbd
     generalize hE : escR ((mid s).drop (i + 1)) = E at hbd
     obtain ⟨x, n⟩ := E
     simp only at hbd ⊢
     cases hz : decide (n = 0)
     ·simp only [cond_false]
      have hn0 : n ≠ 0 := of_decide_eq_false hz
      rw [chk_true (by simp; omega), wrapS (n := (i : Int) + n) (by omega) (by omega), wrapS (n := (i : Int) + n + 1) (by omega) (by omega)]
      have e : (i : Int) + n + 1 = ((i + n.toNat + 1 : Nat) : Int) := by omega
      rw [e, hnx _ ⟨i + n.toNat + 1, rfl, by omega, by simp; omega⟩ (by simp only [Int.toNat_natCast]; omega)]
      simp only [Int.toNat_natCast, List.drop_drop]
      rw [show i + 1 + n.toNat = i + n.toNat + 1 by omega]
      rw [Option.bind_some]
      simp only
      cases undoF ((mid s).drop (i + n.toNat + 1)) with
      | none => rfl
      | some t => simp only [Option.map_some, strOf_append, strOf_cons, strOf_nil]; simp [fin]
     ·rfl
   ·rfl
  ·obtain rfl : i = (mid s).length := by omega
   rw [decide_eq_false (by omega), cond_false, Int.toNat_natCast, List.drop_length]
   show _ = some (Go.Vc.strOf o ++ [], (0 : Int))
   rw [List.append_nil]
 ·simp only [Int.toNat_zero, List.drop_zero, List.replicate]
  cases undoF (mid s) with
  | none => rfl
  | some t => rfl
theorem quoted_spec (s : Str) (h : quoted s = true) : s = 34 :: (mid s ++ [34]) := by
 unfold quoted at h
 simp only [Bool.not_eq_true', Bool.or_eq_false_iff, decide_eq_false_iff_not, Bool.not_eq_false', decide_eq_true_eq] at h
 obtain ⟨⟨h1, h2⟩, h3⟩ := h
 rcases s with _ | ⟨c, r⟩
 ·simp at h1
 have hr : r ≠ [] := by rintro rfl; simp at h1
 have hc : c = 34 := by
  have : c.toNat = 34 := by rw [List.getD_cons_zero] at h2; omega
  exact UInt8.toNat_inj.1 this
 have hrl : 0 < r.length := List.length_pos_iff.2 hr
 have hl : r.getLast hr = 34 := by
  rw [show (c :: r).length - 1 = (r.length - 1) + 1 by simp; omega, List.getD_cons_succ, List.getD_eq_getElem?_getD, List.getElem?_eq_getElem (by omega), Option.getD_some] at h3
  rw [List.getLast_eq_getElem]
  have : (r[r.length - 1]'(by omega)).toNat = 34 := by omega
  exact UInt8.toNat_inj.1 this
 have hm : mid (c :: r) = r.dropLast := by
  unfold mid
  rw [List.dropLast_eq_take]
  simp
 rw [hm, hc]
 congr 1
 rw [← hl]
 exact (List.dropLast_concat_getLast hr).symm
theorem wrapU (n : Nat) (h : n < 18446744073709551616) : IntKind.u64.wrap (n : Int) = n := by
 unfold IntKind.wrap
 simp only [IntKind.bits, IntKind.signed, Bool.false_and, Bool.false_eq_true, if_false]
 omega
theorem wrapU_range (n : Int) : ∃ m : Nat, IntKind.u64.wrap n = m ∧ m < 18446744073709551616 := by
 refine ⟨(n % 18446744073709551616).toNat, ?_, by omega⟩
 unfold IntKind.wrap
 simp only [IntKind.bits, IntKind.signed, Bool.false_and, Bool.false_eq_true, if_false]
 omega
theorem shr_eq (n c : Nat) (k : IntKind) (hc : c ≤ k.bits) : Int.fdiv (n : Int) (2 ^ (shI k (c : Int))) = ((n / 2 ^ c : Nat) : Int) := by
 have : shI k (c : Int) = c := by unfold shI; simp; omega
 rw [this, Int.fdiv_eq_ediv_of_nonneg _ (Int.le_of_lt (Int.pow_pos (by decide)))]
 rw [Int.natCast_ediv, Int.natCast_pow]; rfl
theorem and_mask (n c m : Nat) (h : n < 18446744073709551616) (hm : m = 2 ^ c - 1) (hc : c < 64) : bitsI .and .u64 (n : Int) (m : Int) = ((n % 2 ^ c : Nat) : Int) := by
 subst hm
 have h1 : 2 ^ c ≤ 2 ^ 63 := Nat.pow_le_pow_right (by decide) (by omega)
 show IntKind.u64.wrap (((BitVec.ofInt 64 (n : Int) &&& BitVec.ofInt 64 ((2 ^ c - 1 : Nat) : Int)).toNat : Nat) : Int) = _
 rw [BitVec.toNat_and, BitVec.toNat_ofInt, BitVec.toNat_ofInt]
 have e1 : ((n : Int) % ((2 ^ 64 : Nat) : Int)).toNat = n := by omega
 have e2 : (((2 ^ c - 1 : Nat) : Int) % ((2 ^ 64 : Nat) : Int)).toNat = 2 ^ c - 1 := by omega
 rw [e1, e2, Nat.and_two_pow_sub_one_eq_mod]
 exact wrapU _ (Nat.lt_of_le_of_lt (Nat.mod_le _ _) h)
theorem forL_fold {Z S α : Type} (g : S → α → S) (k : S → Option Z) : ∀ (l : List α) (i : Nat) (s : S), forL l i (fun _ c s nx _ => nx (g s c)) s k = k (l.foldl g s)
 | [], _, _ => rfl
 | x :: l, i, s => by
  unfold forL
  exact forL_fold g k l (i + 1) (g s x)
theorem set_map_range {α : Type} (n i : Nat) (f : Nat → α) (v : α) : ((List.range n).map f).set i v = (List.range n).map (fun j => if j = i then v else f j) := by
 apply List.ext_getElem
 ·simp
 ·intro j h1 h2
  simp only [List.getElem_set, List.getElem_map, List.getElem_range]
  by_cases h : i = j
  ·subst h; simp
  ·rw [if_neg h, if_neg (Ne.symm h)]
theorem strOf_map {α : Type} (l : List α) (f : α → UInt8) : Go.Vc.strOf (l.map fun x => ((f x).toNat : Int)) = l.map f := by
 unfold Go.Vc.strOf
 simp
def HXs : Str := [48, 49, 50, 51, 52, 53, 54, 55, 56, 57, 97, 98, 99, 100, 101, 102]
def D36 : Str := [48, 49, 50, 51, 52, 53, 54, 55, 56, 57, 97, 98, 99, 100, 101, 102, 103, 104, 105, 106, 107, 108, 109, 110, 111, 112, 113, 114, 115, 116, 117, 118, 119, 120, 121, 122]
def dg (n : Nat) : UInt8 := HXs.getD n 0
def hx : Nat → Nat → Str
 | 0, _ => []
 | k + 1, n => hx k (n / 16) ++ [dg (n % 16)]
def hashI (h : Int) (c : UInt8) : Int := IntKind.u64.wrap ((bitsI .xor .u64 h (IntKind.u64.wrap (c.toNat : Int))) * 1099511628211)
def hashZ (s : Str) : Int := s.foldl hashI 14695981039346656037
def sumS (s : Str) : Str := hx 16 (hashZ s).toNat
theorem hashZ_nat (s : Str) : ∃ n : Nat, hashZ s = n ∧ n < 18446744073709551616 := by
 have : ∀ (s : Str) (h : Int), (∃ n : Nat, h = n ∧ n < 18446744073709551616) → ∃ n : Nat, s.foldl hashI h = n ∧ n < 18446744073709551616 := by
  intro s
  induction s with
  | nil => exact fun h hh => hh
  | cons c s ih => exact fun h _ => ih _ (wrapU_range _)
 exact this s _ ⟨14695981039346656037, rfl, by decide⟩
theorem hx_length : ∀ (k n : Nat), (hx k n).length = k
 | 0, _ => rfl
 | k + 1, n => by simp [hx, hx_length k]
theorem sumS_length (s : Str) : (sumS s).length = 16 := hx_length _ _
theorem dg_d36 : ∀ m : Fin 16, D36.getD m.val 0 = dg m.val := by decide
theorem idx_hx {Z : Type} (m : Nat) (h : m < 16) (k : Int → Option Z) : idxS HXs (m : Int) k = k ((dg m).toNat : Int) := by
 rw [idxS_eq (by simpa [HXs] using h)]
 simp only [dg, List.getD_eq_getElem?_getD, List.getElem?_eq_getElem (show m < HXs.length by simpa [HXs] using h), Option.getD_some]
theorem idx_d36 {Z : Type} (m : Nat) (h : m < 16) (k : Int → Option Z) : idxS D36 (m : Int) k = k ((dg m).toNat : Int) := by
 have hl : m < D36.length := by simp [D36]; omega
 rw [idxS_eq hl, ← dg_d36 ⟨m, h⟩]
 simp only [List.getD_eq_getElem?_getD, List.getElem?_eq_getElem hl, Option.getD_some]
theorem hx16 (n : Nat) : (List.range 16).map (fun j => dg (n / 2 ^ (60 - 4 * j) % 16)) = hx 16 n := by
 simp only [hx, List.range, List.range.loop, List.map_cons, List.map_nil, Nat.div_div_eq_div_mul, List.nil_append, List.cons_append]
 simp
theorem disk_SumOf_eq (s : Str) : disk_SumOf s = some (sumS s) := by
 obtain ⟨n, hn, hlt⟩ := hashZ_nat s
 unfold disk_SumOf
 obtain ⟨N, hN⟩ : ∃ N, Fuel = N := ⟨_, rfl⟩
 have hF : 1099511627776 ≤ N := hN ▸ fuel_ge
 rw [hN]
 show forL s 0 (fun _ c h nx _ => nx (hashI h c)) 14695981039346656037 _ = _
 rw [forL_fold]
 show jp _ (fun k_27 => loopN N _ _ _) = _
 rw [show s.foldl hashI 14695981039346656037 = (n : Int) from hn]
 unfold jp
 let arr := fun i : Nat => (List.range 16).map fun j => if j < i then ((dg (n / 2 ^ (60 - 4 * j) % 16)).toNat : Int) else 0
 refine (loopN_run (fun s => ∃ i : Nat, s.1 = (i : Int) ∧ i ≤ 16 ∧ s.2 = arr i) (fun s => 16 - s.1.toNat) (fun _ => some (sumS s)) ?_ N _ ⟨0, rfl, by omega, ?_⟩ (by show 16 - Int.toNat 0 < N; simp; omega)).trans rfl
 ·rintro ⟨t, o⟩ nx ⟨i, h1, hi, h2⟩ hnx
  obtain rfl : t = i := h1
  obtain rfl : o = arr i := h2
  simp only [List.length_replicate]
  by_cases h : i < 16
  ·rw [bif_t (decide_eq_true (by omega))]
   have e1 : IntKind.i64.wrap (60 - IntKind.i64.wrap (4 * (i : Int))) = ((60 - 4 * i : Nat) : Int) := by
    rw [wrapS (n := 4 * (i : Int)) (by omega) (by omega), wrapS (by omega) (by omega)]; omega
   rw [e1, chk_true (by omega), shr_eq _ _ _ (by simp only [IntKind.bits]; omega)]
   rw [show (15 : Int) = ((15 : Nat) : Int) from rfl, and_mask _ 4 15 (Nat.lt_of_le_of_lt (Nat.div_le_self _ _) hlt) (by decide) (by decide)]
   show idxS HXs _ _ = _
   rw [idx_hx _ (Nat.mod_lt _ (by decide)), chk_true (by simp [arr]; omega), wrap1 i (by omega)]
   refine hnx _ ⟨i + 1, rfl, by omega, ?_⟩ ?_
   ·show List.set (arr i) (Int.toNat (i : Int)) _ = _
    rw [Int.toNat_natCast]
    show ((List.range 16).map _).set i _ = (List.range 16).map _
    rw [set_map_range]
    apply List.map_congr_left
    intro j _
    by_cases hj : j = i
    ·subst hj; rw [if_pos rfl, if_pos (by omega)]
    ·rw [if_neg hj]
     by_cases hj' : j < i
     ·rw [if_pos hj', if_pos (by omega)]
     ·rw [if_neg hj', if_neg (by omega)]
   ·show 16 - Int.toNat ((i + 1 : Nat) : Int) < 16 - Int.toNat (i : Int)
    rw [Int.toNat_natCast, Int.toNat_natCast]; omega
  ·rw [bif_f (decide_eq_false (by omega))]
   obtain rfl : i = 16 := by omega
   show some (Go.Vc.strOf (arr 16)) = _
   have : arr 16 = (List.range 16).map fun j => ((dg (n / 2 ^ (60 - 4 * j) % 16)).toNat : Int) := by
    apply List.map_congr_left
    intro j hj
    rw [if_pos (List.mem_range.1 hj)]
   rw [this, strOf_map, hx16]
   unfold sumS
   rw [hn]; rfl
 ·show List.replicate 16 (0 : Int) = _
  apply List.ext_getElem
  ·simp [arr]
  ·intro j h1 h2
   rw [List.getElem_replicate]
   simp only [arr, List.getElem_map, List.getElem_range]
   rfl
def fm : Nat → Nat → Str
 | 0, n => [dg n]
 | k + 1, n => if n < 16 then [dg n] else fm k (n / 16) ++ [dg (n % 16)]
theorem hx_zero : ∀ k : Nat, hx k 0 = List.replicate k 48
 | 0 => rfl
 | k + 1 => by
  show hx k (0 / 16) ++ [dg (0 % 16)] = _
  rw [Nat.zero_div, hx_zero k, List.replicate_succ']; rfl
theorem fm_len : ∀ k n : Nat, 1 ≤ (fm k n).length ∧ (fm k n).length ≤ k + 1
 | 0, n => by simp [fm]
 | k + 1, n => by
  have := fm_len k (n / 16)
  simp only [fm]
  split <;> simp <;> omega
theorem fm_pad : ∀ k n : Nat, n < 16 ^ (k + 1) → List.replicate (k + 1 - (fm k n).length) 48 ++ fm k n = hx (k + 1) n
 | 0, n, h => by
  have : n % 16 = n := Nat.mod_eq_of_lt (by simpa using h)
  simp [fm, hx, this]
 | k + 1, n, h => by
  have hl := fm_len k (n / 16)
  simp only [fm]
  split
  ·rename_i h16
   have e1 : n / 16 = 0 := Nat.div_eq_of_lt h16
   have e2 : n % 16 = n := Nat.mod_eq_of_lt h16
   show _ = hx (k + 1) (n / 16) ++ [dg (n % 16)]
   rw [e1, e2, hx_zero]; rfl
  ·have ih := fm_pad k (n / 16) (by rw [Nat.pow_succ] at h; omega)
   show _ = hx (k + 1) (n / 16) ++ [dg (n % 16)]
   rw [← ih, List.length_append, List.append_assoc]
   congr 2
   simp
theorem tz16 : math_bits_TrailingZeros (IntKind.u64.wrap 16) = some 4 := by decide +kernel
theorem pow16 : internal_strconv_isPowerOfTwo 16 = some true := by decide +kernel
theorem set_drop (l : List Int) (i : Nat) (v : Int) (h : i < l.length) : (l.set i v).drop i = v :: l.drop (i + 1) := by
 rw [List.drop_set]
 simp only [Nat.lt_irrefl, if_false, Nat.sub_self]
 rw [List.drop_eq_getElem_cons h]
 rfl
theorem strOf_cons' (v : UInt8) (l : List Int) : Go.Vc.strOf ((v.toNat : Int) :: l) = v :: Go.Vc.strOf l := by simp [Go.Vc.strOf]
theorem formatBits16 (n : Nat) (h : n < 18446744073709551616) : internal_strconv_formatBits [] (n : Int) 16 false false = some ([], fm 15 n) := by
 unfold internal_strconv_formatBits
 obtain ⟨N, hN⟩ : ∃ N, Fuel = N := ⟨_, rfl⟩
 have hF : 1099511627776 ≤ N := hN ▸ fuel_ge
 rw [hN]
 simp only [pow16, tz16, call_some, jp, cond_true, cond_false, show decide ((16 : Int) < 2) = false from rfl, show decide ((16 : Int) = 10) = false from rfl, show decide ((36 : Int) < 16) = false from rfl, Bool.or_self]
 have hw : IntKind.u64.wrap 16 = 16 := by decide
 have hw4 : IntKind.u64.wrap 4 = ((4 : Nat) : Int) := by decide
 have hw15 : IntKind.u64.wrap (16 - 1) = ((15 : Nat) : Int) := by decide
 rw [hw, hw4, hw15]
 refine (loopN_run (fun s => ∃ m j : Nat, s.1 = (m : Int) ∧ s.2.1 = (j : Int) ∧ j ≤ 65 ∧ 50 ≤ j ∧ m < 16 ^ (j - 49) ∧ s.2.2.length = 65 ∧ fm 15 n = fm (j - 50) m ++ Go.Vc.strOf (s.2.2.drop j)) (fun s => s.2.1.toNat) (fun _ => some ([], fm 15 n)) ?_ N _ ⟨n, 65, rfl, rfl, by omega, by omega, by omega, by simp, by simp [Go.Vc.strOf]⟩ (by show Int.toNat 65 < N; simp; omega))
 rintro ⟨u, i, o⟩ nx ⟨m, j, h1, h2, hj, hj', hm, hl, hf⟩ hnx
 obtain rfl : u = m := h1
 obtain rfl : i = j := h2
 simp only
 simp only at hl hf
 have hmlt : m < 18446744073709551616 := Nat.lt_of_lt_of_le hm (Nat.le_trans (Nat.pow_le_pow_right (by decide) (show j - 49 ≤ 16 by omega)) (by decide))
 have e1 : IntKind.i64.wrap ((j : Int) - 1) = ((j - 1 : Nat) : Int) := wrapm1 j (by omega) (by omega)
 rw [e1]
 by_cases hc : 16 ≤ m
 ·rw [bif_t (decide_eq_true (by omega)), and_mask m 4 15 hmlt (by decide) (by decide)]
  show idxS D36 _ _ = _
  rw [idx_d36 _ (Nat.mod_lt _ (by decide)), chk_true (by omega), chk_true (by omega), shr_eq m 4 .u64 (by decide)]
  have h50 : 50 < j := by
   rcases Nat.lt_or_ge 50 j with h' | h'
   ·exact h'
   ·exfalso
    obtain rfl : j = 50 := by omega
    simp at hm; omega
  refine hnx _ ⟨m / 16, j - 1, rfl, rfl, by omega, by omega, ?_, by simpa using hl, ?_⟩ (by show Int.toNat _ < Int.toNat _; rw [Int.toNat_natCast, Int.toNat_natCast]; omega)
  ·have : 16 ^ (j - 49) = 16 ^ (j - 1 - 49) * 16 := by rw [← Nat.pow_succ]; congr 1; omega
   rw [this] at hm
   omega
  ·rw [hf, Int.toNat_natCast]
   rw [show j - 50 = (j - 1 - 50) + 1 by omega]
   simp only [fm]
   rw [if_neg (by omega), set_drop _ _ _ (by omega), strOf_cons', show j - 1 + 1 = j by omega, List.append_assoc]
   rfl
 ·rw [bif_f (decide_eq_false (by omega))]
  show idxS D36 _ _ = _
  rw [idx_d36 m (by omega), chk_true (by omega)]
  rw [chk_true (by simp only [List.length_set]; omega)]
  rw [Int.toNat_natCast, set_drop _ _ _ (by omega), show j - 1 + 1 = j by omega, List.take_of_length_le (by simp; omega), strOf_cons', hf]
  have : fm (j - 50) m = [dg m] := by
   cases e : j - 50 with
   | zero => rfl
   | succ k => simp only [fm]; rw [if_pos (by omega)]
  rw [this]; rfl
theorem FormatUint16 (n : Nat) (h : n < 18446744073709551616) : strconv_FormatUint (n : Int) 16 = some (fm 15 n) := by
 unfold strconv_FormatUint internal_strconv_FormatUint
 rw [formatBits16 n h]; rfl
theorem repeat0 : ∀ c : Fin 17, strings_Repeat [48] (c.val : Int) = some (List.replicate c.val 48) := by
 intro c
 obtain ⟨c, hc⟩ := c
 simp only
 unfold strings_Repeat
 obtain ⟨N, hN⟩ : ∃ N, Fuel = N := ⟨_, rfl⟩
 rw [hN]
 clear hN
 by_cases h0 : c = 0
 ·subst h0; rfl
 by_cases h1 : c = 1
 ·subst h1; rfl
 rw [bif_f (decide_eq_false (by omega)), bif_f (decide_eq_false (by omega))]
 have hm : ∀ c : Fin 17, math_bits_Mul (IntKind.u64.wrap (([48] : Str).length : Int)) (IntKind.u64.wrap (c.val : Int)) = some (0, (c.val : Int)) := by decide +kernel
 simp only [jp_eq]
 rw [bif_f (decide_eq_false (by omega)), hm ⟨c, hc⟩]
 simp only [call_some]
 rw [show decide ((0 : Int) < 0) = false from rfl, bif_f (by simp; omega)]
 rw [bif_f (by simp)]
 show idxS [48] ((0 : Nat) : Int) _ = _
 rw [idxS_eq (by simp)]
 simp only [List.getElem_cons_zero]
 rw [show decide (((48 : UInt8).toNat : Int) = 32) = false from rfl, show decide (((48 : UInt8).toNat : Int) = 45) = false from rfl, show decide (((48 : UInt8).toNat : Int) = 48) = true from rfl, cond_false, cond_false, cond_true, cond_true]
 have hp : ∀ (g : Bool) (a b : Str) (k : Bool → Option Str), strings_HasPrefix a b = some false → callG g (strings_HasPrefix a b) false k = k false := by
  intro g a b k h
  rw [h, callG_some]
  cases g <;> rfl
 have ew : IntKind.i64.wrap (c : Int) = c := wrapN c (by omega)
 rw [hp _ _ _ _ (by decide +kernel), Bool.and_false, cond_false, hp _ _ _ _ (by decide +kernel), Bool.and_false, cond_false, ew]
 rw [show strings_HasPrefix _ [48] = some true from by decide +kernel, callG_some, decide_eq_true (by omega : (c : Int) ≤ 64)]
 simp only [Bool.and_true, cond_true]
 have hk : ∀ c : Fin 17, List.take (Int.toNat (c.val : Int)) ([48, 48, 48, 48, 48, 48, 48, 48, 48, 48, 48, 48, 48, 48, 48, 48, 48, 48, 48, 48, 48, 48, 48, 48, 48, 48, 48, 48, 48, 48, 48, 48, 48, 48, 48, 48, 48, 48, 48, 48, 48, 48, 48, 48, 48, 48, 48, 48, 48, 48, 48, 48, 48, 48, 48, 48, 48, 48, 48, 48, 48, 48, 48, 48] : Str) = List.replicate c.val 48 := by decide
 rw [chk_true (by simp; omega), hk ⟨c, hc⟩]
theorem R_SumOf_eq (s : Str) : R_SumOf s = some (sumS s) := by
 obtain ⟨n, hn, hlt⟩ := hashZ_nat s
 unfold R_SumOf
 show jp _ (fun k => forL s 0 (fun _ c h nx _ => nx (hashI h c)) 14695981039346656037 _) = _
 simp only [jp_eq]
 rw [forL_fold]
 rw [show s.foldl hashI 14695981039346656037 = (n : Int) from hn, FormatUint16 n hlt]
 have hl := fm_len 15 n
 simp only [call_some]
 rw [show IntKind.i64.wrap (16 - ((fm 15 n).length : Int)) = ((16 - (fm 15 n).length : Nat) : Int) by rw [wrapS (by omega) (by omega)]; omega]
 have := repeat0 ⟨16 - (fm 15 n).length, by omega⟩
 simp only at this
 rw [this, call_some, chk_true (by simp; omega), fm_pad 15 n (by omega)]
 unfold sumS
 rw [hn]; rfl
section
variable {Z A S α : Type}
end
def allI {α : Type} (q : Nat → α → Bool) : Nat → List α → Bool
 | _, [] => true
 | i, x :: l => q i x && allI q (i + 1) l
section
variable {Z α : Type}
theorem forL_allI {f : Nat → α → Unit → (Unit → Option Z) → (Unit → Option Z) → Option Z} {z : Z} (q : Nat → α → Bool) (hf : ∀ i x nx k, f i x () nx k = bif q i x then nx () else some z) (k : Unit → Option Z) :
  ∀ (l : List α) (i : Nat), forL l i f () k = bif allI q i l then k () else some z
 | [], i => rfl
 | x :: l, i => by
  unfold forL allI
  rw [hf, forL_allI q hf k l (i + 1)]
  cases q i x <;> rfl
end
def smallB (c : UInt8) : Bool := decide (97 ≤ (c.toNat : Int)) && decide ((c.toNat : Int) ≤ 122)
def digitB (c : UInt8) : Bool := decide (48 ≤ (c.toNat : Int)) && decide ((c.toNat : Int) ≤ 57)
def nameB (c : UInt8) : Bool := ((smallB c || digitB c) || decide ((c.toNat : Int) = 45)) || decide ((c.toNat : Int) = 46)
def nameOk (s : Str) : Bool := ((s.all nameB && (!decide (s = []) && decide ((s.length : Int) ≤ 40))) && smallB (s.getD 0 0))
theorem orG (a b : Bool) : (a || bif !a then b else false) = (a || b) := by cases a <;> rfl
theorem ver_IsName_1_eq (c : UInt8) : ver_IsName_1 (c.toNat : Int) = some (nameB c) := by
 unfold ver_IsName_1 ver_isSmall ver_isDigit
 simp only [call_some, callG_some, orG]
 rfl
theorem ver_IsName_eq (s : Str) : ver_IsName s = some (nameOk s) := by
 unfold ver_IsName ver_each_i1
 simp only [jp_eq]
 rw [forL_all nameB (fun i x nx k => by simp only [ver_IsName_1_eq, call_some]; cases nameB x <;> rfl)]
 simp only [condS, call_some]
 rw [chk_true]
 ·unfold ver_isSmall
  simp only [callG_some]
  unfold nameOk smallB
  generalize hA : s.all nameB = A
  cases A <;> simp only [cond_true, cond_false, Bool.false_and, Bool.true_and]
  generalize hB : (!decide (s = []) && decide ((s.length : Int) ≤ 40)) = B
  cases B <;> rfl
 ·intro h
  cases s with
  | nil => cases hA : List.all [] nameB <;> rw [hA] at h <;> simp at h
  | cons => simp only [List.length_cons]; omega
theorem allI_all {α : Type} {q : Nat → α → Bool} {p : α → Bool} : ∀ (l : List α) (i : Nat), (∀ j x, i ≤ j → q j x = p x) → allI q i l = l.all p
 | [], i, _ => rfl
 | x :: l, i, h => by
  unfold allI
  rw [h i x (Nat.le_refl _), allI_all l (i + 1) (fun j x hj => h j x (by omega)), List.all_cons]
theorem R_IsName_eq (s : Str) : R_IsName s = some (nameOk s) := by
 unfold R_IsName
 simp only [jp_eq]
 refine (forL_allI (z := false) (fun i c => !((decide ((i : Int) = 0) && !smallB c) || !nameB c)) (fun i c nx k => ?_) _ _ _).trans ?_
 ·rw [condN]
  congr 1
  unfold nameB smallB digitB
  rw [Bool.eq_iff_iff]
  simp only [Bool.or_eq_true, Bool.and_eq_true, Bool.not_eq_true', decide_eq_true_eq, Bool.or_eq_false_iff, Bool.and_eq_false_iff, decide_eq_false_iff_not, Bool.not_eq_false']
  omega
 simp only [condS]
 congr 1
 unfold nameOk
 cases s with
 | nil => rfl
 | cons x l =>
  unfold allI
  rw [allI_all (p := nameB) l 1 (fun j x hj => by rw [decide_eq_false (by omega)]; cases nameB x <;> rfl), List.all_cons]
  simp only [List.getD_cons_zero]
  cases nameB x <;> cases smallB x <;> cases l.all nameB <;> simp
def valB (c : UInt8) : Bool := decide (32 ≤ (c.toNat : Int)) && decide ((c.toNat : Int) ≤ 126)
def valueOk (s : Str) : Bool := s.all valB && decide ((s.length : Int) ≤ 1000)
theorem R_IsValue_eq (s : Str) : R_IsValue s = some (valueOk s) := by
 unfold R_IsValue
 simp only [jp_eq]
 refine (forL_all (z := false) valB (fun i c nx k => ?_) _ _ _).trans ?_
 ·rw [condN]
  congr 1
  unfold valB
  rw [Bool.eq_iff_iff]
  simp only [Bool.or_eq_true, Bool.and_eq_true, Bool.not_eq_true', decide_eq_true_eq, Bool.or_eq_false_iff, Bool.and_eq_false_iff, decide_eq_false_iff_not, Bool.not_eq_false']
  omega
 ·simp only [condS]
  unfold valueOk
  cases s.all valB <;> rfl
theorem ver_IsValue_eq (s : Str) : ver_IsValue s = some (valueOk s) := by
 unfold ver_IsValue ver_each_i4
 simp only [jp_eq]
 rw [forL_all valB (fun i x nx k => by unfold ver_IsValue_1 valB; simp only [call_some]; rw [condN, Bool.not_not])]
 simp only [condS, callG_some]
 unfold valueOk
 cases s with
 | nil => rfl
 | cons x l => simp only [show decide (x :: l = []) = false from rfl, Bool.not_false, Bool.true_and, cond_true, Bool.false_or]; cases List.all (x :: l) valB <;> rfl
theorem when_eq (b : Bool) (e : Int) : R_when b e = some (bif b then e else 0) := by cases b <;> rfl
def or2 (a b : Int) : Int := bif !decide (a = 0) then a else b
theorem or2_step (a b : Int) (o : Option Int) (h : o = some b) : (bif !decide (a = 0) then some a else o) = some (or2 a b) := by
 subst h; unfold or2; cases decide (a = 0) <;> rfl
theorem cmpB_spec : ∀ a b : Str, (cmpB a b < 0 ↔ a < b) ∧ (cmpB a b = 0 ↔ a = b)
 | [], [] => by simp [cmpB, Lib.compareBytes]
 | _ :: _, [] => by simp [cmpB, Lib.compareBytes]
 | [], _ :: _ => by simp [cmpB, Lib.compareBytes]
 | a :: x, b :: y => by
  have ih := cmpB_spec x y
  unfold cmpB at *
  rw [Lib.compareBytes, List.cons_lt_cons_iff]
  by_cases h : a < b
  ·have : a ≠ b := fun e => by subst e; exact UInt8.lt_irrefl _ h
   simp [h, this]
  ·by_cases h2 : b < a
   ·have : a ≠ b := fun e => by subst e; exact UInt8.lt_irrefl _ h2
    simp [h, h2, this]
   ·have : a = b := UInt8.le_antisymm (UInt8.not_lt.1 h2) (UInt8.not_lt.1 h)
    subst this
    simpa [h] using ih
section
variable {K V : Type} [DecidableEq K]
theorem alook_ne {m : List (K × V)} {p : K × V} {k : K} (h : ¬ p.1 = k) : alook (p :: m) k = alook m k := by rw [alook, decide_eq_false h]; rfl
theorem alook_eq {m : List (K × V)} {p : K × V} {k : K} (h : p.1 = k) : alook (p :: m) k = some p.2 := by rw [alook, decide_eq_true h]; rfl
theorem aset_ne {m : List (K × V)} {p : K × V} {k : K} {v : V} (h : ¬ p.1 = k) : aset (p :: m) k v = p :: aset m k v := by rw [aset, decide_eq_false h]; rfl
theorem aset_eq {m : List (K × V)} {p : K × V} {k : K} {v : V} (h : p.1 = k) : aset (p :: m) k v = (k, v) :: m := by rw [aset, decide_eq_true h]; rfl
theorem adel_ne {m : List (K × V)} {p : K × V} {k : K} (h : ¬ p.1 = k) : adel (p :: m) k = p :: adel m k := by rw [adel, decide_eq_false h]; rfl
theorem adel_eq {m : List (K × V)} {p : K × V} {k : K} (h : p.1 = k) : adel (p :: m) k = m := by rw [adel, decide_eq_true h]; rfl
theorem keys_aset : ∀ (m : List (K × V)) (k : K) (v : V), (aset m k v).map (·.1) = m.map (·.1) ++ if (alook m k).isSome then [] else [k]
 | [], k, v => by simp [aset, alook]
 | p :: m, k, v => by
  by_cases h : p.1 = k
  ·rw [aset_eq h, alook_eq h]; simp [h]
  ·rw [aset_ne h, alook_ne h, List.map_cons, keys_aset m k v]; rfl
theorem len_aset (m : List (K × V)) (k : K) (v : V) : (aset m k v).length = m.length + if (alook m k).isSome then 0 else 1 := by
 have := congrArg List.length (keys_aset m k v)
 simp only [List.length_map, List.length_append] at this
 rw [this]
 split <;> simp
end
section
variable {V A : Type}
variable {key : A → Str}
end
theorem nameOk_len {p : Str} (h : nameOk p = true) : p.length ≤ 40 := by
 unfold nameOk at h
 simp only [Bool.and_eq_true, decide_eq_true_eq] at h
 omega
theorem valueOk_len {p : Str} (h : valueOk p = true) : p.length ≤ 1000 := by
 unfold valueOk at h
 simp only [Bool.and_eq_true, decide_eq_true_eq] at h
 omega
theorem same_loop {α : Type} (l : List α) (q : α → α → Bool) (hq : ∀ x, q x x = true) : ∀ (r : List α) (i : Nat), l.drop i = r → forL r i (fun i x (_ : Unit) nx (_ : Unit → Option Bool) => idx l (i : Int) fun y => bif !q x y then some false else nx ()) () (fun _ => some true) = some true
 | [], i, _ => rfl
 | x :: r, i, hd => by
  have hi : i < l.length := by
   rcases Nat.lt_or_ge i l.length with h | h
   ·exact h
   ·rw [List.drop_eq_nil_of_le h] at hd; cases hd
  have hx : l[i] = x := by
   have := List.drop_eq_getElem_cons hi
   rw [hd] at this
   exact (List.cons.inj this).1.symm
  have hd' : l.drop (i + 1) = r := by
   have := congrArg List.tail hd
   simpa using this
  unfold forL
  simp only [idx_eq hi, hx, hq, Bool.not_true, cond_false]
  exact same_loop l q hq r (i + 1) hd'
def Ok {Z : Type} (o : Option Z) (Q : Z → Prop) : Prop := ∃ z, o = some z ∧ Q z
section
variable {Z A S : Type} {Q : Z → Prop}
theorem Ok.some {z : Z} (h : Q z) : Ok (some z) Q := ⟨z, rfl, h⟩
theorem Ok.mono {Q' : Z → Prop} {o : Option Z} (h : Ok o Q) (hq : ∀ z, Q z → Q' z) : Ok o Q' := by
 obtain ⟨z, e, hz⟩ := h
 exact ⟨z, e, hq z hz⟩
theorem Ok.chk {p : Prop} [Decidable p] {m : Option Z} (hp : p) (h : Ok m Q) : Ok (chk p m) Q := by rw [chk_true hp]; exact h
theorem Ok.call {P : A → Prop} {a : Option A} {k : A → Option Z} (ha : Ok a P) (h : ∀ x, P x → Ok (k x) Q) : Ok (call a k) Q := by
 obtain ⟨x, rfl, hx⟩ := ha
 exact h x hx
theorem Ok.callG {P : A → Prop} {g : Bool} {a : Option A} {d : A} {k : A → Option Z} (ha : g = true → Ok a P) (h : ∀ x, (g = true → P x) → Ok (k x) Q) : Ok (callG g a d k) Q := by
 cases g
 ·exact h d fun e => Bool.noConfusion e
 ·obtain ⟨x, rfl, hx⟩ := ha rfl
  exact h x fun _ => hx
theorem Ok.bif {c : Bool} {x y : Option Z} (h1 : c = true → Ok x Q) (h2 : c = false → Ok y Q) : Ok (bif c then x else y) Q := by
 cases c
 ·exact h2 rfl
 ·exact h1 rfl
theorem Ok.jp {P : S → Prop} {F : S → Option Z} {m : (S → Option Z) → Option Z} (hF : ∀ s, P s → Ok (F s) Q) (h : ∀ k, (∀ s, P s → Ok (k s) Q) → Ok (m k) Q) : Ok (jp F m) Q := h F hF
theorem Ok.letv {v : A} {k : A → Option Z} (h : Ok (k v) Q) : Ok (letv v k) Q := h
theorem Ok.loop {f : S → (S → Option Z) → (S → Option Z) → Option Z} {k : S → Option Z} (inv : S → Prop) (mu : S → Nat)
  (h : ∀ s nx, inv s → (∀ s', inv s' → mu s' < mu s → Ok (nx s') Q) → Ok (f s nx k) Q) : ∀ (N : Nat) (s : S), inv s → mu s < N → Ok (loopN N f s k) Q
 | 0, s, _, hm => by omega
 | N + 1, s, hi, hm => by
  unfold loopN
  exact h s _ hi fun s' hs' hlt => Ok.loop inv mu h N s' hs' (by omega)
theorem Ok.forC {f : Nat → S → (S → Option Z) → (S → Option Z) → Option Z} {k : S → Option Z} (n : Nat) (inv : Nat → S → Prop)
  (h : ∀ i s nx, i < n → inv i s → (∀ s', inv (i + 1) s' → Ok (nx s') Q) → Ok (f i s nx k) Q) (hk : ∀ s, inv n s → Ok (k s) Q) : ∀ (m i : Nat) (s : S), i + m = n → inv i s → Ok (forC m i f s k) Q
 | 0, i, s, hm, hi => by
  unfold Vc.forC
  exact hk s ((show i = n by omega) ▸ hi)
 | m + 1, i, s, hm, hi => by
  unfold Vc.forC
  exact h i s _ (by omega) hi fun s' hs' => Ok.forC n inv h hk m (i + 1) s' (by omega) hs'
end
theorem letv_eq {Z A : Type} (v : A) (k : A → Option Z) : letv v k = k v := rfl
def wordB (c : UInt8) : Bool := smallB c || digitB c
def LT : Str := [97, 98, 99, 100, 101, 102, 103, 104, 105, 106, 107, 108, 109, 110, 111, 112, 113, 114, 115, 116, 117, 118, 119, 120, 121, 122, 48, 49, 50, 51, 52, 53, 54, 55, 56, 57]
def DG : Str := [48, 49, 50, 51, 52, 53, 54, 55, 56, 57]
theorem all_u8 {p : UInt8 → Prop} (h : ∀ n : Fin 256, p (UInt8.ofNat n.val)) (c : UInt8) : p c := by
 have := h ⟨c.toNat, c.toNat_lt⟩
 simpa using this
theorem LT_mem (c : UInt8) : LT.contains c = wordB c := all_u8 (p := fun c => LT.contains c = wordB c) (by decide +kernel) c
theorem DG_mem (c : UInt8) : DG.contains c = digitB c := all_u8 (p := fun c => DG.contains c = digitB c) (by decide +kernel) c
theorem dropWhile_all {α : Type} {p : α → Bool} : ∀ {l : List α}, (∀ x ∈ l, p x = true) → l.dropWhile p = []
 | [], _ => rfl
 | x :: l, h => by
  rw [List.dropWhile_cons, if_pos (h x (by simp))]
  exact dropWhile_all fun y hy => h y (by simp [hy])
theorem trim_all {w bs : Str} (h : w.all bs.contains = true) : Go.Lib.trimS w bs = [] := by
 rw [List.all_eq_true] at h
 unfold Go.Lib.trimS Go.Lib.trimRightS Go.Lib.trimLeftS
 rw [dropWhile_all (l := w.reverse) (fun x hx => h x (by simpa using hx))]
 rfl
theorem inner_eq (w bs : Str) : R_inner w bs = some (w.all bs.contains) := by
 unfold R_inner
 simp only [jp_eq]
 rw [forL_all bs.contains (fun i x nx k => ?_)]
 ·rw [condS]; cases w.all bs.contains <;> rfl
 ·rw [ibyte_eq, call_some, condN]
  congr 1
  by_cases h : x ∈ bs
  ·rw [ixb_some h, decide_eq_false (by omega)]; simpa using h
  ·rw [ixb_none h, decide_eq_true (by omega)]; simpa using h
theorem of_eq (w bs : Str) (hb : bs.length ≤ 4294967280 ∧ (bs.all fun c => decide (c.toNat < 128)) = true) : R_Of w bs = some (w.all bs.contains) := by
 unfold R_Of strings_Trim
 rw [chk_true hb, call_some, inner_eq, callG_some]
 congr 1
 cases h : w.all bs.contains
 ·cases decide (Go.Lib.trimS w bs = []) <;> rfl
 ·rw [trim_all h]; rfl
theorem ofL_eq (w : Str) : R_Of w LT = some (w.all wordB) := by
 rw [of_eq w LT (by decide)]
 congr 2
 funext c
 exact LT_mem c
theorem ofD_eq (w : Str) : R_Of w DG = some (w.all digitB) := by
 rw [of_eq w DG (by decide)]
 congr 2
 funext c
 exact DG_mem c
def eachOk (p : UInt8 → Bool) (w : Str) (n : Int) : Bool := w.all p && (!decide (w = []) && decide ((w.length : Int) ≤ n))
def numOk (w : Str) : Bool := eachOk digitB w 10
theorem isDigit_eq (c : UInt8) : ver_isDigit (c.toNat : Int) = some (digitB c) := rfl
theorem isSmall_eq (c : UInt8) : ver_isSmall (c.toNat : Int) = some (smallB c) := rfl
theorem isEarly1_eq (c : UInt8) : ver_isEarly_1 (c.toNat : Int) = some (wordB c) := by
 unfold ver_isEarly_1
 rw [isSmall_eq, isDigit_eq, call_some, callG_some]
 unfold wordB
 rw [orG]
theorem each2_eq (w : Str) (n : Int) : ver_each_i2 w n = some (eachOk wordB w n) := by
 unfold ver_each_i2
 simp only [jp_eq]
 rw [forL_all wordB (fun i x nx k => by rw [isEarly1_eq, call_some, condN, Bool.not_not])]
 rw [condS]
 unfold eachOk
 cases w.all wordB <;> rfl
theorem each3_eq (w : Str) (n : Int) : ver_each_i3 w n = some (eachOk digitB w n) := by
 unfold ver_each_i3
 simp only [jp_eq]
 rw [forL_all digitB (fun i x nx k => by rw [isDigit_eq, call_some, condN, Bool.not_not])]
 rw [condS]
 unfold eachOk
 cases w.all digitB <;> rfl
theorem isNumeral_eq (w : Str) : ver_isNumeral w = some (numOk w) := by
 unfold ver_isNumeral
 rw [each3_eq, call_some]
 rfl
def wordOk (w : Str) : Bool := eachOk wordB w 10 && !((w.all digitB && decide (1 < (w.length : Int))) && decide (((w.getD 0 0).toNat : Int) = 48))
def earlyOk (e : Str) : Bool := (splitAt 46 e).all wordOk && decide ((e.length : Int) ≤ 40)
theorem isEarly_eq (e : Str) (h : e.length ≤ 17179869184) : ver_isEarly e = some (earlyOk e) := by
 unfold ver_isEarly
 simp only [jp_eq]
 rw [split_eq e 46 h, call_some]
 rw [forL_all wordOk (fun i w nx k => ?_)]
 ·rw [condS]
  unfold earlyOk
  cases (splitAt 46 e).all wordOk <;> rfl
 ·rw [each2_eq, call_some, isNumeral_eq, callG_some]
  cases w with
  | nil => rfl
  | cons c l =>
   rw [chk_true (fun _ => by simp only [List.length_cons]; omega)]
   rw [condN]
   congr 1
   unfold wordOk numOk
   have e1 : eachOk wordB (c :: l) 10 = (List.all (c :: l) wordB && decide (((c :: l).length : Int) ≤ 10)) := by unfold eachOk; simp
   have e2 : eachOk digitB (c :: l) 10 = (List.all (c :: l) digitB && decide (((c :: l).length : Int) ≤ 10)) := by unfold eachOk; simp
   have e3 : decide (c :: l = ([48] : Str)) = (decide (((c :: l).getD 0 0).toNat = 48) && decide (l = [])) := by
    rw [Bool.eq_iff_iff]
    simp only [Bool.and_eq_true, decide_eq_true_eq, List.getD_cons_zero, List.cons.injEq]
    constructor
    ·rintro ⟨rfl, rfl⟩; exact ⟨rfl, rfl⟩
    ·rintro ⟨h1, rfl⟩; exact ⟨by rw [← UInt8.toNat_inj]; exact h1, rfl⟩
   have e4 : decide (1 < ((c :: l).length : Int)) = !decide (l = []) := by
    rw [Bool.eq_iff_iff]
    simp only [decide_eq_true_eq, Bool.not_eq_true', decide_eq_false_iff_not, List.length_cons]
    cases l <;> simp
    omega
   have e5 : decide ((((c :: l).getD 0 0).toNat : Int) = 48) = decide (((c :: l).getD 0 0).toNat = 48) := decide_eq_decide.2 (by omega)
   rw [e1, e2, e3, e4, e5]
   generalize List.all (c :: l) wordB = b1
   generalize List.all (c :: l) digitB = b2
   generalize decide (((c :: l).length : Int) ≤ 10) = b3
   generalize decide (((c :: l).getD 0 0).toNat = 48) = b4
   generalize decide (l = []) = b5
   cases b1 <;> cases b2 <;> cases b3 <;> cases b4 <;> cases b5 <;> rfl
def rngOk (n : Int) : Bool := decide (0 ≤ n) && decide (n ≤ 999999)
def vE (v : api_Version) : Int := bif rngOk v.Major && (rngOk v.Minor && rngOk v.Patch) then (bif decide (v.Early = []) || earlyOk v.Early then 0 else 2) else 3
theorem outside_eq (n : Int) : ver_outside n 0 999999 = some (!rngOk n) := by
 unfold ver_outside rngOk
 congr 1
 rw [Bool.eq_iff_iff]
 simp only [Bool.or_eq_true, Bool.and_eq_true, Bool.not_eq_true', decide_eq_true_eq, Bool.and_eq_false_iff, decide_eq_false_iff_not]
 omega
theorem ver_Check_eq (v : api_Version) (h : v.Early.length ≤ 17179869184) : ver_Check v = some (vE v) := by
 unfold ver_Check
 simp only [jp_eq, outside_eq, call_some, isEarly_eq v.Early h, callG_some, condS]
 unfold vE
 congr 1
 cases rngOk v.Major <;> cases rngOk v.Minor <;> cases rngOk v.Patch <;> cases decide (v.Early = []) <;> cases earlyOk v.Early <;> rfl
theorem forL_one {Z S α : Type} (x : α) (i : Nat) (f : Nat → α → S → (S → Option Z) → (S → Option Z) → Option Z) (s : S) (k : S → Option Z) : forL [x] i f s k = f i x s k k := rfl
theorem R_VE_eq (v : api_Version) (h : v.Early.length ≤ 17179869184) : R_VersionError [v] = some (vE v) := by
 unfold R_VersionError
 simp only [jp_eq]
 rw [forL_one]
 rw [forL_all (z := 3) rngOk (fun i n nx k => by unfold R_In; rw [call_some, condN, Bool.not_not]; rfl)]
 unfold vE
 simp only [List.all_cons, List.all_nil, Bool.and_true]
 cases rngOk v.Major && (rngOk v.Minor && rngOk v.Patch)
 ·rfl
 ·simp only [cond_true]
  cases he : decide (v.Early = [])
  ·simp only [cond_false, Bool.false_or]
   unfold earlyOk
   cases hl : decide (40 < (v.Early.length : Int))
   ·have hl2 : decide ((v.Early.length : Int) ≤ 40) = true := by have := of_decide_eq_false hl; exact decide_eq_true (by omega)
    simp only [cond_false]
    rw [split_eq v.Early 46 h, call_some, hl2, Bool.and_true]
    rw [forL_all (z := 2) wordOk (fun i w nx k => ?_)]
    ·rw [condS]
    ·show callG _ (R_Of w LT) false _ = _
     rw [ofL_eq, callG_some]
     show callG _ (R_Of w DG) false _ = _
     rw [ofD_eq, callG_some]
     cases w with
     | nil => rfl
     | cons c l =>
      rw [chk_true (fun _ => by simp only [List.length_cons]; omega)]
      rw [condN]
      congr 1
      unfold wordOk eachOk
      have e1 : decide (10 < ((c :: l).length : Int)) = !decide (((c :: l).length : Int) ≤ 10) := by
       rw [Bool.eq_iff_iff]; simp only [decide_eq_true_eq, Bool.not_eq_true', decide_eq_false_iff_not]; omega
      rw [e1, show decide (c :: l = ([] : Str)) = false from rfl]
      generalize List.all (c :: l) wordB = b1
      generalize List.all (c :: l) digitB = b2
      generalize decide (((c :: l).length : Int) ≤ 10) = b3
      generalize decide ((((c :: l).getD 0 0).toNat : Int) = 48) = b4
      generalize decide (1 < ((c :: l).length : Int)) = b5
      cases b1 <;> cases b2 <;> cases b3 <;> cases b4 <;> cases b5 <;> rfl
   ·have hl2 : decide ((v.Early.length : Int) ≤ 40) = false := by have := of_decide_eq_true hl; exact decide_eq_false (by omega)
    rw [hl2, Bool.and_false]
    rfl
  ·rfl
def cmpI (x y : Int) : Int := bif decide (x < y) then -1 else bif decide (y < x) then 1 else 0
theorem cmpI_eq (x y : Int) : cmp_Compare_int x y = some (cmpI x y) := by
 unfold cmp_Compare_int cmp_isNaN_int cmpI
 simp only [call_some, decide_true, Bool.not_true, cond_false, condS]
theorem cmpI_self (x : Int) : cmpI x x = 0 := by unfold cmpI; simp
def orL (l : List Int) : Int := l.foldr or2 0
theorem or_loop : ∀ (l : List Int) (i : Nat), forL l i (fun _ e (_ : Unit) nx (_ : Unit → Option Int) => bif !decide (e = 0) then some e else nx ()) () (fun _ => some 0) = some (orL l)
 | [], _ => rfl
 | x :: l, i => by
  unfold forL
  dsimp only
  rw [or_loop l (i + 1)]
  unfold orL
  rw [List.foldr_cons]
  unfold or2
  rw [condS]
theorem cmpOr_eq (l : List Int) : cmp_Or_int l = some (orL l) := by
 unfold cmp_Or_int
 simp only [jp_eq]
 exact or_loop l 0
theorem first_eq (l : List Int) : R_first l = some (orL l) := by
 unfold R_first
 simp only [jp_eq]
 exact or_loop l 0
theorem compare_eq (a b : Str) : strings_Compare a b = some (cmpB a b) := rfl
def wcV (a b : Str) : Int := bif numOk a && numOk b then (bif !decide ((a.length : Int) = (b.length : Int)) then cmpI a.length b.length else cmpB a b) else bif numOk a then -1 else bif numOk b then 1 else cmpB a b
theorem compareWords_eq (a b : Str) : ver_compareWords a b = some (wcV a b) := by
 unfold ver_compareWords wcV
 simp only [jp_eq, isNumeral_eq, call_some, cmpI_eq, compare_eq, condS]
theorem atoiV_short {s : Str} (h : s.length ≤ 18) : atoiV s = atoiN s := by
 unfold atoiV atoiN
 rw [Go.Lib.atoiAll_short s h]
 cases Go.Lib.atoi s <;> rfl
theorem atoiE_short {s : Str} (h : s.length ≤ 18) : atoiE s = (Go.Lib.atoi s).isSome := by
 unfold atoiE
 rw [Go.Lib.atoiAll_short s h]
 cases Go.Lib.atoi s <;> rfl
def wcR (a b : Str) : Int := bif a.all digitB && b.all digitB then cmpI (atoiN a) (atoiN b) else bif a.all digitB then -1 else bif b.all digitB then 1 else cmpB a b
def val (acc : Nat) (l : Str) : Nat := l.foldl (fun n c => n * 10 + (c.toNat - 48)) acc
theorem dg_range {c : UInt8} (h : digitB c = true) : 48 ≤ c.toNat ∧ c.toNat ≤ 57 := by
 unfold digitB at h
 simp only [Bool.and_eq_true, decide_eq_true_eq] at h
 omega
theorem decFrom_val : ∀ (l : Str) (acc : Nat), l.all digitB = true → Go.Lib.decFrom acc l = some (val acc l)
 | [], _, _ => rfl
 | c :: l, acc, h => by
  simp only [List.all_cons, Bool.and_eq_true] at h
  have := dg_range h.1
  unfold Go.Lib.decFrom Go.Lib.digitVal
  rw [if_pos this]
  exact decFrom_val l _ h.2
theorem atoiN_val {w : Str} (h : w.all digitB = true) (hne : w ≠ []) : atoiN w = (val 0 w : Nat) := by
 cases w with
 | nil => exact absurd rfl hne
 | cons c l =>
  have hc : digitB c = true := by simp only [List.all_cons, Bool.and_eq_true] at h; exact h.1
  have hr := dg_range hc
  have h1 : (c == 45) = false := by
   rw [beq_eq_false_iff_ne]; rintro rfl; revert hr; decide
  have h2 : (c == 43) = false := by
   rw [beq_eq_false_iff_ne]; rintro rfl; revert hr; decide
  unfold atoiN Go.Lib.atoi Go.Lib.decNat
  simp only [h1, h2, Bool.false_eq_true, if_false, List.isEmpty_cons, decFrom_val _ 0 h, Option.map_some, Option.getD_some]
theorem val_acc : ∀ (l : Str) (acc : Nat), val acc l = acc * 10 ^ l.length + val 0 l
 | [], acc => by simp [val]
 | c :: l, acc => by
  have e1 : val acc (c :: l) = val (acc * 10 + (c.toNat - 48)) l := rfl
  have e2 : val 0 (c :: l) = val (0 * 10 + (c.toNat - 48)) l := rfl
  rw [e1, e2, val_acc l (acc * 10 + (c.toNat - 48)), val_acc l (0 * 10 + (c.toNat - 48)), List.length_cons, Nat.pow_succ, Nat.add_mul, Nat.add_mul, Nat.mul_assoc, Nat.mul_comm 10]
  simp only [Nat.zero_mul, Nat.zero_add]
  omega
theorem val_cons (c : UInt8) (l : Str) : val 0 (c :: l) = (c.toNat - 48) * 10 ^ l.length + val 0 l := by
 have e2 : val 0 (c :: l) = val (0 * 10 + (c.toNat - 48)) l := rfl
 rw [e2, val_acc]; simp
theorem val_lt : ∀ (l : Str), l.all digitB = true → val 0 l < 10 ^ l.length
 | [], _ => by simp [val]
 | c :: l, h => by
  simp only [List.all_cons, Bool.and_eq_true] at h
  have hr := dg_range h.1
  have ih := val_lt l h.2
  rw [val_cons, List.length_cons, Nat.pow_succ]
  have : (c.toNat - 48) * 10 ^ l.length ≤ 9 * 10 ^ l.length := Nat.mul_le_mul_right _ (by omega)
  omega
theorem val_ge {c : UInt8} {l : Str} (h : digitB c = true) (h0 : c.toNat ≠ 48) : 10 ^ l.length ≤ val 0 (c :: l) := by
 have hr := dg_range h
 rw [val_cons]
 have : 1 * 10 ^ l.length ≤ (c.toNat - 48) * 10 ^ l.length := Nat.mul_le_mul_right _ (by omega)
 omega
theorem cmpI_congr {a b c d : Int} (h1 : a < b ↔ c < d) (h2 : b < a ↔ d < c) : cmpI a b = cmpI c d := by
 unfold cmpI
 rw [decide_eq_decide.2 h1, decide_eq_decide.2 h2]
theorem cmp_same : ∀ (a b : Str), a.length = b.length → a.all digitB = true → b.all digitB = true → cmpI (val 0 a : Nat) (val 0 b : Nat) = cmpB a b
 | [], [], _, _, _ => rfl
 | [], _ :: _, h, _, _ => by simp at h
 | _ :: _, [], h, _, _ => by simp at h
 | x :: a, y :: b, h, ha, hb => by
  simp only [List.all_cons, Bool.and_eq_true] at ha hb
  have hl : a.length = b.length := by simpa using h
  have ih := cmp_same a b hl ha.2 hb.2
  have hx := dg_range ha.1
  have hy := dg_range hb.1
  have va := val_lt a ha.2
  have vb := val_lt b hb.2
  rw [val_cons, val_cons, hl]
  rw [hl] at va
  show _ = Go.Lib.compareBytes (x :: a) (y :: b)
  unfold Go.Lib.compareBytes
  have lt_of : ∀ {p q u v : Nat}, p < q → u < 10 ^ b.length → p * 10 ^ b.length + u < q * 10 ^ b.length + v := by
   intro p q u v hpq hu
   have h3 : (p + 1) * 10 ^ b.length ≤ q * 10 ^ b.length := Nat.mul_le_mul_right _ hpq
   have h4 : p * 10 ^ b.length + u < (p + 1) * 10 ^ b.length := by rw [Nat.succ_mul]; exact Nat.add_lt_add_left hu _
   exact Nat.lt_of_lt_of_le h4 (Nat.le_trans h3 (Nat.le_add_right _ _))
  by_cases h1 : x < y
  ·rw [if_pos h1]
   have h1' : x.toNat < y.toNat := UInt8.lt_iff_toNat_lt.1 h1
   have := lt_of (p := x.toNat - 48) (q := y.toNat - 48) (v := val 0 b) (by omega) va
   unfold cmpI
   rw [decide_eq_true (Int.ofNat_lt.2 this)]; rfl
  ·rw [if_neg h1]
   by_cases h2 : y < x
   ·rw [if_pos h2]
    have h2' : y.toNat < x.toNat := UInt8.lt_iff_toNat_lt.1 h2
    have := lt_of (p := y.toNat - 48) (q := x.toNat - 48) (v := val 0 a) (by omega) vb
    unfold cmpI
    rw [decide_eq_false (fun h => Nat.lt_asymm this (Int.ofNat_lt.1 h)), decide_eq_true (Int.ofNat_lt.2 this)]; rfl
   ·rw [if_neg h2]
    have he : x.toNat = y.toNat := by
     have k1 : ¬ x.toNat < y.toNat := fun h => h1 (UInt8.lt_iff_toNat_lt.2 h)
     have k2 : ¬ y.toNat < x.toNat := fun h => h2 (UInt8.lt_iff_toNat_lt.2 h)
     omega
    rw [he]
    exact (cmpI_congr (by rw [Int.ofNat_lt, Int.ofNat_lt]; exact Nat.add_lt_add_iff_left) (by rw [Int.ofNat_lt, Int.ofNat_lt]; exact Nat.add_lt_add_iff_left)).trans ih
theorem wordOk_num {w : Str} (h : wordOk w = true) : w ≠ [] ∧ w.length ≤ 10 ∧ numOk w = w.all digitB ∧ (w.all digitB = true → 1 < w.length → ∃ c l, w = c :: l ∧ c.toNat ≠ 48) := by
 unfold wordOk eachOk at h
 simp only [Bool.and_eq_true, Bool.not_eq_true', decide_eq_true_eq, decide_eq_false_iff_not] at h
 obtain ⟨⟨h1, h2, h3⟩, h4⟩ := h
 refine ⟨h2, by omega, ?_, fun hd hl => ?_⟩
 ·unfold numOk eachOk
  rw [decide_eq_false h2, decide_eq_true h3]; simp
 ·cases w with
  | nil => exact absurd rfl h2
  | cons c l =>
   refine ⟨c, l, rfl, fun e => ?_⟩
   rw [hd, decide_eq_true (by omega), List.getD_cons_zero, e] at h4
   cases h4
theorem wc_same {a b : Str} (ha : wordOk a = true) (hb : wordOk b = true) : wcR a b = wcV a b := by
 obtain ⟨a1, a2, a3, a4⟩ := wordOk_num ha
 obtain ⟨b1, b2, b3, b4⟩ := wordOk_num hb
 unfold wcR wcV
 rw [a3, b3]
 cases hda : a.all digitB <;> cases hdb : b.all digitB <;> try rfl
 simp only [Bool.and_self, cond_true]
 rw [atoiN_val hda a1, atoiN_val hdb b1]
 by_cases hl : a.length = b.length
 ·rw [decide_eq_true (by omega), Bool.not_true, cond_false]
  exact cmp_same a b hl hda hdb
 ·rw [decide_eq_false (by omega), Bool.not_false, cond_true]
  have ka := List.length_pos_iff.2 a1
  have kb := List.length_pos_iff.2 b1
  have far : ∀ {u v : Str}, u.all digitB = true → v.all digitB = true → (v.all digitB = true → 1 < v.length → ∃ c l, v = c :: l ∧ c.toNat ≠ 48) → 0 < u.length → u.length < v.length → val 0 u < val 0 v := by
   intro u v hu hv h4 hu0 hlt
   obtain ⟨c, l, rfl, hc⟩ := h4 hv (by omega)
   simp only [List.all_cons, Bool.and_eq_true] at hv
   have g1 := val_lt u hu
   have g2 := val_ge (l := l) hv.1 hc
   have g3 : 10 ^ u.length ≤ 10 ^ l.length := Nat.pow_le_pow_right (by decide) (by simp only [List.length_cons] at hlt; omega)
   omega
  rcases Nat.lt_or_ge a.length b.length with h | h
  ·have := far hda hdb b4 ka h
   exact cmpI_congr (by omega) (by omega)
  ·have := far hdb hda a4 kb (by omega)
   exact cmpI_congr (by omega) (by omega)
theorem cmpB_self (a : Str) : cmpB a a = 0 := (cmpB_spec a a).2.2 rfl
theorem wcV_self (a : Str) : wcV a a = 0 := by
 unfold wcV
 cases numOk a <;> simp [cmpB_self]
def cmpL (wc : Str → Str → Int) (n m : Int) : List Str → List Str → Int
 | x :: xs, y :: ys => or2 (wc x y) (cmpL wc n m xs ys)
 | _, _ => cmpI n m
theorem cmpL_congr {wc wc' : Str → Str → Int} {n m : Int} : ∀ {X Y : List Str}, (∀ x ∈ X, ∀ y ∈ Y, wc x y = wc' x y) → cmpL wc n m X Y = cmpL wc' n m X Y
 | [], _, _ => by simp only [cmpL]
 | _ :: _, [], _ => by simp only [cmpL]
 | x :: X, y :: Y, h => by
  simp only [cmpL]
  rw [h x (by simp) y (by simp), cmpL_congr fun x' hx y' hy => h x' (by simp [hx]) y' (by simp [hy])]
theorem cmpL_self {n : Int} : ∀ X : List Str, cmpL wcV n n X X = 0
 | [] => cmpI_self n
 | x :: X => by simp only [cmpL, wcV_self, cmpL_self X]; rfl
theorem cmpL_end {wc : Str → Str → Int} {n m : Int} {X Y : List Str} (h : X = [] ∨ Y = []) : cmpL wc n m X Y = cmpI n m := by
 rcases h with rfl | rfl
 ·simp only [cmpL]
 ·cases X <;> simp only [cmpL]
theorem words_loop (wc : Str → Str → Int) (X Y : List Str) (hx : X.length ≤ 1000000) {f : Int → (Int → Option Int) → (Int → Option Int) → Option Int} {K : Int → Option Int} (hK : ∀ t, K t = some (cmpI X.length Y.length)) (n : Nat) (hn : 10000000 ≤ n)
  (hf : ∀ (t : Nat) (h1 : t < X.length) (h2 : t < Y.length) nx, f t nx K = bif !decide (wc X[t] Y[t] = 0) then some (wc X[t] Y[t]) else nx ((t + 1 : Nat) : Int))
  (hs : ∀ (t : Int) nx, ¬ t < min (X.length : Int) (Y.length : Int) → f t nx K = K t) : loopN n f 0 K = some (cmpL wc X.length Y.length X Y) := by
 have := loopN_run (f := f) (k := K) (fun t => 0 ≤ t ∧ t ≤ min (X.length : Int) (Y.length : Int)) (fun t => (min (X.length : Int) (Y.length : Int) - t).toNat) (fun t => some (cmpL wc X.length Y.length (X.drop t.toNat) (Y.drop t.toNat))) ?_ n 0 ⟨Int.le_refl _, by omega⟩ (by omega)
 ·simpa using this
 ·rintro t nx ⟨h1, h2⟩ hnx
  obtain ⟨k, rfl⟩ := Int.eq_ofNat_of_zero_le h1
  by_cases hlt : (k : Int) < min (X.length : Int) (Y.length : Int)
  ·have hkx : k < X.length := by omega
   have hky : k < Y.length := by omega
   rw [hf k hkx hky, hnx ((k + 1 : Nat) : Int) ⟨by omega, by omega⟩ (by omega), condS]
   simp only [Int.toNat_natCast]
   rw [List.drop_eq_getElem_cons hkx, List.drop_eq_getElem_cons hky]
   simp only [cmpL]
   rfl
  ·rw [hs _ _ hlt, hK]
   simp only [Int.toNat_natCast]
   rw [cmpL_end]
   rcases Int.le_total (X.length : Int) (Y.length : Int) with h | h
   ·exact .inl (List.drop_eq_nil_of_le (by omega))
   ·exact .inr (List.drop_eq_nil_of_le (by omega))
def erl (a b : Str) : Int := bif decide (a = b) then 0 else bif decide (a = []) then 1 else bif decide (b = []) then -1 else cmpL wcV (splitAt 46 a).length (splitAt 46 b).length (splitAt 46 a) (splitAt 46 b)
theorem split_len {e : Str} (h : e.length ≤ 900000) : (splitAt 46 e).length ≤ 1000000 := by
 rw [splitAt_length]
 have := List.count_le_length (a := (46 : UInt8)) (l := e)
 omega
theorem compareEarly_eq (a b : Str) (ha : a.length ≤ 900000) (hb : b.length ≤ 900000) : ver_compareEarly a b = some (erl a b) := by
 unfold ver_compareEarly erl
 have hF := fuel_ge
 generalize Fuel = N at hF ⊢
 rw [split_eq a 46 (by omega), split_eq b 46 (by omega), call_some, call_some, jp_eq]
 dsimp only
 simp only [cmpI_eq, call_some]
 rw [words_loop wcV (splitAt 46 a) (splitAt 46 b) (split_len ha) (fun t => rfl) N (by omega) (fun t h1 h2 nx => ?_) (fun t nx h => ?_)]
 ·simp only [condS]
 ·have hd : decide ((t : Int) < min ((splitAt 46 a).length : Int) ((splitAt 46 b).length : Int)) = true := decide_eq_true (by omega)
  have hb : t < 9223372036854775807 := Nat.lt_of_lt_of_le h1 (Nat.le_trans (split_len ha) (by decide))
  rw [hd, cond_true, idx_eq h1, idx_eq h2, compareWords_eq, call_some, wrap1 t hb]
 ·rw [decide_eq_false h]; rfl
def ordV (a b : api_Version) : Int := orL [cmpI a.Major b.Major, cmpI a.Minor b.Minor, cmpI a.Patch b.Patch, erl a.Early b.Early]
theorem order_eq (a b : api_Version) (ha : a.Early.length ≤ 900000) (hb : b.Early.length ≤ 900000) : ver_Order a b = some (ordV a b) := by
 unfold ver_Order ordV
 simp only [cmpI_eq, call_some, compareEarly_eq _ _ ha hb, cmpOr_eq]
theorem vE_early {v : api_Version} (h : vE v = 0) : v.Early = [] ∨ earlyOk v.Early = true := by
 unfold vE at h
 cases h1 : rngOk v.Major && (rngOk v.Minor && rngOk v.Patch) <;> rw [h1] at h
 ·cases h
 ·simp only [cond_true] at h
  cases h2 : decide (v.Early = []) || earlyOk v.Early <;> rw [h2] at h
  ·cases h
  ·simpa using h2
theorem earlyOk_words {e : Str} (h : earlyOk e = true) : (∀ w ∈ splitAt 46 e, wordOk w = true) ∧ e.length ≤ 40 := by
 unfold earlyOk at h
 simp only [Bool.and_eq_true, List.all_eq_true, decide_eq_true_eq] at h
 exact ⟨h.1, by omega⟩
theorem min1 (e : Str) : min 1 (e.length : Int) = if e = [] then 0 else 1 := by
 cases e with
 | nil => rfl
 | cons c l => simp only [List.length_cons, reduceCtorEq, if_false]; omega
theorem R_CompareOf_eq (a b : api_Version) (ha : vE a = 0) (hb : vE b = 0) : R_CompareOf a b = some (ordV a b) := by
 unfold R_CompareOf ordV
 have hF := fuel_ge
 generalize Fuel = N at hF ⊢
 rw [cmpI_eq, call_some, cmpI_eq, call_some, cmpI_eq, call_some, cmpOr_eq, call_some]
 generalize cmpI a.Major b.Major = x
 generalize cmpI a.Minor b.Minor = y
 generalize cmpI a.Patch b.Patch = z
 have hor : ∀ e : Int, orL [x, y, z, e] = bif !decide (orL [x, y, z] = 0) then orL [x, y, z] else e := by
  intro e
  have h0 : ∀ q : Int, or2 q 0 = q := fun q => by
   unfold or2
   by_cases h : q = 0
   ·rw [h]; rfl
   ·rw [decide_eq_false h]; rfl
  simp only [orL, List.foldr_cons, List.foldr_nil, h0]
  unfold or2
  by_cases hx : x = 0 <;> by_cases hy : y = 0 <;> by_cases hz : z = 0 <;> simp [hx, hy, hz]
 rw [hor]
 cases !decide (orL [x, y, z] = 0)
 ·simp only [cond_false]
  rcases vE_early ha with ha | ha
  ·rw [ha, decide_eq_true rfl, Bool.true_or, cond_true, cmpI_eq, call_some]
   simp only [min1, if_true]
   unfold erl
   by_cases hbe : b.Early = []
   ·rw [hbe]; rfl
   ·rw [if_neg hbe, decide_eq_false (fun e => hbe e.symm)]; rfl
  ·rcases vE_early hb with hb | hb
   ·rw [hb, decide_eq_true (p := ([] : Str) = []) rfl, Bool.or_true, cond_true, cmpI_eq, call_some]
    simp only [min1, if_true]
    unfold erl
    by_cases hae : a.Early = []
    ·rw [hae]; rfl
    ·rw [if_neg hae, decide_eq_false hae, decide_eq_true rfl]; rfl
   ·obtain ⟨wa, la⟩ := earlyOk_words ha
    obtain ⟨wb, lb⟩ := earlyOk_words hb
    unfold erl
    by_cases hae : a.Early = []
    ·rw [hae] at wa
     have := wa [] (by simp [splitAt])
     cases this
    by_cases hbe : b.Early = []
    ·rw [hbe] at wb
     have := wb [] (by simp [splitAt])
     cases this
    rw [decide_eq_false hae, decide_eq_false hbe, split_eq _ 46 (by omega), split_eq _ 46 (by omega), Bool.or_self, cond_false, call_some, call_some, jp_eq]
    dsimp only
    refine (words_loop wcR (splitAt 46 a.Early) (splitAt 46 b.Early) (split_len (by omega)) (fun t => by rw [cmpI_eq, call_some]) N (by omega) (fun t h1 h2 nx => ?_) (fun t nx h => ?_)).trans ?_
    ·have k1 := wa _ (List.getElem_mem h1)
     have k2 := wb _ (List.getElem_mem h2)
     have l1 := (wordOk_num k1).2.1
     have l2 := (wordOk_num k2).2.1
     have hd : decide ((t : Int) < min ((splitAt 46 a.Early).length : Int) ((splitAt 46 b.Early).length : Int)) = true := decide_eq_true (by omega)
     have hb : t < 9223372036854775807 := Nat.lt_of_lt_of_le h1 (Nat.le_trans (split_len (e := a.Early) (by omega)) (by decide))
     rw [hd, cond_true, idx_eq h1]
     show call (R_Of _ DG) _ = _
     rw [ofD_eq, call_some, idx_eq h2]
     show call (R_Of _ DG) _ = _
     rw [ofD_eq, call_some]
     unfold strconv_Atoi
     rw [call_some, call_some, compare_eq, call_some, wrap1 t hb, jp_eq, atoiV_short (by omega), atoiV_short (by omega)]
     dsimp only
     rw [cmpI_eq, call_some]
     unfold wcR
     generalize (splitAt 46 a.Early)[t] = u
     generalize (splitAt 46 b.Early)[t] = v
     cases u.all digitB <;> cases v.all digitB <;> rfl
    ·rw [decide_eq_false h]; rfl
    ·rw [cmpL_congr fun x hx y hy => wc_same (wa x hx) (wb y hy)]
     by_cases he : a.Early = b.Early
     ·rw [he, cmpL_self, decide_eq_true rfl]; rfl
     ·rw [decide_eq_false he]; rfl
 ·rfl
theorem or2_z (a : Int) : or2 a 0 = a := by
 unfold or2
 by_cases h : a = 0
 ·rw [h]; rfl
 ·rw [decide_eq_false h]; rfl
theorem or2_assoc (a b c : Int) : or2 (or2 a b) c = or2 a (or2 b c) := by
 unfold or2
 by_cases h : a = 0
 ·simp [h]
 ·rw [decide_eq_false h]; simp [h]
theorem or2_0 (a : Int) : or2 0 a = a := rfl
theorem or2_ne {a : Int} (h : a ≠ 0) (b : Int) : or2 a b = a := by unfold or2; rw [decide_eq_false h]; rfl
theorem orL_cons (x : Int) (l : List Int) : orL (x :: l) = or2 x (orL l) := rfl
def flagV (v : api_Version) : Bool := !((decide (v.Major = 0)) && ((decide (v.Minor = 0)) && ((decide (v.Patch = 0)) && (decide (v.Early = [])))))
def badF (r : api_Record) : Bool := ((!decide (flagV r.From = (((decide (r.Kind = 2)) || (decide (r.Kind = 3))) || (decide (r.Kind = 4))))) || ((!decide (flagV r.To = (!decide (r.Kind = 4)))) && (!decide (r.Kind = 6))))
def badC (r : api_Record) : Bool := (((decide (r.Kind = 2)) && (decide (0 ≤ ordV r.From r.To))) || ((decide (r.Kind = 3)) && (decide (ordV r.From r.To ≤ 0))))
def wh (b : Bool) (e : Int) : Int := bif b then e else 0
def eHead (r : api_Record) : List Int := [wh ((decide (r.Time < 0)) || (decide (1099511627776 < r.Time))) 3, wh ((decide (r.Kind < 1)) || (decide (6 < r.Kind))) 1, wh (!nameOk r.Pack) 5]
def eTail (r : api_Record) : List Int := [wh (badC r) 11, wh ((decide (r.Result < 0)) || (decide (18 < r.Result))) 3, wh (!valueOk r.Note) 2]
def eRec (r : api_Record) : Int := or2 (orL (eHead r)) (or2 (orL [vE r.From, vE r.To]) (or2 (wh (badF r) 2) (orL (eTail r))))
def Pr (r : api_Record) : Prop := r.From.Early.length ≤ 17179869184 ∧ r.To.Early.length ≤ 17179869184
theorem when_wh (b : Bool) (e : Int) : R_when b e = some (wh b e) := when_eq b e
theorem orL2 {a b : Int} (h : orL [a, b] = 0) : a = 0 ∧ b = 0 := by
 simp only [orL_cons] at h
 have : orL [] = 0 := rfl
 rw [this, or2_z] at h
 unfold or2 at h
 by_cases ha : a = 0
 ·rw [ha] at h; exact ⟨ha, h⟩
 ·rw [decide_eq_false ha] at h; exact absurd h ha
theorem vE_len {v : api_Version} (h : vE v = 0) : v.Early.length ≤ 40 := by
 rcases vE_early h with h | h
 ·rw [h]; decide
 ·exact (earlyOk_words h).2
theorem R_RecordError_eq (r : api_Record) (h : Pr r) : R_RecordError r = some (eRec r) := by
 unfold R_RecordError
 rw [when_wh, call_some, when_wh, call_some, R_IsName_eq, call_some, when_wh, call_some, first_eq, call_some]
 show jp _ (fun k_11 => bif decide (orL (eHead r) = 0) then _ else k_11 (orL (eHead r))) = _
 rw [jp_eq]
 dsimp only
 rw [R_VE_eq _ h.1, R_VE_eq _ h.2, call_some, call_some, first_eq, call_some]
 unfold eRec
 by_cases h1 : orL (eHead r) = 0
 ·rw [decide_eq_true h1, h1, or2_0]
  simp only [cond_true]
  by_cases h2 : orL [vE r.From, vE r.To] = 0
  ·rw [h2, or2_0]
   obtain ⟨v1, v2⟩ := orL2 h2
   rw [R_CompareOf_eq _ _ v1 v2, call_some, when_wh, call_some, when_wh, call_some, R_IsValue_eq, call_some, when_wh, call_some, first_eq, call_some]
   show (bif badF r then some 2 else some (orL (eTail r))) = _
   cases badF r <;> rfl
  ·rw [decide_eq_false h2, or2_ne h2]; rfl
 ·rw [decide_eq_false h1, or2_ne h1]
  simp only [cond_false, Bool.not_false, cond_true]
theorem wh_step (b : Bool) (c x : Int) (o : Option Int) (hc : c ≠ 0) (h : o = some x) : (bif b then some c else o) = some (or2 (wh b c) x) := by
 rw [h]
 cases b
 ·rfl
 ·rw [show wh true c = c from rfl, or2_ne hc]; rfl
theorem log_outside_eq (a b c : Int) : log_outside a b c = some ((decide (a < b)) || (decide (c < a))) := rfl
theorem uses_eq (k : Int) : log_uses k = some (((decide (k = 2)) || (decide (k = 3))) || (decide (k = 4)), !decide (k = 4)) := by
 unfold log_uses
 simp only [jp_eq]
 by_cases h2 : k = 2
 ·subst h2; rfl
 by_cases h3 : k = 3
 ·subst h3; rfl
 by_cases h4 : k = 4
 ·subst h4; rfl
 rw [decide_eq_false h2, decide_eq_false h3, decide_eq_false h4]; rfl
theorem eq_comm_b (a b : Bool) : decide (a = b) = decide (b = a) := by cases a <;> cases b <;> rfl
theorem log_CheckRecord_eq (r : api_Record) (h : Pr r) : log_CheckRecord r = some (eRec r) := by
 unfold log_CheckRecord
 rw [log_outside_eq, call_some, log_outside_eq, call_some, ver_IsName_eq, call_some]
 unfold eRec eHead
 rw [orL_cons, orL_cons, orL_cons, or2_assoc, or2_assoc, or2_assoc]
 refine wh_step _ _ _ _ (by decide) (wh_step _ _ _ _ (by decide) (wh_step _ _ _ _ (by decide) ?_))
 rw [show orL [] = 0 from rfl, or2_0, jp_eq]
 dsimp only
 rw [ver_Check_eq _ h.1, call_some, orL_cons, or2_assoc]
 by_cases h1 : vE r.From = 0
 ·refine or2_step _ _ _ ?_
  rw [ver_Check_eq _ h.2, call_some, orL_cons, or2_assoc, show orL [] = 0 from rfl, or2_0]
  by_cases h2 : vE r.To = 0
  ·refine or2_step _ _ _ ?_
   rw [uses_eq, call_some]
   have hb : ((!decide ((((decide (r.Kind = 2)) || (decide (r.Kind = 3))) || (decide (r.Kind = 4)), !decide (r.Kind = 4)).1 = flagV r.From)) || ((!decide ((((decide (r.Kind = 2)) || (decide (r.Kind = 3))) || (decide (r.Kind = 4)), !decide (r.Kind = 4)).2 = flagV r.To)) && (!decide (r.Kind = 6)))) = badF r := by
    unfold badF
    dsimp only
    rw [eq_comm_b _ (flagV r.From), eq_comm_b _ (flagV r.To)]
   refine (congrArg (fun b => bif b then _ else _) hb).trans ?_
   refine wh_step _ _ _ _ (by decide) ?_
   have l1 := vE_len h1
   have l2 := vE_len h2
   rw [order_eq _ _ (by omega) (by omega), call_some]
   unfold eTail
   rw [orL_cons, orL_cons, orL_cons]
   refine wh_step _ _ _ _ (by decide) ?_
   rw [log_outside_eq, call_some]
   refine wh_step _ _ _ _ (by decide) ?_
   rw [ver_IsValue_eq, call_some]
   exact wh_step _ _ _ _ (by decide) rfl
  ·rw [decide_eq_false h2, or2_ne h2]; rfl
 ·rw [decide_eq_false h1, or2_ne h1]; rfl
abbrev Mh := List (Str × log_had)
def toHad (k : Str) (h : log_had) : api_Had := api_Had.mk k h.v h.since
def toH (m : Mh) : List (Str × api_Had) := m.map fun p => (p.1, toHad p.1 p.2)
theorem look_toH : ∀ (m : Mh) (k : Str), alook (toH m) k = (alook m k).map (toHad k)
 | [], _ => rfl
 | p :: m, k => by
  by_cases h : p.1 = k
  ·rw [alook_eq h]
   show alook ((p.1, toHad p.1 p.2) :: toH m) k = _
   rw [alook_eq (p := (p.1, toHad p.1 p.2)) h, ← h]; rfl
  ·rw [alook_ne h]
   show alook ((p.1, toHad p.1 p.2) :: toH m) k = _
   rw [alook_ne (p := (p.1, toHad p.1 p.2)) h, look_toH m k]
theorem aset_toH : ∀ (m : Mh) (k : Str) (h : log_had), aset (toH m) k (toHad k h) = toH (aset m k h)
 | [], _, _ => rfl
 | p :: m, k, h => by
  by_cases e : p.1 = k
  ·rw [aset_eq e]
   show aset ((p.1, toHad p.1 p.2) :: toH m) k _ = _
   rw [aset_eq (p := (p.1, toHad p.1 p.2)) e]; rfl
  ·rw [aset_ne e]
   show aset ((p.1, toHad p.1 p.2) :: toH m) k _ = _
   rw [aset_ne (p := (p.1, toHad p.1 p.2)) e, aset_toH m k h]; rfl
theorem adel_toH : ∀ (m : Mh) (k : Str), adel (toH m) k = toH (adel m k)
 | [], _ => rfl
 | p :: m, k => by
  by_cases e : p.1 = k
  ·rw [adel_eq e]
   show adel ((p.1, toHad p.1 p.2) :: toH m) k = _
   rw [adel_eq (p := (p.1, toHad p.1 p.2)) e]
  ·rw [adel_ne e]
   show adel ((p.1, toHad p.1 p.2) :: toH m) k = _
   rw [adel_ne (p := (p.1, toHad p.1 p.2)) e, adel_toH m k]; rfl
theorem toH_len (m : Mh) : (toH m).length = m.length := List.length_map _
theorem aset_le {V : Type} (m : List (Str × V)) (k : Str) (v : V) : (aset m k v).length ≤ m.length + 1 := by
 rw [len_aset]; split <;> omega
theorem adel_le : ∀ {V : Type} (m : List (Str × V)) (k : Str), (adel m k).length ≤ m.length
 | _, [], _ => Nat.le_refl _
 | _, p :: m, k => by
  by_cases e : p.1 = k
  ·rw [adel_eq e]; simp
  ·rw [adel_ne e]
   have := adel_le m k
   simp only [List.length_cons]; omega
def eqV (a b : api_Version) : Bool := (decide (a.Major = b.Major)) && ((decide (a.Minor = b.Minor)) && ((decide (a.Patch = b.Patch)) && (decide (a.Early = b.Early))))
def dH : log_had := log_had.mk (api_Version.mk 0 0 0 []) 0
def badK (r : api_Record) (q : Option log_had) : Bool :=
 bif decide (r.Kind = 1) then q.isSome
 else bif (((decide (r.Kind = 2)) || (decide (r.Kind = 3))) || (decide (r.Kind = 4))) then !q.isSome || !eqV (q.getD dH).v r.From
 else bif decide (r.Kind = 5) then !q.isSome || !eqV (q.getD dH).v r.To
 else false
def upd (r : api_Record) (m : Mh) : Mh :=
 bif !decide (r.Result = 0) then m
 else bif (((decide (r.Kind = 1)) || (decide (r.Kind = 2))) || (decide (r.Kind = 3))) then aset m r.Pack (log_had.mk r.To r.Time)
 else bif decide (r.Kind = 4) then adel m r.Pack
 else m
theorem upd_le (r : api_Record) (m : Mh) : (upd r m).length ≤ m.length + 1 := by
 unfold upd
 cases !decide (r.Result = 0)
 ·cases (((decide (r.Kind = 1)) || (decide (r.Kind = 2))) || (decide (r.Kind = 3)))
  ·cases decide (r.Kind = 4)
   ·exact Nat.le_succ _
   ·have := adel_le m r.Pack; simp only [cond_true, cond_false]; omega
  ·exact aset_le m _ _
 ·exact Nat.le_succ _
theorem fault_eq (r : api_Record) (last : Int) (m : Mh) : log_table_fault_i1 r last m = some (bif decide (r.Time < last) then 7 else wh (badK r (alook m r.Pack)) 12) := by
 unfold log_table_fault_i1
 cases decide (r.Time < last)
 ·simp only [cond_false, letv_eq, jp_eq]
  unfold badK eqV
  rw [show (log_had.mk (api_Version.mk 0 0 0 []) 0) = dH from rfl]
  generalize alook m r.Pack = q
  by_cases h1 : r.Kind = 1
  ·rw [decide_eq_true h1]; cases q.isSome <;> rfl
  rw [decide_eq_false h1]
  by_cases h2 : r.Kind = 2
  ·rw [decide_eq_true h2]; simp only [cond_true, cond_false, Bool.true_or]; rw [condS]; rfl
  rw [decide_eq_false h2]
  by_cases h3 : r.Kind = 3
  ·rw [decide_eq_true h3]; simp only [cond_true, cond_false, Bool.true_or, Bool.or_true]; rw [condS]; rfl
  rw [decide_eq_false h3]
  by_cases h4 : r.Kind = 4
  ·rw [decide_eq_true h4]; simp only [cond_true, cond_false, Bool.true_or, Bool.or_true]; rw [condS]; rfl
  rw [decide_eq_false h4]
  by_cases h5 : r.Kind = 5
  ·rw [decide_eq_true h5]; simp only [cond_true, cond_false, Bool.or_self]; rw [condS]; rfl
  rw [decide_eq_false h5]
  rfl
 ·rfl
theorem add_eq (r : api_Record) (last : Int) (m : Mh) (hm : m.length ≤ 1000000) : log_table_add_i1 r last m = some (r.Time, upd r m) := by
 unfold log_table_add_i1 upd
 have hl := aset_le m r.Pack (log_had.mk r.To r.Time)
 cases !decide (r.Result = 0)
 ·simp only [cond_false, jp_eq]
  rw [chk_true (by omega)]
  by_cases h1 : r.Kind = 1
  ·rw [decide_eq_true h1]; rfl
  rw [decide_eq_false h1]
  by_cases h2 : r.Kind = 2
  ·rw [decide_eq_true h2]; rfl
  rw [decide_eq_false h2]
  by_cases h3 : r.Kind = 3
  ·rw [decide_eq_true h3]; rfl
  rw [decide_eq_false h3]
  cases decide (r.Kind = 4) <;> rfl
 ·rfl
theorem had_d (k : Str) (q : Option log_had) (v : api_Version) : (!(q.map (toHad k)).isSome || !eqV ((q.map (toHad k)).getD (api_Had.mk [] (api_Version.mk 0 0 0 []) 0)).Version v) = (!q.isSome || !eqV (q.getD dH).v v) := by
 cases q <;> rfl
theorem R_could_eq (r : api_Record) (m : Mh) (hm : m.length ≤ 1000000) : R_could_i1 r (toH m) = some (bif badK r (alook m r.Pack) then (false, toH m) else (true, toH (upd r m))) := by
 unfold R_could_i1
 have hl : (aset (toH m) r.Pack (api_Had.mk r.Pack r.To r.Time)).length ≤ 274877906944 := by
  have := aset_le (toH m) r.Pack (api_Had.mk r.Pack r.To r.Time)
  rw [toH_len] at this; omega
 have hset : aset (toH m) r.Pack (api_Had.mk r.Pack r.To r.Time) = toH (aset m r.Pack (log_had.mk r.To r.Time)) := aset_toH m r.Pack (log_had.mk r.To r.Time)
 simp only [letv_eq, jp_eq]
 rw [chk_true hl, look_toH]
 have hf := had_d r.Pack (alook m r.Pack) r.From
 have ht := had_d r.Pack (alook m r.Pack) r.To
 unfold eqV at hf ht
 have hs : ((alook m r.Pack).map (toHad r.Pack)).isSome = (alook m r.Pack).isSome := by cases alook m r.Pack <;> rfl
 rw [hf, ht, hs, hset, adel_toH]
 unfold badK upd eqV
 generalize (alook m r.Pack).isSome = q
 generalize ((alook m r.Pack).getD dH).v = v
 by_cases h1 : r.Kind = 1
 ·simp only [h1, decide_true, decide_false, cond_true, cond_false, Bool.true_or, Bool.or_true, Bool.or_self, show ((1 : Int) = 5) = False from by simp]
  cases q <;> cases decide (r.Result = 0) <;> rfl
 by_cases h2 : r.Kind = 2
 ·rw [h2]
  cases (!q || !((decide (v.Major = r.From.Major)) && ((decide (v.Minor = r.From.Minor)) && ((decide (v.Patch = r.From.Patch)) && (decide (v.Early = r.From.Early)))))) <;> cases decide (r.Result = 0) <;> rfl
 by_cases h3 : r.Kind = 3
 ·rw [h3]
  cases (!q || !((decide (v.Major = r.From.Major)) && ((decide (v.Minor = r.From.Minor)) && ((decide (v.Patch = r.From.Patch)) && (decide (v.Early = r.From.Early)))))) <;> cases decide (r.Result = 0) <;> rfl
 by_cases h4 : r.Kind = 4
 ·rw [h4]
  cases (!q || !((decide (v.Major = r.From.Major)) && ((decide (v.Minor = r.From.Minor)) && ((decide (v.Patch = r.From.Patch)) && (decide (v.Early = r.From.Early)))))) <;> cases decide (r.Result = 0) <;> rfl
 by_cases h5 : r.Kind = 5
 ·rw [h5]
  cases (!q || !((decide (v.Major = r.To.Major)) && ((decide (v.Minor = r.To.Minor)) && ((decide (v.Patch = r.To.Patch)) && (decide (v.Early = r.To.Early)))))) <;> cases decide (r.Result = 0) <;> rfl
 rw [decide_eq_false h1, decide_eq_false h2, decide_eq_false h3, decide_eq_false h4, decide_eq_false h5]
 cases decide (r.Result = 0) <;> rfl
def eStep (last : Int) (m : Mh) (r : api_Record) : Int := or2 (eRec r) (bif decide (r.Time < last) then 7 else wh (badK r (alook m r.Pack)) 12)
def recsE : Int → Mh → List api_Record → Int
 | _, _, [] => 0
 | last, m, r :: l => or2 (eStep last m r) (recsE r.Time (upd r m) l)
def rowE (l : List api_Record) : Int := bif decide (5000 < (l.length : Int)) then 4 else recsE 0 [] l
def lastT (pre : List api_Record) : Int := match pre.getLast? with
 | none => 0
 | some r => r.Time
theorem rec_loop (L : List api_Record) {f : Nat → api_Record → List (Str × api_Had) → (List (Str × api_Had) → Option Int) → (List (Str × api_Had) → Option Int) → Option Int} {K : List (Str × api_Had) → Option Int} (hK : ∀ s, K s = some 0)
  (hf : ∀ pre r l m nx, L = pre ++ r :: l → Pr r → m.length ≤ 1000000 → f pre.length r (toH m) nx K = bif !decide (eStep (lastT pre) m r = 0) then some (eStep (lastT pre) m r) else nx (toH (upd r m))) :
  ∀ (l pre : List api_Record) (m : Mh), L = pre ++ l → (∀ r ∈ l, Pr r) → m.length + l.length ≤ 1000000 → forL l pre.length f (toH m) K = some (recsE (lastT pre) m l)
 | [], _, _, _, _, _ => by unfold forL; rw [hK]; rfl
 | r :: l, pre, m, he, hp, hm => by
  have hm' : m.length + (l.length + 1) ≤ 1000000 := hm
  unfold forL
  rw [hf pre r l m _ he (hp r (by simp)) (by omega)]
  have ih := rec_loop L hK hf l (pre ++ [r]) (upd r m) (by rw [he]; simp) (fun x hx => hp x (by simp [hx])) (by have := upd_le r m; omega)
  rw [show (pre ++ [r]).length = pre.length + 1 by simp] at ih
  rw [ih, condS]
  have : lastT (pre ++ [r]) = r.Time := by unfold lastT; simp
  rw [this]
  rfl
theorem eRec_time {r : api_Record} (h : eRec r = 0) : 0 ≤ r.Time ∧ r.Time ≤ 1099511627776 := by
 unfold eRec eHead at h
 rw [orL_cons, or2_assoc] at h
 unfold wh at h
 cases hb : (decide (r.Time < 0)) || (decide (1099511627776 < r.Time))
 ·simp only [Bool.or_eq_false_iff, decide_eq_false_iff_not] at hb
  omega
 ·rw [hb] at h
  rw [show (bif true then (3 : Int) else 0) = 3 from rfl, or2_ne (by decide)] at h
  cases h
theorem R_RecordsError_eq (l : List api_Record) (hp : ∀ r ∈ l, Pr r) : R_RecordsError l = some (rowE l) := by
 unfold R_RecordsError rowE
 cases h5 : decide (5000 < (l.length : Int))
 ·have hl := of_decide_eq_false h5
  simp only [cond_false]
  rw [jp_eq]
  refine rec_loop l (fun _ => rfl) (fun pre r rest m nx he hr hm => ?_) l [] [] rfl hp (by simp only [List.length_nil]; omega)
  have hpl : pre.length < l.length := by rw [he]; simp
  rw [R_RecordError_eq r hr, call_some, R_could_eq r m hm]
  simp only [jp_eq, callG_some]
  rw [chk_true (fun hg => by
   simp only [Bool.and_eq_true, decide_eq_true_eq] at hg
   rw [wrapS (by omega) (by omega)]
   omega)]
  unfold eStep
  by_cases h : eRec r = 0
  ·rw [h, or2_0, decide_eq_true rfl, Bool.true_and]
   have ht := eRec_time h
   rcases List.eq_nil_or_concat pre with rfl | ⟨q, x, rfl⟩
   ·have h0 : decide ((0 : Int) < (([] : List api_Record).length : Int)) = false := rfl
    have hd0 : decide (r.Time < 0) = false := decide_eq_false (by omega)
    rw [h0, show lastT [] = 0 from rfl, hd0]
    simp only [Bool.false_and, cond_false, decide_true, cond_true]
    cases badK r (alook m r.Pack) <;> rfl
   ·have hlt : lastT (q.concat x) = x.Time := by unfold lastT; simp
    have h0 : decide ((0 : Int) < ((q.concat x).length : Int)) = true := decide_eq_true (by simp)
    have hw : IntKind.i64.wrap (((q.concat x).length : Int) - 1) = (q.length : Int) := by
     rw [List.length_concat]; rw [wrapS (by omega) (by rw [List.length_concat] at hpl; omega)]; omega
    have hg : l.getD q.length (api_Record.mk 0 0 [] (api_Version.mk 0 0 0 []) (api_Version.mk 0 0 0 []) 0 []) = x := by
     rw [he, List.concat_eq_append, List.append_assoc, List.getD_eq_getElem?_getD, List.getElem?_append_right (Nat.le_refl _)]; simp
    rw [h0, hw, Int.toNat_natCast, hg, hlt]
    simp only [Bool.true_and]
    cases decide (r.Time < x.Time)
    ·simp only [cond_false, decide_true, cond_true]
     cases badK r (alook m r.Pack) <;> rfl
    ·rfl
  ·rw [or2_ne h, decide_eq_false h]
   simp only [Bool.false_and, cond_false, h, decide_false, Bool.not_false, cond_true]
 ·rfl
abbrev RZ : api_Record := api_Record.mk 0 0 [] (api_Version.mk 0 0 0 []) (api_Version.mk 0 0 0 []) 0 []
def rEq (x y : api_Record) : Bool := (decide (x.Time = y.Time)) && ((decide (x.Kind = y.Kind)) && ((decide (x.Pack = y.Pack)) && ((decide (x.From.Major = y.From.Major)) && ((decide (x.From.Minor = y.From.Minor)) && ((decide (x.From.Patch = y.From.Patch)) && ((decide (x.From.Early = y.From.Early)) && ((decide (x.To.Major = y.To.Major)) && ((decide (x.To.Minor = y.To.Minor)) && ((decide (x.To.Patch = y.To.Patch)) && ((decide (x.To.Early = y.To.Early)) && ((decide (x.Result = y.Result)) && (decide (x.Note = y.Note)))))))))))))
theorem rEq_self (x : api_Record) : rEq x x = true := by unfold rEq; simp only [decide_true, Bool.and_self]
theorem anyOf_one {α β : Type} {p : α → Prop} {k : α → Option β} {z : β} (x0 : α) (h0 : p x0) (h : ∀ x, p x → k x = some z) : anyOf p k = some z := by
 unfold anyOf
 have he : ∃ z, ∀ x, p x → k x = some z := ⟨z, h⟩
 rw [dif_pos he]
 have := he.choose_spec x0 h0
 rw [h x0 h0] at this
 exact this.symm
theorem clone_eq (l : List api_Record) (h : l.length ≤ 274877906944) : slices_Clone_api_Record_api_Record_new l = some l := by
 unfold slices_Clone_api_Record_api_Record_new
 refine anyOf_one false (fun e => by cases e) fun b hb => ?_
 cases b
 ·simp only [cond_false, List.nil_append]
  exact chk_true h _
 ·rw [hb rfl]; rfl
theorem landed_eq : Law_landed = some true := by
 unfold Law_landed
 rw [ver_IsName_eq]
 decide +kernel
theorem recsE_take : ∀ (l : List api_Record) (last : Int) (m : Mh) (k : Nat), recsE last m l = 0 → recsE last m (l.take k) = 0
 | [], _, _, _, _ => by simp [recsE]
 | _ :: _, _, _, 0, _ => rfl
 | r :: l, last, m, k + 1, h => by
  simp only [List.take_succ_cons, recsE] at *
  have h1 : eStep last m r = 0 := by
   by_cases h1 : eStep last m r = 0
   ·exact h1
   ·rw [or2_ne h1] at h; exact h
  rw [h1, or2_0] at h
  rw [h1, or2_0]
  exact recsE_take l _ _ k h
section
variable {K V : Type} [DecidableEq K]
end
section
variable {α S β : Type}
end
section
variable {V A : Type}
end
theorem or2_zero (a b : Int) : or2 a b = 0 ↔ a = 0 ∧ b = 0 := by
 unfold or2
 by_cases h : a = 0
 ·simp [h]
 ·rw [decide_eq_false h, Bool.not_false, cond_true]
  simp [h]
def mapOf : Mh → List api_Record → Mh
 | m, [] => m
 | m, r :: l => mapOf (upd r m) l
theorem mapOf_le : ∀ (l : List api_Record) (m : Mh), (mapOf m l).length ≤ m.length + l.length
 | [], _ => Nat.le_refl _
 | r :: l, m => by
  have h1 := mapOf_le l (upd r m)
  have h2 := upd_le r m
  simp only [mapOf, List.length_cons]; omega
theorem wh_zero {b : Bool} {e : Int} (he : e ≠ 0) (h : wh b e = 0) : b = false := by
 cases b
 ·rfl
 ·exact absurd h he
def vtext (v : api_Version) : Str :=
 bif !decide (v.Early = []) then ((((Go.Lib.itoa v.Major ++ [46]) ++ Go.Lib.itoa v.Minor) ++ [46]) ++ Go.Lib.itoa v.Patch) ++ ([45] ++ v.Early)
 else (((Go.Lib.itoa v.Major ++ [46]) ++ Go.Lib.itoa v.Minor) ++ [46]) ++ Go.Lib.itoa v.Patch
theorem Itoa_eq {n : Int} (h0 : 0 ≤ n) (h1 : n ≤ 1000000000) : strconv_Itoa n = some (Go.Lib.itoa n) := by
 unfold strconv_Itoa
 exact chk_true (by omega) _
theorem itoa_len {n : Int} (h0 : 0 ≤ n) (h1 : n ≤ 1000000000) : (Go.Lib.itoa n).length ≤ 21 := Go.Lib.itoa_length_le n (by omega) (by omega)
theorem vE_rng {v : api_Version} (h : vE v = 0) : (0 ≤ v.Major ∧ v.Major ≤ 999999) ∧ (0 ≤ v.Minor ∧ v.Minor ≤ 999999) ∧ (0 ≤ v.Patch ∧ v.Patch ≤ 999999) := by
 unfold vE at h
 cases hb : rngOk v.Major && (rngOk v.Minor && rngOk v.Patch)
 ·rw [hb] at h; cases h
 ·unfold rngOk at hb
  simp only [Bool.and_eq_true, decide_eq_true_eq] at hb
  exact hb
theorem vtext_len {v : api_Version} (h : vE v = 0) : (vtext v).length ≤ 110 := by
 obtain ⟨⟨a1, a2⟩, ⟨b1, b2⟩, ⟨c1, c2⟩⟩ := vE_rng h
 have l1 := itoa_len a1 (by omega)
 have l2 := itoa_len b1 (by omega)
 have l3 := itoa_len c1 (by omega)
 have l4 := vE_len h
 unfold vtext
 cases !decide (v.Early = []) <;> simp only [cond_true, cond_false, List.length_append, List.length_cons, List.length_nil] <;> omega
theorem text_eq {v : api_Version} (h : vE v = 0) : ver_text v = some (vtext v) := by
 obtain ⟨⟨a1, a2⟩, ⟨b1, b2⟩, ⟨c1, c2⟩⟩ := vE_rng h
 have l1 := itoa_len a1 (by omega)
 have l2 := itoa_len b1 (by omega)
 have l3 := itoa_len c1 (by omega)
 have l4 := vE_len h
 unfold ver_text
 rw [Itoa_eq a1 (by omega), Itoa_eq b1 (by omega), Itoa_eq c1 (by omega)]
 simp only [call_some]
 iterate 6 rw [chk_true (by simp only [List.length_append, List.length_cons, List.length_nil]; omega)]
 rw [condS]; rfl
theorem VText_eq {v : api_Version} (h : vE v = 0) : R_VersionText v = some (vtext v) := by
 rw [show R_VersionText v = ver_text v from rfl, text_eq h]
theorem Print_eq {v : api_Version} (h : vE v = 0) : ver_Print v = some (vtext v, 0) := by
 unfold ver_Print
 rw [ver_Check_eq v (by have := vE_len h; omega), call_some, h, decide_eq_true rfl, Bool.not_true, cond_false, text_eq h, call_some]
def hN (n : Nat) (c : UInt8) : Nat := ((n ^^^ c.toNat) * 1099511628211) % 18446744073709551616
def hF (n : Nat) (s : Str) : Nat := s.foldl hN n
theorem dg_plain : ∀ m : Fin 16, dg m.val ≠ 32 ∧ dg m.val ≠ 10 := by decide
theorem hx_plain : ∀ (k n : Nat), ∀ c ∈ hx k n, c ≠ 32 ∧ c ≠ 10
 | 0, _, c, h => by cases h
 | k + 1, n, c, h => by
  unfold hx at h
  rcases List.mem_append.1 h with h | h
  ·exact hx_plain k _ c h
  ·rw [List.mem_singleton.1 h]; exact dg_plain ⟨n % 16, Nat.mod_lt _ (by decide)⟩
theorem sum_sp (s : Str) : (32 : UInt8) ∉ sumS s := fun h => (hx_plain _ _ _ h).1 rfl
theorem sum_nl (s : Str) : (10 : UInt8) ∉ sumS s := fun h => (hx_plain _ _ _ h).2 rfl
theorem esc_nl : ∀ c : UInt8, (10 : UInt8) ∉ esc c := fun c => u8all (p := fun c => (10 : UInt8) ∉ esc c) (by decide +kernel) c
theorem body_nl (t : Str) : (10 : UInt8) ∉ body t := fun h => by
 unfold body at h
 obtain ⟨c, _, h⟩ := List.mem_flatMap.1 h
 exact esc_nl c h
theorem quote_nl (t : Str) : (10 : UInt8) ∉ quoteS t := fun h => by
 unfold quoteS at h
 simp only [List.mem_cons, List.mem_append, List.not_mem_nil, or_false] at h
 rcases h with h | h | h
 ·cases h
 ·exact body_nl t h
 ·cases h
def six (ws : List Str) (t : Str) : Str := ws.foldr (fun w acc => w ++ 32 :: acc) t
def Quoted (B : Str) : Prop := ∃ ws y, ws.length = 6 ∧ (∀ w ∈ ws, (32 : UInt8) ∉ w) ∧ B = six ws (quoteS y)
def Ln (X : Str) : Prop := Quoted X ∧ (10 : UInt8) ∉ X
def logT (p : Str) : List Str → Str
 | [] => []
 | X :: Xs => X ++ 32 :: (sumS (p ++ X) ++ 10 :: logT (sumS (p ++ X)) Xs)
def sumL (p : Str) : List Str → Str
 | [] => p
 | X :: Xs => sumL (sumS (p ++ X)) Xs
theorem sumL_app : ∀ (a b : List Str) (p : Str), sumL p (a ++ b) = sumL (sumL p a) b
 | [], _, _ => rfl
 | X :: a, b, p => sumL_app a b _
def Bad (p s : Str) : Prop := (10 : UInt8) ∉ s ∨ ∃ line rest, s = line ++ 10 :: rest ∧ (10 : UInt8) ∉ line ∧ ((32 : UInt8) ∉ line ∨ ∃ B W, line = B ++ 32 :: W ∧ (32 : UInt8) ∉ W ∧ (W ≠ sumS (p ++ B) ∨ ¬ Quoted B))
theorem head_len (p X : Str) : (X ++ 32 :: sumS (p ++ X)).length = X.length + 17 := by simp [sumS_length]
theorem head_nl {p X : Str} (h : Ln X) : (10 : UInt8) ∉ X ++ 32 :: sumS (p ++ X) := fun e => by
 simp only [List.mem_append, List.mem_cons] at e
 rcases e with e | e | e
 ·exact h.2 e
 ·cases e
 ·exact sum_nl _ e
theorem logT_cons (p X : Str) (Xs : List Str) : logT p (X :: Xs) = (X ++ 32 :: sumS (p ++ X)) ++ 10 :: logT (sumS (p ++ X)) Xs := by simp [logT]
theorem blank_last : ∀ {A : Str}, (32 : UInt8) ∈ A → ∃ B W, A = B ++ 32 :: W ∧ (32 : UInt8) ∉ W
 | [], h => by cases h
 | x :: A, h => by
  by_cases h1 : (32 : UInt8) ∈ A
  ·obtain ⟨B, W, rfl, h2⟩ := blank_last h1
   exact ⟨x :: B, W, rfl, h2⟩
  ·rcases List.mem_cons.1 h with rfl | h
   ·exact ⟨[], A, rfl, h1⟩
   ·exact absurd h h1
theorem lastB_run (s : Str) (hl : s.length ≤ 17179869184) (T : Int) (hT : ((32 : UInt8) ∉ s ∧ T = -1) ∨ ∃ b : Nat, T = b ∧ ∃ h : b < s.length, s[b] = 32 ∧ ∀ j (h : j < s.length), b < j → s[j] ≠ 32) : internal_bytealg_LastIndexByteString s 32 = some T := by
 unfold internal_bytealg_LastIndexByteString
 obtain ⟨N, hN⟩ : ∃ N, Fuel = N := ⟨_, rfl⟩
 have hN2 : 1099511627776 ≤ N := hN ▸ fuel_ge
 rw [hN]
 clear hN
 simp only [jp_eq]
 refine loopN_run (S := Int) (fun st => ∃ i : Nat, st = (i : Int) - 1 ∧ i ≤ s.length ∧ ∀ j (h : j < s.length), i ≤ j → s[j] ≠ 32) (fun st => (st + 1).toNat) (fun _ => some T) ?_ N _ ⟨s.length, by rw [wrapS (by omega) (by omega)], Nat.le_refl _, fun j h h' => by omega⟩ (by rw [wrapS (by omega) (by omega)]; omega)
 rintro _ nx ⟨i, rfl, hi, hb⟩ hnx
 cases i with
 | zero =>
  rw [decide_eq_false (by omega), cond_false]
  rcases hT with ⟨_, rfl⟩ | ⟨b, _, h, hs, _⟩
  ·rfl
  ·exact absurd hs (hb b h (by omega))
 | succ j =>
  rw [show (((j + 1 : Nat) : Int) - 1) = (j : Int) by omega, decide_eq_true (by omega), cond_true, idxS_eq (by omega)]
  by_cases h32 : s[j]'(by omega) = 32
  ·rw [h32]
   refine (bif_t (by decide) _ _).trans ?_
   rcases hT with ⟨hn, _⟩ | ⟨b, rfl, h, hs, hlast⟩
   ·exact absurd (h32 ▸ List.getElem_mem (by omega)) hn
   ·have h1 : ¬ j + 1 ≤ b := fun e => hb b h e hs
    have h2 : ¬ b < j := fun e => hlast j (by omega) e h32
    rw [show j = b by omega]
  ·rw [decide_eq_false (fun e => h32 (UInt8.toNat_inj.1 (by have : ((s[j]'(by omega)).toNat : Int) = 32 := e; show (s[j]'(by omega)).toNat = 32; omega))), cond_false]
   refine hnx _ ⟨j, by rw [wrapS (by omega) (by omega)], by omega, fun q hq hjq => ?_⟩ (by rw [wrapS (by omega) (by omega)]; omega)
   rcases Nat.eq_or_lt_of_le hjq with rfl | h
   ·exact h32
   ·exact hb q hq h
theorem lastB_none {s : Str} (h : (32 : UInt8) ∉ s) (hl : s.length ≤ 17179869184) : strings_LastIndexByte s 32 = some (-1) := by
 unfold strings_LastIndexByte
 rw [lastB_run s hl (-1) (.inl ⟨h, rfl⟩)]; rfl
theorem lastB_at {B W : Str} (h : (32 : UInt8) ∉ W) : ∃ hb : B.length < (B ++ 32 :: W).length, (B ++ 32 :: W)[B.length] = 32 ∧ ∀ j (h : j < (B ++ 32 :: W).length), B.length < j → (B ++ 32 :: W)[j] ≠ 32 := by
 refine ⟨by simp, by rw [List.getElem_append_right (Nat.le_refl _)]; simp, fun j hj hb e => ?_⟩
 rw [List.getElem_append_right (by omega)] at e
 obtain ⟨q, hq⟩ : ∃ q, j - B.length = q + 1 := ⟨j - B.length - 1, by omega⟩
 simp only [hq, List.getElem_cons_succ] at e
 exact h (e ▸ List.getElem_mem _)
theorem lastB_some {B W : Str} (h : (32 : UInt8) ∉ W) (hl : (B ++ 32 :: W).length ≤ 17179869184) : strings_LastIndexByte (B ++ 32 :: W) 32 = some (B.length : Int) := by
 unfold strings_LastIndexByte
 rw [lastB_run _ hl _ (.inr ⟨B.length, rfl, lastB_at h⟩)]; rfl
def splitK : Nat → Str → List Str
 | 0, s => [s]
 | k + 1, s => if (32 : UInt8) ∈ s then (cutAt 32 s).1 :: splitK k (cutAt 32 s).2.1 else [s]
theorem splitK_none {s : Str} (h : (32 : UInt8) ∉ s) : ∀ k, splitK k s = [s]
 | 0 => rfl
 | k + 1 => if_neg h
theorem splitN_eq (s : Str) (hs : s.length ≤ 17179869184) : strings_SplitN s [32] 7 = some (splitK 6 s) := by
 have key : strings_genSplit s [32] 0 7 = some (splitK 6 s) := by
  unfold strings_genSplit
  obtain ⟨N, hN⟩ : ∃ N, Fuel = N := ⟨_, rfl⟩
  have hN2 : 1099511627776 ≤ N := hN ▸ fuel_ge
  rw [hN]
  clear hN
  simp only [jp_eq, show decide ((7 : Int) = 0) = false from rfl, show decide ((7 : Int) < 0) = false from rfl, show decide (([32] : Str) = []) = false from rfl, cond_true, cond_false]
  simp only [wrap1 s.length (by omega)]
  obtain ⟨M, hM, hM7, hMs⟩ : ∃ M : Nat, min (7 : Int) ((s.length + 1 : Nat) : Int) = ((M + 1 : Nat) : Int) ∧ M ≤ 6 ∧ (M = 6 ∨ M = s.length) := ⟨min 6 s.length, by omega, by omega, by omega⟩
  rw [hM, chk_true (by omega)]
  have hw : IntKind.i64.wrap (((M + 1 : Nat) : Int) - 1) = ((M : Nat) : Int) := by rw [wrapS (by omega) (by omega)]; omega
  simp only [hw, Int.toNat_natCast]
  refine (loopN_run (S := Str × Int × List Str) (fun st => ∃ i : Nat, st.2.1 = i ∧ st.2.2.length = M + 1 ∧ i ≤ M ∧ i + st.1.length ≤ s.length) (fun st => M - st.2.1.toNat)
   (fun st => some (st.2.2.take st.2.1.toNat ++ splitK (6 - st.2.1.toNat) st.1)) ?_ N _ ⟨0, rfl, by simp, by omega, by simp⟩ (by simp only; omega)).trans ?_
  ·rintro ⟨t, i', o⟩ nx ⟨i, rfl, ho, hi, ht⟩ hnx
   simp only at ho ht hi hnx ⊢
   simp only [index_eq, call_some]
   have stop : (32 : UInt8) ∉ t ∨ i = 6 → (chk (0 ≤ (i : Int) ∧ (i : Int) < (o.length : Int)) <| chk (0 ≤ IntKind.i64.wrap ((i : Int) + 1) ∧ IntKind.i64.wrap ((i : Int) + 1) ≤ ((List.set o i t).length : Int)) <| some (List.take ((IntKind.i64.wrap ((i : Int) + 1)).toNat) (List.set o i t))) = some (o.take i ++ splitK (6 - i) t) := fun h => by
    rw [chk_true (by omega), wrap1 _ (by omega)]
    simp only [Int.toNat_natCast, List.length_set]
    rw [chk_true (by omega), set_take o _ _ (by omega)]
    rcases h with h | rfl
    ·rw [splitK_none h]
    ·rfl
   by_cases hi2 : i < M
   ·rw [decide_eq_true (by omega), cond_true]
    by_cases hmem : (32 : UInt8) ∈ t
    ·obtain ⟨h1, h2, h3⟩ := cutAt_some hmem
     have hl := (cutAt_len 32 t).2.2 h1
     obtain ⟨t1, t2⟩ := cutAt_take hmem
     rw [ixb_some hmem, decide_eq_false (by omega), cond_false]
     have hw3 : IntKind.i64.wrap (((cutAt 32 t).1.length : Int) + 0) = ((cutAt 32 t).1.length : Int) := by rw [wrapS (by omega) (by omega)]; omega
     have hw4 : IntKind.i64.wrap (((cutAt 32 t).1.length : Int) + (([32] : Str).length : Int)) = (((cutAt 32 t).1.length + 1 : Nat) : Int) := wrap1 _ (by omega)
     simp only [hw3, hw4, wrap1 i (by omega), Int.toNat_natCast]
     rw [chk_true (by omega), chk_true (by omega), chk_true (by omega)]
     simp only [t1, t2]
     rw [hnx _ ⟨i + 1, rfl, by simpa using ho, by omega, by simp only; omega⟩ (by simp only [Int.toNat_natCast]; omega)]
     simp only [Int.toNat_natCast]
     rw [set_take o i _ (by omega), show 6 - i = (6 - (i + 1)) + 1 by omega, splitK, if_pos hmem]
     simp
    ·rw [ixb_none hmem, bif_t (by decide)]
     exact stop (.inl hmem)
   ·obtain rfl : i = M := by omega
    rw [decide_eq_false (by omega), cond_false]
    refine stop ?_
    rcases hMs with h | h
    ·exact .inr h
    ·refine .inl fun hm => ?_
     have : t.length = 0 := by omega
     rw [List.length_eq_zero_iff.1 this] at hm
     cases hm
  ·simp
 unfold strings_SplitN
 rw [key]; rfl
theorem splitK_six : ∀ (ws : List Str) (t : Str), (∀ w ∈ ws, (32 : UInt8) ∉ w) → splitK ws.length (six ws t) = ws ++ [t]
 | [], t, _ => rfl
 | w :: ws, t, h => by
  have hw := h w (by simp)
  show splitK (ws.length + 1) (w ++ 32 :: six ws t) = _
  rw [splitK, if_pos (by simp), cutAt_app hw]
  simp only
  rw [splitK_six ws t fun x hx => h x (by simp [hx])]; rfl
theorem splitK_back : ∀ (k : Nat) (s : Str), (splitK k s).length = k + 1 → ∃ ws t, splitK k s = ws ++ [t] ∧ ws.length = k ∧ (∀ w ∈ ws, (32 : UInt8) ∉ w) ∧ s = six ws t
 | 0, s, _ => ⟨[], s, rfl, rfl, by simp, rfl⟩
 | k + 1, s, h => by
  rw [splitK] at h ⊢
  by_cases hm : (32 : UInt8) ∈ s
  ·rw [if_pos hm] at h ⊢
   obtain ⟨h1, h2, h3⟩ := cutAt_some hm
   obtain ⟨ws, t, e1, e2, e3, e4⟩ := splitK_back k (cutAt 32 s).2.1 (by simpa using h)
   refine ⟨(cutAt 32 s).1 :: ws, t, by rw [e1]; rfl, by rw [List.length_cons, e2], fun w hw => ?_, ?_⟩
   ·rcases List.mem_cons.1 hw with rfl | hw
    ·exact h3
    ·exact e3 w hw
   ·show s = (cutAt 32 s).1 ++ 32 :: six ws t
    rw [← e4]; exact h2
  ·rw [if_neg hm] at h
   simp at h
theorem splitK_mem : ∀ (k : Nat) (s p : Str), p ∈ splitK k s → p.length ≤ s.length
 | 0, s, p, h => by rw [splitK, List.mem_singleton] at h; rw [h]; exact Nat.le_refl _
 | k + 1, s, p, h => by
  rw [splitK] at h
  split at h
  ·have hl := cutAt_len 32 s
   rcases List.mem_cons.1 h with rfl | h
   ·exact hl.1
   ·exact Nat.le_trans (splitK_mem k _ p h) hl.2.1
  ·rw [List.mem_singleton] at h; rw [h]; exact Nat.le_refl _
theorem write_eq (s o : Str) (h : (o ++ s).length ≤ 274877906944) : strings_Builder_WriteString_i1 s o = some ((s.length : Int), o ++ s) := by
 unfold strings_Builder_WriteString_i1 strings_Builder_copyCheck_np
 rw [call_some, chk_true h]
theorem join_eq (sep a : Str) (l : List Str) (hsep : sep.length ≤ 1) (hl : l.length ≤ 1000000) (hs : a.length + (l.map List.length).sum ≤ 270000000000) : strings_Join (a :: l) sep = some (a ++ (l.map (sep ++ ·)).flatten) := by
 unfold strings_Join
 simp only [jp_eq]
 rw [bif_f (decide_eq_false (by simp; omega))]
 rcases l with _ | ⟨b, l⟩
 ·rw [bif_t (decide_eq_true (show (([a] : List Str).length : Int) = 1 from rfl))]
  show idx [a] ((0 : Nat) : Int) _ = _
  rw [idx_eq (by simp)]
  simp
 rw [bif_f (decide_eq_false (by simp; omega))]
 simp only [List.length_cons] at hl
 have sumloop : ∀ (q : List Str) (i : Nat) (n : Nat) (k : Int → Option Str), n + (q.map List.length).sum ≤ 274877906000 →
   forL q i (fun i_62 s_64 n_57 nx_61 k_60 => bif decide ((IntKind.i64.wrap (9223372036854775807 - n_57)) < (s_64.length : Int)) then none else nx_61 (IntKind.i64.wrap (n_57 + (s_64.length : Int)))) (n : Int) k = k ((n + (q.map List.length).sum : Nat) : Int) := by
  intro q
  induction q with
  | nil => intro i n k h; simp [forL]
  | cons x q ih =>
   intro i n k h
   simp only [List.map_cons, List.sum_cons] at h
   unfold forL
   dsimp only
   rw [wrapS (n := 9223372036854775807 - (n : Int)) (by omega) (by omega), bif_f (decide_eq_false (by omega)), show (n : Int) + (x.length : Int) = ((n + x.length : Nat) : Int) by omega, wrapN _ (by omega)]
   rw [ih (i + 1) (n + x.length) k (by omega)]
   simp only [List.map_cons, List.sum_cons, Nat.add_assoc]
 have wl : ∀ (q : List Str) (i : Nat) (o : Str), q.length ≤ 1000000 → o.length + (q.map List.length).sum + q.length ≤ 274877906944 →
   forL q i (fun i_52 s_54 o1_46 nx_51 k_50 =>
    call (strings_Builder_WriteString_i1 sep o1_46) fun r_55 =>
    call (strings_Builder_WriteString_i1 s_54 r_55.2) fun r_56 =>
    nx_51 r_56.2) o (fun o1_46 => call (strings_Builder_String_i1 o1_46) fun r_39 => some r_39) = some (o ++ (q.map (sep ++ ·)).flatten) := by
  intro q
  induction q with
  | nil => intro i o _ h; simp [forL, strings_Builder_String_i1, call_some]
  | cons x q ih =>
   intro i o h1 h
   simp only [List.map_cons, List.sum_cons, List.length_cons] at h h1
   unfold forL
   dsimp only
   rw [write_eq _ _ (by simp; omega), call_some]
   dsimp only
   rw [write_eq _ _ (by simp; omega), call_some]
   dsimp only
   rw [ih _ _ (by omega) (by simp; omega)]
   simp
 simp only [List.map_cons, List.sum_cons] at hs
 have fin : ∀ n0 : Nat, n0 ≤ 1000001 → forL (a :: b :: l) 0 (fun i_62 s_64 n_57 nx_61 k_60 => bif decide ((IntKind.i64.wrap (9223372036854775807 - n_57)) < (s_64.length : Int)) then none else nx_61 (IntKind.i64.wrap (n_57 + (s_64.length : Int)))) (n0 : Int) (fun n_57 => call (strings_Builder_Grow n_57 []) fun r_17 =>
   idx (a :: b :: l) 0 fun s_18 =>
   call (strings_Builder_WriteString_i1 s_18 []) fun r_19 =>
   chk (0 ≤ 1 ∧ 1 ≤ ((a :: b :: l).length : Int)) <|
   forL (List.drop 1 (a :: b :: l)) 0 (fun i_52 s_54 o1_46 nx_51 k_50 =>
    call (strings_Builder_WriteString_i1 sep o1_46) fun r_55 =>
    call (strings_Builder_WriteString_i1 s_54 r_55.2) fun r_56 =>
    nx_51 r_56.2) r_19.2 (fun o1_46 => call (strings_Builder_String_i1 o1_46) fun r_39 => some r_39)) = some (a ++ ((b :: l).map (sep ++ ·)).flatten) := fun n0 h0 => by
  rw [sumloop (a :: b :: l) 0 n0 _ (by simp; omega)]
  unfold strings_Builder_Grow
  rw [chk_true (by simp; omega), call_some]
  show idx (a :: b :: l) ((0 : Nat) : Int) _ = _
  rw [idx_eq (by simp), List.getElem_cons_zero, write_eq _ _ (by simp; omega), call_some, chk_true (by simp; omega)]
  dsimp only
  rw [List.drop_succ_cons, List.drop_zero, wl (b :: l) 0 _ (by simp; omega) (by simp; omega)]
  simp
 rcases sep with _ | ⟨c, _ | ⟨d, sep⟩⟩
 ·rw [bif_f (by decide)]
  exact fin 0 (by omega)
 ·rw [bif_t (decide_eq_true (by simp))]
  have e1 : IntKind.i64.wrap (((a :: b :: l).length : Int) - 1) = ((l.length + 1 : Nat) : Int) := by rw [List.length_cons, List.length_cons, wrapS (by omega) (by omega)]; omega
  rw [e1, chk_true (by omega)]
  have e2 : 1 < IntKind.i64.wrap (Int.tdiv 9223372036854775807 ((l.length + 1 : Nat) : Int)) := by
   have h1 : Int.tdiv 9223372036854775807 ((l.length + 1 : Nat) : Int) = ((9223372036854775807 / (l.length + 1) : Nat) : Int) := by
    rw [Int.tdiv_eq_ediv_of_nonneg (by decide)]; rfl
   have h2 : 9223372036854775807 / 1000001 ≤ 9223372036854775807 / (l.length + 1) := Nat.div_le_div_left (by omega) (by omega)
   have h3 : 9223372036854775807 / (l.length + 1) ≤ 9223372036854775807 := Nat.div_le_self _ _
   rw [h1, wrapN _ h3]
   have : 2 ≤ 9223372036854775807 / 1000001 := by decide
   omega
  rw [bif_f (decide_eq_false (by simp only [List.length_singleton]; omega))]
  have e3 : IntKind.i64.wrap (0 + (IntKind.i64.wrap ((([c] : Str).length : Int) * ((l.length + 1 : Nat) : Int)))) = ((l.length + 1 : Nat) : Int) := by
   rw [show (([c] : Str).length : Int) = 1 from rfl, Int.one_mul, wrapN _ (by omega), Int.zero_add, wrapN _ (by omega)]
  rw [e3]
  exact fin (l.length + 1) (by omega)
 ·simp at hsep
theorem dgc (d : Nat) (h : d < 10) : (UInt8.ofNat (48 + d)).toNat = 48 + d := by
 rw [UInt8.toNat_ofNat']; omega
theorem dgc_B (d : Nat) (h : d < 10) : digitB (UInt8.ofNat (48 + d)) = true := by
 unfold digitB
 rw [dgc d h, Bool.and_eq_true, decide_eq_true_eq, decide_eq_true_eq]; omega
theorem val_snoc (l : Str) (c : UInt8) : val 0 (l ++ [c]) = val 0 l * 10 + (c.toNat - 48) := by unfold val; rw [List.foldl_append]; rfl
structure DD (u : Nat) (l : Str) : Prop where
 dig : l.all digitB = true
 vl : val 0 l = u
 ne : l ≠ []
 hd : u ≠ 0 → (l.getD 0 0).toNat ≠ 48
 len : ∀ k, u < 10 ^ (k + 1) → l.length ≤ k + 1
theorem dd (u : Nat) : DD u (Go.Lib.decDigits u) := by
 induction u using Nat.strongRecOn with
 | ind u ih =>
  unfold Go.Lib.decDigits
  by_cases h : u < 10
  ·rw [dif_pos h]
   refine ⟨by rw [List.all_cons, dgc_B u h]; rfl, by simp only [val, List.foldl_cons, List.foldl_nil]; rw [dgc u h]; omega, by simp, fun h0 => ?_, fun k _ => by simp⟩
   show (UInt8.ofNat (48 + u)).toNat ≠ 48
   rw [dgc u h]; omega
  ·rw [dif_neg h]
   have q := ih (u / 10) (by omega)
   have hm : u % 10 < 10 := Nat.mod_lt _ (by decide)
   refine ⟨by rw [List.all_append, q.dig, List.all_cons, dgc_B _ hm]; rfl, by rw [val_snoc, q.vl, dgc _ hm]; omega, by simp, fun _ => ?_, fun k hk => ?_⟩
   ·have hl := List.length_pos_iff.2 q.ne
    rw [List.getD_eq_getElem?_getD, List.getElem?_append_left hl, ← List.getD_eq_getElem?_getD]
    exact q.hd (by omega)
   ·rw [List.length_append, List.length_singleton]
    cases k with
    | zero => simp at hk; omega
    | succ k =>
     rw [Nat.pow_succ] at hk
     have := q.len k (by omega)
     omega
theorem itoa_nat {n : Int} (h : 0 ≤ n) : Go.Lib.itoa n = Go.Lib.decDigits n.toNat := by
 obtain ⟨u, rfl⟩ := Int.eq_ofNat_of_zero_le h
 rw [Go.Lib.itoa_nonneg]; simp
theorem digit_ne {c : UInt8} (h : digitB c = true) : c ≠ 32 ∧ c ≠ 10 ∧ c ≠ 45 ∧ c ≠ 46 := by
 have := dg_range h
 refine ⟨?_, ?_, ?_, ?_⟩ <;> (rintro rfl; revert this; decide)
theorem digs_no {l : Str} (h : l.all digitB = true) : (32 : UInt8) ∉ l ∧ (10 : UInt8) ∉ l ∧ (45 : UInt8) ∉ l ∧ (46 : UInt8) ∉ l := by
 have k := List.all_eq_true.1 h
 exact ⟨fun e => (digit_ne (k _ e)).1 rfl, fun e => (digit_ne (k _ e)).2.1 rfl, fun e => (digit_ne (k _ e)).2.2.1 rfl, fun e => (digit_ne (k _ e)).2.2.2 rfl⟩
def numL (n : Nat) (s : Str) : Bool := !((decide (s = []) || decide ((n : Int) < (s.length : Int))) || (decide (((s.getD 0 0).toNat : Int) = 48) && !decide (s = [48]))) && s.all digitB
theorem atoi_digits {s : Str} (h : s.all digitB = true) (hne : s ≠ []) (hl : s.length ≤ 18) : atoiV s = (val 0 s : Nat) ∧ atoiE s = true := by
 refine ⟨by rw [atoiV_short hl, atoiN_val h hne], ?_⟩
 rw [atoiE_short hl]
 cases s with
 | nil => exact absurd rfl hne
 | cons c l =>
  have hc : digitB c = true := by simp only [List.all_cons, Bool.and_eq_true] at h; exact h.1
  have hr := dg_range hc
  have h1 : (c == 45) = false := by
   rw [beq_eq_false_iff_ne]; rintro rfl; revert hr; decide
  have h2 : (c == 43) = false := by
   rw [beq_eq_false_iff_ne]; rintro rfl; revert hr; decide
  unfold Go.Lib.atoi Go.Lib.decNat
  simp only [h1, h2, Bool.false_eq_true, if_false, List.isEmpty_cons, decFrom_val _ 0 h, Option.map_some, Option.isSome_some]
theorem numL_dd {u n : Nat} (hu : u < 10 ^ (n + 1)) : numL (n + 1) (Go.Lib.decDigits u) = true := by
 have q := dd u
 have hl := q.len n hu
 unfold numL
 rw [q.dig, decide_eq_false q.ne, decide_eq_false (by omega), Bool.and_true, Bool.false_or, Bool.false_or]
 by_cases h0 : u = 0
 ·subst h0
  rw [show Go.Lib.decDigits 0 = [48] by unfold Go.Lib.decDigits; rw [dif_pos (by decide)]; rfl]
  decide
 ·rw [decide_eq_false (fun e => q.hd h0 (by omega))]; rfl
theorem log_number_eq (s : Str) : log_number s = some (bif numL 18 s then (((val 0 s : Nat) : Int), true) else (0, false)) := by
 unfold log_number numL
 by_cases hA : s = []
 ·subst hA; rfl
 have hpos := List.length_pos_iff.2 hA
 rw [decide_eq_false hA, chk_true (fun _ => by omega)]
 by_cases hB : (18 : Int) < (s.length : Int)
 ·rw [decide_eq_true hB, show decide (((18 : Nat) : Int) < (s.length : Int)) = true from decide_eq_true hB]; rfl
 rw [decide_eq_false hB, show decide (((18 : Nat) : Int) < (s.length : Int)) = false from decide_eq_false hB]
 cases hC : (decide (((s.getD 0 0).toNat : Int) = 48) && !decide (s = ([48] : Str)))
 ·simp only [Bool.or_self, Bool.or_false, cond_false, Bool.not_false, Bool.true_and, jp_eq]
  rw [forL_all digitB (fun i x nx k => by
   unfold digitB
   by_cases h1 : ((x.toNat : Int) < 48)
   ·rw [decide_eq_true h1, show decide (48 ≤ (x.toNat : Int)) = false from decide_eq_false (by omega)]; rfl
   ·by_cases h2 : (57 < (x.toNat : Int))
    ·rw [decide_eq_true h2, show decide ((x.toNat : Int) ≤ 57) = false from decide_eq_false (by omega), Bool.or_true, Bool.and_false]; rfl
    ·rw [decide_eq_false h1, decide_eq_false h2, show decide (48 ≤ (x.toNat : Int)) = true from decide_eq_true (by omega), show decide ((x.toNat : Int) ≤ 57) = true from decide_eq_true (by omega)]; rfl)]
  cases hD : s.all digitB
  ·rfl
  ·obtain ⟨e1, e2⟩ := atoi_digits hD hA (by omega)
   unfold strconv_Atoi
   rw [cond_true, cond_true, call_some, e1, e2]
 ·rfl
theorem ver_number_eq (s : Str) : ver_number s = some (bif numL 9 s then (((val 0 s : Nat) : Int), true) else (0, false)) := by
 unfold ver_number numL
 rw [each3_eq, call_some]
 unfold eachOk
 by_cases hA : s = []
 ·subst hA; rfl
 have hpos := List.length_pos_iff.2 hA
 rw [decide_eq_false hA, chk_true (fun _ => by omega)]
 by_cases hB : (9 : Int) < (s.length : Int)
 ·rw [show decide ((s.length : Int) ≤ 9) = false from decide_eq_false (by omega), show decide (((9 : Nat) : Int) < (s.length : Int)) = true from decide_eq_true hB, Bool.and_false, Bool.and_false]; rfl
 rw [show decide ((s.length : Int) ≤ 9) = true from decide_eq_true (by omega), show decide (((9 : Nat) : Int) < (s.length : Int)) = false from decide_eq_false hB]
 cases hD : s.all digitB
 ·simp only [Bool.false_and, Bool.not_false, Bool.true_or, cond_true, Bool.and_false, cond_false]
 cases hC : (decide (((s.getD 0 0).toNat : Int) = 48) && !decide (s = ([48] : Str)))
 ·obtain ⟨e1, e2⟩ := atoi_digits hD hA (by omega)
  unfold strconv_Atoi
  simp only [Bool.not_false, Bool.and_self, Bool.not_true, Bool.or_self, cond_false, cond_true, call_some, e1, e2]
 ·rfl
abbrev VZ : api_Version := api_Version.mk 0 0 0 []
def vP3 (a b d e : Str) : api_Version × Int :=
 bif numL 9 a then (bif numL 9 b then (bif numL 9 d then (bif decide (vE ⟨(val 0 a : Nat), (val 0 b : Nat), (val 0 d : Nat), e⟩ = 0) then (⟨(val 0 a : Nat), (val 0 b : Nat), (val 0 d : Nat), e⟩, 0) else (VZ, vE ⟨(val 0 a : Nat), (val 0 b : Nat), (val 0 d : Nat), e⟩)) else (VZ, 8)) else (VZ, 8)) else (VZ, 8)
def vP (s : Str) : api_Version × Int :=
 bif (cutAt 45 s).2.2 && decide ((cutAt 45 s).2.1 = []) then (VZ, 8) else
 match splitAt 46 (cutAt 45 s).1 with
 | [a, b, d] => vP3 a b d (cutAt 45 s).2.1
 | _ => (VZ, 8)
theorem three {α : Type} {l : List α} (h : l.length = 3) : ∃ a b c, l = [a, b, c] := by
 rcases l with _ | ⟨a, _ | ⟨b, _ | ⟨c, _ | ⟨d, l⟩⟩⟩⟩ <;> simp at h
 exact ⟨a, b, c, rfl⟩
theorem ver_Parse_eq (s : Str) (hs : s.length ≤ 17179869184) : ver_Parse s = some (vP s) := by
 have hc := cutAt_len 45 s
 unfold ver_Parse vP
 rw [cut_eq s 45 (by omega), call_some, split_eq _ 46 (by omega), call_some]
 generalize hc2 : cutAt 45 s = c at hc ⊢
 generalize splitAt 46 c.1 = p
 by_cases hp : p.length = 3
 ·obtain ⟨x, y, w, rfl⟩ := three hp
  rw [show decide (((([x, y, w] : List Str).length : Nat) : Int) = 3) = true from rfl]
  cases hq : c.2.2 && decide (c.2.1 = [])
  ·simp only [Bool.not_true, Bool.or_self, cond_false, jp_eq]
   rw [chk_true (show ((([x, y, w] : List Str).length : Nat) : Int) = 3 from rfl)]
   show idx [x, y, w] ((0 : Nat) : Int) _ = _
   rw [idx_eq (by simp)]
   show call (ver_number x) _ = _
   rw [ver_number_eq, call_some]
   unfold vP3
   cases numL 9 x
   ·rfl
   simp only [cond_true, Bool.not_true, cond_false]
   show idx [x, y, w] ((1 : Nat) : Int) _ = _
   rw [idx_eq (by simp)]
   show call (ver_number y) _ = _
   rw [ver_number_eq, call_some]
   cases numL 9 y
   ·rfl
   simp only [cond_true, Bool.not_true, cond_false]
   show idx [x, y, w] ((2 : Nat) : Int) _ = _
   rw [idx_eq (by simp)]
   show call (ver_number w) _ = _
   rw [ver_number_eq, call_some]
   cases numL 9 w
   ·rfl
   simp only [cond_true, Bool.not_true, cond_false]
   rw [ver_Check_eq _ (show c.2.1.length ≤ _ by omega), call_some, condN]
   simp only [Bool.not_not, condS]
  ·simp only [Bool.or_true, cond_true]
 ·rw [show decide ((p.length : Int) = 3) = false from decide_eq_false (by omega)]
  simp only [Bool.not_false, Bool.true_or, cond_true]
  cases c.2.2 && decide (c.2.1 = [])
  ·simp only [cond_false]
   split
   ·exact absurd rfl hp
   ·rfl
  ·rfl
theorem vP_len (s : Str) : (vP s).1.Early.length ≤ s.length := by
 have hc := (cutAt_len 45 s).2.1
 unfold vP vP3
 cases (cutAt 45 s).2.2 && decide ((cutAt 45 s).2.1 = [])
 ·simp only [cond_false]
  split
  ·rename_i a b d _
   cases numL 9 a <;> cases numL 9 b <;> cases numL 9 d <;> try exact Nat.zero_le _
   simp only [cond_true]
   by_cases hv : vE ⟨(val 0 a : Nat), (val 0 b : Nat), (val 0 d : Nat), (cutAt 45 s).2.1⟩ = 0
   ·rw [decide_eq_true hv]; exact hc
   ·rw [decide_eq_false hv]; exact Nat.zero_le _
  ·exact Nat.zero_le _
 ·exact Nat.zero_le _
theorem vP_text {v : api_Version} (h : vE v = 0) : vP (vtext v) = (v, 0) := by
 obtain ⟨⟨a1, a2⟩, ⟨b1, b2⟩, ⟨c1, c2⟩⟩ := vE_rng h
 have q1 := dd v.Major.toNat
 have q2 := dd v.Minor.toNat
 have q3 := dd v.Patch.toNat
 have n1 := digs_no q1.dig
 have n2 := digs_no q2.dig
 have n3 := digs_no q3.dig
 have hnum : (45 : UInt8) ∉ (((Go.Lib.itoa v.Major ++ [46]) ++ Go.Lib.itoa v.Minor) ++ [46]) ++ Go.Lib.itoa v.Patch := by
  rw [itoa_nat a1, itoa_nat b1, itoa_nat c1]
  simp only [List.mem_append, List.mem_singleton, not_or]
  exact ⟨⟨⟨⟨n1.2.2.1, by decide⟩, n2.2.2.1⟩, by decide⟩, n3.2.2.1⟩
 have hsp : splitAt 46 ((((Go.Lib.itoa v.Major ++ [46]) ++ Go.Lib.itoa v.Minor) ++ [46]) ++ Go.Lib.itoa v.Patch) = [Go.Lib.itoa v.Major, Go.Lib.itoa v.Minor, Go.Lib.itoa v.Patch] := by
  rw [show (((Go.Lib.itoa v.Major ++ [46]) ++ Go.Lib.itoa v.Minor) ++ [46]) ++ Go.Lib.itoa v.Patch = Go.Lib.itoa v.Major ++ 46 :: (Go.Lib.itoa v.Minor ++ 46 :: Go.Lib.itoa v.Patch) by simp, itoa_nat a1, itoa_nat b1, itoa_nat c1, splitAt_app n1.2.2.2, splitAt_app n2.2.2.2, splitAt_none n3.2.2.2]
 have hfin : vP3 (Go.Lib.itoa v.Major) (Go.Lib.itoa v.Minor) (Go.Lib.itoa v.Patch) v.Early = (v, 0) := by
  unfold vP3
  rw [itoa_nat a1, itoa_nat b1, itoa_nat c1, numL_dd (n := 8) (by omega), numL_dd (n := 8) (by omega), numL_dd (n := 8) (by omega), q1.vl, q2.vl, q3.vl]
  have e : (⟨(v.Major.toNat : Int), (v.Minor.toNat : Int), (v.Patch.toNat : Int), v.Early⟩ : api_Version) = v := by
   rw [Int.toNat_of_nonneg a1, Int.toNat_of_nonneg b1, Int.toNat_of_nonneg c1]
  rw [e, h]; rfl
 unfold vP vtext
 by_cases he : v.Early = []
 ·rw [decide_eq_true he, Bool.not_true, cond_false, cutAt_none hnum]
  simp only [Bool.false_and, cond_false]
  rw [hsp, ← he]
  exact hfin
 ·rw [decide_eq_false he, Bool.not_false, cond_true, List.singleton_append, cutAt_app hnum]
  simp only [decide_eq_false he, Bool.and_false, cond_false]
  rw [hsp]
  exact hfin
def KW : List Str := [[], [105, 110, 115, 116, 97, 108, 108], [117, 112, 100, 97, 116, 101], [98, 97, 99, 107], [114, 101, 109, 111, 118, 101], [114, 101, 112, 97, 105, 114], [99, 104, 101, 99, 107]]
def kW (k : Int) : Str := KW.getD k.toNat []
def vT (v : api_Version) : Str := bif !flagV v then [45] else vtext v
def rT (r : api_Record) : Str := six [Go.Lib.itoa r.Time, kW r.Kind, r.Pack, vT r.From, vT r.To, Go.Lib.itoa r.Result] (quoteS r.Note)
structure Rok (r : api_Record) : Prop where
 t0 : 0 ≤ r.Time
 t1 : r.Time ≤ 1099511627776
 k0 : 1 ≤ r.Kind
 k1 : r.Kind ≤ 6
 pack : nameOk r.Pack = true
 frm : vE r.From = 0
 to : vE r.To = 0
 r0 : 0 ≤ r.Result
 r1 : r.Result ≤ 18
 note : valueOk r.Note = true
theorem rok_of {r : api_Record} (h : eRec r = 0) : Rok r := by
 unfold eRec at h
 obtain ⟨h1, h⟩ := (or2_zero _ _).1 h
 obtain ⟨h2, h⟩ := (or2_zero _ _).1 h
 obtain ⟨_, h4⟩ := (or2_zero _ _).1 h
 unfold eHead at h1
 unfold eTail at h4
 rw [orL_cons] at h1 h4
 obtain ⟨a1, h1⟩ := (or2_zero _ _).1 h1
 obtain ⟨_, h4⟩ := (or2_zero _ _).1 h4
 rw [orL_cons] at h1 h4
 obtain ⟨a2, h1⟩ := (or2_zero _ _).1 h1
 obtain ⟨b2, h4⟩ := (or2_zero _ _).1 h4
 rw [orL_cons] at h1 h4
 obtain ⟨a3, _⟩ := (or2_zero _ _).1 h1
 obtain ⟨b3, _⟩ := (or2_zero _ _).1 h4
 have a1 := wh_zero (by decide) a1
 have a2 := wh_zero (by decide) a2
 have a3 := wh_zero (by decide) a3
 have b2 := wh_zero (by decide) b2
 have b3 := wh_zero (by decide) b3
 simp only [Bool.or_eq_false_iff, decide_eq_false_iff_not, Bool.not_eq_false'] at a1 a2 a3 b2 b3
 exact ⟨by omega, by omega, by omega, by omega, a3, (orL2 h2).1, (orL2 h2).2, by omega, by omega, b3⟩
theorem Rok.pr {r : api_Record} (h : Rok r) : Pr r := ⟨by have := vE_len h.frm; omega, by have := vE_len h.to; omega⟩
def plainW (w : Str) : Prop := (32 : UInt8) ∉ w ∧ (10 : UInt8) ∉ w
theorem plain_dd (n : Int) (h : 0 ≤ n) : plainW (Go.Lib.itoa n) := by
 rw [itoa_nat h]
 have := digs_no (dd n.toNat).dig
 exact ⟨this.1, this.2.1⟩
theorem kW_plain {k : Int} (h0 : 1 ≤ k) (h1 : k ≤ 6) : plainW (kW k) := by
 have : ∀ i : Fin 7, (32 : UInt8) ∉ KW.getD i.val [] ∧ (10 : UInt8) ∉ KW.getD i.val [] := by decide
 exact this ⟨k.toNat, by omega⟩
theorem all_plain {p : UInt8 → Bool} (h32 : p 32 = false) (h10 : p 10 = false) {w : Str} (h : w.all p = true) : plainW w := by
 have k := List.all_eq_true.1 h
 exact ⟨fun e => (by have := k _ e; rw [h32] at this; cases this), fun e => (by have := k _ e; rw [h10] at this; cases this)⟩
theorem name_plain {w : Str} (h : nameOk w = true) : plainW w ∧ w ≠ [] := by
 unfold nameOk at h
 simp only [Bool.and_eq_true, Bool.not_eq_true', decide_eq_false_iff_not] at h
 exact ⟨all_plain (by decide) (by decide) h.1.1, h.1.2.1⟩
theorem early_plain {e : Str} (h : e = [] ∨ earlyOk e = true) : plainW e := by
 rcases h with rfl | h
 ·exact ⟨by simp, by simp⟩
 ·obtain ⟨hw, _⟩ := earlyOk_words h
  have key : ∀ (n : Nat) (s : Str), s.length ≤ n → (∀ w ∈ splitAt 46 s, wordOk w = true) → ∀ c ∈ s, c = 46 ∨ wordB c = true := by
   intro n
   induction n with
   | zero => intro s hs _ c hc; rw [List.length_eq_zero_iff.1 (show s.length = 0 by omega)] at hc; cases hc
   | succ n ih =>
    intro s hs hw c hc
    have wc : ∀ w, wordOk w = true → ∀ c ∈ w, wordB c = true := fun w hw c hc => by
     unfold wordOk eachOk at hw
     simp only [Bool.and_eq_true] at hw
     exact List.all_eq_true.1 hw.1.1 c hc
    by_cases hm : (46 : UInt8) ∈ s
    ·obtain ⟨h1, h2, h3⟩ := cutAt_some hm
     have hl := (cutAt_len 46 s).2.2 h1
     rw [splitAt_cut, if_pos h1] at hw
     rw [h2] at hc
     rcases List.mem_append.1 hc with hc | hc
     ·exact .inr (wc _ (hw _ (by simp)) c hc)
     ·rcases List.mem_cons.1 hc with rfl | hc
      ·exact .inl rfl
      ·exact ih _ (by omega) (fun w h => hw w (by simp [h])) c hc
    ·rw [splitAt_none hm] at hw
     exact .inr (wc s (hw s (by simp)) c hc)
  have k := key _ e (Nat.le_refl _) hw
  refine ⟨fun hc => ?_, fun hc => ?_⟩ <;> rcases k _ hc with h | h <;> revert h <;> decide
theorem vtext_plain {v : api_Version} (h : vE v = 0) : plainW (vtext v) := by
 obtain ⟨⟨a1, a2⟩, ⟨b1, b2⟩, ⟨c1, c2⟩⟩ := vE_rng h
 have p1 := plain_dd _ a1
 have p2 := plain_dd _ b1
 have p3 := plain_dd _ c1
 have p4 := early_plain (vE_early h)
 unfold plainW at *
 unfold vtext
 cases !decide (v.Early = []) <;> simp only [cond_true, cond_false, List.mem_append, List.mem_singleton, not_or] <;> simp [p1, p2, p3, p4]
theorem vT_plain {v : api_Version} (h : vE v = 0) : plainW (vT v) := by
 unfold vT
 cases flagV v
 ·exact ⟨by show (32 : UInt8) ∉ ([45] : Str); decide, by show (10 : UInt8) ∉ ([45] : Str); decide⟩
 ·exact vtext_plain h
theorem vT_len {v : api_Version} (h : vE v = 0) : (vT v).length ≤ 110 := by
 unfold vT
 cases flagV v
 ·show 1 ≤ 110; omega
 ·exact vtext_len h
theorem six_nl : ∀ {ws : List Str} {t : Str}, (∀ w ∈ ws, (10 : UInt8) ∉ w) → (10 : UInt8) ∉ t → (10 : UInt8) ∉ six ws t
 | [], _, _, h => h
 | w :: ws, t, h, ht => fun e => by
  rcases List.mem_append.1 (show (10 : UInt8) ∈ w ++ 32 :: six ws t from e) with e | e
  ·exact h w (by simp) e
  ·rcases List.mem_cons.1 e with e | e
   ·cases e
   ·exact six_nl (fun x hx => h x (by simp [hx])) ht e
theorem Rok.words {r : api_Record} (h : Rok r) : ∀ w ∈ [Go.Lib.itoa r.Time, kW r.Kind, r.Pack, vT r.From, vT r.To, Go.Lib.itoa r.Result], plainW w := by
 intro w hw
 simp only [List.mem_cons, List.not_mem_nil, or_false] at hw
 rcases hw with rfl | rfl | rfl | rfl | rfl | rfl
 ·exact plain_dd _ h.t0
 ·exact kW_plain h.k0 h.k1
 ·exact (name_plain h.pack).1
 ·exact vT_plain h.frm
 ·exact vT_plain h.to
 ·exact plain_dd _ h.r0
theorem Rok.ln {r : api_Record} (h : Rok r) : Ln (rT r) :=
 ⟨⟨_, _, rfl, fun w hw => (h.words w hw).1, rfl⟩, six_nl (fun w hw => (h.words w hw).2) (quote_nl _)⟩
theorem Rok.split {r : api_Record} (h : Rok r) : splitK 6 (rT r) = [Go.Lib.itoa r.Time, kW r.Kind, r.Pack, vT r.From, vT r.To, Go.Lib.itoa r.Result, quoteS r.Note] :=
 splitK_six [Go.Lib.itoa r.Time, kW r.Kind, r.Pack, vT r.From, vT r.To, Go.Lib.itoa r.Result] _ fun w hw => (h.words w hw).1
theorem kW_len {k : Int} : (kW k).length ≤ 10 := by
 unfold kW
 by_cases h : k.toNat < 7
 ·have : ∀ i : Fin 7, (KW.getD i.val []).length ≤ 10 := by decide
  exact this ⟨k.toNat, h⟩
 ·rw [List.getD_eq_getElem?_getD, List.getElem?_eq_none (by show 7 ≤ _; omega)]; exact Nat.zero_le _
structure Lens (r : api_Record) : Prop where
 a : (Go.Lib.itoa r.Time).length ≤ 21
 b : (kW r.Kind).length ≤ 10
 c : r.Pack.length ≤ 40
 d : (vT r.From).length ≤ 110
 e : (vT r.To).length ≤ 110
 f : (Go.Lib.itoa r.Result).length ≤ 21
 g : (quoteS r.Note).length ≤ 4002
theorem Rok.lens {r : api_Record} (h : Rok r) : Lens r :=
 ⟨Go.Lib.itoa_length_le _ (by have := h.t0; omega) (by have := h.t1; omega), kW_len, nameOk_len h.pack, vT_len h.frm, vT_len h.to, Go.Lib.itoa_length_le _ (by have := h.r0; omega) (by have := h.r1; omega), by have := quoteS_len r.Note; have := valueOk_len h.note; omega⟩
theorem Rok.len {r : api_Record} (h : Rok r) : (rT r).length ≤ 5000 := by
 have ⟨a, b, c, d, e, f, g⟩ := h.lens
 unfold rT six
 simp only [List.foldr_cons, List.foldr_nil, List.length_append, List.length_cons]
 omega
theorem join7 (a b c d e f g : Str) (h : a.length + b.length + c.length + d.length + e.length + f.length + g.length ≤ 100000) : strings_Join [a, b, c, d, e, f, g] [32] = some (six [a, b, c, d, e, f] g) := by
 rw [join_eq [32] a [b, c, d, e, f, g] (by decide) (by simp) (by simp only [List.map_cons, List.map_nil, List.sum_cons, List.sum_nil]; omega)]
 simp [six]
theorem kidx {Z : Type} {k : Int} (h0 : 1 ≤ k) (h1 : k ≤ 6) (f : Str → Option Z) : idx KW k f = f (kW k) := by
 obtain ⟨n, rfl⟩ := Int.eq_ofNat_of_zero_le (show 0 ≤ k by omega)
 rw [idx_eq (show n < KW.length by show n < 7; omega)]
 unfold kW
 rw [Int.toNat_natCast, List.getD_eq_getElem?_getD, List.getElem?_eq_getElem (show n < KW.length by show n < 7; omega)]; rfl
theorem itoaR {n : Int} (h0 : 0 ≤ n) (h1 : n ≤ 1099511627776) : strconv_Itoa n = some (Go.Lib.itoa n) := by
 unfold strconv_Itoa
 exact chk_true (by omega) _
theorem versionText_eq {v : api_Version} (h : vE v = 0) : log_versionText v = some (vT v) := by
 unfold log_versionText vT flagV
 rw [Bool.not_not]
 cases ((decide (v.Major = 0)) && ((decide (v.Minor = 0)) && ((decide (v.Patch = 0)) && (decide (v.Early = [])))))
 ·rw [cond_false, Print_eq h]; rfl
 ·rfl
theorem RversionText_eq {v : api_Version} (h : vE v = 0) : R_RecordText_1 v = some (vT v) := by
 unfold R_RecordText_1 vT flagV
 rw [Bool.not_not]
 cases ((decide (v.Major = 0)) && ((decide (v.Minor = 0)) && ((decide (v.Patch = 0)) && (decide (v.Early = [])))))
 ·rw [cond_false, VText_eq h]; rfl
 ·rfl
theorem recordText_eq {r : api_Record} (h : Rok r) : log_recordText r = some (rT r) := by
 have ⟨a, b, c, d, e, f, g⟩ := h.lens
 unfold log_recordText
 rw [itoaR h.t0 h.t1, call_some]
 show idx KW r.Kind _ = _
 rw [kidx h.k0 h.k1, versionText_eq h.frm, call_some, versionText_eq h.to, call_some, itoaR h.r0 (by have := h.r1; omega), call_some, disk_Quote_eq _ (by have := valueOk_len h.note; omega), call_some, join7 _ _ _ _ _ _ _ (by omega), call_some]
 rfl
theorem R_recordText_eq {r : api_Record} (h : Rok r) : R_RecordText r = some (rT r) := by
 have ⟨a, b, c, d, e, f, g⟩ := h.lens
 unfold R_RecordText
 rw [itoaR h.t0 h.t1, call_some]
 show idx KW r.Kind _ = _
 rw [kidx h.k0 h.k1, RversionText_eq h.frm, call_some, RversionText_eq h.to, call_some, itoaR h.r0 (by have := h.r1; omega), call_some, R_Quote_eq _ (by have := valueOk_len h.note; omega), call_some, join7 _ _ _ _ _ _ _ (by omega), call_some]
 rfl
theorem unq_quote (t : Str) : unqS (quoteS t) = (t, 0) := by
 have hl : (quoteS t).length = (body t).length + 2 := by simp [quoteS]
 have hq : quoted (quoteS t) = true := by
  unfold quoted
  have h0 : ((quoteS t).getD 0 0) = 34 := rfl
  have h1 : ((quoteS t).getD ((quoteS t).length - 1) 0) = 34 := by
   rw [List.getD_eq_getElem?_getD, hl]
   unfold quoteS
   rw [show (body t).length + 2 - 1 = (body t).length + 1 by omega, List.getElem?_cons_succ, List.getElem?_append_right (Nat.le_refl _)]
   simp
  rw [h0, h1, decide_eq_false (by omega)]
  decide
 have hm : mid (quoteS t) = body t := by
  unfold mid quoteS
  simp
 unfold unqS
 rw [hq, hm, undoF_body]; rfl
theorem unq_back {s : Str} (h : (unqS s).2 = 0) : s = quoteS (unqS s).1 := by
 unfold unqS at h ⊢
 cases hq : quoted s
 ·rw [hq] at h; cases h
 ·rw [hq, cond_true] at h
  rw [cond_true]
  cases hu : undoF (mid s) with
  | none => rw [hu] at h; cases h
  | some t =>
   have := undoF_sound hu
   show s = quoteS t
   unfold quoteS
   rw [this]
   exact quoted_spec s hq
def kf (w : Str) : List Str → Nat → Int → Int
 | [], _, o => o
 | x :: l, i, o => kf w l (i + 1) (bif decide (0 < (i : Int)) && decide (x = w) then (i : Int) else o)
def kI (w : Str) : Int := kf w KW 0 0
theorem kI_kW {k : Int} (h0 : 1 ≤ k) (h1 : k ≤ 6) : kI (kW k) = k := by
 have : ∀ i : Fin 7, kI (KW.getD i.val []) = i.val := by decide
 have e := this ⟨k.toNat, by omega⟩
 unfold kW
 rw [e]; simp; omega
theorem kind_loop {Z : Type} (p : List Str) (hp : 1 < p.length) (K : Int → Option Z) : ∀ (l : List Str) (i : Nat) (o : Int),
  forL l i (fun i_48 s_50 o1_1_42 nx_47 k_46 =>
   chk ((decide (0 < (i_48 : Int))) = true → (0 ≤ 1 ∧ 1 < (p.length : Int))) <|
   bif ((decide (0 < (i_48 : Int))) && (decide (s_50 = (p.getD 1 [])))) then nx_47 (i_48 : Int) else nx_47 o1_1_42) o K = K (kf (p.getD 1 []) l i o)
 | [], _, _ => rfl
 | x :: l, i, o => by
  unfold forL
  dsimp only
  rw [chk_true (fun _ => by omega)]
  unfold kf
  cases (decide (0 < (i : Int)) && decide (x = p.getD 1 []))
  ·exact kind_loop p hp K l (i + 1) _
  ·exact kind_loop p hp K l (i + 1) _
def vO (s : Str) : api_Version × Bool := bif decide (s = ([45] : Str)) then (VZ, true) else ((vP s).1, (decide ((vP s).2 = 0)) && flagV (vP s).1)
theorem versionOf_eq (s : Str) (hs : s.length ≤ 17179869184) : log_versionOf s = some (vO s) := by
 unfold log_versionOf vO
 rw [ver_Parse_eq s hs, call_some, condS]; rfl
theorem vO_len (s : Str) : (vO s).1.Early.length ≤ s.length := by
 unfold vO
 cases decide (s = ([45] : Str))
 ·exact vP_len s
 ·exact Nat.zero_le _
theorem vtext_ne {v : api_Version} (h : vE v = 0) : vtext v ≠ [45] := fun e => by
 have := vP_text h
 rw [e] at this
 have e2 : (vP [45]).2 = 8 := by decide +kernel
 rw [this] at e2
 cases e2
theorem flagV_no {v : api_Version} (h : flagV v = false) : v = VZ := by
 unfold flagV at h
 simp only [Bool.not_eq_false', Bool.and_eq_true, decide_eq_true_eq] at h
 obtain ⟨a, b, c, d⟩ := v
 simp only at h
 rw [h.1, h.2.1, h.2.2.1, h.2.2.2]
theorem vO_text {v : api_Version} (h : vE v = 0) : vO (vT v) = (v, true) := by
 unfold vO vT
 cases hf : flagV v
 ·rw [Bool.not_false, cond_true, decide_eq_true rfl, cond_true, flagV_no hf]
 ·rw [Bool.not_true, cond_false, decide_eq_false (vtext_ne h), cond_false, vP_text h, hf]; rfl
def nO (s : Str) : Int × Bool := bif numL 18 s then (((val 0 s : Nat) : Int), true) else (0, false)
theorem nO_itoa {n : Int} (h0 : 0 ≤ n) (h1 : n ≤ 1099511627776) : nO (Go.Lib.itoa n) = (n, true) := by
 unfold nO
 rw [itoa_nat h0, numL_dd (n := 17) (by omega), (dd n.toNat).vl, cond_true, Int.toNat_of_nonneg h0]
def recOf (a b c d e f g : Str) : api_Record := api_Record.mk (nO a).1 (kI b) c (vO d).1 (vO e).1 (nO f).1 (unqS g).1
def pR7 (a b c d e f g : Str) : api_Record × Int :=
 bif ((((((decide (kI b = 0)) || (!(nO a).2)) || (!(vO d).2)) || (!(vO e).2)) || (!(nO f).2)) || (!decide ((unqS g).2 = 0))) then (RZ, 8) else
 bif !decide (eRec (recOf a b c d e f g) = 0) then (RZ, eRec (recOf a b c d e f g)) else (recOf a b c d e f g, 0)
def pR (s : Str) : api_Record × Int := match splitK 6 s with
 | [a, b, c, d, e, f, g] => bif decide (c = []) then (RZ, 8) else pR7 a b c d e f g
 | _ => (RZ, 8)
theorem seven {α : Type} {l : List α} (h : l.length = 7) : ∃ a b c d e f g, l = [a, b, c, d, e, f, g] := by
 rcases l with _ | ⟨a, _ | ⟨b, _ | ⟨c, _ | ⟨d, _ | ⟨e, _ | ⟨f, _ | ⟨g, _ | ⟨x, l⟩⟩⟩⟩⟩⟩⟩⟩ <;> simp at h
 exact ⟨a, b, c, d, e, f, g, rfl⟩
theorem ParseRecord_eq (s : Str) (hs : s.length ≤ 17179869184) : log_ParseRecord s = some (pR s) := by
 have hmem := splitK_mem 6 s
 unfold log_ParseRecord pR
 rw [splitN_eq s hs, call_some]
 generalize splitK 6 s = p at hmem ⊢
 by_cases hp : p.length = 7
 ·obtain ⟨a, b, c, d, e, f, g, rfl⟩ := seven hp
  have ha := hmem a (by simp); have hd := hmem d (by simp); have he := hmem e (by simp); have hf := hmem f (by simp); have hg := hmem g (by simp)
  rw [chk_true (fun _ => by rw [hp]; omega), show decide (((([a, b, c, d, e, f, g] : List Str).length : Nat) : Int) = 7) = true from rfl]
  show (bif (!true || decide (c = [])) then _ else _) = some (bif decide (c = []) then _ else _)
  rw [Bool.not_true, Bool.false_or]
  cases decide (c = [])
  ·simp only [cond_false, jp_eq]
   show idx [a, b, c, d, e, f, g] ((2 : Nat) : Int) _ = _
   rw [idx_eq (by simp)]
   show call (some KW) _ = _
   rw [call_some, kind_loop [a, b, c, d, e, f, g] (by simp)]
   show idx [a, b, c, d, e, f, g] ((0 : Nat) : Int) _ = _
   rw [idx_eq (by simp)]
   show call (log_number a) _ = _
   rw [log_number_eq, call_some]
   show idx [a, b, c, d, e, f, g] ((3 : Nat) : Int) _ = _
   rw [idx_eq (by simp)]
   show call (log_versionOf d) _ = _
   rw [versionOf_eq d (by omega), call_some]
   show idx [a, b, c, d, e, f, g] ((4 : Nat) : Int) _ = _
   rw [idx_eq (by simp)]
   show call (log_versionOf e) _ = _
   rw [versionOf_eq e (by omega), call_some]
   show idx [a, b, c, d, e, f, g] ((5 : Nat) : Int) _ = _
   rw [idx_eq (by simp)]
   show call (log_number f) _ = _
   rw [log_number_eq, call_some]
   show idx [a, b, c, d, e, f, g] ((6 : Nat) : Int) _ = _
   rw [idx_eq (by simp)]
   show call (disk_Unquote g) _ = _
   rw [disk_Unquote_eq g (by omega), call_some]
   have hpr : Pr (recOf a b c d e f g) := ⟨by have := vO_len d; show (vO d).1.Early.length ≤ _; omega, by have := vO_len e; show (vO e).1.Early.length ≤ _; omega⟩
   unfold pR7
   show (bif ((((((decide (kI b = 0)) || (!(nO a).2)) || (!(vO d).2)) || (!(vO e).2)) || (!(nO f).2)) || (!decide ((unqS g).2 = 0))) then some (RZ, 8) else call (log_CheckRecord (recOf a b c d e f g)) _) = _
   rw [log_CheckRecord_eq _ hpr, call_some, condS, condS]
   rfl
  ·rfl
 ·rw [show decide ((p.length : Int) = 7) = false from decide_eq_false (by omega)]
  rw [chk_true (fun h => by cases h), Bool.not_false, Bool.true_or, cond_true]
  split
  ·exact absurd rfl hp
  ·rfl
theorem pR_text {r : api_Record} (h : eRec r = 0) : pR (rT r) = (r, 0) := by
 have hr := rok_of h
 unfold pR
 rw [hr.split]
 simp only
 have e : recOf (Go.Lib.itoa r.Time) (kW r.Kind) r.Pack (vT r.From) (vT r.To) (Go.Lib.itoa r.Result) (quoteS r.Note) = r := by
  unfold recOf
  rw [nO_itoa hr.t0 hr.t1, kI_kW hr.k0 hr.k1, vO_text hr.frm, vO_text hr.to, nO_itoa hr.r0 (by have := hr.r1; omega), unq_quote]
 unfold pR7
 rw [decide_eq_false (name_plain hr.pack).2, cond_false, e, nO_itoa hr.t0 hr.t1, kI_kW hr.k0 hr.k1, vO_text hr.frm, vO_text hr.to, nO_itoa hr.r0 (by have := hr.r1; omega), unq_quote, decide_eq_false (by have := hr.k0; omega), h]; rfl
theorem pR_back {s : Str} (h : (pR s).2 = 0) : Quoted s ∧ eRec (pR s).1 = 0 := by
 by_cases hp : (splitK 6 s).length = 7
 ·obtain ⟨ws, t, e1, e2, e3, e4⟩ := splitK_back 6 s hp
  obtain ⟨a, b, c, d, e, f, g, he⟩ := seven hp
  have ht : t = g := by
   rw [he] at e1
   have := congrArg List.getLast? e1
   simpa using this.symm
  subst ht
  unfold pR at h ⊢
  rw [he] at h ⊢
  simp only at h ⊢
  cases hc : decide (c = [])
  ·rw [hc, cond_false] at h
   rw [cond_false]
   unfold pR7 at h ⊢
   cases hb : ((((((decide (kI b = 0)) || (!(nO a).2)) || (!(vO d).2)) || (!(vO e).2)) || (!(nO f).2)) || (!decide ((unqS t).2 = 0)))
   ·rw [hb, cond_false] at h
    rw [cond_false]
    simp only [Bool.or_eq_false_iff, Bool.not_eq_false', decide_eq_true_eq] at hb
    have hq := unq_back hb.2
    cases hx : !decide (eRec (recOf a b c d e f t) = 0)
    ·rw [cond_false]
     simp only [Bool.not_eq_false', decide_eq_true_eq] at hx
     exact ⟨⟨ws, _, e2, e3, by rw [← hq]; exact e4⟩, hx⟩
    ·rw [hx, cond_true] at h
     simp only [Bool.not_eq_true', decide_eq_false_iff_not] at hx
     exact absurd h hx
   ·rw [hb] at h; cases h
  ·rw [hc] at h; cases h
 ·unfold pR at h
  split at h
  ·rename_i he
   rw [he] at hp
   exact absurd rfl hp
  ·cases h
theorem Ok.idx' {α Z : Type} {Q : Z → Prop} {l : List α} {i : Nat} (h : i < l.length) {k : α → Option Z} (hk : Ok (k l[i]) Q) : Ok (idx l (i : Int) k) Q := by rw [idx_eq h]; exact hk
def lineOf (p X : Str) : Str := ((X ++ [32]) ++ sumS (p ++ X)) ++ [10]
def linesL (p : Str) : List Str → List Str
 | [] => []
 | X :: Xs => lineOf p X :: linesL (sumS (p ++ X)) Xs
theorem lineOf_eq (p X : Str) : lineOf p X = (X ++ 32 :: sumS (p ++ X)) ++ [10] := by unfold lineOf; simp
theorem linesL_app : ∀ (a b : List Str) (p : Str), linesL p (a ++ b) = linesL p a ++ linesL (sumL p a) b
 | [], _, _ => rfl
 | X :: a, b, p => by simp only [List.cons_append, linesL, sumL, linesL_app a b]
theorem linesL_flat : ∀ (Xs : List Str) (p : Str), (linesL p Xs).flatten = logT p Xs
 | [], _ => rfl
 | X :: Xs, p => by rw [linesL, List.flatten_cons, linesL_flat Xs, logT_cons, lineOf_eq]; simp
theorem linesL_len : ∀ (Xs : List Str) (p : Str), (linesL p Xs).length = Xs.length
 | [], _ => rfl
 | X :: Xs, p => by simp [linesL, linesL_len Xs]
theorem sumL_len : ∀ (Xs : List Str) (p : Str), p.length ≤ 16 → (sumL p Xs).length ≤ 16
 | [], _, h => h
 | X :: Xs, p, _ => sumL_len Xs _ (by rw [sumS_length]; exact Nat.le_refl _)
def addR (r : api_Record) (p : Str) (rs : List api_Record) (ls : List Str) (last : Int) (m : Mh) : Int × Str × List api_Record × List Str × Int × Mh :=
 bif decide (eStep last m r = 0) then (0, sumS (p ++ rT r), rs ++ [r], ls ++ [lineOf p (rT r)], r.Time, upd r m) else (eStep last m r, p, rs, ls, last, m)
theorem eStep_zero {last : Int} {m : Mh} {r : api_Record} (h : eStep last m r = 0) : eRec r = 0 ∧ ¬ r.Time < last ∧ badK r (alook m r.Pack) = false := by
 unfold eStep at h
 obtain ⟨h1, h2⟩ := (or2_zero _ _).1 h
 by_cases ht : r.Time < last
 ·rw [decide_eq_true ht] at h2; cases h2
 ·rw [decide_eq_false ht] at h2
  exact ⟨h1, ht, wh_zero (by decide) h2⟩
theorem Add_eq (r : api_Record) (p : Str) (rs : List api_Record) (ls : List Str) (last : Int) (m : Mh) (hr : Pr r) (hp : p.length ≤ 16) (hrs : rs.length < 5000) (hls : ls.length ≤ 5000) (hm : m.length ≤ 1000000) :
  log_Log_Add_i1 r p rs ls last m = some (addR r p rs ls last m) := by
 unfold log_Log_Add_i1 addR
 rw [log_CheckRecord_eq r hr, call_some]
 by_cases he : eRec r = 0
 ·have hok := rok_of he
  have hl := hok.len
  rw [he, fault_eq, show (!decide ((0 : Int) = 0)) = false from rfl, cond_false, call_some]
  have es : eStep last m r = bif decide (r.Time < last) then 7 else wh (badK r (alook m r.Pack)) 12 := by unfold eStep; rw [he]; rfl
  rw [es]
  by_cases ht : r.Time < last
  ·rw [decide_eq_true ht]; rfl
  ·rw [decide_eq_false ht, cond_false, decide_eq_false (show ¬ (5000 : Int) ≤ (rs.length : Int) by omega)]
   cases hb : badK r (alook m r.Pack)
   ·rw [show wh false 12 = 0 from rfl]
    simp only [show decide ((0 : Int) = 7) = false from rfl, decide_true, Bool.not_true, cond_false, cond_true]
    have hlen : (p ++ rT r).length ≤ 274877906944 := by rw [List.length_append]; omega
    rw [recordText_eq hok, call_some, chk_true hlen, disk_SumOf_eq, call_some]
    have hs := sumS_length (p ++ rT r)
    iterate 5 rw [chk_true (by simp only [List.length_append, List.length_cons, List.length_nil]; omega)]
    rw [add_eq r last m hm, call_some]; rfl
   ·rfl
 ·have hne : eStep last m r ≠ 0 := fun e => he (eStep_zero e).1
  have es : eStep last m r = eRec r := by unfold eStep; rw [or2_ne he]
  rw [es, decide_eq_false he]; rfl
theorem recsE_cons {last : Int} {m : Mh} {r : api_Record} {l : List api_Record} (h : recsE last m (r :: l) = 0) : eStep last m r = 0 ∧ recsE r.Time (upd r m) l = 0 := (or2_zero _ _).1 h
theorem recsE_snoc : ∀ (l : List api_Record) (last : Int) (m : Mh) (r : api_Record), recsE last m (l ++ [r]) = or2 (recsE last m l) (eStep (bif decide (l = []) then last else lastT l) (mapOf m l) r)
 | [], last, m, r => by
  show or2 (eStep last m r) 0 = or2 0 (eStep last m r)
  rw [or2_z, or2_0]
 | x :: l, last, m, r => by
  show or2 (eStep last m x) (recsE x.Time (upd x m) (l ++ [r])) = or2 (or2 (eStep last m x) (recsE x.Time (upd x m) l)) _
  rw [recsE_snoc l x.Time (upd x m) r, or2_assoc]
  have : (bif decide (l = []) then x.Time else lastT l) = (bif decide (x :: l = []) then last else lastT (x :: l)) := by
   rw [decide_eq_false (show ¬ x :: l = [] by simp), cond_false]
   cases l with
   | nil => rfl
   | cons y l => rw [decide_eq_false (by simp), cond_false]; unfold lastT; simp
  rw [this]; rfl
theorem recsE_snoc0 (l : List api_Record) (r : api_Record) : recsE 0 [] (l ++ [r]) = or2 (recsE 0 [] l) (eStep (lastT l) (mapOf [] l) r) := by
 rw [recsE_snoc]
 cases l with
 | nil => rfl
 | cons x l => rw [decide_eq_false (by simp)]; rfl
theorem lastT_snoc (l : List api_Record) (r : api_Record) : lastT (l ++ [r]) = r.Time := by unfold lastT; simp
theorem mapOf_snoc : ∀ (l : List api_Record) (m : Mh) (r : api_Record), mapOf m (l ++ [r]) = upd r (mapOf m l)
 | [], _, _ => rfl
 | x :: l, m, r => mapOf_snoc l _ r
theorem sumL_snoc (l : List Str) (p X : Str) : sumL p (l ++ [X]) = sumS (sumL p l ++ X) := by rw [sumL_app]; rfl
section
variable {Z : Type}
abbrev OS := Str × Mh × Int × Str × List api_Record × List Str
theorem open_loop {f : OS → (OS → Option Z) → (OS → Option Z) → Option Z} {K : OS → Option Z} (t : Str)
  (hstep : ∀ (r : api_Record) (rest : Str) (m : Mh) (last : Int) (p : Str) (rs : List api_Record) (ls : List Str) (nx : OS → Option Z), Pr r → eStep last m r = 0 → p.length ≤ 16 → rs.length < 5000 → ls.length ≤ 5000 → m.length ≤ 1000000 → (rest.length ≤ 4194304) →
   f ((rT r ++ 32 :: sumS (p ++ rT r)) ++ 10 :: rest, m, last, p, rs, ls) nx K = nx (rest, upd r m, r.Time, sumS (p ++ rT r), rs ++ [r], ls ++ [lineOf p (rT r)]))
  (hstop : ∀ (m : Mh) (last : Int) (p : Str) (rs : List api_Record) (ls : List Str) (nx : OS → Option Z), Bad p t → p.length ≤ 16 → f (t, m, last, p, rs, ls) nx K = K (t, m, last, p, rs, ls)) :
  ∀ (l : List api_Record) (N : Nat) (m : Mh) (last : Int) (p : Str) (rs : List api_Record) (ls : List Str), l.length < N → (∀ r ∈ l, Pr r) → recsE last m l = 0 → p.length ≤ 16 → rs.length + l.length ≤ 5000 → ls.length = rs.length → m.length + l.length ≤ 1000000 → Bad (sumL p (l.map rT)) t → (logT p (l.map rT) ++ t).length ≤ 4194304 →
   loopN N f (logT p (l.map rT) ++ t, m, last, p, rs, ls) K = K (t, mapOf m l, bif decide (l = []) then last else lastT l, sumL p (l.map rT), rs ++ l, ls ++ linesL p (l.map rT)) := by
 intro l
 induction l with
 | nil =>
  intro N m last p rs ls hN _ _ hp _ _ _ hb _
  obtain ⟨n, rfl⟩ : ∃ n, N = n + 1 := ⟨N - 1, by simp at hN; omega⟩
  unfold loopN
  rw [show logT p (([] : List api_Record).map rT) ++ t = t from rfl, hstop m last p rs ls _ hb hp]
  simp [mapOf, sumL, linesL]
 | cons r l ih =>
  intro N m last p rs ls hN hpr hre hp hrs hls hm hb hlen
  obtain ⟨n, rfl⟩ : ∃ n, N = n + 1 := ⟨N - 1, by simp at hN; omega⟩
  obtain ⟨h1, h2⟩ := recsE_cons hre
  simp only [List.length_cons] at hN hrs hm
  have e : logT p ((r :: l).map rT) ++ t = (rT r ++ 32 :: sumS (p ++ rT r)) ++ 10 :: (logT (sumS (p ++ rT r)) (l.map rT) ++ t) := by
   rw [List.map_cons, logT_cons]; simp
  rw [e] at hlen ⊢
  have hlen2 : (logT (sumS (p ++ rT r)) (l.map rT) ++ t).length ≤ 4194304 := by
   rw [List.length_append, List.length_cons] at hlen; omega
  unfold loopN
  rw [hstep r _ m last p rs ls _ (hpr r (by simp)) h1 hp (by omega) (by omega) (by omega) hlen2]
  rw [ih n (upd r m) r.Time (sumS (p ++ rT r)) (rs ++ [r]) (ls ++ [lineOf p (rT r)]) (by omega) (fun x hx => hpr x (by simp [hx])) h2 (by rw [sumS_length]; exact Nat.le_refl _) (by simp; omega) (by simp; omega) (by have := upd_le r m; omega) hb hlen2]
  have : (bif decide (l = []) then r.Time else lastT l) = (bif decide (r :: l = []) then last else lastT (r :: l)) := by
   rw [decide_eq_false (show ¬ r :: l = [] by simp), cond_false]
   cases l with
   | nil => rfl
   | cons y l => rw [decide_eq_false (by simp), cond_false]; unfold lastT; simp
  rw [this]
  simp [mapOf, sumL, linesL]
end
theorem Open_eq (l : List api_Record) (t : Str) (hpr : ∀ r ∈ l, Pr r) (h : recsE 0 [] l = 0) (hl : l.length ≤ 5000) (hb : Bad (sumL [] (l.map rT)) t) (hlen : (logT [] (l.map rT) ++ t).length ≤ 4194304) :
  log_Open (logT [] (l.map rT) ++ t) = some ((l.length : Int), 0, mapOf [] l, lastT l, sumL [] (l.map rT), l, linesL [] (l.map rT)) := by
 unfold log_Open
 obtain ⟨N, hN⟩ : ∃ N, Fuel = N := ⟨_, rfl⟩
 have hN2 : 1099511627776 ≤ N := hN ▸ fuel_ge
 rw [hN]
 clear hN
 rw [bif_f (decide_eq_false (by omega)), show log_New = some ([], 0, []) from rfl, call_some, jp_eq]
 refine (open_loop t (fun r rest m last p rs ls nx hr hs hp hrs hls hm hrest => ?_) (fun m last p rs ls nx hbad hp => ?_) l N [] 0 [] [] [] (by omega) hpr h (by decide) (by simpa using hl) rfl (by simp; omega) hb hlen).trans ?_
 ·obtain ⟨he, ht, hk⟩ := eStep_zero hs
  have hok := rok_of he
  have hrl := hok.len
  have hsum := sumS_length (p ++ rT r)
  have hnl := head_nl (p := p) hok.ln
  have hw : IntKind.i64.wrap (((rT r).length : Int) + 1) = (((rT r).length + 1 : Nat) : Int) := wrap1 _ (by omega)
  have htk : List.take (rT r).length (rT r ++ 32 :: sumS (p ++ rT r)) = rT r := by simp
  have hdr : List.drop ((rT r).length + 1) (rT r ++ 32 :: sumS (p ++ rT r)) = sumS (p ++ rT r) := by
   rw [List.drop_append, List.drop_of_length_le (by omega), show (rT r).length + 1 - (rT r).length = 1 by omega]; rfl
  dsimp only
  rw [cut_eq _ 10 (by simp only [List.length_append, List.length_cons]; omega), cutAt_app hnl, call_some]
  dsimp only
  rw [lastB_some (sum_sp _) (by simp only [List.length_append, List.length_cons]; omega), call_some, Bool.not_true, Bool.false_or, decide_eq_false (by omega), cond_false, hw, chk_true (by simp only [List.length_append, List.length_cons]; omega)]
  simp only [Int.toNat_natCast, htk, hdr]
  rw [ParseRecord_eq _ (by omega), call_some, pR_text he]
  simp only [decide_true, Bool.not_true, Bool.not_false]
  rw [chk_true (fun _ => by simp only [List.length_append, List.length_cons]; omega), chk_true (fun _ => by simp only [List.length_append, List.length_cons]; omega), chk_true (fun _ => by simp only [List.length_append]; omega), disk_SumOf_eq, callG_some]
  simp only [cond_true, decide_true, Bool.not_true, Bool.or_self, Bool.not_false]
  rw [Add_eq r p rs ls last m hr hp hrs hls hm, callG_some]
  unfold addR
  rw [hs]
  rfl
 ·have htl : t.length ≤ 4194304 := by rw [List.length_append] at hlen; omega
  rcases hbad with h10 | ⟨line, rest, rfl, hnl, hb2⟩
  ·dsimp only
   rw [cut_eq _ 10 (by omega), cutAt_none h10, call_some]
   have hx : ∃ n, strings_LastIndexByte t 32 = some n := by
    by_cases h32 : (32 : UInt8) ∈ t
    ·obtain ⟨B, W, rfl, hW⟩ := blank_last h32
     exact ⟨_, lastB_some hW (by omega)⟩
    ·exact ⟨_, lastB_none h32 (by omega)⟩
   obtain ⟨n, hn⟩ := hx
   dsimp only
   rw [hn, call_some, Bool.not_false, Bool.true_or, cond_true]
  ·simp only [List.length_append, List.length_cons] at htl
   dsimp only
   rw [cut_eq _ 10 (by simp only [List.length_append, List.length_cons]; omega), cutAt_app hnl, call_some]
   dsimp only
   rcases hb2 with h32 | ⟨B, W, rfl, hW, hbw⟩
   ·rw [lastB_none h32 (by omega), call_some, show decide ((-1 : Int) < 0) = true from rfl, Bool.or_true, cond_true]
   ·have hBl : B.length + W.length + 1 ≤ 4194304 := by
     simp only [List.length_append, List.length_cons] at htl; omega
    have hw : IntKind.i64.wrap ((B.length : Int) + 1) = ((B.length + 1 : Nat) : Int) := wrap1 _ (by omega)
    have htk : List.take B.length (B ++ 32 :: W) = B := by simp
    have hdr : List.drop (B.length + 1) (B ++ 32 :: W) = W := by
     rw [List.drop_append, List.drop_of_length_le (by omega), show B.length + 1 - B.length = 1 by omega]; rfl
    have hlx : (B ++ 32 :: W).length = B.length + W.length + 1 := by simp; omega
    rw [lastB_some hW (by omega), call_some, Bool.not_true, Bool.false_or, decide_eq_false (by omega), cond_false, hw, chk_true (by omega)]
    simp only [Int.toNat_natCast, htk, hdr]
    rw [ParseRecord_eq B (by omega), call_some]
    by_cases h0 : (pR B).2 = 0
    ·have hne : W ≠ sumS (p ++ B) := by
      rcases hbw with h | h
      ·exact h
      ·exact absurd (pR_back h0).1 h
     rw [h0]
     simp only [decide_true, Bool.not_true, Bool.not_false]
     rw [chk_true (fun _ => by omega), chk_true (fun _ => by omega), chk_true (fun _ => by simp only [List.length_append]; omega), disk_SumOf_eq, callG_some]
     simp only [cond_true]
     rw [decide_eq_false hne]
     rfl
    ·rw [decide_eq_false h0]
     simp only [Bool.not_true, Bool.not_false]
     rw [chk_true (fun h => by cases h), chk_true (fun h => by cases h), chk_true (fun h => by cases h), callG_false]
     rfl
 ·rw [show (bif decide (l = []) then (0 : Int) else lastT l) = lastT l by cases l <;> rfl]
  rfl
theorem equal_self (l : List api_Record) : slices_Equal_api_Record_api_Record l l = some true := by
 unfold slices_Equal_api_Record_api_Record
 rw [decide_eq_true rfl, jp_eq]
 exact same_loop l rEq rEq_self l 0 rfl
theorem logT_len : ∀ (Xs : List Str) (p : Str), (∀ X ∈ Xs, X.length ≤ 5000) → (logT p Xs).length ≤ 5018 * Xs.length
 | [], _, _ => Nat.zero_le _
 | X :: Xs, p, h => by
  have := logT_len Xs (sumS (p ++ X)) fun Y hY => h Y (by simp [hY])
  have hx := h X (by simp)
  rw [logT_cons, List.length_append, head_len, List.length_cons, List.length_cons]; omega
structure Log (D : List api_Record) : Prop where
 pr : ∀ r ∈ D, Pr r
 re : recsE 0 [] D = 0
theorem Log.recs {D : List api_Record} (h : Log D) : ∀ r ∈ D, eRec r = 0 := by
 have key : ∀ (l : List api_Record) (last : Int) (m : Mh), recsE last m l = 0 → ∀ r ∈ l, eRec r = 0 := by
  intro l
  induction l with
  | nil => intro _ _ _ r hr; cases hr
  | cons x l ih =>
   intro last m hre r hr
   obtain ⟨h1, h2⟩ := recsE_cons hre
   rcases List.mem_cons.1 hr with rfl | hr
   ·exact (eStep_zero h1).1
   ·exact ih _ _ h2 r hr
 exact key D 0 [] h.re
theorem Log.ln {D : List api_Record} (h : Log D) : ∀ X ∈ D.map rT, Ln X := fun X hX => by
 obtain ⟨r, hr, rfl⟩ := List.mem_map.1 hX
 exact (rok_of (h.recs r hr)).ln
theorem Log.tlen {D : List api_Record} (h : Log D) : (logT [] (D.map rT)).length ≤ 5018 * D.length := by
 have := logT_len (D.map rT) [] fun X hX => by
  obtain ⟨r, hr, rfl⟩ := List.mem_map.1 hX
  exact (rok_of (h.recs r hr)).len
 rwa [List.length_map] at this
theorem Log.take {D : List api_Record} (h : Log D) (k : Nat) : Log (D.take k) := ⟨fun r hr => h.pr r (List.mem_of_mem_take hr), recsE_take D 0 [] k h.re⟩
theorem Log.snoc {D : List api_Record} (h : Log D) {r : api_Record} (hr : Pr r) (hs : eStep (lastT D) (mapOf [] D) r = 0) : Log (D ++ [r]) :=
 ⟨fun x hx => by
  rcases List.mem_append.1 hx with hx | hx
  ·exact h.pr x hx
  ·rw [List.mem_singleton.1 hx]; exact hr, by rw [recsE_snoc0, h.re, hs]; rfl⟩
theorem Log.nil : Log [] := ⟨fun r hr => (by cases hr), rfl⟩
theorem Text_eq (p : Str) (rs : List api_Record) (Xs : List Str) (q : Str) (last : Int) (m : Mh) (h : (logT q Xs).length ≤ 100000000) (hx : Xs.length ≤ 100000) : log_Log_Text_i1 p rs (linesL q Xs) last m = some (logT q Xs) := by
 unfold log_Log_Text_i1
 cases Xs with
 | nil => rfl
 | cons X Xs =>
  rw [← linesL_flat] at h ⊢
  rw [linesL] at h ⊢
  have hl := linesL_len Xs (sumS (q ++ X))
  rw [List.flatten_cons, List.length_append, List.length_flatten] at h
  simp only [List.length_cons] at hx
  rw [join_eq [] _ _ (by decide) (by omega) (by omega), call_some]
  simp
theorem Records_eq (p : Str) (rs : List api_Record) (ls : List Str) (last : Int) (m : Mh) (h : rs.length ≤ 100000) : log_Log_Records_i1 p rs ls last m = some rs := by
 unfold log_Log_Records_i1
 rw [List.nil_append, chk_true (by omega)]
theorem Add_log {D : List api_Record} (hD : Log D) (hlen : D.length < 5000) {r : api_Record} (hr : Pr r) : log_Log_Add_i1 r (sumL [] (D.map rT)) D (linesL [] (D.map rT)) (lastT D) (mapOf [] D) = some
  (bif decide (eStep (lastT D) (mapOf [] D) r = 0) then (0, sumL [] ((D ++ [r]).map rT), D ++ [r], linesL [] ((D ++ [r]).map rT), lastT (D ++ [r]), mapOf [] (D ++ [r]))
   else (eStep (lastT D) (mapOf [] D) r, sumL [] (D.map rT), D, linesL [] (D.map rT), lastT D, mapOf [] D)) := by
 have hm := mapOf_le D []
 rw [Add_eq r _ _ _ _ _ hr (sumL_len _ _ (by decide)) hlen (by rw [linesL_len, List.length_map]; omega) (by simp at hm; omega)]
 unfold addR
 rw [List.map_append, List.map_cons, List.map_nil, sumL_snoc, linesL_app, lastT_snoc, mapOf_snoc]
 rfl
theorem logText_loop {Z : Type} {f : Nat → api_Record → Str × Str → (Str × Str → Option Z) → (Str × Str → Option Z) → Option Z} {K : Str × Str → Option Z}
  (hf : ∀ i r p o nx, Rok r → p.length ≤ 16 → o.length ≤ 1000000000 → f i r (p, o) nx K = nx (sumS (p ++ rT r), o ++ lineOf p (rT r))) :
  ∀ (l : List api_Record) (i : Nat) (p o : Str), (∀ r ∈ l, Rok r) → p.length ≤ 16 → o.length + 5018 * l.length ≤ 1000000000 → forL l i f (p, o) K = K (sumL p (l.map rT), o ++ logT p (l.map rT)) := by
 intro l
 induction l with
 | nil => intro i p o _ _ _; unfold forL; simp [sumL, logT]
 | cons r l ih =>
  intro i p o hr hp ho
  simp only [List.length_cons] at ho
  have hl := (hr r (by simp)).len
  have hs := sumS_length (p ++ rT r)
  unfold forL
  rw [hf i r p o _ (hr r (by simp)) hp (by omega), ih (i + 1) _ _ (fun x hx => hr x (by simp [hx])) (by omega) (by
   rw [List.length_append, lineOf_eq, List.length_append, head_len, List.length_singleton]; omega)]
  rw [List.map_cons, logT_cons, lineOf_eq]
  simp [sumL]
theorem R_LogText_eq (l : List api_Record) (h : ∀ r ∈ l, Rok r) (hl : l.length ≤ 5000) : R_LogText l = some (logT [] (l.map rT), sumL [] (l.map rT)) := by
 unfold R_LogText
 rw [jp_eq]
 refine (logText_loop (fun i r p o nx hr hp ho => ?_) l 0 [] [] h (by decide) (by simp; omega)).trans ?_
 ·have hrl := hr.len
  have hs := sumS_length (p ++ rT r)
  dsimp only
  rw [R_recordText_eq hr, call_some, chk_true (by rw [List.length_append]; omega), R_SumOf_eq, call_some]
  iterate 3 rw [chk_true (by simp only [List.length_append, List.length_cons, List.length_nil]; omega)]
  rw [write_eq _ _ (by simp only [List.length_append, List.length_cons, List.length_nil]; omega), call_some]
  rfl
 ·dsimp only
  rw [List.nil_append]; rfl
theorem Log.rok {D : List api_Record} (h : Log D) : ∀ r ∈ D, Rok r := fun r hr => rok_of (h.recs r hr)
theorem grow_err {D : List api_Record} (hD : Log D) (hl : D.length < 5000) (r : api_Record) :
  (bif decide ((bif ((decide (eRec r = 0)) && (decide (0 < (D.length : Int)))) && (decide (r.Time < lastT D)) then (7 : Int) else eRec r) = 0) then rowE (D ++ [r]) else (bif ((decide (eRec r = 0)) && (decide (0 < (D.length : Int)))) && (decide (r.Time < lastT D)) then (7 : Int) else eRec r)) = eStep (lastT D) (mapOf [] D) r := by
 have hrow : rowE (D ++ [r]) = eStep (lastT D) (mapOf [] D) r := by
  unfold rowE
  rw [decide_eq_false (by simp; omega), cond_false, recsE_snoc0, hD.re]; rfl
 rw [hrow]
 by_cases he : eRec r = 0
 ·have ht := eRec_time he
  rw [he, decide_eq_true rfl, Bool.true_and]
  have es : eStep (lastT D) (mapOf [] D) r = bif decide (r.Time < lastT D) then 7 else wh (badK r (alook (mapOf [] D) r.Pack)) 12 := by unfold eStep; rw [he]; rfl
  by_cases htl : r.Time < lastT D
  ·have hpos : 0 < D.length := by
    rcases D with _ | ⟨x, D⟩
    ·have : lastT [] = 0 := rfl
     omega
    ·simp
   have hpz : decide ((0 : Int) < (D.length : Int)) = true := decide_eq_true (by omega)
   rw [decide_eq_true htl, hpz, es, decide_eq_true htl]; rfl
  ·rw [decide_eq_false htl, Bool.and_false]; rfl
 ·rw [decide_eq_false he]
  simp only [Bool.false_and, cond_false]
  rw [decide_eq_false he, cond_false]
  unfold eStep
  rw [or2_ne he]
theorem lastT_at (D : List api_Record) (h : 0 < D.length) (hl : D.length ≤ 1000000) (d : api_Record) : (D.getD (IntKind.i64.wrap ((D.length : Int) - 1)).toNat d).Time = lastT D := by
 rcases List.eq_nil_or_concat D with rfl | ⟨q, x, rfl⟩
 ·simp at h
 ·rw [List.length_concat, wrapS (by omega) (by rw [List.length_concat] at hl; omega), show (((q.length + 1 : Nat) : Int) - 1).toNat = q.length by omega, List.concat_eq_append, List.getD_eq_getElem?_getD, List.getElem?_append_right (Nat.le_refl _)]
  unfold lastT
  simp
abbrev GS := Mh × Int × Str × List api_Record × List api_Record × List Str
def stG (D : List api_Record) : GS := (mapOf [] D, lastT D, sumL [] (D.map rT), D, D, linesL [] (D.map rT))
theorem grow_loop {Z : Type} {f : Nat → api_Record → GS → (GS → Option Z) → (GS → Option Z) → Option Z} {K : GS → Option Z} {Q : Z → Prop}
  (hf : ∀ i r D nx, Log D → D.length < 100 → Pr r → f i r (stG D) nx K = nx (stG (bif decide (eStep (lastT D) (mapOf [] D) r = 0) then D ++ [r] else D)))
  (hK : ∀ D, Log D → D.length ≤ 100 → Ok (K (stG D)) Q) :
  ∀ (l : List api_Record) (i : Nat) (D : List api_Record), Log D → (∀ r ∈ l, Pr r) → D.length + l.length ≤ 100 → Ok (forL l i f (stG D) K) Q := by
 intro l
 induction l with
 | nil => intro i D hD _ hl; unfold forL; exact hK D hD (by simpa using hl)
 | cons r l ih =>
  intro i D hD hp hl
  simp only [List.length_cons] at hl
  unfold forL
  rw [hf i r D _ hD (by omega) (hp r (by simp))]
  cases hs : decide (eStep (lastT D) (mapOf [] D) r = 0)
  ·exact ih (i + 1) D hD (fun x hx => hp x (by simp [hx])) (by omega)
  ·exact ih (i + 1) (D ++ [r]) (hD.snoc (hp r (by simp)) (of_decide_eq_true hs)) (fun x hx => hp x (by simp [hx])) (by simp; omega)
theorem jpL {S Z : Type} {F : S → Option Z} {p : Prop} [Decidable p] {A : Type} {v : A} {w : A → Bool} {a b : S} (hp : p) : jp F (fun k => chk p (letv v fun v' => letv (w v') fun w' => bif w' then k a else k b)) = F (bif w v then a else b) := by
 rw [jp_eq, chk_true hp, letv_eq, letv_eq]
 cases w v <;> rfl
theorem jpR {A Z : Type} {F : Int → Option Z} {e : Int} {a : Option A} {D : A} {q : A → Prop} [∀ r, Decidable (q r)] {R : A → Option Int} {y : Int} (ha : a = some D) (hq : q D) (hR : R D = some y) :
  jp F (fun k => bif decide (e = 0) then call a (fun r => chk (q r) (call (R r) fun x => k x)) else k e) = F (bif decide (e = 0) then y else e) := by
 rw [jp_eq, ha, call_some, chk_true hq, hR, call_some]
 cases decide (e = 0) <;> rfl
theorem Sum_eq (p : Str) (rs : List api_Record) (ls : List Str) (last : Int) (m : Mh) : log_Log_Sum_i1 p rs ls last m = some p := rfl
theorem law_lg (l : List api_Record) (hp : ∀ r ∈ l, Pr r) : Law_LogsGrow l = some true := by
 suffices h : Ok (Law_LogsGrow l) fun z => z = true by
  obtain ⟨z, h, rfl⟩ := h
  exact h
 unfold Law_LogsGrow
 rw [landed_eq, call_some, Bool.not_true, cond_false, show log_New = some ([], 0, []) from rfl, call_some, jp_eq, chk_true (by omega)]
 have hlt : (List.take (min (l.length : Int) 60).toNat l).length ≤ 60 := by simp only [List.length_take]; omega
 dsimp only
 refine grow_loop (fun i r D nx hD hlen hr => ?_) (fun D hD hlen => ?_) _ 0 [] Log.nil (fun r hr => hp r (List.mem_of_mem_take hr)) (by simp only [List.length_nil]; omega)
 ·unfold stG
  dsimp only
  rw [R_RecordError_eq r hr, call_some]
  have hv : (((decide (eRec r = 0)) && (decide (0 < (D.length : Int)))) && (decide (r.Time < (D.getD (IntKind.i64.wrap ((D.length : Int) - 1)).toNat (api_Record.mk 0 0 [] (api_Version.mk 0 0 0 []) (api_Version.mk 0 0 0 []) 0 [])).Time))) = (((decide (eRec r = 0)) && (decide (0 < (D.length : Int)))) && (decide (r.Time < lastT D))) := by
   by_cases h0 : 0 < D.length
   ·rw [lastT_at D h0 (by omega)]
   ·rw [decide_eq_false (show ¬ (0 : Int) < (D.length : Int) by omega)]; simp
  have hpa : ∀ x ∈ D ++ [r], Pr x := fun x hx => by
   rcases List.mem_append.1 hx with hx | hx
   ·exact hD.pr x hx
   ·rw [List.mem_singleton.1 hx]; exact hr
  have hcl : (D ++ [r]).length ≤ 274877906944 := by simp; omega
  have hchk : ((decide (eRec r = 0)) && (decide (0 < (D.length : Int)))) = true → (0 ≤ IntKind.i64.wrap ((D.length : Int) - 1) ∧ IntKind.i64.wrap ((D.length : Int) - 1) < (D.length : Int)) := fun hg => by
   simp only [Bool.and_eq_true, decide_eq_true_eq] at hg
   rw [wrapS (by omega) (by omega)]; omega
  rw [jpL hchk, hv, jpR (q := fun z => (z ++ [r]).length ≤ 274877906944) (R := fun z => R_RecordsError (z ++ [r])) (clone_eq D (by omega)) hcl (R_RecordsError_eq _ hpa), grow_err hD (by omega) r]
  rw [Add_log hD (by omega) hr, call_some]
  cases hs : decide (eStep (lastT D) (mapOf [] D) r = 0)
  ·simp only [cond_false, decide_true, Bool.not_true, jp_eq]
   have htl := hD.tlen
   rw [R_LogText_eq D hD.rok (by omega), call_some, Records_eq _ _ _ _ _ (by omega), call_some, equal_self, call_some, Text_eq _ _ _ _ _ _ (by omega) (by rw [List.length_map]; omega), callG_some]
   simp only [Bool.not_true, Bool.not_false, cond_true, decide_true, Bool.or_self]
   rw [callG_true, Sum_eq, call_some]
   simp only [decide_true, Bool.not_true, Bool.or_self, cond_false]
  ·have hD2 := hD.snoc hr (of_decide_eq_true hs)
   have hl2 : (D ++ [r]).length ≤ 101 := by simp; omega
   have ht2 := hD2.tlen
   have h0 := of_decide_eq_true hs
   simp only [cond_true, h0, decide_true, Bool.not_true, cond_false, jp_eq]
   rw [chk_true hcl, R_LogText_eq _ hD2.rok (by omega), call_some, Records_eq _ _ _ _ _ (by omega), call_some, equal_self, call_some, Text_eq _ _ _ _ _ _ (by omega) (by rw [List.length_map]; omega), callG_some]
   simp only [Bool.not_true, Bool.not_false, cond_true, decide_true, Bool.or_self]
   rw [callG_true, Sum_eq, call_some]
   simp only [decide_true, Bool.not_true, Bool.or_self, cond_false]
 ·unfold stG
  dsimp only
  have htl := hD.tlen
  rw [Text_eq _ _ _ _ _ _ (by omega) (by rw [List.length_map]; omega), call_some]
  have ho := Open_eq D [] hD.pr hD.re (by omega) (.inl (by simp)) (by rw [List.append_nil]; omega)
  rw [List.append_nil] at ho
  rw [ho, call_some]
  simp only [decide_true, Bool.and_self, callG_true]
  rw [Records_eq _ _ _ _ _ (by omega), call_some, equal_self, call_some]
  simp only [Bool.and_self, callG_true]
  rw [Sum_eq, call_some, call_some, decide_eq_true rfl]
  exact Ok.letv (Ok.some rfl)
end Go.Md
