/- Plain lemmas on the models: the law's model answers true. -/
import Derived.Test.YtaabfmccihcnkaaGreatDoorSuMd
set_option linter.unusedSimpArgs false
set_option linter.unusedVariables false
namespace Go.Md
open Go.Vc
section
variable {Z A S α : Type}
theorem call_some (x : A) (k : A → Option Z) : call (some x) k = k x := rfl
theorem callG_some (g : Bool) (x d : A) (k : A → Option Z) : callG g (some x) d k = k (bif g then x else d) := by cases g <;> rfl
theorem callG_true (a : Option A) (d : A) (k : A → Option Z) : callG true a d k = call a k := rfl
theorem callG_false (a : Option A) (d : A) (k : A → Option Z) : callG false a d k = k d := rfl
theorem chk_true {p : Prop} [Decidable p] (h : p) (m : Option Z) : chk p m = m := if_pos h
theorem jp_eq (F : S → Option Z) (m : (S → Option Z) → Option Z) : jp F m = m F := rfl
theorem jpC (F : S → Option Z) (c : Bool) (x y : S) : jp F (fun k => bif c then k x else k y) = F (bif c then x else y) := by cases c <;> rfl
theorem idxS_eq {s : Str} {i : Nat} (h : i < s.length) (k : Int → Option Z) : idxS s i k = k (s[i].toNat : Int) := by
 unfold idxS
 simp [h]
theorem idx_eq {l : List α} {i : Nat} (h : i < l.length) (k : α → Option Z) : idx l i k = k l[i] := by
 unfold idx
 simp [h]
theorem forL_all {f : Nat → α → Unit → (Unit → Option Z) → (Unit → Option Z) → Option Z} {z : Z} (q : α → Bool) (hf : ∀ i x nx k, f i x () nx k = bif q x then nx () else some z) (k : Unit → Option Z) :
  ∀ (l : List α) (i : Nat), forL l i f () k = bif l.all q then k () else some z
 | [], i => rfl
 | x :: l, i => by
  unfold forL
  rw [hf, forL_all q hf k l (i + 1), List.all_cons]
  cases q x <;> rfl
theorem forL_run {f : Nat → α → S → (S → Option Z) → (S → Option Z) → Option Z} {k : S → Option Z} (inv : Nat → List α → S → Prop) (R : Nat → List α → S → Option Z)
  (h0 : ∀ i s, inv i [] s → k s = R i [] s) (h1 : ∀ i x l s nx, inv i (x :: l) s → (∀ s', inv (i + 1) l s' → nx s' = R (i + 1) l s') → f i x s nx k = R i (x :: l) s) :
  ∀ (l : List α) (i : Nat) (s : S), inv i l s → forL l i f s k = R i l s
 | [], i, s, h => h0 i s h
 | x :: l, i, s, h => h1 i x l s _ h fun s' hs => forL_run inv R h0 h1 l (i + 1) s' hs
theorem loopN_run {f : S → (S → Option Z) → (S → Option Z) → Option Z} {k : S → Option Z} (inv : S → Prop) (mu : S → Nat) (R : S → Option Z)
  (h : ∀ s nx, inv s → (∀ s', inv s' → mu s' < mu s → nx s' = R s') → f s nx k = R s) : ∀ (N : Nat) (s : S), inv s → mu s < N → loopN N f s k = R s
 | 0, s, _, hm => by omega
 | N + 1, s, hi, hm => by
  unfold loopN
  exact h s _ hi fun s' hs' hlt => loopN_run inv mu R h N s' hs' (by omega)
theorem condS (b : Bool) (x y : Z) : (bif b then some x else some y) = some (bif b then x else y) := by cases b <;> rfl
theorem condN (c : Bool) (x y : Z) : (bif c then x else y) = bif !c then y else x := by cases c <;> rfl
theorem bif_t {c : Bool} (h : c = true) (x y : Z) : (bif c then x else y) = x := by rw [h]; rfl
theorem bif_f {c : Bool} (h : c = false) (x y : Z) : (bif c then x else y) = y := by rw [h]; rfl
end
theorem wrapS {n : Int} (h1 : -9223372036854775808 ≤ n) (h2 : n ≤ 9223372036854775807) : IntKind.i64.wrap n = n := wrap64 h1 h2
theorem wrapN (n : Nat) (h : n ≤ 9223372036854775807) : IntKind.i64.wrap (n : Int) = n := wrap64 (by omega) (by omega)
theorem wrap1 (i : Nat) (h : i < 9223372036854775807) : IntKind.i64.wrap ((i : Int) + 1) = ((i + 1 : Nat) : Int) := by rw [wrapS (by omega) (by omega)]; rfl
theorem wrapm1 (i : Nat) (h0 : 0 < i) (h : i < 9223372036854775807) : IntKind.i64.wrap ((i : Int) - 1) = ((i - 1 : Nat) : Int) := by rw [wrapS (by omega) (by omega)]; omega
theorem fuel_ge : 1099511627776 ≤ Fuel := Nat.le_refl _
def cutAt (c : UInt8) : Str → Str × Str × Bool
 | [] => ([], [], false)
 | b :: s => if b = c then ([], s, true) else (b :: (cutAt c s).1, (cutAt c s).2.1, (cutAt c s).2.2)
def splitAt (c : UInt8) : Str → List Str
 | [] => [[]]
 | b :: s => if b = c then [] :: splitAt c s else match splitAt c s with
  | [] => [[b]]
  | h :: t => (b :: h) :: t
theorem cutAt_none {c : UInt8} : ∀ {s : Str}, c ∉ s → cutAt c s = (s, [], false)
 | [], _ => rfl
 | b :: s, h => by
  have hb : b ≠ c := fun e => h (by simp [e])
  have ht := cutAt_none (s := s) (c := c) (fun h' => h (List.mem_cons_of_mem _ h'))
  simp only [cutAt, if_neg hb, ht]
theorem cutAt_some {c : UInt8} : ∀ {s : Str}, c ∈ s → (cutAt c s).2.2 = true ∧ s = (cutAt c s).1 ++ c :: (cutAt c s).2.1 ∧ c ∉ (cutAt c s).1
 | [], h => by cases h
 | b :: s, h => by
  by_cases hb : b = c
  ·subst hb; simp [cutAt]
  ·have hm : c ∈ s := by
    rcases List.mem_cons.1 h with rfl | h
    ·exact absurd rfl hb
    ·exact h
   obtain ⟨h1, h2, h3⟩ := cutAt_some hm
   simp only [cutAt, if_neg hb]
   refine ⟨h1, by rw [List.cons_append, ← h2], ?_⟩
   intro h'
   rcases List.mem_cons.1 h' with rfl | h'
   ·exact hb rfl
   ·exact h3 h'
theorem splitAt_none {c : UInt8} : ∀ {s : Str}, c ∉ s → splitAt c s = [s]
 | [], _ => rfl
 | b :: s, h => by
  have hb : b ≠ c := fun e => h (by simp [e])
  have ht := splitAt_none (s := s) (c := c) (fun h' => h (List.mem_cons_of_mem _ h'))
  simp only [splitAt, if_neg hb, ht]
theorem splitAt_app {c : UInt8} : ∀ {a b : Str}, c ∉ a → splitAt c (a ++ c :: b) = a :: splitAt c b
 | [], b, _ => by simp [splitAt]
 | x :: a, b, h => by
  have hx : x ≠ c := fun e => h (by simp [e])
  have := splitAt_app (a := a) (b := b) (c := c) (fun h' => h (List.mem_cons_of_mem _ h'))
  simp only [List.cons_append, splitAt, if_neg hx, this]
theorem splitAt_cut (c : UInt8) (s : Str) : splitAt c s = if (cutAt c s).2.2 = true then (cutAt c s).1 :: splitAt c (cutAt c s).2.1 else [s] := by
 by_cases h : c ∈ s
 ·obtain ⟨h1, h2, h3⟩ := cutAt_some h
  rw [if_pos h1]
  conv => lhs; rw [h2]
  exact splitAt_app h3
 ·rw [cutAt_none h]
  simpa using splitAt_none h
theorem cutAt_len (c : UInt8) (s : Str) : (cutAt c s).1.length ≤ s.length ∧ (cutAt c s).2.1.length ≤ s.length ∧ ((cutAt c s).2.2 = true → (cutAt c s).1.length + (cutAt c s).2.1.length + 1 = s.length) := by
 by_cases h : c ∈ s
 ·obtain ⟨h1, h2, h3⟩ := cutAt_some h
  have := congrArg List.length h2
  simp only [List.length_append, List.length_cons] at this
  exact ⟨by omega, by omega, fun _ => by omega⟩
 ·rw [cutAt_none h]; simp
def ixb (s : Str) (c : UInt8) : Int := Lib.indexByte s c
theorem ixb_cut (c : UInt8) : ∀ s : Str, ixb s c = if c ∈ s then ((cutAt c s).1.length : Int) else -1
 | [] => rfl
 | b :: s => by
  have ih := ixb_cut c s
  unfold ixb at *
  unfold Lib.indexByte
  by_cases hb : b = c
  ·subst hb; simp [cutAt]
  ·rw [if_neg (by simpa using hb), ih]
   simp only [cutAt, if_neg hb, List.mem_cons, Ne.symm hb, false_or]
   by_cases h : c ∈ s
   ·rw [if_pos h, if_pos h]
    simp
   ·rw [if_neg h, if_neg h]; rfl
theorem ixb_some {c : UInt8} {s : Str} (h : c ∈ s) : ixb s c = ((cutAt c s).1.length : Int) := by rw [ixb_cut, if_pos h]
theorem cutAt_take {c : UInt8} {s : Str} (h : c ∈ s) : s.take (cutAt c s).1.length = (cutAt c s).1 ∧ s.drop ((cutAt c s).1.length + 1) = (cutAt c s).2.1 := by
 obtain ⟨h1, h2, h3⟩ := cutAt_some h
 generalize cutAt c s = q at h2 ⊢
 subst h2
 constructor
 ·exact List.take_left' rfl
 ·rw [← List.drop_drop, List.drop_left' rfl]; rfl
theorem len1 (c : UInt8) : ((([c] : Str).length : Nat) : Int) = 1 := rfl
theorem indexByte_u8 (s : Str) (c : UInt8) : ixByte s (c.toNat : Int) = ixb s c := by
 unfold ixByte ixb
 congr 1
 simp
theorem slite_eq (s : Str) (c : UInt8) : internal_stringslite_Index s [c] = some (ixb s c) := by
 unfold internal_stringslite_Index internal_stringslite_IndexByte
 by_cases h : s = [c]
 ·subst h
  simp [ixb, Lib.indexByte]
 ·have : (decide (([c] : Str) = s)) = false := by simpa using fun e => h e.symm
  simp only [this, len1, show decide ((1 : Int) = 0) = false from rfl, show decide ((1 : Int) = 1) = true from rfl, decide_true, Bool.or_false, cond_false, cond_true]
  show idxS [c] ((0 : Nat) : Int) _ = _
  rw [idxS_eq (by simp)]
  simp only [call_some, List.getElem_cons_zero, indexByte_u8]
theorem index_eq (s : Str) (c : UInt8) : strings_Index s [c] = some (ixb s c) := by
 unfold strings_Index
 rw [slite_eq]; rfl
theorem count_eq (s : Str) (c : UInt8) : strings_Count s [c] = some ((s.count c : Nat) : Int) := by
 unfold strings_Count
 simp only [len1, show decide ((1 : Int) = 0) = false from rfl, show decide ((1 : Int) = 1) = true from rfl, decide_true, cond_false, cond_true]
 show idxS [c] ((0 : Nat) : Int) _ = _
 rw [idxS_eq (by simp)]
 unfold cntByte
 simp
theorem drop_cut_count {c : UInt8} {s : Str} (h : c ∈ s) : (cutAt c s).2.1.count c + 1 = s.count c := by
 obtain ⟨h1, h2, h3⟩ := cutAt_some h
 conv => rhs; rw [h2]
 rw [List.count_append, List.count_eq_zero_of_not_mem h3, List.count_cons_self]
 omega
theorem set_take {α : Type} (l : List α) (i : Nat) (x : α) (h : i < l.length) : (l.set i x).take (i + 1) = l.take i ++ [x] := by
 rw [List.take_succ_eq_append_getElem (by simpa using h)]
 simp [List.take_set_of_le]
theorem split_eq (s : Str) (c : UInt8) (hs : s.length ≤ 17179869184) : strings_Split s [c] = some (splitAt c s) := by
 have hcl := List.count_le_length (a := c) (l := s)
 have key : strings_genSplit s [c] 0 (-1) = some (splitAt c s) := by
  unfold strings_genSplit
  obtain ⟨N, hN⟩ : ∃ N, Fuel = N := ⟨_, rfl⟩
  have hN2 : 1099511627776 ≤ N := hN ▸ fuel_ge
  rw [hN]
  clear hN
  have hmin : min ((s.count c + 1 : Nat) : Int) ((s.length + 1 : Nat) : Int) = ((s.count c + 1 : Nat) : Int) := by omega
  simp only [jp_eq, count_eq, call_some, show decide ((-1 : Int) = 0) = false from rfl, show decide ((-1 : Int) < 0) = true from rfl, show decide (([c] : Str) = []) = false from rfl, cond_true, cond_false]
  simp only [wrap1 (s.count c) (by omega), wrap1 s.length (by omega), hmin]
  rw [chk_true (by omega)]
  have hw : IntKind.i64.wrap (((s.count c + 1 : Nat) : Int) - 1) = ((s.count c : Nat) : Int) := by rw [wrapS (by omega) (by omega)]; omega
  simp only [hw, Int.toNat_natCast]
  refine (loopN_run (S := Str × Int × List Str) (fun st => ∃ i : Nat, st.2.1 = i ∧ st.2.2.length = s.count c + 1 ∧ st.1.length ≤ s.length ∧ i + st.1.count c = s.count c) (fun st => s.count c - st.2.1.toNat)
   (fun st => some (st.2.2.take st.2.1.toNat ++ splitAt c st.1)) ?_ N _ ⟨0, rfl, by simp, Nat.le_refl _, by simp⟩ (by simp only; omega)).trans ?_
  ·rintro ⟨t, i', o⟩ nx ⟨i, rfl, ho, ht, hc⟩ hnx
   simp only at ho ht hc hnx ⊢
   simp only [index_eq, call_some]
   by_cases hi : i < s.count c
   ·have hmem : c ∈ t := by rw [← List.count_pos_iff]; omega
    obtain ⟨h1, h2, h3⟩ := cutAt_some hmem
    have hl := (cutAt_len c t).2.2 h1
    obtain ⟨t1, t2⟩ := cutAt_take hmem
    rw [decide_eq_true (by omega), cond_true, ixb_some hmem, decide_eq_false (by omega), cond_false]
    have hw3 : IntKind.i64.wrap (((cutAt c t).1.length : Int) + 0) = ((cutAt c t).1.length : Int) := by rw [wrapS (by omega) (by omega)]; omega
    have hw4 : IntKind.i64.wrap (((cutAt c t).1.length : Int) + (([c] : Str).length : Int)) = (((cutAt c t).1.length + 1 : Nat) : Int) := wrap1 _ (by omega)
    simp only [hw3, hw4, wrap1 i (by omega), Int.toNat_natCast]
    rw [chk_true (by omega), chk_true (by omega), chk_true (by omega)]
    have hdc := drop_cut_count hmem
    simp only [t1, t2]
    rw [hnx _ ⟨i + 1, rfl, by simpa using ho, by simp only; omega, by simp only; omega⟩ (by simp only [Int.toNat_natCast]; omega)]
    simp only [Int.toNat_natCast]
    rw [set_take o i _ (by omega)]
    congr 1
    rw [show splitAt c t = (cutAt c t).1 :: splitAt c (cutAt c t).2.1 by rw [splitAt_cut, if_pos h1]]
    simp
   ·obtain rfl : i = s.count c := by omega
    rw [decide_eq_false (by omega), cond_false]
    have hmem : c ∉ t := by rw [← List.count_pos_iff]; omega
    rw [chk_true (by omega), wrap1 _ (by omega)]
    simp only [Int.toNat_natCast, List.length_set]
    rw [chk_true (by omega), set_take o _ _ (by omega), splitAt_none hmem]
  ·simp
 unfold strings_Split
 rw [key]; rfl
def HX : Str := [48, 49, 50, 51, 52, 53, 54, 55, 56, 57, 97, 98, 99, 100, 101, 102]
def hexb (n : Nat) : UInt8 := HX.getD n 0
def isEsc (c : UInt8) : Bool := decide ((c.toNat : Int) = 92) || decide ((c.toNat : Int) = 34)
def isFar (c : UInt8) : Bool := decide ((c.toNat : Int) < 32) || decide (126 < (c.toNat : Int))
def esc (c : UInt8) : Str := bif isEsc c then [92, c] else bif decide ((c.toNat : Int) = 10) then [92, 110] else bif isFar c then [92, 120, hexb (c.toNat / 16), hexb (c.toNat % 16)] else [c]
def body (t : Str) : Str := t.flatMap esc
def quoteS (t : Str) : Str := 34 :: (body t ++ [34])
theorem u8all {p : UInt8 → Prop} (h : ∀ n : Fin 256, p (UInt8.ofNat n.val)) (c : UInt8) : p c := by
 have := h ⟨c.toNat, c.toNat_lt⟩
 simpa using this
theorem hi4 (c : UInt8) : Int.fdiv (c.toNat : Int) (2 ^ (shI .u8 4)) = ((c.toNat / 16 : Nat) : Int) := by
 revert c
 exact u8all (by decide +kernel)
theorem lo4 (c : UInt8) : bitsI .and .u8 (c.toNat : Int) 15 = ((c.toNat % 16 : Nat) : Int) := by
 revert c
 exact u8all (by decide +kernel)
theorem hi4_lt (c : UInt8) : c.toNat / 16 < 16 := by have := c.toNat_lt; omega
theorem lo4_lt (c : UInt8) : c.toNat % 16 < 16 := by omega
theorem hx_get (n : Nat) (h : n < 16) : (HX[n]'(by simpa [HX] using h)) = hexb n := by
 simp [hexb, HX, List.getD_eq_getElem?_getD, h]
theorem hx_idx {Z : Type} (n : Nat) (h : n < 16) (k : Int → Option Z) : idxS HX (n : Int) k = k ((hexb n).toNat : Int) := by
 rw [idxS_eq (by simpa [HX] using h), hx_get n h]
theorem u8i (c : UInt8) : UInt8.ofNat ((c.toNat : Int)).toNat = c := by simp
theorem esc_len (c : UInt8) : (esc c).length ≤ 4 ∧ 1 ≤ (esc c).length := by
 unfold esc
 cases isEsc c <;> cases decide ((c.toNat : Int) = 10) <;> cases isFar c <;> simp
theorem body_len (t : Str) : (body t).length ≤ 4 * t.length := by
 induction t with
 | nil => simp [body]
 | cons c t ih =>
  have := (esc_len c).1
  simp only [body, List.flatMap_cons, List.length_append, List.length_cons] at *
  omega
theorem body_cons (c : UInt8) (t : Str) : body (c :: t) = esc c ++ body t := by simp [body]
theorem quoteS_len (t : Str) : (quoteS t).length ≤ 4 * t.length + 2 := by
 have := body_len t
 simp only [quoteS, List.length_cons, List.length_append, List.length_nil]; omega
theorem takeHex (n : Nat) (h : n < 16) : List.take ((IntKind.u8.wrap ((n : Int) + 1)).toNat - ((n : Int)).toNat) (List.drop ((n : Int)).toNat HX) = [hexb n] := by
 have : ∀ m : Fin 16, List.take ((IntKind.u8.wrap (((m.val : Nat) : Int) + 1)).toNat - (((m.val : Nat) : Int)).toNat) (List.drop (((m.val : Nat) : Int)).toNat HX) = [hexb m.val] := by decide +kernel
 exact this ⟨n, h⟩
theorem wrapHex (n : Nat) (h : n < 16) : IntKind.u8.wrap ((n : Int) + 1) = ((n + 1 : Nat) : Int) := by
 have : ∀ m : Fin 16, IntKind.u8.wrap (((m.val : Nat) : Int) + 1) = ((m.val + 1 : Nat) : Int) := by decide +kernel
 exact this ⟨n, h⟩
theorem hxl : HX.length = 16 := rfl
theorem R_Quote_eq (s : Str) (hs : s.length ≤ 17179869184) : R_Quote s = some (quoteS s) := by
 unfold R_Quote
 simp only [jp_eq, show ([48, 49, 50, 51, 52, 53, 54, 55, 56, 57, 97, 98, 99, 100, 101, 102] : Str) = HX from rfl]
 refine (forL_run (fun i l (o : Str) => o.length + 4 * l.length ≤ 4 * s.length + 1 ∧ s.drop i = l) (fun i l o => some (o ++ (body l ++ [34]))) (fun i o h => ?_) (fun i c l o nx h hnx => ?_) s 0 _ ?_).trans ?_
 ·simp only [List.length_nil] at h
  rw [chk_true (by simp; omega)]
  rfl
 ·obtain ⟨h, hd⟩ := h
  simp only [List.length_cons] at h
  have hi : i < s.length := by
   rcases Nat.lt_or_ge i s.length with h | h
   ·exact h
   ·rw [List.drop_eq_nil_of_le h] at hd; cases hd
  have hd' : s.drop (i + 1) = l := by
   have := congrArg List.tail hd
   simpa using this
  have ht : List.take ((((i + 1 : Nat) : Int)).toNat - i) (List.drop i s) = [c] := by
   rw [hd, Int.toNat_natCast, Nat.add_sub_cancel_left]; rfl
  simp only [wrap1 i (by omega), ht]
  rw [body_cons]
  unfold esc isEsc
  rw [show (decide ((c.toNat : Int) = 34) || decide ((c.toNat : Int) = 92)) = (decide ((c.toNat : Int) = 92) || decide ((c.toNat : Int) = 34)) from Bool.or_comm _ _]
  cases h1 : decide ((c.toNat : Int) = 92) || decide ((c.toNat : Int) = 34) with
  | true =>
   simp only [cond_true]
   rw [chk_true (by omega), chk_true (by simp), chk_true (by simp; omega), hnx _ ⟨by simp; omega, hd'⟩]
   simp
  | false =>
   simp only [cond_false]
   cases h2 : decide ((c.toNat : Int) = 10) with
   | true =>
    simp only [cond_true]
    rw [chk_true (by simp; omega), hnx _ ⟨by simp; omega, hd'⟩]
    simp
   | false =>
    simp only [cond_false]
    unfold isFar
    cases h3 : decide ((c.toNat : Int) < 32) || decide (126 < (c.toNat : Int)) with
    | true =>
     have a1 := hi4_lt c
     have a2 := lo4_lt c
     simp only [cond_true, hi4, lo4]
     simp only [takeHex _ a1, takeHex _ a2]
     simp only [wrapHex _ a1, wrapHex _ a2, hxl]
     rw [chk_true (by omega), chk_true (by simp), chk_true (by omega), chk_true (by simp), chk_true (by simp; omega), hnx _ ⟨by simp; omega, hd'⟩]
     simp
    | false =>
     simp only [cond_false]
     rw [chk_true (by omega), chk_true (by simp; omega), hnx _ ⟨by simp; omega, hd'⟩]
     simp
 ·exact ⟨by simp; omega, rfl⟩
 ·rfl
def allI {α : Type} (q : Nat → α → Bool) : Nat → List α → Bool
 | _, [] => true
 | i, x :: l => q i x && allI q (i + 1) l
section
variable {Z α : Type}
theorem forL_allI {f : Nat → α → Unit → (Unit → Option Z) → (Unit → Option Z) → Option Z} {z : Z} (q : Nat → α → Bool) (hf : ∀ i x nx k, f i x () nx k = bif q i x then nx () else some z) (k : Unit → Option Z) :
  ∀ (l : List α) (i : Nat), forL l i f () k = bif allI q i l then k () else some z
 | [], i => rfl
 | x :: l, i => by
  unfold forL allI
  rw [hf, forL_allI q hf k l (i + 1)]
  cases q i x <;> rfl
end
def smallB (c : UInt8) : Bool := decide (97 ≤ (c.toNat : Int)) && decide ((c.toNat : Int) ≤ 122)
def digitB (c : UInt8) : Bool := decide (48 ≤ (c.toNat : Int)) && decide ((c.toNat : Int) ≤ 57)
def nameB (c : UInt8) : Bool := ((smallB c || digitB c) || decide ((c.toNat : Int) = 45)) || decide ((c.toNat : Int) = 46)
def nameOk (s : Str) : Bool := ((s.all nameB && (!decide (s = []) && decide ((s.length : Int) ≤ 40))) && smallB (s.getD 0 0))
theorem orG (a b : Bool) : (a || bif !a then b else false) = (a || b) := by cases a <;> rfl
theorem ver_IsName_1_eq (c : UInt8) : ver_IsName_1 (c.toNat : Int) = some (nameB c) := by
 unfold ver_IsName_1 ver_isSmall ver_isDigit
 simp only [call_some, callG_some, orG]
 rfl
theorem ver_IsName_eq (s : Str) : ver_IsName s = some (nameOk s) := by
 unfold ver_IsName ver_each_i1
 simp only [jp_eq]
 rw [forL_all nameB (fun i x nx k => by simp only [ver_IsName_1_eq, call_some]; cases nameB x <;> rfl)]
 simp only [condS, call_some]
 rw [chk_true]
 ·unfold ver_isSmall
  simp only [callG_some]
  unfold nameOk smallB
  generalize hA : s.all nameB = A
  cases A <;> simp only [cond_true, cond_false, Bool.false_and, Bool.true_and]
  generalize hB : (!decide (s = []) && decide ((s.length : Int) ≤ 40)) = B
  cases B <;> rfl
 ·intro h
  cases s with
  | nil => cases hA : List.all [] nameB <;> rw [hA] at h <;> simp at h
  | cons => simp only [List.length_cons]; omega
theorem allI_all {α : Type} {q : Nat → α → Bool} {p : α → Bool} : ∀ (l : List α) (i : Nat), (∀ j x, i ≤ j → q j x = p x) → allI q i l = l.all p
 | [], i, _ => rfl
 | x :: l, i, h => by
  unfold allI
  rw [h i x (Nat.le_refl _), allI_all l (i + 1) (fun j x hj => h j x (by omega)), List.all_cons]
theorem R_IsName_eq (s : Str) : R_IsName s = some (nameOk s) := by
 unfold R_IsName
 simp only [jp_eq]
 refine (forL_allI (z := false) (fun i c => !((decide ((i : Int) = 0) && !smallB c) || !nameB c)) (fun i c nx k => ?_) _ _ _).trans ?_
 ·rw [condN]
  congr 1
  unfold nameB smallB digitB
  rw [Bool.eq_iff_iff]
  simp only [Bool.or_eq_true, Bool.and_eq_true, Bool.not_eq_true', decide_eq_true_eq, Bool.or_eq_false_iff, Bool.and_eq_false_iff, decide_eq_false_iff_not, Bool.not_eq_false']
  omega
 simp only [condS]
 congr 1
 unfold nameOk
 cases s with
 | nil => rfl
 | cons x l =>
  unfold allI
  rw [allI_all (p := nameB) l 1 (fun j x hj => by rw [decide_eq_false (by omega)]; cases nameB x <;> rfl), List.all_cons]
  simp only [List.getD_cons_zero]
  cases nameB x <;> cases smallB x <;> cases l.all nameB <;> simp
def valB (c : UInt8) : Bool := decide (32 ≤ (c.toNat : Int)) && decide ((c.toNat : Int) ≤ 126)
def valueOk (s : Str) : Bool := s.all valB && decide ((s.length : Int) ≤ 1000)
theorem R_IsValue_eq (s : Str) : R_IsValue s = some (valueOk s) := by
 unfold R_IsValue
 simp only [jp_eq]
 refine (forL_all (z := false) valB (fun i c nx k => ?_) _ _ _).trans ?_
 ·rw [condN]
  congr 1
  unfold valB
  rw [Bool.eq_iff_iff]
  simp only [Bool.or_eq_true, Bool.and_eq_true, Bool.not_eq_true', decide_eq_true_eq, Bool.or_eq_false_iff, Bool.and_eq_false_iff, decide_eq_false_iff_not, Bool.not_eq_false']
  omega
 ·simp only [condS]
  unfold valueOk
  cases s.all valB <;> rfl
theorem ver_IsValue_eq (s : Str) : ver_IsValue s = some (valueOk s) := by
 unfold ver_IsValue ver_each_i2
 simp only [jp_eq]
 rw [forL_all valB (fun i x nx k => by unfold ver_IsValue_1 valB; simp only [call_some]; rw [condN, Bool.not_not])]
 simp only [condS, callG_some]
 unfold valueOk
 cases s with
 | nil => rfl
 | cons x l => simp only [show decide (x :: l = []) = false from rfl, Bool.not_false, Bool.true_and, cond_true, Bool.false_or]; cases List.all (x :: l) valB <;> rfl
def partB (c : UInt8) : Bool := ((((smallB c || (decide (65 ≤ (c.toNat : Int)) && decide ((c.toNat : Int) ≤ 90))) || digitB c) || decide ((c.toNat : Int) = 45)) || decide ((c.toNat : Int) = 46)) || decide ((c.toNat : Int) = 95)
def partOk (s : Str) : Bool := ((s.all partB && (!decide (s = []) && decide ((s.length : Int) ≤ 40))) && !decide (s = [46])) && !decide (s = [46, 46])
theorem R_isPart_eq (s : Str) : R_isPart s = some (partOk s) := by
 unfold R_isPart
 simp only [jp_eq]
 refine (forL_all (z := false) partB (fun i c nx k => ?_) _ _ _).trans ?_
 ·rw [condN]
  congr 1
  unfold partB smallB digitB
  rw [Bool.eq_iff_iff]
  simp only [Bool.or_eq_true, Bool.and_eq_true, Bool.not_eq_true', decide_eq_true_eq, Bool.or_eq_false_iff, Bool.and_eq_false_iff, decide_eq_false_iff_not, Bool.not_eq_false']
  omega
 ·simp only [condS]
  unfold partOk
  cases s.all partB <;> rfl
theorem orG3 (a b d : Bool) : ((a || b) || bif !(a || b) then d else false) = ((a || b) || d) := by cases a <;> cases b <;> rfl
theorem ver_isPart_eq (s : Str) : ver_isPart s = some (partOk s) := by
 unfold ver_isPart ver_each_i3
 simp only [jp_eq]
 rw [forL_all partB (fun i x nx k => by
  unfold ver_isPart_1 partB ver_isSmall ver_isDigit smallB digitB
  simp only [call_some, callG_some, orG3]
  rw [condN, Bool.not_not])]
 simp only [condS, call_some]
 unfold partOk
 cases s.all partB <;> rfl
def pathOk (s : Str) : Bool := (splitAt 47 s).all partOk && decide ((s.length : Int) ≤ 200)
theorem R_IsPath_eq (s : Str) (hs : s.length ≤ 17179869184) : R_IsPath s = some (pathOk s) := by
 unfold R_IsPath pathOk
 simp only [jp_eq, split_eq s 47 hs, call_some]
 rw [forL_all partOk (fun i x nx k => by rw [R_isPart_eq, call_some, condN, Bool.not_not])]
 cases (splitAt 47 s).all partOk <;> rfl
theorem ver_IsPath_eq (s : Str) (hs : s.length ≤ 17179869184) : ver_IsPath s = some (pathOk s) := by
 unfold ver_IsPath pathOk
 simp only [jp_eq, split_eq s 47 hs, call_some]
 rw [forL_all partOk (fun i x nx k => by rw [ver_isPart_eq, call_some, condN, Bool.not_not])]
 cases (splitAt 47 s).all partOk <;> rfl
def strLe (a b : Str) : Bool := strLt a b || decide (a = b)
theorem when_eq (b : Bool) (e : Int) : R_when b e = some (bif b then e else 0) := by cases b <;> rfl
def or2 (a b : Int) : Int := bif !decide (a = 0) then a else b
theorem first1 (a : Int) : R_first [a] = some a := by
 unfold R_first
 simp only [jp_eq, forL]
 by_cases h : a = 0
 ·subst h; rfl
 ·rw [decide_eq_false h]; rfl
theorem first_cons (a : Int) (l : List Int) (r : Int) (h : R_first l = some r) : R_first (a :: l) = some (or2 a r) := by
 unfold R_first at *
 simp only [jp_eq, forL] at *
 unfold or2
 by_cases ha : a = 0
 ·subst ha
  simp only [decide_true, Bool.not_true, cond_false]
  rw [← h]
  have : ∀ (l : List Int) (i j : Nat), forL l i (fun i_14 e_16 s nx_13 k_12 => bif !decide (e_16 = 0) then some e_16 else nx_13 ()) () (fun _ => some (0 : Int)) = forL l j (fun i_14 e_16 s nx_13 k_12 => bif !decide (e_16 = 0) then some e_16 else nx_13 ()) () (fun _ => some (0 : Int)) := by
   intro l
   induction l with
   | nil => intro i j; rfl
   | cons x l ih => intro i j; unfold forL; simp only [ih (i + 1) (j + 1)]
  exact this l _ _
 ·rw [decide_eq_false ha]; rfl
theorem first2 (a b : Int) : R_first [a, b] = some (or2 a b) := first_cons a _ _ (first1 b)
theorem first3 (a b c : Int) : R_first [a, b, c] = some (or2 a (or2 b c)) := first_cons a _ _ (first2 b c)
def eFact (s : api_Setting) : Int := bif !nameOk s.Key then 5 else bif !valueOk s.Value then 2 else 0
def eSet (s : api_Setting) : Int := bif !pathOk s.Key then 5 else bif !valueOk s.Value then 2 else 0
def eFile (f : api_File) : Int := bif !pathOk f.Path then 5 else bif decide (65536 < (f.Data.length : Int)) then 4 else 0
def eSvc (s : api_Service) : Int := bif !nameOk s.Name || !pathOk s.Path then 5 else 0
def ord (i : Nat) (a last : Str) : Bool := decide (0 < (i : Int)) && strLe a last
def firstE {α : Type} (e : α → Int) (nm : α → Str) : Nat → Str → List α → Int
 | _, _, [] => 0
 | i, last, x :: l => bif !decide (e x = 0) then e x else bif ord i (nm x) last then 7 else firstE e nm (i + 1) (nm x) l
theorem firstE_zero {α : Type} (e : α → Int) (nm : α → Str) (a b : Str) (l : List α) : firstE e nm 0 a l = firstE e nm 0 b l := by
 cases l <;> rfl
section
variable {Z α : Type} {e : α → Int} {nm : α → Str}
theorem loopR {f : Nat → α → Str → (Str → Option Int) → (Str → Option Int) → Option Int} {K : Str → Option Int} (P : α → Prop)
  (hf : ∀ i x last nx k, P x → f i x last nx k = bif !decide (or2 (e x) (bif ord i (nm x) last then 7 else 0) = 0) then some (or2 (e x) (bif ord i (nm x) last then 7 else 0)) else nx (nm x)) :
  ∀ (l : List α) (i : Nat) (last : Str), (∀ x ∈ l, P x) → ∃ last', forL l i f last K = bif !decide (firstE e nm i last l = 0) then some (firstE e nm i last l) else K last'
 | [], i, last, _ => ⟨last, rfl⟩
 | x :: l, i, last, hp => by
  obtain ⟨last', h⟩ := loopR P hf l (i + 1) (nm x) (fun y hy => hp y (List.mem_cons_of_mem _ hy))
  refine ⟨last', ?_⟩
  unfold forL firstE
  rw [hf _ _ _ _ _ (hp x (List.mem_cons_self ..)), h]
  unfold or2
  by_cases h1 : e x = 0
  ·simp only [h1, decide_true, Bool.not_true, cond_false]
   cases ord i (nm x) last <;> rfl
  ·simp only [decide_eq_false h1, Bool.not_false, cond_true]
theorem loopD {f : Nat → α → Unit → (Unit → Option Int) → (Unit → Option Int) → Option Int} {K : Unit → Option Int} (P : α → Prop) (L : List α) (d : α)
  (hf : ∀ (i : Nat) x nx k, P x → i < L.length → f i x () nx k = bif !decide (e x = 0) then some (e x) else bif ord i (nm x) (nm (L.getD (i - 1) d)) then some 7 else nx ()) :
  ∀ (l : List α) (i : Nat), L.drop i = l → (∀ x ∈ l, P x) → forL l i f () K = bif !decide (firstE e nm i (nm (L.getD (i - 1) d)) l = 0) then some (firstE e nm i (nm (L.getD (i - 1) d)) l) else K ()
 | [], i, _, _ => rfl
 | x :: l, i, hd, hp => by
  have hi : i < L.length := by
   rcases Nat.lt_or_ge i L.length with h | h
   ·exact h
   ·rw [List.drop_eq_nil_of_le h] at hd; cases hd
  have hx : L.getD i d = x := by
   have := List.drop_eq_getElem_cons hi
   rw [hd] at this
   have := (List.cons.inj this).1
   rw [this]; simp [hi]
  have hd' : L.drop (i + 1) = l := by
   have := congrArg List.tail hd
   simpa using this
  unfold forL firstE
  rw [hf _ _ _ _ (hp x (List.mem_cons_self ..)) hi, loopD P L d hf l (i + 1) hd' (fun y hy => hp y (List.mem_cons_of_mem _ hy))]
  simp only [Nat.add_sub_cancel, hx]
  by_cases h1 : e x = 0
  ·simp only [h1, decide_true, Bool.not_true, cond_false]
   cases ord i (nm x) (nm (L.getD (i - 1) d)) <;> rfl
  ·simp only [decide_eq_false h1, Bool.not_false, cond_true]
end
theorem chk1_eq (i : Nat) (s last : Str) : R_Check_1_i1 (i : Int) s last = some ((bif ord i s last then 7 else 0), s) := by
 unfold R_Check_1_i1
 rw [when_eq, call_some]; rfl
def Sm (s : Str) : Prop := s.length ≤ 17179869184
theorem R_fileError_eq (f : api_File) (h : Sm f.Path) : R_fileError f = some (eFile f) := by
 unfold R_fileError
 rw [R_IsPath_eq _ h]
 simp only [call_some, when_eq, first2]
 unfold eFile or2
 cases pathOk f.Path <;> rfl
theorem R_settingError_eq (f : api_Setting) (h : Sm f.Key) : R_settingError f = some (eSet f) := by
 unfold R_settingError
 rw [R_IsPath_eq _ h, R_IsValue_eq]
 simp only [call_some, when_eq, first2]
 unfold eSet or2
 cases pathOk f.Key <;> rfl
theorem R_serviceError_eq (f : api_Service) (h : Sm f.Path) : R_serviceError f = some (eSvc f) := by
 unfold R_serviceError
 rw [R_IsPath_eq _ h, R_IsName_eq]
 simp only [call_some, callG_some, when_eq]
 unfold eSvc
 cases nameOk f.Name <;> cases pathOk f.Path <;> rfl
theorem D_fileFault_eq (f : api_File) (h : Sm f.Path) : disk_fileFault f = some (eFile f) := by
 unfold disk_fileFault
 rw [ver_IsPath_eq _ h]
 simp only [call_some]
 unfold eFile
 cases pathOk f.Path
 ·rfl
 ·simp only [Bool.not_true, cond_false, condS]
theorem D_set_eq (f : api_Setting) (h : Sm f.Key) : disk_Check_3 f = some (eSet f) := by
 unfold disk_Check_3 disk_settingFault_i2
 rw [ver_IsPath_eq _ h, ver_IsValue_eq]
 simp only [call_some]
 unfold eSet
 cases pathOk f.Key <;> cases valueOk f.Value <;> rfl
theorem D_fact_eq (f : api_Setting) : disk_Check_1 f = some (eFact f) := by
 unfold disk_Check_1 disk_settingFault_i1
 rw [ver_IsName_eq, ver_IsValue_eq]
 simp only [call_some]
 unfold eFact
 cases nameOk f.Key <;> cases valueOk f.Value <;> rfl
theorem D_svc_eq (f : api_Service) (h : Sm f.Path) : disk_serviceFault f = some (eSvc f) := by
 unfold disk_serviceFault
 rw [ver_IsPath_eq _ h, ver_IsName_eq]
 simp only [call_some, callG_some]
 unfold eSvc
 cases nameOk f.Name <;> cases pathOk f.Path <;> rfl
theorem wrap_pred {i : Nat} (h : 0 < i) (h2 : i ≤ 274877906944) : IntKind.i64.wrap ((i : Int) - 1) = ((i - 1 : Nat) : Int) := by rw [wrapS (by omega) (by omega)]; omega
theorem ordE {i : Nat} {a b : Str} : (decide (0 < (i : Int)) && (strLt a b || decide (a = b))) = ord i a b := rfl
theorem eachSet1 (l : List api_Setting) (hl : l.length ≤ 17179869184) : disk_eachFault_api_Setting_i1 l = some (firstE eFact (·.Key) 0 [] l) := by
 unfold disk_eachFault_api_Setting_i1
 simp only [jp_eq]
 rw [loopD (e := eFact) (nm := (·.Key)) (fun _ => True) l ⟨[], []⟩ (fun i x nx k _ hi => by
  rw [D_fact_eq]
  simp only [call_some, disk_keyOf, callG_some]
  cases hg : decide (0 < (i : Int)) with
  | false => rw [chk_true (by intro h; cases h)]; unfold ord; rw [hg]; rfl
  | true =>
   have hi0 : 0 < i := by simpa using hg
   rw [wrap_pred hi0 (by omega), chk_true (by intro _; omega)]
   simp only [cond_true, Int.toNat_natCast]
   unfold ord strLe; rw [hg]) l 0 rfl (fun _ _ => trivial)]
 rw [condS]
 rw [firstE_zero eFact (·.Key) _ []]
 cases h : decide (firstE eFact (·.Key) 0 [] l = 0)
 ·rfl
 ·rw [of_decide_eq_true h]; rfl
theorem eachSet2 (l : List api_Setting) (hl : l.length ≤ 17179869184) (hs : ∀ x ∈ l, Sm x.Key) : disk_eachFault_api_Setting_i2 l = some (firstE eSet (·.Key) 0 [] l) := by
 unfold disk_eachFault_api_Setting_i2
 simp only [jp_eq]
 rw [loopD (e := eSet) (nm := (·.Key)) (fun x => Sm x.Key) l ⟨[], []⟩ (fun i x nx k hx hi => by
  rw [D_set_eq _ hx]
  simp only [call_some, disk_keyOf, callG_some]
  cases hg : decide (0 < (i : Int)) with
  | false => rw [chk_true (by intro h; cases h)]; unfold ord; rw [hg]; rfl
  | true =>
   have hi0 : 0 < i := by simpa using hg
   rw [wrap_pred hi0 (by omega), chk_true (by intro _; omega)]
   simp only [cond_true, Int.toNat_natCast]
   unfold ord strLe; rw [hg]) l 0 rfl hs]
 rw [condS]
 rw [firstE_zero eSet (·.Key) _ []]
 cases h : decide (firstE eSet (·.Key) 0 [] l = 0)
 ·rfl
 ·rw [of_decide_eq_true h]; rfl
theorem eachSvc (l : List api_Service) (hl : l.length ≤ 17179869184) (hs : ∀ x ∈ l, Sm x.Path) : disk_eachFault_api_Service_i1 l = some (firstE eSvc (·.Name) 0 [] l) := by
 unfold disk_eachFault_api_Service_i1
 simp only [jp_eq]
 rw [loopD (e := eSvc) (nm := (·.Name)) (fun x => Sm x.Path) l ⟨[], [], false, false⟩ (fun i x nx k hx hi => by
  rw [D_svc_eq _ hx]
  simp only [call_some, disk_nameOf, callG_some]
  cases hg : decide (0 < (i : Int)) with
  | false => rw [chk_true (by intro h; cases h)]; unfold ord; rw [hg]; rfl
  | true =>
   have hi0 : 0 < i := by simpa using hg
   rw [wrap_pred hi0 (by omega), chk_true (by intro _; omega)]
   simp only [cond_true, Int.toNat_natCast]
   unfold ord strLe; rw [hg]) l 0 rfl hs]
 rw [condS]
 rw [firstE_zero eSvc (·.Name) _ []]
 cases h : decide (firstE eSvc (·.Name) 0 [] l = 0)
 ·rfl
 ·rw [of_decide_eq_true h]; rfl
abbrev Mp := List (Str × Bool)
def abvQ (m : Mp) (path : Str) (i : Nat) (c : UInt8) : Bool := !(decide ((c.toNat : Int) = 47) && (alook m (path.take i)).getD false)
def abv (m : Mp) (path : Str) : Bool := allI (abvQ m path) 0 path
def filesE : Nat → Str → Mp → List api_File → Int
 | _, _, _, [] => 0
 | i, last, m, x :: l => bif !decide (eFile x = 0) then eFile x else bif ord i x.Path last then 7 else bif !abv m x.Path then 11 else filesE (i + 1) x.Path (aset m x.Path true) l
theorem filesE_zero (a b : Str) (m : Mp) (l : List api_File) : filesE 0 a m l = filesE 0 b m l := by cases l <;> rfl
theorem aset_len : ∀ (m : Mp) (k : Str) (v : Bool), (aset m k v).length ≤ m.length + 1
 | [], k, v => by simp [aset]
 | p :: m, k, v => by
  unfold aset
  have := aset_len m k v
  cases decide (p.1 = k) <;> simp <;> omega
theorem above_eq (path : Str) (m : Mp) : disk_above_i1 path m = some (abv m path) := by
 unfold disk_above_i1
 simp only [jp_eq]
 have hk : ∀ i : Nat, True := fun _ => trivial
 have : ∀ (l : Str) (i : Nat), path.drop i = l → forL l i (fun i_44 c_46 s nx_43 k_42 =>
  chk ((decide ((c_46.toNat : Int) = 47)) = true → (0 ≤ (i_44 : Int) ∧ (i_44 : Int) ≤ (path.length : Int))) <|
  callG (decide ((c_46.toNat : Int) = 47)) (disk_Check_2_i1 (List.take i_44 path) m) false fun r_48 =>
  bif ((decide ((c_46.toNat : Int) = 47)) && (!r_48)) then
   some false
  else
  nx_43 ()) () (fun _ => some true) = some (allI (abvQ m path) i l) := by
  intro l
  induction l with
  | nil => intro i _; rfl
  | cons c l ih =>
   intro i hd
   have hi : i < path.length := by
    rcases Nat.lt_or_ge i path.length with h | h
    ·exact h
    ·rw [List.drop_eq_nil_of_le h] at hd; cases hd
   unfold forL allI
   simp only [ih (i + 1) (by have := congrArg List.tail hd; simpa using this)]
   rw [chk_true (by intro _; omega)]
   simp only [disk_Check_2_i1, letv, callG_some]
   unfold abvQ
   cases decide ((c.toNat : Int) = 47) <;> cases (alook m (List.take i path)).getD false <;> rfl
 exact this path 0 rfl
theorem behindLoop (path : Str) (m : Mp) {f : Int × Int → (Int × Int → Option Int) → (Int × Int → Option Int) → Option Int} {K : Int × Int → Option Int} (hp : path.length ≤ 17179869184)
  (hf : ∀ (e : Int) (i : Nat) nx, f (e, (i : Int)) nx K = if h : i < path.length then nx ((bif abvQ m path i path[i] then e else 11), ((i + 1 : Nat) : Int)) else K (e, (i : Int))) :
  ∀ (n : Nat) (e : Int) (i : Nat), path.length + 1 ≤ n + i → i ≤ path.length → loopN n f (e, (i : Int)) K = K ((bif allI (abvQ m path) i (path.drop i) then e else 11), (path.length : Int))
 | 0, e, i, h1, h2 => by omega
 | n + 1, e, i, h1, h2 => by
  unfold loopN
  rw [hf]
  by_cases h : i < path.length
  ·rw [dif_pos h, behindLoop path m hp hf n _ (i + 1) (by omega) (by omega), List.drop_eq_getElem_cons h]
   rw [show allI (abvQ m path) i (path[i] :: path.drop (i + 1)) = (abvQ m path i path[i] && allI (abvQ m path) (i + 1) (path.drop (i + 1))) from rfl]
   cases abvQ m path i path[i] <;> cases allI (abvQ m path) (i + 1) (path.drop (i + 1)) <;> rfl
  ·have : i = path.length := by omega
   subst this
   rw [dif_neg h, List.drop_length]; rfl
theorem filesR {f : Nat → api_File → Str × Mp → (Str × Mp → Option Int) → (Str × Mp → Option Int) → Option Int} {K : Str × Mp → Option Int}
  (hf : ∀ (i : Nat) x last (m : Mp) nx, Sm x.Path → m.length + 1 ≤ 17179869184 → f i x (last, m) nx K = bif !decide (eFile x = 0) then some (eFile x) else bif ord i x.Path last then some 7 else bif !abv m x.Path then some 11 else nx (x.Path, aset m x.Path true)) :
  ∀ (l : List api_File) (i : Nat) (last : Str) (m : Mp), m.length + l.length ≤ 17179869184 → (∀ x ∈ l, Sm x.Path) → ∃ s', forL l i f (last, m) K = bif !decide (filesE i last m l = 0) then some (filesE i last m l) else K s'
 | [], i, last, m, _, _ => ⟨(last, m), rfl⟩
 | x :: l, i, last, m, hm, hp => by
  have ha := aset_len m x.Path true
  simp only [List.length_cons] at hm
  obtain ⟨s', h⟩ := filesR hf l (i + 1) x.Path (aset m x.Path true) (by omega) (fun y hy => hp y (List.mem_cons_of_mem _ hy))
  refine ⟨s', ?_⟩
  unfold forL filesE
  rw [hf _ _ _ _ _ (hp x (List.mem_cons_self ..)) (by omega), h]
  by_cases h1 : eFile x = 0
  ·simp only [h1, decide_true, Bool.not_true, cond_false]
   cases ord i x.Path last
   ·cases abv m x.Path <;> rfl
   ·rfl
  ·simp only [decide_eq_false h1, Bool.not_false, cond_true]
def checkE (m : api_Machine) : Int :=
 bif ((((decide (100 < (m.Facts.length : Int))) || (decide (2000 < (m.Files.length : Int)))) || (decide (2000 < (m.Settings.length : Int)))) || (decide (100 < (m.Services.length : Int)))) then 4 else
 or2 (firstE eFact (·.Key) 0 [] m.Facts) (or2 (filesE 0 [] [] m.Files) (or2 (firstE eSet (·.Key) 0 [] m.Settings) (firstE eSvc (·.Name) 0 [] m.Services)))
structure Fit (m : api_Machine) : Prop where
 facts : m.Facts.length ≤ 17179869184
 files : m.Files.length ≤ 17179869184
 sets : m.Settings.length ≤ 17179869184
 svcs : m.Services.length ≤ 17179869184
 fp : ∀ x ∈ m.Files, Sm x.Path
 sp : ∀ x ∈ m.Settings, Sm x.Key
 vp : ∀ x ∈ m.Services, Sm x.Path
theorem or2_step (a b : Int) (o : Option Int) (h : o = some b) : (bif !decide (a = 0) then some a else o) = some (or2 a b) := by
 subst h; unfold or2; cases decide (a = 0) <;> rfl
theorem disk_Check_eq (m : api_Machine) (h : Fit m) : disk_Check m = some (checkE m) := by
 unfold disk_Check checkE
 generalize ((((decide (100 < (m.Facts.length : Int))) || (decide (2000 < (m.Files.length : Int)))) || (decide (2000 < (m.Settings.length : Int)))) || (decide (100 < (m.Services.length : Int)))) = B
 cases B with
 | true => rfl
 | false =>
  simp only [cond_false]
  rw [eachSet1 _ h.facts, call_some]
  refine or2_step _ _ _ ?_
  simp only [jp_eq]
  obtain ⟨s', hs⟩ := filesR (f := fun i_47 f_49 s nx_46 k_45 =>
   match s with
   | (before_37, m1_39) =>
    call (disk_fileFault f_49) fun r_50 =>
    bif !decide (r_50 = 0) then
     some r_50
    else
    bif ((decide (0 < (i_47 : Int))) && (strLt f_49.Path before_37 || decide (f_49.Path = before_37))) then
     some 7
    else
    call (disk_above_i1 f_49.Path m1_39) fun r_51 =>
    bif !r_51 then
     some 11
    else
    chk ((aset m1_39 f_49.Path true).length ≤ 274877906944) <|
    nx_46 (f_49.Path, aset m1_39 f_49.Path true)) (K := fun s => match s with
   | (before_37, m1_39) => call (disk_eachFault_api_Setting_i2 m.Settings) fun r_28 =>
    bif !decide (r_28 = 0) then
     some r_28
    else
    call (disk_eachFault_api_Service_i1 m.Services) fun r_29 =>
    some r_29) (fun i x last mm nx hx hl => by
    have ha := aset_len mm x.Path true
    simp only [D_fileFault_eq _ hx, call_some, above_eq, ordE]
    rw [chk_true (by omega)]) m.Files 0 [] [] (by simpa using h.files) h.fp
  rw [hs]
  refine or2_step _ _ _ ?_
  obtain ⟨x, y⟩ := s'
  simp only [eachSet2 _ h.sets h.sp, eachSvc _ h.svcs h.vp, call_some]
  exact or2_step _ _ _ rfl
theorem loopR_or {α : Type} {e : α → Int} {nm : α → Str} {f : Nat → α → Str → (Str → Option Int) → (Str → Option Int) → Option Int} {K : Str → Option Int} {r : Int} {l : List α} {last : Str} (P : α → Prop)
  (hf : ∀ i x last nx k, P x → f i x last nx k = bif !decide (or2 (e x) (bif ord i (nm x) last then 7 else 0) = 0) then some (or2 (e x) (bif ord i (nm x) last then 7 else 0)) else nx (nm x))
  (hp : ∀ x ∈ l, P x) (hK : ∀ last, K last = some r) : forL l 0 f last K = some (or2 (firstE e nm 0 [] l) r) := by
 obtain ⟨last', h⟩ := loopR (K := K) P hf l 0 last hp
 rw [h, firstE_zero e nm last []]
 exact or2_step _ _ _ (hK _)
theorem filesR_or {f : Nat → api_File → Str × Mp → (Str × Mp → Option Int) → (Str × Mp → Option Int) → Option Int} {K : Str × Mp → Option Int} {r : Int} {l : List api_File} {last : Str}
  (hf : ∀ (i : Nat) x last (m : Mp) nx, Sm x.Path → m.length + 1 ≤ 17179869184 → f i x (last, m) nx K = bif !decide (eFile x = 0) then some (eFile x) else bif ord i x.Path last then some 7 else bif !abv m x.Path then some 11 else nx (x.Path, aset m x.Path true))
  (hl : l.length ≤ 17179869184) (hp : ∀ x ∈ l, Sm x.Path) (hK : ∀ s, K s = some r) : forL l 0 f (last, []) K = some (or2 (filesE 0 [] [] l) r) := by
 obtain ⟨s', h⟩ := filesR (K := K) hf l 0 last [] (by simpa using hl) hp
 rw [h, filesE_zero last []]
 exact or2_step _ _ _ (hK _)
theorem behind_or (path : Str) (m : Mp) {f : Int × Int → (Int × Int → Option Int) → (Int × Int → Option Int) → Option Int} {K : Int × Int → Option Int} {N : Nat} {e : Int} (hN : 1099511627776 ≤ N) (hp : path.length ≤ 17179869184)
  (hf : ∀ (e : Int) (i : Nat) nx, f (e, (i : Int)) nx K = if h : i < path.length then nx ((bif abvQ m path i path[i] then e else 11), ((i + 1 : Nat) : Int)) else K (e, (i : Int))) :
  loopN N f (e, 0) K = K ((bif abv m path then e else 11), (path.length : Int)) :=
 behindLoop path m hp hf N e 0 (by omega) (by omega)
theorem R_Check_eq (m : api_Machine) (h : Fit m) : R_Check m = some (checkE m) := by
 unfold R_Check checkE
 generalize ((((decide (100 < (m.Facts.length : Int))) || (decide (2000 < (m.Files.length : Int)))) || (decide (2000 < (m.Settings.length : Int)))) || (decide (100 < (m.Services.length : Int)))) = B
 obtain ⟨N, hN⟩ : ∃ N, Fuel = N := ⟨_, rfl⟩
 have hN2 : 1099511627776 ≤ N := hN ▸ fuel_ge
 rw [hN]
 clear hN
 cases B with
 | true => rfl
 | false =>
  simp only [cond_false, jp_eq]
  refine loopR_or (e := eFact) (nm := (·.Key)) (fun _ => True) (fun i x last nx k _ => ?_) (fun _ _ => trivial) fun last => ?_
  ·simp only [R_IsName_eq, R_IsValue_eq, call_some, when_eq, chk1_eq, first3]
   unfold eFact or2
   cases nameOk x.Key <;> cases valueOk x.Value <;> cases ord i x.Key last <;> rfl
  refine filesR_or (fun i x last mm nx hx hl => ?_) h.files h.fp fun s => ?_
  ·have ha := aset_len mm x.Path true
   simp only [R_fileError_eq _ hx, call_some, chk1_eq, first2]
   by_cases h1 : eFile x = 0
   ·cases ho : ord i x.Path last with
    | true => simp only [h1, cond_true, show or2 0 7 = 7 from rfl]; rfl
    | false =>
     simp only [h1, cond_false, show or2 0 0 = 0 from rfl, decide_true, Bool.not_true, cond_true]
     rw [behind_or x.Path mm hN2 hx (fun e i nx => ?_)]
     ·rw [chk_true (by omega)]
      cases abv mm x.Path <;> rfl
     ·simp only [letv]
      by_cases hi : i < x.Path.length
      ·rw [dif_pos hi, decide_eq_true (by omega), cond_true, idxS_eq hi, chk_true (by intro _; omega)]
       have hw : IntKind.i64.wrap ((i : Int) + 1) = ((i + 1 : Nat) : Int) := by
        have : x.Path.length ≤ 17179869184 := hx
        rw [wrapS (by omega) (by omega)]; rfl
       simp only [hw, Int.toNat_natCast]
       unfold abvQ
       cases decide (((x.Path[i]).toNat : Int) = 47) && (alook mm (List.take i x.Path)).getD false <;> rfl
      ·rw [dif_neg hi, decide_eq_false (by omega), cond_false]
   ·have : or2 (eFile x) (bif ord i x.Path last then 7 else 0) = eFile x := by unfold or2; rw [decide_eq_false h1]; rfl
    simp only [this, decide_eq_false h1, Bool.not_false, cond_true, cond_false]
  obtain ⟨last, mm⟩ := s
  refine loopR_or (e := eSet) (nm := (·.Key)) (fun x => Sm x.Key) (fun i x last nx k hx => ?_) h.sp fun last => ?_
  ·simp only [R_settingError_eq _ hx, call_some, chk1_eq, first2]
  rw [show firstE eSvc (fun x => x.Name) 0 [] m.Services = or2 (firstE eSvc (fun x => x.Name) 0 [] m.Services) 0 by unfold or2; cases hh : decide (firstE eSvc (fun x => x.Name) 0 [] m.Services = 0) <;> simp_all]
  refine loopR_or (e := eSvc) (nm := (·.Name)) (fun x => Sm x.Path) (fun i x last nx k hx => ?_) h.vp fun last => rfl
  simp only [R_serviceError_eq _ hx, call_some, chk1_eq, first2]
abbrev wFact : Str := [102, 97, 99, 116]
abbrev wSet : Str := [115, 101, 116]
abbrev wFile : Str := [102, 105, 108, 101]
abbrev wRun : Str := [114, 117, 110]
abbrev wService : Str := [115, 101, 114, 118, 105, 99, 101]
def noFile : api_File := ⟨[], [], false⟩
def noSet : api_Setting := ⟨[], []⟩
def noSvc : api_Service := ⟨[], [], false, false⟩
def eNeed (c : api_Change) : Int :=
 bif decide (c.Kind = 1) then eFile c.File else
 bif decide (c.Kind = 2) then (bif !pathOk c.File.Path then 5 else 0) else
 bif decide (c.Kind = 3) then eSet c.Setting else
 bif decide (c.Kind = 4) then (bif !pathOk c.Setting.Key then 5 else 0) else
 bif decide (c.Kind = 5) then eSvc c.Service else
 bif !nameOk c.Service.Name then 5 else 0
def keptC (c : api_Change) : api_Change :=
 bif decide (c.Kind = 1) then ⟨c.Kind, c.File, noSet, noSvc⟩ else
 bif decide (c.Kind = 2) then ⟨c.Kind, ⟨c.File.Path, [], false⟩, noSet, noSvc⟩ else
 bif decide (c.Kind = 3) then ⟨c.Kind, noFile, c.Setting, noSvc⟩ else
 bif decide (c.Kind = 4) then ⟨c.Kind, noFile, ⟨c.Setting.Key, []⟩, noSvc⟩ else
 bif decide (c.Kind = 5) then ⟨c.Kind, noFile, noSet, c.Service⟩ else
 ⟨c.Kind, noFile, noSet, ⟨c.Service.Name, [], false, false⟩⟩
def isKind (c : api_Change) : Bool := decide (1 ≤ c.Kind) && decide (c.Kind ≤ 6)
def eqFile (a b : api_File) : Bool := decide (a.Path = b.Path) && (decide (a.Data = b.Data) && decide (a.Runs = b.Runs))
def eqSet (a b : api_Setting) : Bool := decide (a.Key = b.Key) && decide (a.Value = b.Value)
def eqSvc (a b : api_Service) : Bool := decide (a.Name = b.Name) && (decide (a.Path = b.Path) && (decide (a.Auto = b.Auto) && decide (a.On = b.On)))
def eqC (a b : api_Change) : Bool := (eqFile a.File b.File && (eqSet a.Setting b.Setting && eqSvc a.Service b.Service))
theorem eqFile_eq {a b : api_File} (h : eqFile a b = true) : a = b := by
 obtain ⟨a1, a2, a3⟩ := a
 obtain ⟨b1, b2, b3⟩ := b
 simp only [eqFile, Bool.and_eq_true, decide_eq_true_eq] at h
 obtain ⟨rfl, rfl, rfl⟩ := h; rfl
theorem eqSet_eq {a b : api_Setting} (h : eqSet a b = true) : a = b := by
 obtain ⟨a1, a2⟩ := a
 obtain ⟨b1, b2⟩ := b
 simp only [eqSet, Bool.and_eq_true, decide_eq_true_eq] at h
 obtain ⟨rfl, rfl⟩ := h; rfl
theorem eqSvc_eq {a b : api_Service} (h : eqSvc a b = true) : a = b := by
 obtain ⟨a1, a2, a3, a4⟩ := a
 obtain ⟨b1, b2, b3, b4⟩ := b
 simp only [eqSvc, Bool.and_eq_true, decide_eq_true_eq] at h
 obtain ⟨rfl, rfl, rfl, rfl⟩ := h; rfl
theorem eqC_eq {a b : api_Change} (hk : a.Kind = b.Kind) (h : eqC a b = true) : a = b := by
 obtain ⟨a0, a1, a2, a3⟩ := a
 obtain ⟨b0, b1, b2, b3⟩ := b
 simp only [eqC, Bool.and_eq_true] at h
 obtain ⟨h1, h2, h3⟩ := h
 simp only at hk
 rw [hk, eqFile_eq h1, eqSet_eq h2, eqSvc_eq h3]
def eCh (c : api_Change) : Int := bif !isKind c then 1 else bif decide (eNeed c = 0) && !eqC c (keptC c) then 2 else eNeed c
structure SmC (c : api_Change) : Prop where
 fp : Sm c.File.Path
 sp : Sm c.Setting.Key
 vp : Sm c.Service.Path
theorem kinds6 {n : Int} (h : (decide (1 ≤ n) && decide (n ≤ 6)) = true) : n = 1 ∨ n = 2 ∨ n = 3 ∨ n = 4 ∨ n = 5 ∨ n = 6 := by
 simp only [Bool.and_eq_true, decide_eq_true_eq] at h
 omega
theorem kinds0 {n : Int} (h : (decide (1 ≤ n) && decide (n ≤ 6)) = false) : decide (n = 1) = false ∧ decide (n = 2) = false ∧ decide (n = 3) = false ∧ decide (n = 4) = false ∧ decide (n = 5) = false ∧ decide (n = 6) = false := by
 simp only [Bool.and_eq_false_iff, decide_eq_false_iff_not] at h
 refine ⟨?_, ?_, ?_, ?_, ?_, ?_⟩ <;> (simp only [decide_eq_false_iff_not]; omega)
theorem or2_when (a : Int) (q : Bool) : or2 a (bif !q then 2 else 0) = bif decide (a = 0) && !q then 2 else a := by
 unfold or2
 by_cases h : a = 0
 ·subst h; cases q <;> rfl
 ·rw [decide_eq_false h]; rfl
theorem R_change_eq (c : api_Change) (h : SmC c) : R_ChangeError c = some (eCh c) := by
 unfold R_ChangeError eCh isKind
 simp only [jp_eq]
 cases hk : decide (1 ≤ c.Kind) && decide (c.Kind ≤ 6)
 ·obtain ⟨h1, h2, h3, h4, h5, h6⟩ := kinds0 hk
  rw [h1, h2, h3, h4, h5, h6]
  rfl
 ·simp only [Bool.not_true, cond_false]
  rw [R_fileError_eq _ h.fp, R_settingError_eq _ h.sp, R_serviceError_eq _ h.vp, R_IsName_eq, R_IsPath_eq _ h.fp, R_IsPath_eq _ h.sp]
  simp only [call_some, when_eq, first2, decide_true, Bool.true_and, or2_when]
  unfold eNeed keptC
  rcases kinds6 hk with e | e | e | e | e | e
  all_goals
   rw [e]
   simp only [show decide ((1 : Int) = 1) = true from rfl, show decide ((2 : Int) = 1) = false from rfl, show decide ((2 : Int) = 2) = true from rfl, show decide ((3 : Int) = 1) = false from rfl, show decide ((3 : Int) = 2) = false from rfl, show decide ((3 : Int) = 3) = true from rfl, show decide ((4 : Int) = 1) = false from rfl, show decide ((4 : Int) = 2) = false from rfl, show decide ((4 : Int) = 3) = false from rfl, show decide ((4 : Int) = 4) = true from rfl,
    show decide ((5 : Int) = 1) = false from rfl, show decide ((5 : Int) = 2) = false from rfl, show decide ((5 : Int) = 3) = false from rfl, show decide ((5 : Int) = 4) = false from rfl, show decide ((5 : Int) = 5) = true from rfl, show decide ((6 : Int) = 1) = false from rfl, show decide ((6 : Int) = 2) = false from rfl, show decide ((6 : Int) = 3) = false from rfl, show decide ((6 : Int) = 4) = false from rfl, show decide ((6 : Int) = 5) = false from rfl, show decide ((6 : Int) = 6) = true from rfl, decide_true, cond_true, cond_false]
   simp only [condS, eqC, eqFile, eqSet, eqSvc, noFile, noSet, noSvc, decide_true, Bool.true_and, Bool.and_true, Bool.and_assoc]
  ·rfl
  ·rfl
  ·rfl
  ·rfl
  ·rfl
  ·rfl
theorem eCh_zero {c : api_Change} (h : eCh c = 0) : isKind c = true ∧ eNeed c = 0 ∧ c = keptC c := by
 unfold eCh at h
 cases hk : isKind c
 ·rw [hk] at h; simp at h
 ·rw [hk] at h
  simp only [Bool.not_true, cond_false] at h
  cases hq : decide (eNeed c = 0) && !eqC c (keptC c)
  ·rw [hq, cond_false] at h
   rw [h] at hq
   simp only [decide_true, Bool.true_and, Bool.not_eq_false'] at hq
   refine ⟨rfl, h, eqC_eq ?_ hq⟩
   unfold keptC
   cases decide (c.Kind = 1) <;> cases decide (c.Kind = 2) <;> cases decide (c.Kind = 3) <;> cases decide (c.Kind = 4) <;> cases decide (c.Kind = 5) <;> rfl
  ·rw [hq] at h; simp at h
theorem strLt_eq : ∀ a b : Str, strLt a b = decide (a < b)
 | [], [] => by simp [strLt, Op.bytesLess]
 | _ :: _, [] => by simp [strLt, Op.bytesLess]
 | [], _ :: _ => by simp [strLt, Op.bytesLess]
 | a :: x, b :: y => by
  have ih := strLt_eq x y
  unfold strLt at *
  rw [Op.bytesLess, ih, Bool.eq_iff_iff]
  simp [List.cons_lt_cons_iff]
theorem slt_trans {a b c : Str} (h1 : a < b) (h2 : b < c) : a < c := List.lt_trans h1 h2
theorem slt_irr (a : Str) : ¬ a < a := List.lt_irrefl a
theorem slt_tri (a b : Str) : a < b ∨ a = b ∨ b < a := by
 by_cases h1 : a < b
 ·exact .inl h1
 ·by_cases h2 : b < a
  ·exact .inr (.inr h2)
  ·exact .inr (.inl (List.le_antisymm (List.not_lt.1 h2) (List.not_lt.1 h1)))
theorem slt_asymm {a b : Str} (h1 : a < b) : ¬ b < a := fun h2 => slt_irr a (slt_trans h1 h2)
theorem slt_ne {a b : Str} (h1 : a < b) : a ≠ b := fun e => slt_irr b (e ▸ h1)
theorem cmpB_spec : ∀ a b : Str, (cmpB a b < 0 ↔ a < b) ∧ (cmpB a b = 0 ↔ a = b)
 | [], [] => by simp [cmpB, Lib.compareBytes]
 | _ :: _, [] => by simp [cmpB, Lib.compareBytes]
 | [], _ :: _ => by simp [cmpB, Lib.compareBytes]
 | a :: x, b :: y => by
  have ih := cmpB_spec x y
  unfold cmpB at *
  rw [Lib.compareBytes, List.cons_lt_cons_iff]
  by_cases h : a < b
  ·have : a ≠ b := fun e => by subst e; exact UInt8.lt_irrefl _ h
   simp [h, this]
  ·by_cases h2 : b < a
   ·have : a ≠ b := fun e => by subst e; exact UInt8.lt_irrefl _ h2
    simp [h, h2, this]
   ·have : a = b := UInt8.le_antisymm (UInt8.not_lt.1 h2) (UInt8.not_lt.1 h)
    subst this
    simpa [h] using ih
theorem cmpB_lt (a b : Str) : decide (cmpB a b < 0) = decide (a < b) := decide_eq_decide.2 (cmpB_spec a b).1
theorem slt_app (a b : Str) (hb : b ≠ []) : a < a ++ b := by
 induction a with
 | nil => cases b with
  | nil => exact absurd rfl hb
  | cons x b => simp
 | cons x a ih => rw [List.cons_append, List.cons_lt_cons_iff]; exact .inr ⟨rfl, ih⟩
section
variable {K V : Type} [DecidableEq K]
theorem alook_ne {m : List (K × V)} {p : K × V} {k : K} (h : ¬ p.1 = k) : alook (p :: m) k = alook m k := by rw [alook, decide_eq_false h]; rfl
theorem alook_eq {m : List (K × V)} {p : K × V} {k : K} (h : p.1 = k) : alook (p :: m) k = some p.2 := by rw [alook, decide_eq_true h]; rfl
theorem aset_ne {m : List (K × V)} {p : K × V} {k : K} {v : V} (h : ¬ p.1 = k) : aset (p :: m) k v = p :: aset m k v := by rw [aset, decide_eq_false h]; rfl
theorem aset_eq {m : List (K × V)} {p : K × V} {k : K} {v : V} (h : p.1 = k) : aset (p :: m) k v = (k, v) :: m := by rw [aset, decide_eq_true h]; rfl
theorem alook_aset : ∀ (m : List (K × V)) (k : K) (v : V) (k' : K), alook (aset m k v) k' = if k = k' then some v else alook m k'
 | [], k, v, k' => by
  simp only [aset, alook]
  by_cases h : k = k' <;> simp [h]
 | p :: m, k, v, k' => by
  unfold aset
  by_cases h : p.1 = k
  ·rw [decide_eq_true h, cond_true]
   simp only [alook]
   by_cases h' : k = k'
   ·simp [h']
   ·have : ¬ p.1 = k' := fun e => h' (h ▸ e)
    simp [h', this]
  ·rw [decide_eq_false h, cond_false]
   simp only [alook]
   rw [alook_aset m k v k']
   by_cases h' : k = k'
   ·have : ¬ p.1 = k' := fun e => h (e.trans h'.symm)
    simp [h', this]
   ·simp only [if_neg h']
theorem alook_none : ∀ {m : List (K × V)} {k : K}, alook m k = none ↔ k ∉ m.map (·.1)
 | [], k => by simp [alook]
 | p :: m, k => by
  simp only [alook, List.map_cons, List.mem_cons]
  by_cases h : p.1 = k
  ·simp [h]
  ·rw [decide_eq_false h, cond_false, alook_none]
   simp [Ne.symm h]
theorem mem_keys {m : List (K × V)} {k : K} : k ∈ m.map (·.1) ↔ (alook m k).isSome = true := by
 have := @alook_none K V _ m k
 cases h : alook m k with
 | none => simpa using this.1 h
 | some v =>
  simp only [Option.isSome_some, iff_true]
  refine Classical.byContradiction fun hc => ?_
  rw [this.2 hc] at h; cases h
theorem alook_mem : ∀ {m : List (K × V)} {k : K} {v : V}, alook m k = some v → (k, v) ∈ m
 | [], k, v, h => by cases h
 | p :: m, k, v, h => by
  simp only [alook] at h
  by_cases e : p.1 = k
  ·rw [decide_eq_true e, cond_true] at h
   cases h; subst e; exact List.mem_cons_self ..
  ·rw [decide_eq_false e, cond_false] at h
   exact List.mem_cons_of_mem _ (alook_mem h)
theorem mem_alook : ∀ {m : List (K × V)}, (m.map (·.1)).Nodup → ∀ {p : K × V}, p ∈ m → alook m p.1 = some p.2
 | q :: m, hn, p, hp => by
  have hn' := List.nodup_cons.1 hn
  simp only [alook]
  rcases List.mem_cons.1 hp with rfl | hp
  ·simp
  ·have : ¬ q.1 = p.1 := fun e => hn'.1 (by show q.1 ∈ _; rw [e]; exact List.mem_map_of_mem hp)
   rw [decide_eq_false this, cond_false]
   exact mem_alook hn'.2 hp
theorem keys_aset : ∀ (m : List (K × V)) (k : K) (v : V), (aset m k v).map (·.1) = m.map (·.1) ++ if (alook m k).isSome then [] else [k]
 | [], k, v => by simp [aset, alook]
 | p :: m, k, v => by
  by_cases h : p.1 = k
  ·rw [aset_eq h, alook_eq h]; simp [h]
  ·rw [aset_ne h, alook_ne h, List.map_cons, keys_aset m k v]; rfl
theorem nodup_aset {m : List (K × V)} (h : (m.map (·.1)).Nodup) (k : K) (v : V) : ((aset m k v).map (·.1)).Nodup := by
 rw [keys_aset]
 split
 ·simpa using h
 ·rename_i hs
  have : k ∉ m.map (·.1) := fun hk => hs (mem_keys.1 hk)
  rw [List.nodup_append]
  exact ⟨h, by simp, fun a ha b hb e => by simp at hb; subst hb; subst e; exact this ha⟩
theorem len_aset (m : List (K × V)) (k : K) (v : V) : (aset m k v).length = m.length + if (alook m k).isSome then 0 else 1 := by
 have := congrArg List.length (keys_aset m k v)
 simp only [List.length_map, List.length_append] at this
 rw [this]
 split <;> simp
theorem adel_keys : ∀ (m : List (K × V)) (k : K), ((adel m k).map (·.1)).Sublist (m.map (·.1))
 | [], k => by simp [adel]
 | p :: m, k => by
  simp only [adel]
  by_cases h : p.1 = k
  ·simp [h]
  ·rw [decide_eq_false h, cond_false]
   exact (adel_keys m k).cons_cons _
theorem nodup_adel {m : List (K × V)} (h : (m.map (·.1)).Nodup) (k : K) : ((adel m k).map (·.1)).Nodup := h.sublist (adel_keys m k)
theorem alook_adel : ∀ {m : List (K × V)}, (m.map (·.1)).Nodup → ∀ (k k' : K), alook (adel m k) k' = if k = k' then none else alook m k'
 | [], _, k, k' => by simp [adel, alook]
 | p :: m, hn, k, k' => by
  have hn' := List.nodup_cons.1 hn
  simp only [adel]
  by_cases h : p.1 = k
  ·rw [decide_eq_true h, cond_true]
   by_cases h' : k = k'
   ·rw [if_pos h', alook_none.2]
    rw [← h', ← h]; exact hn'.1
   ·rw [if_neg h']
    have : ¬ p.1 = k' := fun e => h' (h ▸ e)
    simp only [alook]
    rw [decide_eq_false this, cond_false]
  ·rw [decide_eq_false h, cond_false]
   simp only [alook]
   rw [alook_adel hn'.2]
   by_cases h' : k = k'
   ·have : ¬ p.1 = k' := fun e => h (e.trans h'.symm)
    simp [h', this]
   ·simp only [if_neg h']
end
section
variable {α S β : Type}
theorem forM_run {f : α → S → (S → Option β) → (S → Option β) → Option β} {k : S → Option β} {z : β} (inv : List α → S → Prop)
  (h0 : ∀ s, inv [] s → k s = some z) (h1 : ∀ r s nx x j, inv r s → r[j]? = some x → (∀ s', inv (r.eraseIdx j) s' → nx s' = some z) → f x s nx k = some z) :
  ∀ (n : Nat) (r : List α) (s : S), r.length = n → inv r s → forM f n r s k = some z
 | 0, [], s, _, h => h0 s h
 | n + 1, r, s, hn, h => by
  unfold Go.Vc.forM
  refine anyOf_intro ⟨0, by omega⟩ fun j hj => ?_
  rw [List.getElem?_eq_getElem hj]
  exact h1 r s _ r[j] j h (List.getElem?_eq_getElem hj) fun s' hs => forM_run inv h0 h1 n (r.eraseIdx j) s' (by rw [List.length_eraseIdx, if_pos hj]; omega) hs
theorem perm_eraseIdx : ∀ {r : List α} {j : Nat} {x : α}, r[j]? = some x → r.Perm (x :: r.eraseIdx j)
 | [], _, _, h => by cases h
 | y :: r, 0, x, h => by
  simp at h; subst h; simp
 | y :: r, j + 1, x, h => by
  simp only [List.getElem?_cons_succ] at h
  rw [List.eraseIdx_cons_succ]
  exact ((perm_eraseIdx h).cons y).trans (.swap x y _)
end
theorem sle_trans (a b c : Str) (h1 : decide (a ≤ b) = true) (h2 : decide (b ≤ c) = true) : decide (a ≤ c) = true := by
 simp only [decide_eq_true_eq] at *; exact List.le_trans h1 h2
theorem sle_total (a b : Str) : (decide (a ≤ b) || decide (b ≤ a)) = true := by
 simp only [Bool.or_eq_true, decide_eq_true_eq]; exact List.le_total a b
theorem sortS_perm (l : List Str) : (sortS l).Perm l := List.mergeSort_perm l _
theorem sortS_of_perm {l l' : List Str} (h : l.Perm l') : sortS l = sortS l' := by
 unfold sortS
 refine List.Perm.eq_of_pairwise (le := fun a b => decide (a ≤ b) = true) (fun a b _ _ h1 h2 => ?_) (List.pairwise_mergeSort sle_trans sle_total l) (List.pairwise_mergeSort sle_trans sle_total l') (((List.mergeSort_perm l _).trans h).trans (List.mergeSort_perm l' _).symm)
 simp only [decide_eq_true_eq] at h1 h2
 exact List.le_antisymm h1 h2
theorem sortS_lt {l : List Str} (h : l.Nodup) : (sortS l).Pairwise (· < ·) := by
 have h1 : (sortS l).Pairwise fun a b => decide (a ≤ b) = true := List.pairwise_mergeSort sle_trans sle_total l
 have h2 : (sortS l).Pairwise (· ≠ ·) := (sortS_perm l).symm.nodup h
 refine List.Pairwise.imp₂ (fun a b h3 h4 => ?_) h1 h2
 simp only [decide_eq_true_eq] at h3
 rcases slt_tri a b with h | h | h
 ·exact h
 ·exact absurd h h4
 ·exact absurd h3 (List.not_le.2 h)
section
variable {V A : Type}
def keysM (m : List (Str × V)) : List Str := sortS (m.map (·.1))
theorem mem_keysM {m : List (Str × V)} {k : Str} : k ∈ keysM m ↔ (alook m k).isSome = true := by
 unfold keysM
 rw [(sortS_perm _).mem_iff, mem_keys]
theorem len_keysM (m : List (Str × V)) : (keysM m).length = m.length := by
 unfold keysM
 rw [(sortS_perm _).length_eq, List.length_map]
theorem keysBody (m : List (Str × V)) (h : m.length ≤ 274877906944) :
  forM (fun (e : Str × V) (o : List Str) nx _ => chk ((o ++ [e.1]).length ≤ 274877906944) (nx (o ++ [e.1]))) m.length m [] (fun o => some (sortS o)) = some (keysM m) := by
 refine forM_run (fun r o => (o ++ r.map (·.1)).Perm (m.map (·.1))) (fun o ho => ?_) (fun r o nx x j ho hx hnx => ?_) _ _ _ rfl (by simp)
 ·simp only [List.map_nil, List.append_nil] at ho
  unfold keysM
  rw [sortS_of_perm ho]
 ·have hp := (perm_eraseIdx hx).map (·.1)
  have hq : ((o ++ [x.1]) ++ (r.eraseIdx j).map (·.1)).Perm (m.map (·.1)) := by
   refine List.Perm.trans ?_ ho
   rw [List.append_assoc]
   exact (List.Perm.append_left o hp).symm
  have hl := hq.length_eq
  simp only [List.length_append, List.length_map] at hl
  rw [chk_true (by simp only [List.length_append]; omega)]
  exact hnx _ hq
def Srt (key : A → Str) (l : List A) : Prop := l.Pairwise fun a b => key a < key b
def lk (key : A → Str) (l : List A) (k : Str) : Option A := l.find? fun x => decide (key x = k)
variable {key : A → Str}
theorem lk_some {l : List A} {k : Str} {x : A} (h : lk key l k = some x) : x ∈ l ∧ key x = k := by
 unfold lk at h
 exact ⟨List.mem_of_find?_eq_some h, by simpa using List.find?_some h⟩
theorem srt_inj {l : List A} (hs : Srt key l) {x y : A} (hx : x ∈ l) (hy : y ∈ l) (h : key x = key y) : x = y := by
 induction l with
 | nil => cases hx
 | cons z l ih =>
  have hs' := List.pairwise_cons.1 hs
  rcases List.mem_cons.1 hx with e | hx' <;> rcases List.mem_cons.1 hy with e' | hy'
  ·rw [e, e']
  ·subst e; exact absurd h (slt_ne (hs'.1 y hy'))
  ·subst e'; exact absurd h.symm (slt_ne (hs'.1 x hx'))
  ·exact ih hs'.2 hx' hy'
theorem lk_mem {l : List A} (hs : Srt key l) {x : A} (hx : x ∈ l) : lk key l (key x) = some x := by
 cases h : lk key l (key x) with
 | none =>
  unfold lk at h
  have := List.find?_eq_none.1 h x hx
  simp at this
 | some y =>
  obtain ⟨h1, h2⟩ := lk_some h
  rw [srt_inj hs h1 hx h2]
theorem lk_none {l : List A} {k : Str} : lk key l k = none ↔ ∀ x ∈ l, key x ≠ k := by
 unfold lk
 simp
theorem srt_nodup {l : List A} (hs : Srt key l) : l.Nodup := List.Pairwise.imp (R := fun a b => key a < key b) (S := fun a b => a ≠ b) (fun h e => by subst e; exact slt_irr _ h) hs
theorem srt_ext {l l' : List A} (h : Srt key l) (h' : Srt key l') (he : ∀ k, lk key l k = lk key l' k) : l = l' := by
 have hm : ∀ x, x ∈ l ↔ x ∈ l' := fun x => ⟨fun hx => (lk_some ((he _).symm.trans (lk_mem h hx))).1, fun hx => (lk_some ((he _).trans (lk_mem h' hx))).1⟩
 exact List.Perm.eq_of_pairwise (fun a b _ _ h1 h2 => absurd h2 (slt_asymm h1)) h h' ((List.perm_ext_iff_of_nodup (srt_nodup h) (srt_nodup h')).2 hm)
def toL (g : Str → V → A) (d : V) (m : List (Str × V)) : List A := (keysM m).map fun k => g k ((alook m k).getD d)
theorem toL_len (g : Str → V → A) (d : V) (m : List (Str × V)) : (toL g d m).length = m.length := by
 unfold toL
 rw [List.length_map, len_keysM]
theorem toL_srt {g : Str → V → A} {d : V} {m : List (Str × V)} (hn : (m.map (·.1)).Nodup) (hk : ∀ k v, alook m k = some v → key (g k v) = k) : Srt key (toL g d m) := by
 unfold Srt toL
 rw [List.pairwise_map]
 refine (sortS_lt hn).imp_of_mem fun {a b} ha hb h => ?_
 have ha' := mem_keysM.1 (show a ∈ keysM m from ha)
 have hb' := mem_keysM.1 (show b ∈ keysM m from hb)
 obtain ⟨v, hv⟩ := Option.isSome_iff_exists.1 ha'
 obtain ⟨w, hw⟩ := Option.isSome_iff_exists.1 hb'
 rw [hv, hw, Option.getD_some, Option.getD_some, hk _ _ hv, hk _ _ hw]
 exact h
theorem toL_lk {g : Str → V → A} {d : V} {m : List (Str × V)} (hk : ∀ k v, alook m k = some v → key (g k v) = k) (k : Str) : lk key (toL g d m) k = (alook m k).map (g k) := by
 have h1 : ∀ k' ∈ keysM m, ∃ v, alook m k' = some v ∧ key (g k' ((alook m k').getD d)) = k' := fun k' h => by
  obtain ⟨v, hv⟩ := Option.isSome_iff_exists.1 (mem_keysM.1 h)
  exact ⟨v, hv, by rw [hv, Option.getD_some, hk _ _ hv]⟩
 cases h : alook m k with
 | none =>
  rw [Option.map_none, lk_none]
  intro x hx
  obtain ⟨k', hk', rfl⟩ := List.mem_map.1 hx
  obtain ⟨v, hv, he⟩ := h1 k' hk'
  rw [he]
  rintro rfl
  rw [h] at hv; cases hv
 | some v =>
  have hm : k ∈ keysM m := mem_keysM.2 (by rw [h]; rfl)
  cases hl : lk key (toL g d m) k with
  | none =>
   have := lk_none.1 hl _ (List.mem_map_of_mem hm)
   obtain ⟨v', hv, he⟩ := h1 k hm
   exact absurd he this
  | some x =>
   obtain ⟨h2, h3⟩ := lk_some hl
   obtain ⟨k', hk', rfl⟩ := List.mem_map.1 h2
   obtain ⟨v', hv, he⟩ := h1 k' hk'
   rw [he] at h3
   subst h3
   rw [h]; rfl
def ins (key : A → Str) (x : A) (l : List A) : List A := l.filter (fun y => decide (key y < key x)) ++ x :: l.filter fun y => decide (key x < key y)
def del (key : A → Str) (k : Str) (l : List A) : List A := l.filter fun y => !decide (key y = k)
theorem mem_ins {l : List A} {x y : A} : y ∈ ins key x l ↔ y = x ∨ (y ∈ l ∧ key y ≠ key x) := by
 unfold ins
 simp only [List.mem_append, List.mem_filter, decide_eq_true_eq, List.mem_cons]
 constructor
 ·rintro (⟨h1, h2⟩ | rfl | ⟨h1, h2⟩)
  ·exact .inr ⟨h1, slt_ne h2⟩
  ·exact .inl rfl
  ·exact .inr ⟨h1, Ne.symm (slt_ne h2)⟩
 ·rintro (rfl | ⟨h1, h2⟩)
  ·exact .inr (.inl rfl)
  ·rcases slt_tri (key y) (key x) with h | h | h
   ·exact .inl ⟨h1, h⟩
   ·exact absurd h h2
   ·exact .inr (.inr ⟨h1, h⟩)
theorem mem_del {l : List A} {k : Str} {y : A} : y ∈ del key k l ↔ y ∈ l ∧ key y ≠ k := by
 unfold del
 simp
theorem srt_ins {l : List A} (hs : Srt key l) (x : A) : Srt key (ins key x l) := by
 unfold Srt ins
 rw [List.pairwise_append, List.pairwise_cons]
 refine ⟨hs.filter _, ⟨fun y hy => by simpa using (List.mem_filter.1 hy).2, hs.filter _⟩, fun a ha b hb => ?_⟩
 have h1 : key a < key x := by simpa using (List.mem_filter.1 ha).2
 rcases List.mem_cons.1 hb with rfl | hb
 ·exact h1
 ·exact slt_trans h1 (by simpa using (List.mem_filter.1 hb).2)
theorem srt_del {l : List A} (hs : Srt key l) (k : Str) : Srt key (del key k l) := hs.filter _
theorem lk_ext {l : List A} {k : Str} {o : Option A} (hs : Srt key l) (h : ∀ x, o = some x ↔ x ∈ l ∧ key x = k) : lk key l k = o := by
 cases hl : lk key l k with
 | none =>
  cases ho : o with
  | none => rfl
  | some x =>
   obtain ⟨h1, h2⟩ := (h x).1 ho
   exact absurd h2 (lk_none.1 hl x h1)
 | some x => exact ((h x).2 (lk_some hl)).symm
theorem lk_iff {l : List A} (hs : Srt key l) {k : Str} {x : A} : lk key l k = some x ↔ x ∈ l ∧ key x = k := ⟨lk_some, fun h => by obtain ⟨h1, rfl⟩ := h; exact lk_mem hs h1⟩
theorem lk_ins {l : List A} (hs : Srt key l) (x : A) (k : Str) : lk key (ins key x l) k = if key x = k then some x else lk key l k := by
 refine lk_ext (srt_ins hs x) fun y => ?_
 rw [mem_ins]
 split
 ·rename_i h
  subst h
  constructor
  ·intro h; cases h; exact ⟨.inl rfl, rfl⟩
  ·rintro ⟨rfl | ⟨h1, h2⟩, h3⟩
   ·rfl
   ·exact absurd h3 h2
 ·rename_i h
  rw [lk_iff hs]
  constructor
  ·rintro ⟨h1, rfl⟩; exact ⟨.inr ⟨h1, fun e => h e.symm⟩, rfl⟩
  ·rintro ⟨rfl | ⟨h1, h2⟩, h3⟩
   ·exact absurd h3 h
   ·exact ⟨h1, h3⟩
theorem lk_del {l : List A} (hs : Srt key l) (k k' : Str) : lk key (del key k l) k' = if k = k' then none else lk key l k' := by
 refine lk_ext (srt_del hs k) fun y => ?_
 rw [mem_del]
 split
 ·rename_i h
  subst h
  simp only [reduceCtorEq, false_iff]
  rintro ⟨⟨_, h1⟩, h2⟩
  exact h1 h2
 ·rename_i h
  rw [lk_iff hs]
  constructor
  ·rintro ⟨h1, rfl⟩; exact ⟨⟨h1, fun e => h e.symm⟩, rfl⟩
  ·rintro ⟨⟨h1, _⟩, h2⟩; exact ⟨h1, h2⟩
theorem len_del {l : List A} (hs : Srt key l) (k : Str) : l.length = (del key k l).length + if (lk key l k).isSome then 1 else 0 := by
 induction l with
 | nil => simp [del, lk]
 | cons x l ih =>
  have hs' := List.pairwise_cons.1 hs
  have ih := ih hs'.2
  unfold del lk at *
  by_cases h : key x = k
  ·have h0 : ∀ y ∈ l, key y ≠ k := fun y hy e => slt_ne (hs'.1 y hy) (h.trans e.symm)
   have h1 : l.find? (fun x => decide (key x = k)) = none := by simpa using h0
   rw [h1] at ih
   simp only [List.filter_cons, List.find?_cons, h, decide_true, Bool.not_true, Bool.false_eq_true, if_false, if_true, Option.isSome_some, Option.isSome_none, List.length_cons] at *
   omega
  ·simp only [List.filter_cons, List.find?_cons, h, decide_false, Bool.not_false, if_true, List.length_cons] at *
   omega
theorem len_ins {l : List A} (hs : Srt key l) (x : A) : (ins key x l).length = l.length + if (lk key l (key x)).isSome then 0 else 1 := by
 have h1 := len_del (srt_ins hs x) (key x)
 rw [lk_ins hs, if_pos rfl] at h1
 have h2 : del key (key x) (ins key x l) = del key (key x) l := by
  refine srt_ext (srt_del (srt_ins hs x) _) (srt_del hs _) fun k => ?_
  rw [lk_del (srt_ins hs x), lk_del hs, lk_ins hs]
  split
  ·rfl
  ·rfl
 rw [h2] at h1
 have h3 := len_del hs (key x)
 simp only [Option.isSome_some, if_true] at h1
 split at h3 <;> simp_all <;> omega
theorem toL_aset {g : Str → V → A} {d : V} {m : List (Str × V)} (hn : (m.map (·.1)).Nodup) (hk : ∀ k v, alook m k = some v → key (g k v) = k) (k : Str) (v : V) (hv : key (g k v) = k) :
  toL g d (aset m k v) = ins key (g k v) (toL g d m) := by
 have hk' : ∀ k' v', alook (aset m k v) k' = some v' → key (g k' v') = k' := fun k' v' h => by
  rw [alook_aset] at h
  split at h
  ·rename_i e; subst e; cases h; exact hv
  ·exact hk _ _ h
 refine srt_ext (toL_srt (nodup_aset hn k v) hk') (srt_ins (toL_srt hn hk) _) fun k' => ?_
 rw [toL_lk hk', lk_ins (toL_srt hn hk), toL_lk hk, alook_aset, hv]
 split
 ·rename_i e; subst e; rfl
 ·rfl
theorem toL_adel {g : Str → V → A} {d : V} {m : List (Str × V)} (hn : (m.map (·.1)).Nodup) (hk : ∀ k v, alook m k = some v → key (g k v) = k) (k : Str) :
  toL g d (adel m k) = del key k (toL g d m) := by
 have hk' : ∀ k' v', alook (adel m k) k' = some v' → key (g k' v') = k' := fun k' v' h => by
  rw [alook_adel hn] at h
  split at h
  ·cases h
  ·exact hk _ _ h
 refine srt_ext (toL_srt (nodup_adel hn k) hk') (srt_del (toL_srt hn hk) _) fun k' => ?_
 rw [toL_lk hk', lk_del (toL_srt hn hk), toL_lk hk, alook_adel hn]
 split <;> rfl
def ofL (key : A → Str) (w : A → V) (l : List A) : List (Str × V) := l.map fun x => (key x, w x)
theorem aset_app (m : List (Str × V)) (k : Str) (v : V) (h : k ∉ m.map (·.1)) : aset m k v = m ++ [(k, v)] := by
 induction m with
 | nil => rfl
 | cons p m ih =>
  have h1 : ¬ p.1 = k := fun e => h (by simp [e])
  rw [aset, decide_eq_false h1, cond_false, ih fun h' => h (by simp at h' ⊢; exact .inr h')]
  rfl
theorem ofL_keys (w : A → V) (l : List A) : (ofL key w l).map (·.1) = l.map key := by simp [ofL, Function.comp_def]
theorem ofL_nodup {w : A → V} {l : List A} (hs : Srt key l) : ((ofL key w l).map (·.1)).Nodup := by
 rw [ofL_keys]
 exact (List.pairwise_map.2 (hs.imp fun h => slt_ne h))
theorem ofL_look {w : A → V} {l : List A} (k : Str) : alook (ofL key w l) k = (lk key l k).map w := by
 unfold ofL lk
 induction l with
 | nil => rfl
 | cons x l ih =>
  simp only [List.map_cons, alook, List.find?_cons]
  by_cases h : key x = k
  ·simp [h]
  ·rw [decide_eq_false h, cond_false, ih]
theorem ofLoop {Z : Type} {w : A → V} {f : Nat → A → List (Str × V) → (List (Str × V) → Option Z) → (List (Str × V) → Option Z) → Option Z} {k : List (Str × V) → Option Z}
  (hf : ∀ i x m nx k, f i x m nx k = chk ((aset m (key x) (w x)).length ≤ 274877906944) (nx (aset m (key x) (w x)))) {l : List A} (hs : Srt key l) (hl : l.length ≤ 274877906944) :
  forL l 0 f [] k = k (ofL key w l) := by
 have : ∀ (a b : List A) (i : Nat), l = a ++ b → forL b i f (ofL key w a) k = k (ofL key w l) := by
  intro a b
  induction b generalizing a with
  | nil => intro i e; rw [List.append_nil] at e; subst e; rfl
  | cons x b ih =>
   intro i e
   unfold forL
   have hx : key x ∉ (ofL key w a).map (·.1) := by
    rw [ofL_keys]
    intro h
    obtain ⟨y, hy, hyx⟩ := List.mem_map.1 h
    have h1 := hs
    unfold Srt at h1
    rw [e, List.pairwise_append] at h1
    exact slt_ne (h1.2.2 y hy x (List.mem_cons_self ..)) hyx
   have hap : aset (ofL key w a) (key x) (w x) = ofL key w (a ++ [x]) := by
    rw [aset_app _ _ _ hx]; simp [ofL]
   rw [hf, hap, chk_true]
   ·exact ih (a ++ [x]) (i + 1) (by rw [e]; simp)
   ·have := congrArg List.length e
    simp only [List.length_append, List.length_cons] at this
    simp only [ofL, List.length_map, List.length_append, List.length_cons, List.length_nil]
    omega
 exact this [] l 0 rfl
theorem toL_ofL {w : A → V} {g : Str → V → A} {d : V} {l : List A} (hs : Srt key l) (hg : ∀ x ∈ l, g (key x) (w x) = x) : toL g d (ofL key w l) = l := by
 have hk : ∀ k v, alook (ofL key w l) k = some v → key (g k v) = k := fun k v h => by
  rw [ofL_look] at h
  obtain ⟨x, hx, rfl⟩ := Option.map_eq_some_iff.1 h
  obtain ⟨h1, rfl⟩ := lk_some hx
  rw [hg x h1]
 refine srt_ext (toL_srt (ofL_nodup hs) hk) hs fun k => ?_
 rw [toL_lk hk, ofL_look]
 cases h : lk key l k with
 | none => rfl
 | some x =>
  obtain ⟨h1, rfl⟩ := lk_some h
  simp [hg x h1]
theorem collectLoop {Z : Type} {g : Str → V → A} {d : V} {m : List (Str × V)} {f : Nat → Str → List A → (List A → Option Z) → (List A → Option Z) → Option Z} {k : List A → Option Z}
  (hf : ∀ i x o nx k, f i x o nx k = chk ((o ++ [g x ((alook m x).getD d)]).length ≤ 274877906944) (nx (o ++ [g x ((alook m x).getD d)]))) (hl : m.length ≤ 274877906944) :
  forL (keysM m) 0 f [] k = k (toL g d m) := by
 have hk := len_keysM m
 have : ∀ (a b : List Str) (i : Nat), keysM m = a ++ b → forL b i f (a.map fun x => g x ((alook m x).getD d)) k = k (toL g d m) := by
  intro a b
  induction b generalizing a with
  | nil => intro i e; rw [List.append_nil] at e; unfold toL; rw [e]; rfl
  | cons x b ih =>
   intro i e
   have h0 := congrArg List.length e
   simp only [List.length_append, List.length_cons] at h0
   unfold forL
   rw [hf, chk_true (by simp only [List.length_append, List.length_map, List.length_cons, List.length_nil]; omega)]
   have := ih (a ++ [x]) (i + 1) (by rw [e]; simp)
   rw [List.map_append] at this
   exact this
 exact this [] _ 0 rfl
end
def undB (p d : Str) : Bool := decide (p.take (d.length + 1) = d ++ [47])
theorem undB_app {p d : Str} (h : undB p d = true) : ∃ r, p = d ++ 47 :: r := by
 have := of_decide_eq_true h
 refine ⟨p.drop (d.length + 1), ?_⟩
 conv => lhs; rw [← List.take_append_drop (d.length + 1) p, this]
 simp
theorem undB_of (d r : Str) : undB (d ++ 47 :: r) d = true := by
 unfold undB
 rw [decide_eq_true_eq, show d.length + 1 = (d ++ [47]).length by simp, show d ++ 47 :: r = (d ++ [47]) ++ r by simp, List.take_left]
theorem undB_lt {p d : Str} (h : undB p d = true) : d < p := by
 obtain ⟨r, rfl⟩ := undB_app h
 exact slt_app _ _ (by simp)
theorem undB_at {p d : Str} : undB p d = true ↔ ∃ i, ∃ h : i < p.length, p[i] = 47 ∧ d = p.take i := by
 constructor
 ·intro h
  obtain ⟨r, rfl⟩ := undB_app h
  exact ⟨d.length, by simp, by simp, by simp⟩
 ·rintro ⟨i, h, h1, rfl⟩
  have : p = p.take i ++ 47 :: p.drop (i + 1) := by
   rw [← h1, ← List.drop_eq_getElem_cons h, List.take_append_drop]
  conv => lhs; arg 1; rw [this]
  exact undB_of _ _
theorem under_eq (p d : Str) (h : d.length < 274877906944) : R_under p d = some (undB p d) := by
 unfold R_under strings_HasPrefix internal_stringslite_HasPrefix undB
 have hl : (d ++ [47]).length = d.length + 1 := by simp
 rw [chk_true (by rw [hl]; omega), chk_true (by intro h; simp only [decide_eq_true_eq] at h; omega)]
 simp only [call_some, hl]
 congr 1
 by_cases hp : d.length + 1 ≤ p.length
 ·rw [decide_eq_true (by omega : ((d.length + 1 : Nat) : Int) ≤ (p.length : Int)), Bool.true_and]
 ·rw [decide_eq_false (by omega), Bool.false_and, eq_comm, decide_eq_false_iff_not]
  intro e
  have := congrArg List.length e
  simp only [List.length_take, hl] at this
  omega
theorem allI_iff {α : Type} {q : Nat → α → Bool} : ∀ (l : List α) (i : Nat), allI q i l = true ↔ ∀ j (h : j < l.length), q (i + j) l[j] = true
 | [], i => by simp [allI]
 | x :: l, i => by
  unfold allI
  rw [Bool.and_eq_true, allI_iff l (i + 1)]
  constructor
  ·rintro ⟨h1, h2⟩ j hj
   cases j with
   | zero => exact h1
   | succ j => have := h2 j (by simpa using hj); rw [show i + (j + 1) = i + 1 + j by omega]; exact this
  ·intro h
   refine ⟨h 0 (by simp), fun j hj => ?_⟩
   have := h (j + 1) (by simpa using hj)
   rw [show i + 1 + j = i + (j + 1) by omega]; exact this
theorem abv_iff (m : Mp) (p : Str) : abv m p = true ↔ ∀ d, undB p d = true → (alook m d).getD false = false := by
 unfold abv
 rw [allI_iff]
 constructor
 ·intro h d hd
  obtain ⟨i, hi, h1, rfl⟩ := undB_at.1 hd
  have := h i hi
  unfold abvQ at this
  rw [Nat.zero_add, h1] at this
  simpa using this
 ·intro h j hj
  unfold abvQ
  rw [Nat.zero_add]
  cases hc : decide ((p[j].toNat : Int) = 47) with
  | false => rfl
  | true =>
   have h1 : p[j] = 47 := by
    have h2 : p[j].toNat = 47 := by simp only [decide_eq_true_eq] at hc; omega
    exact UInt8.toNat.inj h2
   rw [h _ (undB_at.2 ⟨j, hj, h1, rfl⟩)]; rfl
theorem ord_eq (i : Nat) (a b : Str) : ord i a b = (decide (0 < i) && !decide (b < a)) := by
 unfold ord strLe
 rw [strLt_eq]
 congr 1
 ·exact decide_eq_decide.2 (by omega)
 ·rw [Bool.eq_iff_iff]
  simp only [Bool.or_eq_true, decide_eq_true_eq, Bool.not_eq_true', decide_eq_false_iff_not]
  constructor
  ·rintro (h | rfl)
   ·exact slt_asymm h
   ·exact slt_irr _
  ·intro h
   rcases slt_tri a b with h1 | h1 | h1
   ·exact .inl h1
   ·exact .inr h1
   ·exact absurd h1 h
section
variable {α : Type} {nm : α → Str}
def Hd (nm : α → Str) (i : Nat) (last : Str) : List α → Prop
 | [] => True
 | x :: _ => 0 < i → last < nm x
theorem srt_cons {x : α} {l : List α} {i : Nat} : Srt nm (x :: l) ↔ Hd nm (i + 1) (nm x) l ∧ Srt nm l := by
 unfold Srt
 rw [List.pairwise_cons]
 cases l with
 | nil => simp [Hd]
 | cons y l =>
  simp only [Hd]
  constructor
  ·rintro ⟨h1, h2⟩; exact ⟨fun _ => h1 y (List.mem_cons_self ..), h2⟩
  ·rintro ⟨h1, h2⟩
   refine ⟨fun z hz => ?_, h2⟩
   rcases List.mem_cons.1 hz with rfl | hz
   ·exact h1 (by omega)
   ·exact slt_trans (h1 (by omega)) ((List.pairwise_cons.1 h2).1 z hz)
theorem ord_false {i : Nat} {x : α} {l : List α} {last : Str} : ord i (nm x) last = false ↔ Hd nm i last (x :: l) := by
 rw [ord_eq]
 simp only [Hd, Bool.and_eq_false_iff, decide_eq_false_iff_not, Bool.not_eq_false', decide_eq_true_eq]
 constructor
 ·rintro (h | h)
  ·intro h'; exact absurd h' h
  ·exact fun _ => h
 ·intro h
  by_cases hi : 0 < i
  ·exact .inr (h hi)
  ·exact .inl hi
theorem firstE_iff {e : α → Int} : ∀ (l : List α) (i : Nat) (last : Str), firstE e nm i last l = 0 ↔ (∀ x ∈ l, e x = 0) ∧ Srt nm l ∧ Hd nm i last l
 | [], i, last => by simp [firstE, Srt, Hd]
 | x :: l, i, last => by
  unfold firstE
  by_cases h : e x = 0
  ·rw [decide_eq_true h, Bool.not_true, cond_false]
   cases ho : ord i (nm x) last with
   | true =>
    have : ¬ Hd nm i last (x :: l) := fun hh => by rw [ord_false.2 hh] at ho; cases ho
    simp [this]
   | false =>
    have hh := (ord_false (l := l)).1 ho
    rw [cond_false, firstE_iff l, srt_cons (i := i)]
    simp only [List.mem_cons, forall_eq_or_imp, h, true_and, hh, and_true]
    constructor
    ·rintro ⟨h1, h2, h3⟩; exact ⟨h1, h3, h2⟩
    ·rintro ⟨h1, h3, h2⟩; exact ⟨h1, h2, h3⟩
  ·rw [decide_eq_false h, Bool.not_false, cond_true]
   simp [h]
end
theorem filesE_iff : ∀ (l : List api_File) (i : Nat) (last : Str) (m : Mp), filesE i last m l = 0 ↔
  (∀ x ∈ l, eFile x = 0) ∧ Srt (·.Path) l ∧ Hd (·.Path) i last l ∧ (∀ x ∈ l, ∀ d, undB x.Path d = true → (alook m d).getD false = false) ∧ l.Pairwise fun y x => undB x.Path y.Path = false
 | [], i, last, m => by simp [filesE, Srt, Hd]
 | x :: l, i, last, m => by
  unfold filesE
  by_cases h : eFile x = 0
  ·rw [decide_eq_true h, Bool.not_true, cond_false]
   cases ho : ord i x.Path last with
   | true =>
    have : ¬ Hd (·.Path) i last (x :: l) := fun hh => by rw [(ord_false (nm := fun x : api_File => x.Path)).2 hh] at ho; cases ho
    simp [this]
   | false =>
    have hh := (ord_false (nm := fun x : api_File => x.Path) (l := l)).1 ho
    rw [cond_false]
    cases ha : abv m x.Path with
    | false =>
     have : ¬ ∀ d, undB x.Path d = true → (alook m d).getD false = false := fun hh => by rw [(abv_iff m x.Path).2 hh] at ha; cases ha
     rw [Bool.not_false, cond_true]
     simp [this]
    | true =>
     have ha' := (abv_iff m x.Path).1 ha
     rw [Bool.not_true, cond_false, filesE_iff l, srt_cons (i := i), List.pairwise_cons]
     simp only [List.mem_cons, forall_eq_or_imp, h, true_and, hh]
     constructor
     ·rintro ⟨h1, h2, h3, h4, h5⟩
      refine ⟨h1, ⟨h3, h2⟩, ⟨ha', fun y hy d hd => ?_⟩, fun y hy => ?_, h5⟩
      ·have := h4 y hy d hd
       rw [alook_aset] at this
       split at this
       ·cases this
       ·exact this
      ·cases hu : undB y.Path x.Path with
       | false => rfl
       | true =>
        have := h4 y hy _ hu
        rw [alook_aset, if_pos rfl] at this
        cases this
     ·rintro ⟨h1, ⟨h3, h2⟩, ⟨_, h4⟩, h6, h5⟩
      refine ⟨h1, h2, h3, fun y hy d hd => ?_, h5⟩
      rw [alook_aset]
      split
      ·rename_i e
       subst e
       rw [h6 y hy] at hd; cases hd
      ·exact h4 y hy d hd
  ·rw [decide_eq_false h, Bool.not_false, cond_true]
   simp [h]
structure Good (m : api_Machine) : Prop where
 c1 : m.Facts.length ≤ 100
 c2 : m.Files.length ≤ 2000
 c3 : m.Settings.length ≤ 2000
 c4 : m.Services.length ≤ 100
 f1 : ∀ x ∈ m.Facts, eFact x = 0
 f2 : Srt (·.Key) m.Facts
 g1 : ∀ x ∈ m.Files, eFile x = 0
 g2 : Srt (·.Path) m.Files
 g3 : ∀ x ∈ m.Files, ∀ y ∈ m.Files, undB x.Path y.Path = false
 s1 : ∀ x ∈ m.Settings, eSet x = 0
 s2 : Srt (·.Key) m.Settings
 v1 : ∀ x ∈ m.Services, eSvc x = 0
 v2 : Srt (·.Name) m.Services
theorem hd0 {α : Type} {nm : α → Str} {l : List α} {last : Str} : Hd nm 0 last l := by
 cases l with
 | nil => trivial
 | cons x l => intro h; omega
theorem or2_zero (a b : Int) : or2 a b = 0 ↔ a = 0 ∧ b = 0 := by
 unfold or2
 by_cases h : a = 0
 ·simp [h]
 ·rw [decide_eq_false h, Bool.not_false, cond_true]
  simp [h]
theorem pw_und {l : List api_File} (hs : Srt (·.Path) l) : (l.Pairwise fun y x => undB x.Path y.Path = false) ↔ ∀ x ∈ l, ∀ y ∈ l, undB x.Path y.Path = false := by
 constructor
 ·intro h
  induction l with
  | nil => intro x hx; cases hx
  | cons z l ih =>
   have hs' := List.pairwise_cons.1 hs
   have h' := List.pairwise_cons.1 h
   have irr : ∀ p : Str, undB p p = false := fun p => by
    cases hu : undB p p with
    | false => rfl
    | true => exact absurd (undB_lt hu) (slt_irr _)
   have asy : ∀ a b : Str, a < b → undB a b = false := fun a b hab => by
    cases hu : undB a b with
    | false => rfl
    | true => exact absurd (undB_lt hu) (slt_asymm hab)
   intro x hx y hy
   rcases List.mem_cons.1 hx with e | hx' <;> rcases List.mem_cons.1 hy with e' | hy'
   ·rw [e, e']; exact irr _
   ·subst e; exact asy _ _ (hs'.1 y hy')
   ·subst e'; exact h'.1 x hx'
   ·exact ih hs'.2 h'.2 x hx' y hy'
 ·intro h
  exact List.pairwise_iff_forall_sublist.2 fun {a b} hab => h b (hab.subset (by simp)) a (hab.subset (by simp))
theorem good_iff (m : api_Machine) : checkE m = 0 ↔ Good m := by
 unfold checkE
 cases hB : (((decide (100 < (m.Facts.length : Int))) || (decide (2000 < (m.Files.length : Int)))) || (decide (2000 < (m.Settings.length : Int)))) || (decide (100 < (m.Services.length : Int))) with
 | true =>
  simp only [cond_true]
  simp only [Bool.or_eq_true, decide_eq_true_eq] at hB
  constructor
  ·intro h; cases h
  ·intro h
   have := h.c1
   have := h.c2
   have := h.c3
   have := h.c4
   omega
 | false =>
  simp only [Bool.or_eq_false_iff, decide_eq_false_iff_not] at hB
  simp only [cond_false, or2_zero, firstE_iff, filesE_iff]
  constructor
  ·rintro ⟨⟨a1, a2, _⟩, ⟨b1, b2, _, _, b3⟩, ⟨d1, d2, _⟩, e1, e2, _⟩
   exact ⟨by omega, by omega, by omega, by omega, a1, a2, b1, b2, (pw_und b2).1 b3, d1, d2, e1, e2⟩
  ·intro h
   exact ⟨⟨h.f1, h.f2, hd0⟩, ⟨h.g1, h.g2, hd0, fun _ _ _ _ => rfl, (pw_und h.g2).2 h.g3⟩, ⟨h.s1, h.s2, hd0⟩, h.v1, h.v2, hd0⟩
theorem pathOk_len {p : Str} (h : pathOk p = true) : p.length ≤ 200 := by
 unfold pathOk at h
 simp only [Bool.and_eq_true, decide_eq_true_eq] at h
 omega
theorem eFile_path {f : api_File} (h : eFile f = 0) : pathOk f.Path = true ∧ f.Data.length ≤ 65536 := by
 unfold eFile at h
 cases hp : pathOk f.Path <;> rw [hp] at h
 ·cases h
 ·simp only [Bool.not_true, cond_false] at h
  by_cases hd : 65536 < (f.Data.length : Int)
  ·rw [decide_eq_true hd] at h; cases h
  ·exact ⟨rfl, by omega⟩
theorem eSet_key {s : api_Setting} (h : eSet s = 0) : pathOk s.Key = true ∧ valueOk s.Value = true := by
 unfold eSet at h
 cases hp : pathOk s.Key <;> cases hv : valueOk s.Value <;> rw [hp, hv] at h <;> first | cases h; done | exact ⟨rfl, rfl⟩
theorem eFact_key {s : api_Setting} (h : eFact s = 0) : nameOk s.Key = true ∧ valueOk s.Value = true := by
 unfold eFact at h
 cases hp : nameOk s.Key <;> cases hv : valueOk s.Value <;> rw [hp, hv] at h <;> first | cases h; done | exact ⟨rfl, rfl⟩
theorem eSvc_name {s : api_Service} (h : eSvc s = 0) : nameOk s.Name = true ∧ pathOk s.Path = true := by
 unfold eSvc at h
 cases hp : nameOk s.Name <;> cases hv : pathOk s.Path <;> rw [hp, hv] at h <;> first | cases h; done | exact ⟨rfl, rfl⟩
theorem nameOk_len {p : Str} (h : nameOk p = true) : p.length ≤ 40 := by
 unfold nameOk at h
 simp only [Bool.and_eq_true, decide_eq_true_eq] at h
 omega
theorem valueOk_len {p : Str} (h : valueOk p = true) : p.length ≤ 1000 := by
 unfold valueOk at h
 simp only [Bool.and_eq_true, decide_eq_true_eq] at h
 omega
theorem Good.fit {m : api_Machine} (h : Good m) : Fit m := by
 have := h.c1
 have := h.c2
 have := h.c3
 have := h.c4
 refine ⟨by omega, by omega, by omega, by omega, fun x hx => ?_, fun x hx => ?_, fun x hx => ?_⟩
 ·have := pathOk_len (eFile_path (h.g1 x hx)).1
  unfold Sm; omega
 ·have := pathOk_len (eSet_key (h.s1 x hx)).1
  unfold Sm; omega
 ·have := pathOk_len (eSvc_name (h.v1 x hx)).2
  unfold Sm; omega
def noMach : api_Machine := ⟨[], [], [], []⟩
abbrev lkF (l : List api_File) (k : Str) := lk (fun x : api_File => x.Path) l k
abbrev lkS (l : List api_Setting) (k : Str) := lk (fun x : api_Setting => x.Key) l k
abbrev lkV (l : List api_Service) (k : Str) := lk (fun x : api_Service => x.Name) l k
def clash (p : Str) (f : api_File) : Bool := undB f.Path p || undB p f.Path
def stepM (c : api_Change) (M : api_Machine) : Int × api_Machine :=
 bif !decide (eCh c = 0) then (eCh c, M) else
 bif decide (c.Kind = 2) then (bif !(lkF M.Files c.File.Path).isSome then (10, M) else (0, ⟨M.Facts, del (·.Path) c.File.Path M.Files, M.Settings, M.Services⟩)) else
 bif decide (c.Kind = 4) then (bif !(lkS M.Settings c.Setting.Key).isSome then (10, M) else (0, ⟨M.Facts, M.Files, del (·.Key) c.Setting.Key M.Settings, M.Services⟩)) else
 bif decide (c.Kind = 6) then (bif !(lkV M.Services c.Service.Name).isSome then (10, M) else (0, ⟨M.Facts, M.Files, M.Settings, del (·.Name) c.Service.Name M.Services⟩)) else
 bif decide (c.Kind = 1) then (bif M.Files.any (clash c.File.Path) then (11, M) else bif !(lkF M.Files c.File.Path).isSome && decide (2000 ≤ (M.Files.length : Int)) then (4, M) else (0, ⟨M.Facts, ins (·.Path) c.File M.Files, M.Settings, M.Services⟩)) else
 bif decide (c.Kind = 3) then (bif !(lkS M.Settings c.Setting.Key).isSome && decide (2000 ≤ (M.Settings.length : Int)) then (4, M) else (0, ⟨M.Facts, M.Files, ins (·.Key) c.Setting M.Settings, M.Services⟩)) else
 (bif !(lkV M.Services c.Service.Name).isSome && decide (100 ≤ (M.Services.length : Int)) then (4, M) else (0, ⟨M.Facts, M.Files, M.Settings, ins (·.Name) c.Service M.Services⟩))
def stepsM : List api_Change → api_Machine → api_Machine × Int
 | [], M => (M, 0)
 | c :: l, M => bif !decide ((stepM c M).1 = 0) then (noMach, (stepM c M).1) else stepsM l (stepM c M).2
def applyM (M : api_Machine) (l : List api_Change) : api_Machine × Int := bif !decide (checkE M = 0) then (noMach, checkE M) else stepsM l M
theorem kindEqs : (decide ((1 : Int) = 1) = true ∧ decide ((1 : Int) = 2) = false ∧ decide ((1 : Int) = 3) = false ∧ decide ((1 : Int) = 4) = false ∧ decide ((1 : Int) = 5) = false ∧ decide ((1 : Int) = 6) = false) ∧
  (decide ((2 : Int) = 1) = false ∧ decide ((2 : Int) = 2) = true ∧ decide ((2 : Int) = 3) = false ∧ decide ((2 : Int) = 4) = false ∧ decide ((2 : Int) = 5) = false ∧ decide ((2 : Int) = 6) = false) ∧
  (decide ((3 : Int) = 1) = false ∧ decide ((3 : Int) = 2) = false ∧ decide ((3 : Int) = 3) = true ∧ decide ((3 : Int) = 4) = false ∧ decide ((3 : Int) = 5) = false ∧ decide ((3 : Int) = 6) = false) ∧
  (decide ((4 : Int) = 1) = false ∧ decide ((4 : Int) = 2) = false ∧ decide ((4 : Int) = 3) = false ∧ decide ((4 : Int) = 4) = true ∧ decide ((4 : Int) = 5) = false ∧ decide ((4 : Int) = 6) = false) ∧
  (decide ((5 : Int) = 1) = false ∧ decide ((5 : Int) = 2) = false ∧ decide ((5 : Int) = 3) = false ∧ decide ((5 : Int) = 4) = false ∧ decide ((5 : Int) = 5) = true ∧ decide ((5 : Int) = 6) = false) ∧
  (decide ((6 : Int) = 1) = false ∧ decide ((6 : Int) = 2) = false ∧ decide ((6 : Int) = 3) = false ∧ decide ((6 : Int) = 4) = false ∧ decide ((6 : Int) = 5) = false ∧ decide ((6 : Int) = 6) = true) := by decide
theorem eCh_kind {c : api_Change} (h : eCh c = 0) : c.Kind = 1 ∨ c.Kind = 2 ∨ c.Kind = 3 ∨ c.Kind = 4 ∨ c.Kind = 5 ∨ c.Kind = 6 := kinds6 (eCh_zero h).1
theorem eCh_put {c : api_Change} (h : eCh c = 0) (hk : c.Kind = 1) : eFile c.File = 0 := by
 have := (eCh_zero h).2.1
 unfold eNeed at this
 rw [hk] at this
 exact this
theorem eCh_set {c : api_Change} (h : eCh c = 0) (hk : c.Kind = 3) : eSet c.Setting = 0 := by
 have := (eCh_zero h).2.1
 unfold eNeed at this
 rw [hk] at this
 exact this
theorem eCh_svc {c : api_Change} (h : eCh c = 0) (hk : c.Kind = 5) : eSvc c.Service = 0 := by
 have := (eCh_zero h).2.1
 unfold eNeed at this
 rw [hk] at this
 exact this
theorem clash_irr (p : Str) : undB p p = false := by
 cases hu : undB p p with
 | false => rfl
 | true => exact absurd (undB_lt hu) (slt_irr _)
theorem good_step {M : api_Machine} (h : Good M) (c : api_Change) : Good (stepM c M).2 := by
 unfold stepM
 by_cases he : eCh c = 0
 ·rw [decide_eq_true he, Bool.not_true, cond_false]
  have hc1 := h.c1
  have hc2 := h.c2
  have hc3 := h.c3
  have hc4 := h.c4
  rcases eCh_kind he with e | e | e | e | e | e
  all_goals simp only [e, kindEqs, decide_true, cond_true, cond_false]
  ·cases ha : M.Files.any (clash c.File.Path)
   ·simp only [cond_false]
    cases hb : !(lkF M.Files c.File.Path).isSome && decide (2000 ≤ (M.Files.length : Int))
    ·simp only [cond_false]
     have hcl : ∀ x ∈ M.Files, undB x.Path c.File.Path = false ∧ undB c.File.Path x.Path = false := fun x hx => by
      have := List.any_eq_false.1 ha x hx
      simpa [clash] using this
     refine { h with c2 := ?_, g1 := ?_, g2 := srt_ins h.g2 _, g3 := ?_ }
     ·show (ins (fun x : api_File => x.Path) c.File M.Files).length ≤ 2000
      rw [len_ins h.g2]
      simp only [Bool.and_eq_false_iff, Bool.not_eq_false', decide_eq_false_iff_not] at hb
      rcases hb with hb | hb
      ·rw [if_pos hb]; omega
      ·split <;> omega
     ·intro x hx
      rcases mem_ins.1 hx with rfl | ⟨hx, _⟩
      ·exact eCh_put he e
      ·exact h.g1 x hx
     ·intro x hx y hy
      rcases mem_ins.1 hx with rfl | ⟨hx, _⟩ <;> rcases mem_ins.1 hy with rfl | ⟨hy, _⟩
      ·exact clash_irr _
      ·exact (hcl y hy).2
      ·exact (hcl x hx).1
      ·exact h.g3 x hx y hy
    ·exact h
   ·exact h
  ·cases hb : !(lkF M.Files c.File.Path).isSome
   ·simp only [cond_false]
    refine { h with c2 := ?_, g1 := ?_, g2 := srt_del h.g2 _, g3 := ?_ }
    ·have := len_del h.g2 c.File.Path
     show (del (fun x : api_File => x.Path) c.File.Path M.Files).length ≤ 2000
     omega
    ·intro x hx; exact h.g1 x (mem_del.1 hx).1
    ·intro x hx y hy; exact h.g3 x (mem_del.1 hx).1 y (mem_del.1 hy).1
   ·exact h
  ·cases hb : !(lkS M.Settings c.Setting.Key).isSome && decide (2000 ≤ (M.Settings.length : Int))
   ·simp only [cond_false]
    refine { h with c3 := ?_, s1 := ?_, s2 := srt_ins h.s2 _ }
    ·show (ins (fun x : api_Setting => x.Key) c.Setting M.Settings).length ≤ 2000
     rw [len_ins h.s2]
     simp only [Bool.and_eq_false_iff, Bool.not_eq_false', decide_eq_false_iff_not] at hb
     rcases hb with hb | hb
     ·rw [if_pos hb]; omega
     ·split <;> omega
    ·intro x hx
     rcases mem_ins.1 hx with rfl | ⟨hx, _⟩
     ·exact eCh_set he e
     ·exact h.s1 x hx
   ·exact h
  ·cases hb : !(lkS M.Settings c.Setting.Key).isSome
   ·simp only [cond_false]
    refine { h with c3 := ?_, s1 := ?_, s2 := srt_del h.s2 _ }
    ·have := len_del h.s2 c.Setting.Key
     show (del (fun x : api_Setting => x.Key) c.Setting.Key M.Settings).length ≤ 2000
     omega
    ·intro x hx; exact h.s1 x (mem_del.1 hx).1
   ·exact h
  ·cases hb : !(lkV M.Services c.Service.Name).isSome && decide (100 ≤ (M.Services.length : Int))
   ·simp only [cond_false]
    refine { h with c4 := ?_, v1 := ?_, v2 := srt_ins h.v2 _ }
    ·show (ins (fun x : api_Service => x.Name) c.Service M.Services).length ≤ 100
     rw [len_ins h.v2]
     simp only [Bool.and_eq_false_iff, Bool.not_eq_false', decide_eq_false_iff_not] at hb
     rcases hb with hb | hb
     ·rw [if_pos hb]; omega
     ·split <;> omega
    ·intro x hx
     rcases mem_ins.1 hx with rfl | ⟨hx, _⟩
     ·exact eCh_svc he e
     ·exact h.v1 x hx
   ·exact h
  ·cases hb : !(lkV M.Services c.Service.Name).isSome
   ·simp only [cond_false]
    refine { h with c4 := ?_, v1 := ?_, v2 := srt_del h.v2 _ }
    ·have := len_del h.v2 c.Service.Name
     show (del (fun x : api_Service => x.Name) c.Service.Name M.Services).length ≤ 100
     omega
    ·intro x hx; exact h.v1 x (mem_del.1 hx).1
   ·exact h
 ·rw [decide_eq_false he]; exact h
abbrev gF : Str → api_File → api_File := fun _ v => v
abbrev gV : Str → api_Service → api_Service := fun _ v => v
structure Wr (m1 : List (Str × api_File)) (m2 : List (Str × Str)) (m3 : List (Str × api_Service)) (M : api_Machine) : Prop where
 n1 : (m1.map (·.1)).Nodup
 n2 : (m2.map (·.1)).Nodup
 n3 : (m3.map (·.1)).Nodup
 k1 : ∀ k v, alook m1 k = some v → v.Path = k
 k3 : ∀ k v, alook m3 k = some v → v.Name = k
 e1 : toL gF noFile m1 = M.Files
 e2 : toL api_Setting.mk [] m2 = M.Settings
 e3 : toL gV noSvc m3 = M.Services
theorem clone_set (l : List api_Setting) (h : l.length ≤ 274877906944) : slices_Clone_api_Setting_api_Setting l = some l := by
 unfold slices_Clone_api_Setting_api_Setting
 refine anyOf_intro ⟨false, fun h => by cases h⟩ fun b hb => ?_
 cases b with
 | true => rw [hb rfl]; rfl
 | false => rw [cond_false, chk_true (by simpa using h)]; rfl
theorem worldOf_eq {M : api_Machine} (h : Good M) : ∃ m1 m2 m3, R_worldOf M = some (m1, m2, m3, M.Facts) ∧ Wr m1 m2 m3 M := by
 have hc2 := h.c2
 have hc3 := h.c3
 have hc4 := h.c4
 refine ⟨ofL (·.Path) id M.Files, ofL (·.Key) (·.Value) M.Settings, ofL (·.Name) id M.Services, ?_, ?_⟩
 ·unfold R_worldOf
  simp only [jp_eq]
  refine (ofLoop (key := fun x : api_File => x.Path) (w := id) (fun _ _ _ _ _ => rfl) h.g2 (by omega)).trans ?_
  refine (ofLoop (key := fun x : api_Setting => x.Key) (w := fun x => x.Value) (fun _ _ _ _ _ => rfl) h.s2 (by omega)).trans ?_
  exact ofLoop (key := fun x : api_Service => x.Name) (w := id) (fun _ _ _ _ _ => rfl) h.v2 (by omega)
 ·refine ⟨ofL_nodup h.g2, ofL_nodup h.s2, ofL_nodup h.v2, fun k v hv => ?_, fun k v hv => ?_, toL_ofL h.g2 fun _ _ => rfl, toL_ofL h.s2 fun _ _ => rfl, toL_ofL h.v2 fun _ _ => rfl⟩
  ·rw [ofL_look] at hv
   obtain ⟨x, hx, rfl⟩ := Option.map_eq_some_iff.1 hv
   exact (lk_some hx).2
  ·rw [ofL_look] at hv
   obtain ⟨x, hx, rfl⟩ := Option.map_eq_some_iff.1 hv
   exact (lk_some hx).2
section
variable {m1 : List (Str × api_File)} {m2 : List (Str × Str)} {m3 : List (Str × api_Service)} {M : api_Machine}
theorem Wr.l1 (h : Wr m1 m2 m3 M) : m1.length = M.Files.length := by rw [← h.e1, toL_len]
theorem Wr.l2 (h : Wr m1 m2 m3 M) : m2.length = M.Settings.length := by rw [← h.e2, toL_len]
theorem Wr.l3 (h : Wr m1 m2 m3 M) : m3.length = M.Services.length := by rw [← h.e3, toL_len]
theorem Wr.look1 (h : Wr m1 m2 m3 M) (k : Str) : alook m1 k = lkF M.Files k := by
 rw [← h.e1]
 refine Eq.trans ?_ (toL_lk (key := fun x : api_File => x.Path) (g := gF) (d := noFile) h.k1 k).symm
 cases alook m1 k <;> rfl
theorem Wr.look2 (h : Wr m1 m2 m3 M) (k : Str) : (alook m2 k).map (api_Setting.mk k) = lkS M.Settings k := by
 rw [← h.e2]
 exact (toL_lk (key := fun x : api_Setting => x.Key) (g := api_Setting.mk) (fun _ _ _ => rfl) k).symm
theorem Wr.look3 (h : Wr m1 m2 m3 M) (k : Str) : alook m3 k = lkV M.Services k := by
 rw [← h.e3]
 refine Eq.trans ?_ (toL_lk (key := fun x : api_Service => x.Name) (g := gV) (d := noSvc) h.k3 k).symm
 cases alook m3 k <;> rfl
theorem Wr.is2 (h : Wr m1 m2 m3 M) (k : Str) : (alook m2 k).isSome = (lkS M.Settings k).isSome := by
 rw [← h.look2, Option.isSome_map]
theorem Wr.mem1 (h : Wr m1 m2 m3 M) {p : Str × api_File} (hp : p ∈ m1) : p.2 ∈ M.Files ∧ p.2.Path = p.1 := by
 have := mem_alook h.n1 hp
 exact ⟨(lk_some ((h.look1 _).symm.trans this)).1, h.k1 _ _ this⟩
theorem Wr.put1 (h : Wr m1 m2 m3 M) (f : api_File) : Wr (aset m1 f.Path f) m2 m3 ⟨M.Facts, ins (·.Path) f M.Files, M.Settings, M.Services⟩ :=
 { h with
  n1 := nodup_aset h.n1 _ _
  k1 := fun k v hv => by
   rw [alook_aset] at hv
   split at hv
   ·rename_i e; cases hv; exact e
   ·exact h.k1 _ _ hv
  e1 := by rw [← h.e1]; exact toL_aset (key := fun x : api_File => x.Path) (g := gF) h.n1 h.k1 _ _ rfl }
theorem Wr.put2 (h : Wr m1 m2 m3 M) (f : api_Setting) : Wr m1 (aset m2 f.Key f.Value) m3 ⟨M.Facts, M.Files, ins (·.Key) f M.Settings, M.Services⟩ :=
 { h with
  n2 := nodup_aset h.n2 _ _
  e2 := by rw [← h.e2]; exact toL_aset (key := fun x : api_Setting => x.Key) (g := api_Setting.mk) h.n2 (fun _ _ _ => rfl) _ _ rfl }
theorem Wr.put3 (h : Wr m1 m2 m3 M) (f : api_Service) : Wr m1 m2 (aset m3 f.Name f) ⟨M.Facts, M.Files, M.Settings, ins (·.Name) f M.Services⟩ :=
 { h with
  n3 := nodup_aset h.n3 _ _
  k3 := fun k v hv => by
   rw [alook_aset] at hv
   split at hv
   ·rename_i e; cases hv; exact e
   ·exact h.k3 _ _ hv
  e3 := by rw [← h.e3]; exact toL_aset (key := fun x : api_Service => x.Name) (g := gV) h.n3 h.k3 _ _ rfl }
theorem Wr.del1 (h : Wr m1 m2 m3 M) (k : Str) : Wr (adel m1 k) m2 m3 ⟨M.Facts, del (·.Path) k M.Files, M.Settings, M.Services⟩ :=
 { h with
  n1 := nodup_adel h.n1 _
  k1 := fun k v hv => by
   rw [alook_adel h.n1] at hv
   split at hv
   ·cases hv
   ·exact h.k1 _ _ hv
  e1 := by rw [← h.e1]; exact toL_adel (key := fun x : api_File => x.Path) (g := gF) h.n1 h.k1 _ }
theorem Wr.del2 (h : Wr m1 m2 m3 M) (k : Str) : Wr m1 (adel m2 k) m3 ⟨M.Facts, M.Files, del (·.Key) k M.Settings, M.Services⟩ :=
 { h with
  n2 := nodup_adel h.n2 _
  e2 := by rw [← h.e2]; exact toL_adel (key := fun x : api_Setting => x.Key) (g := api_Setting.mk) h.n2 (fun _ _ _ => rfl) _ }
theorem Wr.del3 (h : Wr m1 m2 m3 M) (k : Str) : Wr m1 m2 (adel m3 k) ⟨M.Facts, M.Files, M.Settings, del (·.Name) k M.Services⟩ :=
 { h with
  n3 := nodup_adel h.n3 _
  k3 := fun k v hv => by
   rw [alook_adel h.n3] at hv
   split at hv
   ·cases hv
   ·exact h.k3 _ _ hv
  e3 := by rw [← h.e3]; exact toL_adel (key := fun x : api_Service => x.Name) (g := gV) h.n3 h.k3 _ }
theorem machine_eq (h : Wr m1 m2 m3 M) (hM : Good M) : R_world_machine_i1 M.Facts m1 m2 m3 = some M := by
 have h1 := h.l1
 have h2 := h.l2
 have h3 := h.l3
 have hc1 := hM.c1
 have hc2 := hM.c2
 have hc3 := hM.c3
 have hc4 := hM.c4
 have e1 : R_keys_api_File_i1 m1 = some (keysM m1) := keysBody m1 (by omega)
 have e2 : R_keys_string_i1 m2 = some (keysM m2) := keysBody m2 (by omega)
 have e3 : R_keys_api_Service_i1 m3 = some (keysM m3) := keysBody m3 (by omega)
 unfold R_world_machine_i1
 simp only [jp_eq, clone_set _ (show M.Facts.length ≤ 274877906944 by omega), call_some, e1, e2, e3]
 refine (collectLoop (g := gF) (d := noFile) (m := m1) (fun _ _ _ _ _ => rfl) (by omega)).trans ?_
 refine (collectLoop (g := api_Setting.mk) (d := []) (m := m2) (fun _ _ _ _ _ => rfl) (by omega)).trans ?_
 refine (collectLoop (g := gV) (d := noSvc) (m := m3) (fun _ _ _ _ _ => rfl) (by omega)).trans ?_
 rw [h.e1, h.e2, h.e3]
theorem do_eq (h : Wr m1 m2 m3 M) (hM : Good M) (c : api_Change) (hc : SmC c) (o : List api_Setting) :
  ∃ a b d, R_world_do_i1 c o m1 m2 m3 = some ((stepM c M).1, a, b, d) ∧ Wr a b d (stepM c M).2 := by
 have h1 := h.l1
 have h2 := h.l2
 have h3 := h.l3
 have hc1 := hM.c1
 have hc2 := hM.c2
 have hc3 := hM.c3
 have hc4 := hM.c4
 unfold R_world_do_i1 stepM
 rw [R_change_eq c hc, call_some]
 by_cases he : eCh c = 0
 ·rw [decide_eq_true he, Bool.not_true, cond_false]
  simp only [jp_eq, letv, h.look1, h.look3, h.is2, h1, h2, h3]
  rcases eCh_kind he with e | e | e | e | e | e
  all_goals simp only [e, kindEqs, decide_true, cond_true, cond_false]
  ·have hp := pathOk_len (eFile_path (eCh_put he e)).1
   have hfor : ∀ (X : Int × List (Str × api_File) × List (Str × Str) × List (Str × api_Service)) (k : Unit → Option (Int × List (Str × api_File) × List (Str × Str) × List (Str × api_Service))) (Y : Int × List (Str × api_File) × List (Str × Str) × List (Str × api_Service)), k () = some Y →
     forM (fun (e_260 : Str × api_File) (s : Unit) nx_254 k_253 =>
      call (R_under e_260.1 c.File.Path) fun r_262 =>
      callG (!r_262) (R_under c.File.Path e_260.1) false fun r_263 =>
      bif (r_262 || r_263) then some X else nx_254 ()) M.Files.length m1 () k = some (bif M.Files.any (clash c.File.Path) then X else Y) := by
    intro X k Y hk
    have hany : M.Files.any (clash c.File.Path) = m1.any fun p => clash c.File.Path p.2 := by
     rw [Bool.eq_iff_iff]
     simp only [List.any_eq_true]
     constructor
     ·rintro ⟨x, hx, hx'⟩
      exact ⟨(x.Path, x), alook_mem ((h.look1 _).trans (lk_mem hM.g2 hx)), hx'⟩
     ·rintro ⟨p, hp', hx'⟩
      exact ⟨p.2, (h.mem1 hp').1, hx'⟩
    rw [hany]
    refine forM_run (fun r _ => (∀ p ∈ r, p ∈ m1) ∧ (m1.any fun p => clash c.File.Path p.2) = r.any fun p => clash c.File.Path p.2) (fun s hs => ?_) (fun r s nx x j hr hx hnx => ?_) _ _ _ h1 ⟨fun _ h => h, rfl⟩
    ·rw [hs.2]; exact hk
    ·have hxm := hr.1 x (List.mem_of_getElem? hx)
     obtain ⟨q1, q2⟩ := h.mem1 hxm
     have hl := pathOk_len (eFile_path (hM.g1 _ q1)).1
     rw [q2] at hl
     rw [under_eq _ _ (by omega), under_eq _ _ (by omega), call_some, callG_some]
     have hcl : clash c.File.Path x.2 = (undB x.1 c.File.Path || undB c.File.Path x.1) := by unfold clash; rw [q2]
     have hp2 := perm_eraseIdx hx
     have hany2 : (r.any fun p => clash c.File.Path p.2) = (clash c.File.Path x.2 || (r.eraseIdx j).any fun p => clash c.File.Path p.2) := by
      rw [Bool.eq_iff_iff]
      simp only [Bool.or_eq_true, List.any_eq_true]
      constructor
      ·rintro ⟨y, hy, hy'⟩
       rcases List.mem_cons.1 (hp2.mem_iff.1 hy) with rfl | hy
       ·exact .inl hy'
       ·exact .inr ⟨y, hy, hy'⟩
      ·rintro (hy' | ⟨y, hy, hy'⟩)
       ·exact ⟨x, hp2.mem_iff.2 (List.mem_cons_self ..), hy'⟩
       ·exact ⟨y, hp2.mem_iff.2 (List.mem_cons_of_mem _ hy), hy'⟩
     cases hu : undB x.1 c.File.Path with
     | true =>
      rw [hu, Bool.true_or] at hcl
      rw [Bool.true_or, cond_true, hr.2, hany2, hcl, Bool.true_or, cond_true]
     | false =>
      rw [hu, Bool.false_or] at hcl
      rw [Bool.false_or, Bool.not_false, cond_true]
      cases hv : undB c.File.Path x.1 with
      | true =>
       rw [hv] at hcl
       rw [cond_true, hr.2, hany2, hcl, Bool.true_or, cond_true]
      | false =>
       rw [hv] at hcl
       rw [hcl, Bool.false_or] at hany2
       rw [cond_false]
       exact hnx () ⟨fun p hp => hr.1 p (hp2.mem_iff.2 (List.mem_cons_of_mem _ hp)), hr.2.trans hany2⟩
   have ha := len_aset m1 c.File.Path c.File
   have ha' : (aset m1 c.File.Path c.File).length ≤ 274877906944 := by split at ha <;> omega
   rw [chk_true ha']
   rw [hfor _ _ (bif !(lkF M.Files c.File.Path).isSome && decide (2000 ≤ (M.Files.length : Int)) then (4, m1, m2, m3) else (0, aset m1 c.File.Path c.File, m2, m3)) (condS _ _ _)]
   cases M.Files.any (clash c.File.Path)
   ·simp only [cond_false]
    cases !(lkF M.Files c.File.Path).isSome && decide (2000 ≤ (M.Files.length : Int))
    ·exact ⟨_, _, _, rfl, h.put1 _⟩
    ·exact ⟨_, _, _, rfl, h⟩
   ·exact ⟨_, _, _, rfl, h⟩
  ·cases (lkF M.Files c.File.Path).isSome
   ·exact ⟨_, _, _, rfl, h⟩
   ·exact ⟨_, _, _, rfl, h.del1 _⟩
  ·have ha := len_aset m2 c.Setting.Key c.Setting.Value
   have ha' : (aset m2 c.Setting.Key c.Setting.Value).length ≤ 274877906944 := by split at ha <;> omega
   rw [chk_true ha']
   cases !(lkS M.Settings c.Setting.Key).isSome && decide (2000 ≤ (M.Settings.length : Int))
   ·exact ⟨_, _, _, rfl, h.put2 _⟩
   ·exact ⟨_, _, _, rfl, h⟩
  ·cases (lkS M.Settings c.Setting.Key).isSome
   ·exact ⟨_, _, _, rfl, h⟩
   ·exact ⟨_, _, _, rfl, h.del2 _⟩
  ·have ha := len_aset m3 c.Service.Name c.Service
   have ha' : (aset m3 c.Service.Name c.Service).length ≤ 274877906944 := by split at ha <;> omega
   rw [chk_true ha']
   cases !(lkV M.Services c.Service.Name).isSome && decide (100 ≤ (M.Services.length : Int))
   ·exact ⟨_, _, _, rfl, h.put3 _⟩
   ·exact ⟨_, _, _, rfl, h⟩
  ·cases (lkV M.Services c.Service.Name).isSome
   ·exact ⟨_, _, _, rfl, h⟩
   ·exact ⟨_, _, _, rfl, h.del3 _⟩
 ·rw [decide_eq_false he]
  exact ⟨_, _, _, rfl, h⟩
end
theorem step_facts (c : api_Change) (M : api_Machine) : (stepM c M).2.Facts = M.Facts := by
 unfold stepM
 generalize hg1 : (!decide (eCh c = 0)) = b1
 generalize decide (c.Kind = 2) = b2
 generalize decide (c.Kind = 4) = b3
 generalize decide (c.Kind = 6) = b4
 generalize decide (c.Kind = 1) = b5
 generalize decide (c.Kind = 3) = b6
 cases b1 <;> cases b2 <;> cases b3 <;> cases b4 <;> cases b5 <;> cases b6 <;> simp only [cond_true, cond_false] <;> (first | rfl | (split <;> rfl) | skip)
 all_goals repeat' (first | rfl | (rw [Bool.cond_eq_ite]; split))
theorem R_Apply_eq (M : api_Machine) (hf : Fit M) (l : List api_Change) (hl : ∀ c ∈ l, SmC c) : R_Apply M l = some (applyM M l) := by
 unfold R_Apply applyM
 rw [R_Check_eq M hf, call_some]
 by_cases h0 : checkE M = 0
 ·rw [decide_eq_true h0, Bool.not_true, cond_false, cond_false]
  have hM := (good_iff M).1 h0
  obtain ⟨m1, m2, m3, e, hw⟩ := worldOf_eq hM
  rw [e, call_some]
  simp only [jp_eq]
  have : ∀ (l : List api_Change) (i : Nat) (m1 : List (Str × api_File)) (m2 : List (Str × Str)) (m3 : List (Str × api_Service)) (N : api_Machine), (∀ c ∈ l, SmC c) → Good N → N.Facts = M.Facts → Wr m1 m2 m3 N →
    forL l i (fun i_36 c_38 s nx_35 k_34 =>
     match s with
     | (m3_29, m4_30, m5_31) =>
      call (R_world_do_i1 c_38 M.Facts m3_29 m4_30 m5_31) fun r_39 =>
      bif !decide (r_39.1 = 0) then
       some ((api_Machine.mk [] [] [] []), r_39.1)
      else
      nx_35 (r_39.2.1, r_39.2.2.1, r_39.2.2.2)) (m1, m2, m3) (fun s => match s with
     | (m3_29, m4_30, m5_31) =>
      call (R_world_machine_i1 M.Facts m3_29 m4_30 m5_31) fun r_24 =>
       some (r_24, (0 : Int))) = some (stepsM l N) := by
   intro l
   induction l with
   | nil =>
    intro i m1 m2 m3 N _ hN hF hw
    unfold forL
    simp only
    rw [← hF, machine_eq hw hN, call_some]; rfl
   | cons c l ih =>
    intro i m1 m2 m3 N hc hN hF hw
    unfold forL
    simp only
    obtain ⟨a, b, d, e, hw'⟩ := do_eq hw hN c (hc c (List.mem_cons_self ..)) M.Facts
    rw [e, call_some]
    simp only [stepsM]
    rw [ih _ _ _ _ _ (fun x hx => hc x (List.mem_cons_of_mem _ hx)) (good_step hN c) ((step_facts c N).trans hF) hw']
    exact condS _ _ _
  exact this l 0 m1 m2 m3 M hl hM rfl hw
 ·rw [decide_eq_false h0]; rfl
def Ends {Z : Type} (m : Option Z) (P : Z → Prop) : Prop := ∃ z, m = some z ∧ P z
section
variable {Z A S α : Type} {P : Z → Prop}
theorem Ends.call {a : Option A} {k : A → Option Z} {Q : A → Prop} (h : Ends a Q) (hk : ∀ x, Q x → Ends (k x) P) : Ends (Vc.call a k) P := by
 obtain ⟨x, rfl, hx⟩ := h
 exact hk x hx
theorem forL_ex {f : Nat → α → S → (S → Option Z) → (S → Option Z) → Option Z} {k : S → Option Z} (inv : Nat → List α → S → Prop)
  (h0 : ∀ i s, inv i [] s → Ends (k s) P) (h1 : ∀ i x l s nx, inv i (x :: l) s → (∀ s', inv (i + 1) l s' → Ends (nx s') P) → Ends (f i x s nx k) P) :
  ∀ (l : List α) (i : Nat) (s : S), inv i l s → Ends (forL l i f s k) P
 | [], i, s, h => h0 i s h
 | x :: l, i, s, h => h1 i x l s _ h fun s' hs => forL_ex inv h0 h1 l (i + 1) s' hs
theorem loopN_ex {f : S → (S → Option Z) → (S → Option Z) → Option Z} {k : S → Option Z} (inv : S → Prop) (mu : S → Nat)
  (h : ∀ s nx, inv s → (∀ s', inv s' → mu s' < mu s → Ends (nx s') P) → Ends (f s nx k) P) : ∀ (N : Nat) (s : S), inv s → mu s < N → Ends (loopN N f s k) P
 | 0, s, _, hm => by omega
 | N + 1, s, hi, hm => by
  unfold loopN
  exact h s _ hi fun s' hs' hlt => loopN_ex inv mu h N s' hs' (by omega)
theorem loopN_exF {f : S → (S → Option Z) → (S → Option Z) → Option Z} {k : S → Option Z} (inv : S → Prop) (mu : S → Nat)
  (h : ∀ s nx, inv s → (∀ s', inv s' → mu s' < mu s → Ends (nx s') P) → Ends (f s nx k) P) (s : S) (hi : inv s) (hm : mu s < 1099511627776) : Ends (loopN Fuel f s k) P := by
 obtain ⟨N, hN⟩ : ∃ N, Fuel = N := ⟨_, rfl⟩
 have hN2 : 1099511627776 ≤ N := hN ▸ fuel_ge
 rw [hN]
 exact loopN_ex inv mu h N s hi (by omega)
end
abbrev kAt (o : List api_Setting) (p : Nat) : Str := (o.getD p (api_Setting.mk [] [])).Key
theorem fit1_eq (a b : api_Setting) : Law_fit_1 a b = some (cmpB a.Key b.Key) := rfl
theorem getD_set {α : Type} (o : List α) (i p : Nat) (x d : α) (h : i < o.length) : (o.set i x).getD p d = if i = p then x else o.getD p d := by
 simp only [List.getD_eq_getElem?_getD, List.getElem?_set]
 by_cases e : i = p
 ·subst e; simp [h]
 ·simp [e]
theorem getD_mem {α : Type} (o : List α) (i : Nat) (d : α) (h : i < o.length) : o.getD i d ∈ o := by
 simp only [List.getD_eq_getElem?_getD, List.getElem?_eq_getElem h, Option.getD_some]
 exact List.getElem_mem h
structure Sorted (o0 o : List api_Setting) : Prop where
 len : o.length = o0.length
 sub : ∀ x ∈ o, x ∈ o0
 ord : ∀ p q, p < q → q < o.length → ¬ kAt o q < kAt o p
theorem insSort (o0 : List api_Setting) (hn : o0.length ≤ 1073741824) : Ends (slices_insertionSortCmpFunc_api_Setting_i1 0 (o0.length : Int) o0) (Sorted o0) := by
 unfold slices_insertionSortCmpFunc_api_Setting_i1
 rw [show IntKind.i64.wrap ((0 : Int) + 1) = ((1 : Nat) : Int) from rfl]
 refine loopN_exF (fun st : Int × List api_Setting => ∃ i : Nat, st.1 = i ∧ 1 ≤ i ∧ (i ≤ o0.length ∨ i = 1) ∧ st.2.length = o0.length ∧ (∀ x ∈ st.2, x ∈ o0) ∧ ∀ p q, p < q → q < i → q < o0.length → ¬ kAt st.2 q < kAt st.2 p) (fun st => o0.length - st.1.toNat) ?_ _ ⟨1, rfl, by omega, by omega, rfl, fun _ h => h, fun p q h1 h2 => by omega⟩ (by simp only; omega)
 rintro ⟨i', o⟩ nx ⟨i, rfl, hi1, hi, hl, hs, ho⟩ hnx
 simp only at hl hs ho hnx ⊢
 by_cases hlt : i < o0.length
 ·rw [decide_eq_true (by omega), cond_true, jp_eq]
  refine loopN_exF (fun st : Int × List api_Setting => ∃ j : Nat, st.1 = j ∧ j ≤ i ∧ st.2.length = o0.length ∧ (∀ x ∈ st.2, x ∈ o0) ∧ ∀ p q, p < q → q ≤ i → q ≠ j → ¬ kAt st.2 q < kAt st.2 p) (fun st => st.1.toNat) ?_ _ ⟨i, rfl, Nat.le_refl _, hl, hs, fun p q h1 h2 h3 => ho p q h1 (by omega) (by omega)⟩ (by simp only; omega)
  rintro ⟨j', o1⟩ nx1 ⟨j, rfl, hj, hl1, hs1, ho1⟩ hnx1
  simp only at hl1 hs1 ho1 hnx1 ⊢
  have hend : (j = 0 ∨ ¬ kAt o1 j < kAt o1 (j - 1)) → Ends (nx (IntKind.i64.wrap ((i : Int) + 1), o1)) (Sorted o0) := by
   intro hj0
   rw [wrap1 i (by omega)]
   refine hnx _ ⟨i + 1, rfl, by omega, by omega, hl1, hs1, fun p q h1 h2 h3 => ?_⟩ (by simp only; omega)
   by_cases hq : q = j
   ·subst hq
    rcases hj0 with hj0 | hj0
    ·omega
    ·by_cases hp : p = q - 1
     ·rw [hp]; exact hj0
     ·have h4 := ho1 p (q - 1) (by omega) (by omega) (by omega)
      intro h5
      rcases slt_tri (kAt o1 q) (kAt o1 (q - 1)) with h6 | h6 | h6
      ·exact hj0 h6
      ·exact h4 (h6 ▸ h5)
      ·exact h4 (slt_trans h6 h5)
   ·exact ho1 p q h1 (by omega) hq
  by_cases hj0 : 0 < j
  ·have hw : IntKind.i64.wrap ((j : Int) - 1) = ((j - 1 : Nat) : Int) := wrapm1 _ hj0 (by omega)
   simp only [hw]
   rw [decide_eq_true (by omega), chk_true (by intro _; omega), chk_true (by intro _; omega), callG_true, fit1_eq, call_some, Bool.true_and, cmpB_lt]
   simp only [Int.toNat_natCast]
   by_cases hc : kAt o1 j < kAt o1 (j - 1)
   ·rw [decide_eq_true hc, cond_true, chk_true (by omega), chk_true (by omega), chk_true (by omega), chk_true (by simp only [List.length_set]; omega)]
    refine hnx1 _ ⟨j - 1, rfl, by omega, by simpa using hl1, fun x hx => ?_, fun p q h1 h2 h3 => ?_⟩ (by simp only; omega)
    ·rcases List.mem_or_eq_of_mem_set hx with hx | rfl
     ·rcases List.mem_or_eq_of_mem_set hx with hx | rfl
      ·exact hs1 x hx
      ·exact hs1 _ (getD_mem _ _ _ (by omega))
     ·exact hs1 _ (getD_mem _ _ _ (by omega))
    ·have hset : ∀ p, kAt ((o1.set j (o1.getD (j - 1) (api_Setting.mk [] []))).set (j - 1) (o1.getD j (api_Setting.mk [] []))) p = if p = j - 1 then kAt o1 j else if p = j then kAt o1 (j - 1) else kAt o1 p := by
      intro p
      unfold kAt
      rw [getD_set _ _ _ _ _ (by simp only [List.length_set]; omega), getD_set _ _ _ _ _ (by omega)]
      by_cases e1 : j - 1 = p
      ·rw [if_pos e1, if_pos e1.symm]
      ·have e1' : ¬ p = j - 1 := fun e => e1 e.symm
       rw [if_neg e1, if_neg e1']
       by_cases e2 : j = p
       ·rw [if_pos e2, if_pos e2.symm]
       ·have e2' : ¬ p = j := fun e => e2 e.symm
        rw [if_neg e2, if_neg e2']
     show ¬ kAt ((o1.set j (o1.getD (j - 1) (api_Setting.mk [] []))).set (j - 1) (o1.getD j (api_Setting.mk [] []))) q < kAt ((o1.set j (o1.getD (j - 1) (api_Setting.mk [] []))).set (j - 1) (o1.getD j (api_Setting.mk [] []))) p
     rw [hset, hset, if_neg h3]
     by_cases hq : q = j
     ·subst hq
      rw [if_pos rfl]
      by_cases hp : p = q - 1
      ·rw [if_pos hp]; exact slt_asymm hc
      ·rw [if_neg hp, if_neg (by omega)]
       exact ho1 p (q - 1) (by omega) (by omega) (by omega)
     ·rw [if_neg hq]
      by_cases hp : p = j - 1
      ·rw [if_pos hp]
       exact ho1 j q (by omega) h2 hq
      ·rw [if_neg hp]
       by_cases hp2 : p = j
       ·rw [if_pos hp2]
        exact ho1 (j - 1) q (by omega) h2 hq
       ·rw [if_neg hp2]
        exact ho1 p q h1 h2 hq
   ·rw [decide_eq_false hc, cond_false]
    exact hend (.inr hc)
  ·rw [decide_eq_false (by omega), chk_true (by intro h; cases h), chk_true (by intro h; cases h), callG_false, Bool.false_and, cond_false]
   exact hend (.inl (by omega))
 ·rw [decide_eq_false (by omega), cond_false]
  exact ⟨_, rfl, hl, hs, fun p q h1 h2 => ho p q h1 (by omega) (by omega)⟩
theorem insSort20 (o : List api_Setting) : slices_insertionSortCmpFunc_api_Setting_i1 20 20 o = some o := by
 unfold slices_insertionSortCmpFunc_api_Setting_i1
 obtain ⟨N, hN⟩ : ∃ N, Fuel = N + 1 := ⟨1099511627775, rfl⟩
 rw [hN]
 unfold loopN
 rfl
theorem loopOnce {Z S : Type} {f : S → (S → Option Z) → (S → Option Z) → Option Z} {k : S → Option Z} {s : S} (h : ∀ nx, f s nx k = k s) : loopN Fuel f s k = k s := by
 obtain ⟨N, hN⟩ : ∃ N, Fuel = N + 1 := ⟨1099511627775, rfl⟩
 rw [hN]
 unfold loopN
 exact h _
theorem sortStable (o0 : List api_Setting) (hn : o0.length ≤ 20) : Ends (slices_SortStableFunc_api_Setting_api_Setting_i1 o0) (Sorted o0) := by
 unfold slices_SortStableFunc_api_Setting_api_Setting_i1 slices_stableCmpFunc_api_Setting_i1
 refine Ends.call (Q := Sorted o0) ?_ fun x hx => ⟨x, rfl, hx⟩
 rw [jp_eq]
 by_cases h20 : o0.length = 20
 ·obtain ⟨o, e, ho⟩ := insSort o0 (by omega)
  rw [h20] at e ⊢
  have e' : slices_insertionSortCmpFunc_api_Setting_i1 0 20 o0 = some o := e
  refine loopN_exF (fun st : Int × Int × List api_Setting => (st = (0, 20, o0)) ∨ st = (20, 40, o)) (fun st => 40 - st.2.1.toNat) ?_ _ (.inl rfl) (by simp only; omega)
  rintro st nx (rfl | rfl) hnx
  ·simp only
   rw [decide_eq_true (by omega), cond_true, e', call_some]
   exact hnx _ (.inr rfl) (show 40 - (IntKind.i64.wrap (20 + 20)).toNat < 40 - (20 : Int).toNat by decide)
  ·simp only
   rw [decide_eq_false (by omega), cond_false]
   refine Ends.call (Q := fun x => x = o) ⟨o, insSort20 o, rfl⟩ ?_
   rintro x rfl
   rw [loopOnce (fun nx => by simp only; rw [decide_eq_false (by omega), cond_false])]
   exact ⟨_, rfl, ho⟩
 ·refine loopN_exF (fun st : Int × Int × List api_Setting => st = (0, 20, o0)) (fun st => 0) ?_ _ rfl (by omega)
  rintro st nx rfl hnx
  simp only
  rw [decide_eq_false (by omega), cond_false]
  refine Ends.call (insSort o0 (by omega)) fun o ho => ?_
  rw [loopOnce (fun nx => by simp only; rw [decide_eq_false (by omega), cond_false])]
  exact ⟨_, rfl, ho⟩
def cutL (z : Nat × Nat × List api_Setting) : List api_Setting := List.take z.2.1 (List.drop z.1 z.2.2)
structure Compacted (o : List api_Setting) (z : Nat × Nat × List api_Setting) : Prop where
 len : (cutL z).length ≤ o.length
 sub : ∀ x ∈ cutL z, x ∈ o
 srt : Srt (·.Key) (cutL z)
theorem fit2_eq (a b : api_Setting) : Law_fit_2 a b = some (decide (a.Key = b.Key)) := rfl
theorem srt_of_at {l : List api_Setting} (h : ∀ p q, p < q → q < l.length → kAt l p < kAt l q) : Srt (·.Key) l := by
 unfold Srt
 rw [List.pairwise_iff_getElem]
 intro i j hi hj hij
 have := h i j hij hj
 simpa [kAt, List.getD_eq_getElem?_getD, hi, hj] using this
theorem kAt_take {o : List api_Setting} {n p : Nat} (h : p < n) : kAt (o.take n) p = kAt o p := by
 simp [kAt, List.getD_eq_getElem?_getD, List.getElem?_take, h]
theorem compact (o : List api_Setting) (hl : o.length ≤ 1073741824) (ho : ∀ p q, p < q → q < o.length → ¬ kAt o q < kAt o p) :
  Ends (slices_CompactFunc_api_Setting_api_Setting_i1 o) (Compacted o) := by
 unfold slices_CompactFunc_api_Setting_api_Setting_i1
 have h0 : List.take o.length o = o := by simp
 rw [h0]
 by_cases h2 : (o.length : Int) < 2
 ·rw [decide_eq_true h2, cond_true]
  refine ⟨_, rfl, ?_, ?_, ?_⟩
  ·simp [cutL]
  ·intro x hx; simpa [cutL] using hx
  ·refine srt_of_at fun p q hp hq => ?_
   simp [cutL] at hq
   omega
 ·rw [decide_eq_false h2, cond_false, jp_eq]
  refine loopN_exF (fun k : Int => ∃ i : Nat, k = i ∧ 1 ≤ i ∧ i ≤ o.length ∧ ∀ p q, p < q → q < i → kAt o p < kAt o q) (fun k => o.length - k.toNat) ?_ _ ⟨1, rfl, Nat.le_refl _, by omega, fun p q h1 h2 => by omega⟩ (by omega)
  rintro k' nx ⟨K0, rfl, hK1, hK2, hK⟩ hnx
  by_cases hlt : K0 < o.length
  ·have hw : IntKind.i64.wrap ((K0 : Int) - 1) = ((K0 - 1 : Nat) : Int) := wrapm1 _ hK1 (by omega)
   simp only [hw, Int.toNat_natCast, Nat.zero_add]
   rw [decide_eq_true (by omega), cond_true, jp_eq, chk_true (by omega), chk_true (by omega), fit2_eq, call_some]
   by_cases he : kAt o K0 = kAt o (K0 - 1)
   ·rw [decide_eq_true he, cond_true, chk_true (by omega), jp_eq]
    refine loopN_exF (fun st : Int × Int × List api_Setting => ∃ k k2 : Nat, st.1 = k ∧ st.2.1 = k2 ∧ K0 ≤ k ∧ 1 ≤ k2 ∧ k + 1 ≤ K0 + k2 ∧ K0 + k2 ≤ o.length ∧ st.2.2.length = o.length ∧ (∀ x ∈ st.2.2, x ∈ o) ∧
      (∀ p, K0 + k2 ≤ p + 1 → kAt st.2.2 p = kAt o p ∧ st.2.2.getD p (api_Setting.mk [] []) = o.getD p (api_Setting.mk [] [])) ∧ (∀ p q, p < q → q < k → kAt st.2.2 p < kAt st.2.2 q) ∧ kAt st.2.2 (k - 1) = kAt o (K0 + k2 - 1)) (fun st => o.length - st.2.1.toNat) ?_ _
     ⟨K0, 1, rfl, rfl, Nat.le_refl _, Nat.le_refl _, Nat.le_refl _, by omega, rfl, fun _ h => h, fun _ _ => ⟨rfl, rfl⟩, hK, by simpa using he.symm⟩ (by simp only; omega)
    rintro ⟨ki, k2i, o1⟩ nx1 ⟨k, k2, rfl, rfl, q1, q2, q3, q4, q5, q6, q7, q8, q9⟩ hnx1
    simp only at q5 q6 q7 q8 q9 hnx1 ⊢
    have hlen : (List.take (o.length - K0) (List.drop K0 o1)).length = o.length - K0 := by simp [q5]
    by_cases hk2 : K0 + k2 < o.length
    ·have hw2 : IntKind.i64.wrap ((k2 : Int) - 1) = ((k2 - 1 : Nat) : Int) := wrapm1 _ q2 (by omega)
     simp only [hw2, Int.toNat_natCast]
     rw [decide_eq_true (by omega), cond_true, chk_true (by omega), chk_true (by omega), chk_true (by omega), chk_true (by omega), fit2_eq, call_some]
     have e1 : K0 + (k2 - 1) = K0 + k2 - 1 := by omega
     have r1 := (q7 (K0 + k2) (by omega)).1
     have r2 := (q7 (K0 + k2 - 1) (by omega)).1
     have hdec : decide ((api_Setting.mk ((o1.getD (K0 + k2) (api_Setting.mk [] [])).Key) ((o1.getD (K0 + k2) (api_Setting.mk [] [])).Value)).Key = (api_Setting.mk ((o1.getD (K0 + (k2 - 1)) (api_Setting.mk [] [])).Key) ((o1.getD (K0 + (k2 - 1)) (api_Setting.mk [] [])).Value)).Key) = decide (kAt o (K0 + k2) = kAt o (K0 + k2 - 1)) := by
      simp only [e1]
      show decide (kAt o1 (K0 + k2) = kAt o1 (K0 + k2 - 1)) = _
      rw [r1, r2]
     rw [hdec]
     by_cases heq : kAt o (K0 + k2) = kAt o (K0 + k2 - 1)
     ·rw [decide_eq_true heq, Bool.not_true, cond_false, wrap1 k2 (by omega)]
      refine hnx1 _ ⟨k, k2 + 1, rfl, rfl, q1, by omega, by omega, by omega, q5, q6, fun p hp => q7 p (by omega), q8, ?_⟩ (by simp only; omega)
      simp only
      rw [q9, show K0 + (k2 + 1) - 1 = K0 + k2 by omega, heq]
     ·rw [decide_eq_false heq, Bool.not_false, cond_true, chk_true (by omega), chk_true (by omega), chk_true (by omega), chk_true (by omega), wrap1 k2 (by omega), wrap1 k (by omega)]
      have hgt : kAt o (K0 + k2 - 1) < kAt o (K0 + k2) := by
       rcases slt_tri (kAt o (K0 + k2 - 1)) (kAt o (K0 + k2)) with h | h | h
       ·exact h
       ·exact absurd h.symm heq
       ·exact absurd h (ho _ _ (by omega) (by omega))
      have hset : ∀ p, (o1.set k (api_Setting.mk ((o1.getD (K0 + k2) (api_Setting.mk [] [])).Key) ((o1.getD (K0 + k2) (api_Setting.mk [] [])).Value))).getD p (api_Setting.mk [] []) = if k = p then o1.getD (K0 + k2) (api_Setting.mk [] []) else o1.getD p (api_Setting.mk [] []) := by
       intro p
       rw [getD_set _ _ _ _ _ (by omega)]
      refine hnx1 _ ⟨k + 1, k2 + 1, rfl, rfl, by omega, by omega, by omega, by omega, by simpa using q5, fun x hx => ?_, fun p hp => ?_, fun p q hp hq => ?_, ?_⟩ (by simp only; omega)
      ·rcases List.mem_or_eq_of_mem_set hx with hx | rfl
       ·exact q6 x hx
       ·exact q6 _ (getD_mem _ _ _ (by omega))
      ·simp only [kAt, hset]
       rw [if_neg (by omega)]
       exact q7 p (by omega)
      ·simp only [kAt, hset]
       rw [if_neg (by omega)]
       by_cases hqk : q = k
       ·subst hqk
        rw [if_pos rfl]
        show kAt o1 p < kAt o1 (K0 + k2)
        rw [r1]
        by_cases hpk : p = q - 1
        ·subst hpk; rw [q9]; exact hgt
        ·have := q8 p (q - 1) (by omega) (by omega)
         rw [q9] at this
         exact slt_trans this hgt
       ·rw [if_neg (fun e => hqk e.symm)]
        exact q8 p q hp (by omega)
      ·simp only [kAt, hset]
       rw [if_pos (by omega)]
       show kAt o1 (K0 + k2) = kAt o (K0 + (k2 + 1) - 1)
       rw [r1]; rfl
    ·rw [decide_eq_false (by omega), cond_false, chk_true (by omega), chk_true (by omega)]
     have hcut : cutL (0, k, List.take k o1 ++ List.replicate (o.length - k) (api_Setting.mk [] []) ++ List.drop (k + (o.length - k)) o1) = o1.take k := by
      unfold cutL
      simp only [List.drop_zero, List.append_assoc]
      rw [List.take_append_of_le_length (by simp only [List.length_take]; omega), List.take_take, Nat.min_self]
     refine ⟨_, rfl, ?_, ?_, ?_⟩
     ·show (cutL (0, k, _)).length ≤ _
      rw [Int.toNat_natCast, hcut, List.length_take]; omega
     ·show ∀ x ∈ cutL (0, k, _), _
      rw [Int.toNat_natCast, hcut]
      exact fun x hx => q6 x (List.mem_of_mem_take hx)
     ·show Srt _ (cutL (0, k, _))
      rw [Int.toNat_natCast, hcut]
      refine srt_of_at fun p q hp hq => ?_
      rw [List.length_take] at hq
      rw [kAt_take (by omega), kAt_take (by omega)]
      exact q8 p q hp (by omega)
   ·rw [decide_eq_false he, cond_false, wrap1 K0 (by omega)]
    refine hnx _ ⟨K0 + 1, rfl, by omega, by omega, fun p q h1 h2 => ?_⟩ (by omega)
    have hgt : kAt o (K0 - 1) < kAt o K0 := by
     rcases slt_tri (kAt o (K0 - 1)) (kAt o K0) with h | h | h
     ·exact h
     ·exact absurd h.symm he
     ·exact absurd h (ho _ _ (by omega) (by omega))
    by_cases hq : q = K0
    ·subst hq
     by_cases hp : p = q - 1
     ·subst hp; exact hgt
     ·exact slt_trans (hK p (q - 1) (by omega) (by omega)) hgt
    ·exact hK p q h1 (by omega)
  ·rw [decide_eq_false (by omega), cond_false]
   refine ⟨_, rfl, ?_, ?_, ?_⟩
   ·simp [cutL]
   ·intro x hx; simpa [cutL] using hx
   ·have e0 : cutL (0, o.length, o) = o := by simp [cutL]
    show Srt _ (cutL (0, o.length, o))
    rw [e0]
    exact srt_of_at fun p q hp hq => hK p q hp (by omega)
structure Fw (a b d : Nat) (M : api_Machine) : Prop where
 good : Good M
 facts : M.Facts.length ≤ 20
 files : M.Files.length ≤ a
 data : ∀ f ∈ M.Files, f.Data.length ≤ 3000
 sets : M.Settings.length ≤ b
 svcs : M.Services.length ≤ d
def chPut (f : api_File) : api_Change := ⟨1, f, ⟨[], []⟩, ⟨[], [], false, false⟩⟩
def chSet (s : api_Setting) : api_Change := ⟨3, ⟨[], [], false⟩, s, ⟨[], [], false, false⟩⟩
def chSvc (s : api_Service) : api_Change := ⟨5, ⟨[], [], false⟩, ⟨[], []⟩, s⟩
theorem fit3_eq (c : api_Change) (hc : SmC c) (M : api_Machine) (h : Good M) : Law_fit_3_i2 c M.Facts M.Files M.Settings M.Services = some (bif decide ((stepM c M).1 = 0) then ((stepM c M).2.Facts, (stepM c M).2.Files, (stepM c M).2.Settings, (stepM c M).2.Services) else (M.Facts, M.Files, M.Settings, M.Services)) := by
 unfold Law_fit_3_i2
 rw [R_Apply_eq _ h.fit [c] (fun x hx => by rcases List.mem_cons.1 hx with rfl | hx; exact hc; cases hx), call_some]
 unfold applyM
 rw [decide_eq_true ((good_iff M).2 h), Bool.not_true, cond_false]
 unfold stepsM stepsM
 by_cases h0 : (stepM c M).1 = 0
 ·rw [decide_eq_true h0]; rfl
 ·rw [decide_eq_false h0]
  simp only [Bool.not_false, cond_true]
  rw [decide_eq_false h0]; rfl
section
variable {a b d : Nat} {M : api_Machine}
theorem Fw.next (h : Fw a b d M) (c : api_Change) : Good (stepM c M).2 ∧ (stepM c M).2.Facts.length ≤ 20 := ⟨good_step h.good c, by rw [step_facts]; exact h.facts⟩
theorem step_put (f : api_File) (M : api_Machine) : (stepM (chPut f) M).2 = M ∨ (stepM (chPut f) M).2 = ⟨M.Facts, ins (·.Path) f M.Files, M.Settings, M.Services⟩ := by
 unfold stepM
 have hk : (chPut f).Kind = 1 := rfl
 rw [hk]
 simp only [kindEqs, decide_true, cond_true, cond_false]
 cases !decide (eCh (chPut f) = 0)
 ·cases M.Files.any (clash (chPut f).File.Path)
  ·cases !(lkF M.Files (chPut f).File.Path).isSome && decide (2000 ≤ (M.Files.length : Int))
   ·exact .inr rfl
   ·exact .inl rfl
  ·exact .inl rfl
 ·exact .inl rfl
theorem step_set (f : api_Setting) (M : api_Machine) : (stepM (chSet f) M).2 = M ∨ (stepM (chSet f) M).2 = ⟨M.Facts, M.Files, ins (·.Key) f M.Settings, M.Services⟩ := by
 unfold stepM
 have hk : (chSet f).Kind = 3 := rfl
 rw [hk]
 simp only [kindEqs, decide_true, cond_true, cond_false]
 cases !decide (eCh (chSet f) = 0)
 ·cases !(lkS M.Settings (chSet f).Setting.Key).isSome && decide (2000 ≤ (M.Settings.length : Int))
  ·exact .inr rfl
  ·exact .inl rfl
 ·exact .inl rfl
theorem step_svc (f : api_Service) (M : api_Machine) : (stepM (chSvc f) M).2 = M ∨ (stepM (chSvc f) M).2 = ⟨M.Facts, M.Files, M.Settings, ins (·.Name) f M.Services⟩ := by
 unfold stepM
 have hk : (chSvc f).Kind = 5 := rfl
 rw [hk]
 simp only [kindEqs, decide_true, cond_true, cond_false]
 cases !decide (eCh (chSvc f) = 0)
 ·cases !(lkV M.Services (chSvc f).Service.Name).isSome && decide (100 ≤ (M.Services.length : Int))
  ·exact .inr rfl
  ·exact .inl rfl
 ·exact .inl rfl
theorem Fw.put (h : Fw a b d M) (f : api_File) (hf : f.Data.length ≤ 3000) : Fw (a + 1) b d (stepM (chPut f) M).2 := by
 obtain ⟨h1, h2⟩ := h.next (chPut f)
 rcases step_put f M with e | e <;> rw [e] at h1 h2 ⊢
 ·exact ⟨h1, h2, by have := h.files; omega, h.data, h.sets, h.svcs⟩
 ·refine ⟨h1, h2, ?_, fun x hx => ?_, h.sets, h.svcs⟩
  ·have := h.files
   show (ins (fun x : api_File => x.Path) f M.Files).length ≤ _
   rw [len_ins h.good.g2]
   split <;> omega
  ·rcases mem_ins.1 hx with rfl | ⟨hx, _⟩
   ·exact hf
   ·exact h.data x hx
theorem Fw.set (h : Fw a b d M) (f : api_Setting) : Fw a (b + 1) d (stepM (chSet f) M).2 := by
 obtain ⟨h1, h2⟩ := h.next (chSet f)
 rcases step_set f M with e | e <;> rw [e] at h1 h2 ⊢
 ·exact ⟨h1, h2, h.files, h.data, by have := h.sets; omega, h.svcs⟩
 ·refine ⟨h1, h2, h.files, h.data, ?_, h.svcs⟩
  have := h.sets
  show (ins (fun x : api_Setting => x.Key) f M.Settings).length ≤ _
  rw [len_ins h.good.s2]
  split <;> omega
theorem Fw.svc (h : Fw a b d M) (f : api_Service) : Fw a b (d + 1) (stepM (chSvc f) M).2 := by
 obtain ⟨h1, h2⟩ := h.next (chSvc f)
 rcases step_svc f M with e | e <;> rw [e] at h1 h2 ⊢
 ·exact ⟨h1, h2, h.files, h.data, h.sets, by have := h.svcs; omega⟩
 ·refine ⟨h1, h2, h.files, h.data, h.sets, ?_⟩
  have := h.svcs
  show (ins (fun x : api_Service => x.Name) f M.Services).length ≤ _
  rw [len_ins h.good.v2]
  split <;> omega
end
abbrev M4 := List api_Setting × List api_File × List api_Setting × List api_Service
def m4 (M : api_Machine) : M4 := (M.Facts, M.Files, M.Settings, M.Services)
theorem fit3_few {a b d : Nat} {M : api_Machine} (h : Fw a b d M) {c : api_Change} (hc : SmC c) {a' b' d' : Nat} (hn : Fw a' b' d' (stepM c M).2) (ha : a ≤ a') (hb : b ≤ b') (hd : d ≤ d') :
  Ends (Law_fit_3_i2 c M.Facts M.Files M.Settings M.Services) fun r => ∃ N, r = m4 N ∧ Fw a' b' d' N := by
 refine ⟨_, fit3_eq c hc M h.good, ?_⟩
 cases decide ((stepM c M).1 = 0)
 ·exact ⟨M, rfl, h.good, h.facts, Nat.le_trans h.files ha, h.data, Nat.le_trans h.sets hb, Nat.le_trans h.svcs hd⟩
 ·exact ⟨_, rfl, hn⟩
theorem putLoop {Z α : Type} {P : Z → Prop} {f : Nat → α → M4 → (M4 → Option Z) → (M4 → Option Z) → Option Z} {k : M4 → Option Z} (F : Nat → api_Machine → Prop) (n0 : Nat) (Q : α → Prop)
  (hk : ∀ n M, n ≤ n0 → F n M → Ends (k (m4 M)) P) (hf : ∀ i x nx k n M, Q x → F n M → (∀ N, F (n + 1) N → Ends (nx (m4 N)) P) → Ends (f i x (m4 M) nx k) P) (l : List α) (hl : l.length ≤ n0) (hq : ∀ x ∈ l, Q x) {M : api_Machine} (hM : F 0 M) :
  Ends (forL l 0 f (m4 M) k) P := by
 refine forL_ex (fun i r st => ∃ M, st = m4 M ∧ F i M ∧ (∀ x ∈ r, Q x) ∧ i + r.length = l.length) (fun i s h => ?_) (fun i x r s nx h hnx => ?_) l 0 _ ⟨M, rfl, hM, hq, by omega⟩
 ·obtain ⟨M, rfl, h1, _, h2⟩ := h
  exact hk i M (by simp at h2; omega) h1
 ·obtain ⟨M, rfl, h1, h2, h3⟩ := h
  exact hf i x nx k i M (h2 x (List.mem_cons_self ..)) h1 fun N hN => hnx _ ⟨N, rfl, hN, fun y hy => h2 y (List.mem_cons_of_mem _ hy), by simp only [List.length_cons] at h3; omega⟩
theorem fit_ends (m : api_Machine) (hm : Fit m) : Ends (Law_fit m) (Fw 40 40 40) := by
 have hm1 := hm.facts
 have hm2 := hm.files
 have hm3 := hm.sets
 have hm4 := hm.svcs
 unfold Law_fit
 rw [jp_eq]
 refine forL_ex (fun i r o => o.length ≤ 20 ∧ o.length ≤ i ∧ i + r.length = m.Facts.length ∧ ∀ x ∈ o, eFact x = 0) (fun i o h => ?_) (fun i x r o nx h hnx => ?_) m.Facts 0 [] ⟨by simp, by simp, by simp, by simp⟩
 ·obtain ⟨h1, _, _, h2⟩ := h
  refine Ends.call (sortStable o h1) fun o1 hs => ?_
  refine Ends.call (compact o1 (by have := hs.len; omega) hs.ord) fun z hz => ?_
  have hz1 := hz.len
  have hz2 := hs.len
  have hF : Fw 0 0 0 ⟨cutL z, [], [], []⟩ := by
   refine ⟨⟨by simp only; omega, by simp, by simp, by simp, fun x hx => h2 x (hs.sub x (hz.sub x hx)), hz.srt, by simp, by simp [Srt], by simp, by simp, by simp [Srt], by simp, by simp [Srt]⟩, by simp only; omega, by simp, by simp, by simp, by simp⟩
  rw [jp_eq, chk_true (by omega)]
  refine putLoop (F := fun n M => Fw n 0 0 M) (n0 := 40) (Q := fun f : api_File => Sm f.Path) (fun n M hn hM => ?_) (fun i f nx k n M hf hM hnx => ?_) _ (by simp only [List.length_take]; omega) (fun x hx => hm.fp x (List.mem_of_mem_take hx)) hF
  ·have hM40 : Fw 40 0 0 M := ⟨hM.good, hM.facts, Nat.le_trans hM.files hn, hM.data, hM.sets, hM.svcs⟩
   show Ends (jp _ _) _
   rw [jp_eq, chk_true (by omega)]
   refine putLoop (F := fun n M => Fw 40 n 0 M) (n0 := 40) (Q := fun f : api_Setting => Sm f.Key) (fun n M hn hM => ?_) (fun i f nx k n M hf hM hnx => ?_) _ (by simp only [List.length_take]; omega) (fun x hx => hm.sp x (List.mem_of_mem_take hx)) hM40
   ·have hM40 : Fw 40 40 0 M := ⟨hM.good, hM.facts, hM.files, hM.data, Nat.le_trans hM.sets hn, hM.svcs⟩
    show Ends (jp _ _) _
    rw [jp_eq, chk_true (by omega)]
    refine putLoop (F := fun n M => Fw 40 40 n M) (n0 := 40) (Q := fun f : api_Service => Sm f.Path) (fun n M hn hM => ?_) (fun i f nx k n M hf hM hnx => ?_) _ (by simp only [List.length_take]; omega) (fun x hx => hm.vp x (List.mem_of_mem_take hx)) hM40
    ·exact ⟨_, rfl, hM.good, hM.facts, hM.files, hM.data, hM.sets, Nat.le_trans hM.svcs hn⟩
    ·show Ends (call _ _) _
     refine Ends.call (fit3_few hM (c := chSvc f) ⟨by simp [Sm, chSvc], by simp [Sm, chSvc], hf⟩ (hM.svc f) (Nat.le_refl _) (Nat.le_refl _) (Nat.le_succ _)) ?_
     rintro r ⟨N, rfl, hN⟩
     exact hnx N hN
   ·show Ends (call _ _) _
    refine Ends.call (fit3_few hM (c := chSet f) ⟨by simp [Sm, chSet], hf, by simp [Sm, chSet]⟩ (hM.set f) (Nat.le_refl _) (Nat.le_succ _) (Nat.le_refl _)) ?_
    rintro r ⟨N, rfl, hN⟩
    exact hnx N hN
  ·show Ends (chk _ _) _
   rw [chk_true (by omega)]
   have hN : Fw (n + 1) 0 0 _ := hM.put ⟨f.Path, List.take ((min (f.Data.length : Int) 3000).toNat) f.Data, f.Runs⟩ (by simp only [List.length_take]; omega)
   refine Ends.call (fit3_few hM (c := chPut ⟨f.Path, List.take ((min (f.Data.length : Int) 3000).toNat) f.Data, f.Runs⟩) ⟨hf, by simp [Sm, chPut], by simp [Sm, chPut]⟩ hN (Nat.le_succ _) (Nat.le_refl _) (Nat.le_refl _)) ?_
   rintro r ⟨N, rfl, hN⟩
   exact hnx N hN
 ·obtain ⟨h1, h2, h3, h4⟩ := h
  simp only [List.length_cons] at h3
  rw [R_IsName_eq, R_IsValue_eq, call_some, callG_some]
  cases hb : (nameOk x.Key && (bif nameOk x.Key then valueOk x.Value else false)) && decide ((o.length : Int) < 20)
  ·exact hnx _ ⟨h1, by omega, by omega, h4⟩
  ·simp only [Bool.and_eq_true, decide_eq_true_eq] at hb
   obtain ⟨⟨hb1, hb2⟩, hb3⟩ := hb
   rw [hb1, cond_true] at hb2
   rw [cond_true, chk_true (by simp only [List.length_append, List.length_cons, List.length_nil]; omega)]
   refine hnx _ ⟨by simp only [List.length_append, List.length_cons, List.length_nil]; omega, by simp only [List.length_append, List.length_cons, List.length_nil]; omega, by omega, fun y hy => ?_⟩
   rcases List.mem_append.1 hy with hy | hy
   ·exact h4 y hy
   ·simp at hy
    subst hy
    unfold eFact
    rw [hb1, hb2]; rfl
theorem landed_eq : Law_landed = some true := by
 unfold Law_landed
 rw [ver_IsName_eq]; rfl
theorem disk_Quote_eq (s : Str) (hs : s.length ≤ 17179869184) : disk_Quote s = some (quoteS s) := by
 unfold disk_Quote
 have hw : IntKind.i64.wrap ((s.length : Int) + 2) = ((s.length + 2 : Nat) : Int) := by rw [wrapS (by omega) (by omega)]; rfl
 simp only [hw, jp_eq]
 rw [chk_true (by omega), chk_true (by simp)]
 refine (forL_run (fun i l (o : List Int) => o.length + 4 * l.length ≤ 4 * s.length + 1) (fun i l o => some (Go.Vc.strOf o ++ (body l ++ [34]))) (fun i o h => ?_) (fun i c l o nx h hnx => ?_) s 0 _ ?_).trans ?_
 ·simp only [List.length_nil] at h
  rw [chk_true (by simp; omega), strOf_append]
  rfl
 ·simp only [List.length_cons] at h
  rw [body_cons]
  unfold esc isEsc
  cases h1 : decide ((c.toNat : Int) = 92) || decide ((c.toNat : Int) = 34) with
  | true =>
   simp only [cond_true]
   rw [chk_true (by simp; omega), hnx _ (by simp; omega), strOf_append]
   simp only [strOf_cons, strOf_nil, u8i]
   simp
  | false =>
   simp only [cond_false]
   cases h2 : decide ((c.toNat : Int) = 10) with
   | true =>
    simp only [cond_true]
    rw [chk_true (by simp; omega), hnx _ (by simp; omega), strOf_append]
    simp [strOf_cons, strOf_nil]
   | false =>
    simp only [cond_false]
    unfold isFar
    cases h3 : decide ((c.toNat : Int) < 32) || decide (126 < (c.toNat : Int)) with
    | true =>
     simp only [cond_true, hi4, lo4]
     rw [show ([48, 49, 50, 51, 52, 53, 54, 55, 56, 57, 97, 98, 99, 100, 101, 102] : Str) = HX from rfl, hx_idx _ (hi4_lt c), hx_idx _ (lo4_lt c), chk_true (by simp; omega), hnx _ (by simp; omega), strOf_append]
     simp only [strOf_cons, strOf_nil, u8i]
     simp
    | false =>
     simp only [cond_false]
     rw [chk_true (by simp; omega), hnx _ (by simp; omega), strOf_append]
     simp only [strOf_cons, strOf_nil, u8i]
     simp
 ·simp; omega
 ·simp only [List.replicate, List.nil_append, strOf_cons, strOf_nil]
  rfl
theorem same_loop {α : Type} (l : List α) (q : α → α → Bool) (hq : ∀ x, q x x = true) : ∀ (r : List α) (i : Nat), l.drop i = r → forL r i (fun i x (_ : Unit) nx (_ : Unit → Option Bool) => idx l (i : Int) fun y => bif !q x y then some false else nx ()) () (fun _ => some true) = some true
 | [], i, _ => rfl
 | x :: r, i, hd => by
  have hi : i < l.length := by
   rcases Nat.lt_or_ge i l.length with h | h
   ·exact h
   ·rw [List.drop_eq_nil_of_le h] at hd; cases hd
  have hx : l[i] = x := by
   have := List.drop_eq_getElem_cons hi
   rw [hd] at this
   exact (List.cons.inj this).1.symm
  have hd' : l.drop (i + 1) = r := by
   have := congrArg List.tail hd
   simpa using this
  unfold forL
  simp only [idx_eq hi, hx, hq, Bool.not_true, cond_false]
  exact same_loop l q hq r (i + 1) hd'
theorem same_set (l : List api_Setting) : slices_Equal_api_Setting_api_Setting l l = some true := by
 unfold slices_Equal_api_Setting_api_Setting
 rw [decide_eq_true rfl]
 exact same_loop l (fun a b => decide (a.Key = b.Key) && decide (a.Value = b.Value)) (fun x => by simp) l 0 rfl
theorem same_file (l : List api_File) : slices_Equal_api_File_api_File l l = some true := by
 unfold slices_Equal_api_File_api_File
 rw [decide_eq_true rfl]
 exact same_loop l (fun a b => decide (a.Path = b.Path) && (decide (a.Data = b.Data) && decide (a.Runs = b.Runs))) (fun x => by simp) l 0 rfl
theorem same_svc (l : List api_Service) : slices_Equal_api_Service_api_Service l l = some true := by
 unfold slices_Equal_api_Service_api_Service
 rw [decide_eq_true rfl]
 exact same_loop l (fun a b => decide (a.Name = b.Name) && (decide (a.Path = b.Path) && (decide (a.Auto = b.Auto) && decide (a.On = b.On)))) (fun x => by simp) l 0 rfl
theorem same_mach (m : api_Machine) : R_Same m m = some true := by
 unfold R_Same
 rw [same_set, same_file, same_set, same_svc]
 rfl
theorem wrapU (n : Nat) (h : n < 18446744073709551616) : IntKind.u64.wrap (n : Int) = n := by
 unfold IntKind.wrap
 simp only [IntKind.bits, IntKind.signed, Bool.false_and, Bool.false_eq_true, if_false]
 omega
theorem wrapU_range (n : Int) : ∃ m : Nat, IntKind.u64.wrap n = m ∧ m < 18446744073709551616 := by
 refine ⟨(n % 18446744073709551616).toNat, ?_, by omega⟩
 unfold IntKind.wrap
 simp only [IntKind.bits, IntKind.signed, Bool.false_and, Bool.false_eq_true, if_false]
 omega
theorem shr_eq (n c : Nat) (k : IntKind) (hc : c ≤ k.bits) : Int.fdiv (n : Int) (2 ^ (shI k (c : Int))) = ((n / 2 ^ c : Nat) : Int) := by
 have : shI k (c : Int) = c := by unfold shI; simp; omega
 rw [this, Int.fdiv_eq_ediv_of_nonneg _ (Int.le_of_lt (Int.pow_pos (by decide)))]
 rw [Int.natCast_ediv, Int.natCast_pow]; rfl
theorem and_mask (n c m : Nat) (h : n < 18446744073709551616) (hm : m = 2 ^ c - 1) (hc : c < 64) : bitsI .and .u64 (n : Int) (m : Int) = ((n % 2 ^ c : Nat) : Int) := by
 subst hm
 have h1 : 2 ^ c ≤ 2 ^ 63 := Nat.pow_le_pow_right (by decide) (by omega)
 show IntKind.u64.wrap (((BitVec.ofInt 64 (n : Int) &&& BitVec.ofInt 64 ((2 ^ c - 1 : Nat) : Int)).toNat : Nat) : Int) = _
 rw [BitVec.toNat_and, BitVec.toNat_ofInt, BitVec.toNat_ofInt]
 have e1 : ((n : Int) % ((2 ^ 64 : Nat) : Int)).toNat = n := by omega
 have e2 : (((2 ^ c - 1 : Nat) : Int) % ((2 ^ 64 : Nat) : Int)).toNat = 2 ^ c - 1 := by omega
 rw [e1, e2, Nat.and_two_pow_sub_one_eq_mod]
 exact wrapU _ (Nat.lt_of_le_of_lt (Nat.mod_le _ _) h)
theorem forL_fold {Z S α : Type} (g : S → α → S) (k : S → Option Z) : ∀ (l : List α) (i : Nat) (s : S), forL l i (fun _ c s nx _ => nx (g s c)) s k = k (l.foldl g s)
 | [], _, _ => rfl
 | x :: l, i, s => by
  unfold forL
  exact forL_fold g k l (i + 1) (g s x)
theorem set_map_range {α : Type} (n i : Nat) (f : Nat → α) (v : α) : ((List.range n).map f).set i v = (List.range n).map (fun j => if j = i then v else f j) := by
 apply List.ext_getElem
 ·simp
 ·intro j h1 h2
  simp only [List.getElem_set, List.getElem_map, List.getElem_range]
  by_cases h : i = j
  ·subst h; simp
  ·rw [if_neg h, if_neg (Ne.symm h)]
theorem strOf_map {α : Type} (l : List α) (f : α → UInt8) : Go.Vc.strOf (l.map fun x => ((f x).toNat : Int)) = l.map f := by
 unfold Go.Vc.strOf
 simp
def HXs : Str := [48, 49, 50, 51, 52, 53, 54, 55, 56, 57, 97, 98, 99, 100, 101, 102]
def D36 : Str := [48, 49, 50, 51, 52, 53, 54, 55, 56, 57, 97, 98, 99, 100, 101, 102, 103, 104, 105, 106, 107, 108, 109, 110, 111, 112, 113, 114, 115, 116, 117, 118, 119, 120, 121, 122]
def dg (n : Nat) : UInt8 := HXs.getD n 0
def hx : Nat → Nat → Str
 | 0, _ => []
 | k + 1, n => hx k (n / 16) ++ [dg (n % 16)]
def hashI (h : Int) (c : UInt8) : Int := IntKind.u64.wrap ((bitsI .xor .u64 h (IntKind.u64.wrap (c.toNat : Int))) * 1099511628211)
def hashZ (s : Str) : Int := s.foldl hashI 14695981039346656037
def sumS (s : Str) : Str := hx 16 (hashZ s).toNat
theorem hashZ_nat (s : Str) : ∃ n : Nat, hashZ s = n ∧ n < 18446744073709551616 := by
 have : ∀ (s : Str) (h : Int), (∃ n : Nat, h = n ∧ n < 18446744073709551616) → ∃ n : Nat, s.foldl hashI h = n ∧ n < 18446744073709551616 := by
  intro s
  induction s with
  | nil => exact fun h hh => hh
  | cons c s ih => exact fun h _ => ih _ (wrapU_range _)
 exact this s _ ⟨14695981039346656037, rfl, by decide⟩
theorem dg_d36 : ∀ m : Fin 16, D36.getD m.val 0 = dg m.val := by decide
theorem idx_hx {Z : Type} (m : Nat) (h : m < 16) (k : Int → Option Z) : idxS HXs (m : Int) k = k ((dg m).toNat : Int) := by
 rw [idxS_eq (by simpa [HXs] using h)]
 simp only [dg, List.getD_eq_getElem?_getD, List.getElem?_eq_getElem (show m < HXs.length by simpa [HXs] using h), Option.getD_some]
theorem idx_d36 {Z : Type} (m : Nat) (h : m < 16) (k : Int → Option Z) : idxS D36 (m : Int) k = k ((dg m).toNat : Int) := by
 have hl : m < D36.length := by simp [D36]; omega
 rw [idxS_eq hl, ← dg_d36 ⟨m, h⟩]
 simp only [List.getD_eq_getElem?_getD, List.getElem?_eq_getElem hl, Option.getD_some]
theorem hx16 (n : Nat) : (List.range 16).map (fun j => dg (n / 2 ^ (60 - 4 * j) % 16)) = hx 16 n := by
 simp only [hx, List.range, List.range.loop, List.map_cons, List.map_nil, Nat.div_div_eq_div_mul, List.nil_append, List.cons_append]
 simp
theorem disk_SumOf_eq (s : Str) : disk_SumOf s = some (sumS s) := by
 obtain ⟨n, hn, hlt⟩ := hashZ_nat s
 unfold disk_SumOf
 obtain ⟨N, hN⟩ : ∃ N, Fuel = N := ⟨_, rfl⟩
 have hF : 1099511627776 ≤ N := hN ▸ fuel_ge
 rw [hN]
 show forL s 0 (fun _ c h nx _ => nx (hashI h c)) 14695981039346656037 _ = _
 rw [forL_fold]
 show jp _ (fun k_27 => loopN N _ _ _) = _
 rw [show s.foldl hashI 14695981039346656037 = (n : Int) from hn]
 unfold jp
 let arr := fun i : Nat => (List.range 16).map fun j => if j < i then ((dg (n / 2 ^ (60 - 4 * j) % 16)).toNat : Int) else 0
 refine (loopN_run (fun s => ∃ i : Nat, s.1 = (i : Int) ∧ i ≤ 16 ∧ s.2 = arr i) (fun s => 16 - s.1.toNat) (fun _ => some (sumS s)) ?_ N _ ⟨0, rfl, by omega, ?_⟩ (by show 16 - Int.toNat 0 < N; simp; omega)).trans rfl
 ·rintro ⟨t, o⟩ nx ⟨i, h1, hi, h2⟩ hnx
  obtain rfl : t = i := h1
  obtain rfl : o = arr i := h2
  simp only [List.length_replicate]
  by_cases h : i < 16
  ·rw [bif_t (decide_eq_true (by omega))]
   have e1 : IntKind.i64.wrap (60 - IntKind.i64.wrap (4 * (i : Int))) = ((60 - 4 * i : Nat) : Int) := by
    rw [wrapS (n := 4 * (i : Int)) (by omega) (by omega), wrapS (by omega) (by omega)]; omega
   rw [e1, chk_true (by omega), shr_eq _ _ _ (by simp only [IntKind.bits]; omega)]
   rw [show (15 : Int) = ((15 : Nat) : Int) from rfl, and_mask _ 4 15 (Nat.lt_of_le_of_lt (Nat.div_le_self _ _) hlt) (by decide) (by decide)]
   show idxS HXs _ _ = _
   rw [idx_hx _ (Nat.mod_lt _ (by decide)), chk_true (by simp [arr]; omega), wrap1 i (by omega)]
   refine hnx _ ⟨i + 1, rfl, by omega, ?_⟩ ?_
   ·show List.set (arr i) (Int.toNat (i : Int)) _ = _
    rw [Int.toNat_natCast]
    show ((List.range 16).map _).set i _ = (List.range 16).map _
    rw [set_map_range]
    apply List.map_congr_left
    intro j _
    by_cases hj : j = i
    ·subst hj; rw [if_pos rfl, if_pos (by omega)]
    ·rw [if_neg hj]
     by_cases hj' : j < i
     ·rw [if_pos hj', if_pos (by omega)]
     ·rw [if_neg hj', if_neg (by omega)]
   ·show 16 - Int.toNat ((i + 1 : Nat) : Int) < 16 - Int.toNat (i : Int)
    rw [Int.toNat_natCast, Int.toNat_natCast]; omega
  ·rw [bif_f (decide_eq_false (by omega))]
   obtain rfl : i = 16 := by omega
   show some (Go.Vc.strOf (arr 16)) = _
   have : arr 16 = (List.range 16).map fun j => ((dg (n / 2 ^ (60 - 4 * j) % 16)).toNat : Int) := by
    apply List.map_congr_left
    intro j hj
    rw [if_pos (List.mem_range.1 hj)]
   rw [this, strOf_map, hx16]
   unfold sumS
   rw [hn]; rfl
 ·show List.replicate 16 (0 : Int) = _
  apply List.ext_getElem
  ·simp [arr]
  ·intro j h1 h2
   rw [List.getElem_replicate]
   simp only [arr, List.getElem_map, List.getElem_range]
   rfl
def fm : Nat → Nat → Str
 | 0, n => [dg n]
 | k + 1, n => if n < 16 then [dg n] else fm k (n / 16) ++ [dg (n % 16)]
theorem hx_zero : ∀ k : Nat, hx k 0 = List.replicate k 48
 | 0 => rfl
 | k + 1 => by
  show hx k (0 / 16) ++ [dg (0 % 16)] = _
  rw [Nat.zero_div, hx_zero k, List.replicate_succ']; rfl
theorem fm_len : ∀ k n : Nat, 1 ≤ (fm k n).length ∧ (fm k n).length ≤ k + 1
 | 0, n => by simp [fm]
 | k + 1, n => by
  have := fm_len k (n / 16)
  simp only [fm]
  split <;> simp <;> omega
theorem fm_pad : ∀ k n : Nat, n < 16 ^ (k + 1) → List.replicate (k + 1 - (fm k n).length) 48 ++ fm k n = hx (k + 1) n
 | 0, n, h => by
  have : n % 16 = n := Nat.mod_eq_of_lt (by simpa using h)
  simp [fm, hx, this]
 | k + 1, n, h => by
  have hl := fm_len k (n / 16)
  simp only [fm]
  split
  ·rename_i h16
   have e1 : n / 16 = 0 := Nat.div_eq_of_lt h16
   have e2 : n % 16 = n := Nat.mod_eq_of_lt h16
   show _ = hx (k + 1) (n / 16) ++ [dg (n % 16)]
   rw [e1, e2, hx_zero]; rfl
  ·have ih := fm_pad k (n / 16) (by rw [Nat.pow_succ] at h; omega)
   show _ = hx (k + 1) (n / 16) ++ [dg (n % 16)]
   rw [← ih, List.length_append, List.append_assoc]
   congr 2
   simp
theorem tz16 : math_bits_TrailingZeros (IntKind.u64.wrap 16) = some 4 := by decide +kernel
theorem pow16 : internal_strconv_isPowerOfTwo 16 = some true := by decide +kernel
theorem set_drop (l : List Int) (i : Nat) (v : Int) (h : i < l.length) : (l.set i v).drop i = v :: l.drop (i + 1) := by
 rw [List.drop_set]
 simp only [Nat.lt_irrefl, if_false, Nat.sub_self]
 rw [List.drop_eq_getElem_cons h]
 rfl
theorem strOf_cons' (v : UInt8) (l : List Int) : Go.Vc.strOf ((v.toNat : Int) :: l) = v :: Go.Vc.strOf l := by simp [Go.Vc.strOf]
theorem formatBits16 (n : Nat) (h : n < 18446744073709551616) : internal_strconv_formatBits [] (n : Int) 16 false false = some ([], fm 15 n) := by
 unfold internal_strconv_formatBits
 obtain ⟨N, hN⟩ : ∃ N, Fuel = N := ⟨_, rfl⟩
 have hF : 1099511627776 ≤ N := hN ▸ fuel_ge
 rw [hN]
 simp only [pow16, tz16, call_some, jp, cond_true, cond_false, show decide ((16 : Int) < 2) = false from rfl, show decide ((16 : Int) = 10) = false from rfl, show decide ((36 : Int) < 16) = false from rfl, Bool.or_self]
 have hw : IntKind.u64.wrap 16 = 16 := by decide
 have hw4 : IntKind.u64.wrap 4 = ((4 : Nat) : Int) := by decide
 have hw15 : IntKind.u64.wrap (16 - 1) = ((15 : Nat) : Int) := by decide
 rw [hw, hw4, hw15]
 refine (loopN_run (fun s => ∃ m j : Nat, s.1 = (m : Int) ∧ s.2.1 = (j : Int) ∧ j ≤ 65 ∧ 50 ≤ j ∧ m < 16 ^ (j - 49) ∧ s.2.2.length = 65 ∧ fm 15 n = fm (j - 50) m ++ Go.Vc.strOf (s.2.2.drop j)) (fun s => s.2.1.toNat) (fun _ => some ([], fm 15 n)) ?_ N _ ⟨n, 65, rfl, rfl, by omega, by omega, by omega, by simp, by simp [Go.Vc.strOf]⟩ (by show Int.toNat 65 < N; simp; omega))
 rintro ⟨u, i, o⟩ nx ⟨m, j, h1, h2, hj, hj', hm, hl, hf⟩ hnx
 obtain rfl : u = m := h1
 obtain rfl : i = j := h2
 simp only
 simp only at hl hf
 have hmlt : m < 18446744073709551616 := Nat.lt_of_lt_of_le hm (Nat.le_trans (Nat.pow_le_pow_right (by decide) (show j - 49 ≤ 16 by omega)) (by decide))
 have e1 : IntKind.i64.wrap ((j : Int) - 1) = ((j - 1 : Nat) : Int) := wrapm1 j (by omega) (by omega)
 rw [e1]
 by_cases hc : 16 ≤ m
 ·rw [bif_t (decide_eq_true (by omega)), and_mask m 4 15 hmlt (by decide) (by decide)]
  show idxS D36 _ _ = _
  rw [idx_d36 _ (Nat.mod_lt _ (by decide)), chk_true (by omega), chk_true (by omega), shr_eq m 4 .u64 (by decide)]
  have h50 : 50 < j := by
   rcases Nat.lt_or_ge 50 j with h' | h'
   ·exact h'
   ·exfalso
    obtain rfl : j = 50 := by omega
    simp at hm; omega
  refine hnx _ ⟨m / 16, j - 1, rfl, rfl, by omega, by omega, ?_, by simpa using hl, ?_⟩ (by show Int.toNat _ < Int.toNat _; rw [Int.toNat_natCast, Int.toNat_natCast]; omega)
  ·have : 16 ^ (j - 49) = 16 ^ (j - 1 - 49) * 16 := by rw [← Nat.pow_succ]; congr 1; omega
   rw [this] at hm
   omega
  ·rw [hf, Int.toNat_natCast]
   rw [show j - 50 = (j - 1 - 50) + 1 by omega]
   simp only [fm]
   rw [if_neg (by omega), set_drop _ _ _ (by omega), strOf_cons', show j - 1 + 1 = j by omega, List.append_assoc]
   rfl
 ·rw [bif_f (decide_eq_false (by omega))]
  show idxS D36 _ _ = _
  rw [idx_d36 m (by omega), chk_true (by omega)]
  rw [chk_true (by simp only [List.length_set]; omega)]
  rw [Int.toNat_natCast, set_drop _ _ _ (by omega), show j - 1 + 1 = j by omega, List.take_of_length_le (by simp; omega), strOf_cons', hf]
  have : fm (j - 50) m = [dg m] := by
   cases e : j - 50 with
   | zero => rfl
   | succ k => simp only [fm]; rw [if_pos (by omega)]
  rw [this]; rfl
theorem FormatUint16 (n : Nat) (h : n < 18446744073709551616) : strconv_FormatUint (n : Int) 16 = some (fm 15 n) := by
 unfold strconv_FormatUint internal_strconv_FormatUint
 rw [formatBits16 n h]; rfl
theorem repeat0 : ∀ c : Fin 17, strings_Repeat [48] (c.val : Int) = some (List.replicate c.val 48) := by
 intro c
 obtain ⟨c, hc⟩ := c
 simp only
 unfold strings_Repeat
 obtain ⟨N, hN⟩ : ∃ N, Fuel = N := ⟨_, rfl⟩
 rw [hN]
 clear hN
 by_cases h0 : c = 0
 ·subst h0; rfl
 by_cases h1 : c = 1
 ·subst h1; rfl
 rw [bif_f (decide_eq_false (by omega)), bif_f (decide_eq_false (by omega))]
 have hm : ∀ c : Fin 17, math_bits_Mul (IntKind.u64.wrap (([48] : Str).length : Int)) (IntKind.u64.wrap (c.val : Int)) = some (0, (c.val : Int)) := by decide +kernel
 simp only [jp_eq]
 rw [bif_f (decide_eq_false (by omega)), hm ⟨c, hc⟩]
 simp only [call_some]
 rw [show decide ((0 : Int) < 0) = false from rfl, bif_f (by simp; omega)]
 rw [bif_f (by simp)]
 show idxS [48] ((0 : Nat) : Int) _ = _
 rw [idxS_eq (by simp)]
 simp only [List.getElem_cons_zero]
 rw [show decide (((48 : UInt8).toNat : Int) = 32) = false from rfl, show decide (((48 : UInt8).toNat : Int) = 45) = false from rfl, show decide (((48 : UInt8).toNat : Int) = 48) = true from rfl, cond_false, cond_false, cond_true, cond_true]
 have hp : ∀ (g : Bool) (a b : Str) (k : Bool → Option Str), strings_HasPrefix a b = some false → callG g (strings_HasPrefix a b) false k = k false := by
  intro g a b k h
  rw [h, callG_some]
  cases g <;> rfl
 have ew : IntKind.i64.wrap (c : Int) = c := wrapN c (by omega)
 rw [hp _ _ _ _ (by decide +kernel), Bool.and_false, cond_false, hp _ _ _ _ (by decide +kernel), Bool.and_false, cond_false, ew]
 rw [show strings_HasPrefix _ [48] = some true from by decide +kernel, callG_some, decide_eq_true (by omega : (c : Int) ≤ 64)]
 simp only [Bool.and_true, cond_true]
 have hk : ∀ c : Fin 17, List.take (Int.toNat (c.val : Int)) ([48, 48, 48, 48, 48, 48, 48, 48, 48, 48, 48, 48, 48, 48, 48, 48, 48, 48, 48, 48, 48, 48, 48, 48, 48, 48, 48, 48, 48, 48, 48, 48, 48, 48, 48, 48, 48, 48, 48, 48, 48, 48, 48, 48, 48, 48, 48, 48, 48, 48, 48, 48, 48, 48, 48, 48, 48, 48, 48, 48, 48, 48, 48, 48] : Str) = List.replicate c.val 48 := by decide
 rw [chk_true (by simp; omega), hk ⟨c, hc⟩]
theorem R_SumOf_eq (s : Str) : R_SumOf s = some (sumS s) := by
 obtain ⟨n, hn, hlt⟩ := hashZ_nat s
 unfold R_SumOf
 show jp _ (fun k => forL s 0 (fun _ c h nx _ => nx (hashI h c)) 14695981039346656037 _) = _
 simp only [jp_eq]
 rw [forL_fold]
 rw [show s.foldl hashI 14695981039346656037 = (n : Int) from hn, FormatUint16 n hlt]
 have hl := fm_len 15 n
 simp only [call_some]
 rw [show IntKind.i64.wrap (16 - ((fm 15 n).length : Int)) = ((16 - (fm 15 n).length : Nat) : Int) by rw [wrapS (by omega) (by omega)]; omega]
 have := repeat0 ⟨16 - (fm 15 n).length, by omega⟩
 simp only at this
 rw [this, call_some, chk_true (by simp; omega), fm_pad 15 n (by omega)]
 unfold sumS
 rw [hn]; rfl
def bitT (b : Bool) : Str := bif b then [49] else [48]
theorem D_bitT (b : Bool) : disk_bit b = some (bitT b) := by cases b <;> rfl
theorem R_bitT (b : Bool) : R_bit b = some (bitT b) := by cases b <;> rfl
theorem bitT_len (b : Bool) : (bitT b).length = 1 := by cases b <;> rfl
def fileT (f : api_File) : Str := (bif f.Runs then wRun else wFile) ++ 32 :: (f.Path ++ 32 :: quoteS f.Data)
def setT (w : Str) (s : api_Setting) : Str := w ++ 32 :: (s.Key ++ 32 :: quoteS s.Value)
def svcT (s : api_Service) : Str := wService ++ 32 :: (s.Name ++ 32 :: (s.Path ++ 32 :: (bitT s.Auto ++ 32 :: bitT s.On)))
def linesM (M : api_Machine) : List Str := M.Facts.map (setT wFact) ++ (M.Files.map fileT ++ (M.Settings.map (setT wSet) ++ M.Services.map svcT))
def textL (L : List Str) : Str := L.flatMap fun l => l ++ [10]
def printM (M : api_Machine) : Str := textL (linesM M)
theorem textL_app (a b : List Str) : textL (a ++ b) = textL a ++ textL b := by simp [textL]
theorem copy_npT (o : Str) : strings_Builder_copyCheck_np o = some () := rfl
theorem write_eqT (s o : Str) (h : (o ++ s).length ≤ 274877906944) : strings_Builder_WriteString_i1 s o = some ((s.length : Int), o ++ s) := by
 unfold strings_Builder_WriteString_i1
 rw [copy_npT, call_some, chk_true h]
theorem settingT_eq (w : Str) (hw : w.length ≤ 100) (s : api_Setting) (h : (setT w s).length < 274877906000) (hv : s.Value.length ≤ 17179869184) : disk_settingLine w s = some (setT w s ++ [10]) := by
 unfold disk_settingLine
 simp only [setT, List.length_append, List.length_cons] at h
 rw [chk_true (by simp; omega), chk_true (by simp; omega), chk_true (by simp; omega), disk_Quote_eq _ hv, call_some, chk_true (by simp; omega), chk_true (by simp; omega)]
 simp [setT]
theorem fileT_eq (f : api_File) (h : (fileT f).length < 274877906000) (hv : f.Data.length ≤ 17179869184) : disk_fileLine wFile wRun f = some (fileT f ++ [10]) := by
 unfold disk_fileLine
 rw [jpC]
 unfold fileT at h ⊢
 generalize (bif f.Runs then wRun else wFile) = x at h ⊢
 simp only [List.length_append, List.length_cons] at h
 rw [chk_true (by simp; omega), chk_true (by simp; omega), chk_true (by simp; omega), disk_Quote_eq _ hv, call_some, chk_true (by simp; omega), chk_true (by simp; omega)]
 simp
theorem serviceT_eq (s : api_Service) (h : (svcT s).length < 274877906000) : disk_serviceLine s = some (svcT s ++ [10]) := by
 unfold disk_serviceLine
 have h1 := bitT_len s.Auto
 have h2 := bitT_len s.On
 simp only [svcT, List.length_append, List.length_cons, List.length_nil, h1, h2] at h
 rw [chk_true (by simp; omega), chk_true (by simp; omega), chk_true (by simp; omega), chk_true (by simp; omega), D_bitT, call_some, chk_true (by simp; omega), chk_true (by simp; omega), D_bitT, call_some, chk_true (by simp; omega), chk_true (by simp; omega)]
 simp [svcT]
theorem wordsT_eq (s : api_Service) (h : (svcT s).length < 274877906000) : R_serviceWords s = some (s.Name ++ 32 :: (s.Path ++ 32 :: (bitT s.Auto ++ 32 :: bitT s.On))) := by
 unfold R_serviceWords
 have h1 := bitT_len s.Auto
 have h2 := bitT_len s.On
 simp only [svcT, List.length_append, List.length_cons, List.length_nil, h1, h2] at h
 rw [chk_true (by simp; omega), chk_true (by simp; omega), chk_true (by simp; omega), R_bitT, call_some, chk_true (by simp; omega), chk_true (by simp; omega), R_bitT, call_some, chk_true (by simp; omega)]
 simp
theorem wrLoop {A Z : Type} {g : A → Str} {f : Nat → A → Str → (Str → Option Z) → (Str → Option Z) → Option Z} {k : Str → Option Z} (B : Nat) :
  ∀ (l : List A) (i : Nat) (o : Str), (∀ i x o nx q, x ∈ l → (g x).length ≤ B → o.length + (g x).length + 1 ≤ 274877906000 → f i x o nx q = nx (o ++ (g x ++ [10]))) → (∀ x ∈ l, (g x).length ≤ B) → o.length + (textL (l.map g)).length ≤ 274877906000 → forL l i f o k = k (o ++ textL (l.map g))
 | [], i, o, _, _, _ => by simp [forL, textL]
 | x :: l, i, o, hf, hb, hl => by
  have hl' : o.length + ((g x).length + 1 + (textL (l.map g)).length) ≤ 274877906000 := by
   have : textL ((x :: l).map g) = (g x ++ [10]) ++ textL (l.map g) := by simp [textL]
   rw [this] at hl
   simp only [List.length_append, List.length_cons, List.length_nil] at hl
   omega
  unfold forL
  rw [hf i x o _ _ (List.mem_cons_self ..) (hb x (List.mem_cons_self ..)) (by omega), wrLoop B l (i + 1) _ (fun i y o nx q hy => hf i y o nx q (List.mem_cons_of_mem _ hy)) (fun y hy => hb y (List.mem_cons_of_mem _ hy)) (by simp only [List.length_append, List.length_cons, List.length_nil]; omega)]
  congr 1
  simp [textL]
theorem lines_short {M : api_Machine} (h : Fw 40 40 40 M) : (∀ x ∈ M.Facts, (setT wFact x).length ≤ 12299) ∧ (∀ x ∈ M.Files, (fileT x).length ≤ 12299) ∧ (∀ x ∈ M.Settings, (setT wSet x).length ≤ 12299) ∧ (∀ x ∈ M.Services, (svcT x).length ≤ 12299) := by
 refine ⟨fun x hx => ?_, fun x hx => ?_, fun x hx => ?_, fun x hx => ?_⟩
 ·have h1 := eFact_key (h.good.f1 x hx)
  have h2 := nameOk_len h1.1
  have h3 := valueOk_len h1.2
  have h4 := quoteS_len x.Value
  simp only [setT, List.length_append, List.length_cons, List.length_nil]
  omega
 ·have h1 := pathOk_len (eFile_path (h.good.g1 x hx)).1
  have h3 := h.data x hx
  have h4 := quoteS_len x.Data
  unfold fileT
  cases x.Runs <;> (simp only [cond_true, cond_false, List.length_append, List.length_cons, List.length_nil]; omega)
 ·have h1 := eSet_key (h.good.s1 x hx)
  have h2 := pathOk_len h1.1
  have h3 := valueOk_len h1.2
  have h4 := quoteS_len x.Value
  simp only [setT, List.length_append, List.length_cons, List.length_nil]
  omega
 ·have h1 := eSvc_name (h.good.v1 x hx)
  have h2 := nameOk_len h1.1
  have h3 := pathOk_len h1.2
  have h4 := bitT_len x.Auto
  have h5 := bitT_len x.On
  simp only [svcT, List.length_append, List.length_cons, List.length_nil]
  omega
theorem textL_len (B : Nat) : ∀ (L : List Str), (∀ l ∈ L, l.length ≤ B) → (textL L).length ≤ L.length * (B + 1)
 | [], _ => by simp [textL]
 | l :: L, h => by
  have h1 := h l (List.mem_cons_self ..)
  have h2 := textL_len B L fun x hx => h x (List.mem_cons_of_mem _ hx)
  have : textL (l :: L) = (l ++ [10]) ++ textL L := by simp [textL]
  rw [this, List.length_append, List.length_append, show (l :: L).length = L.length + 1 from rfl, Nat.add_mul]
  simp only [List.length_cons, List.length_nil]
  omega
theorem print_len {M : api_Machine} (h : Fw 40 40 40 M) : (printM M).length ≤ 1722000 := by
 obtain ⟨h1, h2, h3, h4⟩ := lines_short h
 have hL : ∀ l ∈ linesM M, l.length ≤ 12299 := by
  intro l hl
  unfold linesM at hl
  simp only [List.mem_append, List.mem_map] at hl
  rcases hl with ⟨x, hx, rfl⟩ | ⟨x, hx, rfl⟩ | ⟨x, hx, rfl⟩ | ⟨x, hx, rfl⟩
  ·exact h1 x hx
  ·exact h2 x hx
  ·exact h3 x hx
  ·exact h4 x hx
 have := textL_len 12299 _ hL
 have a1 := h.facts
 have a2 := h.files
 have a3 := h.sets
 have a4 := h.svcs
 have hn : (linesM M).length ≤ 140 := by
  unfold linesM
  simp only [List.length_append, List.length_map]
  omega
 unfold printM
 have : (linesM M).length * 12300 ≤ 140 * 12300 := Nat.mul_le_mul_right _ hn
 omega
theorem print_parts (M : api_Machine) : printM M = textL (M.Facts.map (setT wFact)) ++ (textL (M.Files.map fileT) ++ (textL (M.Settings.map (setT wSet)) ++ textL (M.Services.map svcT))) := by
 unfold printM linesM
 rw [textL_app, textL_app, textL_app]
theorem D_text_eq {M : api_Machine} (h : Fw 40 40 40 M) : disk_machineText M = some (printM M) := by
 obtain ⟨h1, h2, h3, h4⟩ := lines_short h
 have hp := print_len h
 rw [print_parts] at hp ⊢
 simp only [List.length_append] at hp
 have v1 : ∀ x ∈ M.Facts, x.Value.length ≤ 17179869184 := fun x hx => by have := valueOk_len (eFact_key (h.good.f1 x hx)).2; omega
 have v2 : ∀ x ∈ M.Files, x.Data.length ≤ 17179869184 := fun x hx => by have := h.data x hx; omega
 have v3 : ∀ x ∈ M.Settings, x.Value.length ≤ 17179869184 := fun x hx => by have := valueOk_len (eSet_key (h.good.s1 x hx)).2; omega
 unfold disk_machineText
 simp only [jp_eq]
 refine (wrLoop (g := setT wFact) 12299 M.Facts 0 [] (fun i x o nx q hx hb hl => ?_) h1 (by simp only [List.length_nil]; omega)).trans ?_
 ·show call (disk_settingLine wFact x) _ = _
  rw [settingT_eq wFact (by decide) x (by omega) (v1 x hx), call_some, write_eqT _ _ (by simp only [List.length_append, List.length_cons, List.length_nil]; omega), call_some]
 refine (wrLoop (g := fileT) 12299 M.Files 0 _ (fun i x o nx q hx hb hl => ?_) h2 (by simp only [List.length_append, List.length_nil]; omega)).trans ?_
 ·show call (disk_fileLine wFile wRun x) _ = _
  rw [fileT_eq x (by omega) (v2 x hx), call_some, write_eqT _ _ (by simp only [List.length_append, List.length_cons, List.length_nil]; omega), call_some]
 refine (wrLoop (g := setT wSet) 12299 M.Settings 0 _ (fun i x o nx q hx hb hl => ?_) h3 (by simp only [List.length_append, List.length_nil]; omega)).trans ?_
 ·show call (disk_settingLine wSet x) _ = _
  rw [settingT_eq wSet (by decide) x (by omega) (v3 x hx), call_some, write_eqT _ _ (by simp only [List.length_append, List.length_cons, List.length_nil]; omega), call_some]
 refine (wrLoop (g := svcT) 12299 M.Services 0 _ (fun i x o nx q hx hb hl => ?_) h4 (by simp only [List.length_append, List.length_nil]; omega)).trans ?_
 ·rw [serviceT_eq x (by omega), call_some, write_eqT _ _ (by simp only [List.length_append, List.length_cons, List.length_nil]; omega), call_some]
 show some _ = some _
 simp only [List.nil_append, List.append_assoc]
theorem D_Print_eq {M : api_Machine} (h : Fw 40 40 40 M) : disk_Print M = some (printM M, 0) := by
 have hp := print_len h
 unfold disk_Print disk_sized
 rw [disk_Check_eq M h.good.fit, (good_iff M).2 h.good, call_some, D_text_eq h]
 simp only [call_some, decide_true, Bool.not_true, cond_false]
 rw [decide_eq_false (by omega)]; rfl
theorem R_Print_eq {M : api_Machine} (h : Fw 40 40 40 M) : R_Print M = some (printM M) := by
 obtain ⟨h1, h2, h3, h4⟩ := lines_short h
 have hp := print_len h
 rw [print_parts] at hp ⊢
 simp only [List.length_append] at hp
 have v1 : ∀ x ∈ M.Facts, x.Value.length ≤ 17179869184 := fun x hx => by have := valueOk_len (eFact_key (h.good.f1 x hx)).2; omega
 have v2 : ∀ x ∈ M.Files, x.Data.length ≤ 17179869184 := fun x hx => by have := h.data x hx; omega
 have v3 : ∀ x ∈ M.Settings, x.Value.length ≤ 17179869184 := fun x hx => by have := valueOk_len (eSet_key (h.good.s1 x hx)).2; omega
 unfold R_Print
 simp only [jp_eq]
 refine (wrLoop (g := setT wFact) 12299 M.Facts 0 [] (fun i x o nx q hx hb hl => ?_) h1 (by simp only [List.length_nil]; omega)).trans ?_
 ·simp only [setT, List.length_append, List.length_cons] at hb hl
  rw [chk_true (by simp; omega), chk_true (by simp; omega), R_Quote_eq _ (v1 x hx), call_some, chk_true (by simp; omega), chk_true (by simp; omega), write_eqT _ _ (by simp; omega), call_some]
  simp [setT]
 refine (wrLoop (g := fileT) 12299 M.Files 0 _ (fun i x o nx q hx hb hl => ?_) h2 (by simp only [List.length_append, List.length_nil]; omega)).trans ?_
 ·unfold fileT at hb hl ⊢
  cases x.Runs
  ·simp only [cond_false, List.length_append, List.length_cons] at hb hl ⊢
   rw [chk_true (by simp; omega), chk_true (by simp; omega), R_Quote_eq _ (v2 x hx), call_some, chk_true (by simp; omega), chk_true (by simp; omega), write_eqT _ _ (by simp; omega), call_some]
   simp
  ·simp only [cond_true, List.length_append, List.length_cons] at hb hl ⊢
   rw [chk_true (by simp; omega), chk_true (by simp; omega), R_Quote_eq _ (v2 x hx), call_some, chk_true (by simp; omega), chk_true (by simp; omega), write_eqT _ _ (by simp; omega), call_some]
   simp
 refine (wrLoop (g := setT wSet) 12299 M.Settings 0 _ (fun i x o nx q hx hb hl => ?_) h3 (by simp only [List.length_append, List.length_nil]; omega)).trans ?_
 ·simp only [setT, List.length_append, List.length_cons] at hb hl
  rw [chk_true (by simp; omega), chk_true (by simp; omega), R_Quote_eq _ (v3 x hx), call_some, chk_true (by simp; omega), chk_true (by simp; omega), write_eqT _ _ (by simp; omega), call_some]
  simp [setT]
 refine (wrLoop (g := svcT) 12299 M.Services 0 _ (fun i x o nx q hx hb hl => ?_) h4 (by simp only [List.length_append, List.length_nil]; omega)).trans ?_
 ·rw [wordsT_eq x (by omega), call_some]
  simp only [svcT, List.length_append, List.length_cons] at hb hl
  rw [chk_true (by simp; omega), chk_true (by simp; omega), write_eqT _ _ (by simp; omega), call_some]
  simp [svcT]
 show some _ = some _
 simp only [List.nil_append, List.append_assoc]
theorem eq_loop {α : Type} (x y : List α) (q : α → α → Bool) (hl : x.length = y.length) : ∀ (r : List α) (i : Nat), x.drop i = r → ∃ b, forL r i (fun i p (_ : Unit) nx (_ : Unit → Option Bool) => idx y (i : Int) fun y => bif !q p y then some false else nx ()) () (fun _ => some true) = some b
 | [], i, _ => ⟨true, rfl⟩
 | p :: r, i, hd => by
  have hi : i < x.length := by
   rcases Nat.lt_or_ge i x.length with h | h
   ·exact h
   ·rw [List.drop_eq_nil_of_le h] at hd; cases hd
  have hd' : x.drop (i + 1) = r := by
   have := congrArg List.tail hd
   simpa using this
  unfold forL
  simp only [idx_eq (show i < y.length by omega)]
  cases q p y[i]
  ·exact ⟨false, rfl⟩
  ·exact eq_loop x y q hl r (i + 1) hd'
theorem tot_set (x y : List api_Setting) : ∃ b, slices_Equal_api_Setting_api_Setting x y = some b := by
 unfold slices_Equal_api_Setting_api_Setting
 by_cases h : x.length = y.length
 ·rw [decide_eq_true (by omega)]
  exact eq_loop x y (fun a b => decide (a.Key = b.Key) && decide (a.Value = b.Value)) h x 0 rfl
 ·rw [decide_eq_false (by omega)]; exact ⟨false, rfl⟩
theorem tot_file (x y : List api_File) : ∃ b, slices_Equal_api_File_api_File x y = some b := by
 unfold slices_Equal_api_File_api_File
 by_cases h : x.length = y.length
 ·rw [decide_eq_true (by omega)]
  exact eq_loop x y (fun a b => decide (a.Path = b.Path) && (decide (a.Data = b.Data) && decide (a.Runs = b.Runs))) h x 0 rfl
 ·rw [decide_eq_false (by omega)]; exact ⟨false, rfl⟩
theorem tot_svc (x y : List api_Service) : ∃ b, slices_Equal_api_Service_api_Service x y = some b := by
 unfold slices_Equal_api_Service_api_Service
 by_cases h : x.length = y.length
 ·rw [decide_eq_true (by omega)]
  exact eq_loop x y (fun a b => decide (a.Name = b.Name) && (decide (a.Path = b.Path) && (decide (a.Auto = b.Auto) && decide (a.On = b.On)))) h x 0 rfl
 ·rw [decide_eq_false (by omega)]; exact ⟨false, rfl⟩
theorem tot_mach (a b : api_Machine) : ∃ r, disk_Same a b = some r ∧ R_Same a b = some r := by
 obtain ⟨r1, h1⟩ := tot_set a.Facts b.Facts
 obtain ⟨r2, h2⟩ := tot_file a.Files b.Files
 obtain ⟨r3, h3⟩ := tot_set a.Settings b.Settings
 obtain ⟨r4, h4⟩ := tot_svc a.Services b.Services
 unfold disk_Same R_Same
 rw [h1, h2, h3, h4]
 simp only [call_some, callG_some]
 exact ⟨_, rfl, rfl⟩
theorem D_same (m : api_Machine) : disk_Same m m = some true := by
 unfold disk_Same
 rw [same_set, same_file, same_set, same_svc]; rfl
def bootS (s : api_Service) : api_Service := ⟨s.Name, s.Path, s.Auto, s.Auto⟩
theorem boot_loop {Z : Type} (l : List api_Service) (hl : l.length ≤ 1000) (k : List api_Service → Option Z) {N : Nat} (hN : 1001 ≤ N) :
  loopN N (fun (s : Int × List api_Service) nx_29 k_28 =>
  match s with
  | (t9_23, o7_24) =>
   bif decide (t9_23 < (l.length : Int)) then
    chk (0 ≤ t9_23 ∧ t9_23 < (o7_24.length : Int)) <|
    chk (0 ≤ t9_23 ∧ t9_23 < (o7_24.length : Int)) <|
    nx_29 (IntKind.i64.wrap (t9_23 + 1), List.set o7_24 t9_23.toNat (api_Service.mk ((o7_24.getD t9_23.toNat (api_Service.mk [] [] false false)).Name) ((o7_24.getD t9_23.toNat (api_Service.mk [] [] false false)).Path) ((o7_24.getD t9_23.toNat (api_Service.mk [] [] false false)).Auto) ((o7_24.getD t9_23.toNat (api_Service.mk [] [] false false)).Auto)))
   else
   k_28 (t9_23, o7_24)) (0, l) (fun s => match s with
  | (t9_23, o7_24) => k o7_24) = k (l.map bootS) := by
 refine loopN_run (fun s => ∃ i : Nat, s.1 = (i : Int) ∧ i ≤ l.length ∧ s.2 = (l.take i).map bootS ++ l.drop i) (fun s => l.length - s.1.toNat) (fun _ => k (l.map bootS)) ?_ N _ ⟨0, rfl, by omega, by simp⟩ (by simp only; omega)
 rintro ⟨t, o⟩ nx ⟨i, h1, hi, h2⟩ hnx
 obtain rfl : t = i := h1
 obtain rfl : o = _ := h2
 dsimp only
 by_cases h : i < l.length
 ·have hlen : ((l.take i).map bootS ++ l.drop i).length = l.length := by simp; omega
  rw [decide_eq_true (by omega), cond_true, hlen, chk_true (by omega), chk_true (by omega), wrap1 i (by omega), Int.toNat_natCast]
  have hg : ((l.take i).map bootS ++ l.drop i).getD i (api_Service.mk [] [] false false) = l[i] := by
   rw [List.getD_eq_getElem?_getD, List.getElem?_append_right (by simp; omega)]
   simp [h, Nat.min_eq_left (Nat.le_of_lt h)]
  refine hnx _ ⟨i + 1, rfl, by omega, ?_⟩ (by simp only [Int.toNat_natCast]; omega)
  rw [hg, List.set_append_right _ _ (by simp; omega)]
  have e : i - ((l.take i).map bootS).length = 0 := by simp; omega
  rw [e, List.drop_eq_getElem_cons h, List.take_succ_eq_append_getElem h, List.map_append, List.append_assoc]
  rfl
 ·obtain rfl : i = l.length := by omega
  rw [decide_eq_false (by omega), cond_false, List.take_length, List.drop_length, List.append_nil]
def bootM (m : api_Machine) : api_Machine := ⟨m.Facts, m.Files, m.Settings, m.Services.map bootS⟩
theorem clone_ends {α : Type} (l : List α) (hl : l.length ≤ 1000) : (anyOf (fun b_5 : Bool => b_5 = true → l = []) fun b_5 =>
 bif b_5 then
  some []
 else
 chk (([] ++ l).length ≤ 274877906944) <|
 some ([] ++ l)) = some l := by
 refine anyOf_intro ⟨false, fun h => by cases h⟩ fun b hb => ?_
 cases b with
 | false => rw [cond_false, chk_true (by simp; omega)]; rfl
 | true => rw [hb rfl]; rfl
theorem Boot_eq {M : api_Machine} (h : Fw 40 40 40 M) : disk_Boot M = some (bootM M, 0) ∧ R_Boot M = some (bootM M) := by
 have a1 := h.facts
 have a2 := h.files
 have a3 := h.sets
 have a4 := h.svcs
 obtain ⟨N, hN⟩ : ∃ N, Fuel = N := ⟨_, rfl⟩
 have hF : 1099511627776 ≤ N := hN ▸ fuel_ge
 constructor
 ·unfold disk_Boot
  rw [disk_Check_eq M h.good.fit, (good_iff M).2 h.good, call_some, decide_eq_true rfl, Bool.not_true, cond_false]
  have hc : disk_Clone_new M = some (M.Facts, M.Files, M.Settings, M.Services, M.Facts, M.Files, M.Settings, M.Services) := by
   unfold disk_Clone_new
   rw [show slices_Clone_api_Setting_api_Setting_new_i2 M.Facts = some M.Facts from clone_ends M.Facts (by omega), show slices_Clone_api_File_api_File_new M.Files = some M.Files from clone_ends M.Files (by omega), show slices_Clone_api_Setting_api_Setting_new_i2 M.Settings = some M.Settings from clone_ends M.Settings (by omega), show slices_Clone_api_Service_api_Service_new M.Services = some M.Services from clone_ends M.Services (by omega)]
   rfl
  have hb : disk_boot M = some (bootM M) := by
   unfold disk_boot
   rw [hN, hc, call_some, jp_eq]
   exact boot_loop M.Services (by omega) (fun o => some (api_Machine.mk M.Facts M.Files M.Settings o)) (by omega)
  rw [hb, call_some]
 ·unfold R_Boot
  rw [hN, show slices_Clone_api_Service_api_Service_new M.Services = some M.Services from clone_ends M.Services (by omega), call_some, jp_eq]
  exact boot_loop M.Services (by omega) (fun o => some (api_Machine.mk M.Facts M.Files M.Settings o)) (by omega)
def sizeF (l : List api_File) : Int := l.foldl (fun (n : Int) f => IntKind.i64.wrap (n + (f.Data.length : Int))) 0
theorem law_su (text : Str) (a b : api_Machine) (ha : Fit a) : Law_SumsMatch text a b = some true := by
 unfold Law_SumsMatch
 rw [landed_eq, call_some, Bool.not_true, cond_false, disk_SumOf_eq, call_some, R_SumOf_eq, call_some]
 obtain ⟨r, h1, h2⟩ := tot_mach a b
 rw [h1, h2, D_same]
 simp only [decide_true, Bool.not_true, Bool.not_false, callG_true, call_some, callG_some, cond_true, Bool.or_self, cond_false, Bool.false_or]
 obtain ⟨M, hM, hF⟩ := fit_ends a ha
 rw [hM, call_some]
 have hS : disk_Sum M = some (sumS (printM M), 0) := by
  unfold disk_Sum
  rw [D_Print_eq hF, call_some]
  simp only [decide_true, Bool.not_true, cond_false]
  rw [disk_SumOf_eq, call_some]
 have hZ : disk_Size M = some (sizeF M.Files, 0) := by
  unfold disk_Size
  rw [disk_Check_eq M hF.good.fit, (good_iff M).2 hF.good, call_some, decide_eq_true rfl, Bool.not_true, cond_false, jp_eq]
  rw [forL_fold (fun (n : Int) (f : api_File) => IntKind.i64.wrap (n + (f.Data.length : Int)))]
  rfl
 obtain ⟨b1, b2⟩ := Boot_eq hF
 rw [hS, call_some, hZ, call_some, b1, call_some, jp_eq]
 rw [forL_fold (fun (n : Int) (f : api_File) => IntKind.i64.wrap (n + (f.Data.length : Int)))]
 rw [R_Print_eq hF, b2]
 simp only [decide_true, callG_true, call_some, R_SumOf_eq, letv, Bool.true_and]
 rw [show M.Files.foldl (fun (n : Int) (f : api_File) => IntKind.i64.wrap (n + (f.Data.length : Int))) 0 = sizeF M.Files from rfl]
 simp only [decide_true, callG_true, call_some, same_mach, Bool.and_self]
end Go.Md
