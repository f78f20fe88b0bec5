/- Plain lemmas on the models: the law's model answers true. -/
import Derived.Test.YtbfemlilfeahkaaDoorMpMd
set_option linter.unusedSimpArgs false
set_option linter.unusedVariables false
namespace Go.Md
open Go.Vc
section
variable {Z A S α : Type}
theorem call_some (x : A) (k : A → Option Z) : call (some x) k = k x := rfl
theorem callG_some (g : Bool) (x d : A) (k : A → Option Z) : callG g (some x) d k = k (bif g then x else d) := by cases g <;> rfl
theorem callG_true (a : Option A) (d : A) (k : A → Option Z) : callG true a d k = call a k := rfl
theorem callG_false (a : Option A) (d : A) (k : A → Option Z) : callG false a d k = k d := rfl
theorem chk_true {p : Prop} [Decidable p] (h : p) (m : Option Z) : chk p m = m := if_pos h
theorem jp_eq (F : S → Option Z) (m : (S → Option Z) → Option Z) : jp F m = m F := rfl
theorem jpC (F : S → Option Z) (c : Bool) (x y : S) : jp F (fun k => bif c then k x else k y) = F (bif c then x else y) := by cases c <;> rfl
theorem idxS_eq {s : Str} {i : Nat} (h : i < s.length) (k : Int → Option Z) : idxS s i k = k (s[i].toNat : Int) := by
  unfold idxS
  simp [h]
theorem idx_eq {l : List α} {i : Nat} (h : i < l.length) (k : α → Option Z) : idx l i k = k l[i] := by
  unfold idx
  simp [h]
/-- A loop that hands back z at the first that is not as it should be. -/
theorem forL_all {f : Nat → α → Unit → (Unit → Option Z) → (Unit → Option Z) → Option Z} {z : Z} (q : α → Bool) (hf : ∀ i x nx k, f i x () nx k = bif q x then nx () else some z) (k : Unit → Option Z) :
    ∀ (l : List α) (i : Nat), forL l i f () k = bif l.all q then k () else some z
  | [], i => rfl
  | x :: l, i => by
    unfold forL
    rw [hf, forL_all q hf k l (i + 1), List.all_cons]
    cases q x <;> rfl
/-- What a loop over a list comes to, told by what is left. -/
theorem forL_run {f : Nat → α → S → (S → Option Z) → (S → Option Z) → Option Z} {k : S → Option Z} (inv : Nat → List α → S → Prop) (R : Nat → List α → S → Option Z)
    (h0 : ∀ i s, inv i [] s → k s = R i [] s) (h1 : ∀ i x l s nx, inv i (x :: l) s → (∀ s', inv (i + 1) l s' → nx s' = R (i + 1) l s') → f i x s nx k = R i (x :: l) s) :
    ∀ (l : List α) (i : Nat) (s : S), inv i l s → forL l i f s k = R i l s
  | [], i, s, h => h0 i s h
  | x :: l, i, s, h => h1 i x l s _ h fun s' hs => forL_run inv R h0 h1 l (i + 1) s' hs
/-- What a loop comes to, told by its state; mu counts the rounds. -/
theorem loopN_run {f : S → (S → Option Z) → (S → Option Z) → Option Z} {k : S → Option Z} (inv : S → Prop) (mu : S → Nat) (R : S → Option Z)
    (h : ∀ s nx, inv s → (∀ s', inv s' → mu s' < mu s → nx s' = R s') → f s nx k = R s) : ∀ (N : Nat) (s : S), inv s → mu s < N → loopN N f s k = R s
  | 0, s, _, hm => by omega
  | N + 1, s, hi, hm => by
    unfold loopN
    exact h s _ hi fun s' hs' hlt => loopN_run inv mu R h N s' hs' (by omega)
theorem forC_run {f : Nat → S → (S → Option Z) → (S → Option Z) → Option Z} {k : S → Option Z} (n : Nat) (inv : Nat → S → Prop) (R : Nat → S → Option Z)
    (h0 : ∀ s, inv n s → k s = R n s) (h1 : ∀ i s nx, i < n → inv i s → (∀ s', inv (i + 1) s' → nx s' = R (i + 1) s') → f i s nx k = R i s) :
    ∀ (m i : Nat) (s : S), m + i = n → inv i s → forC m i f s k = R i s
  | 0, i, s, e, h => by
    obtain rfl : i = n := by omega
    exact h0 s h
  | m + 1, i, s, e, h => by
    unfold forC
    exact h1 i s _ (by omega) h fun s' hs => forC_run n inv R h0 h1 m (i + 1) s' (by omega) hs
theorem condS (b : Bool) (x y : Z) : (bif b then some x else some y) = some (bif b then x else y) := by cases b <;> rfl
theorem condN (c : Bool) (x y : Z) : (bif c then x else y) = bif !c then y else x := by cases c <;> rfl
theorem bif_t {c : Bool} (h : c = true) (x y : Z) : (bif c then x else y) = x := by rw [h]; rfl
theorem bif_f {c : Bool} (h : c = false) (x y : Z) : (bif c then x else y) = y := by rw [h]; rfl
end
theorem wrapS {n : Int} (h1 : -9223372036854775808 ≤ n) (h2 : n ≤ 9223372036854775807) : IntKind.i64.wrap n = n := wrap64 h1 h2
theorem wrapN (n : Nat) (h : n ≤ 9223372036854775807) : IntKind.i64.wrap (n : Int) = n := wrap64 (by omega) (by omega)
theorem wrap1 (i : Nat) (h : i < 9223372036854775807) : IntKind.i64.wrap ((i : Int) + 1) = ((i + 1 : Nat) : Int) := by rw [wrapS (by omega) (by omega)]; rfl
theorem wrapm1 (i : Nat) (h0 : 0 < i) (h : i < 9223372036854775807) : IntKind.i64.wrap ((i : Int) - 1) = ((i - 1 : Nat) : Int) := by rw [wrapS (by omega) (by omega)]; omega
theorem fuel_ge : 1099511627776 ≤ Fuel := Nat.le_refl _

/-! ### strings at one byte -/
/-- Ahead of the first c, behind it, and whether there is one. -/
def cutAt (c : UInt8) : Str → Str × Str × Bool
  | [] => ([], [], false)
  | b :: s => if b = c then ([], s, true) else (b :: (cutAt c s).1, (cutAt c s).2.1, (cutAt c s).2.2)
def splitAt (c : UInt8) : Str → List Str
  | [] => [[]]
  | b :: s => if b = c then [] :: splitAt c s else match splitAt c s with
    | [] => [[b]]
    | h :: t => (b :: h) :: t
theorem cutAt_none {c : UInt8} : ∀ {s : Str}, c ∉ s → cutAt c s = (s, [], false)
  | [], _ => rfl
  | b :: s, h => by
    have hb : b ≠ c := fun e => h (by simp [e])
    have ht := cutAt_none (s := s) (c := c) (fun h' => h (List.mem_cons_of_mem _ h'))
    simp only [cutAt, if_neg hb, ht]
theorem cutAt_some {c : UInt8} : ∀ {s : Str}, c ∈ s → (cutAt c s).2.2 = true ∧ s = (cutAt c s).1 ++ c :: (cutAt c s).2.1 ∧ c ∉ (cutAt c s).1
  | [], h => by cases h
  | b :: s, h => by
    by_cases hb : b = c
    · subst hb; simp [cutAt]
    · have hm : c ∈ s := by
        rcases List.mem_cons.1 h with rfl | h
        · exact absurd rfl hb
        · exact h
      obtain ⟨h1, h2, h3⟩ := cutAt_some hm
      simp only [cutAt, if_neg hb]
      refine ⟨h1, by rw [List.cons_append, ← h2], ?_⟩
      intro h'
      rcases List.mem_cons.1 h' with rfl | h'
      · exact hb rfl
      · exact h3 h'
theorem cutAt_app {c : UInt8} : ∀ {a b : Str}, c ∉ a → cutAt c (a ++ c :: b) = (a, b, true)
  | [], b, _ => by simp [cutAt]
  | x :: a, b, h => by
    have hx : x ≠ c := fun e => h (by simp [e])
    have := cutAt_app (a := a) (b := b) (c := c) (fun h' => h (List.mem_cons_of_mem _ h'))
    simp only [List.cons_append, cutAt, if_neg hx, this]
theorem splitAt_ne (c : UInt8) (s : Str) : splitAt c s ≠ [] := by
  cases s with
  | nil => simp [splitAt]
  | cons b s =>
    simp only [splitAt]
    split
    · simp
    · split <;> simp
theorem splitAt_none {c : UInt8} : ∀ {s : Str}, c ∉ s → splitAt c s = [s]
  | [], _ => rfl
  | b :: s, h => by
    have hb : b ≠ c := fun e => h (by simp [e])
    have ht := splitAt_none (s := s) (c := c) (fun h' => h (List.mem_cons_of_mem _ h'))
    simp only [splitAt, if_neg hb, ht]
theorem splitAt_app {c : UInt8} : ∀ {a b : Str}, c ∉ a → splitAt c (a ++ c :: b) = a :: splitAt c b
  | [], b, _ => by simp [splitAt]
  | x :: a, b, h => by
    have hx : x ≠ c := fun e => h (by simp [e])
    have := splitAt_app (a := a) (b := b) (c := c) (fun h' => h (List.mem_cons_of_mem _ h'))
    simp only [List.cons_append, splitAt, if_neg hx, this]
theorem splitAt_cut (c : UInt8) (s : Str) : splitAt c s = if (cutAt c s).2.2 = true then (cutAt c s).1 :: splitAt c (cutAt c s).2.1 else [s] := by
  by_cases h : c ∈ s
  · obtain ⟨h1, h2, h3⟩ := cutAt_some h
    rw [if_pos h1]
    conv => lhs; rw [h2]
    exact splitAt_app h3
  · rw [cutAt_none h]
    simpa using splitAt_none h
theorem cutAt_len (c : UInt8) (s : Str) : (cutAt c s).1.length ≤ s.length ∧ (cutAt c s).2.1.length ≤ s.length ∧ ((cutAt c s).2.2 = true → (cutAt c s).1.length + (cutAt c s).2.1.length + 1 = s.length) := by
  by_cases h : c ∈ s
  · obtain ⟨h1, h2, h3⟩ := cutAt_some h
    have := congrArg List.length h2
    simp only [List.length_append, List.length_cons] at this
    exact ⟨by omega, by omega, fun _ => by omega⟩
  · rw [cutAt_none h]; simp
theorem splitAt_mem_len {c : UInt8} : ∀ {s : Str} {p : Str}, p ∈ splitAt c s → p.length ≤ s.length
  | [], p, h => by simp [splitAt] at h; simp [h]
  | b :: s, p, h => by
    simp only [splitAt] at h
    split at h
    · rcases List.mem_cons.1 h with rfl | h
      · simp
      · have := splitAt_mem_len h; simp; omega
    · split at h
      · rename_i e; exact absurd e (splitAt_ne c s)
      · rename_i a t e
        rcases List.mem_cons.1 h with rfl | h
        · have := splitAt_mem_len (s := s) (p := a) (c := c) (by rw [e]; simp)
          simp; omega
        · have := splitAt_mem_len (s := s) (p := p) (c := c) (by rw [e]; simp [h])
          simp; omega
theorem splitAt_length (c : UInt8) (s : Str) : (splitAt c s).length = s.count c + 1 := by
  induction s with
  | nil => rfl
  | cons b s ih =>
    simp only [splitAt]
    split
    · rename_i e; subst e; simp [ih]
    · rename_i e
      rw [List.count_cons_of_ne (by simpa using e)]
      split
      · rename_i e'; exact absurd e' (splitAt_ne c s)
      · rename_i e'; rw [e'] at ih; simpa using ih
def ixb (s : Str) (c : UInt8) : Int := Lib.indexByte s c
theorem ixb_cut (c : UInt8) : ∀ s : Str, ixb s c = if c ∈ s then ((cutAt c s).1.length : Int) else -1
  | [] => rfl
  | b :: s => by
    have ih := ixb_cut c s
    unfold ixb at *
    unfold Lib.indexByte
    by_cases hb : b = c
    · subst hb; simp [cutAt]
    · rw [if_neg (by simpa using hb), ih]
      simp only [cutAt, if_neg hb, List.mem_cons, Ne.symm hb, false_or]
      by_cases h : c ∈ s
      · rw [if_pos h, if_pos h]
        simp
      · rw [if_neg h, if_neg h]; rfl
theorem ixb_none {c : UInt8} {s : Str} (h : c ∉ s) : ixb s c = -1 := by rw [ixb_cut, if_neg h]
theorem ixb_some {c : UInt8} {s : Str} (h : c ∈ s) : ixb s c = ((cutAt c s).1.length : Int) := by rw [ixb_cut, if_pos h]
theorem cutAt_take {c : UInt8} {s : Str} (h : c ∈ s) : s.take (cutAt c s).1.length = (cutAt c s).1 ∧ s.drop ((cutAt c s).1.length + 1) = (cutAt c s).2.1 := by
  obtain ⟨h1, h2, h3⟩ := cutAt_some h
  generalize cutAt c s = q at h2 ⊢
  subst h2
  constructor
  · exact List.take_left' rfl
  · rw [← List.drop_drop, List.drop_left' rfl]; rfl
theorem len1 (c : UInt8) : ((([c] : Str).length : Nat) : Int) = 1 := rfl
theorem wrapc1 (i : Nat) (c : UInt8) (h : i < 9223372036854775807) : IntKind.i64.wrap ((i : Int) + ((([c] : Str).length : Nat) : Int)) = ((i + 1 : Nat) : Int) := wrap1 i h
theorem indexByte_u8 (s : Str) (c : UInt8) : ixByte s (c.toNat : Int) = ixb s c := by
  unfold ixByte ixb
  congr 1
  simp
theorem slite_eq (s : Str) (c : UInt8) : internal_stringslite_Index s [c] = some (ixb s c) := by
  unfold internal_stringslite_Index internal_stringslite_IndexByte
  by_cases h : s = [c]
  · subst h
    simp [ixb, Lib.indexByte]
  · have : (decide (([c] : Str) = s)) = false := by simpa using fun e => h e.symm
    simp only [this, len1, show decide ((1 : Int) = 0) = false from rfl, show decide ((1 : Int) = 1) = true from rfl, decide_true, Bool.or_false, cond_false, cond_true]
    show idxS [c] ((0 : Nat) : Int) _ = _
    rw [idxS_eq (by simp)]
    simp only [call_some, List.getElem_cons_zero, indexByte_u8]
theorem index_eq (s : Str) (c : UInt8) : strings_Index s [c] = some (ixb s c) := by
  unfold strings_Index
  rw [slite_eq]; rfl
theorem count_eq (s : Str) (c : UInt8) : strings_Count s [c] = some ((s.count c : Nat) : Int) := by
  unfold strings_Count
  simp only [len1, show decide ((1 : Int) = 0) = false from rfl, show decide ((1 : Int) = 1) = true from rfl, decide_true, cond_false, cond_true]
  show idxS [c] ((0 : Nat) : Int) _ = _
  rw [idxS_eq (by simp)]
  unfold cntByte
  simp
theorem cut_eq (s : Str) (c : UInt8) (hs : s.length ≤ 1099511627776) : strings_Cut s [c] = some (cutAt c s) := by
  unfold strings_Cut internal_stringslite_Cut
  rw [slite_eq]
  simp only [call_some]
  by_cases h : c ∈ s
  · obtain ⟨h1, h2, h3⟩ := cutAt_some h
    have hl := (cutAt_len c s).2.2 h1
    obtain ⟨t1, t2⟩ := cutAt_take h
    rw [ixb_some h, decide_eq_true (by omega), cond_true]
    rw [chk_true (by omega)]
    simp only [wrapc1 _ c (show (cutAt c s).1.length < 9223372036854775807 by omega)]
    rw [chk_true (by omega)]
    simp only [Int.toNat_natCast, t1, t2, call_some]
    rw [show true = (cutAt c s).2.2 from h1.symm]
  · rw [ixb_none h]
    simp only [show decide ((0 : Int) ≤ -1) = false from rfl, cond_false, call_some]
    rw [cutAt_none h]
theorem drop_cut_count {c : UInt8} {s : Str} (h : c ∈ s) : (cutAt c s).2.1.count c + 1 = s.count c := by
  obtain ⟨h1, h2, h3⟩ := cutAt_some h
  conv => rhs; rw [h2]
  rw [List.count_append, List.count_eq_zero_of_not_mem h3, List.count_cons_self]
  omega
theorem set_take {α : Type} (l : List α) (i : Nat) (x : α) (h : i < l.length) : (l.set i x).take (i + 1) = l.take i ++ [x] := by
  rw [List.take_succ_eq_append_getElem (by simpa using h)]
  simp [List.take_set_of_le]
theorem split_eq (s : Str) (c : UInt8) (hs : s.length ≤ 17179869184) : strings_Split s [c] = some (splitAt c s) := by
  have hcl := List.count_le_length (a := c) (l := s)
  have key : strings_genSplit s [c] 0 (-1) = some (splitAt c s) := by
    unfold strings_genSplit
    obtain ⟨N, hN⟩ : ∃ N, Fuel = N := ⟨_, rfl⟩
    have hN2 : 1099511627776 ≤ N := hN ▸ fuel_ge
    rw [hN]
    clear hN
    have hmin : min ((s.count c + 1 : Nat) : Int) ((s.length + 1 : Nat) : Int) = ((s.count c + 1 : Nat) : Int) := by omega
    simp only [jp_eq, count_eq, call_some, show decide ((-1 : Int) = 0) = false from rfl, show decide ((-1 : Int) < 0) = true from rfl, show decide (([c] : Str) = []) = false from rfl, cond_true, cond_false]
    simp only [wrap1 (s.count c) (by omega), wrap1 s.length (by omega), hmin]
    rw [chk_true (by omega)]
    have hw : IntKind.i64.wrap (((s.count c + 1 : Nat) : Int) - 1) = ((s.count c : Nat) : Int) := by rw [wrapS (by omega) (by omega)]; omega
    simp only [hw, Int.toNat_natCast]
    refine (loopN_run (S := Str × Int × List Str) (fun st => ∃ i : Nat, st.2.1 = i ∧ st.2.2.length = s.count c + 1 ∧ st.1.length ≤ s.length ∧ i + st.1.count c = s.count c) (fun st => s.count c - st.2.1.toNat)
      (fun st => some (st.2.2.take st.2.1.toNat ++ splitAt c st.1)) ?_ N _ ⟨0, rfl, by simp, Nat.le_refl _, by simp⟩ (by simp only; omega)).trans ?_
    · rintro ⟨t, i', o⟩ nx ⟨i, rfl, ho, ht, hc⟩ hnx
      simp only at ho ht hc hnx ⊢
      simp only [index_eq, call_some]
      by_cases hi : i < s.count c
      · have hmem : c ∈ t := by rw [← List.count_pos_iff]; omega
        obtain ⟨h1, h2, h3⟩ := cutAt_some hmem
        have hl := (cutAt_len c t).2.2 h1
        obtain ⟨t1, t2⟩ := cutAt_take hmem
        rw [decide_eq_true (by omega), cond_true, ixb_some hmem, decide_eq_false (by omega), cond_false]
        have hw3 : IntKind.i64.wrap (((cutAt c t).1.length : Int) + 0) = ((cutAt c t).1.length : Int) := by rw [wrapS (by omega) (by omega)]; omega
        have hw4 : IntKind.i64.wrap (((cutAt c t).1.length : Int) + (([c] : Str).length : Int)) = (((cutAt c t).1.length + 1 : Nat) : Int) := wrap1 _ (by omega)
        simp only [hw3, hw4, wrap1 i (by omega), Int.toNat_natCast]
        rw [chk_true (by omega), chk_true (by omega), chk_true (by omega)]
        have hdc := drop_cut_count hmem
        simp only [t1, t2]
        rw [hnx _ ⟨i + 1, rfl, by simpa using ho, by simp only; omega, by simp only; omega⟩ (by simp only [Int.toNat_natCast]; omega)]
        simp only [Int.toNat_natCast]
        rw [set_take o i _ (by omega)]
        congr 1
        rw [show splitAt c t = (cutAt c t).1 :: splitAt c (cutAt c t).2.1 by rw [splitAt_cut, if_pos h1]]
        simp
      · obtain rfl : i = s.count c := by omega
        rw [decide_eq_false (by omega), cond_false]
        have hmem : c ∉ t := by rw [← List.count_pos_iff]; omega
        rw [chk_true (by omega), wrap1 _ (by omega)]
        simp only [Int.toNat_natCast, List.length_set]
        rw [chk_true (by omega), set_take o _ _ (by omega), splitAt_none hmem]
    · simp
  unfold strings_Split
  rw [key]; rfl
end Go.Md
namespace Go.Md
open Go.Vc
def HX : Str := [48, 49, 50, 51, 52, 53, 54, 55, 56, 57, 97, 98, 99, 100, 101, 102]
def hexb (n : Nat) : UInt8 := HX.getD n 0
def isEsc (c : UInt8) : Bool := decide ((c.toNat : Int) = 92) || decide ((c.toNat : Int) = 34)
def isFar (c : UInt8) : Bool := decide ((c.toNat : Int) < 32) || decide (126 < (c.toNat : Int))
def esc (c : UInt8) : Str := bif isEsc c then [92, c] else bif decide ((c.toNat : Int) = 10) then [92, 110] else bif isFar c then [92, 120, hexb (c.toNat / 16), hexb (c.toNat % 16)] else [c]
def body (t : Str) : Str := t.flatMap esc
def quoteS (t : Str) : Str := 34 :: (body t ++ [34])
theorem u8all {p : UInt8 → Prop} (h : ∀ n : Fin 256, p (UInt8.ofNat n.val)) (c : UInt8) : p c := by
  have := h ⟨c.toNat, c.toNat_lt⟩
  simpa using this
theorem hi4 (c : UInt8) : Int.fdiv (c.toNat : Int) (2 ^ (shI .u8 4)) = ((c.toNat / 16 : Nat) : Int) := by
  revert c
  exact u8all (by decide +kernel)
theorem lo4 (c : UInt8) : bitsI .and .u8 (c.toNat : Int) 15 = ((c.toNat % 16 : Nat) : Int) := by
  revert c
  exact u8all (by decide +kernel)
theorem hi4_lt (c : UInt8) : c.toNat / 16 < 16 := by have := c.toNat_lt; omega
theorem lo4_lt (c : UInt8) : c.toNat % 16 < 16 := by omega
theorem hx_get (n : Nat) (h : n < 16) : (HX[n]'(by simpa [HX] using h)) = hexb n := by
  simp [hexb, HX, List.getD_eq_getElem?_getD, h]
theorem hx_idx {Z : Type} (n : Nat) (h : n < 16) (k : Int → Option Z) : idxS HX (n : Int) k = k ((hexb n).toNat : Int) := by
  rw [idxS_eq (by simpa [HX] using h), hx_get n h]
theorem u8i (c : UInt8) : UInt8.ofNat ((c.toNat : Int)).toNat = c := by simp
theorem esc_len (c : UInt8) : (esc c).length ≤ 4 ∧ 1 ≤ (esc c).length := by
  unfold esc
  cases isEsc c <;> cases decide ((c.toNat : Int) = 10) <;> cases isFar c <;> simp
theorem body_len (t : Str) : (body t).length ≤ 4 * t.length := by
  induction t with
  | nil => simp [body]
  | cons c t ih =>
    have := (esc_len c).1
    simp only [body, List.flatMap_cons, List.length_append, List.length_cons] at *
    omega
theorem body_cons (c : UInt8) (t : Str) : body (c :: t) = esc c ++ body t := by simp [body]
theorem quoteS_len (t : Str) : (quoteS t).length ≤ 4 * t.length + 2 := by
  have := body_len t
  simp only [quoteS, List.length_cons, List.length_append, List.length_nil]; omega
theorem takeHex (n : Nat) (h : n < 16) : List.take ((IntKind.u8.wrap ((n : Int) + 1)).toNat - ((n : Int)).toNat) (List.drop ((n : Int)).toNat HX) = [hexb n] := by
  have : ∀ m : Fin 16, List.take ((IntKind.u8.wrap (((m.val : Nat) : Int) + 1)).toNat - (((m.val : Nat) : Int)).toNat) (List.drop (((m.val : Nat) : Int)).toNat HX) = [hexb m.val] := by decide +kernel
  exact this ⟨n, h⟩
theorem wrapHex (n : Nat) (h : n < 16) : IntKind.u8.wrap ((n : Int) + 1) = ((n + 1 : Nat) : Int) := by
  have : ∀ m : Fin 16, IntKind.u8.wrap (((m.val : Nat) : Int) + 1) = ((m.val + 1 : Nat) : Int) := by decide +kernel
  exact this ⟨n, h⟩
theorem hxl : HX.length = 16 := rfl
theorem R_Quote_eq (s : Str) (hs : s.length ≤ 17179869184) : R_Quote s = some (quoteS s) := by
  unfold R_Quote
  simp only [jp_eq, show ([48, 49, 50, 51, 52, 53, 54, 55, 56, 57, 97, 98, 99, 100, 101, 102] : Str) = HX from rfl]
  refine (forL_run (fun i l (o : Str) => o.length + 4 * l.length ≤ 4 * s.length + 1 ∧ s.drop i = l) (fun i l o => some (o ++ (body l ++ [34]))) (fun i o h => ?_) (fun i c l o nx h hnx => ?_) s 0 _ ?_).trans ?_
  · simp only [List.length_nil] at h
    rw [chk_true (by simp; omega)]
    rfl
  · obtain ⟨h, hd⟩ := h
    simp only [List.length_cons] at h
    have hi : i < s.length := by
      rcases Nat.lt_or_ge i s.length with h | h
      · exact h
      · rw [List.drop_eq_nil_of_le h] at hd; cases hd
    have hd' : s.drop (i + 1) = l := by
      have := congrArg List.tail hd
      simpa using this
    have ht : List.take ((((i + 1 : Nat) : Int)).toNat - i) (List.drop i s) = [c] := by
      rw [hd, Int.toNat_natCast, Nat.add_sub_cancel_left]; rfl
    simp only [wrap1 i (by omega), ht]
    rw [body_cons]
    unfold esc isEsc
    rw [show (decide ((c.toNat : Int) = 34) || decide ((c.toNat : Int) = 92)) = (decide ((c.toNat : Int) = 92) || decide ((c.toNat : Int) = 34)) from Bool.or_comm _ _]
    cases h1 : decide ((c.toNat : Int) = 92) || decide ((c.toNat : Int) = 34) with
    | true =>
      simp only [cond_true]
      rw [chk_true (by omega), chk_true (by simp), chk_true (by simp; omega), hnx _ ⟨by simp; omega, hd'⟩]
      simp
    | false =>
      simp only [cond_false]
      cases h2 : decide ((c.toNat : Int) = 10) with
      | true =>
        simp only [cond_true]
        rw [chk_true (by simp; omega), hnx _ ⟨by simp; omega, hd'⟩]
        simp
      | false =>
        simp only [cond_false]
        unfold isFar
        cases h3 : decide ((c.toNat : Int) < 32) || decide (126 < (c.toNat : Int)) with
        | true =>
          have a1 := hi4_lt c
          have a2 := lo4_lt c
          simp only [cond_true, hi4, lo4]
          simp only [takeHex _ a1, takeHex _ a2]
          simp only [wrapHex _ a1, wrapHex _ a2, hxl]
          rw [chk_true (by omega), chk_true (by simp), chk_true (by omega), chk_true (by simp), chk_true (by simp; omega), hnx _ ⟨by simp; omega, hd'⟩]
          simp
        | false =>
          simp only [cond_false]
          rw [chk_true (by omega), chk_true (by simp; omega), hnx _ ⟨by simp; omega, hd'⟩]
          simp
  · exact ⟨by simp; omega, rfl⟩
  · rfl
end Go.Md
namespace Go.Md
open Go.Vc
def hexv (c : UInt8) : Int := ixb HX c
theorem hexv_cases (c : UInt8) : hexv c = -1 ∨ ∃ a : Fin 16, hexv c = (a.val : Int) ∧ c = hexb a.val := by
  revert c
  exact u8all (by decide +kernel)
theorem hexv_hexb (n : Nat) (h : n < 16) : hexv (hexb n) = n := by
  have : ∀ m : Fin 16, hexv (hexb m.val) = (m.val : Int) := by decide +kernel
  exact this ⟨n, h⟩
/-- What stands behind a backslash: the byte, and how long it is. -/
def escR : Str → Int × Int
  | [] => (0, 0)
  | c :: r => bif isEsc c then ((c.toNat : Int), 1) else bif decide ((c.toNat : Int) = 110) then (10, 1) else bif !decide ((c.toNat : Int) = 120) then (0, 0) else match r with
    | h :: l :: _ => bif decide (hexv h < 0) || decide (hexv l < 0) then (0, 0) else bif (decide (32 ≤ 16 * hexv h + hexv l) && decide (16 * hexv h + hexv l ≤ 126)) || decide (16 * hexv h + hexv l = 10) then (0, 0) else (16 * hexv h + hexv l, 3)
    | _ => (0, 0)
theorem escR_bd (r : Str) : 0 ≤ (escR r).2 ∧ (escR r).2 ≤ r.length ∧ (escR r).2 ≤ 3 ∧ 0 ≤ (escR r).1 ∧ (escR r).1 ≤ 255 := by
  cases r with
  | nil => simp [escR]
  | cons c r =>
    have hc := c.toNat_lt
    simp only [escR]
    cases isEsc c
    · cases decide ((c.toNat : Int) = 110)
      · cases decide ((c.toNat : Int) = 120)
        · simp; omega
        · rcases r with _ | ⟨h, _ | ⟨l, r⟩⟩
          · simp
          · simp; try omega
          · simp only [cond_false, Bool.not_true]
            rcases hexv_cases h with h1 | ⟨a, h1, _⟩
            · simp [h1]; omega
            rcases hexv_cases l with h2 | ⟨b, h2, _⟩
            · simp [h2]; omega
            have := a.isLt
            have := b.isLt
            simp only [h1, h2]
            cases decide (((a.val : Nat) : Int) < 0) || decide (((b.val : Nat) : Int) < 0)
            · simp only [cond_false]
              generalize (decide (32 ≤ 16 * ((a.val : Nat) : Int) + ((b.val : Nat) : Int)) && decide (16 * ((a.val : Nat) : Int) + ((b.val : Nat) : Int) ≤ 126) || decide (16 * ((a.val : Nat) : Int) + ((b.val : Nat) : Int) = 10)) = q
              cases q
              · simp only [cond_false, List.length_cons]; omega
              · simp; omega
            · simp; omega
      · simp; omega
    · simp only [cond_true, List.length_cons]; omega
theorem escR_esc {x : UInt8} (h : isEsc x = true) (r : Str) : escR (x :: r) = ((x.toNat : Int), 1) := by simp only [escR, h, cond_true]
theorem escR_bad {x : UInt8} (h : isEsc x = false) (h2 : decide ((x.toNat : Int) = 110) = false) (h3 : decide ((x.toNat : Int) = 120) = false) (r : Str) : escR (x :: r) = (0, 0) := by simp only [escR, h, h2, h3, cond_false, Bool.not_false, cond_true]
theorem escR_hex (h l : UInt8) (r : Str) : escR (120 :: h :: l :: r) = bif decide (hexv h < 0) || decide (hexv l < 0) then (0, 0) else bif (decide (32 ≤ 16 * hexv h + hexv l) && decide (16 * hexv h + hexv l ≤ 126)) || decide (16 * hexv h + hexv l = 10) then (0, 0) else (16 * hexv h + hexv l, 3) := rfl
theorem escR_hexq (m n : Nat) (hm : m < 16) (hn : n < 16) (r : Str) : escR (120 :: hexb m :: hexb n :: r) = bif (decide (32 ≤ 16 * (m : Int) + (n : Int)) && decide (16 * (m : Int) + (n : Int) ≤ 126)) || decide (16 * (m : Int) + (n : Int) = 10) then (0, 0) else (16 * (m : Int) + (n : Int), 3) := by
  rw [escR_hex, hexv_hexb m hm, hexv_hexb n hn, decide_eq_false (by omega), decide_eq_false (by omega)]
  rfl
theorem ibyte_eq (s : Str) (c : UInt8) : strings_IndexByte s (c.toNat : Int) = some (ixb s c) := by
  unfold strings_IndexByte internal_stringslite_IndexByte
  rw [indexByte_u8]; rfl
theorem wrapB (n : Int) (h : 0 ≤ n) (h2 : n ≤ 255) : IntKind.u8.wrap n = n := by
  rw [wrap8 h h2]
theorem disk_escape_eq (s : Str) : disk_escape s = some (escR s) := by
  unfold disk_escape
  cases s with
  | nil => rfl
  | cons c r =>
    simp only [show decide (c :: r = ([] : Str)) = false from rfl, cond_false]
    rw [show idxS (c :: r) 0 = idxS (c :: r) ((0 : Nat) : Int) from rfl, idxS_eq (by simp)]
    simp only [List.getElem_cons_zero]
    simp only [escR]
    rw [show (decide ((c.toNat : Int) = 92) || decide ((c.toNat : Int) = 34)) = isEsc c from rfl]
    cases isEsc c
    · simp only [cond_false]
      cases decide ((c.toNat : Int) = 110)
      · simp only [cond_false]
        cases decide ((c.toNat : Int) = 120)
        · rfl
        · simp only [Bool.not_true, Bool.false_or, cond_false]
          rcases r with _ | ⟨h, _ | ⟨l, r⟩⟩
          · rfl
          · rfl
          · rw [decide_eq_false (by simp only [List.length_cons]; omega), cond_false, show idxS (c :: h :: l :: r) 1 = idxS (c :: h :: l :: r) ((1 : Nat) : Int) from rfl, idxS_eq (by simp)]
            simp only [List.getElem_cons_succ, List.getElem_cons_zero, show ([48, 49, 50, 51, 52, 53, 54, 55, 56, 57, 97, 98, 99, 100, 101, 102] : Str) = HX from rfl, ibyte_eq, call_some]
            rw [show idxS (c :: h :: l :: r) 2 = idxS (c :: h :: l :: r) ((2 : Nat) : Int) from rfl, idxS_eq (by simp)]
            simp only [List.getElem_cons_succ, List.getElem_cons_zero, ibyte_eq, call_some]
            rw [show ixb HX h = hexv h from rfl, show ixb HX l = hexv l from rfl]
            rcases hexv_cases h with h1 | ⟨a, h1, _⟩
            · rw [h1]; rfl
            rcases hexv_cases l with h2 | ⟨b, h2, _⟩
            · rw [h2]; simp
            have ha := a.isLt
            have hb := b.isLt
            rw [h1, h2, decide_eq_false (by omega), decide_eq_false (by omega)]
            simp only [Bool.or_false, cond_false]
            rw [wrapS (n := 16 * ((a.val : Nat) : Int)) (by omega) (by omega), wrapS (n := 16 * ((a.val : Nat) : Int) + ((b.val : Nat) : Int)) (by omega) (by omega), wrapB _ (by omega) (by omega)]
            generalize (decide (32 ≤ 16 * ((a.val : Nat) : Int) + ((b.val : Nat) : Int)) && decide (16 * ((a.val : Nat) : Int) + ((b.val : Nat) : Int) ≤ 126) || decide (16 * ((a.val : Nat) : Int) + ((b.val : Nat) : Int) = 10)) = q
            cases q <;> rfl
      · rfl
    · rfl
/-- The first byte that is told, and what stands behind it. -/
def sym : Str → Option (UInt8 × Str)
  | [] => none
  | c :: r => bif isFar c || decide ((c.toNat : Int) = 34) then none else bif decide ((c.toNat : Int) = 92) then (bif decide ((escR r).2 = 0) then none else some (UInt8.ofNat (escR r).1.toNat, r.drop (escR r).2.toNat)) else some (c, r)
theorem far_hex (x : UInt8) (h1 : isEsc x = false) (h2 : decide ((x.toNat : Int) = 10) = false) (h3 : isFar x = true) (r : Str) : escR (120 :: hexb (x.toNat / 16) :: hexb (x.toNat % 16) :: r) = ((x.toNat : Int), 3) := by
  have a1 := hi4_lt x
  have a2 := lo4_lt x
  simp only [escR]
  rw [show isEsc 120 = false from rfl, show decide ((((120 : UInt8).toNat : Nat) : Int) = 110) = false from rfl, show decide ((((120 : UInt8).toNat : Nat) : Int) = 120) = true from rfl]
  simp only [cond_false, Bool.not_true, hexv_hexb _ a1, hexv_hexb _ a2]
  have e : 16 * ((x.toNat / 16 : Nat) : Int) + ((x.toNat % 16 : Nat) : Int) = (x.toNat : Int) := by omega
  rw [e, decide_eq_false (by omega), decide_eq_false (by omega)]
  simp only [Bool.or_self, cond_false, h2, Bool.or_false]
  have : (decide (32 ≤ (x.toNat : Int)) && decide ((x.toNat : Int) ≤ 126)) = false := by
    unfold isFar at h3
    simp only [Bool.or_eq_true, decide_eq_true_eq] at h3
    simp only [Bool.and_eq_false_iff, decide_eq_false_iff_not]
    omega
  rw [this]; rfl
theorem sym_esc (x : UInt8) (r : Str) : sym (esc x ++ r) = some (x, r) := by
  unfold esc
  cases h1 : isEsc x
  · cases h2 : decide ((x.toNat : Int) = 10)
    · cases h3 : isFar x
      · simp only [cond_false, List.cons_append, List.nil_append]
        simp only [sym]
        unfold isEsc at h1
        simp only [Bool.or_eq_false_iff] at h1
        rw [h3, h1.1, h1.2]; rfl
      · simp only [cond_false, cond_true, List.cons_append, List.nil_append]
        simp only [sym]
        rw [far_hex x h1 h2 h3]
        simp
        rfl
    · simp only [cond_false, cond_true, List.cons_append, List.nil_append]
      have : x = 10 := by
        have h := of_decide_eq_true h2
        have : x.toNat = 10 := by omega
        exact UInt8.toNat_inj.1 this
      subst this
      rfl
  · simp only [cond_true, List.cons_append, List.nil_append]
    simp only [sym, escR_esc h1]
    simp
    rfl
theorem sym_spec {r r2 : Str} {x : UInt8} (h : sym r = some (x, r2)) : r = esc x ++ r2 := by
  cases r with
  | nil => cases h
  | cons c r =>
    simp only [sym] at h
    cases hf : isFar c || decide ((c.toNat : Int) = 34)
    · rw [hf, cond_false] at h
      simp only [Bool.or_eq_false_iff] at hf
      cases hb : decide ((c.toNat : Int) = 92)
      · rw [hb, cond_false] at h
        cases h
        unfold esc isEsc
        rw [hb, hf.2]
        have : decide ((x.toNat : Int) = 10) = false := by
          have := hf.1
          unfold isFar at this
          simp only [Bool.or_eq_false_iff, decide_eq_false_iff_not] at this
          simp only [decide_eq_false_iff_not]
          omega
        rw [this, hf.1]; rfl
      · rw [hb, cond_true] at h
        have hc : c = 92 := by
          have h := of_decide_eq_true hb
          have : c.toNat = 92 := by omega
          exact UInt8.toNat_inj.1 this
        subst hc
        cases r with
        | nil => simp [escR] at h
        | cons d r =>
          cases he : isEsc d
          · cases hn : decide ((d.toNat : Int) = 110)
            · cases hx : decide ((d.toNat : Int) = 120)
              · rw [escR_bad he hn hx] at h; simp at h
              · have hd : d = 120 := by
                  have h := of_decide_eq_true hx
                  have : d.toNat = 120 := by omega
                  exact UInt8.toNat_inj.1 this
                subst hd
                rcases r with _ | ⟨a, _ | ⟨b, r⟩⟩
                · rw [show escR [120] = (0, 0) from rfl] at h; simp at h
                · rw [show escR [120, a] = (0, 0) from rfl] at h; simp at h
                · rcases hexv_cases a with h1 | ⟨m, h1, rfl⟩
                  · rw [escR_hex, h1] at h; simp at h
                  rcases hexv_cases b with h2 | ⟨n, h2, rfl⟩
                  · rw [escR_hex, h2] at h; simp at h
                  have hm := m.isLt
                  have hn' := n.isLt
                  have hE := escR_hexq m.val n.val hm hn' r
                  cases hq : (decide (32 ≤ 16 * ((m.val : Nat) : Int) + ((n.val : Nat) : Int)) && decide (16 * ((m.val : Nat) : Int) + ((n.val : Nat) : Int) ≤ 126)) || decide (16 * ((m.val : Nat) : Int) + ((n.val : Nat) : Int) = 10)
                  · rw [hq, cond_false] at hE
                    rw [hE] at h
                    rw [show decide ((3 : Int) = 0) = false from rfl, cond_false] at h
                    have h' := Option.some.inj h
                    have hx' : UInt8.ofNat (16 * ((m.val : Nat) : Int) + ((n.val : Nat) : Int)).toNat = x := congrArg Prod.fst h'
                    have hr' : List.drop (3 : Int).toNat (120 :: hexb m.val :: hexb n.val :: r) = r2 := congrArg Prod.snd h'
                    have hr2 : r = r2 := hr'
                    have hxn : x.toNat = 16 * m.val + n.val := by
                      rw [← hx', UInt8.toNat_ofNat']
                      omega
                    simp only [Bool.or_eq_false_iff, Bool.and_eq_false_iff, decide_eq_false_iff_not] at hq
                    unfold esc
                    have e1 : isEsc x = false := by
                      unfold isEsc
                      simp only [Bool.or_eq_false_iff, decide_eq_false_iff_not]
                      omega
                    have e2 : decide ((x.toNat : Int) = 10) = false := by simp only [decide_eq_false_iff_not]; omega
                    have e3 : isFar x = true := by
                      unfold isFar
                      simp only [Bool.or_eq_true, decide_eq_true_eq]
                      omega
                    rw [e1, e2, e3, hxn, show (16 * m.val + n.val) / 16 = m.val by omega, show (16 * m.val + n.val) % 16 = n.val by omega, ← hr2]
                    rfl
                  · rw [hq, cond_true] at hE
                    rw [hE] at h; simp at h
            · have hd : d = 110 := by
                have h := of_decide_eq_true hn
                have : d.toNat = 110 := by omega
                exact UInt8.toNat_inj.1 this
              subst hd
              have h' : some ((10 : UInt8), r) = some (x, r2) := h
              cases h'
              rfl
          · rw [escR_esc he] at h
            simp only [] at h
            rw [show decide ((1 : Int) = 0) = false from rfl, cond_false, u8i] at h
            cases h
            unfold esc
            rw [he]; rfl
    · rw [hf, cond_true] at h; cases h
def undo : Nat → Str → Option Str
  | n, [] => some []
  | 0, _ :: _ => none
  | n + 1, c :: r => (sym (c :: r)).bind fun p => (undo n p.2).map (p.1 :: ·)
theorem undo_nil (n : Nat) : undo n [] = some [] := by cases n <;> rfl
theorem undo_zero (c : UInt8) (r : Str) : undo 0 (c :: r) = none := rfl
theorem undo_cons (n : Nat) (c : UInt8) (r : Str) : undo (n + 1) (c :: r) = (sym (c :: r)).bind fun p => (undo n p.2).map (p.1 :: ·) := rfl
theorem esc_ne (x : UInt8) : esc x ≠ [] := by
  have := (esc_len x).2
  intro h; rw [h] at this; simp at this
theorem undo_body : ∀ (t : Str) (n : Nat), t.length ≤ n → undo n (body t) = some t
  | [], n, _ => undo_nil n
  | x :: t, 0, h => by simp at h
  | x :: t, n + 1, h => by
    rw [body_cons]
    have hs := sym_esc x (body t)
    have hne : esc x ++ body t ≠ [] := fun h => esc_ne x (List.append_eq_nil_iff.1 h).1
    obtain ⟨c, r, hb⟩ := List.exists_cons_of_ne_nil hne
    rw [hb] at hs ⊢
    rw [undo_cons, hs, Option.bind_some, undo_body t n (by simpa using h)]; rfl
theorem undo_sound : ∀ (n : Nat) (r t : Str), undo n r = some t → body t = r
  | n, [], t, h => by
    rw [undo_nil] at h
    obtain rfl := Option.some.inj h
    rfl
  | 0, c :: r, t, h => by rw [undo_zero] at h; cases h
  | n + 1, c :: r, t, h => by
    rw [undo_cons] at h
    obtain ⟨p, hs, h⟩ := Option.bind_eq_some_iff.1 h
    obtain ⟨t2, hu, h⟩ := Option.map_eq_some_iff.1 h
    rw [← h, body_cons, undo_sound n p.2 t2 hu]
    exact (sym_spec (x := p.1) (r2 := p.2) hs).symm
theorem sym_len {r r2 : Str} {x : UInt8} (h : sym r = some (x, r2)) : r2.length < r.length := by
  have := sym_spec h
  have hl := (esc_len x).2
  rw [this, List.length_append]; omega
theorem bind_ext {α β : Type} {o : Option α} {f g : α → Option β} (h : ∀ p, o = some p → f p = g p) : o.bind f = o.bind g := by
  cases o with
  | none => rfl
  | some p => exact h p rfl
theorem undo_stable : ∀ (n : Nat) (r : Str), r.length ≤ n → undo n r = undo r.length r
  | n, [], _ => by rw [undo_nil, undo_nil]
  | 0, c :: r, h => by simp at h
  | n + 1, c :: r, h => by
    rw [List.length_cons, undo_cons, undo_cons]
    refine bind_ext fun p hs => ?_
    have hl := sym_len (x := p.1) (r2 := p.2) hs
    rw [List.length_cons] at hl h
    rw [undo_stable n p.2 (by omega), undo_stable r.length p.2 (by omega)]
def undoF (r : Str) : Option Str := undo r.length r
theorem undoF_step {c : UInt8} {r : Str} : undoF (c :: r) = (sym (c :: r)).bind fun p => (undoF p.2).map (p.1 :: ·) := by
  unfold undoF
  rw [List.length_cons, undo_cons]
  refine bind_ext fun p hs => ?_
  have hl := sym_len (x := p.1) (r2 := p.2) hs
  rw [List.length_cons] at hl
  rw [undo_stable r.length p.2 (by omega)]
theorem body_ge (t : Str) : t.length ≤ (body t).length := by
  induction t with
  | nil => simp
  | cons c t ih =>
    have := (esc_len c).2
    rw [body_cons, List.length_append, List.length_cons]
    omega
theorem undoF_body (t : Str) : undoF (body t) = some t := undo_body t _ (body_ge t)
theorem undoF_sound {r t : Str} (h : undoF r = some t) : body t = r := undo_sound _ _ _ h
/-- What stands between the quotes, read. -/
def fin (o : Option Str) : Str × Int := match o with
  | some t => (t, 0)
  | none => ([], 8)
def mid (s : Str) : Str := (s.drop 1).take (s.length - 2)
def quoted (s : Str) : Bool := !((decide ((s.length : Int) < 2) || !decide (((s.getD 0 0).toNat : Int) = 34)) || !decide (((s.getD (s.length - 1) 0).toNat : Int) = 34))
def unqS (s : Str) : Str × Int := bif quoted s then fin (undoF (mid s)) else ([], 8)
theorem idx_last (s : Str) (h : 2 ≤ s.length) (h2 : s.length ≤ 17179869184) : IntKind.i64.wrap ((s.length : Int) - 1) = ((s.length - 1 : Nat) : Int) := wrapm1 _ (by omega) (by omega)
theorem disk_Unquote_eq (s : Str) (hs : s.length ≤ 17179869184) : disk_Unquote s = some (unqS s) := by
  unfold disk_Unquote unqS quoted
  obtain ⟨N, hN⟩ : ∃ N, Fuel = N := ⟨_, rfl⟩
  have hN2 : 1099511627776 ≤ N := hN ▸ fuel_ge
  rw [hN]
  clear hN
  by_cases h2 : 2 ≤ s.length
  rotate_left
  · rw [show decide ((s.length : Int) < 2) = true by simp; omega]
    simp only [Bool.not_true, Bool.true_or]
    rw [chk_true (by intro h; cases h), chk_true (by intro h; cases h)]
    rfl
  rw [show decide ((s.length : Int) < 2) = false by simp; omega]
  rw [idx_last s h2 hs]
  simp only [Bool.false_or, Int.toNat_natCast]
  rw [chk_true (by intro _; omega), chk_true (by intro _; omega)]
  generalize (!decide (((s.getD 0 0).toNat : Int) = 34) || !decide (((s.getD (s.length - 1) 0).toNat : Int) = 34)) = q
  cases q
  rotate_left
  · rfl
  have hm : List.take (s.length - 1 - 1) (List.drop 1 s) = mid s := by unfold mid; congr 1
  simp only [cond_false, Bool.not_false, cond_true, hm, jp_eq]
  have hml : (mid s).length = s.length - 2 := by simp [mid]; omega
  rw [chk_true (by omega), chk_true (by omega)]
  refine (loopN_run (S := Int × List Int) (fun st => ∃ i : Nat, st.1 = i ∧ i ≤ (mid s).length ∧ st.2.length ≤ i) (fun st => (mid s).length - st.1.toNat) (fun st => some (fin ((undoF ((mid s).drop st.1.toNat)).map (strOf st.2 ++ ·)))) ?_ N _ ⟨0, rfl, by omega, by simp⟩ (by simp only; omega)).trans ?_
  · rintro ⟨i', o⟩ nx ⟨i, rfl, hi, ho⟩ hnx
    simp only at ho hnx ⊢
    by_cases hlt : i < (mid s).length
    · rw [decide_eq_true (by omega), cond_true, idxS_eq hlt]
      simp only [Int.toNat_natCast]
      rw [List.drop_eq_getElem_cons hlt, undoF_step]
      generalize hcc : (mid s)[i] = c
      rw [show ((decide ((c.toNat : Int) < 32) || decide (126 < (c.toNat : Int))) || decide ((c.toNat : Int) = 34)) = (isFar c || decide ((c.toNat : Int) = 34)) from rfl]
      simp only [sym]
      cases hf : isFar c || decide ((c.toNat : Int) = 34)
      · simp only [cond_false]
        cases hb : decide ((c.toNat : Int) = 92)
        · simp only [cond_false]
          rw [wrap1 i (by omega), chk_true (by simp; omega), hnx _ ⟨i + 1, rfl, by omega, by simp; omega⟩ (by simp only [Int.toNat_natCast]; omega)]
          simp only [Int.toNat_natCast]
          rw [Option.bind_some]
          cases undoF ((mid s).drop (i + 1)) with
          | none => rfl
          | some t => simp only [Option.map_some, strOf_append, strOf_cons, strOf_nil, u8i]; simp [fin]
        · simp only [cond_true]
          rw [wrap1 i (by omega), chk_true (by omega)]
          simp only [Int.toNat_natCast, disk_escape_eq, call_some]
          have hbd := escR_bd ((mid s).drop (i + 1))
          rw [List.length_drop] at hbd
          generalize hE : escR ((mid s).drop (i + 1)) = E at hbd
          obtain ⟨x, n⟩ := E
          simp only at hbd ⊢
          cases hz : decide (n = 0)
          · simp only [cond_false]
            have hn0 : n ≠ 0 := of_decide_eq_false hz
            rw [chk_true (by simp; omega), wrapS (n := (i : Int) + n) (by omega) (by omega), wrapS (n := (i : Int) + n + 1) (by omega) (by omega)]
            have e : (i : Int) + n + 1 = ((i + n.toNat + 1 : Nat) : Int) := by omega
            rw [e, hnx _ ⟨i + n.toNat + 1, rfl, by omega, by simp; omega⟩ (by simp only [Int.toNat_natCast]; omega)]
            simp only [Int.toNat_natCast, List.drop_drop]
            rw [show i + 1 + n.toNat = i + n.toNat + 1 by omega]
            rw [Option.bind_some]
            simp only
            cases undoF ((mid s).drop (i + n.toNat + 1)) with
            | none => rfl
            | some t => simp only [Option.map_some, strOf_append, strOf_cons, strOf_nil]; simp [fin]
          · rfl
      · rfl
    · obtain rfl : i = (mid s).length := by omega
      rw [decide_eq_false (by omega), cond_false, Int.toNat_natCast, List.drop_length]
      show _ = some (strOf o ++ [], (0 : Int))
      rw [List.append_nil]
  · simp only [Int.toNat_zero, List.drop_zero, List.replicate]
    cases undoF (mid s) with
    | none => rfl
    | some t => rfl
end Go.Md
namespace Go.Md
open Go.Vc
def hexw (h l : UInt8) : Int := IntKind.u8.wrap (IntKind.i64.wrap ((IntKind.i64.wrap (hexv h * 16)) + hexv l))
def isEsc' (c : UInt8) : Bool := decide ((c.toNat : Int) = 34) || decide ((c.toNat : Int) = 92)
theorem isEsc'_eq (c : UInt8) : isEsc' c = isEsc c := Bool.or_comm _ _
def lsym2 : Str → Option (Int × Str)
  | d :: r => bif isEsc' d then some ((d.toNat : Int), r) else bif decide ((d.toNat : Int) = 110) then some (10, r) else bif decide ((d.toNat : Int) = 120) then (match r with
    | h :: l :: r' => some (hexw h l, r')
    | _ => none) else none
  | [] => none
def lsym : Str → Option (Int × Str)
  | [] => none
  | c :: r => bif !decide ((c.toNat : Int) = 92) then some ((c.toNat : Int), r) else lsym2 r
theorem hexw_eq (m n : Nat) (hm : m < 16) (hn : n < 16) : hexw (hexb m) (hexb n) = 16 * m + n := by
  unfold hexw
  rw [hexv_hexb m hm, hexv_hexb n hn, wrapS (n := (m : Int) * 16) (by omega) (by omega), wrapS (n := (m : Int) * 16 + n) (by omega) (by omega), wrapB _ (by omega) (by omega)]
  omega
theorem hexw_bd (h l : UInt8) : 0 ≤ hexw h l ∧ hexw h l ≤ 255 := by
  unfold hexw
  have := Fits.wrap .u8 (IntKind.i64.wrap ((IntKind.i64.wrap (hexv h * 16)) + hexv l))
  simpa only [Fits, lo, hi] using this
theorem lsym_esc (x : UInt8) (r : Str) : lsym (esc x ++ r) = some ((x.toNat : Int), r) := by
  unfold esc
  cases h1 : isEsc x
  · cases h2 : decide ((x.toNat : Int) = 10)
    · cases h3 : isFar x
      · simp only [cond_false, List.cons_append, List.nil_append, lsym]
        unfold isEsc at h1
        simp only [Bool.or_eq_false_iff] at h1
        rw [h1.1]; rfl
      · simp only [cond_false, cond_true, List.cons_append, List.nil_append, lsym]
        have a1 := hi4_lt x
        have a2 := lo4_lt x
        show some (hexw (hexb (x.toNat / 16)) (hexb (x.toNat % 16)), r) = _
        rw [hexw_eq _ _ a1 a2]
        congr 2
        omega
    · simp only [cond_false, cond_true, List.cons_append, List.nil_append]
      have h := of_decide_eq_true h2
      rw [h]; rfl
  · simp only [cond_true, List.cons_append, List.nil_append, lsym]
    show lsym2 (x :: r) = _
    simp only [lsym2, isEsc'_eq, h1, cond_true]
theorem lsym_len {r : Str} {p : Int × Str} (h : lsym r = some p) : p.2.length < r.length := by
  cases r with
  | nil => cases h
  | cons c r =>
    simp only [lsym] at h
    cases hc : !decide ((c.toNat : Int) = 92)
    · rw [hc, cond_false] at h
      cases r with
      | nil => cases h
      | cons d r =>
        simp only [lsym2] at h
        cases h1 : isEsc' d
        · rw [h1, cond_false] at h
          cases h2 : decide ((d.toNat : Int) = 110)
          · rw [h2, cond_false] at h
            cases h3 : decide ((d.toNat : Int) = 120)
            · rw [h3, cond_false] at h; cases h
            · rw [h3, cond_true] at h
              rcases r with _ | ⟨a, _ | ⟨b, r⟩⟩
              · cases h
              · cases h
              · have := (Option.some.inj h).symm
                rw [this]; simp only [List.length_cons]; omega
          · rw [h2, cond_true] at h
            have := (Option.some.inj h).symm
            rw [this]; simp only [List.length_cons]; omega
        · rw [h1, cond_true] at h
          have := (Option.some.inj h).symm
          rw [this]; simp only [List.length_cons]; omega
    · rw [hc, cond_true] at h
      have := (Option.some.inj h).symm
      rw [this]; simp only [List.length_cons]; omega
def lund : Nat → Str → List Int → Option (List Int)
  | n, [], o => some o
  | 0, _ :: _, _ => none
  | n + 1, c :: r, o => (lsym (c :: r)).bind fun p => lund n p.2 (o ++ [p.1])
theorem lund_nil (n : Nat) (o : List Int) : lund n [] o = some o := by cases n <;> rfl
theorem lund_cons (n : Nat) (c : UInt8) (r : Str) (o : List Int) : lund (n + 1) (c :: r) o = (lsym (c :: r)).bind fun p => lund n p.2 (o ++ [p.1]) := rfl
theorem lund_stable : ∀ (n : Nat) (r : Str) (o : List Int), r.length ≤ n → lund n r o = lund r.length r o
  | n, [], o, _ => by rw [lund_nil, lund_nil]
  | 0, c :: r, o, h => by simp at h
  | n + 1, c :: r, o, h => by
    rw [List.length_cons, lund_cons, lund_cons]
    refine bind_ext fun p hs => ?_
    have hl := lsym_len hs
    rw [List.length_cons] at hl h
    rw [lund_stable n p.2 _ (by omega), lund_stable r.length p.2 _ (by omega)]
def lundF (r : Str) (o : List Int) : Option (List Int) := lund r.length r o
theorem lundF_step {c : UInt8} {r : Str} {o : List Int} : lundF (c :: r) o = (lsym (c :: r)).bind fun p => lundF p.2 (o ++ [p.1]) := by
  unfold lundF
  rw [List.length_cons, lund_cons]
  refine bind_ext fun p hs => ?_
  have hl := lsym_len hs
  rw [List.length_cons] at hl
  rw [lund_stable r.length p.2 _ (by omega)]
theorem lundF_body : ∀ (t : Str) (o : List Int), lundF (body t) o = some (o ++ bytesOf t)
  | [], o => by rw [show body [] = [] from rfl]; simp [lundF, lund_nil, bytesOf]
  | x :: t, o => by
    rw [body_cons]
    have hs := lsym_esc x (body t)
    have hne : esc x ++ body t ≠ [] := fun h => esc_ne x (List.append_eq_nil_iff.1 h).1
    obtain ⟨c, r, hb⟩ := List.exists_cons_of_ne_nil hne
    rw [hb] at hs ⊢
    rw [lundF_step, hs, Option.bind_some, lundF_body t]
    simp [bytesOf]
theorem strOf_bytes (t : Str) : strOf (bytesOf t) = t := strOf_bytesOf t
theorem quoted_spec (s : Str) (h : quoted s = true) : s = 34 :: (mid s ++ [34]) := by
  unfold quoted at h
  simp only [Bool.not_eq_true', Bool.or_eq_false_iff, decide_eq_false_iff_not, Bool.not_eq_false', decide_eq_true_eq] at h
  obtain ⟨⟨h1, h2⟩, h3⟩ := h
  rcases s with _ | ⟨c, r⟩
  · simp at h1
  have hr : r ≠ [] := by rintro rfl; simp at h1
  have hc : c = 34 := by
    have : c.toNat = 34 := by rw [List.getD_cons_zero] at h2; omega
    exact UInt8.toNat_inj.1 this
  have hrl : 0 < r.length := List.length_pos_iff.2 hr
  have hl : r.getLast hr = 34 := by
    rw [show (c :: r).length - 1 = (r.length - 1) + 1 by simp; omega, List.getD_cons_succ, List.getD_eq_getElem?_getD, List.getElem?_eq_getElem (by omega), Option.getD_some] at h3
    rw [List.getLast_eq_getElem]
    have : (r[r.length - 1]'(by omega)).toNat = 34 := by omega
    exact UInt8.toNat_inj.1 this
  have hm : mid (c :: r) = r.dropLast := by
    unfold mid
    rw [List.dropLast_eq_take]
    simp
  rw [hm, hc]
  congr 1
  rw [← hl]
  exact (List.dropLast_concat_getLast hr).symm
theorem two_get (c d : UInt8) (r : Str) : (c :: d :: r).getD 1 0 = d := rfl
theorem take1 (b : Str) (n : Nat) (h : n < b.length) (m : Nat) (hm : m - n = 1) : List.take (m - n) (List.drop n b) = [b[n]] := by
  rw [hm, List.drop_eq_getElem_cons h]; rfl
theorem R_Unquote_eq (s : Str) (hs : s.length ≤ 17179869184) : R_Unquote s = some (unqS s) := by
  unfold R_Unquote unqS
  obtain ⟨N, hN⟩ : ∃ N, Fuel = N := ⟨_, rfl⟩
  have hN2 : 1099511627776 ≤ N := hN ▸ fuel_ge
  rw [hN]
  clear hN
  cases hq : quoted s
  · unfold quoted at hq
    simp only [Bool.not_eq_false'] at hq
    by_cases h2 : 2 ≤ s.length
    · rw [show decide ((s.length : Int) < 2) = false by simp; omega] at hq ⊢
      rw [idx_last s h2 hs]
      simp only [Bool.false_or, Int.toNat_natCast] at hq ⊢
      rw [chk_true (by intro _; omega), chk_true (by intro _; omega), hq]
      rfl
    · rw [show decide ((s.length : Int) < 2) = true by simp; omega]
      simp only [Bool.not_true, Bool.true_or]
      rw [chk_true (by intro h; cases h), chk_true (by intro h; cases h)]
      rfl
  have hsp := quoted_spec s hq
  unfold quoted at hq
  simp only [Bool.not_eq_true'] at hq
  have h2 : 2 ≤ s.length := by
    simp only [Bool.or_eq_false_iff, decide_eq_false_iff_not] at hq
    omega
  rw [show decide ((s.length : Int) < 2) = false by simp; omega] at hq ⊢
  rw [idx_last s h2 hs]
  simp only [Bool.false_or, Int.toNat_natCast] at hq ⊢
  rw [chk_true (by intro _; omega), chk_true (by intro _; omega), hq]
  have hm : List.take (s.length - 1 - 1) (List.drop 1 s) = mid s := by unfold mid; congr 1
  have hml : (mid s).length = s.length - 2 := by simp [mid]; omega
  simp only [cond_false, cond_true, hm, jp_eq]
  rw [chk_true (by omega)]
  refine (loopN_run (S := Str × List Int) (fun st => st.2.length + st.1.length ≤ s.length) (fun st => st.1.length) (fun st => match lundF st.1 st.2 with
      | some o => bif !decide (quoteS (strOf o) = s) then some (([] : Str), (8 : Int)) else some (strOf o, 0)
      | none => some ([], 8)) ?_ N _ (by simp only [List.length_nil]; omega) (by simp only; omega)).trans ?_
  · rintro ⟨b, o⟩ nx hi hnx
    dsimp +instances only at hi hnx ⊢
    cases b with
    | nil =>
      simp only [show decide (([] : Str) = []) = true from rfl, Bool.not_true, cond_false]
      rw [R_Quote_eq _ (by simp [strOf]; simp at hi; omega), call_some]
      rfl
    | cons c r =>
      simp only [show decide (c :: r = ([] : Str)) = false from rfl, Bool.not_false, cond_true]
      rw [show idxS (c :: r) 0 = idxS (c :: r) ((0 : Nat) : Int) from rfl, idxS_eq (by simp)]
      simp only [List.getElem_cons_zero]
      rw [lundF_step]
      simp only [List.length_cons] at hi
      cases hc : !decide ((c.toNat : Int) = 92)
      · simp only [cond_false]
        cases r with
        | nil =>
          simp only [List.length_cons, List.length_nil]
          rw [chk_true (by intro h; simp at h), chk_true (by intro h; simp at h)]
          simp only [show decide ((2 : Int) ≤ ((0 + 1 : Nat) : Int)) = false from rfl, show decide ((4 : Int) ≤ ((0 + 1 : Nat) : Int)) = false from rfl, Bool.false_and, cond_false]
          rw [chk_true (by intro h; cases h), chk_true (by intro h; cases h)]
          simp only [lsym, hc, cond_false, lsym2]
          rfl
        | cons d r =>
          rw [show decide ((2 : Int) ≤ ((c :: d :: r).length : Int)) = true by simp; omega]
          dsimp +instances only [two_get]
          simp only [Bool.true_and]
          rw [chk_true (by intro h; simp; omega), chk_true (by intro h; simp; omega)]
          rw [show (decide ((d.toNat : Int) = 34) || decide ((d.toNat : Int) = 92)) = isEsc' d from rfl]
          simp only [List.length_cons] at hi
          cases h1 : isEsc' d
          · simp only [cond_false]
            rw [chk_true (by intro h; simp; omega)]
            cases h3 : decide ((d.toNat : Int) = 110)
            · simp only [cond_false]
              rw [chk_true (by intro h; simp; omega)]
              cases h4 : decide ((d.toNat : Int) = 120)
              · simp only [Bool.and_false, cond_false, lsym, hc, lsym2, h1, h3, h4]
                rfl
              · simp only [Bool.and_true]
                rcases r with _ | ⟨a, _ | ⟨e, r⟩⟩
                · simp only [show decide ((4 : Int) ≤ (([c, d] : Str).length : Int)) = false from rfl, cond_false, lsym, hc, lsym2, h1, h3, h4, cond_true]
                  rfl
                · simp only [show decide ((4 : Int) ≤ (([c, d, a] : Str).length : Int)) = false from rfl, cond_false, lsym, hc, lsym2, h1, h3, h4, cond_true]
                  rfl
                · rw [show decide ((4 : Int) ≤ ((c :: d :: a :: e :: r).length : Int)) = true by simp; omega, cond_true]
                  rw [chk_true (by simp; omega)]
                  rw [show List.take (3 - 2) (List.drop 2 (c :: d :: a :: e :: r)) = [a] from rfl, show List.take (4 - 3) (List.drop 3 (c :: d :: a :: e :: r)) = [e] from rfl]
                  rw [show ([48, 49, 50, 51, 52, 53, 54, 55, 56, 57, 97, 98, 99, 100, 101, 102] : Str) = HX from rfl, index_eq, index_eq, call_some, chk_true (by simp; omega), call_some]
                  rw [show IntKind.u8.wrap (IntKind.i64.wrap (IntKind.i64.wrap (ixb HX a * 16) + ixb HX e)) = hexw a e from rfl]
                  simp only [List.length_cons] at hi
                  rw [chk_true (by simp; omega), chk_true (by simp; omega), hnx _ (by simp; omega) (by simp; omega)]
                  simp only [cond_false, lsym, hc, lsym2, h1, h3, h4, cond_true, Option.bind_some]
                  rfl
            · simp only [cond_true]
              rw [chk_true (by simp; omega), chk_true (by simp; omega), hnx _ (by simp; omega) (by simp; omega)]
              simp only [cond_false, lsym, hc, lsym2, h1, h3, cond_true, Option.bind_some]
              rfl
          · simp only [cond_true]
            rw [show idxS (c :: d :: r) 1 = idxS (c :: d :: r) ((1 : Nat) : Int) from rfl, idxS_eq (by simp)]
            simp only [List.getElem_cons_succ, List.getElem_cons_zero]
            rw [chk_true (by simp; omega), chk_true (by simp; omega), hnx _ (by simp; omega) (by simp; omega)]
            simp only [cond_false, lsym, hc, lsym2, h1, cond_true, Option.bind_some]
            rfl
      · simp only [cond_true]
        rw [chk_true (by simp; omega), chk_true (by simp; omega), hnx _ (by simp; omega) (by simp)]
        simp only [lsym, hc, cond_true, Option.bind_some]
        rfl
  · simp only [Bool.not_false, cond_true]
    cases hu : undoF (mid s) with
    | some t =>
      have hb := undoF_sound hu
      rw [← hb, lundF_body, List.nil_append]
      simp only [strOf_bytes]
      have : quoteS t = s := by
        unfold quoteS
        rw [hb]; exact hsp.symm
      rw [this]
      simp only [decide_true, Bool.not_true, cond_false, fin]
    | none =>
      cases hl : lundF (mid s) [] with
      | none => rfl
      | some o =>
        have : quoteS (strOf o) ≠ s := by
          intro h
          rw [hsp] at h
          unfold quoteS at h
          have h' := (List.cons.inj h).2
          have hb := List.append_cancel_right h'
          rw [← hb, undoF_body] at hu
          cases hu
        simp only [decide_eq_false this, Bool.not_false, cond_true, fin]
end Go.Md
namespace Go.Md
open Go.Vc
def allI {α : Type} (q : Nat → α → Bool) : Nat → List α → Bool
  | _, [] => true
  | i, x :: l => q i x && allI q (i + 1) l
section
variable {Z α : Type}
theorem forL_allI {f : Nat → α → Unit → (Unit → Option Z) → (Unit → Option Z) → Option Z} {z : Z} (q : Nat → α → Bool) (hf : ∀ i x nx k, f i x () nx k = bif q i x then nx () else some z) (k : Unit → Option Z) :
    ∀ (l : List α) (i : Nat), forL l i f () k = bif allI q i l then k () else some z
  | [], i => rfl
  | x :: l, i => by
    unfold forL allI
    rw [hf, forL_allI q hf k l (i + 1)]
    cases q i x <;> rfl
end
def smallB (c : UInt8) : Bool := decide (97 ≤ (c.toNat : Int)) && decide ((c.toNat : Int) ≤ 122)
def digitB (c : UInt8) : Bool := decide (48 ≤ (c.toNat : Int)) && decide ((c.toNat : Int) ≤ 57)
def nameB (c : UInt8) : Bool := ((smallB c || digitB c) || decide ((c.toNat : Int) = 45)) || decide ((c.toNat : Int) = 46)
def nameOk (s : Str) : Bool := ((s.all nameB && (!decide (s = []) && decide ((s.length : Int) ≤ 40))) && smallB (s.getD 0 0))
theorem orG (a b : Bool) : (a || bif !a then b else false) = (a || b) := by cases a <;> rfl
theorem ver_IsName_1_eq (c : UInt8) : ver_IsName_1 (c.toNat : Int) = some (nameB c) := by
  unfold ver_IsName_1 ver_isSmall ver_isDigit
  simp only [call_some, callG_some, orG]
  rfl
theorem ver_IsName_eq (s : Str) : ver_IsName s = some (nameOk s) := by
  unfold ver_IsName ver_each_i1
  simp only [jp_eq]
  rw [forL_all nameB (fun i x nx k => by simp only [ver_IsName_1_eq, call_some]; cases nameB x <;> rfl)]
  simp only [condS, call_some]
  rw [chk_true]
  · unfold ver_isSmall
    simp only [callG_some]
    unfold nameOk smallB
    generalize hA : s.all nameB = A
    cases A <;> simp only [cond_true, cond_false, Bool.false_and, Bool.true_and]
    generalize hB : (!decide (s = []) && decide ((s.length : Int) ≤ 40)) = B
    cases B <;> rfl
  · intro h
    cases s with
    | nil => cases hA : List.all [] nameB <;> rw [hA] at h <;> simp at h
    | cons => simp only [List.length_cons]; omega
theorem allI_all {α : Type} {q : Nat → α → Bool} {p : α → Bool} : ∀ (l : List α) (i : Nat), (∀ j x, i ≤ j → q j x = p x) → allI q i l = l.all p
  | [], i, _ => rfl
  | x :: l, i, h => by
    unfold allI
    rw [h i x (Nat.le_refl _), allI_all l (i + 1) (fun j x hj => h j x (by omega)), List.all_cons]
theorem R_IsName_eq (s : Str) : R_IsName s = some (nameOk s) := by
  unfold R_IsName
  simp only [jp_eq]
  refine (forL_allI (z := false) (fun i c => !((decide ((i : Int) = 0) && !smallB c) || !nameB c)) (fun i c nx k => ?_) _ _ _).trans ?_
  · rw [condN]
    congr 1
    unfold nameB smallB digitB
    rw [Bool.eq_iff_iff]
    simp only [Bool.or_eq_true, Bool.and_eq_true, Bool.not_eq_true', decide_eq_true_eq, Bool.or_eq_false_iff, Bool.and_eq_false_iff, decide_eq_false_iff_not, Bool.not_eq_false']
    omega
  simp only [condS]
  congr 1
  unfold nameOk
  cases s with
  | nil => rfl
  | cons x l =>
    unfold allI
    rw [allI_all (p := nameB) l 1 (fun j x hj => by rw [decide_eq_false (by omega)]; cases nameB x <;> rfl), List.all_cons]
    simp only [List.getD_cons_zero]
    cases nameB x <;> cases smallB x <;> cases l.all nameB <;> simp
def valB (c : UInt8) : Bool := decide (32 ≤ (c.toNat : Int)) && decide ((c.toNat : Int) ≤ 126)
def valueOk (s : Str) : Bool := s.all valB && decide ((s.length : Int) ≤ 1000)
theorem R_IsValue_eq (s : Str) : R_IsValue s = some (valueOk s) := by
  unfold R_IsValue
  simp only [jp_eq]
  refine (forL_all (z := false) valB (fun i c nx k => ?_) _ _ _).trans ?_
  · rw [condN]
    congr 1
    unfold valB
    rw [Bool.eq_iff_iff]
    simp only [Bool.or_eq_true, Bool.and_eq_true, Bool.not_eq_true', decide_eq_true_eq, Bool.or_eq_false_iff, Bool.and_eq_false_iff, decide_eq_false_iff_not, Bool.not_eq_false']
    omega
  · simp only [condS]
    unfold valueOk
    cases s.all valB <;> rfl
theorem ver_IsValue_eq (s : Str) : ver_IsValue s = some (valueOk s) := by
  unfold ver_IsValue ver_each_i2
  simp only [jp_eq]
  rw [forL_all valB (fun i x nx k => by unfold ver_IsValue_1 valB; simp only [call_some]; rw [condN, Bool.not_not])]
  simp only [condS, callG_some]
  unfold valueOk
  cases s with
  | nil => rfl
  | cons x l => simp only [show decide (x :: l = []) = false from rfl, Bool.not_false, Bool.true_and, cond_true, Bool.false_or]; cases List.all (x :: l) valB <;> rfl
def partB (c : UInt8) : Bool := ((((smallB c || (decide (65 ≤ (c.toNat : Int)) && decide ((c.toNat : Int) ≤ 90))) || digitB c) || decide ((c.toNat : Int) = 45)) || decide ((c.toNat : Int) = 46)) || decide ((c.toNat : Int) = 95)
def partOk (s : Str) : Bool := ((s.all partB && (!decide (s = []) && decide ((s.length : Int) ≤ 40))) && !decide (s = [46])) && !decide (s = [46, 46])
theorem R_isPart_eq (s : Str) : R_isPart s = some (partOk s) := by
  unfold R_isPart
  simp only [jp_eq]
  refine (forL_all (z := false) partB (fun i c nx k => ?_) _ _ _).trans ?_
  · rw [condN]
    congr 1
    unfold partB smallB digitB
    rw [Bool.eq_iff_iff]
    simp only [Bool.or_eq_true, Bool.and_eq_true, Bool.not_eq_true', decide_eq_true_eq, Bool.or_eq_false_iff, Bool.and_eq_false_iff, decide_eq_false_iff_not, Bool.not_eq_false']
    omega
  · simp only [condS]
    unfold partOk
    cases s.all partB <;> rfl
theorem orG3 (a b d : Bool) : ((a || b) || bif !(a || b) then d else false) = ((a || b) || d) := by cases a <;> cases b <;> rfl
theorem ver_isPart_eq (s : Str) : ver_isPart s = some (partOk s) := by
  unfold ver_isPart ver_each_i3
  simp only [jp_eq]
  rw [forL_all partB (fun i x nx k => by
    unfold ver_isPart_1 partB ver_isSmall ver_isDigit smallB digitB
    simp only [call_some, callG_some, orG3]
    rw [condN, Bool.not_not])]
  simp only [condS, call_some]
  unfold partOk
  cases s.all partB <;> rfl
/-- What a path is: all its parts are good, and it is not long. -/
def pathOk (s : Str) : Bool := (splitAt 47 s).all partOk && decide ((s.length : Int) ≤ 200)
theorem R_IsPath_eq (s : Str) (hs : s.length ≤ 17179869184) : R_IsPath s = some (pathOk s) := by
  unfold R_IsPath pathOk
  simp only [jp_eq, split_eq s 47 hs, call_some]
  rw [forL_all partOk (fun i x nx k => by rw [R_isPart_eq, call_some, condN, Bool.not_not])]
  cases (splitAt 47 s).all partOk <;> rfl
theorem ver_IsPath_eq (s : Str) (hs : s.length ≤ 17179869184) : ver_IsPath s = some (pathOk s) := by
  unfold ver_IsPath pathOk
  simp only [jp_eq, split_eq s 47 hs, call_some]
  rw [forL_all partOk (fun i x nx k => by rw [ver_isPart_eq, call_some, condN, Bool.not_not])]
  cases (splitAt 47 s).all partOk <;> rfl
end Go.Md
namespace Go.Md
open Go.Vc
def strLe (a b : Str) : Bool := strLt a b || decide (a = b)
theorem when_eq (b : Bool) (e : Int) : R_when b e = some (bif b then e else 0) := by cases b <;> rfl
def or2 (a b : Int) : Int := bif !decide (a = 0) then a else b
theorem first1 (a : Int) : R_first [a] = some a := by
  unfold R_first
  simp only [jp_eq, forL]
  by_cases h : a = 0
  · subst h; rfl
  · rw [decide_eq_false h]; rfl
theorem first_cons (a : Int) (l : List Int) (r : Int) (h : R_first l = some r) : R_first (a :: l) = some (or2 a r) := by
  unfold R_first at *
  simp only [jp_eq, forL] at *
  unfold or2
  by_cases ha : a = 0
  · subst ha
    simp only [decide_true, Bool.not_true, cond_false]
    rw [← h]
    have : ∀ (l : List Int) (i j : Nat), forL l i (fun i_14 e_16 s nx_13 k_12 => bif !decide (e_16 = 0) then some e_16 else nx_13 ()) () (fun _ => some (0 : Int)) = forL l j (fun i_14 e_16 s nx_13 k_12 => bif !decide (e_16 = 0) then some e_16 else nx_13 ()) () (fun _ => some (0 : Int)) := by
      intro l
      induction l with
      | nil => intro i j; rfl
      | cons x l ih => intro i j; unfold forL; simp only [ih (i + 1) (j + 1)]
    exact this l _ _
  · rw [decide_eq_false ha]; rfl
theorem first2 (a b : Int) : R_first [a, b] = some (or2 a b) := first_cons a _ _ (first1 b)
theorem first3 (a b c : Int) : R_first [a, b, c] = some (or2 a (or2 b c)) := first_cons a _ _ (first2 b c)
def eFact (s : api_Setting) : Int := bif !nameOk s.Key then 5 else bif !valueOk s.Value then 2 else 0
def eSet (s : api_Setting) : Int := bif !pathOk s.Key then 5 else bif !valueOk s.Value then 2 else 0
def eFile (f : api_File) : Int := bif !pathOk f.Path then 5 else bif decide (65536 < (f.Data.length : Int)) then 4 else 0
def eSvc (s : api_Service) : Int := bif !nameOk s.Name || !pathOk s.Path then 5 else 0
def ord (i : Nat) (a last : Str) : Bool := decide (0 < (i : Int)) && strLe a last
/-- The first fault of a list. -/
def firstE {α : Type} (e : α → Int) (nm : α → Str) : Nat → Str → List α → Int
  | _, _, [] => 0
  | i, last, x :: l => bif !decide (e x = 0) then e x else bif ord i (nm x) last then 7 else firstE e nm (i + 1) (nm x) l
theorem firstE_zero {α : Type} (e : α → Int) (nm : α → Str) (a b : Str) (l : List α) : firstE e nm 0 a l = firstE e nm 0 b l := by
  cases l <;> rfl
section
variable {Z α : Type} {e : α → Int} {nm : α → Str}
/-- The reference's loop. -/
theorem loopR {f : Nat → α → Str → (Str → Option Int) → (Str → Option Int) → Option Int} {K : Str → Option Int} (P : α → Prop)
    (hf : ∀ i x last nx k, P x → f i x last nx k = bif !decide (or2 (e x) (bif ord i (nm x) last then 7 else 0) = 0) then some (or2 (e x) (bif ord i (nm x) last then 7 else 0)) else nx (nm x)) :
    ∀ (l : List α) (i : Nat) (last : Str), (∀ x ∈ l, P x) → ∃ last', forL l i f last K = bif !decide (firstE e nm i last l = 0) then some (firstE e nm i last l) else K last'
  | [], i, last, _ => ⟨last, rfl⟩
  | x :: l, i, last, hp => by
    obtain ⟨last', h⟩ := loopR P hf l (i + 1) (nm x) (fun y hy => hp y (List.mem_cons_of_mem _ hy))
    refine ⟨last', ?_⟩
    unfold forL firstE
    rw [hf _ _ _ _ _ (hp x (List.mem_cons_self ..)), h]
    unfold or2
    by_cases h1 : e x = 0
    · simp only [h1, decide_true, Bool.not_true, cond_false]
      cases ord i (nm x) last <;> rfl
    · simp only [decide_eq_false h1, Bool.not_false, cond_true]
/-- The program's loop. -/
theorem loopD {f : Nat → α → Unit → (Unit → Option Int) → (Unit → Option Int) → Option Int} {K : Unit → Option Int} (P : α → Prop) (L : List α) (d : α)
    (hf : ∀ (i : Nat) x nx k, P x → i < L.length → f i x () nx k = bif !decide (e x = 0) then some (e x) else bif ord i (nm x) (nm (L.getD (i - 1) d)) then some 7 else nx ()) :
    ∀ (l : List α) (i : Nat), L.drop i = l → (∀ x ∈ l, P x) → forL l i f () K = bif !decide (firstE e nm i (nm (L.getD (i - 1) d)) l = 0) then some (firstE e nm i (nm (L.getD (i - 1) d)) l) else K ()
  | [], i, _, _ => rfl
  | x :: l, i, hd, hp => by
    have hi : i < L.length := by
      rcases Nat.lt_or_ge i L.length with h | h
      · exact h
      · rw [List.drop_eq_nil_of_le h] at hd; cases hd
    have hx : L.getD i d = x := by
      have := List.drop_eq_getElem_cons hi
      rw [hd] at this
      have := (List.cons.inj this).1
      rw [this]; simp [hi]
    have hd' : L.drop (i + 1) = l := by
      have := congrArg List.tail hd
      simpa using this
    unfold forL firstE
    rw [hf _ _ _ _ (hp x (List.mem_cons_self ..)) hi, loopD P L d hf l (i + 1) hd' (fun y hy => hp y (List.mem_cons_of_mem _ hy))]
    simp only [Nat.add_sub_cancel, hx]
    by_cases h1 : e x = 0
    · simp only [h1, decide_true, Bool.not_true, cond_false]
      cases ord i (nm x) (nm (L.getD (i - 1) d)) <;> rfl
    · simp only [decide_eq_false h1, Bool.not_false, cond_true]
end
theorem chk1_eq (i : Nat) (s last : Str) : R_Check_1_i1 (i : Int) s last = some ((bif ord i s last then 7 else 0), s) := by
  unfold R_Check_1_i1
  rw [when_eq, call_some]; rfl
/-- What may be asked of the paths here. -/
def Sm (s : Str) : Prop := s.length ≤ 17179869184
theorem R_fileError_eq (f : api_File) (h : Sm f.Path) : R_fileError f = some (eFile f) := by
  unfold R_fileError
  rw [R_IsPath_eq _ h]
  simp only [call_some, when_eq, first2]
  unfold eFile or2
  cases pathOk f.Path <;> rfl
theorem R_settingError_eq (f : api_Setting) (h : Sm f.Key) : R_settingError f = some (eSet f) := by
  unfold R_settingError
  rw [R_IsPath_eq _ h, R_IsValue_eq]
  simp only [call_some, when_eq, first2]
  unfold eSet or2
  cases pathOk f.Key <;> rfl
theorem R_serviceError_eq (f : api_Service) (h : Sm f.Path) : R_serviceError f = some (eSvc f) := by
  unfold R_serviceError
  rw [R_IsPath_eq _ h, R_IsName_eq]
  simp only [call_some, callG_some, when_eq]
  unfold eSvc
  cases nameOk f.Name <;> cases pathOk f.Path <;> rfl
theorem D_fileFault_eq (f : api_File) (h : Sm f.Path) : disk_fileFault f = some (eFile f) := by
  unfold disk_fileFault
  rw [ver_IsPath_eq _ h]
  simp only [call_some]
  unfold eFile
  cases pathOk f.Path
  · rfl
  · simp only [Bool.not_true, cond_false, condS]
theorem D_set_eq (f : api_Setting) (h : Sm f.Key) : disk_Check_3 f = some (eSet f) := by
  unfold disk_Check_3 disk_settingFault_i2
  rw [ver_IsPath_eq _ h, ver_IsValue_eq]
  simp only [call_some]
  unfold eSet
  cases pathOk f.Key <;> cases valueOk f.Value <;> rfl
theorem D_fact_eq (f : api_Setting) : disk_Check_1 f = some (eFact f) := by
  unfold disk_Check_1 disk_settingFault_i1
  rw [ver_IsName_eq, ver_IsValue_eq]
  simp only [call_some]
  unfold eFact
  cases nameOk f.Key <;> cases valueOk f.Value <;> rfl
theorem D_svc_eq (f : api_Service) (h : Sm f.Path) : disk_serviceFault f = some (eSvc f) := by
  unfold disk_serviceFault
  rw [ver_IsPath_eq _ h, ver_IsName_eq]
  simp only [call_some, callG_some]
  unfold eSvc
  cases nameOk f.Name <;> cases pathOk f.Path <;> rfl
theorem wrap_pred {i : Nat} (h : 0 < i) (h2 : i ≤ 274877906944) : IntKind.i64.wrap ((i : Int) - 1) = ((i - 1 : Nat) : Int) := by rw [wrapS (by omega) (by omega)]; omega
end Go.Md
namespace Go.Md
open Go.Vc
theorem ordE {i : Nat} {a b : Str} : (decide (0 < (i : Int)) && (strLt a b || decide (a = b))) = ord i a b := rfl
theorem eachSet1 (l : List api_Setting) (hl : l.length ≤ 17179869184) : disk_eachFault_api_Setting_i1 l = some (firstE eFact (·.Key) 0 [] l) := by
  unfold disk_eachFault_api_Setting_i1
  simp only [jp_eq]
  rw [loopD (e := eFact) (nm := (·.Key)) (fun _ => True) l ⟨[], []⟩ (fun i x nx k _ hi => by
    rw [D_fact_eq]
    simp only [call_some, disk_keyOf, callG_some]
    cases hg : decide (0 < (i : Int)) with
    | false => rw [chk_true (by intro h; cases h)]; unfold ord; rw [hg]; rfl
    | true =>
      have hi0 : 0 < i := by simpa using hg
      rw [wrap_pred hi0 (by omega), chk_true (by intro _; omega)]
      simp only [cond_true, Int.toNat_natCast]
      unfold ord strLe; rw [hg]) l 0 rfl (fun _ _ => trivial)]
  rw [condS]
  rw [firstE_zero eFact (·.Key) _ []]
  cases h : decide (firstE eFact (·.Key) 0 [] l = 0)
  · rfl
  · rw [of_decide_eq_true h]; rfl
theorem eachSet2 (l : List api_Setting) (hl : l.length ≤ 17179869184) (hs : ∀ x ∈ l, Sm x.Key) : disk_eachFault_api_Setting_i2 l = some (firstE eSet (·.Key) 0 [] l) := by
  unfold disk_eachFault_api_Setting_i2
  simp only [jp_eq]
  rw [loopD (e := eSet) (nm := (·.Key)) (fun x => Sm x.Key) l ⟨[], []⟩ (fun i x nx k hx hi => by
    rw [D_set_eq _ hx]
    simp only [call_some, disk_keyOf, callG_some]
    cases hg : decide (0 < (i : Int)) with
    | false => rw [chk_true (by intro h; cases h)]; unfold ord; rw [hg]; rfl
    | true =>
      have hi0 : 0 < i := by simpa using hg
      rw [wrap_pred hi0 (by omega), chk_true (by intro _; omega)]
      simp only [cond_true, Int.toNat_natCast]
      unfold ord strLe; rw [hg]) l 0 rfl hs]
  rw [condS]
  rw [firstE_zero eSet (·.Key) _ []]
  cases h : decide (firstE eSet (·.Key) 0 [] l = 0)
  · rfl
  · rw [of_decide_eq_true h]; rfl
theorem eachSvc (l : List api_Service) (hl : l.length ≤ 17179869184) (hs : ∀ x ∈ l, Sm x.Path) : disk_eachFault_api_Service_i1 l = some (firstE eSvc (·.Name) 0 [] l) := by
  unfold disk_eachFault_api_Service_i1
  simp only [jp_eq]
  rw [loopD (e := eSvc) (nm := (·.Name)) (fun x => Sm x.Path) l ⟨[], [], false, false⟩ (fun i x nx k hx hi => by
    rw [D_svc_eq _ hx]
    simp only [call_some, disk_nameOf, callG_some]
    cases hg : decide (0 < (i : Int)) with
    | false => rw [chk_true (by intro h; cases h)]; unfold ord; rw [hg]; rfl
    | true =>
      have hi0 : 0 < i := by simpa using hg
      rw [wrap_pred hi0 (by omega), chk_true (by intro _; omega)]
      simp only [cond_true, Int.toNat_natCast]
      unfold ord strLe; rw [hg]) l 0 rfl hs]
  rw [condS]
  rw [firstE_zero eSvc (·.Name) _ []]
  cases h : decide (firstE eSvc (·.Name) 0 [] l = 0)
  · rfl
  · rw [of_decide_eq_true h]; rfl
/-! ### the files -/
abbrev Mp := List (Str × Bool)
def abvQ (m : Mp) (path : Str) (i : Nat) (c : UInt8) : Bool := !(decide ((c.toNat : Int) = 47) && (alook m (path.take i)).getD false)
def abv (m : Mp) (path : Str) : Bool := allI (abvQ m path) 0 path
def filesE : Nat → Str → Mp → List api_File → Int
  | _, _, _, [] => 0
  | i, last, m, x :: l => bif !decide (eFile x = 0) then eFile x else bif ord i x.Path last then 7 else bif !abv m x.Path then 11 else filesE (i + 1) x.Path (aset m x.Path true) l
theorem filesE_zero (a b : Str) (m : Mp) (l : List api_File) : filesE 0 a m l = filesE 0 b m l := by cases l <;> rfl
theorem aset_len : ∀ (m : Mp) (k : Str) (v : Bool), (aset m k v).length ≤ m.length + 1
  | [], k, v => by simp [aset]
  | p :: m, k, v => by
    unfold aset
    have := aset_len m k v
    cases decide (p.1 = k) <;> simp <;> omega
theorem above_eq (path : Str) (m : Mp) : disk_above_i1 path m = some (abv m path) := by
  unfold disk_above_i1
  simp only [jp_eq]
  have hk : ∀ i : Nat, True := fun _ => trivial
  have : ∀ (l : Str) (i : Nat), path.drop i = l → forL l i (fun i_44 c_46 s nx_43 k_42 =>
    chk ((decide ((c_46.toNat : Int) = 47)) = true → (0 ≤ (i_44 : Int) ∧ (i_44 : Int) ≤ (path.length : Int))) <|
    callG (decide ((c_46.toNat : Int) = 47)) (disk_Check_2_i1 (List.take i_44 path) m) false fun r_48 =>
    bif ((decide ((c_46.toNat : Int) = 47)) && (!r_48)) then
      some false
    else
    nx_43 ()) () (fun _ => some true) = some (allI (abvQ m path) i l) := by
    intro l
    induction l with
    | nil => intro i _; rfl
    | cons c l ih =>
      intro i hd
      have hi : i < path.length := by
        rcases Nat.lt_or_ge i path.length with h | h
        · exact h
        · rw [List.drop_eq_nil_of_le h] at hd; cases hd
      unfold forL allI
      simp only [ih (i + 1) (by have := congrArg List.tail hd; simpa using this)]
      rw [chk_true (by intro _; omega)]
      simp only [disk_Check_2_i1, letv, callG_some]
      unfold abvQ
      cases decide ((c.toNat : Int) = 47) <;> cases (alook m (List.take i path)).getD false <;> rfl
  exact this path 0 rfl
theorem behindLoop (path : Str) (m : Mp) {f : Int × Int → (Int × Int → Option Int) → (Int × Int → Option Int) → Option Int} {K : Int × Int → Option Int} (hp : path.length ≤ 17179869184)
    (hf : ∀ (e : Int) (i : Nat) nx, f (e, (i : Int)) nx K = if h : i < path.length then nx ((bif abvQ m path i path[i] then e else 11), ((i + 1 : Nat) : Int)) else K (e, (i : Int))) :
    ∀ (n : Nat) (e : Int) (i : Nat), path.length + 1 ≤ n + i → i ≤ path.length → loopN n f (e, (i : Int)) K = K ((bif allI (abvQ m path) i (path.drop i) then e else 11), (path.length : Int))
  | 0, e, i, h1, h2 => by omega
  | n + 1, e, i, h1, h2 => by
    unfold loopN
    rw [hf]
    by_cases h : i < path.length
    · rw [dif_pos h, behindLoop path m hp hf n _ (i + 1) (by omega) (by omega), List.drop_eq_getElem_cons h]
      rw [show allI (abvQ m path) i (path[i] :: path.drop (i + 1)) = (abvQ m path i path[i] && allI (abvQ m path) (i + 1) (path.drop (i + 1))) from rfl]
      cases abvQ m path i path[i] <;> cases allI (abvQ m path) (i + 1) (path.drop (i + 1)) <;> rfl
    · have : i = path.length := by omega
      subst this
      rw [dif_neg h, List.drop_length]; rfl
/-- The reference's files. -/
theorem filesR {f : Nat → api_File → Str × Mp → (Str × Mp → Option Int) → (Str × Mp → Option Int) → Option Int} {K : Str × Mp → Option Int}
    (hf : ∀ (i : Nat) x last (m : Mp) nx, Sm x.Path → m.length + 1 ≤ 17179869184 → f i x (last, m) nx K = bif !decide (eFile x = 0) then some (eFile x) else bif ord i x.Path last then some 7 else bif !abv m x.Path then some 11 else nx (x.Path, aset m x.Path true)) :
    ∀ (l : List api_File) (i : Nat) (last : Str) (m : Mp), m.length + l.length ≤ 17179869184 → (∀ x ∈ l, Sm x.Path) → ∃ s', forL l i f (last, m) K = bif !decide (filesE i last m l = 0) then some (filesE i last m l) else K s'
  | [], i, last, m, _, _ => ⟨(last, m), rfl⟩
  | x :: l, i, last, m, hm, hp => by
    have ha := aset_len m x.Path true
    simp only [List.length_cons] at hm
    obtain ⟨s', h⟩ := filesR hf l (i + 1) x.Path (aset m x.Path true) (by omega) (fun y hy => hp y (List.mem_cons_of_mem _ hy))
    refine ⟨s', ?_⟩
    unfold forL filesE
    rw [hf _ _ _ _ _ (hp x (List.mem_cons_self ..)) (by omega), h]
    by_cases h1 : eFile x = 0
    · simp only [h1, decide_true, Bool.not_true, cond_false]
      cases ord i x.Path last
      · cases abv m x.Path <;> rfl
      · rfl
    · simp only [decide_eq_false h1, Bool.not_false, cond_true]
/-- What both say of a machine. -/
def checkE (m : api_Machine) : Int :=
  bif ((((decide (100 < (m.Facts.length : Int))) || (decide (2000 < (m.Files.length : Int)))) || (decide (2000 < (m.Settings.length : Int)))) || (decide (100 < (m.Services.length : Int)))) then 4 else
  or2 (firstE eFact (·.Key) 0 [] m.Facts) (or2 (filesE 0 [] [] m.Files) (or2 (firstE eSet (·.Key) 0 [] m.Settings) (firstE eSvc (·.Name) 0 [] m.Services)))
structure Fit (m : api_Machine) : Prop where
  facts : m.Facts.length ≤ 17179869184
  files : m.Files.length ≤ 17179869184
  sets : m.Settings.length ≤ 17179869184
  svcs : m.Services.length ≤ 17179869184
  fp : ∀ x ∈ m.Files, Sm x.Path
  sp : ∀ x ∈ m.Settings, Sm x.Key
  vp : ∀ x ∈ m.Services, Sm x.Path
theorem or2_step (a b : Int) (o : Option Int) (h : o = some b) : (bif !decide (a = 0) then some a else o) = some (or2 a b) := by
  subst h; unfold or2; cases decide (a = 0) <;> rfl
theorem disk_Check_eq (m : api_Machine) (h : Fit m) : disk_Check m = some (checkE m) := by
  unfold disk_Check checkE
  generalize ((((decide (100 < (m.Facts.length : Int))) || (decide (2000 < (m.Files.length : Int)))) || (decide (2000 < (m.Settings.length : Int)))) || (decide (100 < (m.Services.length : Int)))) = B
  cases B with
  | true => rfl
  | false =>
    simp only [cond_false]
    rw [eachSet1 _ h.facts, call_some]
    refine or2_step _ _ _ ?_
    simp only [jp_eq]
    obtain ⟨s', hs⟩ := filesR (f := fun i_47 f_49 s nx_46 k_45 =>
      match s with
      | (before_37, m1_39) =>
        call (disk_fileFault f_49) fun r_50 =>
        bif !decide (r_50 = 0) then
          some r_50
        else
        bif ((decide (0 < (i_47 : Int))) && (strLt f_49.Path before_37 || decide (f_49.Path = before_37))) then
          some 7
        else
        call (disk_above_i1 f_49.Path m1_39) fun r_51 =>
        bif !r_51 then
          some 11
        else
        chk ((aset m1_39 f_49.Path true).length ≤ 274877906944) <|
        nx_46 (f_49.Path, aset m1_39 f_49.Path true)) (K := fun s => match s with
      | (before_37, m1_39) => call (disk_eachFault_api_Setting_i2 m.Settings) fun r_28 =>
        bif !decide (r_28 = 0) then
          some r_28
        else
        call (disk_eachFault_api_Service_i1 m.Services) fun r_29 =>
        some r_29) (fun i x last mm nx hx hl => by
        have ha := aset_len mm x.Path true
        simp only [D_fileFault_eq _ hx, call_some, above_eq, ordE]
        rw [chk_true (by omega)]) m.Files 0 [] [] (by simpa using h.files) h.fp
    rw [hs]
    refine or2_step _ _ _ ?_
    obtain ⟨x, y⟩ := s'
    simp only [eachSet2 _ h.sets h.sp, eachSvc _ h.svcs h.vp, call_some]
    exact or2_step _ _ _ rfl
end Go.Md
namespace Go.Md
open Go.Vc
theorem loopR_or {α : Type} {e : α → Int} {nm : α → Str} {f : Nat → α → Str → (Str → Option Int) → (Str → Option Int) → Option Int} {K : Str → Option Int} {r : Int} {l : List α} {last : Str} (P : α → Prop)
    (hf : ∀ i x last nx k, P x → f i x last nx k = bif !decide (or2 (e x) (bif ord i (nm x) last then 7 else 0) = 0) then some (or2 (e x) (bif ord i (nm x) last then 7 else 0)) else nx (nm x))
    (hp : ∀ x ∈ l, P x) (hK : ∀ last, K last = some r) : forL l 0 f last K = some (or2 (firstE e nm 0 [] l) r) := by
  obtain ⟨last', h⟩ := loopR (K := K) P hf l 0 last hp
  rw [h, firstE_zero e nm last []]
  exact or2_step _ _ _ (hK _)
theorem filesR_or {f : Nat → api_File → Str × Mp → (Str × Mp → Option Int) → (Str × Mp → Option Int) → Option Int} {K : Str × Mp → Option Int} {r : Int} {l : List api_File} {last : Str}
    (hf : ∀ (i : Nat) x last (m : Mp) nx, Sm x.Path → m.length + 1 ≤ 17179869184 → f i x (last, m) nx K = bif !decide (eFile x = 0) then some (eFile x) else bif ord i x.Path last then some 7 else bif !abv m x.Path then some 11 else nx (x.Path, aset m x.Path true))
    (hl : l.length ≤ 17179869184) (hp : ∀ x ∈ l, Sm x.Path) (hK : ∀ s, K s = some r) : forL l 0 f (last, []) K = some (or2 (filesE 0 [] [] l) r) := by
  obtain ⟨s', h⟩ := filesR (K := K) hf l 0 last [] (by simpa using hl) hp
  rw [h, filesE_zero last []]
  exact or2_step _ _ _ (hK _)
theorem behind_or (path : Str) (m : Mp) {f : Int × Int → (Int × Int → Option Int) → (Int × Int → Option Int) → Option Int} {K : Int × Int → Option Int} {N : Nat} {e : Int} (hN : 1099511627776 ≤ N) (hp : path.length ≤ 17179869184)
    (hf : ∀ (e : Int) (i : Nat) nx, f (e, (i : Int)) nx K = if h : i < path.length then nx ((bif abvQ m path i path[i] then e else 11), ((i + 1 : Nat) : Int)) else K (e, (i : Int))) :
    loopN N f (e, 0) K = K ((bif abv m path then e else 11), (path.length : Int)) :=
  behindLoop path m hp hf N e 0 (by omega) (by omega)
theorem R_Check_eq (m : api_Machine) (h : Fit m) : R_Check m = some (checkE m) := by
  unfold R_Check checkE
  generalize ((((decide (100 < (m.Facts.length : Int))) || (decide (2000 < (m.Files.length : Int)))) || (decide (2000 < (m.Settings.length : Int)))) || (decide (100 < (m.Services.length : Int)))) = B
  obtain ⟨N, hN⟩ : ∃ N, Fuel = N := ⟨_, rfl⟩
  have hN2 : 1099511627776 ≤ N := hN ▸ fuel_ge
  rw [hN]
  clear hN
  cases B with
  | true => rfl
  | false =>
    simp only [cond_false, jp_eq]
    refine loopR_or (e := eFact) (nm := (·.Key)) (fun _ => True) (fun i x last nx k _ => ?_) (fun _ _ => trivial) fun last => ?_
    · simp only [R_IsName_eq, R_IsValue_eq, call_some, when_eq, chk1_eq, first3]
      unfold eFact or2
      cases nameOk x.Key <;> cases valueOk x.Value <;> cases ord i x.Key last <;> rfl
    refine filesR_or (fun i x last mm nx hx hl => ?_) h.files h.fp fun s => ?_
    · have ha := aset_len mm x.Path true
      simp only [R_fileError_eq _ hx, call_some, chk1_eq, first2]
      by_cases h1 : eFile x = 0
      · cases ho : ord i x.Path last with
        | true => simp only [h1, cond_true, show or2 0 7 = 7 from rfl]; rfl
        | false =>
          simp only [h1, cond_false, show or2 0 0 = 0 from rfl, decide_true, Bool.not_true, cond_true]
          rw [behind_or x.Path mm hN2 hx (fun e i nx => ?_)]
          · rw [chk_true (by omega)]
            cases abv mm x.Path <;> rfl
          · simp only [letv]
            by_cases hi : i < x.Path.length
            · rw [dif_pos hi, decide_eq_true (by omega), cond_true, idxS_eq hi, chk_true (by intro _; omega)]
              have hw : IntKind.i64.wrap ((i : Int) + 1) = ((i + 1 : Nat) : Int) := by
                have : x.Path.length ≤ 17179869184 := hx
                rw [wrapS (by omega) (by omega)]; rfl
              simp only [hw, Int.toNat_natCast]
              unfold abvQ
              cases decide (((x.Path[i]).toNat : Int) = 47) && (alook mm (List.take i x.Path)).getD false <;> rfl
            · rw [dif_neg hi, decide_eq_false (by omega), cond_false]
      · have : or2 (eFile x) (bif ord i x.Path last then 7 else 0) = eFile x := by unfold or2; rw [decide_eq_false h1]; rfl
        simp only [this, decide_eq_false h1, Bool.not_false, cond_true, cond_false]
    obtain ⟨last, mm⟩ := s
    refine loopR_or (e := eSet) (nm := (·.Key)) (fun x => Sm x.Key) (fun i x last nx k hx => ?_) h.sp fun last => ?_
    · simp only [R_settingError_eq _ hx, call_some, chk1_eq, first2]
    rw [show firstE eSvc (fun x => x.Name) 0 [] m.Services = or2 (firstE eSvc (fun x => x.Name) 0 [] m.Services) 0 by unfold or2; cases hh : decide (firstE eSvc (fun x => x.Name) 0 [] m.Services = 0) <;> simp_all]
    refine loopR_or (e := eSvc) (nm := (·.Name)) (fun x => Sm x.Path) (fun i x last nx k hx => ?_) h.vp fun last => rfl
    simp only [R_serviceError_eq _ hx, call_some, chk1_eq, first2]
/-- Both say the same of a machine. -/
theorem checks_agree (m : api_Machine) (h : Fit m) : disk_Check m = some (checkE m) ∧ R_Check m = some (checkE m) := ⟨disk_Check_eq m h, R_Check_eq m h⟩
end Go.Md
namespace Go.Md
open Go.Vc
abbrev wFact : Str := [102, 97, 99, 116]
abbrev wSet : Str := [115, 101, 116]
abbrev wFile : Str := [102, 105, 108, 101]
abbrev wRun : Str := [114, 117, 110]
abbrev wPut : Str := [112, 117, 116]
abbrev wPutrun : Str := [112, 117, 116, 114, 117, 110]
abbrev wService : Str := [115, 101, 114, 118, 105, 99, 101]
abbrev wRemove : Str := [114, 101, 109, 111, 118, 101]
abbrev wUnset : Str := [117, 110, 115, 101, 116]
abbrev wDrop : Str := [100, 114, 111, 112]
def noFile : api_File := ⟨[], [], false⟩
def noSet : api_Setting := ⟨[], []⟩
def noSvc : api_Service := ⟨[], [], false, false⟩
def bitS (s : Str) : Bool := decide (s = ([48] : Str)) || decide (s = ([49] : Str))
def svc3 (k : Str) : List Str → Option api_Service
  | [a, b, c] => bif (decide (a = []) || !bitS b) || !bitS c then none else some ⟨k, a, decide (b = ([49] : Str)), decide (c = ([49] : Str))⟩
  | _ => none
/-- A line's words: the word, what stands behind it; the key, the value, and whether there is one. -/
def wordOf (l : Str) : Str := (cutAt 32 l).1
def restOf (l : Str) : Str := (cutAt 32 l).2.1
def keyOf (l : Str) : Str := (cutAt 32 (restOf l)).1
def valOf (l : Str) : Str := (cutAt 32 (restOf l)).2.1
def twoOf (l : Str) : Bool := (cutAt 32 (restOf l)).2.2
def readS (l : Str) : disk_line × Bool :=
  let w := wordOf l; let k := keyOf l; let u := unqS (valOf l)
  bif !(cutAt 32 l).2.2 || decide (k = []) then (⟨[], noFile, noSet, noSvc⟩, false) else
  bif decide (w = wFact) || decide (w = wSet) then (⟨w, noFile, ⟨k, u.1⟩, noSvc⟩, twoOf l && decide (u.2 = 0)) else
  bif ((decide (w = wFile) || decide (w = wRun)) || decide (w = wPut)) || decide (w = wPutrun) then (⟨w, ⟨k, u.1, decide (w = wRun) || decide (w = wPutrun)⟩, noSet, noSvc⟩, twoOf l && decide (u.2 = 0)) else
  bif decide (w = wService) then (match twoOf l, svc3 k (splitAt 32 (valOf l)) with
    | true, some s => (⟨w, noFile, noSet, s⟩, true)
    | _, _ => (⟨[], noFile, noSet, noSvc⟩, false)) else
  bif decide (w = wRemove) then (⟨w, ⟨k, [], false⟩, noSet, noSvc⟩, !twoOf l) else
  bif decide (w = wUnset) then (⟨w, noFile, ⟨k, []⟩, noSvc⟩, !twoOf l) else
  bif decide (w = wDrop) then (⟨w, noFile, noSet, ⟨k, [], false, false⟩⟩, !twoOf l) else
  (⟨w, noFile, noSet, noSvc⟩, !twoOf l)
theorem len3 {p : List Str} (h : p.length = 3) : ∃ a b c, p = [a, b, c] := by
  rcases p with _ | ⟨a, _ | ⟨b, _ | ⟨c, _ | ⟨d, p⟩⟩⟩⟩ <;> simp at h
  exact ⟨a, b, c, rfl⟩
theorem readLine_eq (l : Str) (hl : l.length ≤ 17179869184) : disk_readLine l = some (readS l) := by
  have h1 := cutAt_len 32 l
  have h2 := cutAt_len 32 (restOf l)
  unfold disk_readLine
  rw [cut_eq l 32 (by omega), call_some, cut_eq _ 32 (by omega), call_some]
  rw [show (cutAt 32 l).1 = wordOf l from rfl, show (cutAt 32 l).2.1 = restOf l from rfl] at *
  rw [show (cutAt 32 (restOf l)).1 = keyOf l from rfl, show (cutAt 32 (restOf l)).2.1 = valOf l from rfl, show (cutAt 32 (restOf l)).2.2 = twoOf l from rfl] at *
  unfold readS
  have hv : (valOf l).length ≤ 17179869184 := by omega
  simp only [disk_Unquote_eq _ hv, split_eq _ 32 hv, call_some, jp_eq]
  generalize wordOf l = w
  generalize keyOf l = k
  generalize valOf l = v
  generalize twoOf l = two
  cases (!(cutAt 32 l).2.2 || decide (k = []))
  rotate_left
  · rfl
  simp only [cond_false]
  cases e1 : decide (w = wFact)
  rotate_left
  · rfl
  simp only [cond_false, Bool.false_or]
  cases e2 : decide (w = wSet)
  rotate_left
  · rfl
  simp only [cond_false]
  cases e3 : decide (w = wFile)
  rotate_left
  · simp only [cond_true, Bool.true_or]; rfl
  simp only [cond_false, Bool.false_or]
  cases e4 : decide (w = wRun)
  rotate_left
  · simp only [cond_true, Bool.true_or]; rfl
  simp only [cond_false, Bool.false_or]
  cases e5 : decide (w = wPut)
  rotate_left
  · simp only [cond_true, Bool.true_or]; rfl
  simp only [cond_false, Bool.false_or]
  cases e6 : decide (w = wPutrun)
  rotate_left
  · simp only [cond_true]; rfl
  simp only [cond_false]
  cases e7 : decide (w = wService)
  rotate_left
  · simp only [cond_true]
    by_cases h3 : (splitAt 32 v).length = 3
    · obtain ⟨a, b, c, hp⟩ := len3 h3
      rw [hp]
      simp only [disk_isBit, callG_some]
      cases two
      · simp only [Bool.not_false, Bool.true_or, Bool.not_true, cond_true]
        rw [chk_true (by intro h; cases h), chk_true (by intro h; cases h), chk_true (by intro h; cases h)]
        rfl
      · rw [chk_true (by intro _; simp), chk_true (by intro _; simp), chk_true (by intro _; simp)]
        simp only [show decide ((([a, b, c] : List Str).length : Int) = 3) = true from rfl, Bool.not_true, Bool.or_self, Bool.false_or, show ([a, b, c] : List Str).getD 0 [] = a from rfl, show ([a, b, c] : List Str).getD 1 [] = b from rfl, show ([a, b, c] : List Str).getD 2 [] = c from rfl]
        simp only [svc3]
        rw [show (decide (b = ([48] : Str)) || decide (b = ([49] : Str))) = bitS b from rfl, show (decide (c = ([48] : Str)) || decide (c = ([49] : Str))) = bitS c from rfl]
        cases decide (a = ([] : Str))
        · cases bitS b
          · rfl
          · cases bitS c
            · rfl
            · simp only [Bool.not_false, Bool.not_true, cond_true, cond_false, Bool.or_self]
              show idx [a, b, c] ((0 : Nat) : Int) _ = _
              rw [idx_eq (by simp)]
              show idx [a, b, c] ((1 : Nat) : Int) _ = _
              rw [idx_eq (by simp)]
              show idx [a, b, c] ((2 : Nat) : Int) _ = _
              rw [idx_eq (by simp)]
              rfl
        · rfl
    · have hd : decide (((splitAt 32 v).length : Int) = 3) = false := by simp only [decide_eq_false_iff_not]; omega
      have hs : svc3 k (splitAt 32 v) = none := by
        unfold svc3
        split
        · rename_i h; rw [h] at h3; simp at h3
        · rfl
      rw [hd, hs]
      simp only [Bool.not_false, Bool.or_true, Bool.not_true, Bool.true_or, callG_false, callG_some, cond_true, cond_false]
      rw [chk_true (by intro h; cases h), chk_true (by intro h; cases h), chk_true (by intro h; cases h)]
      cases two <;> rfl
  simp only [cond_false]
  cases e8 : decide (w = wRemove)
  rotate_left
  · rfl
  simp only [cond_false]
  cases e9 : decide (w = wUnset)
  rotate_left
  · rfl
  simp only [cond_false]
  cases e10 : decide (w = wDrop)
  rotate_left
  · rfl
  rfl
def rankS (w : Str) : Int := bif decide (w = wFact) then 0 else bif decide (w = wFile) || decide (w = wRun) then 1 else bif decide (w = wSet) then 2 else bif decide (w = wService) then 3 else -1
theorem rank_eq (w : Str) : disk_rank w = some (rankS w) := by
  unfold disk_rank rankS
  simp only [jp_eq]
  cases decide (w = wFact)
  · cases decide (w = wFile)
    · cases decide (w = wRun)
      · cases decide (w = wSet) <;> cases decide (w = wService) <;> rfl
      · rfl
    · rfl
  · rfl
def svc4 : List Str → Option api_Service
  | n :: r => bif decide (n = []) then none else svc3 n r
  | [] => none
theorem len4 {p : List Str} (h : p.length = 4) : ∃ a b c d, p = [a, b, c, d] := by
  rcases p with _ | ⟨a, _ | ⟨b, _ | ⟨c, _ | ⟨d, _ | ⟨e, p⟩⟩⟩⟩⟩ <;> simp at h
  exact ⟨a, b, c, d, rfl⟩
def svcR (o : Option api_Service) : api_Service × Bool := match o with
  | some s => (s, true)
  | none => (noSvc, false)
theorem bit_not (s : Str) : (!decide (s = ([48] : Str)) && !decide (s = ([49] : Str))) = !bitS s := by
  unfold bitS
  cases decide (s = ([48] : Str)) <;> cases decide (s = ([49] : Str)) <;> rfl
theorem serviceOf_eq (p : List Str) : R_serviceOf p = some (svcR (svc4 p)) := by
  unfold R_serviceOf
  by_cases h4 : p.length = 4
  · obtain ⟨a, b, c, d, rfl⟩ := len4 h4
    rw [chk_true (by intro _; simp), chk_true (by intro _; simp), chk_true (by intro _; simp), chk_true (by intro _; simp), chk_true (by intro _; simp), chk_true (by intro _; simp)]
    rw [show decide ((([a, b, c, d] : List Str).length : Int) = 4) = true from rfl]
    simp only [Bool.not_true, Bool.false_or, show ([a, b, c, d] : List Str).getD 0 [] = a from rfl, show ([a, b, c, d] : List Str).getD 1 [] = b from rfl, show ([a, b, c, d] : List Str).getD 2 [] = c from rfl, show ([a, b, c, d] : List Str).getD 3 [] = d from rfl, bit_not]
    simp only [svc4, svc3]
    cases decide (a = ([] : Str))
    · cases decide (b = ([] : Str))
      · cases bitS c
        · rfl
        · cases bitS d
          · rfl
          · simp only [Bool.not_true, Bool.or_self, cond_false]
            show idx [a, b, c, d] ((0 : Nat) : Int) _ = _
            rw [idx_eq (by simp)]
            show idx [a, b, c, d] ((1 : Nat) : Int) _ = _
            rw [idx_eq (by simp)]
            show idx [a, b, c, d] ((2 : Nat) : Int) _ = _
            rw [idx_eq (by simp)]
            show idx [a, b, c, d] ((3 : Nat) : Int) _ = _
            rw [idx_eq (by simp)]
            rfl
      · rfl
    · rfl
  · have hd : decide ((p.length : Int) = 4) = false := by simp only [decide_eq_false_iff_not]; omega
    rw [hd]
    simp only [Bool.not_false, Bool.not_true, Bool.true_or, Bool.false_and, cond_true]
    rw [chk_true (by intro h; cases h), chk_true (by intro h; cases h), chk_true (by intro h; cases h), chk_true (by intro h; cases h), chk_true (by intro h; cases h), chk_true (by intro h; cases h)]
    have : svc4 p = none := by
      cases p with
      | nil => rfl
      | cons n r =>
        simp only [svc4]
        cases decide (n = [])
        · simp only [cond_false]
          unfold svc3
          split
          · simp at h4
          · rfl
        · rfl
    rw [this]; rfl
theorem quotedR_eq (s : Str) (hs : s.length ≤ 17179869184) : R_quoted s = some ((cutAt 32 s).1, (unqS (cutAt 32 s).2.1).1, ((cutAt 32 s).2.2 && (!decide ((cutAt 32 s).1 = []))) && decide ((unqS (cutAt 32 s).2.1).2 = 0)) := by
  have h1 := cutAt_len 32 s
  unfold R_quoted
  rw [cut_eq s 32 (by omega), call_some, R_Unquote_eq _ (by omega), call_some]
/-- The words behind a line's word, read as a service. -/
theorem svc4_rest (l : Str) : svc4 (splitAt 32 (restOf l)) = bif twoOf l && !decide (keyOf l = []) then svc3 (keyOf l) (splitAt 32 (valOf l)) else none := by
  rw [splitAt_cut]
  rw [show (cutAt 32 (restOf l)).1 = keyOf l from rfl, show (cutAt 32 (restOf l)).2.1 = valOf l from rfl, show (cutAt 32 (restOf l)).2.2 = twoOf l from rfl]
  cases twoOf l
  · rw [if_neg (by simp)]
    simp only [svc4, Bool.false_and, cond_false]
    cases decide (restOf l = []) <;> rfl
  · rw [if_pos rfl]
    simp only [svc4, Bool.true_and]
    cases decide (keyOf l = []) <;> rfl
/-- Without a space there is no key. -/
theorem key_none {l : Str} (h : (cutAt 32 l).2.2 = false) : keyOf l = [] := by
  by_cases hm : (32 : UInt8) ∈ l
  · rw [(cutAt_some hm).1] at h; cases h
  · unfold keyOf restOf
    rw [cutAt_none hm]; rfl
end Go.Md
namespace Go.Md
open Go.Vc
/-- A line of a machine's text that has its form. -/
def okLine (l : Str) : Bool := bif decide (rankS (wordOf l) = 3) then (svc4 (splitAt 32 (restOf l))).isSome else decide (0 ≤ rankS (wordOf l)) && ((twoOf l && !decide (keyOf l = [])) && decide ((unqS (valOf l)).2 = 0))
def addLine (l : Str) (m : api_Machine) : api_Machine :=
  bif decide (rankS (wordOf l) = 0) then { m with Facts := m.Facts ++ [⟨keyOf l, (unqS (valOf l)).1⟩] } else
  bif decide (rankS (wordOf l) = 1) then { m with Files := m.Files ++ [⟨keyOf l, (unqS (valOf l)).1, decide (wordOf l = wRun)⟩] } else
  bif decide (rankS (wordOf l) = 2) then { m with Settings := m.Settings ++ [⟨keyOf l, (unqS (valOf l)).1⟩] } else
  { m with Services := m.Services ++ [(svcR (svc4 (splitAt 32 (restOf l)))).1] }
def stepS (last : Int) (m : api_Machine) (l : Str) : Option (Int × api_Machine) := bif decide (last ≤ rankS (wordOf l)) && okLine l then some (rankS (wordOf l), addLine l m) else none
/-- The lines from the n-th on; where the text is wrong, or the machine. -/
def procS : Nat → Int → api_Machine → List Str → Nat ⊕ api_Machine
  | _, _, m, [] => .inr m
  | n, last, m, [x] => bif decide (x = []) then .inr m else .inl n
  | n, last, m, x :: y :: r => match stepS last m x with
    | none => .inl n
    | some (last', m') => procS (n + 1) last' m' (y :: r)
structure Few (n T : Nat) (m : api_Machine) : Prop where
  facts : m.Facts.length ≤ n
  files : m.Files.length ≤ n
  sets : m.Settings.length ≤ n
  svcs : m.Services.length ≤ n
  fp : ∀ x ∈ m.Files, x.Path.length ≤ T
  sp : ∀ x ∈ m.Settings, x.Key.length ≤ T
  vp : ∀ x ∈ m.Services, x.Path.length ≤ T
theorem rank_cases (w : Str) : rankS w = 0 ∨ rankS w = 1 ∨ rankS w = 2 ∨ rankS w = 3 ∨ rankS w = -1 := by
  unfold rankS
  cases decide (w = wFact) <;> cases decide (w = wFile) <;> cases decide (w = wRun) <;> cases decide (w = wSet) <;> cases decide (w = wService) <;> simp
theorem svc3_len {k : Str} {p : List Str} {s : api_Service} (h : svc3 k p = some s) : ∃ x ∈ p, s.Path = x := by
  unfold svc3 at h
  split at h
  · rename_i a b c
    cases hq : (decide (a = []) || !bitS b) || !bitS c
    · rw [hq, cond_false] at h
      have := (Option.some.inj h).symm
      exact ⟨a, by simp, by rw [this]⟩
    · rw [hq] at h; cases h
  · cases h
theorem svc4_len {l : Str} : (svcR (svc4 (splitAt 32 (restOf l)))).1.Path.length ≤ l.length := by
  have h1 := cutAt_len 32 l
  cases hs : svc4 (splitAt 32 (restOf l)) with
  | none => simp [svcR, noSvc]
  | some s =>
    simp only [svcR]
    have : ∃ x ∈ splitAt 32 (restOf l), s.Path = x := by
      cases hp : splitAt 32 (restOf l) with
      | nil => exact absurd hp (splitAt_ne 32 _)
      | cons n r =>
        rw [hp] at hs
        simp only [svc4] at hs
        cases hn : decide (n = [])
        · rw [hn, cond_false] at hs
          obtain ⟨x, hx, e⟩ := svc3_len hs
          exact ⟨x, List.mem_cons_of_mem _ hx, e⟩
        · rw [hn] at hs; cases hs
    obtain ⟨x, hx, e⟩ := this
    have := splitAt_mem_len hx
    rw [e]
    have : (restOf l).length ≤ l.length := h1.2.1
    omega
theorem keyOf_len (l : Str) : (keyOf l).length ≤ l.length ∧ (valOf l).length ≤ l.length := by
  have h1 := cutAt_len 32 l
  have h2 := cutAt_len 32 (restOf l)
  have : (restOf l).length ≤ l.length := h1.2.1
  unfold keyOf valOf
  omega
theorem Few.add {n T : Nat} {m : api_Machine} (h : Few n T m) {l : Str} (hl : l.length ≤ T) : Few (n + 1) T (addLine l m) := by
  obtain ⟨h1, h2, h3, h4, h5, h6, h7⟩ := h
  have hk := keyOf_len l
  have hs := svc4_len (l := l)
  unfold addLine
  cases decide (rankS (wordOf l) = 0)
  · cases decide (rankS (wordOf l) = 1)
    · cases decide (rankS (wordOf l) = 2)
      · refine ⟨by simp only [cond_false]; omega, by simp only [cond_false]; omega, by simp only [cond_false]; omega, by simp only [cond_false, List.length_append, List.length_cons, List.length_nil]; omega, h5, h6, fun x hx => ?_⟩
        simp only [cond_false, List.mem_append, List.mem_singleton] at hx
        rcases hx with hx | rfl
        · exact h7 x hx
        · omega
      · refine ⟨by simp only [cond_false, cond_true]; omega, by simp only [cond_false, cond_true]; omega, by simp only [cond_false, cond_true, List.length_append, List.length_cons, List.length_nil]; omega, by simp only [cond_false, cond_true]; omega, h5, fun x hx => ?_, h7⟩
        simp only [cond_false, cond_true, List.mem_append, List.mem_singleton] at hx
        rcases hx with hx | rfl
        · exact h6 x hx
        · simp only; omega
    · refine ⟨by simp only [cond_false, cond_true]; omega, by simp only [cond_false, cond_true, List.length_append, List.length_cons, List.length_nil]; omega, by simp only [cond_false, cond_true]; omega, by simp only [cond_false, cond_true]; omega, fun x hx => ?_, h6, h7⟩
      simp only [cond_false, cond_true, List.mem_append, List.mem_singleton] at hx
      rcases hx with hx | rfl
      · exact h5 x hx
      · simp only; omega
  · exact ⟨by simp only [cond_true, List.length_append, List.length_cons, List.length_nil]; omega, by simp only [cond_true]; omega, by simp only [cond_true]; omega, by simp only [cond_true]; omega, h5, h6, h7⟩
/-! ### the program -/
theorem rank_words (w : Str) : (rankS w = 0 → w = wFact) ∧ (rankS w = 1 → decide (w = wFact) = false ∧ decide (w = wSet) = false ∧ (decide (w = wFile) || decide (w = wRun)) = true) ∧ (rankS w = 2 → w = wSet) ∧ (rankS w = 3 → w = wService) := by
  unfold rankS
  cases h1 : decide (w = wFact)
  · cases h2 : decide (w = wFile)
    · cases h3 : decide (w = wRun)
      · cases h4 : decide (w = wSet)
        · cases h5 : decide (w = wService)
          · simp
          · exact ⟨fun h => absurd h (by decide), fun h => absurd h (by decide), fun h => absurd h (by decide), fun _ => of_decide_eq_true h5⟩
        · exact ⟨fun h => absurd (show (2 : Int) = 0 from h) (by decide), fun h => absurd (show (2 : Int) = 1 from h) (by decide), fun _ => of_decide_eq_true h4, fun h => absurd (show (2 : Int) = 3 from h) (by decide)⟩
      · have : w = wRun := of_decide_eq_true h3
        subst this
        simp
    · have : w = wFile := of_decide_eq_true h2
      subst this
      simp
  · have : w = wFact := of_decide_eq_true h1
    subst this
    simp
theorem run_file {w : Str} (h : (decide (w = wFile) || decide (w = wRun)) = true) : (decide (w = wRun) || decide (w = wPutrun)) = decide (w = wRun) := by
  cases h1 : decide (w = wRun)
  · rw [h1, Bool.or_false] at h
    have : w = wFile := of_decide_eq_true h
    subst this
    rfl
  · rfl
/-- What the program reads of a line that has a place in a machine's text. -/
theorem read_ok (l : Str) (h : okLine l = true) : (readS l).2 = true ∧ (readS l).1.word = wordOf l ∧
    (rankS (wordOf l) = 0 → (readS l).1.setting = ⟨keyOf l, (unqS (valOf l)).1⟩) ∧ (rankS (wordOf l) = 1 → (readS l).1.file = ⟨keyOf l, (unqS (valOf l)).1, decide (wordOf l = wRun)⟩) ∧
    (rankS (wordOf l) = 2 → (readS l).1.setting = ⟨keyOf l, (unqS (valOf l)).1⟩) ∧ (rankS (wordOf l) = 3 → (readS l).1.service = (svcR (svc4 (splitAt 32 (restOf l)))).1) := by
  obtain ⟨r0, r1, r2, r3⟩ := rank_words (wordOf l)
  unfold okLine at h
  by_cases h3 : rankS (wordOf l) = 3
  · rw [decide_eq_true h3, cond_true, svc4_rest] at h
    cases hq : twoOf l && !decide (keyOf l = [])
    · rw [hq] at h; cases h
    rw [hq, cond_true] at h
    simp only [Bool.and_eq_true, Bool.not_eq_true'] at hq
    have hone : (cutAt 32 l).2.2 = true := by
      cases ho : (cutAt 32 l).2.2
      · have := key_none ho; rw [this] at hq; simp at hq
      · rfl
    have hw := r3 h3
    obtain ⟨s, hs⟩ := Option.isSome_iff_exists.1 h
    have hR : readS l = (⟨wordOf l, noFile, noSet, s⟩, true) := by
      unfold readS
      simp only [hone, hq.2, hw, hq.1, hs]
      rfl
    rw [hR]
    refine ⟨rfl, rfl, fun h => by omega, fun h => by omega, fun h => by omega, fun _ => ?_⟩
    rw [svc4_rest, hq.1, hq.2]
    simp only [Bool.not_false, Bool.and_self, cond_true, hs, svcR]
  · rw [decide_eq_false h3, cond_false] at h
    simp only [Bool.and_eq_true, decide_eq_true_eq, Bool.not_eq_true'] at h
    obtain ⟨h0, ⟨ht, hk⟩, hu⟩ := h
    have hone : (cutAt 32 l).2.2 = true := by
      cases ho : (cutAt 32 l).2.2
      · have := key_none ho; rw [this] at hk; simp at hk
      · rfl
    rcases rank_cases (wordOf l) with hr | hr | hr | hr | hr
    · have hw := r0 hr
      have hR : readS l = (⟨wordOf l, noFile, ⟨keyOf l, (unqS (valOf l)).1⟩, noSvc⟩, true) := by
        unfold readS
        simp only [hone, hk, hw, ht, hu]
        rfl
      rw [hR]
      exact ⟨rfl, rfl, fun _ => rfl, fun h => by omega, fun _ => rfl, fun h => by omega⟩
    · obtain ⟨w1, w2, w3⟩ := r1 hr
      have hR : readS l = (⟨wordOf l, ⟨keyOf l, (unqS (valOf l)).1, decide (wordOf l = wRun) || decide (wordOf l = wPutrun)⟩, noSet, noSvc⟩, true) := by
        unfold readS
        simp only [hone, hk, w1, w2, w3, ht, hu]
        rfl
      rw [hR]
      refine ⟨rfl, rfl, fun h => by omega, fun _ => ?_, fun h => by omega, fun h => by omega⟩
      simp only [run_file w3]
    · have hw := r2 hr
      have hR : readS l = (⟨wordOf l, noFile, ⟨keyOf l, (unqS (valOf l)).1⟩, noSvc⟩, true) := by
        unfold readS
        simp only [hone, hk, hw, ht, hu]
        rfl
      rw [hR]
      exact ⟨rfl, rfl, fun _ => rfl, fun h => by omega, fun _ => rfl, fun h => by omega⟩
    · exact absurd hr h3
    · omega
/-- A line that has none: the program does not read it, or it has no rank. -/
theorem read_bad (l : Str) (h : okLine l = false) : (readS l).2 = false ∨ rankS (readS l).1.word < 0 := by
  obtain ⟨r0, r1, r2, r3⟩ := rank_words (wordOf l)
  cases hpre : (!(cutAt 32 l).2.2 || decide (keyOf l = []))
  rotate_left
  · left
    unfold readS
    simp only [hpre, cond_true]
  unfold okLine at h
  rcases rank_cases (wordOf l) with hr | hr | hr | hr | hr
  · have hw := r0 hr
    rw [decide_eq_false (by omega), cond_false, decide_eq_true (by omega), Bool.true_and] at h
    left
    unfold readS
    simp only [hpre, hw, cond_false]
    simp only [Bool.or_eq_false_iff] at hpre
    rw [hpre.2] at h
    simpa using h
  · obtain ⟨w1, w2, w3⟩ := r1 hr
    rw [decide_eq_false (by omega), cond_false, decide_eq_true (by omega), Bool.true_and] at h
    left
    unfold readS
    simp only [hpre, w1, w2, w3, cond_false, cond_true, Bool.or_self, Bool.true_or]
    simp only [Bool.or_eq_false_iff] at hpre
    rw [hpre.2] at h
    simpa using h
  · have hw := r2 hr
    rw [decide_eq_false (by omega), cond_false, decide_eq_true (by omega), Bool.true_and] at h
    left
    unfold readS
    simp only [hpre, hw, cond_false]
    simp only [Bool.or_eq_false_iff] at hpre
    rw [hpre.2] at h
    simpa using h
  · have hw := r3 hr
    rw [decide_eq_true hr, cond_true, svc4_rest] at h
    left
    simp only [Bool.or_eq_false_iff] at hpre
    rw [hpre.2] at h
    unfold readS
    simp only [hpre.1, hpre.2, hw]
    cases ht : twoOf l
    · rfl
    · rw [ht] at h
      simp only [Bool.not_false, Bool.and_self, cond_true] at h
      have : svc3 (keyOf l) (splitAt 32 (valOf l)) = none := by
        cases hs : svc3 (keyOf l) (splitAt 32 (valOf l)) with
        | none => rfl
        | some s => rw [hs] at h; cases h
      rw [this]; rfl
  · right
    have hn : decide (wordOf l = wFact) = false ∧ decide (wordOf l = wSet) = false ∧ decide (wordOf l = wFile) = false ∧ decide (wordOf l = wRun) = false ∧ decide (wordOf l = wService) = false := by
      unfold rankS at hr
      cases h1 : decide (wordOf l = wFact) <;> cases h2 : decide (wordOf l = wFile) <;> cases h3 : decide (wordOf l = wRun) <;> cases h4 : decide (wordOf l = wSet) <;> cases h5 : decide (wordOf l = wService) <;> simp [h1, h2, h3, h4, h5] at hr ⊢
    obtain ⟨n1, n2, n3, n4, n5⟩ := hn
    unfold readS
    simp only [hpre, n1, n2, n3, n4, n5, cond_false, Bool.or_self, Bool.false_or]
    cases decide (wordOf l = wPut) <;> cases decide (wordOf l = wPutrun) <;> cases decide (wordOf l = wRemove) <;> cases decide (wordOf l = wUnset) <;> cases decide (wordOf l = wDrop) <;> (simp only [cond_false, cond_true, Bool.or_self, Bool.or_true, Bool.true_or]; omega)
theorem parse1_eq (x : disk_line) (last : Int) (m : api_Machine) (n T : Nat) (hm : Few n T m) (hn : n < 274877906944) : disk_Parse_1_i1 x last m.Facts m.Files m.Settings m.Services =
    bif decide (rankS x.word < last) then some (false, last, m.Facts, m.Files, m.Settings, m.Services) else
    bif decide (rankS x.word = 0) then some (true, rankS x.word, m.Facts ++ [x.setting], m.Files, m.Settings, m.Services) else
    bif decide (rankS x.word = 1) then some (true, rankS x.word, m.Facts, m.Files ++ [x.file], m.Settings, m.Services) else
    bif decide (rankS x.word = 2) then some (true, rankS x.word, m.Facts, m.Files, m.Settings ++ [x.setting], m.Services) else
    some (true, rankS x.word, m.Facts, m.Files, m.Settings, m.Services ++ [x.service]) := by
  obtain ⟨h1, h2, h3, h4, _, _, _⟩ := hm
  unfold disk_Parse_1_i1
  rw [rank_eq, call_some]
  rw [chk_true (by simp; omega), chk_true (by simp; omega), chk_true (by simp; omega), chk_true (by simp; omega)]
/-- A line as the program's function takes it. -/
theorem parse1_ok (l : Str) (last : Int) (m : api_Machine) (n T : Nat) (hm : Few n T m) (hn : n < 274877906944) (hok : okLine l = true) (hr : last ≤ rankS (wordOf l)) :
    disk_Parse_1_i1 (readS l).1 last m.Facts m.Files m.Settings m.Services = some (true, rankS (wordOf l), (addLine l m).Facts, (addLine l m).Files, (addLine l m).Settings, (addLine l m).Services) := by
  obtain ⟨h1, h2, h3, h4, h5, h6⟩ := read_ok l hok
  rw [parse1_eq _ _ _ _ _ hm hn, h2, decide_eq_false (by omega), cond_false]
  unfold addLine
  rcases rank_cases (wordOf l) with hr' | hr' | hr' | hr' | hr'
  · rw [h3 hr']; simp only [hr']; rfl
  · rw [h4 hr']; simp only [hr']; rfl
  · rw [h5 hr']; simp only [hr']; rfl
  · rw [h6 hr']; simp only [hr']; rfl
  · unfold okLine at hok
    rw [hr'] at hok
    simp at hok
theorem parse1_bad (l : Str) (last : Int) (m : api_Machine) (n T : Nat) (hm : Few n T m) (hn : n < 274877906944) (hl : 0 ≤ last) (hok : stepS last m l = none) (h2 : (readS l).2 = true) :
    disk_Parse_1_i1 (readS l).1 last m.Facts m.Files m.Settings m.Services = some (false, last, m.Facts, m.Files, m.Settings, m.Services) := by
  rw [parse1_eq _ _ _ _ _ hm hn]
  unfold stepS at hok
  have : rankS (readS l).1.word < last := by
    cases ho : okLine l
    · rcases read_bad l ho with h | h
      · rw [h2] at h; cases h
      · omega
    · have := (read_ok l ho).2.1
      rw [this]
      rw [ho, Bool.and_true] at hok
      cases hd : decide (last ≤ rankS (wordOf l))
      · have := of_decide_eq_false hd; omega
      · rw [hd] at hok; cases hok
  rw [decide_eq_true this]; rfl
end Go.Md
namespace Go.Md
open Go.Vc
theorem rank_ge {l : Str} {last last' : Int} {m m' : api_Machine} (h : stepS last m l = some (last', m')) : okLine l = true ∧ last ≤ rankS (wordOf l) ∧ last' = rankS (wordOf l) ∧ m' = addLine l m := by
  unfold stepS at h
  cases hd : decide (last ≤ rankS (wordOf l)) && okLine l
  · rw [hd] at h; cases h
  · rw [hd] at h
    simp only [Bool.and_eq_true, decide_eq_true_eq] at hd
    have := Option.some.inj h
    exact ⟨hd.2, hd.1, (congrArg Prod.fst this).symm, (congrArg Prod.snd this).symm⟩
theorem ok_rank {l : Str} (h : okLine l = true) : 0 ≤ rankS (wordOf l) := by
  rcases rank_cases (wordOf l) with hr | hr | hr | hr | hr
  all_goals first | omega | skip
  unfold okLine at h
  rw [hr] at h
  simp at h
theorem procS_cons (n : Nat) (last : Int) (m : api_Machine) (x : Str) (r : List Str) (hr : r ≠ []) : procS n last m (x :: r) = match stepS last m x with
    | none => .inl n
    | some (last', m') => procS (n + 1) last' m' r := by
  cases r with
  | nil => exact absurd rfl hr
  | cons y r => simp only [procS] <;> (cases stepS last m x <;> rfl)
/-- Where the text ends well, or the number of the line that is wrong. -/
def eachR (p : Nat ⊕ api_Machine) (z : Option (Int × Int × List api_Setting × List api_File × List api_Setting × List api_Service)) : Prop := match p with
  | .inl j => ∃ q, z = some ((j : Int), q)
  | .inr m => ∃ last, z = some (-1, last, m.Facts, m.Files, m.Settings, m.Services)
theorem eachLine_eq (text : Str) (ht : text.length ≤ 17179869184) : eachR (procS 0 0 ⟨[], [], [], []⟩ (splitAt 10 text)) (disk_eachLine_i1 text 0 [] [] [] []) := by
  unfold disk_eachLine_i1
  obtain ⟨N, hN⟩ : ∃ N, Fuel = N := ⟨_, rfl⟩
  have hN2 : 1099511627776 ≤ N := hN ▸ fuel_ge
  rw [hN]
  clear hN
  simp only [jp_eq]
  have key : ∀ (k : Nat) (N : Nat) (t : Str) (n : Nat) (last : Int) (m : api_Machine), t.length < N → t.length ≤ k → n + t.length ≤ text.length → 0 ≤ last → Few n text.length m →
      eachR (procS n last m (splitAt 10 t)) (loopN N (fun s nx_95 k_94 =>
    match s with
    | (text_84, n_85, o0_0_86, o2_87, o3_88, o4_89, o5_90) =>
      bif !decide (text_84 = []) then
        call (strings_Cut text_84 ([10] : Str)) fun r_96 =>
        call (disk_readLine r_96.1) fun r_97 =>
        callG (!((!r_96.2.2) || (!r_97.2))) (disk_Parse_1_i1 r_97.1 o0_0_86 o2_87 o3_88 o4_89 o5_90) (false, o0_0_86, o2_87, o3_88, o4_89, o5_90) fun r_98 =>
        bif (((!r_96.2.2) || (!r_97.2)) || (!r_98.1)) then
          some (n_85, r_98.2.1, r_98.2.2.1, r_98.2.2.2.1, r_98.2.2.2.2.1, r_98.2.2.2.2.2)
        else
        nx_95 (r_96.2.1, IntKind.i64.wrap (n_85 + 1), r_98.2.1, r_98.2.2.1, r_98.2.2.2.1, r_98.2.2.2.2.1, r_98.2.2.2.2.2)
      else
      k_94 (text_84, n_85, o0_0_86, o2_87, o3_88, o4_89, o5_90)) (t, (n : Int), last, m.Facts, m.Files, m.Settings, m.Services) (fun s => match s with
    | (text_84, n_85, o0_0_86, o2_87, o3_88, o4_89, o5_90) => some (-1, o0_0_86, o2_87, o3_88, o4_89, o5_90))) := by
    intro k
    induction k with
    | zero =>
      intro N t n last m hN hk hn hl hm
      obtain rfl : t = [] := List.length_eq_zero_iff.1 (by omega)
      cases N with
      | zero => simp at hN
      | succ N =>
        unfold loopN
        exact ⟨last, rfl⟩
    | succ k ih =>
      intro N t n last m hN hk hn hl hm
      cases N with
      | zero => simp at hN
      | succ N =>
        unfold loopN
        cases t with
        | nil => exact ⟨last, rfl⟩
        | cons c t =>
          generalize ht' : c :: t = t0 at *
          have hne : t0 ≠ [] := by rw [← ht']; simp
          dsimp +instances only
          rw [decide_eq_false hne]
          simp only [Bool.not_false, cond_true]
          have h1 := cutAt_len 10 t0
          rw [cut_eq t0 10 (by omega), call_some, readLine_eq _ (by omega), call_some, splitAt_cut]
          cases hc : (cutAt 10 t0).2.2
          · simp only [Bool.not_false, Bool.true_or, Bool.not_true, callG_false, cond_true, Bool.false_eq_true, if_false]
            rw [show procS n last m [t0] = .inl n by simp only [procS, decide_eq_false hne, cond_false]]
            exact ⟨_, rfl⟩
          · have h3 := h1.2.2 hc
            simp only [Bool.not_true, Bool.false_or, if_true]
            rw [procS_cons _ _ _ _ _ (splitAt_ne 10 _)]
            generalize hl0 : (cutAt 10 t0).1 = l at *
            cases hs : stepS last m l with
            | none =>
              cases hr : (readS l).2
              · simp only [Bool.not_false, Bool.not_true, callG_false, Bool.true_or, cond_true]
                exact ⟨_, rfl⟩
              · simp only [Bool.not_true, Bool.not_false, callG_true]
                rw [parse1_bad l last m n text.length hm (by omega) hl hs hr, call_some]
                simp only [Bool.not_false, Bool.or_true, cond_true]
                exact ⟨_, rfl⟩
            | some p =>
              obtain ⟨last', m'⟩ := p
              obtain ⟨hok, hle, rfl, rfl⟩ := rank_ge hs
              have hr := (read_ok l hok).1
              rw [hr]
              simp only [Bool.not_true, Bool.not_false, callG_true]
              rw [parse1_ok l last m n text.length hm (by omega) hok hle, call_some]
              simp only [Bool.not_true, Bool.or_self, cond_false]
              rw [wrap1 n (by omega)]
              exact ih N _ (n + 1) _ _ (by omega) (by omega) (by omega) (ok_rank hok) (hm.add (by omega))
  have := key text.length N text 0 0 ⟨[], [], [], []⟩ (by omega) (Nat.le_refl _) (by omega) (Int.le_refl _) ⟨Nat.le_refl _, Nat.le_refl _, Nat.le_refl _, Nat.le_refl _, fun x hx => (by cases hx), fun x hx => (by cases hx), fun x hx => (by cases hx)⟩
  exact this
theorem procS_few : ∀ (L : List Str) (n T : Nat) (last : Int) (m m' : api_Machine), (∀ x ∈ L, x.length ≤ T) → Few n T m → procS n last m L = .inr m' → Few (n + L.length) T m'
  | [], n, T, last, m, m', hL, hm, h => by
    simp only [procS] at h
    cases h
    exact hm
  | [x], n, T, last, m, m', hL, hm, h => by
    simp only [procS] at h
    cases hx : decide (x = [])
    · rw [hx] at h; cases h
    · rw [hx] at h
      cases h
      obtain ⟨h1, h2, h3, h4, h5, h6, h7⟩ := hm
      exact ⟨by simp; omega, by simp; omega, by simp; omega, by simp; omega, h5, h6, h7⟩
  | x :: y :: r, n, T, last, m, m', hL, hm, h => by
    rw [procS_cons _ _ _ _ _ (by simp)] at h
    cases hs : stepS last m x with
    | none => rw [hs] at h; cases h
    | some p =>
      obtain ⟨last', m1⟩ := p
      rw [hs] at h
      obtain ⟨hok, hle, rfl, rfl⟩ := rank_ge hs
      have := procS_few (y :: r) (n + 1) T _ _ m' (fun z hz => hL z (List.mem_cons_of_mem _ hz)) (hm.add (hL x (List.mem_cons_self ..))) h
      simp only [List.length_cons] at this ⊢
      rw [show n + (r.length + 1 + 1) = n + 1 + (r.length + 1) by omega]
      exact this
theorem few_fit {n T : Nat} {m : api_Machine} (h : Few n T m) (hn : n ≤ 17179869184) (hT : T ≤ 17179869184) : Fit m := by
  obtain ⟨h1, h2, h3, h4, h5, h6, h7⟩ := h
  exact ⟨by omega, by omega, by omega, by omega, fun x hx => Nat.le_trans (h5 x hx) hT, fun x hx => Nat.le_trans (h6 x hx) hT, fun x hx => Nat.le_trans (h7 x hx) hT⟩
def noM : api_Machine := ⟨[], [], [], []⟩
/-- What Parse says of a text that is not too long. -/
def parseP (text : Str) : api_Machine × Int × Int := match procS 0 0 noM (splitAt 10 text) with
  | .inl j => (noM, (j : Int), 8)
  | .inr m => bif !decide (checkE m = 0) then (noM, 0, checkE m) else (m, 0, 0)
theorem proc_fit (text : Str) (ht : text.length ≤ 4294967296) {m : api_Machine} (h : procS 0 0 noM (splitAt 10 text) = .inr m) : Fit m := by
  have := procS_few (splitAt 10 text) 0 text.length 0 noM m (fun x hx => splitAt_mem_len hx) ⟨Nat.le_refl _, Nat.le_refl _, Nat.le_refl _, Nat.le_refl _, fun x hx => (by cases hx), fun x hx => (by cases hx), fun x hx => (by cases hx)⟩ h
  rw [splitAt_length] at this
  have hc := List.count_le_length (a := (10 : UInt8)) (l := text)
  exact few_fit this (by omega) (by omega)
theorem disk_Parse_eq (text : Str) (ht : text.length ≤ 4194304) : disk_Parse text = some (parseP text) := by
  unfold disk_Parse parseP
  rw [decide_eq_false (by omega), cond_false]
  have h := eachLine_eq text (by omega)
  rw [show (⟨[], [], [], []⟩ : api_Machine) = noM from rfl] at *
  cases hp : procS 0 0 noM (splitAt 10 text) with
  | inl j =>
    rw [hp] at h
    obtain ⟨q, h⟩ := h
    rw [h, call_some]
    simp only
    rw [decide_eq_true (by omega)]
    rfl
  | inr m =>
    rw [hp] at h
    obtain ⟨last, h⟩ := h
    rw [h, call_some]
    simp only
    rw [show decide ((0 : Int) ≤ -1) = false from rfl, cond_false]
    rw [show (⟨m.Facts, m.Files, m.Settings, m.Services⟩ : api_Machine) = m from rfl, disk_Check_eq m (proc_fit text (by omega) hp), call_some]
    cases decide (checkE m = 0) <;> rfl

/-! ### the reference -/
theorem index5 (w : Str) : slices_Index_string_string [wFact, wFile, wSet, wService, wRun] w = some (bif decide (w = wFact) then 0 else bif decide (w = wFile) then 1 else bif decide (w = wSet) then 2 else bif decide (w = wService) then 3 else bif decide (w = wRun) then 4 else -1) := by
  unfold slices_Index_string_string
  simp only [jp_eq, forL]
  cases decide (w = wFact)
  · cases decide (w = wFile)
    · cases decide (w = wSet)
      · cases decide (w = wService)
        · cases decide (w = wRun) <;> rfl
        · rfl
      · rfl
    · rfl
  · rfl
theorem rank5 (w : Str) : (bif decide ((bif decide (w = wFact) then (0 : Int) else bif decide (w = wFile) then 1 else bif decide (w = wSet) then 2 else bif decide (w = wService) then 3 else bif decide (w = wRun) then 4 else -1) = 4) then (1 : Int) else (bif decide (w = wFact) then (0 : Int) else bif decide (w = wFile) then 1 else bif decide (w = wSet) then 2 else bif decide (w = wService) then 3 else bif decide (w = wRun) then 4 else -1)) = rankS w := by
  unfold rankS
  by_cases h1 : w = wFact
  · subst h1; rfl
  by_cases h2 : w = wFile
  · subst h2; rfl
  by_cases h3 : w = wSet
  · subst h3; rfl
  by_cases h4 : w = wService
  · subst h4; rfl
  rw [decide_eq_false h1, decide_eq_false h2, decide_eq_false h3, decide_eq_false h4]
  cases decide (w = wRun) <;> rfl
/-- One round of the reference's loop. -/
def roundR (torn : Int) (i : Nat) (l : Str) (stage : Int) (m : api_Machine) : Option (Int × api_Machine) := bif (!(decide (stage ≤ rankS (wordOf l)) && !decide ((i : Int) = torn))) || !okLine l then none else some (rankS (wordOf l), addLine l m)
abbrev St5 := Int × List api_Setting × List api_File × List api_Setting × List api_Service
theorem roundR_eq {Z : Type} (torn : Int) (i : Nat) (l : Str) (hl : l.length ≤ 17179869184) (stage : Int) (hst : 0 ≤ stage) (m : api_Machine) (n T : Nat) (hm : Few n T m) (hn : n < 274877906944) (nx : St5 → Option Z) (zE : Z) :
    (call (strings_Cut l ([32] : Str)) fun r_502 =>
      call (slices_Index_string_string [([102, 97, 99, 116] : Str), ([102, 105, 108, 101] : Str), ([115, 101, 116] : Str), ([115, 101, 114, 118, 105, 99, 101] : Str), ([114, 117, 110] : Str)] r_502.1) fun r_503 =>
      jp (S := Int) (fun at_504 =>
        call (R_quoted r_502.2.1) fun r_506 =>
        jp (S := Bool × List api_Setting × List api_File × List api_Setting × List api_Service) (fun s => match s with
          | (is_513, o2_514, o3_515, o4_516, o5_517) =>
            bif ((!((decide (stage ≤ at_504)) && (!decide ((i : Int) = torn)))) || (!is_513)) then
              some zE
            else
            nx (at_504, o2_514, o3_515, o4_516, o5_517)) fun k_518 =>
        bif decide (at_504 = 0) then
          chk ((m.Facts ++ [(api_Setting.mk r_506.1 r_506.2.1)]).length ≤ 274877906944) <|
          k_518 (r_506.2.2, m.Facts ++ [(api_Setting.mk r_506.1 r_506.2.1)], m.Files, m.Settings, m.Services)
        else
        bif decide (at_504 = 1) then
          chk ((m.Files ++ [(api_File.mk r_506.1 r_506.2.1 (decide (r_502.1 = ([114, 117, 110] : Str))))]).length ≤ 274877906944) <|
          k_518 (r_506.2.2, m.Facts, m.Files ++ [(api_File.mk r_506.1 r_506.2.1 (decide (r_502.1 = ([114, 117, 110] : Str))))], m.Settings, m.Services)
        else
        bif decide (at_504 = 2) then
          chk ((m.Settings ++ [(api_Setting.mk r_506.1 r_506.2.1)]).length ≤ 274877906944) <|
          k_518 (r_506.2.2, m.Facts, m.Files, m.Settings ++ [(api_Setting.mk r_506.1 r_506.2.1)], m.Services)
        else
        bif decide (at_504 = 3) then
          call (strings_Split r_502.2.1 ([32] : Str)) fun r_522 =>
          call (R_serviceOf r_522) fun r_523 =>
          chk ((m.Services ++ [r_523.1]).length ≤ 274877906944) <|
          k_518 (r_523.2, m.Facts, m.Files, m.Settings, m.Services ++ [r_523.1])
        else
        k_518 (r_506.2.2, m.Facts, m.Files, m.Settings, m.Services)) fun k_505 =>
      bif decide (r_503 = 4) then
        k_505 1
      else
      k_505 r_503) = match roundR torn i l stage m with
        | none => some zE
        | some (st', m') => nx (st', m'.Facts, m'.Files, m'.Settings, m'.Services) := by
  have h1 := cutAt_len 32 l
  obtain ⟨f1, f2, f3, f4, _, _, _⟩ := hm
  rw [cut_eq l 32 (by omega), call_some, show (cutAt 32 l).1 = wordOf l from rfl, show (cutAt 32 l).2.1 = restOf l from rfl]
  rw [show (cutAt 32 l).2.1 = restOf l from rfl] at h1
  rw [index5, call_some, jpC, rank5]
  simp only [jp_eq]
  rw [quotedR_eq _ (by omega), call_some]
  rw [show (cutAt 32 (restOf l)).1 = keyOf l from rfl, show (cutAt 32 (restOf l)).2.1 = valOf l from rfl, show (cutAt 32 (restOf l)).2.2 = twoOf l from rfl]
  rw [split_eq _ 32 (by omega), call_some, serviceOf_eq, call_some]
  rw [chk_true (by simp; omega), chk_true (by simp; omega), chk_true (by simp; omega), chk_true (by simp; omega)]
  unfold roundR okLine addLine
  have ho : (svcR (svc4 (splitAt 32 (restOf l)))).2 = (svc4 (splitAt 32 (restOf l))).isSome := by cases svc4 (splitAt 32 (restOf l)) <;> rfl
  rcases rank_cases (wordOf l) with hr | hr | hr | hr | hr
  all_goals
    rw [hr]
    simp only [show decide ((0 : Int) = 0) = true from rfl, show decide ((1 : Int) = 0) = false from rfl, show decide ((1 : Int) = 1) = true from rfl, show decide ((2 : Int) = 0) = false from rfl, show decide ((2 : Int) = 1) = false from rfl, show decide ((2 : Int) = 2) = true from rfl, show decide ((3 : Int) = 0) = false from rfl, show decide ((3 : Int) = 1) = false from rfl, show decide ((3 : Int) = 2) = false from rfl, show decide ((3 : Int) = 3) = true from rfl,
      show decide ((0 : Int) = 3) = false from rfl, show decide ((1 : Int) = 3) = false from rfl, show decide ((2 : Int) = 3) = false from rfl, show decide ((-1 : Int) = 0) = false from rfl, show decide ((-1 : Int) = 1) = false from rfl, show decide ((-1 : Int) = 2) = false from rfl, show decide ((-1 : Int) = 3) = false from rfl,
      show decide ((0 : Int) ≤ 0) = true from rfl, show decide ((0 : Int) ≤ 1) = true from rfl, show decide ((0 : Int) ≤ 2) = true from rfl, show decide ((0 : Int) ≤ 3) = true from rfl, show decide ((0 : Int) ≤ -1) = false from rfl, cond_true, cond_false, Bool.true_and, Bool.false_and, Bool.not_false, Bool.or_true, decide_true]
  · cases (!(decide (stage ≤ 0) && !decide ((i : Int) = torn))) || !((twoOf l && !decide (keyOf l = [])) && decide ((unqS (valOf l)).2 = 0)) <;> rfl
  · cases (!(decide (stage ≤ 1) && !decide ((i : Int) = torn))) || !((twoOf l && !decide (keyOf l = [])) && decide ((unqS (valOf l)).2 = 0)) <;> rfl
  · cases (!(decide (stage ≤ 2) && !decide ((i : Int) = torn))) || !((twoOf l && !decide (keyOf l = [])) && decide ((unqS (valOf l)).2 = 0)) <;> rfl
  · rw [ho]
    cases (!(decide (stage ≤ 3) && !decide ((i : Int) = torn))) || !(svc4 (splitAt 32 (restOf l))).isSome <;> rfl
  · rw [decide_eq_false (by omega)]
    rfl
theorem roundR_step (torn : Int) (i : Nat) (l : Str) (stage : Int) (m : api_Machine) (h : (i : Int) ≠ torn) : roundR torn i l stage m = stepS stage m l := by
  unfold roundR stepS
  rw [decide_eq_false h]
  cases decide (stage ≤ rankS (wordOf l)) <;> cases okLine l <;> rfl
theorem roundR_torn (torn : Int) (i : Nat) (l : Str) (stage : Int) (m : api_Machine) (h : (i : Int) = torn) : roundR torn i l stage m = none := by
  unfold roundR
  rw [decide_eq_true h]
  cases decide (stage ≤ rankS (wordOf l)) <;> rfl
/-- The reference's loop, with the lines that are left. -/
theorem loopR5 {Z : Type} {f : Nat → Str → St5 → (St5 → Option Z) → (St5 → Option Z) → Option Z} {K : St5 → Option Z} (T B : Nat) (hT : T ≤ 17179869184) (hB : B < 274877906944) (torn : Int) (zE : Nat → Z)
    (hf : ∀ i l stage (m : api_Machine) nx n, l.length ≤ T → 0 ≤ stage → Few n T m → n < 274877906944 → f i l (stage, m.Facts, m.Files, m.Settings, m.Services) nx K = match roundR torn i l stage m with
        | none => some (zE i)
        | some (st', m') => nx (st', m'.Facts, m'.Files, m'.Settings, m'.Services)) :
    ∀ (L tail : List Str) (i : Nat) (stage : Int) (m : api_Machine), (∀ x ∈ L, x.length ≤ T) → 0 ≤ stage → Few i T m → i + L.length ≤ B →
      ((torn = -1 ∧ tail = [[]]) ∨ (tail = [] ∧ ((L = [] ∧ False) ∨ torn = ((i + L.length - 1 : Nat) : Int)) ∧ L ≠ [] ∧ (∀ h : L ≠ [], L.getLast h ≠ []))) →
      match procS i stage m (L ++ tail) with
        | .inl j => forL L i f (stage, m.Facts, m.Files, m.Settings, m.Services) K = some (zE j)
        | .inr m' => ∃ st', forL L i f (stage, m.Facts, m.Files, m.Settings, m.Services) K = K (st', m'.Facts, m'.Files, m'.Settings, m'.Services)
  | [], tail, i, stage, m, hL, hst, hm, hB', hc => by
    rcases hc with ⟨_, rfl⟩ | ⟨_, _, h, _⟩
    · exact ⟨stage, rfl⟩
    · exact absurd rfl h
  | x :: L, tail, i, stage, m, hL, hst, hm, hB', hc => by
    simp only [List.length_cons] at hB'
    unfold forL
    rw [hf i x stage m _ i (hL x (List.mem_cons_self ..)) hst hm (by omega)]
    -- the last line, that is torn
    by_cases hlast : tail = [] ∧ L = []
    · obtain ⟨rfl, rfl⟩ := hlast
      rcases hc with ⟨_, h⟩ | ⟨_, h, _, hne⟩
      · cases h
      · have hx := hne (by simp)
        simp only [List.getLast_singleton] at hx
        have ht : torn = (i : Int) := by
          rcases h with ⟨h, _⟩ | h
          · cases h
          · simpa using h
        rw [roundR_torn _ _ _ _ _ ht.symm]
        simp only [List.append_nil, procS, decide_eq_false hx, cond_false]
    · have hne : L ++ tail ≠ [] := by
        intro h
        obtain ⟨rfl, rfl⟩ := List.append_eq_nil_iff.1 h
        exact hlast ⟨rfl, rfl⟩
      have ht : (i : Int) ≠ torn := by
        rcases hc with ⟨h, _⟩ | ⟨rfl, h, _, _⟩
        · omega
        · have hL0 : L ≠ [] := fun h => hlast ⟨rfl, h⟩
          have := List.length_pos_iff.2 hL0
          rcases h with ⟨h, _⟩ | h
          · cases h
          · simp only [List.length_cons] at h; omega
      rw [roundR_step _ _ _ _ _ ht, List.cons_append, procS_cons _ _ _ _ _ hne]
      cases hs : stepS stage m x with
      | none => rfl
      | some p =>
        obtain ⟨st', m1⟩ := p
        obtain ⟨hok, hle, rfl, rfl⟩ := rank_ge hs
        refine loopR5 T B hT hB torn zE hf L tail (i + 1) _ _ (fun y hy => hL y (List.mem_cons_of_mem _ hy)) (ok_rank hok) (hm.add (hL x (List.mem_cons_self ..))) (by omega) ?_
        rcases hc with h | ⟨rfl, h, _, hl⟩
        · exact .inl h
        · have hL0 : L ≠ [] := fun h => hlast ⟨rfl, h⟩
          refine .inr ⟨rfl, .inr ?_, hL0, fun _ => ?_⟩
          · rcases h with ⟨h, _⟩ | h
            · cases h
            · simp only [List.length_cons] at h; rw [h]; congr 1
              have := List.length_pos_iff.2 hL0
              omega
          · have := hl (by simp)
            rwa [List.getLast_cons hL0] at this
theorem loopR6 {Z : Type} {f : Nat → Str → St5 → (St5 → Option Z) → (St5 → Option Z) → Option Z} {K : St5 → Option Z} (G : api_Machine → Option Z) (hK : ∀ st (m : api_Machine), K (st, m.Facts, m.Files, m.Settings, m.Services) = G m) (T B : Nat) (hT : T ≤ 17179869184) (hB : B < 274877906944) (torn : Int) (zE : Nat → Z)
    (hf : ∀ i l stage (m : api_Machine) nx n, l.length ≤ T → 0 ≤ stage → Few n T m → n < 274877906944 → f i l (stage, m.Facts, m.Files, m.Settings, m.Services) nx K = match roundR torn i l stage m with
        | none => some (zE i)
        | some (st', m') => nx (st', m'.Facts, m'.Files, m'.Settings, m'.Services))
    (L tail : List Str) (hL : ∀ x ∈ L, x.length ≤ T) (hB' : L.length ≤ B)
    (hc : (torn = -1 ∧ tail = [[]]) ∨ (tail = [] ∧ ((L = [] ∧ False) ∨ torn = ((0 + L.length - 1 : Nat) : Int)) ∧ L ≠ [] ∧ (∀ h : L ≠ [], L.getLast h ≠ []))) :
    forL L 0 f (0, [], [], [], []) K = match procS 0 0 noM (L ++ tail) with
        | .inl j => some (zE j)
        | .inr m' => G m' := by
  have key := loopR5 (K := K) T B hT hB torn zE hf L tail 0 0 noM hL (Int.le_refl _) ⟨Nat.le_refl _, Nat.le_refl _, Nat.le_refl _, Nat.le_refl _, fun x hx => (by cases hx), fun x hx => (by cases hx), fun x hx => (by cases hx)⟩ (by omega) hc
  cases hp : procS 0 0 noM (L ++ tail) with
  | inl j => rw [hp] at key; exact key
  | inr m =>
    rw [hp] at key
    obtain ⟨st', key⟩ := key
    exact key.trans (hK st' m)
theorem cutLines_eq (text : Str) (ht : text.length ≤ 4294967296) : ∃ L torn tail, R_cutLines text = some (L, torn) ∧ splitAt 10 text = L ++ tail ∧ ((torn = -1 ∧ tail = [[]]) ∨ (tail = [] ∧ ((L = [] ∧ False) ∨ torn = ((0 + L.length - 1 : Nat) : Int)) ∧ L ≠ [] ∧ (∀ h : L ≠ [], L.getLast h ≠ []))) := by
  unfold R_cutLines
  rw [split_eq text 10 (by omega), call_some]
  have hne := splitAt_ne 10 text
  have hl := splitAt_length 10 text
  have hc := List.count_le_length (a := (10 : UInt8)) (l := text)
  have hpos := List.length_pos_iff.2 hne
  rw [wrapm1 _ hpos (by omega), idx_eq (by omega)]
  have hlast : (splitAt 10 text)[(splitAt 10 text).length - 1]'(by omega) = (splitAt 10 text).getLast hne := (List.getLast_eq_getElem hne).symm
  rw [hlast]
  by_cases he : (splitAt 10 text).getLast hne = []
  · rw [decide_eq_true he, cond_true, chk_true (by omega)]
    refine ⟨_, _, [[]], rfl, ?_, .inl ⟨rfl, rfl⟩⟩
    rw [Int.toNat_natCast, ← List.dropLast_eq_take, ← he]
    exact (List.dropLast_concat_getLast hne).symm
  · rw [decide_eq_false he, cond_false]
    exact ⟨_, _, [], rfl, (List.append_nil _).symm, .inr ⟨rfl, .inr (by rw [Nat.zero_add]), hne, fun _ => he⟩⟩
theorem R_Parse_eq (text : Str) (ht : text.length ≤ 4194304) : R_Parse text = some (parseP text) := by
  unfold R_Parse parseP
  rw [decide_eq_false (by omega), cond_false]
  obtain ⟨L, torn, tail, h1, h2, h3⟩ := cutLines_eq text (by omega)
  have hlen := splitAt_length 10 text
  have hc := List.count_le_length (a := (10 : UInt8)) (l := text)
  rw [h1, call_some]
  have hLl : L.length ≤ text.length + 1 := by
    have := congrArg List.length h2
    rw [List.length_append] at this
    omega
  rw [jp_eq]
  refine (loopR6 (fun m => call (R_Check m) fun r_266 => bif !decide (r_266 = 0) then some (noM, 0, r_266) else some (m, 0, 0)) (fun st m => rfl) text.length (text.length + 1) (by omega) (by omega) torn (fun i => (noM, (i : Int), 8)) (fun i l stage m nx n hl hst hm hn => roundR_eq torn i l (by omega) stage hst m n text.length hm hn nx (noM, (i : Int), 8)) L tail (fun x hx => by
      have : x ∈ splitAt 10 text := by rw [h2]; exact List.mem_append_left _ hx
      exact splitAt_mem_len this) (by omega) h3).trans ?_
  rw [← h2]
  cases hp : procS 0 0 noM (splitAt 10 text) with
  | inl j => rfl
  | inr m =>
    simp only
    rw [R_Check_eq m (proc_fit text (by omega) hp), call_some]
    cases decide (checkE m = 0) <;> rfl
/-! ### the law -/
theorem same_loop {α : Type} (l : List α) (q : α → α → Bool) (hq : ∀ x, q x x = true) : ∀ (r : List α) (i : Nat), l.drop i = r → forL r i (fun i x (_ : Unit) nx (_ : Unit → Option Bool) => idx l (i : Int) fun y => bif !q x y then some false else nx ()) () (fun _ => some true) = some true
  | [], i, _ => rfl
  | x :: r, i, hd => by
    have hi : i < l.length := by
      rcases Nat.lt_or_ge i l.length with h | h
      · exact h
      · rw [List.drop_eq_nil_of_le h] at hd; cases hd
    have hx : l[i] = x := by
      have := List.drop_eq_getElem_cons hi
      rw [hd] at this
      exact (List.cons.inj this).1.symm
    have hd' : l.drop (i + 1) = r := by
      have := congrArg List.tail hd
      simpa using this
    unfold forL
    simp only [idx_eq hi, hx, hq, Bool.not_true, cond_false]
    exact same_loop l q hq r (i + 1) hd'
theorem same_set (l : List api_Setting) : slices_Equal_api_Setting_api_Setting l l = some true := by
  unfold slices_Equal_api_Setting_api_Setting
  rw [decide_eq_true rfl]
  exact same_loop l (fun a b => decide (a.Key = b.Key) && decide (a.Value = b.Value)) (fun x => by simp) l 0 rfl
theorem same_file (l : List api_File) : slices_Equal_api_File_api_File l l = some true := by
  unfold slices_Equal_api_File_api_File
  rw [decide_eq_true rfl]
  exact same_loop l (fun a b => decide (a.Path = b.Path) && (decide (a.Data = b.Data) && decide (a.Runs = b.Runs))) (fun x => by simp) l 0 rfl
theorem same_svc (l : List api_Service) : slices_Equal_api_Service_api_Service l l = some true := by
  unfold slices_Equal_api_Service_api_Service
  rw [decide_eq_true rfl]
  exact same_loop l (fun a b => decide (a.Name = b.Name) && (decide (a.Path = b.Path) && (decide (a.Auto = b.Auto) && decide (a.On = b.On)))) (fun x => by simp) l 0 rfl
theorem same_mach (m : api_Machine) : R_Same m m = some true := by
  unfold R_Same
  rw [same_set, same_file, same_set, same_svc]
  rfl
theorem law_mp (text : Str) (ht : text.length ≤ 4194304) : Law_MachinesParse text = some true := by
  unfold Law_MachinesParse
  rw [show Law_landed = some true from rfl, call_some, disk_Parse_eq text ht, R_Parse_eq text ht]
  simp only [Bool.not_true, cond_false, call_some, decide_true, Bool.and_self, Bool.true_and, callG_true, same_mach]
end Go.Md
